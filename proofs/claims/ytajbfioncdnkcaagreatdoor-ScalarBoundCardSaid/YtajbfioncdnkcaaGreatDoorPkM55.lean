/- Lemmas for the proofs of chapter 11. -/
import Derived.Test.YtajbfioncdnkcaaGreatDoorProg
import Derived.BigQuiet
import Derived.Deep.Cut
import Derived.Deep.QuietTactic
import Derived.Laws.StructEq
import Derived.Lib.AppendStr
import Derived.Lib.Builder
import Derived.Lib.Hide
import Derived.Lib.ItoaLen
import Derived.Maps.OwnOps
import Derived.Maps.OwnSet
import Derived.OrdersHeld
import Derived.Outline
import Derived.StillTailTactics
import Derived.StringKeys
import Derived.WalkKit
import Derived.WalkLawsBesides
import Derived.WalkSpells
import Derived.Deep.RegionHeld
import Derived.RangeFuncNested
import Derived.RangeFuncBound
import Derived.RangeFuncCalls
import Derived.RangeFuncLeaves
import Derived.OwnWalkIn
import Derived.TacticsInMore
import Derived.LoopNIn
import Derived.LoopIn
import Derived.Shelf.Strings.Builder1
import Derived.Shelf.Small.Wraps
import Derived.Shelf.LaysM
import Derived.Shelf.Strconv.Itoa3
import Derived.Shelf.SlSortCmp.WholeK
import Derived.Laws.EntriesVeiled
import Derived.Laws.CopyOwn
import Derived.RegionTactic
import Derived.Shelf.Spec.SlicesGrow
import Derived.ChangeAlike
import Derived.Test.YtajbfioncdnkcaaGreatDoorZz
import Derived.Test.YtajbfioncdnkcaaGreatDoorPkM3
import Derived.Test.YtajbfioncdnkcaaGreatDoorPkM4
import Derived.Test.YtajbfioncdnkcaaGreatDoorPkM51
import Derived.Test.YtajbfioncdnkcaaGreatDoorPkM32
import Derived.Test.YtajbfioncdnkcaaGreatDoorPkM1
import Derived.Test.YtajbfioncdnkcaaGreatDoorPkM34
import Derived.Test.YtajbfioncdnkcaaGreatDoorPkM2
import Derived.Test.YtajbfioncdnkcaaGreatDoorPkM8
import Derived.Test.YtajbfioncdnkcaaGreatDoorPkM19
import Derived.Test.YtajbfioncdnkcaaGreatDoorPkM27
import Derived.Test.YtajbfioncdnkcaaGreatDoorPkM41
import Derived.Test.YtajbfioncdnkcaaGreatDoorPkM7
import Derived.Test.YtajbfioncdnkcaaGreatDoorPkM33
import Derived.Test.YtajbfioncdnkcaaGreatDoorPkM52
import Derived.Test.YtajbfioncdnkcaaGreatDoorPkM6
import Derived.Test.YtajbfioncdnkcaaGreatDoorPkM20
import Derived.Test.YtajbfioncdnkcaaGreatDoorPkM9
import Derived.Test.YtajbfioncdnkcaaGreatDoorPkM35
import Derived.Test.YtajbfioncdnkcaaGreatDoorPkM5
import Derived.Test.YtajbfioncdnkcaaGreatDoorPkM42
import Derived.Test.YtajbfioncdnkcaaGreatDoorPkM10
import Derived.Test.YtajbfioncdnkcaaGreatDoorPkM11
import Derived.Test.YtajbfioncdnkcaaGreatDoorPkM43
import Derived.Test.YtajbfioncdnkcaaGreatDoorPkM21
import Derived.Test.YtajbfioncdnkcaaGreatDoorPkM16
import Derived.Test.YtajbfioncdnkcaaGreatDoorPkM44
import Derived.Test.YtajbfioncdnkcaaGreatDoorPkM45
import Derived.Test.YtajbfioncdnkcaaGreatDoorPkM53
import Derived.Test.YtajbfioncdnkcaaGreatDoorPkM12
import Derived.Test.YtajbfioncdnkcaaGreatDoorPkM54
set_option maxRecDepth 100000
set_option maxHeartbeats 16000000
namespace Cl
open Go Go.RowKit Go.Proofs
theorem iB (vi vf vt:Value) (s:RS) (m:Mem) (w:World) (hm:m.inn w) (htab:TabM m) (hs:ScAt m vi vf vt s) (hl:ScLe s 100000 1000000) :
 Calls Tryz.prog 79 #[s.val vi vf vt] w fun e w'=>∃ui uf ut,e=.returned ((bU s).val ui uf ut)∧Below w.heap.size w w'∧ScAt (m.grow w w') ui uf ut (bU s):=by
 have hO:=((Own.start hm).al #[.bool s.nul,.bool s.fal,.bool s.tru,vi,vf,vt] 29).al #[.bool false,.bool false,.bool false,.slice none 0 0,.slice none 0 0,.slice none 0 0] 29;simp only[df] at hO;have HV:=zh (wS vi vf vt s m _ hO.inn htab hs hl);have HG:=zh (zi (fun h:s.gK=>jJ h) (fun h:¬ s.gK=>zL h));have HS:=zh hs;obtain⟨a1,b1,a2,b2,a3,b3,rfl,rfl,rfl⟩:=hs.spell;unfold RS.val at HV ⊢;have HO:=zh hO;clear hO hs;refine aj fun R hR=>?_
 go_enter Tryz.func79,Tryz.ntmps79
 go_wp2_with fail
 refine HV.out.mono ?_;rintro e w1 ⟨rfl,hb1⟩;have hO:=HO.out.move hb1;clear HV HO hb1;obtain⟨g0,g1,g2,g3,g4,g5,f0,f1,f2,f3,f4,f5⟩:=hO.obj.cf6;have gl:=hO.obj.lt;by_cases hv:s.gK
 ·rw[aN hv];obtain⟨q0,q1,q2,q3,q4,q5⟩:=hO.swap.obj.cs6;have ql:=hO.swap.obj.lt;have hO2:=(((((hO.set 0 (.bool s.nul)).set 1 (.bool s.fal)).set 2 (.bool s.tru)).set 3 (.slice a1 s.i.length b1)).set 4 (.slice a2 s.f.length b2)).set 5 (.slice a3 s.t.length b3);obtain⟨k0,k1,k2,k3,k4,k5⟩:=hO2.obj.cs6;have Hk:=zh (zi hO2.below (zi (HS.out.le hO2.done) (HG.out.1 hv)));clear hO hO2 HG hv;go_wp2;refine bodyPost_ret (v:=.agg #[.bool s.nul,.bool s.fal,.bool s.tru,.slice a1 s.i.length b1,.slice a2 s.f.length b2,.slice a3 s.t.length b3]) (by simp[results,Tryz.results79,go_sem,k0,k1,k2,k3,k4,k5]) rfl ?_;exact hR.out _ _ ⟨_,_,_,by rw[Hk.out.2.2],Hk.out.1,by rw[Hk.out.2.2];exact Hk.out.2.1⟩
 ·rw[aL hv];have hO2:=(((((hO.set 0 (.bool false)).set 1 (.bool false)).set 2 (.bool false)).set 3 (.slice none 0 0)).set 4 (.slice none 0 0)).set 5 (.slice none 0 0);obtain⟨k0,k1,k2,k3,k4,k5⟩:=hO2.obj.cs6;have Hk:=zh (zi hO2.below (HG.out.2 hv));clear hO hO2 HG hv;go_wp2;refine bodyPost_ret (v:=.agg #[.bool false,.bool false,.bool false,.slice none 0 0,.slice none 0 0,.slice none 0 0]) (by simp[results,Tryz.results79,go_sem,k0,k1,k2,k3,k4,k5]) rfl ?_;exact hR.out _ _ ⟨_,_,_,by rw[Hk.out.2];rfl,Hk.out.1,by rw[Hk.out.2];exact ScAt.empty _⟩
theorem qj (vi vf vt:Value) (A:RS) (ui uf ut:Value) (B:RS) (na ta nb tb:Nat) (m:Mem) (w:World) (hm:m.inn w) (htab:TabM m) (ha:ScAt m vi vf vt A) (hb:ScAt m ui uf ut B) (la:ScLe A na ta) (lb:ScLe B nb tb) (hn1:na≤250) (hn2:nb≤250) (ht:(ta+2)*(tb+2)≤1000000) :
 Calls Tryz.prog 35 #[A.val vi vf vt,B.val ui uf ut] w fun e w'=>∃s si sf st,e=.returned (s.val si sf st)∧Below w.heap.size w w'∧ScAt (m.grow w w') si sf st s∧ScIs (fun e=>(bU A).has e∧¬ (bU B).has e) s∧ScLe s (na+nb+4) ((ta+2)*(tb+2)+1):=by
 have hta:ta+2≤(ta+2)*(tb+2):=Nat.le_mul_of_pos_right _ zo;have htb:tb+2≤(ta+2)*(tb+2):=Nat.le_mul_of_pos_left _ zo;have hO:=(((Own.start hm).al #[.bool A.nul,.bool A.fal,.bool A.tru,vi,vf,vt] 29).al #[.bool B.nul,.bool B.fal,.bool B.tru,ui,uf,ut] 29).al #[.bool false,.bool false,.bool false,.slice none 0 0,.slice none 0 0,.slice none 0 0] 29;simp only[df] at hO;have HGA:=zh (fun w' (h:m.inn w')=>iB vi vf vt A m w' h htab ha (la.mono zo zo));have HGB:=zh (fun w' (h:m.inn w')=>iB ui uf ut B m w' h htab hb (lb.mono zo zo));have lx:=kE la;have ly:=kE lb;obtain⟨aa,ab,ac,ad,ae,af,rfl,rfl,rfl⟩:=ha.spell;obtain⟨ba,bb,bc,bd,be,bf,rfl,rfl,rfl⟩:=hb.spell;unfold RS.val at HGA HGB ⊢;have HO:=zh hO;clear hO ha hb la lb hta htb;generalize bU A=x at *
 generalize bU B=y at *
 refine aj fun R hR=>?_
 go_enter Tryz.func35,Tryz.ntmps35
 go_upto_region 1 with (fail)
 refine aA [4,5,6] (fun vs w'=>∃(mk:Mem) (g5 g6:Nat) (xa xc xe ya yc ye:Option Addr) (xb xd xf yb yd yf:Nat),vs=[.pointer (some ⟨w.heap.size+1+1,0,none⟩),.pointer (some ⟨g5,0,none⟩),.pointer (some ⟨g6,0,none⟩)] ∧
  ScAt mk (.slice xa x.i.length xb) (.slice xc x.f.length xd) (.slice xe x.t.length xf) x∧ScAt mk (.slice ya y.i.length yb) (.slice yc y.f.length yd) (.slice ye y.t.length yf) y∧m.le mk ∧
  Own w m w' mk [.obj g6 29 #[.bool y.nul,.bool y.fal,.bool y.tru,.slice ya y.i.length yb,.slice yc y.f.length yd,.slice ye y.t.length yf],.obj g5 29 #[.bool x.nul,.bool x.fal,.bool x.tru,.slice xa x.i.length xb,.slice xc x.f.length xd,.slice xe x.t.length xf],.obj (w.heap.size+1+1) 29 #[.bool false,.bool false,.bool false,.slice none 0 0,.slice none 0 0,.slice none 0 0]]) ?_ ?_
 ·intro X hX;refine aM 6 5 (fun j=>[Fact.is (·=.agg #[.bool A.nul,.bool A.fal,.bool A.tru,.slice aa A.i.length ab,.slice ac A.f.length ad,.slice ae A.t.length af]),Fact.mem m [1] (ScV x),Fact.is (·=.agg #[.bool B.nul,.bool B.fal,.bool B.tru,.slice ba B.i.length bb,.slice bc B.f.length bd,.slice be B.t.length bf]),Fact.mem m [3] (ScV y),Fact.obj 4 29 #[.bool false,.bool false,.bool false,.slice none 0 0,.slice none 0 0,.slice none 0 0],Fact.obj 5 29 #[.bool false,.bool false,.bool false,.slice none 0 0,.slice none 0 0,.slice none 0 0]].getD j Fact.any) zk zk ?_ ?_
  ·intro i hi o win a wr ho RA;have HO2:=HO.out.dr.move RA.below;obtain⟨p0,p1,p2,p3,p4,p5⟩:=HO2.third.obj.cs6;have pl:=HO2.third.obj.lt;obtain⟨q0,q1,q2,q3,q4,q5⟩:=HO2.swap.obj.cs6;have ql:=HO2.swap.obj.lt;rcases (show i=0∨i=1∨i=2∨i=3∨i=4∨i=5 by omega) with rfl | rfl | rfl | rfl | rfl | rfl
   ·have e2:=RA.k 2;cases ho;exact wv rfl rfl rfl
   ·have e7:a.tmps.getD 7 undef=_:=RA.d 0 rfl;cases ho;refine we rfl rfl (HGA.out wr HO2.inn) ?_;rintro e w' ⟨ri,rf,rt,rfl,hb,hn⟩;exact⟨_,rfl,_,rfl,hb,bH ScV.le HO2.inn hb (qh hn)⟩
   ·have e3:=RA.k 3;cases ho;exact wv rfl rfl rfl
   ·have e9:a.tmps.getD 9 undef=_:=RA.d 2 rfl;cases ho;refine we rfl rfl (HGB.out wr HO2.inn) ?_;rintro e w' ⟨ri,rf,rt,rfl,hb,hn⟩;exact⟨_,rfl,_,rfl,hb,bH ScV.le HO2.inn hb (qh hn)⟩
   ·cases ho;exact aB rfl rfl (aD zg ⟨_,rfl,aP (Below.refl _ _) _,lI win⟩)
   ·cases ho;exact aB rfl rfl (aD zg ⟨_,rfl,aP (Below.refl _ _) _,lI win⟩)
  ·intro win a wr E;have e4:=E.keep 4 zk;have e5:(Fact.obj 4 29 #[.bool false,.bool false,.bool false,.slice none 0 0,.slice none 0 0,.slice none 0 0]).holds (a.tmps.getD 5 undef) win wr:=E.fact 4 _ zo rfl;have e6:(Fact.obj 5 29 #[.bool false,.bool false,.bool false,.slice none 0 0,.slice none 0 0,.slice none 0 0]).holds (a.tmps.getD 6 undef) win wr:=E.fact 5 _ zo rfl;have e8:(Fact.mem m [1] (ScV x)).holds (a.tmps.getD 8 undef) win wr:=E.fact 1 _ zo rfl;have e10:(Fact.mem m [3] (ScV y)).holds (a.tmps.getD 10 undef) win wr:=E.fact 3 _ zo rfl;obtain⟨xa,xb,xc,xd,xe,xf,k1,st1⟩:ScV _ _ _:=e8;obtain⟨ya,yb,yc,yd,ye,yf,k2,st2⟩:ScV _ _ _:=e10;obtain⟨p1,n1,o1⟩:_∧_∧_:=e5;obtain⟨p2,n2,o2⟩:_∧_∧_:=e6;have g1:=E.rng 4 zo;have g2:=E.rng 5 zo;have far:∀j,j=4∨j=5→∀d∈[1,3],¬ ((win d).1≤(win j).1∧(win j).1<(win d).2):=by
    intro j hj d hd;have hd':d=1∨d=3:=by simpa using hd
    have:=E.apart j d zo zo zo;have:(win j).2=(win j).1+1:=by rcases hj with rfl | rfl <;> assumption
    omega
   have hmw:=(HO.out.dr.move E.below).inn;have hO1:=HO.out.dr.region E.below win [1,3] (fun d hd=>(E.rng d (by simp at hd;omega)).1);have hge:=HO.out.dr.below.size;have no:∀j,j=4∨j=5→m.wins wr win [1,3] (win j).1=none:=fun j hj=>
    Mem.lD (Mem.fe HO.out.dr.inn (E.rng j zo).1) (far j hj)
   have hL1:=HO.out.dr.kP g1.1;have hL2:=HO.out.dr.kP g2.1;have a12:=E.apart 4 5 zo zo zo;have hO2:=hO1.newObj o1 zo (no 4 zo) hL1;have hO2:=hO2.newObj o2 zo (no 5 zo) (mE zo hL2);have st1:=st1.le (Mem.cO (es:=[1,3]) hmw win zS);have st2:=st2.le (Mem.cO (es:=[1,3]) hmw win zS);have hle:=Mem.dw hmw win [1,3];have HK:=zh (zi st1 (zi st2 hle));have hne:(win 4).1≠(win 5).1:=zo;have hne2:(win 5).1≠(win 4).1:=zo;have HE:=zh E;generalize m.wins wr win [1,3]=mk2 at *
   generalize (win 4).1=gx at *
   generalize (win 5).1=gy at *
   clear st1 st2 hle hmw hL1 hL2 no far hO1 a12 g1 g2 o1 o2 n1 n2 hge E;obtain⟨p0,p1,p2,p3,p4,p5,pf0,pf1,pf2,pf3,pf4,pf5⟩:=hO2.swap.obj.cf6;have pl:=hO2.swap.obj.lt;have hO3:=((((((hO2.swap.set 0 (.bool x.nul)).set 1 (.bool x.fal)).set 2 (.bool x.tru)).set 3 (.slice xa x.i.length xb)).set 4 (.slice xc x.f.length xd)).set 5 (.slice xe x.t.length xf));refine bR 6 zk (aB rfl rfl (aS zg ?_));obtain⟨q0,q1,q2,q3,q4,q5,qf0,qf1,qf2,qf3,qf4,qf5⟩:=hO3.swap.obj.cf6;have ql:=hO3.swap.obj.lt;have HO4:=zh ((((((hO3.swap.set 0 (.bool y.nul)).set 1 (.bool y.fal)).set 2 (.bool y.tru)).set 3 (.slice ya y.i.length yb)).set 4 (.slice yc y.f.length yd)).set 5 (.slice ye y.t.length yf));clear hO2 hO3;refine bR 7 zk (aB rfl rfl (aS zg ?_));obtain⟨t,d⟩:=a;obtain rfl:d=[]:=HE.out.defers;refine aV zk (hX.out _ _ HE.out.size ⟨mk2,gx,gy,xa,xc,xe,ya,yc,ye,xb,xd,xf,yb,yd,yf,?_,HK.out.1,HK.out.2.1,HK.out.2.2,HO4.out.FN.FN⟩) _;simp only[List.map_cons,List.map_nil,e4,p1,p2]
   rfl
 rintro z2 vs w2 - ⟨mk,g5,g6,xa,xc,xe,ya,yc,ye,xb,xd,xf,yb,yd,yf,rfl,hx,hy,hle,hO⟩;simp[litL,lk];have HX:=zh (zi hx hy);have HO2:=zh hO;have HL:=zh (zi lx ly);have hmul:(x.t.length+2)*(y.t.length+2)≤(ta+2)*(tb+2):=Nat.mul_le_mul (Nat.add_le_add_right lx.t 2) (Nat.add_le_add_right ly.t 2);have hF:Fits x.t y.t:=Fits.of lx.t ly.t ht;have HF:=zh hF;have hli:=lx.i;have hlf:=lx.f;have hli2:=ly.i;have hlf2:=ly.f;have hNl:=uH (fF hli hlf) (fF hli2 hlf2);have hN1:=hNl.i;have hN2:=hNl.f;rw[← NS.ky] at hN2;clear hO hx hy hle HO HGA HGB lx ly hF hNl
 go_upto_region 2 with (fail)
 refine aA [4] (fun vs w'=>∃(mk':Mem) (s:RS) (ra rc re:Option Addr) (rb rd rf:Nat),vs=[.pointer (some ⟨w.heap.size+1+1,0,none⟩)] ∧
  ScAt mk' (.slice ra s.i.length rb) (.slice rc s.f.length rd) (.slice re s.t.length rf) s∧ScIs (fun e=>x.has e∧¬ y.has e) s∧ScLe s (na+nb+4) ((ta+2)*(tb+2)+1) ∧
  Own w m w' mk' [.obj (w.heap.size+1+1) 29 #[.bool s.nul,.bool s.fal,.bool s.tru,.slice ra s.i.length rb,.slice rc s.f.length rd,.slice re s.t.length rf]]) ?_ ?_
 ·intro X hX;refine aM 32 6 (fun j=>[Fact.is (·=.pointer (some ⟨g5,0,none⟩)),Fact.is (·=.bool x.nul),Fact.is (·=.bool x.nul),Fact.is (fun v=>x.nul=true→v=.pointer (some ⟨g6,0,none⟩)),Fact.is (fun v=>x.nul=true→v=.bool y.nul),Fact.is (fun v=>x.nul=true→v=.bool (!y.nul)),Fact.is (·=.bool (x.nul && !y.nul)),Fact.is (·=.pointer (some ⟨g5,1,none⟩)),Fact.is (·=.bool x.fal),Fact.is (·=.bool x.fal),Fact.is (fun v=>x.fal=true→v=.pointer (some ⟨g6,1,none⟩)),Fact.is (fun v=>x.fal=true→v=.bool y.fal),Fact.is (fun v=>x.fal=true→v=.bool (!y.fal)),Fact.is (·=.bool (x.fal && !y.fal)),Fact.is (·=.pointer (some ⟨g5,2,none⟩)),Fact.is (·=.bool x.tru),Fact.is (·=.bool x.tru),Fact.is (fun v=>x.tru=true→v=.pointer (some ⟨g6,2,none⟩)),Fact.is (fun v=>x.tru=true→v=.bool y.tru),Fact.is (fun v=>x.tru=true→v=.bool (!y.tru)),Fact.is (·=.bool (x.tru && !y.tru)),Fact.is (·=.pointer (some ⟨g5,3,none⟩)),Fact.is (·=.agg #[.slice xa x.i.length xb,.slice xc x.f.length xd]),Fact.is (·=.pointer (some ⟨g6,3,none⟩)),Fact.is (·=.agg #[.slice ya y.i.length yb,.slice yc y.f.length yd]),Fact.mem mk [25] (NumV (eT x.ns y.ns).i (eT x.ns y.ns).rf),Fact.is (·=.pointer (some ⟨g5,5,none⟩)),Fact.is (·=.agg #[.slice xe x.t.length xf]),Fact.is (·=.pointer (some ⟨g6,5,none⟩)),Fact.is (·=.agg #[.slice ye y.t.length yf]),Fact.mem mk [30] (vF (fun z=>Sem x.t z && !Sem y.t z) ((ta+2)*(tb+2)+1)),Fact.mem mk [25,30] (ScRV (fun e=>x.has e∧¬ y.has e) (na+nb+4) ((ta+2)*(tb+2)+1))].getD j Fact.any) zk zk ?_ ?_
  ·intro i hi o win a wr ho RA;have HO3:=HO2.out.dr.move RA.below;obtain⟨p0,p1,p2,p3,p4,p5⟩:=HO3.swap.obj.cs6;have pl:=HO3.swap.obj.lt;obtain⟨q0,q1,q2,q3,q4,q5⟩:=HO3.obj.cs6;have ql:=HO3.obj.lt;rcases (show i=0∨i=1∨i=2∨i=3∨i=4∨i=5∨i=6∨i=7∨i=8∨i=9∨i=10∨i=11∨i=12∨i=13∨i=14∨i=15∨i=16∨i=17∨i=18∨i=19∨i=20∨i=21∨i=22∨i=23∨i=24∨i=25∨i=26∨i=27∨i=28∨i=29∨i=30∨i=31 by omega) with rfl | rfl | rfl | rfl | rfl | rfl | rfl | rfl | rfl | rfl | rfl | rfl | rfl | rfl | rfl | rfl | rfl | rfl | rfl | rfl | rfl | rfl | rfl | rfl | rfl | rfl | rfl | rfl | rfl | rfl | rfl | rfl
   ·have e5:=RA.k 5;cases ho;exact wv rfl rfl rfl
   ·have e11:a.tmps.getD 11 undef=_:=RA.d 0 rfl;cases ho;exact wv rfl rfl rfl
   ·have e12:a.tmps.getD 12 undef=_:=RA.d 1 rfl;cases ho;exact wv rfl rfl rfl
   ·have e6:=RA.k 6;have e13:a.tmps.getD 13 undef=_:=RA.d 2 rfl;cases ho;rcases Bool.eq_false_or_eq_true x.nul with hb | hb
    ·rw[hb] at e13;exact dU rfl (dA rfl rfl e13) (aD zg ⟨_,rfl,Below.refl _ _,fun _=>rfl⟩)
    ·rw[hb] at e13;exact gH rfl (eF rfl rfl e13 rfl) ⟨_,rfl,Below.refl _ _,fun h=>absurd (h.symm.trans hb) zD⟩
   ·have e14:(Fact.is (fun v=>x.nul=true→v=.pointer (some ⟨g6,0,none⟩))).holds (a.tmps.getD 14 undef) win wr:=RA.d 3 rfl;have e13:a.tmps.getD 13 undef=_:=RA.d 2 rfl;cases ho;rcases Bool.eq_false_or_eq_true x.nul with hb | hb
    ·rw[hb] at e13;replace e14:a.tmps.getD 14 undef=_:=e14 hb;exact dU rfl (dA rfl rfl e13) (aD zg ⟨_,rfl,Below.refl _ _,fun _=>rfl⟩)
    ·rw[hb] at e13;exact gH rfl (eF rfl rfl e13 rfl) ⟨_,rfl,Below.refl _ _,fun h=>absurd (h.symm.trans hb) zD⟩
   ·have e15:(Fact.is (fun v=>x.nul=true→v=.bool y.nul)).holds (a.tmps.getD 15 undef) win wr:=RA.d 4 rfl;have e13:a.tmps.getD 13 undef=_:=RA.d 2 rfl;cases ho;rcases Bool.eq_false_or_eq_true x.nul with hb | hb
    ·rw[hb] at e13;replace e15:a.tmps.getD 15 undef=_:=e15 hb;exact dU rfl (dA rfl rfl e13) (aD zg ⟨_,rfl,Below.refl _ _,fun _=>rfl⟩)
    ·rw[hb] at e13;exact gH rfl (eF rfl rfl e13 rfl) ⟨_,rfl,Below.refl _ _,fun h=>absurd (h.symm.trans hb) zD⟩
   ·have e13:a.tmps.getD 13 undef=_:=RA.d 2 rfl;have e16:(Fact.is (fun v=>x.nul=true→v=.bool (!y.nul))).holds (a.tmps.getD 16 undef) win wr:=RA.d 5 rfl;cases ho;rcases Bool.eq_false_or_eq_true x.nul with hb | hb
    ·rw[hb] at e13;replace e16:a.tmps.getD 16 undef=_:=e16 hb;exact aB rfl rfl (aD zg ⟨_,rfl,Below.refl _ _,by show _=Value.bool (x.nul && !y.nul);rw[hb];rfl⟩)
    ·rw[hb] at e13;exact aB rfl rfl (aD zg ⟨_,rfl,Below.refl _ _,by show _=Value.bool (x.nul && !y.nul);rw[hb];rfl⟩)
   ·have e5:=RA.k 5;cases ho;exact wv rfl rfl rfl
   ·have e18:a.tmps.getD 18 undef=_:=RA.d 7 rfl;cases ho;exact wv rfl rfl rfl
   ·have e19:a.tmps.getD 19 undef=_:=RA.d 8 rfl;cases ho;exact wv rfl rfl rfl
   ·have e6:=RA.k 6;have e20:a.tmps.getD 20 undef=_:=RA.d 9 rfl;cases ho;rcases Bool.eq_false_or_eq_true x.fal with hb | hb
    ·rw[hb] at e20;exact dU rfl (dA rfl rfl e20) (aD zg ⟨_,rfl,Below.refl _ _,fun _=>rfl⟩)
    ·rw[hb] at e20;exact gH rfl (eF rfl rfl e20 rfl) ⟨_,rfl,Below.refl _ _,fun h=>absurd (h.symm.trans hb) zD⟩
   ·have e21:(Fact.is (fun v=>x.fal=true→v=.pointer (some ⟨g6,1,none⟩))).holds (a.tmps.getD 21 undef) win wr:=RA.d 10 rfl;have e20:a.tmps.getD 20 undef=_:=RA.d 9 rfl;cases ho;rcases Bool.eq_false_or_eq_true x.fal with hb | hb
    ·rw[hb] at e20;replace e21:a.tmps.getD 21 undef=_:=e21 hb;exact dU rfl (dA rfl rfl e20) (aD zg ⟨_,rfl,Below.refl _ _,fun _=>rfl⟩)
    ·rw[hb] at e20;exact gH rfl (eF rfl rfl e20 rfl) ⟨_,rfl,Below.refl _ _,fun h=>absurd (h.symm.trans hb) zD⟩
   ·have e22:(Fact.is (fun v=>x.fal=true→v=.bool y.fal)).holds (a.tmps.getD 22 undef) win wr:=RA.d 11 rfl;have e20:a.tmps.getD 20 undef=_:=RA.d 9 rfl;cases ho;rcases Bool.eq_false_or_eq_true x.fal with hb | hb
    ·rw[hb] at e20;replace e22:a.tmps.getD 22 undef=_:=e22 hb;exact dU rfl (dA rfl rfl e20) (aD zg ⟨_,rfl,Below.refl _ _,fun _=>rfl⟩)
    ·rw[hb] at e20;exact gH rfl (eF rfl rfl e20 rfl) ⟨_,rfl,Below.refl _ _,fun h=>absurd (h.symm.trans hb) zD⟩
   ·have e20:a.tmps.getD 20 undef=_:=RA.d 9 rfl;have e23:(Fact.is (fun v=>x.fal=true→v=.bool (!y.fal))).holds (a.tmps.getD 23 undef) win wr:=RA.d 12 rfl;cases ho;rcases Bool.eq_false_or_eq_true x.fal with hb | hb
    ·rw[hb] at e20;replace e23:a.tmps.getD 23 undef=_:=e23 hb;exact aB rfl rfl (aD zg ⟨_,rfl,Below.refl _ _,by show _=Value.bool (x.fal && !y.fal);rw[hb];rfl⟩)
    ·rw[hb] at e20;exact aB rfl rfl (aD zg ⟨_,rfl,Below.refl _ _,by show _=Value.bool (x.fal && !y.fal);rw[hb];rfl⟩)
   ·have e5:=RA.k 5;cases ho;exact wv rfl rfl rfl
   ·have e25:a.tmps.getD 25 undef=_:=RA.d 14 rfl;cases ho;exact wv rfl rfl rfl
   ·have e26:a.tmps.getD 26 undef=_:=RA.d 15 rfl;cases ho;exact wv rfl rfl rfl
   ·have e6:=RA.k 6;have e27:a.tmps.getD 27 undef=_:=RA.d 16 rfl;cases ho;rcases Bool.eq_false_or_eq_true x.tru with hb | hb
    ·rw[hb] at e27;exact dU rfl (dA rfl rfl e27) (aD zg ⟨_,rfl,Below.refl _ _,fun _=>rfl⟩)
    ·rw[hb] at e27;exact gH rfl (eF rfl rfl e27 rfl) ⟨_,rfl,Below.refl _ _,fun h=>absurd (h.symm.trans hb) zD⟩
   ·have e28:(Fact.is (fun v=>x.tru=true→v=.pointer (some ⟨g6,2,none⟩))).holds (a.tmps.getD 28 undef) win wr:=RA.d 17 rfl;have e27:a.tmps.getD 27 undef=_:=RA.d 16 rfl;cases ho;rcases Bool.eq_false_or_eq_true x.tru with hb | hb
    ·rw[hb] at e27;replace e28:a.tmps.getD 28 undef=_:=e28 hb;exact dU rfl (dA rfl rfl e27) (aD zg ⟨_,rfl,Below.refl _ _,fun _=>rfl⟩)
    ·rw[hb] at e27;exact gH rfl (eF rfl rfl e27 rfl) ⟨_,rfl,Below.refl _ _,fun h=>absurd (h.symm.trans hb) zD⟩
   ·have e29:(Fact.is (fun v=>x.tru=true→v=.bool y.tru)).holds (a.tmps.getD 29 undef) win wr:=RA.d 18 rfl;have e27:a.tmps.getD 27 undef=_:=RA.d 16 rfl;cases ho;rcases Bool.eq_false_or_eq_true x.tru with hb | hb
    ·rw[hb] at e27;replace e29:a.tmps.getD 29 undef=_:=e29 hb;exact dU rfl (dA rfl rfl e27) (aD zg ⟨_,rfl,Below.refl _ _,fun _=>rfl⟩)
    ·rw[hb] at e27;exact gH rfl (eF rfl rfl e27 rfl) ⟨_,rfl,Below.refl _ _,fun h=>absurd (h.symm.trans hb) zD⟩
   ·have e27:a.tmps.getD 27 undef=_:=RA.d 16 rfl;have e30:(Fact.is (fun v=>x.tru=true→v=.bool (!y.tru))).holds (a.tmps.getD 30 undef) win wr:=RA.d 19 rfl;cases ho;rcases Bool.eq_false_or_eq_true x.tru with hb | hb
    ·rw[hb] at e27;replace e30:a.tmps.getD 30 undef=_:=e30 hb;exact aB rfl rfl (aD zg ⟨_,rfl,Below.refl _ _,by show _=Value.bool (x.tru && !y.tru);rw[hb];rfl⟩)
    ·rw[hb] at e27;exact aB rfl rfl (aD zg ⟨_,rfl,Below.refl _ _,by show _=Value.bool (x.tru && !y.tru);rw[hb];rfl⟩)
   ·have e5:=RA.k 5;cases ho;exact wv rfl rfl rfl
   ·have e32:a.tmps.getD 32 undef=_:=RA.d 21 rfl;cases ho;exact wv rfl rfl rfl
   ·have e6:=RA.k 6;cases ho;exact wv rfl rfl rfl
   ·have e34:a.tmps.getD 34 undef=_:=RA.d 23 rfl;cases ho;exact wv rfl rfl rfl
   ·have e33:a.tmps.getD 33 undef=_:=RA.d 22 rfl;have e35:a.tmps.getD 35 undef=_:=RA.d 24 rfl;cases ho;refine we rfl rfl (qm _ _ x.i x.f _ _ y.i y.f mk wr HO3.inn HX.out.1.nums HX.out.2.nums zo zo zo zo) ?_;rintro e w' ⟨ri,rf,rfl,hb,hn⟩;exact⟨_,rfl,_,rfl,hb,bH NumV.le HO3.inn hb (iD hn)⟩
   ·have e5:=RA.k 5;cases ho;exact wv rfl rfl rfl
   ·have e37:a.tmps.getD 37 undef=_:=RA.d 26 rfl;cases ho;exact wv rfl rfl rfl
   ·have e6:=RA.k 6;cases ho;exact wv rfl rfl rfl
   ·have e39:a.tmps.getD 39 undef=_:=RA.d 28 rfl;cases ho;exact wv rfl rfl rfl
   ·have e38:a.tmps.getD 38 undef=_:=RA.d 27 rfl;have e40:a.tmps.getD 40 undef=_:=RA.d 29 rfl;cases ho;refine we rfl rfl (xg _ _ x.t y.t mk wr HO3.inn HX.out.1.t HX.out.2.t HF.out) ?_;rintro e w' ⟨r,C,rfl,hb,hst,hl,hn⟩;exact⟨_,rfl,_,rfl,hb,xW HO3.inn hb hst hl zo⟩
   ·have e17:a.tmps.getD 17 undef=_:=RA.d 6 rfl;have e24:a.tmps.getD 24 undef=_:=RA.d 13 rfl;have e31:a.tmps.getD 31 undef=_:=RA.d 20 rfl;have e36:(Fact.mem mk [25] (NumV (eT x.ns y.ns).i (eT x.ns y.ns).rf)).holds (a.tmps.getD 36 undef) win wr:=RA.d 25 rfl;have e41:(Fact.mem mk [30] (vF (fun z=>Sem x.t z && !Sem y.t z) ((ta+2)*(tb+2)+1))).holds (a.tmps.getD 41 undef) win wr:=RA.d 30 rfl;have f17:=(Array.getD_eq_getD_getElem? (xs:=a.tmps) (i:=17) (d:=undef)).symm.trans e17;have f24:=(Array.getD_eq_getD_getElem? (xs:=a.tmps) (i:=24) (d:=undef)).symm.trans e24;have f31:=(Array.getD_eq_getD_getElem? (xs:=a.tmps) (i:=31) (d:=undef)).symm.trans e31;cases ho;obtain⟨r1,s1,r2,s2,k1,t1⟩:NumV _ _ _ _:=e36;obtain⟨r3,s3,C,k2,t2,l2,n2⟩:vF _ _ _ _:=e41;have f36:=(Array.getD_eq_getD_getElem? (xs:=a.tmps) (i:=36) (d:=undef)).symm.trans k1;have f41:=(Array.getD_eq_getD_getElem? (xs:=a.tmps) (i:=41) (d:=undef)).symm.trans k2;have t1:=t1.le (Mem.cO (es:=[25,30]) HO3.inn win zS);have t2:=aK (Mem.cO (es:=[25,30]) HO3.inn win zS) t2;have hS:ScIs (fun e=>x.has e∧¬ y.has e) ⟨(x.nul && !y.nul),(x.fal && !y.fal),(x.tru && !y.tru),(eT x.ns y.ns).i,(eT x.ns y.ns).rf,C⟩:=CG (a:=x) (b:=y) (fun p q=>p∧¬ q) zS zS zS (il x.lJ y.lJ) (gu x.lJ y.lJ) l2.canon (fun z=>by rw[l2.sem];simp);exact aB rfl rfl (aD zg ⟨_,rfl,Below.refl _ _,oU [25,30] (R:=ScRV _ _ _) win zS (fun d hd=>(RA.rng d (by simp at hd;rcases hd with rfl | rfl <;> kernel_rfl)).2.2) ⟨_,⟨r1,s1,r2,s2,r3,s3,rfl,⟨t1.i,t1.f,t2⟩⟩,hS,⟨by show (eT x.ns y.ns).i.length≤_;unfold RS.ns;omega,by show (eT x.ns y.ns).rf.length≤_;unfold RS.ns;omega,n2⟩⟩⟩)
  ·intro win a wr E;have e4:=E.keep 4 zk;have e42:(Fact.mem mk [25,30] (ScRV (fun e=>x.has e∧¬ y.has e) (na+nb+4) ((ta+2)*(tb+2)+1))).holds (a.tmps.getD 42 undef) win wr:=E.fact 31 _ zo rfl;obtain⟨s,⟨ra,rb,rc,rd,re,rf,k1,st1⟩,hS,hL⟩:ScRV _ _ _ _ _:=e42;have hO1:=HO2.out.dr.region E.below win [25,30] (fun d hd=>(E.rng d (by simp at hd;omega)).1);have HE:=zh E;generalize mk.wins wr win [25,30]=mk2 at *
   have HK:=zh (zi st1 (zi hS hL));clear E st1 hS hL;obtain⟨p0,p1,p2,p3,p4,p5,pf0,pf1,pf2,pf3,pf4,pf5⟩:=hO1.third.obj.cf6;have pl:=hO1.third.obj.lt;have HO4:=zh ((((((hO1.third.set 0 (.bool s.nul)).set 1 (.bool s.fal)).set 2 (.bool s.tru)).set 3 (.slice ra s.i.length rb)).set 4 (.slice rc s.f.length rd)).set 5 (.slice re s.t.length rf));clear hO1;refine bR 32 zk (aB rfl rfl (aS zg ?_));obtain⟨t,d⟩:=a;obtain rfl:d=[]:=HE.out.defers;refine aV zk (hX.out _ _ HE.out.size ⟨mk2,s,ra,rc,re,rb,rd,rf,?_,HK.out.1,HK.out.2.1,HK.out.2.2,HO4.out.drop2.drop2⟩) _;simp only[List.map_cons,List.map_nil,e4]
   rfl
 rintro z3 vs w3 - ⟨mk',s,ra,rc,re,rb,rd,rf,rfl,hs,hS,hL,hO⟩;simp[litL,lk];obtain⟨g0,g1,g2,g3,g4,g5⟩:=hO.obj.cs6;have gl:=hO.obj.lt;have Hk:=zh (zi hO.below (zi (hs.le hO.done) (zi hS hL)));clear hO hs hS hL HO2 HX HF HL hmul hN1 hN2;go_wp2;refine bodyPost_ret (v:=.agg #[.bool s.nul,.bool s.fal,.bool s.tru,.slice ra s.i.length rb,.slice rc s.f.length rd,.slice re s.t.length rf]) (by simp[results,Tryz.results35,go_sem,g0,g1,g2,g3,g4,g5]) rfl ?_;exact hR.out _ _ ⟨s,_,_,_,rfl,Hk.out.1,Hk.out.2.1,Hk.out.2.2.1,Hk.out.2.2.2⟩
end Cl

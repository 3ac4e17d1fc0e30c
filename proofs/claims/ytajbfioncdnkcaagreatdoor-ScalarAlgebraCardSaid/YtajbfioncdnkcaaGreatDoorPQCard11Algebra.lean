/- The law's walk. -/
import Derived.Test.YtajbfioncdnkcaaGreatDoorProg
import Derived.BigQuiet
import Derived.Deep.Cut
import Derived.Deep.QuietTactic
import Derived.Laws.StructEq
import Derived.Lib.AppendStr
import Derived.Lib.Builder
import Derived.Lib.Hide
import Derived.Lib.ItoaLen
import Derived.Maps.OwnOps
import Derived.Maps.OwnSet
import Derived.OrdersHeld
import Derived.Outline
import Derived.StillTailTactics
import Derived.StringKeys
import Derived.WalkKit
import Derived.WalkLawsBesides
import Derived.WalkSpells
import Derived.Deep.RegionHeld
import Derived.RangeFuncNested
import Derived.RangeFuncBound
import Derived.RangeFuncCalls
import Derived.RangeFuncLeaves
import Derived.OwnWalkIn
import Derived.TacticsInMore
import Derived.LoopNIn
import Derived.LoopIn
import Derived.Shelf.SlSortCmp.WholeK
import Derived.Laws.EntriesVeiled
import Derived.Laws.CopyOwn
import Derived.RegionTactic
import Derived.Shelf.Strings.Builder1
import Derived.Shelf.Small.Wraps
import Derived.Shelf.LaysM
import Derived.Shelf.Strconv.Itoa3
import Derived.ChangeAlike
import Derived.Shelf.Spec.SlicesGrow
import Derived.Laws.BytesArg
import Derived.Deep.Slices
import Derived.Lib.SmallJoins
import Derived.ChangeMaps5
import Derived.Carry
import Derived.KernelRfl
import Derived.ChangeArms
import Derived.Test.YtajbfioncdnkcaaGreatDoorCards
import Derived.Test.YtajbfioncdnkcaaGreatDoorTie
import Derived.ProofKit
import Derived.OpenShut
import Derived.Deep.DeepHandedRow
import Derived.Lib.LaidTab
import Derived.Stop.LaidErr
import Derived.Test.YtajbfioncdnkcaaGreatDoorZz
import Derived.Test.YtajbfioncdnkcaaGreatDoorPkM4
import Derived.Test.YtajbfioncdnkcaaGreatDoorPkM51
import Derived.Test.YtajbfioncdnkcaaGreatDoorPkM3
import Derived.Test.YtajbfioncdnkcaaGreatDoorPkM32
import Derived.Test.YtajbfioncdnkcaaGreatDoorPkM1
import Derived.Test.YtajbfioncdnkcaaGreatDoorPkM34
import Derived.Test.YtajbfioncdnkcaaGreatDoorPkM2
import Derived.Test.YtajbfioncdnkcaaGreatDoorPkM19
import Derived.Test.YtajbfioncdnkcaaGreatDoorPkM27
import Derived.Test.YtajbfioncdnkcaaGreatDoorPkM41
import Derived.Test.YtajbfioncdnkcaaGreatDoorPkM5
import Derived.Test.YtajbfioncdnkcaaGreatDoorPkM42
import Derived.Test.YtajbfioncdnkcaaGreatDoorPkM10
import Derived.Test.YtajbfioncdnkcaaGreatDoorPkM11
import Derived.Test.YtajbfioncdnkcaaGreatDoorPkM43
import Derived.Test.YtajbfioncdnkcaaGreatDoorPkM21
import Derived.Test.YtajbfioncdnkcaaGreatDoorPkM8
import Derived.Test.YtajbfioncdnkcaaGreatDoorPkM53
import Derived.Test.YtajbfioncdnkcaaGreatDoorPkM7
import Derived.Test.YtajbfioncdnkcaaGreatDoorPkM33
import Derived.Test.YtajbfioncdnkcaaGreatDoorPkM36
import Derived.Test.YtajbfioncdnkcaaGreatDoorPkM52
import Derived.Test.YtajbfioncdnkcaaGreatDoorPkM12
import Derived.Test.YtajbfioncdnkcaaGreatDoorPkM6
import Derived.Test.YtajbfioncdnkcaaGreatDoorPkM20
import Derived.Test.YtajbfioncdnkcaaGreatDoorPkM54
import Derived.Test.YtajbfioncdnkcaaGreatDoorPkM9
import Derived.Test.YtajbfioncdnkcaaGreatDoorPkM35
import Derived.Test.YtajbfioncdnkcaaGreatDoorPkM24
import Derived.Test.YtajbfioncdnkcaaGreatDoorPkM45
import Derived.Test.YtajbfioncdnkcaaGreatDoorPkM16
import Derived.Test.YtajbfioncdnkcaaGreatDoorPkM44
import Derived.Test.YtajbfioncdnkcaaGreatDoorPkM55
import Derived.Test.YtajbfioncdnkcaaGreatDoorPkM37
import Derived.Test.YtajbfioncdnkcaaGreatDoorPkM13
import Derived.Test.YtajbfioncdnkcaaGreatDoorPkM14
import Derived.Test.YtajbfioncdnkcaaGreatDoorPkM18
import Derived.Test.YtajbfioncdnkcaaGreatDoorPkM26
import Derived.Test.YtajbfioncdnkcaaGreatDoorPkM57
import Derived.Test.YtajbfioncdnkcaaGreatDoorPkM28
import Derived.Test.YtajbfioncdnkcaaGreatDoorPkM15
import Derived.Test.YtajbfioncdnkcaaGreatDoorPkM22
import Derived.Test.YtajbfioncdnkcaaGreatDoorPkM25
import Derived.Test.YtajbfioncdnkcaaGreatDoorPkM17
import Derived.Test.YtajbfioncdnkcaaGreatDoorPkM23
set_option maxRecDepth 100000
set_option maxHeartbeats 16000000
namespace Cl
open Go Go.RowKit Go.Proofs
theorem ED (vi vf:Value) (I F:List Spn) (m:Mem) (w:World) (hm:m.inn w) (h1:bF m vi vf I F) (hI:I.length≤100000) (hF:F.length≤100000) :
 Calls Tryz.prog 89 #[.agg #[vi,vf]] w fun e w'=>e=.returned (.bool (tf (mkN I F=j3)))∧Below w.heap.size w w':=by
 have hO:=(Own.start hm).al #[vi,vf] 24;have HM:=zh (mU _ _ I F m _ hO.inn h1 hI hF);obtain⟨a1,c1,b1,d1,rfl,rfl⟩:=h1.spell;have HO:=zh hO;clear hO h1;have HE:=zh (show mkN I F=j3↔(mkN I F).i.length=0∧(mkN I F).rf.length=0 from ⟨fun h=>by rw[h];exact⟨rfl,rfl⟩,fun ⟨h1,h2⟩=>by
  rw[NS.ky] at h2;have e1:=List.eq_nil_of_length_eq_zero h1;have e2:=List.eq_nil_of_length_eq_zero h2;generalize mkN I F=x at *
  obtain⟨i,f⟩:=x;simp only at e1 e2;rw[e1,e2];rfl⟩)
 generalize mkN I F=x at *
 refine aj fun R hR=>?_
 go_enter Tryz.func89,Tryz.ntmps89
 go_wp2_with fail
 refine HM.out.mono ?_;rintro e w1 ⟨ri,rf,rfl,hb1,hr1⟩;obtain⟨xa,xc,ya,yc,rfl,rfl⟩:=hr1.spell;have HB:=zh (((HO.out.move hb1).al #[.slice xa x.i.length xc,.slice ya x.rf.length yc] 24).below);clear HM HO hb1 hr1;by_cases e1:x.i.length=0
 ·have E1:=zh e1;have hd1:((x.i.length:Int)==0)=true:=beq_iff_eq.2 zo;clear e1;by_cases e2:x.rf.length=0
  ·have E2:=zh e2;have hd2:((x.rf.length:Int)==0)=true:=beq_iff_eq.2 zo;clear e2;go_wp2;exact hR.out _ _ ⟨aQ (by rw[aN (HE.out.2 ⟨E1.out,E2.out⟩)]),HB.out⟩
  ·have E2:=zh e2;have hd:((x.rf.length:Int)==0)=false:=beq_eq_false_iff_ne.2 (fun h=>e2 zo);clear e2;go_wp2;exact hR.out _ _ ⟨aQ (by rw[aL (fun h=>E2.out (HE.out.1 h).2)]),HB.out⟩
 ·have E1:=zh e1;have hd:((x.i.length:Int)==0)=false:=beq_eq_false_iff_ne.2 (fun h=>e1 zo);clear e1;go_wp2;exact hR.out _ _ ⟨aQ (by rw[aL (fun h=>E1.out (HE.out.1 h).1)]),HB.out⟩
theorem Kr (v0 v1:Value) (A B:Table) (m:Mem) (w:World) (hm:m.inn w) (hA:aI m v0 A) (hB:aI m v1 B) (hF:Fits A B) :
 Calls Tryz.prog 81 #[.agg #[v0],.agg #[v1]] w fun e w'=>∃r C,e=.returned (.agg #[r])∧Below w.heap.size w w'∧aI (m.grow w w') r C ∧
  dX (fun x=>Sem A x&&Sem B x) C∧C.length≤(A.length+2)*(B.length+2)+1:=by
 have hO:=(((Own.start hm).al #[v0] 27).al #[v1] 27).al #[.slice none 0 0] 27;have hsz1:(w.alloc (.cells #[v0] 27)).heap.size=w.heap.size+1:=by simp
 have hsz2:((w.alloc (.cells #[v0] 27)).alloc (.cells #[v1] 27)).heap.size=w.heap.size+2:=by simp
 rw[hsz2,hsz1] at hO;have HP:=zh (tF 38 (fun x y=>x&&y) zS v0 v1 A B m _ hO.inn hA hB hF.mul hF.a hF.b);have HO:=zh hO;obtain⟨va,vc,rfl,-⟩:=hA;obtain⟨vb,vd,rfl,-⟩:=hB;clear hO hsz1 hsz2;refine aj fun R hR=>?_
 go_enter Tryz.func81,Tryz.ntmps81
 go_wp2_with fail
 refine HP.out.mono ?_;rintro e w1 ⟨r,C,rfl,hb1,hst,hlang,hClen⟩;have hO1:=HO.out.call hb1;obtain⟨ra,rc,rfl⟩:∃ra rc,r=.slice ra C.length rc:=by obtain⟨x,y,e,-⟩:=hst;exact⟨x,y,e⟩
 have g1:=hO1.obj.cell (i:=0) rfl;have g2:=hO1.obj.frozen 0;have g3:=hO1.obj.lt;have hO2:=hO1.set 0 (.slice ra C.length rc);have g4:=hO2.obj.cell (i:=0) rfl;have Hk:=zh (zi hO2.below (zi (aK hO2.done hst) (zi hlang hClen)));clear hO2 hO1 hst hlang hClen HP HO hb1;go_wp2;refine bodyPost_ret (v:=.agg #[.slice ra C.length rc]) (by simp[results,Tryz.results81,go_sem,g4]) rfl ?_;exact hR.out _ _ ⟨_,C,rfl,Hk.out.1,Hk.out.2.1,Hk.out.2.2.1,Hk.out.2.2.2⟩
theorem M5 (v0 v1:Value) (A B:Table) (m:Mem) (w:World) (hm:m.inn w) (hA:aI m v0 A) (hB:aI m v1 B) (hF:Fits A B) :
 Calls Tryz.prog 86 #[.agg #[v0],.agg #[v1]] w fun e w'=>∃r C,e=.returned (.agg #[r])∧Below w.heap.size w w'∧aI (m.grow w w') r C ∧
  dX (fun x=>Sem A x || Sem B x) C∧C.length≤(A.length+2)*(B.length+2)+1:=by
 have hO:=(((Own.start hm).al #[v0] 27).al #[v1] 27).al #[.slice none 0 0] 27;have hsz1:(w.alloc (.cells #[v0] 27)).heap.size=w.heap.size+1:=by simp
 have hsz2:((w.alloc (.cells #[v0] 27)).alloc (.cells #[v1] 27)).heap.size=w.heap.size+2:=by simp
 rw[hsz2,hsz1] at hO;have HP:=zh (tF 124 (fun x y=>x || y) zS v0 v1 A B m _ hO.inn hA hB hF.mul hF.a hF.b);have HO:=zh hO;obtain⟨va,vc,rfl,-⟩:=hA;obtain⟨vb,vd,rfl,-⟩:=hB;clear hO hsz1 hsz2;refine aj fun R hR=>?_
 go_enter Tryz.func86,Tryz.ntmps86
 go_wp2_with fail
 refine HP.out.mono ?_;rintro e w1 ⟨r,C,rfl,hb1,hst,hlang,hClen⟩;have hO1:=HO.out.call hb1;obtain⟨ra,rc,rfl⟩:∃ra rc,r=.slice ra C.length rc:=by obtain⟨x,y,e,-⟩:=hst;exact⟨x,y,e⟩
 have g1:=hO1.obj.cell (i:=0) rfl;have g2:=hO1.obj.frozen 0;have g3:=hO1.obj.lt;have hO2:=hO1.set 0 (.slice ra C.length rc);have g4:=hO2.obj.cell (i:=0) rfl;have Hk:=zh (zi hO2.below (zi (aK hO2.done hst) (zi hlang hClen)));clear hO2 hO1 hst hlang hClen HP HO hb1;go_wp2;refine bodyPost_ret (v:=.agg #[.slice ra C.length rc]) (by simp[results,Tryz.results86,go_sem,g4]) rfl ?_;exact hR.out _ _ ⟨_,C,rfl,Hk.out.1,Hk.out.2.1,Hk.out.2.2.1,Hk.out.2.2.2⟩
theorem Km (vi vf vt:Value) (A:RS) (ui uf ut:Value) (B:RS) (na ta nb tb:Nat) (m:Mem) (w:World) (hm:m.inn w) (htab:TabM m) (ha:ScAt m vi vf vt A) (hb:ScAt m ui uf ut B) (la:ScLe A na ta) (lb:ScLe B nb tb) (hn1:na≤250) (hn2:nb≤250) (ht:(ta+2)*(tb+2)≤1000000) :
 Calls Tryz.prog 32 #[A.val vi vf vt,B.val ui uf ut] w fun e w'=>∃s si sf st,e=.returned (s.val si sf st)∧Below w.heap.size w w'∧ScAt (m.grow w w') si sf st s∧ScIs (fun e=>(bU A).has e∧(bU B).has e) s∧ScLe s (na+nb+4) ((ta+2)*(tb+2)+1):=by
 have hta:ta+2≤(ta+2)*(tb+2):=Nat.le_mul_of_pos_right _ zo;have htb:tb+2≤(ta+2)*(tb+2):=Nat.le_mul_of_pos_left _ zo;have hO:=(((Own.start hm).al #[.bool A.nul,.bool A.fal,.bool A.tru,vi,vf,vt] 29).al #[.bool B.nul,.bool B.fal,.bool B.tru,ui,uf,ut] 29).al #[.bool false,.bool false,.bool false,.slice none 0 0,.slice none 0 0,.slice none 0 0] 29;simp only[df] at hO;have HGA:=zh (fun w' (h:m.inn w')=>iB vi vf vt A m w' h htab ha (la.mono zo zo));have HGB:=zh (fun w' (h:m.inn w')=>iB ui uf ut B m w' h htab hb (lb.mono zo zo));have lx:=kE la;have ly:=kE lb;obtain⟨aa,ab,ac,ad,ae,af,rfl,rfl,rfl⟩:=ha.spell;obtain⟨ba,bb,bc,bd,be,bf,rfl,rfl,rfl⟩:=hb.spell;unfold RS.val at HGA HGB ⊢;have HO:=zh hO;clear hO ha hb la lb hta htb;generalize bU A=x at *
 generalize bU B=y at *
 refine aj fun R hR=>?_
 go_enter Tryz.func32,Tryz.ntmps32
 go_upto_region 1 with (fail)
 refine aA [4,5,6] (fun vs w'=>∃(mk:Mem) (g5 g6:Nat) (xa xc xe ya yc ye:Option Addr) (xb xd xf yb yd yf:Nat),vs=[.pointer (some ⟨w.heap.size+1+1,0,none⟩),.pointer (some ⟨g5,0,none⟩),.pointer (some ⟨g6,0,none⟩)] ∧
  ScAt mk (.slice xa x.i.length xb) (.slice xc x.f.length xd) (.slice xe x.t.length xf) x∧ScAt mk (.slice ya y.i.length yb) (.slice yc y.f.length yd) (.slice ye y.t.length yf) y∧m.le mk ∧
  Own w m w' mk [.obj g6 29 #[.bool y.nul,.bool y.fal,.bool y.tru,.slice ya y.i.length yb,.slice yc y.f.length yd,.slice ye y.t.length yf],.obj g5 29 #[.bool x.nul,.bool x.fal,.bool x.tru,.slice xa x.i.length xb,.slice xc x.f.length xd,.slice xe x.t.length xf],.obj (w.heap.size+1+1) 29 #[.bool false,.bool false,.bool false,.slice none 0 0,.slice none 0 0,.slice none 0 0]]) ?_ ?_
 ·intro X hX;refine aM 6 5 (fun j=>[Fact.is (·=.agg #[.bool A.nul,.bool A.fal,.bool A.tru,.slice aa A.i.length ab,.slice ac A.f.length ad,.slice ae A.t.length af]),Fact.mem m [1] (ScV x),Fact.is (·=.agg #[.bool B.nul,.bool B.fal,.bool B.tru,.slice ba B.i.length bb,.slice bc B.f.length bd,.slice be B.t.length bf]),Fact.mem m [3] (ScV y),Fact.obj 4 29 #[.bool false,.bool false,.bool false,.slice none 0 0,.slice none 0 0,.slice none 0 0],Fact.obj 5 29 #[.bool false,.bool false,.bool false,.slice none 0 0,.slice none 0 0,.slice none 0 0]].getD j Fact.any) zk zk ?_ ?_
  ·intro i hi o win a wr ho RA;have HO2:=HO.out.dr.move RA.below;obtain⟨p0,p1,p2,p3,p4,p5⟩:=HO2.third.obj.cs6;have pl:=HO2.third.obj.lt;obtain⟨q0,q1,q2,q3,q4,q5⟩:=HO2.swap.obj.cs6;have ql:=HO2.swap.obj.lt;rcases (show i=0∨i=1∨i=2∨i=3∨i=4∨i=5 by omega) with rfl | rfl | rfl | rfl | rfl | rfl
   ·have e2:=RA.k 2;cases ho;exact wv rfl rfl rfl
   ·have e7:a.tmps.getD 7 undef=_:=RA.d 0 rfl;cases ho;refine we rfl rfl (HGA.out wr HO2.inn) ?_;rintro e w' ⟨ri,rf,rt,rfl,hb,hn⟩;exact⟨_,rfl,_,rfl,hb,bH ScV.le HO2.inn hb (qh hn)⟩
   ·have e3:=RA.k 3;cases ho;exact wv rfl rfl rfl
   ·have e9:a.tmps.getD 9 undef=_:=RA.d 2 rfl;cases ho;refine we rfl rfl (HGB.out wr HO2.inn) ?_;rintro e w' ⟨ri,rf,rt,rfl,hb,hn⟩;exact⟨_,rfl,_,rfl,hb,bH ScV.le HO2.inn hb (qh hn)⟩
   ·cases ho;exact aB rfl rfl (aD zg ⟨_,rfl,aP (Below.refl _ _) _,lI win⟩)
   ·cases ho;exact aB rfl rfl (aD zg ⟨_,rfl,aP (Below.refl _ _) _,lI win⟩)
  ·intro win a wr E;have e4:=E.keep 4 zk;have e5:(Fact.obj 4 29 #[.bool false,.bool false,.bool false,.slice none 0 0,.slice none 0 0,.slice none 0 0]).holds (a.tmps.getD 5 undef) win wr:=E.fact 4 _ zo rfl;have e6:(Fact.obj 5 29 #[.bool false,.bool false,.bool false,.slice none 0 0,.slice none 0 0,.slice none 0 0]).holds (a.tmps.getD 6 undef) win wr:=E.fact 5 _ zo rfl;have e8:(Fact.mem m [1] (ScV x)).holds (a.tmps.getD 8 undef) win wr:=E.fact 1 _ zo rfl;have e10:(Fact.mem m [3] (ScV y)).holds (a.tmps.getD 10 undef) win wr:=E.fact 3 _ zo rfl;obtain⟨xa,xb,xc,xd,xe,xf,k1,st1⟩:ScV _ _ _:=e8;obtain⟨ya,yb,yc,yd,ye,yf,k2,st2⟩:ScV _ _ _:=e10;obtain⟨p1,n1,o1⟩:_∧_∧_:=e5;obtain⟨p2,n2,o2⟩:_∧_∧_:=e6;have g1:=E.rng 4 zo;have g2:=E.rng 5 zo;have far:∀j,j=4∨j=5→∀d∈[1,3],¬ ((win d).1≤(win j).1∧(win j).1<(win d).2):=by
    intro j hj d hd;have hd':d=1∨d=3:=by simpa using hd
    have:=E.apart j d zo zo zo;have:(win j).2=(win j).1+1:=by rcases hj with rfl | rfl <;> assumption
    omega
   have hmw:=(HO.out.dr.move E.below).inn;have hO1:=HO.out.dr.region E.below win [1,3] (fun d hd=>(E.rng d (by simp at hd;omega)).1);have hge:=HO.out.dr.below.size;have no:∀j,j=4∨j=5→m.wins wr win [1,3] (win j).1=none:=fun j hj=>
    Mem.lD (Mem.fe HO.out.dr.inn (E.rng j zo).1) (far j hj)
   have hL1:=HO.out.dr.kP g1.1;have hL2:=HO.out.dr.kP g2.1;have a12:=E.apart 4 5 zo zo zo;have hO2:=hO1.newObj o1 zo (no 4 zo) hL1;have hO2:=hO2.newObj o2 zo (no 5 zo) (mE zo hL2);have st1:=st1.le (Mem.cO (es:=[1,3]) hmw win zS);have st2:=st2.le (Mem.cO (es:=[1,3]) hmw win zS);have hle:=Mem.dw hmw win [1,3];have HK:=zh (zi st1 (zi st2 hle));have hne:(win 4).1≠(win 5).1:=zo;have hne2:(win 5).1≠(win 4).1:=zo;have HE:=zh E;generalize m.wins wr win [1,3]=mk2 at *
   generalize (win 4).1=gx at *
   generalize (win 5).1=gy at *
   clear st1 st2 hle hmw hL1 hL2 no far hO1 a12 g1 g2 o1 o2 n1 n2 hge E;obtain⟨p0,p1,p2,p3,p4,p5,pf0,pf1,pf2,pf3,pf4,pf5⟩:=hO2.swap.obj.cf6;have pl:=hO2.swap.obj.lt;have hO3:=((((((hO2.swap.set 0 (.bool x.nul)).set 1 (.bool x.fal)).set 2 (.bool x.tru)).set 3 (.slice xa x.i.length xb)).set 4 (.slice xc x.f.length xd)).set 5 (.slice xe x.t.length xf));refine bR 6 zk (aB rfl rfl (aS zg ?_));obtain⟨q0,q1,q2,q3,q4,q5,qf0,qf1,qf2,qf3,qf4,qf5⟩:=hO3.swap.obj.cf6;have ql:=hO3.swap.obj.lt;have HO4:=zh ((((((hO3.swap.set 0 (.bool y.nul)).set 1 (.bool y.fal)).set 2 (.bool y.tru)).set 3 (.slice ya y.i.length yb)).set 4 (.slice yc y.f.length yd)).set 5 (.slice ye y.t.length yf));clear hO2 hO3;refine bR 7 zk (aB rfl rfl (aS zg ?_));obtain⟨t,d⟩:=a;obtain rfl:d=[]:=HE.out.defers;refine aV zk (hX.out _ _ HE.out.size ⟨mk2,gx,gy,xa,xc,xe,ya,yc,ye,xb,xd,xf,yb,yd,yf,?_,HK.out.1,HK.out.2.1,HK.out.2.2,HO4.out.FN.FN⟩) _;simp only[List.map_cons,List.map_nil,e4,p1,p2]
   rfl
 rintro z2 vs w2 - ⟨mk,g5,g6,xa,xc,xe,ya,yc,ye,xb,xd,xf,yb,yd,yf,rfl,hx,hy,hle,hO⟩;simp[litL,lk];have HX:=zh (zi hx hy);have HO2:=zh hO;have HL:=zh (zi lx ly);have hmul:(x.t.length+2)*(y.t.length+2)≤(ta+2)*(tb+2):=Nat.mul_le_mul (Nat.add_le_add_right lx.t 2) (Nat.add_le_add_right ly.t 2);have hF:Fits x.t y.t:=Fits.of lx.t ly.t ht;have HF:=zh hF;have hli:=lx.i;have hlf:=lx.f;have hli2:=ly.i;have hlf2:=ly.f;have hNl:=IE (fF hli hlf) (fF hli2 hlf2);have hN1:=hNl.i;have hN2:=hNl.f;rw[← NS.ky] at hN2;clear hO hx hy hle HO HGA HGB lx ly hF hNl
 go_upto_region 2 with (fail)
 refine aA [4] (fun vs w'=>∃(mk':Mem) (s:RS) (ra rc re:Option Addr) (rb rd rf:Nat),vs=[.pointer (some ⟨w.heap.size+1+1,0,none⟩)] ∧
  ScAt mk' (.slice ra s.i.length rb) (.slice rc s.f.length rd) (.slice re s.t.length rf) s∧ScIs (fun e=>x.has e∧y.has e) s∧ScLe s (na+nb+4) ((ta+2)*(tb+2)+1) ∧
  Own w m w' mk' [.obj (w.heap.size+1+1) 29 #[.bool s.nul,.bool s.fal,.bool s.tru,.slice ra s.i.length rb,.slice rc s.f.length rd,.slice re s.t.length rf]]) ?_ ?_
 ·intro X hX;refine aM 29 6 (fun j=>[Fact.is (·=.pointer (some ⟨g5,0,none⟩)),Fact.is (·=.bool x.nul),Fact.is (·=.bool x.nul),Fact.is (fun v=>x.nul=true→v=.pointer (some ⟨g6,0,none⟩)),Fact.is (fun v=>x.nul=true→v=.bool y.nul),Fact.is (·=.bool (x.nul&&y.nul)),Fact.is (·=.pointer (some ⟨g5,1,none⟩)),Fact.is (·=.bool x.fal),Fact.is (·=.bool x.fal),Fact.is (fun v=>x.fal=true→v=.pointer (some ⟨g6,1,none⟩)),Fact.is (fun v=>x.fal=true→v=.bool y.fal),Fact.is (·=.bool (x.fal&&y.fal)),Fact.is (·=.pointer (some ⟨g5,2,none⟩)),Fact.is (·=.bool x.tru),Fact.is (·=.bool x.tru),Fact.is (fun v=>x.tru=true→v=.pointer (some ⟨g6,2,none⟩)),Fact.is (fun v=>x.tru=true→v=.bool y.tru),Fact.is (·=.bool (x.tru&&y.tru)),Fact.is (·=.pointer (some ⟨g5,3,none⟩)),Fact.is (·=.agg #[.slice xa x.i.length xb,.slice xc x.f.length xd]),Fact.is (·=.pointer (some ⟨g6,3,none⟩)),Fact.is (·=.agg #[.slice ya y.i.length yb,.slice yc y.f.length yd]),Fact.mem mk [22] (NumV (andN x.ns y.ns).i (andN x.ns y.ns).rf),Fact.is (·=.pointer (some ⟨g5,5,none⟩)),Fact.is (·=.agg #[.slice xe x.t.length xf]),Fact.is (·=.pointer (some ⟨g6,5,none⟩)),Fact.is (·=.agg #[.slice ye y.t.length yf]),Fact.mem mk [27] (vF (fun z=>Sem x.t z&&Sem y.t z) ((ta+2)*(tb+2)+1)),Fact.mem mk [22,27] (ScRV (fun e=>x.has e∧y.has e) (na+nb+4) ((ta+2)*(tb+2)+1))].getD j Fact.any) zk zk ?_ ?_
  ·intro i hi o win a wr ho RA;have HO3:=HO2.out.dr.move RA.below;obtain⟨p0,p1,p2,p3,p4,p5⟩:=HO3.swap.obj.cs6;have pl:=HO3.swap.obj.lt;obtain⟨q0,q1,q2,q3,q4,q5⟩:=HO3.obj.cs6;have ql:=HO3.obj.lt;rcases (show i=0∨i=1∨i=2∨i=3∨i=4∨i=5∨i=6∨i=7∨i=8∨i=9∨i=10∨i=11∨i=12∨i=13∨i=14∨i=15∨i=16∨i=17∨i=18∨i=19∨i=20∨i=21∨i=22∨i=23∨i=24∨i=25∨i=26∨i=27∨i=28 by omega) with rfl | rfl | rfl | rfl | rfl | rfl | rfl | rfl | rfl | rfl | rfl | rfl | rfl | rfl | rfl | rfl | rfl | rfl | rfl | rfl | rfl | rfl | rfl | rfl | rfl | rfl | rfl | rfl | rfl
   ·have e5:=RA.k 5;cases ho;exact wv rfl rfl rfl
   ·have e11:a.tmps.getD 11 undef=_:=RA.d 0 rfl;cases ho;exact wv rfl rfl rfl
   ·have e12:a.tmps.getD 12 undef=_:=RA.d 1 rfl;cases ho;exact wv rfl rfl rfl
   ·have e6:=RA.k 6;have e13:a.tmps.getD 13 undef=_:=RA.d 2 rfl;cases ho;rcases Bool.eq_false_or_eq_true x.nul with hb | hb
    ·rw[hb] at e13;exact dU rfl (dA rfl rfl e13) (aD zg ⟨_,rfl,Below.refl _ _,fun _=>rfl⟩)
    ·rw[hb] at e13;exact gH rfl (eF rfl rfl e13 rfl) ⟨_,rfl,Below.refl _ _,fun h=>absurd (h.symm.trans hb) zD⟩
   ·have e14:(Fact.is (fun v=>x.nul=true→v=.pointer (some ⟨g6,0,none⟩))).holds (a.tmps.getD 14 undef) win wr:=RA.d 3 rfl;have e13:a.tmps.getD 13 undef=_:=RA.d 2 rfl;cases ho;rcases Bool.eq_false_or_eq_true x.nul with hb | hb
    ·rw[hb] at e13;replace e14:a.tmps.getD 14 undef=_:=e14 hb;exact dU rfl (dA rfl rfl e13) (aD zg ⟨_,rfl,Below.refl _ _,fun _=>rfl⟩)
    ·rw[hb] at e13;exact gH rfl (eF rfl rfl e13 rfl) ⟨_,rfl,Below.refl _ _,fun h=>absurd (h.symm.trans hb) zD⟩
   ·have e13:a.tmps.getD 13 undef=_:=RA.d 2 rfl;have e15:(Fact.is (fun v=>x.nul=true→v=.bool y.nul)).holds (a.tmps.getD 15 undef) win wr:=RA.d 4 rfl;cases ho;rcases Bool.eq_false_or_eq_true x.nul with hb | hb
    ·rw[hb] at e13;replace e15:a.tmps.getD 15 undef=_:=e15 hb;exact aB rfl rfl (aD zg ⟨_,rfl,Below.refl _ _,by show _=Value.bool (x.nul&&y.nul);rw[hb];rfl⟩)
    ·rw[hb] at e13;exact aB rfl rfl (aD zg ⟨_,rfl,Below.refl _ _,by show _=Value.bool (x.nul&&y.nul);rw[hb];rfl⟩)
   ·have e5:=RA.k 5;cases ho;exact wv rfl rfl rfl
   ·have e17:a.tmps.getD 17 undef=_:=RA.d 6 rfl;cases ho;exact wv rfl rfl rfl
   ·have e18:a.tmps.getD 18 undef=_:=RA.d 7 rfl;cases ho;exact wv rfl rfl rfl
   ·have e6:=RA.k 6;have e19:a.tmps.getD 19 undef=_:=RA.d 8 rfl;cases ho;rcases Bool.eq_false_or_eq_true x.fal with hb | hb
    ·rw[hb] at e19;exact dU rfl (dA rfl rfl e19) (aD zg ⟨_,rfl,Below.refl _ _,fun _=>rfl⟩)
    ·rw[hb] at e19;exact gH rfl (eF rfl rfl e19 rfl) ⟨_,rfl,Below.refl _ _,fun h=>absurd (h.symm.trans hb) zD⟩
   ·have e20:(Fact.is (fun v=>x.fal=true→v=.pointer (some ⟨g6,1,none⟩))).holds (a.tmps.getD 20 undef) win wr:=RA.d 9 rfl;have e19:a.tmps.getD 19 undef=_:=RA.d 8 rfl;cases ho;rcases Bool.eq_false_or_eq_true x.fal with hb | hb
    ·rw[hb] at e19;replace e20:a.tmps.getD 20 undef=_:=e20 hb;exact dU rfl (dA rfl rfl e19) (aD zg ⟨_,rfl,Below.refl _ _,fun _=>rfl⟩)
    ·rw[hb] at e19;exact gH rfl (eF rfl rfl e19 rfl) ⟨_,rfl,Below.refl _ _,fun h=>absurd (h.symm.trans hb) zD⟩
   ·have e19:a.tmps.getD 19 undef=_:=RA.d 8 rfl;have e21:(Fact.is (fun v=>x.fal=true→v=.bool y.fal)).holds (a.tmps.getD 21 undef) win wr:=RA.d 10 rfl;cases ho;rcases Bool.eq_false_or_eq_true x.fal with hb | hb
    ·rw[hb] at e19;replace e21:a.tmps.getD 21 undef=_:=e21 hb;exact aB rfl rfl (aD zg ⟨_,rfl,Below.refl _ _,by show _=Value.bool (x.fal&&y.fal);rw[hb];rfl⟩)
    ·rw[hb] at e19;exact aB rfl rfl (aD zg ⟨_,rfl,Below.refl _ _,by show _=Value.bool (x.fal&&y.fal);rw[hb];rfl⟩)
   ·have e5:=RA.k 5;cases ho;exact wv rfl rfl rfl
   ·have e23:a.tmps.getD 23 undef=_:=RA.d 12 rfl;cases ho;exact wv rfl rfl rfl
   ·have e24:a.tmps.getD 24 undef=_:=RA.d 13 rfl;cases ho;exact wv rfl rfl rfl
   ·have e6:=RA.k 6;have e25:a.tmps.getD 25 undef=_:=RA.d 14 rfl;cases ho;rcases Bool.eq_false_or_eq_true x.tru with hb | hb
    ·rw[hb] at e25;exact dU rfl (dA rfl rfl e25) (aD zg ⟨_,rfl,Below.refl _ _,fun _=>rfl⟩)
    ·rw[hb] at e25;exact gH rfl (eF rfl rfl e25 rfl) ⟨_,rfl,Below.refl _ _,fun h=>absurd (h.symm.trans hb) zD⟩
   ·have e26:(Fact.is (fun v=>x.tru=true→v=.pointer (some ⟨g6,2,none⟩))).holds (a.tmps.getD 26 undef) win wr:=RA.d 15 rfl;have e25:a.tmps.getD 25 undef=_:=RA.d 14 rfl;cases ho;rcases Bool.eq_false_or_eq_true x.tru with hb | hb
    ·rw[hb] at e25;replace e26:a.tmps.getD 26 undef=_:=e26 hb;exact dU rfl (dA rfl rfl e25) (aD zg ⟨_,rfl,Below.refl _ _,fun _=>rfl⟩)
    ·rw[hb] at e25;exact gH rfl (eF rfl rfl e25 rfl) ⟨_,rfl,Below.refl _ _,fun h=>absurd (h.symm.trans hb) zD⟩
   ·have e25:a.tmps.getD 25 undef=_:=RA.d 14 rfl;have e27:(Fact.is (fun v=>x.tru=true→v=.bool y.tru)).holds (a.tmps.getD 27 undef) win wr:=RA.d 16 rfl;cases ho;rcases Bool.eq_false_or_eq_true x.tru with hb | hb
    ·rw[hb] at e25;replace e27:a.tmps.getD 27 undef=_:=e27 hb;exact aB rfl rfl (aD zg ⟨_,rfl,Below.refl _ _,by show _=Value.bool (x.tru&&y.tru);rw[hb];rfl⟩)
    ·rw[hb] at e25;exact aB rfl rfl (aD zg ⟨_,rfl,Below.refl _ _,by show _=Value.bool (x.tru&&y.tru);rw[hb];rfl⟩)
   ·have e5:=RA.k 5;cases ho;exact wv rfl rfl rfl
   ·have e29:a.tmps.getD 29 undef=_:=RA.d 18 rfl;cases ho;exact wv rfl rfl rfl
   ·have e6:=RA.k 6;cases ho;exact wv rfl rfl rfl
   ·have e31:a.tmps.getD 31 undef=_:=RA.d 20 rfl;cases ho;exact wv rfl rfl rfl
   ·have e30:a.tmps.getD 30 undef=_:=RA.d 19 rfl;have e32:a.tmps.getD 32 undef=_:=RA.d 21 rfl;cases ho;refine we rfl rfl (Bw _ _ x.i x.f _ _ y.i y.f mk wr HO3.inn HX.out.1.nums HX.out.2.nums zo zo zo zo) ?_;rintro e w' ⟨ri,rf,rfl,hb,hn⟩;exact⟨_,rfl,_,rfl,hb,bH NumV.le HO3.inn hb (iD hn)⟩
   ·have e5:=RA.k 5;cases ho;exact wv rfl rfl rfl
   ·have e34:a.tmps.getD 34 undef=_:=RA.d 23 rfl;cases ho;exact wv rfl rfl rfl
   ·have e6:=RA.k 6;cases ho;exact wv rfl rfl rfl
   ·have e36:a.tmps.getD 36 undef=_:=RA.d 25 rfl;cases ho;exact wv rfl rfl rfl
   ·have e35:a.tmps.getD 35 undef=_:=RA.d 24 rfl;have e37:a.tmps.getD 37 undef=_:=RA.d 26 rfl;cases ho;refine we rfl rfl (Kr _ _ x.t y.t mk wr HO3.inn HX.out.1.t HX.out.2.t HF.out) ?_;rintro e w' ⟨r,C,rfl,hb,hst,hl,hn⟩;exact⟨_,rfl,_,rfl,hb,xW HO3.inn hb hst hl zo⟩
   ·have e16:a.tmps.getD 16 undef=_:=RA.d 5 rfl;have e22:a.tmps.getD 22 undef=_:=RA.d 11 rfl;have e28:a.tmps.getD 28 undef=_:=RA.d 17 rfl;have e33:(Fact.mem mk [22] (NumV (andN x.ns y.ns).i (andN x.ns y.ns).rf)).holds (a.tmps.getD 33 undef) win wr:=RA.d 22 rfl;have e38:(Fact.mem mk [27] (vF (fun z=>Sem x.t z&&Sem y.t z) ((ta+2)*(tb+2)+1))).holds (a.tmps.getD 38 undef) win wr:=RA.d 27 rfl;have f16:=(Array.getD_eq_getD_getElem? (xs:=a.tmps) (i:=16) (d:=undef)).symm.trans e16;have f22:=(Array.getD_eq_getD_getElem? (xs:=a.tmps) (i:=22) (d:=undef)).symm.trans e22;have f28:=(Array.getD_eq_getD_getElem? (xs:=a.tmps) (i:=28) (d:=undef)).symm.trans e28;cases ho;obtain⟨r1,s1,r2,s2,k1,t1⟩:NumV _ _ _ _:=e33;obtain⟨r3,s3,C,k2,t2,l2,n2⟩:vF _ _ _ _:=e38;have f33:=(Array.getD_eq_getD_getElem? (xs:=a.tmps) (i:=33) (d:=undef)).symm.trans k1;have f38:=(Array.getD_eq_getD_getElem? (xs:=a.tmps) (i:=38) (d:=undef)).symm.trans k2;have t1:=t1.le (Mem.cO (es:=[22,27]) HO3.inn win zS);have t2:=aK (Mem.cO (es:=[22,27]) HO3.inn win zS) t2;have hS:ScIs (fun e=>x.has e∧y.has e) ⟨(x.nul&&y.nul),(x.fal&&y.fal),(x.tru&&y.tru),(andN x.ns y.ns).i,(andN x.ns y.ns).rf,C⟩:=CG (a:=x) (b:=y) (fun p q=>p∧q) zS zS zS (Dy x.lJ y.lJ) (x9 x.lJ y.lJ) l2.canon (fun z=>by rw[l2.sem];simp);exact aB rfl rfl (aD zg ⟨_,rfl,Below.refl _ _,oU [22,27] (R:=ScRV _ _ _) win zS (fun d hd=>(RA.rng d (by simp at hd;rcases hd with rfl | rfl <;> kernel_rfl)).2.2) ⟨_,⟨r1,s1,r2,s2,r3,s3,rfl,⟨t1.i,t1.f,t2⟩⟩,hS,⟨by show (andN x.ns y.ns).i.length≤_;unfold RS.ns;omega,by show (andN x.ns y.ns).rf.length≤_;unfold RS.ns;omega,n2⟩⟩⟩)
  ·intro win a wr E;have e4:=E.keep 4 zk;have e39:(Fact.mem mk [22,27] (ScRV (fun e=>x.has e∧y.has e) (na+nb+4) ((ta+2)*(tb+2)+1))).holds (a.tmps.getD 39 undef) win wr:=E.fact 28 _ zo rfl;obtain⟨s,⟨ra,rb,rc,rd,re,rf,k1,st1⟩,hS,hL⟩:ScRV _ _ _ _ _:=e39;have hO1:=HO2.out.dr.region E.below win [22,27] (fun d hd=>(E.rng d (by simp at hd;omega)).1);have HE:=zh E;generalize mk.wins wr win [22,27]=mk2 at *
   have HK:=zh (zi st1 (zi hS hL));clear E st1 hS hL;obtain⟨p0,p1,p2,p3,p4,p5,pf0,pf1,pf2,pf3,pf4,pf5⟩:=hO1.third.obj.cf6;have pl:=hO1.third.obj.lt;have HO4:=zh ((((((hO1.third.set 0 (.bool s.nul)).set 1 (.bool s.fal)).set 2 (.bool s.tru)).set 3 (.slice ra s.i.length rb)).set 4 (.slice rc s.f.length rd)).set 5 (.slice re s.t.length rf));clear hO1;refine bR 29 zk (aB rfl rfl (aS zg ?_));obtain⟨t,d⟩:=a;obtain rfl:d=[]:=HE.out.defers;refine aV zk (hX.out _ _ HE.out.size ⟨mk2,s,ra,rc,re,rb,rd,rf,?_,HK.out.1,HK.out.2.1,HK.out.2.2,HO4.out.drop2.drop2⟩) _;simp only[List.map_cons,List.map_nil,e4]
   rfl
 rintro z3 vs w3 - ⟨mk',s,ra,rc,re,rb,rd,rf,rfl,hs,hS,hL,hO⟩;simp[litL,lk];obtain⟨g0,g1,g2,g3,g4,g5⟩:=hO.obj.cs6;have gl:=hO.obj.lt;have Hk:=zh (zi hO.below (zi (hs.le hO.done) (zi hS hL)));clear hO hs hS hL HO2 HX HF HL hmul hN1 hN2;go_wp2;refine bodyPost_ret (v:=.agg #[.bool s.nul,.bool s.fal,.bool s.tru,.slice ra s.i.length rb,.slice rc s.f.length rd,.slice re s.t.length rf]) (by simp[results,Tryz.results32,go_sem,g0,g1,g2,g3,g4,g5]) rfl ?_;exact hR.out _ _ ⟨s,_,_,_,rfl,Hk.out.1,Hk.out.2.1,Hk.out.2.2.1,Hk.out.2.2.2⟩
theorem M4 (vi vf vt:Value) (A:RS) (ui uf ut:Value) (B:RS) (na ta nb tb:Nat) (m:Mem) (w:World) (hm:m.inn w) (htab:TabM m) (ha:ScAt m vi vf vt A) (hb:ScAt m ui uf ut B) (la:ScLe A na ta) (lb:ScLe B nb tb) (hn1:na≤250) (hn2:nb≤250) (ht:(ta+2)*(tb+2)≤1000000) :
 Calls Tryz.prog 34 #[A.val vi vf vt,B.val ui uf ut] w fun e w'=>∃s si sf st,e=.returned (s.val si sf st)∧Below w.heap.size w w'∧ScAt (m.grow w w') si sf st s∧ScIs (fun e=>(bU A).has e∨(bU B).has e) s∧ScLe s (na+nb+4) ((ta+2)*(tb+2)+1):=by
 have hta:ta+2≤(ta+2)*(tb+2):=Nat.le_mul_of_pos_right _ zo;have htb:tb+2≤(ta+2)*(tb+2):=Nat.le_mul_of_pos_left _ zo;have hO:=(((Own.start hm).al #[.bool A.nul,.bool A.fal,.bool A.tru,vi,vf,vt] 29).al #[.bool B.nul,.bool B.fal,.bool B.tru,ui,uf,ut] 29).al #[.bool false,.bool false,.bool false,.slice none 0 0,.slice none 0 0,.slice none 0 0] 29;simp only[df] at hO;have HGA:=zh (fun w' (h:m.inn w')=>iB vi vf vt A m w' h htab ha (la.mono zo zo));have HGB:=zh (fun w' (h:m.inn w')=>iB ui uf ut B m w' h htab hb (lb.mono zo zo));have lx:=kE la;have ly:=kE lb;obtain⟨aa,ab,ac,ad,ae,af,rfl,rfl,rfl⟩:=ha.spell;obtain⟨ba,bb,bc,bd,be,bf,rfl,rfl,rfl⟩:=hb.spell;unfold RS.val at HGA HGB ⊢;have HO:=zh hO;clear hO ha hb la lb hta htb;generalize bU A=x at *
 generalize bU B=y at *
 refine aj fun R hR=>?_
 go_enter Tryz.func34,Tryz.ntmps34
 go_upto_region 1 with (fail)
 refine aA [4,5,6] (fun vs w'=>∃(mk:Mem) (g5 g6:Nat) (xa xc xe ya yc ye:Option Addr) (xb xd xf yb yd yf:Nat),vs=[.pointer (some ⟨w.heap.size+1+1,0,none⟩),.pointer (some ⟨g5,0,none⟩),.pointer (some ⟨g6,0,none⟩)] ∧
  ScAt mk (.slice xa x.i.length xb) (.slice xc x.f.length xd) (.slice xe x.t.length xf) x∧ScAt mk (.slice ya y.i.length yb) (.slice yc y.f.length yd) (.slice ye y.t.length yf) y∧m.le mk ∧
  Own w m w' mk [.obj g6 29 #[.bool y.nul,.bool y.fal,.bool y.tru,.slice ya y.i.length yb,.slice yc y.f.length yd,.slice ye y.t.length yf],.obj g5 29 #[.bool x.nul,.bool x.fal,.bool x.tru,.slice xa x.i.length xb,.slice xc x.f.length xd,.slice xe x.t.length xf],.obj (w.heap.size+1+1) 29 #[.bool false,.bool false,.bool false,.slice none 0 0,.slice none 0 0,.slice none 0 0]]) ?_ ?_
 ·intro X hX;refine aM 6 5 (fun j=>[Fact.is (·=.agg #[.bool A.nul,.bool A.fal,.bool A.tru,.slice aa A.i.length ab,.slice ac A.f.length ad,.slice ae A.t.length af]),Fact.mem m [1] (ScV x),Fact.is (·=.agg #[.bool B.nul,.bool B.fal,.bool B.tru,.slice ba B.i.length bb,.slice bc B.f.length bd,.slice be B.t.length bf]),Fact.mem m [3] (ScV y),Fact.obj 4 29 #[.bool false,.bool false,.bool false,.slice none 0 0,.slice none 0 0,.slice none 0 0],Fact.obj 5 29 #[.bool false,.bool false,.bool false,.slice none 0 0,.slice none 0 0,.slice none 0 0]].getD j Fact.any) zk zk ?_ ?_
  ·intro i hi o win a wr ho RA;have HO2:=HO.out.dr.move RA.below;obtain⟨p0,p1,p2,p3,p4,p5⟩:=HO2.third.obj.cs6;have pl:=HO2.third.obj.lt;obtain⟨q0,q1,q2,q3,q4,q5⟩:=HO2.swap.obj.cs6;have ql:=HO2.swap.obj.lt;rcases (show i=0∨i=1∨i=2∨i=3∨i=4∨i=5 by omega) with rfl | rfl | rfl | rfl | rfl | rfl
   ·have e2:=RA.k 2;cases ho;exact wv rfl rfl rfl
   ·have e7:a.tmps.getD 7 undef=_:=RA.d 0 rfl;cases ho;refine we rfl rfl (HGA.out wr HO2.inn) ?_;rintro e w' ⟨ri,rf,rt,rfl,hb,hn⟩;exact⟨_,rfl,_,rfl,hb,bH ScV.le HO2.inn hb (qh hn)⟩
   ·have e3:=RA.k 3;cases ho;exact wv rfl rfl rfl
   ·have e9:a.tmps.getD 9 undef=_:=RA.d 2 rfl;cases ho;refine we rfl rfl (HGB.out wr HO2.inn) ?_;rintro e w' ⟨ri,rf,rt,rfl,hb,hn⟩;exact⟨_,rfl,_,rfl,hb,bH ScV.le HO2.inn hb (qh hn)⟩
   ·cases ho;exact aB rfl rfl (aD zg ⟨_,rfl,aP (Below.refl _ _) _,lI win⟩)
   ·cases ho;exact aB rfl rfl (aD zg ⟨_,rfl,aP (Below.refl _ _) _,lI win⟩)
  ·intro win a wr E;have e4:=E.keep 4 zk;have e5:(Fact.obj 4 29 #[.bool false,.bool false,.bool false,.slice none 0 0,.slice none 0 0,.slice none 0 0]).holds (a.tmps.getD 5 undef) win wr:=E.fact 4 _ zo rfl;have e6:(Fact.obj 5 29 #[.bool false,.bool false,.bool false,.slice none 0 0,.slice none 0 0,.slice none 0 0]).holds (a.tmps.getD 6 undef) win wr:=E.fact 5 _ zo rfl;have e8:(Fact.mem m [1] (ScV x)).holds (a.tmps.getD 8 undef) win wr:=E.fact 1 _ zo rfl;have e10:(Fact.mem m [3] (ScV y)).holds (a.tmps.getD 10 undef) win wr:=E.fact 3 _ zo rfl;obtain⟨xa,xb,xc,xd,xe,xf,k1,st1⟩:ScV _ _ _:=e8;obtain⟨ya,yb,yc,yd,ye,yf,k2,st2⟩:ScV _ _ _:=e10;obtain⟨p1,n1,o1⟩:_∧_∧_:=e5;obtain⟨p2,n2,o2⟩:_∧_∧_:=e6;have g1:=E.rng 4 zo;have g2:=E.rng 5 zo;have far:∀j,j=4∨j=5→∀d∈[1,3],¬ ((win d).1≤(win j).1∧(win j).1<(win d).2):=by
    intro j hj d hd;have hd':d=1∨d=3:=by simpa using hd
    have:=E.apart j d zo zo zo;have:(win j).2=(win j).1+1:=by rcases hj with rfl | rfl <;> assumption
    omega
   have hmw:=(HO.out.dr.move E.below).inn;have hO1:=HO.out.dr.region E.below win [1,3] (fun d hd=>(E.rng d (by simp at hd;omega)).1);have hge:=HO.out.dr.below.size;have no:∀j,j=4∨j=5→m.wins wr win [1,3] (win j).1=none:=fun j hj=>
    Mem.lD (Mem.fe HO.out.dr.inn (E.rng j zo).1) (far j hj)
   have hL1:=HO.out.dr.kP g1.1;have hL2:=HO.out.dr.kP g2.1;have a12:=E.apart 4 5 zo zo zo;have hO2:=hO1.newObj o1 zo (no 4 zo) hL1;have hO2:=hO2.newObj o2 zo (no 5 zo) (mE zo hL2);have st1:=st1.le (Mem.cO (es:=[1,3]) hmw win zS);have st2:=st2.le (Mem.cO (es:=[1,3]) hmw win zS);have hle:=Mem.dw hmw win [1,3];have HK:=zh (zi st1 (zi st2 hle));have hne:(win 4).1≠(win 5).1:=zo;have hne2:(win 5).1≠(win 4).1:=zo;have HE:=zh E;generalize m.wins wr win [1,3]=mk2 at *
   generalize (win 4).1=gx at *
   generalize (win 5).1=gy at *
   clear st1 st2 hle hmw hL1 hL2 no far hO1 a12 g1 g2 o1 o2 n1 n2 hge E;obtain⟨p0,p1,p2,p3,p4,p5,pf0,pf1,pf2,pf3,pf4,pf5⟩:=hO2.swap.obj.cf6;have pl:=hO2.swap.obj.lt;have hO3:=((((((hO2.swap.set 0 (.bool x.nul)).set 1 (.bool x.fal)).set 2 (.bool x.tru)).set 3 (.slice xa x.i.length xb)).set 4 (.slice xc x.f.length xd)).set 5 (.slice xe x.t.length xf));refine bR 6 zk (aB rfl rfl (aS zg ?_));obtain⟨q0,q1,q2,q3,q4,q5,qf0,qf1,qf2,qf3,qf4,qf5⟩:=hO3.swap.obj.cf6;have ql:=hO3.swap.obj.lt;have HO4:=zh ((((((hO3.swap.set 0 (.bool y.nul)).set 1 (.bool y.fal)).set 2 (.bool y.tru)).set 3 (.slice ya y.i.length yb)).set 4 (.slice yc y.f.length yd)).set 5 (.slice ye y.t.length yf));clear hO2 hO3;refine bR 7 zk (aB rfl rfl (aS zg ?_));obtain⟨t,d⟩:=a;obtain rfl:d=[]:=HE.out.defers;refine aV zk (hX.out _ _ HE.out.size ⟨mk2,gx,gy,xa,xc,xe,ya,yc,ye,xb,xd,xf,yb,yd,yf,?_,HK.out.1,HK.out.2.1,HK.out.2.2,HO4.out.FN.FN⟩) _;simp only[List.map_cons,List.map_nil,e4,p1,p2]
   rfl
 rintro z2 vs w2 - ⟨mk,g5,g6,xa,xc,xe,ya,yc,ye,xb,xd,xf,yb,yd,yf,rfl,hx,hy,hle,hO⟩;simp[litL,lk];have HX:=zh (zi hx hy);have HO2:=zh hO;have HL:=zh (zi lx ly);have hmul:(x.t.length+2)*(y.t.length+2)≤(ta+2)*(tb+2):=Nat.mul_le_mul (Nat.add_le_add_right lx.t 2) (Nat.add_le_add_right ly.t 2);have hF:Fits x.t y.t:=Fits.of lx.t ly.t ht;have HF:=zh hF;have hli:=lx.i;have hlf:=lx.f;have hli2:=ly.i;have hlf2:=ly.f;have hNl:=Ja (fF hli hlf) (fF hli2 hlf2);have hN1:=hNl.i;have hN2:=hNl.f;rw[← NS.ky] at hN2;clear hO hx hy hle HO HGA HGB lx ly hF hNl
 go_upto_region 2 with (fail)
 refine aA [4] (fun vs w'=>∃(mk':Mem) (s:RS) (ra rc re:Option Addr) (rb rd rf:Nat),vs=[.pointer (some ⟨w.heap.size+1+1,0,none⟩)] ∧
  ScAt mk' (.slice ra s.i.length rb) (.slice rc s.f.length rd) (.slice re s.t.length rf) s∧ScIs (fun e=>x.has e∨y.has e) s∧ScLe s (na+nb+4) ((ta+2)*(tb+2)+1) ∧
  Own w m w' mk' [.obj (w.heap.size+1+1) 29 #[.bool s.nul,.bool s.fal,.bool s.tru,.slice ra s.i.length rb,.slice rc s.f.length rd,.slice re s.t.length rf]]) ?_ ?_
 ·intro X hX;refine aM 29 6 (fun j=>[Fact.is (·=.pointer (some ⟨g5,0,none⟩)),Fact.is (·=.bool x.nul),Fact.is (·=.bool x.nul),Fact.is (fun v=>x.nul=false→v=.pointer (some ⟨g6,0,none⟩)),Fact.is (fun v=>x.nul=false→v=.bool y.nul),Fact.is (·=.bool (x.nul || y.nul)),Fact.is (·=.pointer (some ⟨g5,1,none⟩)),Fact.is (·=.bool x.fal),Fact.is (·=.bool x.fal),Fact.is (fun v=>x.fal=false→v=.pointer (some ⟨g6,1,none⟩)),Fact.is (fun v=>x.fal=false→v=.bool y.fal),Fact.is (·=.bool (x.fal || y.fal)),Fact.is (·=.pointer (some ⟨g5,2,none⟩)),Fact.is (·=.bool x.tru),Fact.is (·=.bool x.tru),Fact.is (fun v=>x.tru=false→v=.pointer (some ⟨g6,2,none⟩)),Fact.is (fun v=>x.tru=false→v=.bool y.tru),Fact.is (·=.bool (x.tru || y.tru)),Fact.is (·=.pointer (some ⟨g5,3,none⟩)),Fact.is (·=.agg #[.slice xa x.i.length xb,.slice xc x.f.length xd]),Fact.is (·=.pointer (some ⟨g6,3,none⟩)),Fact.is (·=.agg #[.slice ya y.i.length yb,.slice yc y.f.length yd]),Fact.mem mk [22] (NumV (orN x.ns y.ns).i (orN x.ns y.ns).rf),Fact.is (·=.pointer (some ⟨g5,5,none⟩)),Fact.is (·=.agg #[.slice xe x.t.length xf]),Fact.is (·=.pointer (some ⟨g6,5,none⟩)),Fact.is (·=.agg #[.slice ye y.t.length yf]),Fact.mem mk [27] (vF (fun z=>Sem x.t z || Sem y.t z) ((ta+2)*(tb+2)+1)),Fact.mem mk [22,27] (ScRV (fun e=>x.has e∨y.has e) (na+nb+4) ((ta+2)*(tb+2)+1))].getD j Fact.any) zk zk ?_ ?_
  ·intro i hi o win a wr ho RA;have HO3:=HO2.out.dr.move RA.below;obtain⟨p0,p1,p2,p3,p4,p5⟩:=HO3.swap.obj.cs6;have pl:=HO3.swap.obj.lt;obtain⟨q0,q1,q2,q3,q4,q5⟩:=HO3.obj.cs6;have ql:=HO3.obj.lt;rcases (show i=0∨i=1∨i=2∨i=3∨i=4∨i=5∨i=6∨i=7∨i=8∨i=9∨i=10∨i=11∨i=12∨i=13∨i=14∨i=15∨i=16∨i=17∨i=18∨i=19∨i=20∨i=21∨i=22∨i=23∨i=24∨i=25∨i=26∨i=27∨i=28 by omega) with rfl | rfl | rfl | rfl | rfl | rfl | rfl | rfl | rfl | rfl | rfl | rfl | rfl | rfl | rfl | rfl | rfl | rfl | rfl | rfl | rfl | rfl | rfl | rfl | rfl | rfl | rfl | rfl | rfl
   ·have e5:=RA.k 5;cases ho;exact wv rfl rfl rfl
   ·have e11:a.tmps.getD 11 undef=_:=RA.d 0 rfl;cases ho;exact wv rfl rfl rfl
   ·have e12:a.tmps.getD 12 undef=_:=RA.d 1 rfl;cases ho;exact wv rfl rfl rfl
   ·have e6:=RA.k 6;have e13:a.tmps.getD 13 undef=_:=RA.d 2 rfl;cases ho;rcases Bool.eq_false_or_eq_true x.nul with hb | hb
    ·rw[hb] at e13;exact gH rfl (eF rfl rfl e13 rfl) ⟨_,rfl,Below.refl _ _,fun h=>absurd (h.symm.trans hb) zD⟩
    ·rw[hb] at e13;exact dU rfl (dA rfl rfl e13) (aD zg ⟨_,rfl,Below.refl _ _,fun _=>rfl⟩)
   ·have e14:(Fact.is (fun v=>x.nul=false→v=.pointer (some ⟨g6,0,none⟩))).holds (a.tmps.getD 14 undef) win wr:=RA.d 3 rfl;have e13:a.tmps.getD 13 undef=_:=RA.d 2 rfl;cases ho;rcases Bool.eq_false_or_eq_true x.nul with hb | hb
    ·rw[hb] at e13;exact gH rfl (eF rfl rfl e13 rfl) ⟨_,rfl,Below.refl _ _,fun h=>absurd (h.symm.trans hb) zD⟩
    ·rw[hb] at e13;replace e14:a.tmps.getD 14 undef=_:=e14 hb;exact dU rfl (dA rfl rfl e13) (aD zg ⟨_,rfl,Below.refl _ _,fun _=>rfl⟩)
   ·have e13:a.tmps.getD 13 undef=_:=RA.d 2 rfl;have e15:(Fact.is (fun v=>x.nul=false→v=.bool y.nul)).holds (a.tmps.getD 15 undef) win wr:=RA.d 4 rfl;cases ho;rcases Bool.eq_false_or_eq_true x.nul with hb | hb
    ·rw[hb] at e13;exact aB rfl rfl (aD zg ⟨_,rfl,Below.refl _ _,by show _=Value.bool (x.nul || y.nul);rw[hb];rfl⟩)
    ·rw[hb] at e13;replace e15:a.tmps.getD 15 undef=_:=e15 hb;exact aB rfl rfl (aD zg ⟨_,rfl,Below.refl _ _,by show _=Value.bool (x.nul || y.nul);rw[hb];rfl⟩)
   ·have e5:=RA.k 5;cases ho;exact wv rfl rfl rfl
   ·have e17:a.tmps.getD 17 undef=_:=RA.d 6 rfl;cases ho;exact wv rfl rfl rfl
   ·have e18:a.tmps.getD 18 undef=_:=RA.d 7 rfl;cases ho;exact wv rfl rfl rfl
   ·have e6:=RA.k 6;have e19:a.tmps.getD 19 undef=_:=RA.d 8 rfl;cases ho;rcases Bool.eq_false_or_eq_true x.fal with hb | hb
    ·rw[hb] at e19;exact gH rfl (eF rfl rfl e19 rfl) ⟨_,rfl,Below.refl _ _,fun h=>absurd (h.symm.trans hb) zD⟩
    ·rw[hb] at e19;exact dU rfl (dA rfl rfl e19) (aD zg ⟨_,rfl,Below.refl _ _,fun _=>rfl⟩)
   ·have e20:(Fact.is (fun v=>x.fal=false→v=.pointer (some ⟨g6,1,none⟩))).holds (a.tmps.getD 20 undef) win wr:=RA.d 9 rfl;have e19:a.tmps.getD 19 undef=_:=RA.d 8 rfl;cases ho;rcases Bool.eq_false_or_eq_true x.fal with hb | hb
    ·rw[hb] at e19;exact gH rfl (eF rfl rfl e19 rfl) ⟨_,rfl,Below.refl _ _,fun h=>absurd (h.symm.trans hb) zD⟩
    ·rw[hb] at e19;replace e20:a.tmps.getD 20 undef=_:=e20 hb;exact dU rfl (dA rfl rfl e19) (aD zg ⟨_,rfl,Below.refl _ _,fun _=>rfl⟩)
   ·have e19:a.tmps.getD 19 undef=_:=RA.d 8 rfl;have e21:(Fact.is (fun v=>x.fal=false→v=.bool y.fal)).holds (a.tmps.getD 21 undef) win wr:=RA.d 10 rfl;cases ho;rcases Bool.eq_false_or_eq_true x.fal with hb | hb
    ·rw[hb] at e19;exact aB rfl rfl (aD zg ⟨_,rfl,Below.refl _ _,by show _=Value.bool (x.fal || y.fal);rw[hb];rfl⟩)
    ·rw[hb] at e19;replace e21:a.tmps.getD 21 undef=_:=e21 hb;exact aB rfl rfl (aD zg ⟨_,rfl,Below.refl _ _,by show _=Value.bool (x.fal || y.fal);rw[hb];rfl⟩)
   ·have e5:=RA.k 5;cases ho;exact wv rfl rfl rfl
   ·have e23:a.tmps.getD 23 undef=_:=RA.d 12 rfl;cases ho;exact wv rfl rfl rfl
   ·have e24:a.tmps.getD 24 undef=_:=RA.d 13 rfl;cases ho;exact wv rfl rfl rfl
   ·have e6:=RA.k 6;have e25:a.tmps.getD 25 undef=_:=RA.d 14 rfl;cases ho;rcases Bool.eq_false_or_eq_true x.tru with hb | hb
    ·rw[hb] at e25;exact gH rfl (eF rfl rfl e25 rfl) ⟨_,rfl,Below.refl _ _,fun h=>absurd (h.symm.trans hb) zD⟩
    ·rw[hb] at e25;exact dU rfl (dA rfl rfl e25) (aD zg ⟨_,rfl,Below.refl _ _,fun _=>rfl⟩)
   ·have e26:(Fact.is (fun v=>x.tru=false→v=.pointer (some ⟨g6,2,none⟩))).holds (a.tmps.getD 26 undef) win wr:=RA.d 15 rfl;have e25:a.tmps.getD 25 undef=_:=RA.d 14 rfl;cases ho;rcases Bool.eq_false_or_eq_true x.tru with hb | hb
    ·rw[hb] at e25;exact gH rfl (eF rfl rfl e25 rfl) ⟨_,rfl,Below.refl _ _,fun h=>absurd (h.symm.trans hb) zD⟩
    ·rw[hb] at e25;replace e26:a.tmps.getD 26 undef=_:=e26 hb;exact dU rfl (dA rfl rfl e25) (aD zg ⟨_,rfl,Below.refl _ _,fun _=>rfl⟩)
   ·have e25:a.tmps.getD 25 undef=_:=RA.d 14 rfl;have e27:(Fact.is (fun v=>x.tru=false→v=.bool y.tru)).holds (a.tmps.getD 27 undef) win wr:=RA.d 16 rfl;cases ho;rcases Bool.eq_false_or_eq_true x.tru with hb | hb
    ·rw[hb] at e25;exact aB rfl rfl (aD zg ⟨_,rfl,Below.refl _ _,by show _=Value.bool (x.tru || y.tru);rw[hb];rfl⟩)
    ·rw[hb] at e25;replace e27:a.tmps.getD 27 undef=_:=e27 hb;exact aB rfl rfl (aD zg ⟨_,rfl,Below.refl _ _,by show _=Value.bool (x.tru || y.tru);rw[hb];rfl⟩)
   ·have e5:=RA.k 5;cases ho;exact wv rfl rfl rfl
   ·have e29:a.tmps.getD 29 undef=_:=RA.d 18 rfl;cases ho;exact wv rfl rfl rfl
   ·have e6:=RA.k 6;cases ho;exact wv rfl rfl rfl
   ·have e31:a.tmps.getD 31 undef=_:=RA.d 20 rfl;cases ho;exact wv rfl rfl rfl
   ·have e30:a.tmps.getD 30 undef=_:=RA.d 19 rfl;have e32:a.tmps.getD 32 undef=_:=RA.d 21 rfl;cases ho;refine we rfl rfl (EA _ _ x.i x.f _ _ y.i y.f mk wr HO3.inn HX.out.1.nums HX.out.2.nums zo zo zo zo) ?_;rintro e w' ⟨ri,rf,rfl,hb,hn⟩;exact⟨_,rfl,_,rfl,hb,bH NumV.le HO3.inn hb (iD hn)⟩
   ·have e5:=RA.k 5;cases ho;exact wv rfl rfl rfl
   ·have e34:a.tmps.getD 34 undef=_:=RA.d 23 rfl;cases ho;exact wv rfl rfl rfl
   ·have e6:=RA.k 6;cases ho;exact wv rfl rfl rfl
   ·have e36:a.tmps.getD 36 undef=_:=RA.d 25 rfl;cases ho;exact wv rfl rfl rfl
   ·have e35:a.tmps.getD 35 undef=_:=RA.d 24 rfl;have e37:a.tmps.getD 37 undef=_:=RA.d 26 rfl;cases ho;refine we rfl rfl (M5 _ _ x.t y.t mk wr HO3.inn HX.out.1.t HX.out.2.t HF.out) ?_;rintro e w' ⟨r,C,rfl,hb,hst,hl,hn⟩;exact⟨_,rfl,_,rfl,hb,xW HO3.inn hb hst hl zo⟩
   ·have e16:a.tmps.getD 16 undef=_:=RA.d 5 rfl;have e22:a.tmps.getD 22 undef=_:=RA.d 11 rfl;have e28:a.tmps.getD 28 undef=_:=RA.d 17 rfl;have e33:(Fact.mem mk [22] (NumV (orN x.ns y.ns).i (orN x.ns y.ns).rf)).holds (a.tmps.getD 33 undef) win wr:=RA.d 22 rfl;have e38:(Fact.mem mk [27] (vF (fun z=>Sem x.t z || Sem y.t z) ((ta+2)*(tb+2)+1))).holds (a.tmps.getD 38 undef) win wr:=RA.d 27 rfl;have f16:=(Array.getD_eq_getD_getElem? (xs:=a.tmps) (i:=16) (d:=undef)).symm.trans e16;have f22:=(Array.getD_eq_getD_getElem? (xs:=a.tmps) (i:=22) (d:=undef)).symm.trans e22;have f28:=(Array.getD_eq_getD_getElem? (xs:=a.tmps) (i:=28) (d:=undef)).symm.trans e28;cases ho;obtain⟨r1,s1,r2,s2,k1,t1⟩:NumV _ _ _ _:=e33;obtain⟨r3,s3,C,k2,t2,l2,n2⟩:vF _ _ _ _:=e38;have f33:=(Array.getD_eq_getD_getElem? (xs:=a.tmps) (i:=33) (d:=undef)).symm.trans k1;have f38:=(Array.getD_eq_getD_getElem? (xs:=a.tmps) (i:=38) (d:=undef)).symm.trans k2;have t1:=t1.le (Mem.cO (es:=[22,27]) HO3.inn win zS);have t2:=aK (Mem.cO (es:=[22,27]) HO3.inn win zS) t2;have hS:ScIs (fun e=>x.has e∨y.has e) ⟨(x.nul || y.nul),(x.fal || y.fal),(x.tru || y.tru),(orN x.ns y.ns).i,(orN x.ns y.ns).rf,C⟩:=CG (a:=x) (b:=y) (fun p q=>p∨q) zS zS zS (yZ x.lJ y.lJ) (vW _ _) l2.canon (fun z=>by rw[l2.sem];simp);exact aB rfl rfl (aD zg ⟨_,rfl,Below.refl _ _,oU [22,27] (R:=ScRV _ _ _) win zS (fun d hd=>(RA.rng d (by simp at hd;rcases hd with rfl | rfl <;> kernel_rfl)).2.2) ⟨_,⟨r1,s1,r2,s2,r3,s3,rfl,⟨t1.i,t1.f,t2⟩⟩,hS,⟨by show (orN x.ns y.ns).i.length≤_;unfold RS.ns;omega,by show (orN x.ns y.ns).rf.length≤_;unfold RS.ns;omega,n2⟩⟩⟩)
  ·intro win a wr E;have e4:=E.keep 4 zk;have e39:(Fact.mem mk [22,27] (ScRV (fun e=>x.has e∨y.has e) (na+nb+4) ((ta+2)*(tb+2)+1))).holds (a.tmps.getD 39 undef) win wr:=E.fact 28 _ zo rfl;obtain⟨s,⟨ra,rb,rc,rd,re,rf,k1,st1⟩,hS,hL⟩:ScRV _ _ _ _ _:=e39;have hO1:=HO2.out.dr.region E.below win [22,27] (fun d hd=>(E.rng d (by simp at hd;omega)).1);have HE:=zh E;generalize mk.wins wr win [22,27]=mk2 at *
   have HK:=zh (zi st1 (zi hS hL));clear E st1 hS hL;obtain⟨p0,p1,p2,p3,p4,p5,pf0,pf1,pf2,pf3,pf4,pf5⟩:=hO1.third.obj.cf6;have pl:=hO1.third.obj.lt;have HO4:=zh ((((((hO1.third.set 0 (.bool s.nul)).set 1 (.bool s.fal)).set 2 (.bool s.tru)).set 3 (.slice ra s.i.length rb)).set 4 (.slice rc s.f.length rd)).set 5 (.slice re s.t.length rf));clear hO1;refine bR 29 zk (aB rfl rfl (aS zg ?_));obtain⟨t,d⟩:=a;obtain rfl:d=[]:=HE.out.defers;refine aV zk (hX.out _ _ HE.out.size ⟨mk2,s,ra,rc,re,rb,rd,rf,?_,HK.out.1,HK.out.2.1,HK.out.2.2,HO4.out.drop2.drop2⟩) _;simp only[List.map_cons,List.map_nil,e4]
   rfl
 rintro z3 vs w3 - ⟨mk',s,ra,rc,re,rb,rd,rf,rfl,hs,hS,hL,hO⟩;simp[litL,lk];obtain⟨g0,g1,g2,g3,g4,g5⟩:=hO.obj.cs6;have gl:=hO.obj.lt;have Hk:=zh (zi hO.below (zi (hs.le hO.done) (zi hS hL)));clear hO hs hS hL HO2 HX HF HL hmul hN1 hN2;go_wp2;refine bodyPost_ret (v:=.agg #[.bool s.nul,.bool s.fal,.bool s.tru,.slice ra s.i.length rb,.slice rc s.f.length rd,.slice re s.t.length rf]) (by simp[results,Tryz.results34,go_sem,g0,g1,g2,g3,g4,g5]) rfl ?_;exact hR.out _ _ ⟨s,_,_,_,rfl,Hk.out.1,Hk.out.2.1,Hk.out.2.2.1,Hk.out.2.2.2⟩
theorem Ij (x:RS) (hx:x.gK):tf (∀e,¬ x.has e)=(!x.nul && !x.fal && !x.tru&&tf (x.ns=j3)&&decide (x.t.length=0)):=by
 rw[Bool.eq_iff_iff];simp only[Bool.and_eq_true,Bool.not_eq_true',decide_eq_true_eq,yw];constructor
 ·intro h;have h1:=h .nul;have h2:=h .fal;have h3:=h .tru;simp only[RS.has,Bool.not_eq_true] at h1 h2 h3;refine ⟨⟨⟨⟨h1,h2⟩,h3⟩,rO x.lJ lM fun u=>⟨fun hu=>absurd hu (h (.num u)),fun hu=>absurd hu (je u)⟩⟩,?_⟩;have:x.t=[]:=lQ hx.ct eu fun z=>by
   have hz:=h (.str z);simp only[RS.has,Bool.not_eq_true,gD hx.ct] at hz;rw[hz,dC]
  rw[this];rfl
 ·rintro ⟨⟨⟨⟨h1,h2⟩,h3⟩,h4⟩,h5⟩ e;have h5':=List.eq_nil_of_length_eq_zero h5
  cases e with
  | nul=>simp[RS.has,h1]
  | fal=>simp[RS.has,h2]
  | tru=>simp[RS.has,h3]
  | num u=>simp only[RS.has,h4];exact je u
  | str z=>simp only[RS.has,h5',gD eu,dC];simp
theorem wT (vi vf vt:Value) (s:RS) (m:Mem) (w:World) (hm:m.inn w) (htab:TabM m) (hs:ScAt m vi vf vt s) (hl:ScLe s 30000 100000) :
 Calls Tryz.prog 38 #[s.val vi vf vt] w fun e w'=>e=.returned (.bool (nk s))∧Below w.heap.size w w':=by
 have hO:=(Own.start hm).al #[.bool s.nul,.bool s.fal,.bool s.tru,vi,vf,vt] 29;have HG:=zh (iB vi vf vt s m _ hO.inn htab hs (hl.mono zo zo));have HE:=zh (show nk s=(!(bU s).nul && !(bU s).fal && !(bU s).tru&&tf ((bU s).ns=j3)&&decide ((bU s).t.length=0)) from Ij _ (zK s));have lx:=kE hl;obtain⟨a1,b1,a2,b2,a3,b3,rfl,rfl,rfl⟩:=hs.spell;unfold RS.val at HG ⊢;have HO:=zh hO;clear hO hs hl;generalize nk s=EB at *
 generalize bU s=x at *
 have hli:=lx.i;have hlf:=lx.f;have hlt:=lx.t;clear lx;refine aj fun R hR=>?_
 go_enter Tryz.func38,Tryz.ntmps38
 go_wp2_with fail
 refine HG.out.mono ?_;rintro e w1 ⟨ri,rf,rt,rfl,hb1,hx⟩;have hO1:=HO.out.call hb1;obtain⟨ra,rb,rc,rd,re,rf',rfl,rfl,rfl⟩:=hx.spell;have hO2:=hO1.al #[.bool x.nul,.bool x.fal,.bool x.tru,.slice ra x.i.length rb,.slice rc x.f.length rd,.slice re x.t.length rf'] 29;have HN:=zh (ED _ _ x.i x.f _ _ hO2.inn hx.nums zo zo);have hns:tf (mkN x.i x.f=j3)=tf (x.ns=j3):=rfl;rw[hns] at HN;have HO2:=zh hO2;generalize hnE:tf (x.ns=j3)=bE at *
 generalize hnT:decide (x.t.length=0)=bT at *
 have HT:=zh (show ((x.t.length:Int)==0)=bT by rw[← hnT,uG]);generalize x.nul=bn at *
 generalize x.fal=bf at *
 generalize x.tru=bt at *
 clear hO1 hO2 HG HO hb1 hx hns hnE hnT
 cases bn with
 | true=>
  have HE2:=zh (show EB=false by rw[HE.out];simp);have HB:=zh HO2.out.below;clear HN HO2 HE HT;go_wp2
  exact hR.out _ _ ⟨aQ (by rw[HE2.out]),HB.out⟩
 | false=>
  cases bf with
  | true=>
   have HE2:=zh (show EB=false by rw[HE.out];simp);have HB:=zh HO2.out.below;clear HN HO2 HE HT;go_wp2
   exact hR.out _ _ ⟨aQ (by rw[HE2.out]),HB.out⟩
  | false=>
   cases bt with
   | true=>
    have HE2:=zh (show EB=false by rw[HE.out];simp);have HB:=zh HO2.out.below;clear HN HO2 HE HT;go_wp2
    exact hR.out _ _ ⟨aQ (by rw[HE2.out]),HB.out⟩
   | false=>
    go_wp2_with fail
    refine HN.out.mono ?_;rintro e w2 ⟨rfl,hb2⟩;have hO:=HO2.out.move hb2;have q5:=hO.obj.cell (i:=5) rfl;have q6:=hO.obj.lt;have HB:=zh hO.below;clear HN HO2 hb2 hO
    cases bE with
    | false=>
     have HE2:=zh (show EB=false by rw[HE.out];simp);clear HE HT;go_wp2
     exact hR.out _ _ ⟨aQ (by rw[HE2.out]),HB.out⟩
    | true=>
     have HE2:=zh (show EB=bT by rw[HE.out];simp);have ht2:=HT.out;clear HE HT;generalize x.t.length=lt at *
     go_wp2;exact hR.out _ _ ⟨aQ (by rw[HE2.out,← ht2]),HB.out⟩
theorem CL (vi vf vt:Value) (A:RS) (ui uf ut:Value) (B:RS) (na ta nb tb:Nat) (m:Mem) (w:World) (hm:m.inn w) (htab:TabM m) (ha:ScAt m vi vf vt A) (hb:ScAt m ui uf ut B) (la:ScLe A na ta) (lb:ScLe B nb tb) (hn1:na≤250) (hn2:nb≤250) (ht:(ta+2)*(tb+2)≤99999) :
 Calls Tryz.prog 37 #[A.val vi vf vt,B.val ui uf ut] w fun e w'=>e=.returned (.bool (subB A B))∧Below w.heap.size w w':=by
 have hO:=((Own.start hm).al #[.bool A.nul,.bool A.fal,.bool A.tru,vi,vf,vt] 29).al #[.bool B.nul,.bool B.fal,.bool B.tru,ui,uf,ut] 29;simp only[df] at hO;have HC:=zh (qj vi vf vt A ui uf ut B na ta nb tb m _ hO.inn htab ha hb la lb hn1 hn2 zo);obtain⟨aa,ab,ac,ad,ae,af,rfl,rfl,rfl⟩:=ha.spell;obtain⟨ba,bb,bc,bd,be,bf,rfl,rfl,rfl⟩:=hb.spell;unfold RS.val at HC ⊢;have HO:=zh hO;clear hO ha hb la lb;refine aj fun R hR=>?_
 go_enter Tryz.func37,Tryz.ntmps37
 go_wp2_with fail
 refine HC.out.mono ?_;rintro e w1 ⟨s,si,sf,st,rfl,hb1,hs,hS,hL⟩;have hO1:=HO.out.call hb1;have HM:=zh (wT si sf st s _ w1 hO1.inn (htab.le hO1.ext.1) hs (hL.mono zo zo));rw[yx hS] at HM;obtain⟨ra,rb,rc,rd,re,rf,rfl,rfl,rfl⟩:=hs.spell;unfold RS.val at HM;have HO1:=zh hO1;clear HC HO hb1 hs hS hL hO1
 go_wp2_with fail
 refine HM.out.mono ?_;rintro e w2 ⟨rfl,hb2⟩;have HB:=zh (HO1.out.move hb2).below;clear HM HO1 hb2;generalize subB A B=bo at *
 go_wp2;exact hR.out _ _ ⟨rfl,HB.out⟩
theorem wG (A1 A2 A3:Value) (A:RS) (B1 B2 B3:Value) (B:RS) (m:Mem) (w:World) (hm:m.inn w) (htab:TabM m) (hA:ScAt m A1 A2 A3 A) (hB:ScAt m B1 B2 B3 B) :
 Calls Tryz.prog 6 #[A.val A1 A2 A3,B.val B1 B2 B3] w fun e w'=>e=.returned (.bool true)∧Below w.heap.size w w':=by
 obtain⟨aa,ab,ac,ad,ae,af,rfl,rfl,rfl⟩:=hA.spell;obtain⟨ba,bb,bc,bd,be,bf,rfl,rfl,rfl⟩:=hB.spell;have hO:=Own.start hm;have l0:=Mem.le_refl m;obtain⟨m1,k1,bA,hO⟩:=kZ 29 hO (hA.le l0);have l1:=Mem.le_trans l0 k1;obtain⟨m2,k2,bB,hO⟩:=kZ 29 hO (hB.le l1);have l2:=Mem.le_trans l1 k2;have bA:=bA.le k2;have HT:=zh (htab.le l2);simp only[df] at hO bB;have HO:=zh hO;clear hO htab hA hB l1 k1 l2 k2 l0;unfold RS.val;refine aj fun R hR=>?_
 go_enter Tryz.func6,Tryz.ntmps6
 go_upto_region 1 with (fail)
 generalize hW:((w.alloc (.cells #[.bool A.nul,.bool A.fal,.bool A.tru,.slice aa A.i.length ab,.slice ac A.f.length ad,.slice ae A.t.length af] 29)).alloc (.cells #[.bool B.nul,.bool B.fal,.bool B.tru,.slice ba B.i.length bb,.slice bc B.f.length bd,.slice be B.t.length bf] 29))=w0 at *
 clear hW;refine aA [2,3,9] (fun vs w'=>∃c:Bool,vs=[.pointer (some ⟨w.heap.size,0,none⟩),.pointer (some ⟨w.heap.size+1,0,none⟩),.bool c]∧Own w m w' m2 []∧(c=false→(∀s∈[A,B],gZ s))) ?_ ?_
 ·intro X hX;obtain⟨yA0,yA1,yA2,yA3,yA4,yA5⟩:=bA.cw HO.out.inn;have yAl:=Mem.ak HO.out.inn bA.c0;obtain⟨yB0,yB1,yB2,yB3,yB4,yB5⟩:=bB.cw HO.out.inn;have yBl:=Mem.ak HO.out.inn bB.c0;have hO2:=HO.out.al #[.bool A.nul,.bool A.fal,.bool A.tru,.slice aa A.i.length ab,.slice ac A.f.length ad,.slice ae A.t.length af,.bool B.nul,.bool B.fal,.bool B.tru,.slice ba B.i.length bb,.slice bc B.f.length bd,.slice be B.t.length bf] 29;have HB:=zh (jc _ [A,B] _ _ hO2.ib.inn (MN hO2 bA.at' bB.at'));have HO:=zh hO2.tail;clear hO2
  go_wp2_with fail
  refine HB.out.mono ?_;rintro e w3 ⟨rfl,hb⟩;have HO:=zh (HO.out.move hb);clear HB hb;clear yA0 yA1 yA2 yA3 yA4 yA5 yAl yB0 yB1 yB2 yB3 yB4 yB5 yBl;by_cases h:∀s∈[A,B],gZ s
  case neg=>
   rw[aL h];clear h;go_wp2;exact hX.out _ _ rfl ⟨true,rfl,HO.out,fun h=>by cases h⟩
  rw[aN h];have HG0:=zh h;clear h;go_wp2;exact hX.out _ _ rfl ⟨false,rfl,HO.out,fun _=>HG0.out⟩
 rintro z vs w1 - ⟨c,rfl,hO,hc⟩;simp[litL,lk];clear HO;have HO:=zh hO;have HC:=zh hc;clear hO hc
 cases c with
 | true=>
  clear HC
  go_wp2_with fail
  refine (bJ m2 _ HO.out.inn HT.out).mono ?_;rintro e w2 ⟨rfl,hb⟩;have HE:=zh (HO.out.move hb).below;clear hb HO;go_wp2
  exact hR.out _ _ ⟨rfl,HE.out⟩
 | false=>
  have g0:=HC.out rfl;clear HC;have LA:=zh ((tY g0).1);have LB:=zh ((tY g0).2);clear g0;obtain⟨PA,GA⟩:∃p:El→Prop,∀e,(bU A).has e↔p e:=⟨_,fun _=>Iff.rfl⟩;have GA:=zh GA;obtain⟨PB,GB⟩:∃p:El→Prop,∀e,(bU B).has e↔p e:=⟨_,fun _=>Iff.rfl⟩;have GB:=zh GB
  go_upto_region 3 with (fail)
  refine aA [4] (fun vs w'=>vs=[.bool true]∧Own w m w' m2 []) ?_ ?_
  ·intro X hX;refine aM 45 6 (fun j=>[Fact.is (·=.agg #[.bool A.nul,.bool A.fal,.bool A.tru,.slice aa A.i.length ab,.slice ac A.f.length ad,.slice ae A.t.length af]),Fact.is (·=.agg #[.bool B.nul,.bool B.fal,.bool B.tru,.slice ba B.i.length bb,.slice bc B.f.length bd,.slice be B.t.length bf]),Fact.mem m2 [2] (ScRV (fun e=>(PA e)∧(PB e)) 20 101),Fact.is (·=.agg #[.bool A.nul,.bool A.fal,.bool A.tru,.slice aa A.i.length ab,.slice ac A.f.length ad,.slice ae A.t.length af]),Fact.is (·=.agg #[.bool B.nul,.bool B.fal,.bool B.tru,.slice ba B.i.length bb,.slice bc B.f.length bd,.slice be B.t.length bf]),Fact.mem m2 [5] (ScRV (fun e=>(PA e)∧(PB e)) 20 101),Fact.is (·=.bool true),Fact.is (·=.bool true),Fact.is (·=.agg #[.bool A.nul,.bool A.fal,.bool A.tru,.slice aa A.i.length ab,.slice ac A.f.length ad,.slice ae A.t.length af]),Fact.is (·=.agg #[.bool B.nul,.bool B.fal,.bool B.tru,.slice ba B.i.length bb,.slice bc B.f.length bd,.slice be B.t.length bf]),Fact.mem m2 [10] (ScRV (fun e=>(PA e)∨(PB e)) 20 101),Fact.is (·=.agg #[.bool A.nul,.bool A.fal,.bool A.tru,.slice aa A.i.length ab,.slice ac A.f.length ad,.slice ae A.t.length af]),Fact.is (·=.agg #[.bool B.nul,.bool B.fal,.bool B.tru,.slice ba B.i.length bb,.slice bc B.f.length bd,.slice be B.t.length bf]),Fact.mem m2 [13] (ScRV (fun e=>(PA e)∨(PB e)) 20 101),Fact.is (·=.bool true),Fact.is (·=.bool true),Fact.is (·=.bool true),Fact.is (·=.agg #[.bool A.nul,.bool A.fal,.bool A.tru,.slice aa A.i.length ab,.slice ac A.f.length ad,.slice ae A.t.length af]),Fact.is (·=.agg #[.bool B.nul,.bool B.fal,.bool B.tru,.slice ba B.i.length bb,.slice bc B.f.length bd,.slice be B.t.length bf]),Fact.mem m2 [19] (ScRV (fun e=>(PA e)∧¬ (PB e)) 20 101),Fact.is (·=.agg #[.bool A.nul,.bool A.fal,.bool A.tru,.slice aa A.i.length ab,.slice ac A.f.length ad,.slice ae A.t.length af]),Fact.is (·=.agg #[.bool B.nul,.bool B.fal,.bool B.tru,.slice ba B.i.length bb,.slice bc B.f.length bd,.slice be B.t.length bf]),Fact.mem m2 [22] (ScRV (fun e=>(PA e)∧¬ (PB e)) 20 101),Fact.is (·=.bool true),Fact.is (·=.bool true),Fact.is (·=.bool true),Fact.is (·=.agg #[.bool A.nul,.bool A.fal,.bool A.tru,.slice aa A.i.length ab,.slice ac A.f.length ad,.slice ae A.t.length af]),Fact.is (·=.agg #[.bool B.nul,.bool B.fal,.bool B.tru,.slice ba B.i.length bb,.slice bc B.f.length bd,.slice be B.t.length bf]),Fact.is (·=.bool (subB A B)),Fact.is (·=.agg #[.bool A.nul,.bool A.fal,.bool A.tru,.slice aa A.i.length ab,.slice ac A.f.length ad,.slice ae A.t.length af]),Fact.is (·=.agg #[.bool B.nul,.bool B.fal,.bool B.tru,.slice ba B.i.length bb,.slice bc B.f.length bd,.slice be B.t.length bf]),Fact.is (·=.bool (subB A B)),Fact.is (·=.bool true),Fact.is (·=.bool true),Fact.is (·=.bool true),Fact.is (·=.agg #[.bool A.nul,.bool A.fal,.bool A.tru,.slice aa A.i.length ab,.slice ac A.f.length ad,.slice ae A.t.length af]),Fact.is (·=.bool (nk A)),Fact.is (·=.agg #[.bool A.nul,.bool A.fal,.bool A.tru,.slice aa A.i.length ab,.slice ac A.f.length ad,.slice ae A.t.length af]),Fact.is (·=.bool (nk A)),Fact.is (·=.bool true),Fact.is (·=.bool true),Fact.is (·=.bool true),Fact.is (·=.bool true),Fact.is (·=.bool true),Fact.is (·=.bool true)].getD j Fact.any) zk zk ?_ ?_
   ·intro i hi o win a wr ho RA;have HO2:=HO.out.dr.move RA.below;obtain⟨y20,y21,y22,y23,y24,y25⟩:=bA.cw HO2.inn;have y2l:=Mem.ak HO2.inn bA.c0;obtain⟨y30,y31,y32,y33,y34,y35⟩:=bB.cw HO2.inn;have y3l:=Mem.ak HO2.inn bB.c0;rcases (show i=0∨i=1∨i=2∨i=3∨i=4∨i=5∨i=6∨i=7∨i=8∨i=9∨i=10∨i=11∨i=12∨i=13∨i=14∨i=15∨i=16∨i=17∨i=18∨i=19∨i=20∨i=21∨i=22∨i=23∨i=24∨i=25∨i=26∨i=27∨i=28∨i=29∨i=30∨i=31∨i=32∨i=33∨i=34∨i=35∨i=36∨i=37∨i=38∨i=39∨i=40∨i=41∨i=42∨i=43∨i=44 by omega) with rfl | rfl | rfl | rfl | rfl | rfl | rfl | rfl | rfl | rfl | rfl | rfl | rfl | rfl | rfl | rfl | rfl | rfl | rfl | rfl | rfl | rfl | rfl | rfl | rfl | rfl | rfl | rfl | rfl | rfl | rfl | rfl | rfl | rfl | rfl | rfl | rfl | rfl | rfl | rfl | rfl | rfl | rfl | rfl | rfl
    ·have e2:=RA.k 2;cases ho;exact wv rfl rfl rfl
    ·have e3:=RA.k 3;cases ho;exact wv rfl rfl rfl
    ·have e11:a.tmps.getD 11 undef=_:=RA.d 0 rfl;have e12:a.tmps.getD 12 undef=_:=RA.d 1 rfl;cases ho;refine we rfl rfl (iM _ _ _ A _ _ _ B 8 8 8 8 m2 wr HO2.inn HT.out bA.at' bB.at' LA.out LB.out zo zo zo) ?_;rintro e w' ⟨s,si,sf,st,rfl,hb,hn,hS,hL⟩;exact⟨_,rfl,_,rfl,hb,bH (R:=ScRV (fun e=>(PA e)∧(PB e)) 20 101) ScRV.le HO2.inn hb (d9 hn (hS.congr fun e=>and_congr (GA.out e) (GB.out e)) hL)⟩
    ·have e2:=RA.k 2;cases ho;exact wv rfl rfl rfl
    ·have e3:=RA.k 3;cases ho;exact wv rfl rfl rfl
    ·have e14:a.tmps.getD 14 undef=_:=RA.d 3 rfl;have e15:a.tmps.getD 15 undef=_:=RA.d 4 rfl;cases ho;refine we rfl rfl (Km _ _ _ A _ _ _ B 8 8 8 8 m2 wr HO2.inn HT.out bA.at' bB.at' LA.out LB.out zo zo zo) ?_;rintro e w' ⟨s,si,sf,st,rfl,hb,hn,hS,hL⟩;exact⟨_,rfl,_,rfl,hb,bH (R:=ScRV (fun e=>(PA e)∧(PB e)) 20 101) ScRV.le HO2.inn hb (d9 hn (hS.congr fun e=>and_congr (GA.out e) (GB.out e)) hL)⟩
    ·have e13:(Fact.mem m2 [2] (ScRV (fun e=>(PA e)∧(PB e)) 20 101)).holds (a.tmps.getD 13 undef) win wr:=RA.d 2 rfl;have e16:(Fact.mem m2 [5] (ScRV (fun e=>(PA e)∧(PB e)) 20 101)).holds (a.tmps.getD 16 undef) win wr:=RA.d 5 rfl;cases ho;obtain⟨s2,⟨a2,b2,c2,d2,x2,y2,k2,t2⟩,S2,L2⟩:ScRV _ _ _ _ _:=e13;obtain⟨s5,⟨a5,b5,c5,d5,x5,y5,k5,t5⟩,S5,L5⟩:ScRV _ _ _ _ _:=e16;refine we rfl rfl (dB _ _ _ _ _ _ s2 s5 (m2.wins wr win [2,5]) wr (Mem.bK HO2.inn win [2,5]) (t2.le (Mem.cO (es:=[2,5]) HO2.inn win zS)) (t5.le (Mem.cO (es:=[2,5]) HO2.inn win zS))) ?_;rintro e w' ⟨rfl,hb⟩;exact⟨_,rfl,_,rfl,hb,congrArg Value.bool (aN (S2.unique S5))⟩
    ·have e17:a.tmps.getD 17 undef=_:=RA.d 6 rfl;cases ho;exact wv rfl rfl rfl
    ·have e2:=RA.k 2;have e18:a.tmps.getD 18 undef=_:=RA.d 7 rfl;cases ho;exact wy rfl rfl rfl e18 rfl
    ·have e3:=RA.k 3;have e18:a.tmps.getD 18 undef=_:=RA.d 7 rfl;cases ho;exact wy rfl rfl rfl e18 rfl
    ·have e19:a.tmps.getD 19 undef=_:=RA.d 8 rfl;have e20:a.tmps.getD 20 undef=_:=RA.d 9 rfl;have e18:a.tmps.getD 18 undef=_:=RA.d 7 rfl;cases ho;refine we2 rfl rfl rfl e18 (lh _ _ _ A _ _ _ B 8 8 8 8 m2 wr HO2.inn HT.out bA.at' bB.at' LA.out LB.out zo zo zo) ?_;rintro e w' ⟨s,si,sf,st,rfl,hb,hn,hS,hL⟩;exact⟨_,rfl,_,rfl,hb,bH (R:=ScRV (fun e=>(PA e)∨(PB e)) 20 101) ScRV.le HO2.inn hb (d9 hn (hS.congr fun e=>or_congr (GA.out e) (GB.out e)) hL)⟩
    ·have e2:=RA.k 2;have e18:a.tmps.getD 18 undef=_:=RA.d 7 rfl;cases ho;exact wy rfl rfl rfl e18 rfl
    ·have e3:=RA.k 3;have e18:a.tmps.getD 18 undef=_:=RA.d 7 rfl;cases ho;exact wy rfl rfl rfl e18 rfl
    ·have e22:a.tmps.getD 22 undef=_:=RA.d 11 rfl;have e23:a.tmps.getD 23 undef=_:=RA.d 12 rfl;have e18:a.tmps.getD 18 undef=_:=RA.d 7 rfl;cases ho;refine we2 rfl rfl rfl e18 (M4 _ _ _ A _ _ _ B 8 8 8 8 m2 wr HO2.inn HT.out bA.at' bB.at' LA.out LB.out zo zo zo) ?_;rintro e w' ⟨s,si,sf,st,rfl,hb,hn,hS,hL⟩;exact⟨_,rfl,_,rfl,hb,bH (R:=ScRV (fun e=>(PA e)∨(PB e)) 20 101) ScRV.le HO2.inn hb (d9 hn (hS.congr fun e=>or_congr (GA.out e) (GB.out e)) hL)⟩
    ·have e21:(Fact.mem m2 [10] (ScRV (fun e=>(PA e)∨(PB e)) 20 101)).holds (a.tmps.getD 21 undef) win wr:=RA.d 10 rfl;have e24:(Fact.mem m2 [13] (ScRV (fun e=>(PA e)∨(PB e)) 20 101)).holds (a.tmps.getD 24 undef) win wr:=RA.d 13 rfl;have e18:a.tmps.getD 18 undef=_:=RA.d 7 rfl;cases ho;obtain⟨s10,⟨a10,b10,c10,d10,x10,y10,k10,t10⟩,S10,L10⟩:ScRV _ _ _ _ _:=e21;obtain⟨s13,⟨a13,b13,c13,d13,x13,y13,k13,t13⟩,S13,L13⟩:ScRV _ _ _ _ _:=e24;refine we2 rfl rfl rfl e18 (dB _ _ _ _ _ _ s10 s13 (m2.wins wr win [10,13]) wr (Mem.bK HO2.inn win [10,13]) (t10.le (Mem.cO (es:=[10,13]) HO2.inn win zS)) (t13.le (Mem.cO (es:=[10,13]) HO2.inn win zS))) ?_;rintro e w' ⟨rfl,hb⟩;exact⟨_,rfl,_,rfl,hb,congrArg Value.bool (aN (S10.unique S13))⟩
    ·have e18:a.tmps.getD 18 undef=_:=RA.d 7 rfl;have e25:a.tmps.getD 25 undef=_:=RA.d 14 rfl;cases ho;exact wv rfl rfl rfl
    ·have e26:a.tmps.getD 26 undef=_:=RA.d 15 rfl;cases ho;exact wv rfl rfl rfl
    ·have e2:=RA.k 2;have e27:a.tmps.getD 27 undef=_:=RA.d 16 rfl;cases ho;exact wy rfl rfl rfl e27 rfl
    ·have e3:=RA.k 3;have e27:a.tmps.getD 27 undef=_:=RA.d 16 rfl;cases ho;exact wy rfl rfl rfl e27 rfl
    ·have e28:a.tmps.getD 28 undef=_:=RA.d 17 rfl;have e29:a.tmps.getD 29 undef=_:=RA.d 18 rfl;have e27:a.tmps.getD 27 undef=_:=RA.d 16 rfl;cases ho;refine we2 rfl rfl rfl e27 (jU _ _ _ A _ _ _ B 8 8 8 8 m2 wr HO2.inn HT.out bA.at' bB.at' LA.out LB.out zo zo zo) ?_;rintro e w' ⟨s,si,sf,st,rfl,hb,hn,hS,hL⟩;exact⟨_,rfl,_,rfl,hb,bH (R:=ScRV (fun e=>(PA e)∧¬ (PB e)) 20 101) ScRV.le HO2.inn hb (d9 hn (hS.congr fun e=>and_congr (GA.out e) (not_congr (GB.out e))) hL)⟩
    ·have e2:=RA.k 2;have e27:a.tmps.getD 27 undef=_:=RA.d 16 rfl;cases ho;exact wy rfl rfl rfl e27 rfl
    ·have e3:=RA.k 3;have e27:a.tmps.getD 27 undef=_:=RA.d 16 rfl;cases ho;exact wy rfl rfl rfl e27 rfl
    ·have e31:a.tmps.getD 31 undef=_:=RA.d 20 rfl;have e32:a.tmps.getD 32 undef=_:=RA.d 21 rfl;have e27:a.tmps.getD 27 undef=_:=RA.d 16 rfl;cases ho;refine we2 rfl rfl rfl e27 (qj _ _ _ A _ _ _ B 8 8 8 8 m2 wr HO2.inn HT.out bA.at' bB.at' LA.out LB.out zo zo zo) ?_;rintro e w' ⟨s,si,sf,st,rfl,hb,hn,hS,hL⟩;exact⟨_,rfl,_,rfl,hb,bH (R:=ScRV (fun e=>(PA e)∧¬ (PB e)) 20 101) ScRV.le HO2.inn hb (d9 hn (hS.congr fun e=>and_congr (GA.out e) (not_congr (GB.out e))) hL)⟩
    ·have e30:(Fact.mem m2 [19] (ScRV (fun e=>(PA e)∧¬ (PB e)) 20 101)).holds (a.tmps.getD 30 undef) win wr:=RA.d 19 rfl;have e33:(Fact.mem m2 [22] (ScRV (fun e=>(PA e)∧¬ (PB e)) 20 101)).holds (a.tmps.getD 33 undef) win wr:=RA.d 22 rfl;have e27:a.tmps.getD 27 undef=_:=RA.d 16 rfl;cases ho;obtain⟨s19,⟨a19,b19,c19,d19,x19,y19,k19,t19⟩,S19,L19⟩:ScRV _ _ _ _ _:=e30;obtain⟨s22,⟨a22,b22,c22,d22,x22,y22,k22,t22⟩,S22,L22⟩:ScRV _ _ _ _ _:=e33;refine we2 rfl rfl rfl e27 (dB _ _ _ _ _ _ s19 s22 (m2.wins wr win [19,22]) wr (Mem.bK HO2.inn win [19,22]) (t19.le (Mem.cO (es:=[19,22]) HO2.inn win zS)) (t22.le (Mem.cO (es:=[19,22]) HO2.inn win zS))) ?_;rintro e w' ⟨rfl,hb⟩;exact⟨_,rfl,_,rfl,hb,congrArg Value.bool (aN (S19.unique S22))⟩
    ·have e27:a.tmps.getD 27 undef=_:=RA.d 16 rfl;have e34:a.tmps.getD 34 undef=_:=RA.d 23 rfl;cases ho;exact wv rfl rfl rfl
    ·have e35:a.tmps.getD 35 undef=_:=RA.d 24 rfl;cases ho;exact wv rfl rfl rfl
    ·have e2:=RA.k 2;have e36:a.tmps.getD 36 undef=_:=RA.d 25 rfl;cases ho;exact wy rfl rfl rfl e36 rfl
    ·have e3:=RA.k 3;have e36:a.tmps.getD 36 undef=_:=RA.d 25 rfl;cases ho;exact wy rfl rfl rfl e36 rfl
    ·have e37:a.tmps.getD 37 undef=_:=RA.d 26 rfl;have e38:a.tmps.getD 38 undef=_:=RA.d 27 rfl;have e36:a.tmps.getD 36 undef=_:=RA.d 25 rfl;cases ho;refine we2 rfl rfl rfl e36 (ik _ _ _ A _ _ _ B 8 8 8 8 m2 wr HO2.inn HT.out bA.at' bB.at' LA.out LB.out zo zo zo) ?_;rintro e w' ⟨rfl,hb⟩;exact⟨_,rfl,_,rfl,hb,rfl⟩
    ·have e2:=RA.k 2;have e36:a.tmps.getD 36 undef=_:=RA.d 25 rfl;cases ho;exact wy rfl rfl rfl e36 rfl
    ·have e3:=RA.k 3;have e36:a.tmps.getD 36 undef=_:=RA.d 25 rfl;cases ho;exact wy rfl rfl rfl e36 rfl
    ·have e40:a.tmps.getD 40 undef=_:=RA.d 29 rfl;have e41:a.tmps.getD 41 undef=_:=RA.d 30 rfl;have e36:a.tmps.getD 36 undef=_:=RA.d 25 rfl;cases ho;refine we2 rfl rfl rfl e36 (CL _ _ _ A _ _ _ B 8 8 8 8 m2 wr HO2.inn HT.out bA.at' bB.at' LA.out LB.out zo zo zo) ?_;rintro e w' ⟨rfl,hb⟩;exact⟨_,rfl,_,rfl,hb,rfl⟩
    ·have e39:a.tmps.getD 39 undef=_:=RA.d 28 rfl;have e42:a.tmps.getD 42 undef=_:=RA.d 31 rfl;have e36:a.tmps.getD 36 undef=_:=RA.d 25 rfl;cases ho;exact wy rfl rfl rfl e36 rfl
    ·have e36:a.tmps.getD 36 undef=_:=RA.d 25 rfl;have e43:a.tmps.getD 43 undef=_:=RA.d 32 rfl;cases ho;exact wv rfl rfl rfl
    ·have e44:a.tmps.getD 44 undef=_:=RA.d 33 rfl;cases ho;exact wv rfl rfl rfl
    ·have e2:=RA.k 2;have e45:a.tmps.getD 45 undef=_:=RA.d 34 rfl;cases ho;exact wy rfl rfl rfl e45 rfl
    ·have e46:a.tmps.getD 46 undef=_:=RA.d 35 rfl;have e45:a.tmps.getD 45 undef=_:=RA.d 34 rfl;cases ho;refine we2 rfl rfl rfl e45 (gT _ _ _ A m2 wr HO2.inn HT.out bA.at' ((LA.out).mono zo zo)) ?_;rintro e w' ⟨rfl,hb⟩;exact⟨_,rfl,_,rfl,hb,rfl⟩
    ·have e2:=RA.k 2;have e45:a.tmps.getD 45 undef=_:=RA.d 34 rfl;cases ho;exact wy rfl rfl rfl e45 rfl
    ·have e48:a.tmps.getD 48 undef=_:=RA.d 37 rfl;have e45:a.tmps.getD 45 undef=_:=RA.d 34 rfl;cases ho;refine we2 rfl rfl rfl e45 (wT _ _ _ A m2 wr HO2.inn HT.out bA.at' ((LA.out).mono zo zo)) ?_;rintro e w' ⟨rfl,hb⟩;exact⟨_,rfl,_,rfl,hb,rfl⟩
    ·have e47:a.tmps.getD 47 undef=_:=RA.d 36 rfl;have e49:a.tmps.getD 49 undef=_:=RA.d 38 rfl;have e45:a.tmps.getD 45 undef=_:=RA.d 34 rfl;cases ho;exact wy rfl rfl rfl e45 rfl
    ·have e45:a.tmps.getD 45 undef=_:=RA.d 34 rfl;have e50:a.tmps.getD 50 undef=_:=RA.d 39 rfl;cases ho;exact wv rfl rfl rfl
    ·have e51:a.tmps.getD 51 undef=_:=RA.d 40 rfl;cases ho;exact wv rfl rfl rfl
    ·have e52:a.tmps.getD 52 undef=_:=RA.d 41 rfl;cases ho;refine we2 rfl rfl rfl e52 (bJ m2 wr HO2.inn HT.out) ?_;rintro e w' ⟨rfl,hb⟩;exact⟨_,rfl,_,rfl,hb,rfl⟩
    ·have e52:a.tmps.getD 52 undef=_:=RA.d 41 rfl;have e53:a.tmps.getD 53 undef=_:=RA.d 42 rfl;cases ho;exact wv rfl rfl rfl
    ·have e54:a.tmps.getD 54 undef=_:=RA.d 43 rfl;cases ho;exact wv rfl rfl rfl
   ·intro win a wr E;have e4:a.tmps.getD 4 undef=.bool true:=E.fact 44 _ zo rfl;obtain⟨t,d⟩:=a;obtain rfl:d=[]:=E.defers;refine aV zk (hX.out _ _ E.size ⟨?_,HO.out.dr.move E.below⟩) _;simp only[List.map_cons,List.map_nil,e4]
    first | done | rfl
  rintro z' vs w9 - ⟨rfl,hO⟩;simp[litL,lk];have HE:=zh hO.below;clear hO HO;go_wp2;exact hR.out _ _ ⟨rfl,HE.out⟩
end Cl

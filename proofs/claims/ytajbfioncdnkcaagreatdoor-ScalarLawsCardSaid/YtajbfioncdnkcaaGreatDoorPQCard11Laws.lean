/- The law's walk. -/
import Derived.Test.YtajbfioncdnkcaaGreatDoorProg
import Derived.BigQuiet
import Derived.Deep.Cut
import Derived.Deep.QuietTactic
import Derived.Laws.StructEq
import Derived.Lib.AppendStr
import Derived.Lib.Builder
import Derived.Lib.Hide
import Derived.Lib.ItoaLen
import Derived.Maps.OwnOps
import Derived.Maps.OwnSet
import Derived.OrdersHeld
import Derived.Outline
import Derived.StillTailTactics
import Derived.StringKeys
import Derived.WalkKit
import Derived.WalkLawsBesides
import Derived.WalkSpells
import Derived.Deep.RegionHeld
import Derived.Laws.EntriesVeiled
import Derived.RegionTactic
import Derived.RangeFuncNested
import Derived.RangeFuncBound
import Derived.RangeFuncCalls
import Derived.RangeFuncLeaves
import Derived.OwnWalkIn
import Derived.TacticsInMore
import Derived.LoopNIn
import Derived.LoopIn
import Derived.Shelf.Strings.Builder1
import Derived.Shelf.Small.Wraps
import Derived.Shelf.LaysM
import Derived.Shelf.Strconv.Itoa3
import Derived.Shelf.Spec.SlicesGrow
import Derived.Shelf.SlSortCmp.WholeK
import Derived.ChangeAlike
import Derived.Laws.BytesArg
import Derived.Laws.CopyOwn
import Derived.Deep.Slices
import Derived.Lib.SmallJoins
import Derived.ChangeMaps5
import Derived.Carry
import Derived.KernelRfl
import Derived.ChangeArms
import Derived.Test.YtajbfioncdnkcaaGreatDoorCards
import Derived.Test.YtajbfioncdnkcaaGreatDoorTie
import Derived.ProofKit
import Derived.OpenShut
import Derived.Deep.DeepHandedRow
import Derived.Lib.LaidTab
import Derived.Stop.LaidErr
import Derived.Test.YtajbfioncdnkcaaGreatDoorZz
import Derived.Test.YtajbfioncdnkcaaGreatDoorPkM3
import Derived.Test.YtajbfioncdnkcaaGreatDoorPkM4
import Derived.Test.YtajbfioncdnkcaaGreatDoorPkM1
import Derived.Test.YtajbfioncdnkcaaGreatDoorPkM2
import Derived.Test.YtajbfioncdnkcaaGreatDoorPkM8
import Derived.Test.YtajbfioncdnkcaaGreatDoorPkM19
import Derived.Test.YtajbfioncdnkcaaGreatDoorPkM27
import Derived.Test.YtajbfioncdnkcaaGreatDoorPkM39
import Derived.Test.YtajbfioncdnkcaaGreatDoorPkM40
import Derived.Test.YtajbfioncdnkcaaGreatDoorPkM7
import Derived.Test.YtajbfioncdnkcaaGreatDoorPkM36
import Derived.Test.YtajbfioncdnkcaaGreatDoorPkM12
import Derived.Test.YtajbfioncdnkcaaGreatDoorPkM6
import Derived.Test.YtajbfioncdnkcaaGreatDoorPkM20
import Derived.Test.YtajbfioncdnkcaaGreatDoorPkM13
import Derived.Test.YtajbfioncdnkcaaGreatDoorPkM9
import Derived.Test.YtajbfioncdnkcaaGreatDoorPkM14
import Derived.Test.YtajbfioncdnkcaaGreatDoorPkM18
import Derived.Test.YtajbfioncdnkcaaGreatDoorPkM26
import Derived.Test.YtajbfioncdnkcaaGreatDoorPkM58
import Derived.Test.YtajbfioncdnkcaaGreatDoorPkM28
import Derived.Test.YtajbfioncdnkcaaGreatDoorPkM60
import Derived.Test.YtajbfioncdnkcaaGreatDoorPkM5
import Derived.Test.YtajbfioncdnkcaaGreatDoorPkM10
import Derived.Test.YtajbfioncdnkcaaGreatDoorPkM15
import Derived.Test.YtajbfioncdnkcaaGreatDoorPkM11
import Derived.Test.YtajbfioncdnkcaaGreatDoorPkM21
import Derived.Test.YtajbfioncdnkcaaGreatDoorPkM16
import Derived.Test.YtajbfioncdnkcaaGreatDoorPkM37
import Derived.Test.YtajbfioncdnkcaaGreatDoorPkM22
import Derived.Test.YtajbfioncdnkcaaGreatDoorPkM25
import Derived.Test.YtajbfioncdnkcaaGreatDoorPkM17
import Derived.Test.YtajbfioncdnkcaaGreatDoorPkM24
import Derived.Test.YtajbfioncdnkcaaGreatDoorPkM23
set_option maxRecDepth 100000
set_option maxHeartbeats 16000000
namespace Cl
open Go Go.RowKit Go.Proofs
theorem JX {p q:El→Prop} {A B s:RS} (hA:ScIs p A) (hB:ScIs q B) (h:ScIs (fun e=>p e∧q e) s):tf (s=A)=subB A B:=by
 refine fT ?_;rw[fD h hA];constructor
 ·intro k e he;rw[hA.good] at he;rw[hB.good];exact ((k e).2 he).2
 ·intro k e;exact⟨fun x=>x.1,fun x=>⟨x,(hB.good e).1 (k e ((hA.good e).2 x))⟩⟩
theorem Ms {p q:El→Prop} {A B s:RS} (hA:ScIs p A) (hB:ScIs q B) (h:ScIs (fun e=>p e∨q e) s):tf (s=B)=subB A B:=by
 refine fT ?_;rw[fD h hB];constructor
 ·intro k e he;rw[hA.good] at he;rw[hB.good];exact (k e).1 (.inl he)
 ·intro k e;exact⟨fun x=>x.elim (fun x=>(hB.good e).1 (k e ((hA.good e).2 x))) id,.inr⟩
theorem Ea {p q:El→Prop} {A B s:RS} (hA:ScIs p A) (hB:ScIs q B) (h:ScIs (fun e=>p e∧¬ q e) s):nk s=subB A B:=by
 refine yx (h.congr fun e=>?_);rw[hA.good,hB.good]
theorem Bc (A1 A2 A3:Value) (A:RS) (B1 B2 B3:Value) (B:RS) (C1 C2 C3:Value) (C:RS) (m:Mem) (w:World) (hm:m.inn w) (htab:TabM m) (hA:ScAt m A1 A2 A3 A) (hB:ScAt m B1 B2 B3 B) (hC:ScAt m C1 C2 C3 C) :
 Calls Tryz.prog 8 #[A.val A1 A2 A3,B.val B1 B2 B3,C.val C1 C2 C3] w fun e w'=>e=.returned (.bool true)∧Below w.heap.size w w':=by
 obtain⟨aa,ab,ac,ad,ae,af,rfl,rfl,rfl⟩:=hA.spell;obtain⟨ba,bb,bc,bd,be,bf,rfl,rfl,rfl⟩:=hB.spell;obtain⟨ca,cb,cc,cd,ce,cf,rfl,rfl,rfl⟩:=hC.spell;have hO:=Own.start hm;have l0:=Mem.le_refl m;obtain⟨m1,k1,bA,hO⟩:=kZ 29 hO (hA.le l0);have l1:=Mem.le_trans l0 k1;obtain⟨m2,k2,bB,hO⟩:=kZ 29 hO (hB.le l1);have l2:=Mem.le_trans l1 k2;have bA:=bA.le k2;obtain⟨m3,k3,bC,hO⟩:=kZ 29 hO (hC.le l2);have l3:=Mem.le_trans l2 k3;have bA:=bA.le k3;have bB:=bB.le k3;have HT:=zh (htab.le l3);simp only[df] at hO bB bC;have HO:=zh hO;clear hO htab hA hB hC l1 k1 l2 k2 l3 k3 l0;unfold RS.val;refine aj fun R hR=>?_
 go_enter Tryz.func8,Tryz.ntmps8
 go_upto_region 1 with (fail)
 generalize hW:(((w.alloc (.cells #[.bool A.nul,.bool A.fal,.bool A.tru,.slice aa A.i.length ab,.slice ac A.f.length ad,.slice ae A.t.length af] 29)).alloc (.cells #[.bool B.nul,.bool B.fal,.bool B.tru,.slice ba B.i.length bb,.slice bc B.f.length bd,.slice be B.t.length bf] 29)).alloc (.cells #[.bool C.nul,.bool C.fal,.bool C.tru,.slice ca C.i.length cb,.slice cc C.f.length cd,.slice ce C.t.length cf] 29))=w0 at *
 clear hW;refine aA [3,4,5,29] (fun vs w'=>∃c:Bool,vs=[.pointer (some ⟨w.heap.size,0,none⟩),.pointer (some ⟨w.heap.size+1,0,none⟩),.pointer (some ⟨w.heap.size+1+1,0,none⟩),.bool c]∧Own w m w' m3 []∧(c=false→(∀s∈[A,B,C],gZ s)∧A.gK∧B.gK∧C.gK)) ?_ ?_
 ·intro X hX;obtain⟨yA0,yA1,yA2,yA3,yA4,yA5⟩:=bA.cw HO.out.inn;have yAl:=Mem.ak HO.out.inn bA.c0;obtain⟨yB0,yB1,yB2,yB3,yB4,yB5⟩:=bB.cw HO.out.inn;have yBl:=Mem.ak HO.out.inn bB.c0;obtain⟨yC0,yC1,yC2,yC3,yC4,yC5⟩:=bC.cw HO.out.inn;have yCl:=Mem.ak HO.out.inn bC.c0;have hO2:=HO.out.al #[.bool A.nul,.bool A.fal,.bool A.tru,.slice aa A.i.length ab,.slice ac A.f.length ad,.slice ae A.t.length af,.bool B.nul,.bool B.fal,.bool B.tru,.slice ba B.i.length bb,.slice bc B.f.length bd,.slice be B.t.length bf,.bool C.nul,.bool C.fal,.bool C.tru,.slice ca C.i.length cb,.slice cc C.f.length cd,.slice ce C.t.length cf] 29;have HB:=zh (jc _ [A,B,C] _ _ hO2.ib.inn (Ej hO2 bA.at' bB.at' bC.at'));have HO:=zh hO2.tail;clear hO2
  go_wp2_with fail
  refine HB.out.mono ?_;rintro e w3 ⟨rfl,hb⟩;have HO:=zh (HO.out.move hb);clear HB hb;clear yA0 yA1 yA2 yA3 yA4 yA5 yAl yB0 yB1 yB2 yB3 yB4 yB5 yBl yC0 yC1 yC2 yC3 yC4 yC5 yCl;by_cases h:∀s∈[A,B,C],gZ s
  case neg=>
   rw[aL h];clear h;go_wp2;exact hX.out _ _ rfl ⟨true,rfl,HO.out,fun h=>by cases h⟩
  rw[aN h];have HG0:=zh h;clear h;obtain⟨yA0,yA1,yA2,yA3,yA4,yA5⟩:=bA.cw HO.out.inn;have yAl:=Mem.ak HO.out.inn bA.c0;have HB:=zh (fC _ _ _ A m3 _ HO.out.inn HT.out bA.at' (((gB HG0.out).1).mono zo zo))
  go_wp2_with fail
  refine HB.out.mono ?_;rintro e w3 ⟨rfl,hb⟩;have HO:=zh (HO.out.move hb);clear HB hb;clear yA0 yA1 yA2 yA3 yA4 yA5 yAl;by_cases h:A.gK
  case neg=>
   rw[aL h];clear h;go_wp2;exact hX.out _ _ rfl ⟨true,rfl,HO.out,fun h=>by cases h⟩
  rw[aN h];have HG1:=zh h;clear h;obtain⟨yB0,yB1,yB2,yB3,yB4,yB5⟩:=bB.cw HO.out.inn;have yBl:=Mem.ak HO.out.inn bB.c0;have HB:=zh (fC _ _ _ B m3 _ HO.out.inn HT.out bB.at' (((gB HG0.out).2.1).mono zo zo))
  go_wp2_with fail
  refine HB.out.mono ?_;rintro e w3 ⟨rfl,hb⟩;have HO:=zh (HO.out.move hb);clear HB hb;clear yB0 yB1 yB2 yB3 yB4 yB5 yBl;by_cases h:B.gK
  case neg=>
   rw[aL h];clear h;go_wp2;exact hX.out _ _ rfl ⟨true,rfl,HO.out,fun h=>by cases h⟩
  rw[aN h];have HG2:=zh h;clear h;obtain⟨yC0,yC1,yC2,yC3,yC4,yC5⟩:=bC.cw HO.out.inn;have yCl:=Mem.ak HO.out.inn bC.c0;have HB:=zh (fC _ _ _ C m3 _ HO.out.inn HT.out bC.at' (((gB HG0.out).2.2).mono zo zo))
  go_wp2_with fail
  refine HB.out.mono ?_;rintro e w3 ⟨rfl,hb⟩;have HO:=zh (HO.out.move hb);clear HB hb;clear yC0 yC1 yC2 yC3 yC4 yC5 yCl;by_cases h:C.gK
  case neg=>
   rw[aL h];clear h;go_wp2;exact hX.out _ _ rfl ⟨true,rfl,HO.out,fun h=>by cases h⟩
  rw[aN h];have HG3:=zh h;clear h;go_wp2;exact hX.out _ _ rfl ⟨false,rfl,HO.out,fun _=>⟨HG0.out,HG1.out,HG2.out,HG3.out⟩⟩
 rintro z vs w1 - ⟨c,rfl,hO,hc⟩;simp[litL,lk];clear HO;have HO:=zh hO;have HC:=zh hc;clear hO hc
 cases c with
 | true=>
  clear HC
  go_wp2_with fail
  refine (bJ m3 _ HO.out.inn HT.out).mono ?_;rintro e w2 ⟨rfl,hb⟩;have HE:=zh (HO.out.move hb).below;clear hb HO;go_wp2
  exact hR.out _ _ ⟨rfl,HE.out⟩
 | false=>
  obtain⟨g0,g1,g2,g3⟩:=HC.out rfl;clear HC;have LA:=zh ((gB g0).1);have LB:=zh ((gB g0).2.1);have LC:=zh ((gB g0).2.2);clear g0;have VA:=zh g1;clear g1;have VB:=zh g2;clear g2;have VC:=zh g3;clear g3;obtain⟨PA,GA,SA⟩:∃p:El→Prop,(∀e,(bU A).has e↔p e)∧ScIs p A:=⟨A.has,(iL VA.out).good,iL VA.out⟩;have GA:=zh GA;have SA:=zh SA;obtain⟨PB,GB,SB⟩:∃p:El→Prop,(∀e,(bU B).has e↔p e)∧ScIs p B:=⟨B.has,(iL VB.out).good,iL VB.out⟩;have GB:=zh GB;have SB:=zh SB;obtain⟨PC,GC,SC⟩:∃p:El→Prop,(∀e,(bU C).has e↔p e)∧ScIs p C:=⟨C.has,(iL VC.out).good,iL VC.out⟩;have GC:=zh GC;have SC:=zh SC
  go_upto_region 3 with (fail)
  refine aA [3,4,5,7,8] (fun vs w'=>∃(mk:Mem) (gN gO:Nat),vs=[.pointer (some ⟨w.heap.size,0,none⟩),.pointer (some ⟨w.heap.size+1,0,none⟩),.pointer (some ⟨w.heap.size+1+1,0,none⟩),.pointer (some ⟨gN,0,none⟩),.pointer (some ⟨gO,0,none⟩)]∧m3.le mk∧Pm mk gN (fun e=>(PA e)∧(PB e)) 20 101∧Pm mk gO (fun e=>(PA e)∨(PB e)) 20 101∧Own w m w' mk []) ?_ ?_
  ·intro X hX;refine aM 8 6 (fun j=>[Fact.is (·=.agg #[.bool A.nul,.bool A.fal,.bool A.tru,.slice aa A.i.length ab,.slice ac A.f.length ad,.slice ae A.t.length af]),Fact.is (·=.agg #[.bool B.nul,.bool B.fal,.bool B.tru,.slice ba B.i.length bb,.slice bc B.f.length bd,.slice be B.t.length bf]),Fact.mem m3 [2] (ScRV (fun e=>(PA e)∧(PB e)) 20 101),Fact.is (·=.agg #[.bool A.nul,.bool A.fal,.bool A.tru,.slice aa A.i.length ab,.slice ac A.f.length ad,.slice ae A.t.length af]),Fact.is (·=.agg #[.bool B.nul,.bool B.fal,.bool B.tru,.slice ba B.i.length bb,.slice bc B.f.length bd,.slice be B.t.length bf]),Fact.mem m3 [5] (ScRV (fun e=>(PA e)∨(PB e)) 20 101),Fact.obj 6 29 #[.bool false,.bool false,.bool false,.slice none 0 0,.slice none 0 0,.slice none 0 0],Fact.obj 7 29 #[.bool false,.bool false,.bool false,.slice none 0 0,.slice none 0 0,.slice none 0 0]].getD j Fact.any) zk zk ?_ ?_
   ·intro i hi o win a wr ho RA;have HO2:=HO.out.dr.move RA.below;obtain⟨y30,y31,y32,y33,y34,y35⟩:=bA.cw HO2.inn;have y3l:=Mem.ak HO2.inn bA.c0;obtain⟨y40,y41,y42,y43,y44,y45⟩:=bB.cw HO2.inn;have y4l:=Mem.ak HO2.inn bB.c0;obtain⟨y50,y51,y52,y53,y54,y55⟩:=bC.cw HO2.inn;have y5l:=Mem.ak HO2.inn bC.c0;rcases (show i=0∨i=1∨i=2∨i=3∨i=4∨i=5∨i=6∨i=7 by omega) with rfl | rfl | rfl | rfl | rfl | rfl | rfl | rfl
    ·have e3:=RA.k 3;cases ho;exact wv rfl rfl rfl
    ·have e4:=RA.k 4;cases ho;exact wv rfl rfl rfl
    ·have e31:a.tmps.getD 31 undef=_:=RA.d 0 rfl;have e32:a.tmps.getD 32 undef=_:=RA.d 1 rfl;cases ho;refine we rfl rfl (iM _ _ _ A _ _ _ B 8 8 8 8 m3 wr HO2.inn HT.out bA.at' bB.at' LA.out LB.out zo zo zo) ?_;rintro e w' ⟨s,si,sf,st,rfl,hb,hn,hS,hL⟩;exact⟨_,rfl,_,rfl,hb,bH (R:=ScRV (fun e=>(PA e)∧(PB e)) 20 101) ScRV.le HO2.inn hb (d9 hn (hS.congr fun e=>and_congr (GA.out e) (GB.out e)) hL)⟩
    ·have e3:=RA.k 3;cases ho;exact wv rfl rfl rfl
    ·have e4:=RA.k 4;cases ho;exact wv rfl rfl rfl
    ·have e34:a.tmps.getD 34 undef=_:=RA.d 3 rfl;have e35:a.tmps.getD 35 undef=_:=RA.d 4 rfl;cases ho;refine we rfl rfl (lh _ _ _ A _ _ _ B 8 8 8 8 m3 wr HO2.inn HT.out bA.at' bB.at' LA.out LB.out zo zo zo) ?_;rintro e w' ⟨s,si,sf,st,rfl,hb,hn,hS,hL⟩;exact⟨_,rfl,_,rfl,hb,bH (R:=ScRV (fun e=>(PA e)∨(PB e)) 20 101) ScRV.le HO2.inn hb (d9 hn (hS.congr fun e=>or_congr (GA.out e) (GB.out e)) hL)⟩
    ·cases ho;exact aB rfl rfl (aD zg ⟨_,rfl,aP (Below.refl _ _) _,lI win⟩)
    ·cases ho;exact aB rfl rfl (aD zg ⟨_,rfl,aP (Below.refl _ _) _,lI win⟩)
   ·intro win a wr E;have e3:=E.keep 3 zk;have e4:=E.keep 4 zk;have e5:=E.keep 5 zk;have e7:(Fact.obj 6 29 #[.bool false,.bool false,.bool false,.slice none 0 0,.slice none 0 0,.slice none 0 0]).holds (a.tmps.getD 7 undef) win wr:=E.fact 6 _ zo rfl;have e8:(Fact.obj 7 29 #[.bool false,.bool false,.bool false,.slice none 0 0,.slice none 0 0,.slice none 0 0]).holds (a.tmps.getD 8 undef) win wr:=E.fact 7 _ zo rfl;have e33:(Fact.mem m3 [2] (ScRV (fun e=>(PA e)∧(PB e)) 20 101)).holds (a.tmps.getD 33 undef) win wr:=E.fact 2 _ zo rfl;have e36:(Fact.mem m3 [5] (ScRV (fun e=>(PA e)∨(PB e)) 20 101)).holds (a.tmps.getD 36 undef) win wr:=E.fact 5 _ zo rfl;obtain⟨s2,⟨a2,b2,c2,d2,x2,y2,k2,t2⟩,S2,L2⟩:ScRV _ _ _ _ _:=e33;obtain⟨s5,⟨a5,b5,c5,d5,x5,y5,k5,t5⟩,S5,L5⟩:ScRV _ _ _ _ _:=e36;obtain⟨p6,n6,o6⟩:_∧_∧_:=e7;have g6:=E.rng 6 zo;obtain⟨p7,n7,o7⟩:_∧_∧_:=e8;have g7:=E.rng 7 zo;have far:∀j,j=6∨j=7→∀d∈[2,5],¬ ((win d).1≤(win j).1∧(win j).1<(win d).2):=by
     intro j hj d hd;have hd':d=2∨d=5:=by simpa using hd
     have:=E.apart j d zo zo zo;have:(win j).2=(win j).1+1:=by rcases hj with rfl | rfl <;> assumption
     omega
    have hO1:=HO.out.dr.region E.below win [2,5] (fun d hd=>(E.rng d (by simp at hd;omega)).1);have hge:=HO.out.dr.below.size;have hin:=(HO.out.dr.move E.below).inn;have no:∀j,j=6∨j=7→m3.wins wr win [2,5] (win j).1=none:=fun j hj=>
     Mem.lD (Mem.fe HO.out.dr.inn (E.rng j zo).1) (far j hj)
    have hL6:=HO.out.dr.kP g6.1;have hL7:=HO.out.dr.kP g7.1;have q01:=E.apart 6 7 zo zo zo;have hO2:=hO1.newObj o6 zo (no 6 zo) hL6;have hO2:=hO2.newObj o7 zo (no 7 zo) (mE zo hL7);have t2:=t2.le (Mem.cO (es:=[2,5]) hin win zS);have t5:=t5.le (Mem.cO (es:=[2,5]) hin win zS);have hle:=Mem.dw hin win [2,5];have T2:=zh (zi t2 (zi S2 L2));have T5:=zh (zi t5 (zi S5 L5));have HLE:=zh hle;generalize m3.wins wr win [2,5]=mq at *
    generalize (win 6).1=r6 at *
    generalize (win 7).1=r7 at *
    have HE:=zh E;clear hle t2 S2 L2 t5 S5 L5 hL6 g6 o6 n6 hL7 g7 o7 n7 no far hO1 hin q01 hge E;have hO3:=hO2.swap;have f0:=hO3.obj.cell (i:=0) rfl;have ff0:=hO3.obj.frozen 0;have f1:=hO3.obj.cell (i:=1) rfl;have ff1:=hO3.obj.frozen 1;have f2:=hO3.obj.cell (i:=2) rfl;have ff2:=hO3.obj.frozen 2;have f3:=hO3.obj.cell (i:=3) rfl;have ff3:=hO3.obj.frozen 3;have f4:=hO3.obj.cell (i:=4) rfl;have ff4:=hO3.obj.frozen 4;have f5:=hO3.obj.cell (i:=5) rfl;have ff5:=hO3.obj.frozen 5;have fl:=hO3.obj.lt;have hO4:Own _ _ _ _ (.obj _ 29 #[.bool s2.nul,.bool s2.fal,.bool s2.tru,.slice a2 s2.i.length b2,.slice c2 s2.f.length d2,.slice x2 s2.t.length y2]::_):=((((((hO3.set 0 (.bool s2.nul)).set 1 (.bool s2.fal)).set 2 (.bool s2.tru)).set 3 (.slice a2 s2.i.length b2)).set 4 (.slice c2 s2.f.length d2)).set 5 (.slice x2 s2.t.length y2));have HO4:=zh hO4;clear hO3 hO4 hO2;refine bR 8 zk (aB rfl rfl (aS zg ?_));clear f0 ff0 f1 ff1 f2 ff2 f3 ff3 f4 ff4 f5 ff5 fl;have hO5:=HO4.out;clear HO4;have hO3:=hO5.swap;have f0:=hO3.obj.cell (i:=0) rfl;have ff0:=hO3.obj.frozen 0;have f1:=hO3.obj.cell (i:=1) rfl;have ff1:=hO3.obj.frozen 1;have f2:=hO3.obj.cell (i:=2) rfl;have ff2:=hO3.obj.frozen 2;have f3:=hO3.obj.cell (i:=3) rfl;have ff3:=hO3.obj.frozen 3;have f4:=hO3.obj.cell (i:=4) rfl;have ff4:=hO3.obj.frozen 4;have f5:=hO3.obj.cell (i:=5) rfl;have ff5:=hO3.obj.frozen 5;have fl:=hO3.obj.lt;have hO4:Own _ _ _ _ (.obj _ 29 #[.bool s5.nul,.bool s5.fal,.bool s5.tru,.slice a5 s5.i.length b5,.slice c5 s5.f.length d5,.slice x5 s5.t.length y5]::_):=((((((hO3.set 0 (.bool s5.nul)).set 1 (.bool s5.fal)).set 2 (.bool s5.tru)).set 3 (.slice a5 s5.i.length b5)).set 4 (.slice c5 s5.f.length d5)).set 5 (.slice x5 s5.t.length y5));have HO4:=zh hO4;clear hO3 hO4;refine bR 9 zk (aB rfl rfl (aS zg ?_));clear f0 ff0 f1 ff1 f2 ff2 f3 ff3 f4 ff4 f5 ff5 fl;have hO5:=HO4.out;clear HO4;have hO6:=hO5;clear hO5;obtain⟨mz0,lz0,bz5,hO6⟩:=uk hO6 T5.out.1;obtain⟨mz1,lz1,bz2,hO6⟩:=uk hO6 (T2.out.1.le lz0);have bz5:=bz5.le lz1;obtain⟨t,d⟩:=a;obtain rfl:d=[]:=HE.out.defers;refine aV zk (hX.out _ _ HE.out.size ⟨_,_,_,?_,(Mem.le_trans (Mem.le_trans HLE.out lz0) lz1),⟨s2,_,_,_,bz2,T2.out.2.1,T2.out.2.2⟩,⟨s5,_,_,_,bz5,T5.out.2.1,T5.out.2.2⟩,hO6⟩) _;simp only[List.map_cons,List.map_nil,e3,e4,e5,p6,p7]
    first | done | rfl
  rintro z0 vs w5 - ⟨m4,gN,gO,rfl,hle,⟨N,_,_,_,bN,IN,LN⟩,⟨O,_,_,_,bO,Io,LO⟩,hO⟩;simp[litL,lk];obtain⟨xNa,xNb,xNc,xNd,xNe,xNf,rfl,rfl,rfl⟩:=bN.at'.spell;have IN:=zh IN;have LN:=zh LN;obtain⟨xOa,xOb,xOc,xOd,xOe,xOf,rfl,rfl,rfl⟩:=bO.at'.spell;have Io:=zh Io;have LO:=zh LO;have bA:=bA.le hle;have bB:=bB.le hle;have bC:=bC.le hle;have HT:=zh (HT.out.le hle);clear HO hle;have HO:=zh hO;clear hO
  go_upto_region 4 with (fail)
  refine aA [3,4,5,7,8,82] (fun vs w'=>vs=[.pointer (some ⟨w.heap.size,0,none⟩),.pointer (some ⟨w.heap.size+1,0,none⟩),.pointer (some ⟨w.heap.size+1+1,0,none⟩),.pointer (some ⟨gN,0,none⟩),.pointer (some ⟨gO,0,none⟩),.bool false]∧Own w m w' m4 []) ?_ ?_
  ·intro X hX;refine aM 46 6 (fun j=>[Fact.is (·=.agg #[.bool N.nul,.bool N.fal,.bool N.tru,.slice xNa N.i.length xNb,.slice xNc N.f.length xNd,.slice xNe N.t.length xNf]),Fact.is (·=.agg #[.bool B.nul,.bool B.fal,.bool B.tru,.slice ba B.i.length bb,.slice bc B.f.length bd,.slice be B.t.length bf]),Fact.is (·=.agg #[.bool A.nul,.bool A.fal,.bool A.tru,.slice aa A.i.length ab,.slice ac A.f.length ad,.slice ae A.t.length af]),Fact.mem m4 [3] (ScRV (fun e=>(PB e)∧(PA e)) 20 101),Fact.is (·=.bool true),Fact.is (·=.bool false),Fact.is (·=.bool false),Fact.is (·=.agg #[.bool O.nul,.bool O.fal,.bool O.tru,.slice xOa O.i.length xOb,.slice xOc O.f.length xOd,.slice xOe O.t.length xOf]),Fact.is (·=.agg #[.bool B.nul,.bool B.fal,.bool B.tru,.slice ba B.i.length bb,.slice bc B.f.length bd,.slice be B.t.length bf]),Fact.is (·=.agg #[.bool A.nul,.bool A.fal,.bool A.tru,.slice aa A.i.length ab,.slice ac A.f.length ad,.slice ae A.t.length af]),Fact.mem m4 [10] (ScRV (fun e=>(PB e)∨(PA e)) 20 101),Fact.is (·=.bool true),Fact.is (·=.bool false),Fact.is (·=.bool false),Fact.is (·=.bool false),Fact.is (·=.agg #[.bool A.nul,.bool A.fal,.bool A.tru,.slice aa A.i.length ab,.slice ac A.f.length ad,.slice ae A.t.length af]),Fact.is (·=.agg #[.bool O.nul,.bool O.fal,.bool O.tru,.slice xOa O.i.length xOb,.slice xOc O.f.length xOd,.slice xOe O.t.length xOf]),Fact.mem m4 [17] (ScRV (fun e=>(PA e)∧((PA e)∨(PB e))) 32 1031),Fact.is (·=.agg #[.bool A.nul,.bool A.fal,.bool A.tru,.slice aa A.i.length ab,.slice ac A.f.length ad,.slice ae A.t.length af]),Fact.is (·=.bool true),Fact.is (·=.bool false),Fact.is (·=.bool false),Fact.is (·=.bool false),Fact.is (·=.agg #[.bool A.nul,.bool A.fal,.bool A.tru,.slice aa A.i.length ab,.slice ac A.f.length ad,.slice ae A.t.length af]),Fact.is (·=.agg #[.bool N.nul,.bool N.fal,.bool N.tru,.slice xNa N.i.length xNb,.slice xNc N.f.length xNd,.slice xNe N.t.length xNf]),Fact.mem m4 [25] (ScRV (fun e=>(PA e)∨((PA e)∧(PB e))) 32 1031),Fact.is (·=.agg #[.bool A.nul,.bool A.fal,.bool A.tru,.slice aa A.i.length ab,.slice ac A.f.length ad,.slice ae A.t.length af]),Fact.is (·=.bool true),Fact.is (·=.bool false),Fact.is (·=.bool false),Fact.is (·=.bool false),Fact.is (·=.agg #[.bool A.nul,.bool A.fal,.bool A.tru,.slice aa A.i.length ab,.slice ac A.f.length ad,.slice ae A.t.length af]),Fact.is (·=.agg #[.bool A.nul,.bool A.fal,.bool A.tru,.slice aa A.i.length ab,.slice ac A.f.length ad,.slice ae A.t.length af]),Fact.mem m4 [33] (ScRV (fun e=>(PA e)∧(PA e)) 20 101),Fact.is (·=.agg #[.bool A.nul,.bool A.fal,.bool A.tru,.slice aa A.i.length ab,.slice ac A.f.length ad,.slice ae A.t.length af]),Fact.is (·=.bool true),Fact.is (·=.bool false),Fact.is (·=.bool false),Fact.is (·=.bool false),Fact.is (·=.agg #[.bool A.nul,.bool A.fal,.bool A.tru,.slice aa A.i.length ab,.slice ac A.f.length ad,.slice ae A.t.length af]),Fact.is (·=.agg #[.bool A.nul,.bool A.fal,.bool A.tru,.slice aa A.i.length ab,.slice ac A.f.length ad,.slice ae A.t.length af]),Fact.mem m4 [41] (ScRV (fun e=>(PA e)∨(PA e)) 20 101),Fact.is (·=.agg #[.bool A.nul,.bool A.fal,.bool A.tru,.slice aa A.i.length ab,.slice ac A.f.length ad,.slice ae A.t.length af]),Fact.is (·=.bool true),Fact.is (·=.bool false),Fact.is (·=.bool false)].getD j Fact.any) zk zk ?_ ?_
   ·intro i hi o win a wr ho RA;have HO2:=HO.out.dr.move RA.below;obtain⟨y30,y31,y32,y33,y34,y35⟩:=bA.cw HO2.inn;have y3l:=Mem.ak HO2.inn bA.c0;obtain⟨y40,y41,y42,y43,y44,y45⟩:=bB.cw HO2.inn;have y4l:=Mem.ak HO2.inn bB.c0;obtain⟨y50,y51,y52,y53,y54,y55⟩:=bC.cw HO2.inn;have y5l:=Mem.ak HO2.inn bC.c0;obtain⟨y70,y71,y72,y73,y74,y75⟩:=bN.cw HO2.inn;have y7l:=Mem.ak HO2.inn bN.c0;obtain⟨y80,y81,y82,y83,y84,y85⟩:=bO.cw HO2.inn;have y8l:=Mem.ak HO2.inn bO.c0;rcases (show i=0∨i=1∨i=2∨i=3∨i=4∨i=5∨i=6∨i=7∨i=8∨i=9∨i=10∨i=11∨i=12∨i=13∨i=14∨i=15∨i=16∨i=17∨i=18∨i=19∨i=20∨i=21∨i=22∨i=23∨i=24∨i=25∨i=26∨i=27∨i=28∨i=29∨i=30∨i=31∨i=32∨i=33∨i=34∨i=35∨i=36∨i=37∨i=38∨i=39∨i=40∨i=41∨i=42∨i=43∨i=44∨i=45 by omega) with rfl | rfl | rfl | rfl | rfl | rfl | rfl | rfl | rfl | rfl | rfl | rfl | rfl | rfl | rfl | rfl | rfl | rfl | rfl | rfl | rfl | rfl | rfl | rfl | rfl | rfl | rfl | rfl | rfl | rfl | rfl | rfl | rfl | rfl | rfl | rfl | rfl | rfl | rfl | rfl | rfl | rfl | rfl | rfl | rfl | rfl
    ·have e7:=RA.k 7;cases ho;exact wv rfl rfl rfl
    ·have e4:=RA.k 4;cases ho;exact wv rfl rfl rfl
    ·have e3:=RA.k 3;cases ho;exact wv rfl rfl rfl
    ·have e38:a.tmps.getD 38 undef=_:=RA.d 1 rfl;have e39:a.tmps.getD 39 undef=_:=RA.d 2 rfl;cases ho;refine we rfl rfl (iM _ _ _ B _ _ _ A 8 8 8 8 m4 wr HO2.inn HT.out bB.at' bA.at' LB.out LA.out zo zo zo) ?_;rintro e w' ⟨s,si,sf,st,rfl,hb,hn,hS,hL⟩;exact⟨_,rfl,_,rfl,hb,bH (R:=ScRV (fun e=>(PB e)∧(PA e)) 20 101) ScRV.le HO2.inn hb (d9 hn (hS.congr fun e=>and_congr (GB.out e) (GA.out e)) hL)⟩
    ·have e37:a.tmps.getD 37 undef=_:=RA.d 0 rfl;have e40:(Fact.mem m4 [3] (ScRV (fun e=>(PB e)∧(PA e)) 20 101)).holds (a.tmps.getD 40 undef) win wr:=RA.d 3 rfl;cases ho;obtain⟨s3,⟨a3,b3,c3,d3,x3,y3,k3,t3⟩,S3,L3⟩:ScRV _ _ _ _ _:=e40;refine we rfl rfl (dB _ _ _ _ _ _ N s3 (m4.wins wr win [3]) wr (Mem.bK HO2.inn win [3]) (bN.at'.le (Mem.dw HO2.inn win [3])) t3) ?_;rintro e w' ⟨rfl,hb⟩;exact⟨_,rfl,_,rfl,hb,congrArg Value.bool (aN ((fD IN.out S3).2 fun e=>by by_cases hPA:PA e <;> by_cases hPB:PB e <;> by_cases hPC:PC e <;> simp[*]))⟩
    ·have e41:a.tmps.getD 41 undef=_:=RA.d 4 rfl;cases ho;exact wv rfl rfl rfl
    ·have e42:a.tmps.getD 42 undef=_:=RA.d 5 rfl;cases ho;exact wv rfl rfl rfl
    ·have e8:=RA.k 8;have e43:a.tmps.getD 43 undef=_:=RA.d 6 rfl;cases ho;exact wy rfl rfl rfl e43 rfl
    ·have e4:=RA.k 4;have e43:a.tmps.getD 43 undef=_:=RA.d 6 rfl;cases ho;exact wy rfl rfl rfl e43 rfl
    ·have e3:=RA.k 3;have e43:a.tmps.getD 43 undef=_:=RA.d 6 rfl;cases ho;exact wy rfl rfl rfl e43 rfl
    ·have e45:a.tmps.getD 45 undef=_:=RA.d 8 rfl;have e46:a.tmps.getD 46 undef=_:=RA.d 9 rfl;have e43:a.tmps.getD 43 undef=_:=RA.d 6 rfl;cases ho;refine we2 rfl rfl rfl e43 (lh _ _ _ B _ _ _ A 8 8 8 8 m4 wr HO2.inn HT.out bB.at' bA.at' LB.out LA.out zo zo zo) ?_;rintro e w' ⟨s,si,sf,st,rfl,hb,hn,hS,hL⟩;exact⟨_,rfl,_,rfl,hb,bH (R:=ScRV (fun e=>(PB e)∨(PA e)) 20 101) ScRV.le HO2.inn hb (d9 hn (hS.congr fun e=>or_congr (GB.out e) (GA.out e)) hL)⟩
    ·have e44:a.tmps.getD 44 undef=_:=RA.d 7 rfl;have e47:(Fact.mem m4 [10] (ScRV (fun e=>(PB e)∨(PA e)) 20 101)).holds (a.tmps.getD 47 undef) win wr:=RA.d 10 rfl;have e43:a.tmps.getD 43 undef=_:=RA.d 6 rfl;cases ho;obtain⟨s10,⟨a10,b10,c10,d10,x10,y10,k10,t10⟩,S10,L10⟩:ScRV _ _ _ _ _:=e47;refine we2 rfl rfl rfl e43 (dB _ _ _ _ _ _ O s10 (m4.wins wr win [10]) wr (Mem.bK HO2.inn win [10]) (bO.at'.le (Mem.dw HO2.inn win [10])) t10) ?_;rintro e w' ⟨rfl,hb⟩;exact⟨_,rfl,_,rfl,hb,congrArg Value.bool (aN ((fD Io.out S10).2 fun e=>by by_cases hPA:PA e <;> by_cases hPB:PB e <;> by_cases hPC:PC e <;> simp[*]))⟩
    ·have e48:a.tmps.getD 48 undef=_:=RA.d 11 rfl;have e43:a.tmps.getD 43 undef=_:=RA.d 6 rfl;cases ho;exact wy rfl rfl rfl e43 rfl
    ·have e43:a.tmps.getD 43 undef=_:=RA.d 6 rfl;have e49:a.tmps.getD 49 undef=_:=RA.d 12 rfl;cases ho;exact wv rfl rfl rfl
    ·have e50:a.tmps.getD 50 undef=_:=RA.d 13 rfl;cases ho;exact wv rfl rfl rfl
    ·have e3:=RA.k 3;have e51:a.tmps.getD 51 undef=_:=RA.d 14 rfl;cases ho;exact wy rfl rfl rfl e51 rfl
    ·have e8:=RA.k 8;have e51:a.tmps.getD 51 undef=_:=RA.d 14 rfl;cases ho;exact wy rfl rfl rfl e51 rfl
    ·have e52:a.tmps.getD 52 undef=_:=RA.d 15 rfl;have e53:a.tmps.getD 53 undef=_:=RA.d 16 rfl;have e51:a.tmps.getD 51 undef=_:=RA.d 14 rfl;cases ho;refine we2 rfl rfl rfl e51 (iM _ _ _ A _ _ _ O 8 8 20 101 m4 wr HO2.inn HT.out bA.at' bO.at' LA.out LO.out zo zo zo) ?_;rintro e w' ⟨s,si,sf,st,rfl,hb,hn,hS,hL⟩;exact⟨_,rfl,_,rfl,hb,bH (R:=ScRV (fun e=>(PA e)∧((PA e)∨(PB e))) 32 1031) ScRV.le HO2.inn hb (d9 hn (hS.congr fun e=>and_congr (GA.out e) (Io.out.good e)) hL)⟩
    ·have e3:=RA.k 3;have e51:a.tmps.getD 51 undef=_:=RA.d 14 rfl;cases ho;exact wy rfl rfl rfl e51 rfl
    ·have e54:(Fact.mem m4 [17] (ScRV (fun e=>(PA e)∧((PA e)∨(PB e))) 32 1031)).holds (a.tmps.getD 54 undef) win wr:=RA.d 17 rfl;have e55:a.tmps.getD 55 undef=_:=RA.d 18 rfl;have e51:a.tmps.getD 51 undef=_:=RA.d 14 rfl;cases ho;obtain⟨s17,⟨a17,b17,c17,d17,x17,y17,k17,t17⟩,S17,L17⟩:ScRV _ _ _ _ _:=e54;refine we2 rfl rfl rfl e51 (dB _ _ _ _ _ _ s17 A (m4.wins wr win [17]) wr (Mem.bK HO2.inn win [17]) t17 (bA.at'.le (Mem.dw HO2.inn win [17]))) ?_;rintro e w' ⟨rfl,hb⟩;exact⟨_,rfl,_,rfl,hb,congrArg Value.bool (aN ((fD S17 SA.out).2 fun e=>by by_cases hPA:PA e <;> by_cases hPB:PB e <;> by_cases hPC:PC e <;> simp[*]))⟩
    ·have e56:a.tmps.getD 56 undef=_:=RA.d 19 rfl;have e51:a.tmps.getD 51 undef=_:=RA.d 14 rfl;cases ho;exact wy rfl rfl rfl e51 rfl
    ·have e51:a.tmps.getD 51 undef=_:=RA.d 14 rfl;have e57:a.tmps.getD 57 undef=_:=RA.d 20 rfl;cases ho;exact wv rfl rfl rfl
    ·have e58:a.tmps.getD 58 undef=_:=RA.d 21 rfl;cases ho;exact wv rfl rfl rfl
    ·have e3:=RA.k 3;have e59:a.tmps.getD 59 undef=_:=RA.d 22 rfl;cases ho;exact wy rfl rfl rfl e59 rfl
    ·have e7:=RA.k 7;have e59:a.tmps.getD 59 undef=_:=RA.d 22 rfl;cases ho;exact wy rfl rfl rfl e59 rfl
    ·have e60:a.tmps.getD 60 undef=_:=RA.d 23 rfl;have e61:a.tmps.getD 61 undef=_:=RA.d 24 rfl;have e59:a.tmps.getD 59 undef=_:=RA.d 22 rfl;cases ho;refine we2 rfl rfl rfl e59 (lh _ _ _ A _ _ _ N 8 8 20 101 m4 wr HO2.inn HT.out bA.at' bN.at' LA.out LN.out zo zo zo) ?_;rintro e w' ⟨s,si,sf,st,rfl,hb,hn,hS,hL⟩;exact⟨_,rfl,_,rfl,hb,bH (R:=ScRV (fun e=>(PA e)∨((PA e)∧(PB e))) 32 1031) ScRV.le HO2.inn hb (d9 hn (hS.congr fun e=>or_congr (GA.out e) (IN.out.good e)) hL)⟩
    ·have e3:=RA.k 3;have e59:a.tmps.getD 59 undef=_:=RA.d 22 rfl;cases ho;exact wy rfl rfl rfl e59 rfl
    ·have e62:(Fact.mem m4 [25] (ScRV (fun e=>(PA e)∨((PA e)∧(PB e))) 32 1031)).holds (a.tmps.getD 62 undef) win wr:=RA.d 25 rfl;have e63:a.tmps.getD 63 undef=_:=RA.d 26 rfl;have e59:a.tmps.getD 59 undef=_:=RA.d 22 rfl;cases ho;obtain⟨s25,⟨a25,b25,c25,d25,x25,y25,k25,t25⟩,S25,L25⟩:ScRV _ _ _ _ _:=e62;refine we2 rfl rfl rfl e59 (dB _ _ _ _ _ _ s25 A (m4.wins wr win [25]) wr (Mem.bK HO2.inn win [25]) t25 (bA.at'.le (Mem.dw HO2.inn win [25]))) ?_;rintro e w' ⟨rfl,hb⟩;exact⟨_,rfl,_,rfl,hb,congrArg Value.bool (aN ((fD S25 SA.out).2 fun e=>by by_cases hPA:PA e <;> by_cases hPB:PB e <;> by_cases hPC:PC e <;> simp[*]))⟩
    ·have e64:a.tmps.getD 64 undef=_:=RA.d 27 rfl;have e59:a.tmps.getD 59 undef=_:=RA.d 22 rfl;cases ho;exact wy rfl rfl rfl e59 rfl
    ·have e59:a.tmps.getD 59 undef=_:=RA.d 22 rfl;have e65:a.tmps.getD 65 undef=_:=RA.d 28 rfl;cases ho;exact wv rfl rfl rfl
    ·have e66:a.tmps.getD 66 undef=_:=RA.d 29 rfl;cases ho;exact wv rfl rfl rfl
    ·have e3:=RA.k 3;have e67:a.tmps.getD 67 undef=_:=RA.d 30 rfl;cases ho;exact wy rfl rfl rfl e67 rfl
    ·have e3:=RA.k 3;have e67:a.tmps.getD 67 undef=_:=RA.d 30 rfl;cases ho;exact wy rfl rfl rfl e67 rfl
    ·have e68:a.tmps.getD 68 undef=_:=RA.d 31 rfl;have e69:a.tmps.getD 69 undef=_:=RA.d 32 rfl;have e67:a.tmps.getD 67 undef=_:=RA.d 30 rfl;cases ho;refine we2 rfl rfl rfl e67 (iM _ _ _ A _ _ _ A 8 8 8 8 m4 wr HO2.inn HT.out bA.at' bA.at' LA.out LA.out zo zo zo) ?_;rintro e w' ⟨s,si,sf,st,rfl,hb,hn,hS,hL⟩;exact⟨_,rfl,_,rfl,hb,bH (R:=ScRV (fun e=>(PA e)∧(PA e)) 20 101) ScRV.le HO2.inn hb (d9 hn (hS.congr fun e=>and_congr (GA.out e) (GA.out e)) hL)⟩
    ·have e3:=RA.k 3;have e67:a.tmps.getD 67 undef=_:=RA.d 30 rfl;cases ho;exact wy rfl rfl rfl e67 rfl
    ·have e70:(Fact.mem m4 [33] (ScRV (fun e=>(PA e)∧(PA e)) 20 101)).holds (a.tmps.getD 70 undef) win wr:=RA.d 33 rfl;have e71:a.tmps.getD 71 undef=_:=RA.d 34 rfl;have e67:a.tmps.getD 67 undef=_:=RA.d 30 rfl;cases ho;obtain⟨s33,⟨a33,b33,c33,d33,x33,y33,k33,t33⟩,S33,L33⟩:ScRV _ _ _ _ _:=e70;refine we2 rfl rfl rfl e67 (dB _ _ _ _ _ _ s33 A (m4.wins wr win [33]) wr (Mem.bK HO2.inn win [33]) t33 (bA.at'.le (Mem.dw HO2.inn win [33]))) ?_;rintro e w' ⟨rfl,hb⟩;exact⟨_,rfl,_,rfl,hb,congrArg Value.bool (aN ((fD S33 SA.out).2 fun e=>by by_cases hPA:PA e <;> by_cases hPB:PB e <;> by_cases hPC:PC e <;> simp[*]))⟩
    ·have e72:a.tmps.getD 72 undef=_:=RA.d 35 rfl;have e67:a.tmps.getD 67 undef=_:=RA.d 30 rfl;cases ho;exact wy rfl rfl rfl e67 rfl
    ·have e67:a.tmps.getD 67 undef=_:=RA.d 30 rfl;have e73:a.tmps.getD 73 undef=_:=RA.d 36 rfl;cases ho;exact wv rfl rfl rfl
    ·have e74:a.tmps.getD 74 undef=_:=RA.d 37 rfl;cases ho;exact wv rfl rfl rfl
    ·have e3:=RA.k 3;have e75:a.tmps.getD 75 undef=_:=RA.d 38 rfl;cases ho;exact wy rfl rfl rfl e75 rfl
    ·have e3:=RA.k 3;have e75:a.tmps.getD 75 undef=_:=RA.d 38 rfl;cases ho;exact wy rfl rfl rfl e75 rfl
    ·have e76:a.tmps.getD 76 undef=_:=RA.d 39 rfl;have e77:a.tmps.getD 77 undef=_:=RA.d 40 rfl;have e75:a.tmps.getD 75 undef=_:=RA.d 38 rfl;cases ho;refine we2 rfl rfl rfl e75 (lh _ _ _ A _ _ _ A 8 8 8 8 m4 wr HO2.inn HT.out bA.at' bA.at' LA.out LA.out zo zo zo) ?_;rintro e w' ⟨s,si,sf,st,rfl,hb,hn,hS,hL⟩;exact⟨_,rfl,_,rfl,hb,bH (R:=ScRV (fun e=>(PA e)∨(PA e)) 20 101) ScRV.le HO2.inn hb (d9 hn (hS.congr fun e=>or_congr (GA.out e) (GA.out e)) hL)⟩
    ·have e3:=RA.k 3;have e75:a.tmps.getD 75 undef=_:=RA.d 38 rfl;cases ho;exact wy rfl rfl rfl e75 rfl
    ·have e78:(Fact.mem m4 [41] (ScRV (fun e=>(PA e)∨(PA e)) 20 101)).holds (a.tmps.getD 78 undef) win wr:=RA.d 41 rfl;have e79:a.tmps.getD 79 undef=_:=RA.d 42 rfl;have e75:a.tmps.getD 75 undef=_:=RA.d 38 rfl;cases ho;obtain⟨s41,⟨a41,b41,c41,d41,x41,y41,k41,t41⟩,S41,L41⟩:ScRV _ _ _ _ _:=e78;refine we2 rfl rfl rfl e75 (dB _ _ _ _ _ _ s41 A (m4.wins wr win [41]) wr (Mem.bK HO2.inn win [41]) t41 (bA.at'.le (Mem.dw HO2.inn win [41]))) ?_;rintro e w' ⟨rfl,hb⟩;exact⟨_,rfl,_,rfl,hb,congrArg Value.bool (aN ((fD S41 SA.out).2 fun e=>by by_cases hPA:PA e <;> by_cases hPB:PB e <;> by_cases hPC:PC e <;> simp[*]))⟩
    ·have e80:a.tmps.getD 80 undef=_:=RA.d 43 rfl;have e75:a.tmps.getD 75 undef=_:=RA.d 38 rfl;cases ho;exact wy rfl rfl rfl e75 rfl
    ·have e75:a.tmps.getD 75 undef=_:=RA.d 38 rfl;have e81:a.tmps.getD 81 undef=_:=RA.d 44 rfl;cases ho;exact wv rfl rfl rfl
   ·intro win a wr E;have e3:=E.keep 3 zk;have e4:=E.keep 4 zk;have e5:=E.keep 5 zk;have e7:=E.keep 7 zk;have e8:=E.keep 8 zk;have e82:a.tmps.getD 82 undef=.bool false:=E.fact 45 _ zo rfl;obtain⟨t,d⟩:=a;obtain rfl:d=[]:=E.defers;refine aV zk (hX.out _ _ E.size ⟨?_,HO.out.dr.move E.below⟩) _;simp only[List.map_cons,List.map_nil,e3,e4,e5,e7,e8,e82]
    first | done | rfl
  rintro z0 vs w6 - ⟨rfl,hO⟩;simp[litL,lk];clear HO;have HO:=zh hO;clear hO
  go_upto_region 6 with (fail)
  refine aA [3,4,5,7,8,106] (fun vs w'=>vs=[.pointer (some ⟨w.heap.size,0,none⟩),.pointer (some ⟨w.heap.size+1,0,none⟩),.pointer (some ⟨w.heap.size+1+1,0,none⟩),.pointer (some ⟨gN,0,none⟩),.pointer (some ⟨gO,0,none⟩),.bool false]∧Own w m w' m4 []) ?_ ?_
  ·intro X hX;refine aM 24 6 (fun j=>[Fact.is (·=.agg #[.bool N.nul,.bool N.fal,.bool N.tru,.slice xNa N.i.length xNb,.slice xNc N.f.length xNd,.slice xNe N.t.length xNf]),Fact.is (·=.agg #[.bool C.nul,.bool C.fal,.bool C.tru,.slice ca C.i.length cb,.slice cc C.f.length cd,.slice ce C.t.length cf]),Fact.mem m4 [2] (ScRV (fun e=>((PA e)∧(PB e))∧(PC e)) 32 1031),Fact.is (·=.agg #[.bool A.nul,.bool A.fal,.bool A.tru,.slice aa A.i.length ab,.slice ac A.f.length ad,.slice ae A.t.length af]),Fact.is (·=.agg #[.bool B.nul,.bool B.fal,.bool B.tru,.slice ba B.i.length bb,.slice bc B.f.length bd,.slice be B.t.length bf]),Fact.is (·=.agg #[.bool C.nul,.bool C.fal,.bool C.tru,.slice ca C.i.length cb,.slice cc C.f.length cd,.slice ce C.t.length cf]),Fact.mem m4 [6] (ScRV (fun e=>(PB e)∧(PC e)) 20 101),Fact.mem m4 [7,6] (ScRV (fun e=>(PA e)∧((PB e)∧(PC e))) 32 1031),Fact.is (·=.bool true),Fact.is (·=.bool false),Fact.is (·=.bool false),Fact.is (·=.agg #[.bool A.nul,.bool A.fal,.bool A.tru,.slice aa A.i.length ab,.slice ac A.f.length ad,.slice ae A.t.length af]),Fact.is (·=.agg #[.bool B.nul,.bool B.fal,.bool B.tru,.slice ba B.i.length bb,.slice bc B.f.length bd,.slice be B.t.length bf]),Fact.is (·=.agg #[.bool C.nul,.bool C.fal,.bool C.tru,.slice ca C.i.length cb,.slice cc C.f.length cd,.slice ce C.t.length cf]),Fact.mem m4 [14] (ScRV (fun e=>(PB e)∨(PC e)) 20 101),Fact.mem m4 [15,14] (ScRV (fun e=>(PA e)∧((PB e)∨(PC e))) 32 1031),Fact.is (·=.agg #[.bool N.nul,.bool N.fal,.bool N.tru,.slice xNa N.i.length xNb,.slice xNc N.f.length xNd,.slice xNe N.t.length xNf]),Fact.is (·=.agg #[.bool A.nul,.bool A.fal,.bool A.tru,.slice aa A.i.length ab,.slice ac A.f.length ad,.slice ae A.t.length af]),Fact.is (·=.agg #[.bool C.nul,.bool C.fal,.bool C.tru,.slice ca C.i.length cb,.slice cc C.f.length cd,.slice ce C.t.length cf]),Fact.mem m4 [19] (ScRV (fun e=>(PA e)∧(PC e)) 20 101),Fact.mem m4 [20,19] (ScRV (fun e=>((PA e)∧(PB e))∨((PA e)∧(PC e))) 44 10610),Fact.is (·=.bool true),Fact.is (·=.bool false),Fact.is (·=.bool false)].getD j Fact.any) zk zk ?_ ?_
   ·intro i hi o win a wr ho RA;have HO2:=HO.out.dr.move RA.below;obtain⟨y30,y31,y32,y33,y34,y35⟩:=bA.cw HO2.inn;have y3l:=Mem.ak HO2.inn bA.c0;obtain⟨y40,y41,y42,y43,y44,y45⟩:=bB.cw HO2.inn;have y4l:=Mem.ak HO2.inn bB.c0;obtain⟨y50,y51,y52,y53,y54,y55⟩:=bC.cw HO2.inn;have y5l:=Mem.ak HO2.inn bC.c0;obtain⟨y70,y71,y72,y73,y74,y75⟩:=bN.cw HO2.inn;have y7l:=Mem.ak HO2.inn bN.c0;obtain⟨y80,y81,y82,y83,y84,y85⟩:=bO.cw HO2.inn;have y8l:=Mem.ak HO2.inn bO.c0;rcases (show i=0∨i=1∨i=2∨i=3∨i=4∨i=5∨i=6∨i=7∨i=8∨i=9∨i=10∨i=11∨i=12∨i=13∨i=14∨i=15∨i=16∨i=17∨i=18∨i=19∨i=20∨i=21∨i=22∨i=23 by omega) with rfl | rfl | rfl | rfl | rfl | rfl | rfl | rfl | rfl | rfl | rfl | rfl | rfl | rfl | rfl | rfl | rfl | rfl | rfl | rfl | rfl | rfl | rfl | rfl
    ·have e7:=RA.k 7;cases ho;exact wv rfl rfl rfl
    ·have e5:=RA.k 5;cases ho;exact wv rfl rfl rfl
    ·have e83:a.tmps.getD 83 undef=_:=RA.d 0 rfl;have e84:a.tmps.getD 84 undef=_:=RA.d 1 rfl;cases ho;refine we rfl rfl (iM _ _ _ N _ _ _ C 20 101 8 8 m4 wr HO2.inn HT.out bN.at' bC.at' LN.out LC.out zo zo zo) ?_;rintro e w' ⟨s,si,sf,st,rfl,hb,hn,hS,hL⟩;exact⟨_,rfl,_,rfl,hb,bH (R:=ScRV (fun e=>((PA e)∧(PB e))∧(PC e)) 32 1031) ScRV.le HO2.inn hb (d9 hn (hS.congr fun e=>and_congr (IN.out.good e) (GC.out e)) hL)⟩
    ·have e3:=RA.k 3;cases ho;exact wv rfl rfl rfl
    ·have e4:=RA.k 4;cases ho;exact wv rfl rfl rfl
    ·have e5:=RA.k 5;cases ho;exact wv rfl rfl rfl
    ·have e87:a.tmps.getD 87 undef=_:=RA.d 4 rfl;have e88:a.tmps.getD 88 undef=_:=RA.d 5 rfl;cases ho;refine we rfl rfl (iM _ _ _ B _ _ _ C 8 8 8 8 m4 wr HO2.inn HT.out bB.at' bC.at' LB.out LC.out zo zo zo) ?_;rintro e w' ⟨s,si,sf,st,rfl,hb,hn,hS,hL⟩;exact⟨_,rfl,_,rfl,hb,bH (R:=ScRV (fun e=>(PB e)∧(PC e)) 20 101) ScRV.le HO2.inn hb (d9 hn (hS.congr fun e=>and_congr (GB.out e) (GC.out e)) hL)⟩
    ·have e86:a.tmps.getD 86 undef=_:=RA.d 3 rfl;have e89:(Fact.mem m4 [6] (ScRV (fun e=>(PB e)∧(PC e)) 20 101)).holds (a.tmps.getD 89 undef) win wr:=RA.d 6 rfl;cases ho;obtain⟨s6,⟨a6,b6,c6,d6,x6,y6,k6,t6⟩,S6,L6⟩:ScRV _ _ _ _ _:=e89;refine we rfl rfl (iM _ _ _ A _ _ _ s6 8 8 20 101 (m4.wins wr win [6]) wr (Mem.bK HO2.inn win [6]) (HT.out.le (Mem.dw HO2.inn win [6])) (bA.at'.le (Mem.dw HO2.inn win [6])) t6 LA.out L6 zo zo zo) ?_;rintro e w' ⟨s,si,sf,st,rfl,hb,hn,hS,hL⟩;exact⟨_,rfl,_,rfl,hb,fG (R:=ScRV (fun e=>(PA e)∧((PB e)∧(PC e))) 32 1031) ScRV.le HO2.inn zS (fun d hd=>(RA.rng d (by simp at hd;subst hd;kernel_rfl)).2.2) hb (d9 hn (hS.congr fun e=>and_congr (GA.out e) (S6.good e)) hL)⟩
    ·have e85:(Fact.mem m4 [2] (ScRV (fun e=>((PA e)∧(PB e))∧(PC e)) 32 1031)).holds (a.tmps.getD 85 undef) win wr:=RA.d 2 rfl;have e90:(Fact.mem m4 [7,6] (ScRV (fun e=>(PA e)∧((PB e)∧(PC e))) 32 1031)).holds (a.tmps.getD 90 undef) win wr:=RA.d 7 rfl;cases ho;obtain⟨s2,⟨a2,b2,c2,d2,x2,y2,k2,t2⟩,S2,L2⟩:ScRV _ _ _ _ _:=e85;obtain⟨s7,⟨a7,b7,c7,d7,x7,y7,k7,t7⟩,S7,L7⟩:ScRV _ _ _ _ _:=e90;refine we rfl rfl (dB _ _ _ _ _ _ s2 s7 (m4.wins wr win [2,7,6]) wr (Mem.bK HO2.inn win [2,7,6]) (t2.le (Mem.cO (es:=[2,7,6]) HO2.inn win zS)) (t7.le (Mem.cO (es:=[2,7,6]) HO2.inn win zS))) ?_;rintro e w' ⟨rfl,hb⟩;exact⟨_,rfl,_,rfl,hb,congrArg Value.bool (aN ((fD S2 S7).2 fun e=>by by_cases hPA:PA e <;> by_cases hPB:PB e <;> by_cases hPC:PC e <;> simp[*]))⟩
    ·have e91:a.tmps.getD 91 undef=_:=RA.d 8 rfl;cases ho;exact wv rfl rfl rfl
    ·have e92:a.tmps.getD 92 undef=_:=RA.d 9 rfl;cases ho;exact wv rfl rfl rfl
    ·have e3:=RA.k 3;have e93:a.tmps.getD 93 undef=_:=RA.d 10 rfl;cases ho;exact wy rfl rfl rfl e93 rfl
    ·have e4:=RA.k 4;have e93:a.tmps.getD 93 undef=_:=RA.d 10 rfl;cases ho;exact wy rfl rfl rfl e93 rfl
    ·have e5:=RA.k 5;have e93:a.tmps.getD 93 undef=_:=RA.d 10 rfl;cases ho;exact wy rfl rfl rfl e93 rfl
    ·have e95:a.tmps.getD 95 undef=_:=RA.d 12 rfl;have e96:a.tmps.getD 96 undef=_:=RA.d 13 rfl;have e93:a.tmps.getD 93 undef=_:=RA.d 10 rfl;cases ho;refine we2 rfl rfl rfl e93 (lh _ _ _ B _ _ _ C 8 8 8 8 m4 wr HO2.inn HT.out bB.at' bC.at' LB.out LC.out zo zo zo) ?_;rintro e w' ⟨s,si,sf,st,rfl,hb,hn,hS,hL⟩;exact⟨_,rfl,_,rfl,hb,bH (R:=ScRV (fun e=>(PB e)∨(PC e)) 20 101) ScRV.le HO2.inn hb (d9 hn (hS.congr fun e=>or_congr (GB.out e) (GC.out e)) hL)⟩
    ·have e94:a.tmps.getD 94 undef=_:=RA.d 11 rfl;have e97:(Fact.mem m4 [14] (ScRV (fun e=>(PB e)∨(PC e)) 20 101)).holds (a.tmps.getD 97 undef) win wr:=RA.d 14 rfl;have e93:a.tmps.getD 93 undef=_:=RA.d 10 rfl;cases ho;obtain⟨s14,⟨a14,b14,c14,d14,x14,y14,k14,t14⟩,S14,L14⟩:ScRV _ _ _ _ _:=e97;refine we2 rfl rfl rfl e93 (iM _ _ _ A _ _ _ s14 8 8 20 101 (m4.wins wr win [14]) wr (Mem.bK HO2.inn win [14]) (HT.out.le (Mem.dw HO2.inn win [14])) (bA.at'.le (Mem.dw HO2.inn win [14])) t14 LA.out L14 zo zo zo) ?_;rintro e w' ⟨s,si,sf,st,rfl,hb,hn,hS,hL⟩;exact⟨_,rfl,_,rfl,hb,fG (R:=ScRV (fun e=>(PA e)∧((PB e)∨(PC e))) 32 1031) ScRV.le HO2.inn zS (fun d hd=>(RA.rng d (by simp at hd;subst hd;kernel_rfl)).2.2) hb (d9 hn (hS.congr fun e=>and_congr (GA.out e) (S14.good e)) hL)⟩
    ·have e7:=RA.k 7;have e93:a.tmps.getD 93 undef=_:=RA.d 10 rfl;cases ho;exact wy rfl rfl rfl e93 rfl
    ·have e3:=RA.k 3;have e93:a.tmps.getD 93 undef=_:=RA.d 10 rfl;cases ho;exact wy rfl rfl rfl e93 rfl
    ·have e5:=RA.k 5;have e93:a.tmps.getD 93 undef=_:=RA.d 10 rfl;cases ho;exact wy rfl rfl rfl e93 rfl
    ·have e100:a.tmps.getD 100 undef=_:=RA.d 17 rfl;have e101:a.tmps.getD 101 undef=_:=RA.d 18 rfl;have e93:a.tmps.getD 93 undef=_:=RA.d 10 rfl;cases ho;refine we2 rfl rfl rfl e93 (iM _ _ _ A _ _ _ C 8 8 8 8 m4 wr HO2.inn HT.out bA.at' bC.at' LA.out LC.out zo zo zo) ?_;rintro e w' ⟨s,si,sf,st,rfl,hb,hn,hS,hL⟩;exact⟨_,rfl,_,rfl,hb,bH (R:=ScRV (fun e=>(PA e)∧(PC e)) 20 101) ScRV.le HO2.inn hb (d9 hn (hS.congr fun e=>and_congr (GA.out e) (GC.out e)) hL)⟩
    ·have e99:a.tmps.getD 99 undef=_:=RA.d 16 rfl;have e102:(Fact.mem m4 [19] (ScRV (fun e=>(PA e)∧(PC e)) 20 101)).holds (a.tmps.getD 102 undef) win wr:=RA.d 19 rfl;have e93:a.tmps.getD 93 undef=_:=RA.d 10 rfl;cases ho;obtain⟨s19,⟨a19,b19,c19,d19,x19,y19,k19,t19⟩,S19,L19⟩:ScRV _ _ _ _ _:=e102;refine we2 rfl rfl rfl e93 (lh _ _ _ N _ _ _ s19 20 101 20 101 (m4.wins wr win [19]) wr (Mem.bK HO2.inn win [19]) (HT.out.le (Mem.dw HO2.inn win [19])) (bN.at'.le (Mem.dw HO2.inn win [19])) t19 LN.out L19 zo zo zo) ?_;rintro e w' ⟨s,si,sf,st,rfl,hb,hn,hS,hL⟩;exact⟨_,rfl,_,rfl,hb,fG (R:=ScRV (fun e=>((PA e)∧(PB e))∨((PA e)∧(PC e))) 44 10610) ScRV.le HO2.inn zS (fun d hd=>(RA.rng d (by simp at hd;subst hd;kernel_rfl)).2.2) hb (d9 hn (hS.congr fun e=>or_congr (IN.out.good e) (S19.good e)) hL)⟩
    ·have e98:(Fact.mem m4 [15,14] (ScRV (fun e=>(PA e)∧((PB e)∨(PC e))) 32 1031)).holds (a.tmps.getD 98 undef) win wr:=RA.d 15 rfl;have e103:(Fact.mem m4 [20,19] (ScRV (fun e=>((PA e)∧(PB e))∨((PA e)∧(PC e))) 44 10610)).holds (a.tmps.getD 103 undef) win wr:=RA.d 20 rfl;have e93:a.tmps.getD 93 undef=_:=RA.d 10 rfl;cases ho;obtain⟨s15,⟨a15,b15,c15,d15,x15,y15,k15,t15⟩,S15,L15⟩:ScRV _ _ _ _ _:=e98;obtain⟨s20,⟨a20,b20,c20,d20,x20,y20,k20,t20⟩,S20,L20⟩:ScRV _ _ _ _ _:=e103;refine we2 rfl rfl rfl e93 (dB _ _ _ _ _ _ s15 s20 (m4.wins wr win [15,14,20,19]) wr (Mem.bK HO2.inn win [15,14,20,19]) (t15.le (Mem.cO (es:=[15,14,20,19]) HO2.inn win zS)) (t20.le (Mem.cO (es:=[15,14,20,19]) HO2.inn win zS))) ?_;rintro e w' ⟨rfl,hb⟩;exact⟨_,rfl,_,rfl,hb,congrArg Value.bool (aN ((fD S15 S20).2 fun e=>by by_cases hPA:PA e <;> by_cases hPB:PB e <;> by_cases hPC:PC e <;> simp[*]))⟩
    ·have e104:a.tmps.getD 104 undef=_:=RA.d 21 rfl;have e93:a.tmps.getD 93 undef=_:=RA.d 10 rfl;cases ho;exact wy rfl rfl rfl e93 rfl
    ·have e93:a.tmps.getD 93 undef=_:=RA.d 10 rfl;have e105:a.tmps.getD 105 undef=_:=RA.d 22 rfl;cases ho;exact wv rfl rfl rfl
   ·intro win a wr E;have e3:=E.keep 3 zk;have e4:=E.keep 4 zk;have e5:=E.keep 5 zk;have e7:=E.keep 7 zk;have e8:=E.keep 8 zk;have e106:a.tmps.getD 106 undef=.bool false:=E.fact 23 _ zo rfl;obtain⟨t,d⟩:=a;obtain rfl:d=[]:=E.defers;refine aV zk (hX.out _ _ E.size ⟨?_,HO.out.dr.move E.below⟩) _;simp only[List.map_cons,List.map_nil,e3,e4,e5,e7,e8,e106]
    first | done | rfl
  rintro z0 vs w6 - ⟨rfl,hO⟩;simp[litL,lk];clear HO;have HO:=zh hO;clear hO;have Q1:=zh (JX SA.out SB.out IN.out);have Q2:=zh (Ms SA.out SB.out Io.out)
  go_upto_region 8 with (fail)
  refine aA [3,4,5,7,8,132] (fun vs w'=>vs=[.pointer (some ⟨w.heap.size,0,none⟩),.pointer (some ⟨w.heap.size+1,0,none⟩),.pointer (some ⟨w.heap.size+1+1,0,none⟩),.pointer (some ⟨gN,0,none⟩),.pointer (some ⟨gO,0,none⟩),.bool false]∧Own w m w' m4 []) ?_ ?_
  ·intro X hX;refine aM 26 6 (fun j=>[Fact.is (·=.agg #[.bool A.nul,.bool A.fal,.bool A.tru,.slice aa A.i.length ab,.slice ac A.f.length ad,.slice ae A.t.length af]),Fact.is (·=.agg #[.bool B.nul,.bool B.fal,.bool B.tru,.slice ba B.i.length bb,.slice bc B.f.length bd,.slice be B.t.length bf]),Fact.is (·=.bool (subB A B)),Fact.is (·=.agg #[.bool N.nul,.bool N.fal,.bool N.tru,.slice xNa N.i.length xNb,.slice xNc N.f.length xNd,.slice xNe N.t.length xNf]),Fact.is (·=.agg #[.bool A.nul,.bool A.fal,.bool A.tru,.slice aa A.i.length ab,.slice ac A.f.length ad,.slice ae A.t.length af]),Fact.is (·=.bool (subB A B)),Fact.is (·=.bool false),Fact.is (·=.bool false),Fact.is (·=.agg #[.bool A.nul,.bool A.fal,.bool A.tru,.slice aa A.i.length ab,.slice ac A.f.length ad,.slice ae A.t.length af]),Fact.is (·=.agg #[.bool B.nul,.bool B.fal,.bool B.tru,.slice ba B.i.length bb,.slice bc B.f.length bd,.slice be B.t.length bf]),Fact.is (·=.bool (subB A B)),Fact.is (·=.agg #[.bool O.nul,.bool O.fal,.bool O.tru,.slice xOa O.i.length xOb,.slice xOc O.f.length xOd,.slice xOe O.t.length xOf]),Fact.is (·=.agg #[.bool B.nul,.bool B.fal,.bool B.tru,.slice ba B.i.length bb,.slice bc B.f.length bd,.slice be B.t.length bf]),Fact.is (·=.bool (subB A B)),Fact.is (·=.bool false),Fact.is (·=.bool false),Fact.is (·=.bool false),Fact.is (·=.agg #[.bool A.nul,.bool A.fal,.bool A.tru,.slice aa A.i.length ab,.slice ac A.f.length ad,.slice ae A.t.length af]),Fact.is (·=.agg #[.bool B.nul,.bool B.fal,.bool B.tru,.slice ba B.i.length bb,.slice bc B.f.length bd,.slice be B.t.length bf]),Fact.is (·=.bool (subB A B)),Fact.is (·=.agg #[.bool A.nul,.bool A.fal,.bool A.tru,.slice aa A.i.length ab,.slice ac A.f.length ad,.slice ae A.t.length af]),Fact.is (·=.agg #[.bool B.nul,.bool B.fal,.bool B.tru,.slice ba B.i.length bb,.slice bc B.f.length bd,.slice be B.t.length bf]),Fact.mem m4 [22] (ScRV (fun e=>(PA e)∧¬ (PB e)) 20 101),Fact.is (·=.bool (subB A B)),Fact.is (·=.bool false),Fact.is (·=.bool false)].getD j Fact.any) zk zk ?_ ?_
   ·intro i hi o win a wr ho RA;have HO2:=HO.out.dr.move RA.below;obtain⟨y30,y31,y32,y33,y34,y35⟩:=bA.cw HO2.inn;have y3l:=Mem.ak HO2.inn bA.c0;obtain⟨y40,y41,y42,y43,y44,y45⟩:=bB.cw HO2.inn;have y4l:=Mem.ak HO2.inn bB.c0;obtain⟨y50,y51,y52,y53,y54,y55⟩:=bC.cw HO2.inn;have y5l:=Mem.ak HO2.inn bC.c0;obtain⟨y70,y71,y72,y73,y74,y75⟩:=bN.cw HO2.inn;have y7l:=Mem.ak HO2.inn bN.c0;obtain⟨y80,y81,y82,y83,y84,y85⟩:=bO.cw HO2.inn;have y8l:=Mem.ak HO2.inn bO.c0;rcases (show i=0∨i=1∨i=2∨i=3∨i=4∨i=5∨i=6∨i=7∨i=8∨i=9∨i=10∨i=11∨i=12∨i=13∨i=14∨i=15∨i=16∨i=17∨i=18∨i=19∨i=20∨i=21∨i=22∨i=23∨i=24∨i=25 by omega) with rfl | rfl | rfl | rfl | rfl | rfl | rfl | rfl | rfl | rfl | rfl | rfl | rfl | rfl | rfl | rfl | rfl | rfl | rfl | rfl | rfl | rfl | rfl | rfl | rfl | rfl
    ·have e3:=RA.k 3;cases ho;exact wv rfl rfl rfl
    ·have e4:=RA.k 4;cases ho;exact wv rfl rfl rfl
    ·have e107:a.tmps.getD 107 undef=_:=RA.d 0 rfl;have e108:a.tmps.getD 108 undef=_:=RA.d 1 rfl;cases ho;refine we rfl rfl (ik _ _ _ A _ _ _ B 8 8 8 8 m4 wr HO2.inn HT.out bA.at' bB.at' LA.out LB.out zo zo zo) ?_;rintro e w' ⟨rfl,hb⟩;exact⟨_,rfl,_,rfl,hb,rfl⟩
    ·have e7:=RA.k 7;cases ho;exact wv rfl rfl rfl
    ·have e3:=RA.k 3;cases ho;exact wv rfl rfl rfl
    ·have e110:a.tmps.getD 110 undef=_:=RA.d 3 rfl;have e111:a.tmps.getD 111 undef=_:=RA.d 4 rfl;cases ho;refine we rfl rfl (dB _ _ _ _ _ _ N A m4 wr HO2.inn bN.at' bA.at') ?_;rintro e w' ⟨rfl,hb⟩;exact⟨_,rfl,_,rfl,hb,congrArg Value.bool (Q1.out)⟩
    ·have e109:a.tmps.getD 109 undef=_:=RA.d 2 rfl;have e112:a.tmps.getD 112 undef=_:=RA.d 5 rfl;cases ho;exact wv rfl rfl rfl
    ·have e113:a.tmps.getD 113 undef=_:=RA.d 6 rfl;cases ho;exact wv rfl rfl rfl
    ·have e3:=RA.k 3;have e114:a.tmps.getD 114 undef=_:=RA.d 7 rfl;cases ho;exact wy rfl rfl rfl e114 rfl
    ·have e4:=RA.k 4;have e114:a.tmps.getD 114 undef=_:=RA.d 7 rfl;cases ho;exact wy rfl rfl rfl e114 rfl
    ·have e115:a.tmps.getD 115 undef=_:=RA.d 8 rfl;have e116:a.tmps.getD 116 undef=_:=RA.d 9 rfl;have e114:a.tmps.getD 114 undef=_:=RA.d 7 rfl;cases ho;refine we2 rfl rfl rfl e114 (ik _ _ _ A _ _ _ B 8 8 8 8 m4 wr HO2.inn HT.out bA.at' bB.at' LA.out LB.out zo zo zo) ?_;rintro e w' ⟨rfl,hb⟩;exact⟨_,rfl,_,rfl,hb,rfl⟩
    ·have e8:=RA.k 8;have e114:a.tmps.getD 114 undef=_:=RA.d 7 rfl;cases ho;exact wy rfl rfl rfl e114 rfl
    ·have e4:=RA.k 4;have e114:a.tmps.getD 114 undef=_:=RA.d 7 rfl;cases ho;exact wy rfl rfl rfl e114 rfl
    ·have e118:a.tmps.getD 118 undef=_:=RA.d 11 rfl;have e119:a.tmps.getD 119 undef=_:=RA.d 12 rfl;have e114:a.tmps.getD 114 undef=_:=RA.d 7 rfl;cases ho;refine we2 rfl rfl rfl e114 (dB _ _ _ _ _ _ O B m4 wr HO2.inn bO.at' bB.at') ?_;rintro e w' ⟨rfl,hb⟩;exact⟨_,rfl,_,rfl,hb,congrArg Value.bool (Q2.out)⟩
    ·have e117:a.tmps.getD 117 undef=_:=RA.d 10 rfl;have e120:a.tmps.getD 120 undef=_:=RA.d 13 rfl;have e114:a.tmps.getD 114 undef=_:=RA.d 7 rfl;cases ho;exact wy rfl rfl rfl e114 rfl
    ·have e114:a.tmps.getD 114 undef=_:=RA.d 7 rfl;have e121:a.tmps.getD 121 undef=_:=RA.d 14 rfl;cases ho;exact wv rfl rfl rfl
    ·have e122:a.tmps.getD 122 undef=_:=RA.d 15 rfl;cases ho;exact wv rfl rfl rfl
    ·have e3:=RA.k 3;have e123:a.tmps.getD 123 undef=_:=RA.d 16 rfl;cases ho;exact wy rfl rfl rfl e123 rfl
    ·have e4:=RA.k 4;have e123:a.tmps.getD 123 undef=_:=RA.d 16 rfl;cases ho;exact wy rfl rfl rfl e123 rfl
    ·have e124:a.tmps.getD 124 undef=_:=RA.d 17 rfl;have e125:a.tmps.getD 125 undef=_:=RA.d 18 rfl;have e123:a.tmps.getD 123 undef=_:=RA.d 16 rfl;cases ho;refine we2 rfl rfl rfl e123 (ik _ _ _ A _ _ _ B 8 8 8 8 m4 wr HO2.inn HT.out bA.at' bB.at' LA.out LB.out zo zo zo) ?_;rintro e w' ⟨rfl,hb⟩;exact⟨_,rfl,_,rfl,hb,rfl⟩
    ·have e3:=RA.k 3;have e123:a.tmps.getD 123 undef=_:=RA.d 16 rfl;cases ho;exact wy rfl rfl rfl e123 rfl
    ·have e4:=RA.k 4;have e123:a.tmps.getD 123 undef=_:=RA.d 16 rfl;cases ho;exact wy rfl rfl rfl e123 rfl
    ·have e127:a.tmps.getD 127 undef=_:=RA.d 20 rfl;have e128:a.tmps.getD 128 undef=_:=RA.d 21 rfl;have e123:a.tmps.getD 123 undef=_:=RA.d 16 rfl;cases ho;refine we2 rfl rfl rfl e123 (jU _ _ _ A _ _ _ B 8 8 8 8 m4 wr HO2.inn HT.out bA.at' bB.at' LA.out LB.out zo zo zo) ?_;rintro e w' ⟨s,si,sf,st,rfl,hb,hn,hS,hL⟩;exact⟨_,rfl,_,rfl,hb,bH (R:=ScRV (fun e=>(PA e)∧¬ (PB e)) 20 101) ScRV.le HO2.inn hb (d9 hn (hS.congr fun e=>and_congr (GA.out e) (not_congr (GB.out e))) hL)⟩
    ·have e129:(Fact.mem m4 [22] (ScRV (fun e=>(PA e)∧¬ (PB e)) 20 101)).holds (a.tmps.getD 129 undef) win wr:=RA.d 22 rfl;have e123:a.tmps.getD 123 undef=_:=RA.d 16 rfl;cases ho;obtain⟨s22,⟨a22,b22,c22,d22,x22,y22,k22,t22⟩,S22,L22⟩:ScRV _ _ _ _ _:=e129;refine we2 rfl rfl rfl e123 (gT _ _ _ s22 (m4.wins wr win [22]) wr (Mem.bK HO2.inn win [22]) (HT.out.le (Mem.dw HO2.inn win [22])) t22 ((L22).mono zo zo)) ?_;rintro e w' ⟨rfl,hb⟩;exact⟨_,rfl,_,rfl,hb,congrArg Value.bool (Ea SA.out SB.out S22)⟩
    ·have e126:a.tmps.getD 126 undef=_:=RA.d 19 rfl;have e130:a.tmps.getD 130 undef=_:=RA.d 23 rfl;have e123:a.tmps.getD 123 undef=_:=RA.d 16 rfl;cases ho;exact wy rfl rfl rfl e123 rfl
    ·have e123:a.tmps.getD 123 undef=_:=RA.d 16 rfl;have e131:a.tmps.getD 131 undef=_:=RA.d 24 rfl;cases ho;exact wv rfl rfl rfl
   ·intro win a wr E;have e3:=E.keep 3 zk;have e4:=E.keep 4 zk;have e5:=E.keep 5 zk;have e7:=E.keep 7 zk;have e8:=E.keep 8 zk;have e132:a.tmps.getD 132 undef=.bool false:=E.fact 25 _ zo rfl;obtain⟨t,d⟩:=a;obtain rfl:d=[]:=E.defers;refine aV zk (hX.out _ _ E.size ⟨?_,HO.out.dr.move E.below⟩) _;simp only[List.map_cons,List.map_nil,e3,e4,e5,e7,e8,e132]
    first | done | rfl
  rintro z0 vs w6 - ⟨rfl,hO⟩;simp[litL,lk];clear HO;have HO:=zh hO;clear hO
  go_upto_region 10 with (fail)
  refine aA [6] (fun vs w'=>vs=[.bool true]∧Own w m w' m4 []) ?_ ?_
  ·intro X hX;refine aM 18 6 (fun j=>[Fact.is (·=.agg #[.bool A.nul,.bool A.fal,.bool A.tru,.slice aa A.i.length ab,.slice ac A.f.length ad,.slice ae A.t.length af]),Fact.mem m4 [1] (ScRV elOk 1 1),Fact.mem m4 [2,1] (ScRV (fun e=>(PA e)∧(elOk e)) 13 31),Fact.is (·=.agg #[.bool A.nul,.bool A.fal,.bool A.tru,.slice aa A.i.length ab,.slice ac A.f.length ad,.slice ae A.t.length af]),Fact.is (·=.bool true),Fact.is (·=.bool true),Fact.is (·=.agg #[.bool A.nul,.bool A.fal,.bool A.tru,.slice aa A.i.length ab,.slice ac A.f.length ad,.slice ae A.t.length af]),Fact.is (·=.agg #[.bool B.nul,.bool B.fal,.bool B.tru,.slice ba B.i.length bb,.slice bc B.f.length bd,.slice be B.t.length bf]),Fact.mem m4 [8] (ScRV (fun e=>(PA e)∧¬ (PB e)) 20 101),Fact.is (·=.agg #[.bool N.nul,.bool N.fal,.bool N.tru,.slice xNa N.i.length xNb,.slice xNc N.f.length xNd,.slice xNe N.t.length xNf]),Fact.mem m4 [10,8] (ScRV (fun e=>((PA e)∧¬ (PB e))∨((PA e)∧(PB e))) 44 10610),Fact.is (·=.agg #[.bool A.nul,.bool A.fal,.bool A.tru,.slice aa A.i.length ab,.slice ac A.f.length ad,.slice ae A.t.length af]),Fact.is (·=.bool true),Fact.is (·=.bool true),Fact.is (·=.bool true),Fact.is (·=.bool true),Fact.is (·=.bool true),Fact.is (·=.bool true)].getD j Fact.any) zk zk ?_ ?_
   ·intro i hi o win a wr ho RA;have HO2:=HO.out.dr.move RA.below;obtain⟨y30,y31,y32,y33,y34,y35⟩:=bA.cw HO2.inn;have y3l:=Mem.ak HO2.inn bA.c0;obtain⟨y40,y41,y42,y43,y44,y45⟩:=bB.cw HO2.inn;have y4l:=Mem.ak HO2.inn bB.c0;obtain⟨y50,y51,y52,y53,y54,y55⟩:=bC.cw HO2.inn;have y5l:=Mem.ak HO2.inn bC.c0;obtain⟨y70,y71,y72,y73,y74,y75⟩:=bN.cw HO2.inn;have y7l:=Mem.ak HO2.inn bN.c0;obtain⟨y80,y81,y82,y83,y84,y85⟩:=bO.cw HO2.inn;have y8l:=Mem.ak HO2.inn bO.c0;rcases (show i=0∨i=1∨i=2∨i=3∨i=4∨i=5∨i=6∨i=7∨i=8∨i=9∨i=10∨i=11∨i=12∨i=13∨i=14∨i=15∨i=16∨i=17 by omega) with rfl | rfl | rfl | rfl | rfl | rfl | rfl | rfl | rfl | rfl | rfl | rfl | rfl | rfl | rfl | rfl | rfl | rfl
    ·have e3:=RA.k 3;cases ho;exact wv rfl rfl rfl
    ·cases ho;refine we rfl rfl (oh m4 wr HO2.inn) ?_;rintro e w' ⟨ri,rf,rt,rfl,hb,hn⟩;exact⟨_,rfl,_,rfl,hb,bH (R:=ScRV elOk 1 1) ScRV.le HO2.inn hb (d9 hn nX qF)⟩
    ·have e133:a.tmps.getD 133 undef=_:=RA.d 0 rfl;have e134:(Fact.mem m4 [1] (ScRV elOk 1 1)).holds (a.tmps.getD 134 undef) win wr:=RA.d 1 rfl;cases ho;obtain⟨s1,⟨a1,b1,c1,d1,x1,y1,k1,t1⟩,S1,L1⟩:ScRV _ _ _ _ _:=e134;refine we rfl rfl (iM _ _ _ A _ _ _ s1 8 8 1 1 (m4.wins wr win [1]) wr (Mem.bK HO2.inn win [1]) (HT.out.le (Mem.dw HO2.inn win [1])) (bA.at'.le (Mem.dw HO2.inn win [1])) t1 LA.out L1 zo zo zo) ?_;rintro e w' ⟨s,si,sf,st,rfl,hb,hn,hS,hL⟩;exact⟨_,rfl,_,rfl,hb,fG (R:=ScRV (fun e=>(PA e)∧(elOk e)) 13 31) ScRV.le HO2.inn zS (fun d hd=>(RA.rng d (by simp at hd;subst hd;kernel_rfl)).2.2) hb (d9 hn (hS.congr fun e=>and_congr (GA.out e) (S1.good e)) hL)⟩
    ·have e3:=RA.k 3;cases ho;exact wv rfl rfl rfl
    ·have e135:(Fact.mem m4 [2,1] (ScRV (fun e=>(PA e)∧(elOk e)) 13 31)).holds (a.tmps.getD 135 undef) win wr:=RA.d 2 rfl;have e136:a.tmps.getD 136 undef=_:=RA.d 3 rfl;cases ho;obtain⟨s2,⟨a2,b2,c2,d2,x2,y2,k2,t2⟩,S2,L2⟩:ScRV _ _ _ _ _:=e135;refine we rfl rfl (dB _ _ _ _ _ _ s2 A (m4.wins wr win [2,1]) wr (Mem.bK HO2.inn win [2,1]) t2 (bA.at'.le (Mem.dw HO2.inn win [2,1]))) ?_;rintro e w' ⟨rfl,hb⟩;exact⟨_,rfl,_,rfl,hb,congrArg Value.bool (aN ((fD S2 SA.out).2 fun e=>⟨fun x=>x.1,fun x=>⟨x,zH ((GA.out e).2 x)⟩⟩))⟩
    ·have e137:a.tmps.getD 137 undef=_:=RA.d 4 rfl;cases ho;exact wv rfl rfl rfl
    ·have e3:=RA.k 3;have e138:a.tmps.getD 138 undef=_:=RA.d 5 rfl;cases ho;exact wy rfl rfl rfl e138 rfl
    ·have e4:=RA.k 4;have e138:a.tmps.getD 138 undef=_:=RA.d 5 rfl;cases ho;exact wy rfl rfl rfl e138 rfl
    ·have e139:a.tmps.getD 139 undef=_:=RA.d 6 rfl;have e140:a.tmps.getD 140 undef=_:=RA.d 7 rfl;have e138:a.tmps.getD 138 undef=_:=RA.d 5 rfl;cases ho;refine we2 rfl rfl rfl e138 (jU _ _ _ A _ _ _ B 8 8 8 8 m4 wr HO2.inn HT.out bA.at' bB.at' LA.out LB.out zo zo zo) ?_;rintro e w' ⟨s,si,sf,st,rfl,hb,hn,hS,hL⟩;exact⟨_,rfl,_,rfl,hb,bH (R:=ScRV (fun e=>(PA e)∧¬ (PB e)) 20 101) ScRV.le HO2.inn hb (d9 hn (hS.congr fun e=>and_congr (GA.out e) (not_congr (GB.out e))) hL)⟩
    ·have e7:=RA.k 7;have e138:a.tmps.getD 138 undef=_:=RA.d 5 rfl;cases ho;exact wy rfl rfl rfl e138 rfl
    ·have e141:(Fact.mem m4 [8] (ScRV (fun e=>(PA e)∧¬ (PB e)) 20 101)).holds (a.tmps.getD 141 undef) win wr:=RA.d 8 rfl;have e142:a.tmps.getD 142 undef=_:=RA.d 9 rfl;have e138:a.tmps.getD 138 undef=_:=RA.d 5 rfl;cases ho;obtain⟨s8,⟨a8,b8,c8,d8,x8,y8,k8,t8⟩,S8,L8⟩:ScRV _ _ _ _ _:=e141;refine we2 rfl rfl rfl e138 (lh _ _ _ s8 _ _ _ N 20 101 20 101 (m4.wins wr win [8]) wr (Mem.bK HO2.inn win [8]) (HT.out.le (Mem.dw HO2.inn win [8])) t8 (bN.at'.le (Mem.dw HO2.inn win [8])) L8 LN.out zo zo zo) ?_;rintro e w' ⟨s,si,sf,st,rfl,hb,hn,hS,hL⟩;exact⟨_,rfl,_,rfl,hb,fG (R:=ScRV (fun e=>((PA e)∧¬ (PB e))∨((PA e)∧(PB e))) 44 10610) ScRV.le HO2.inn zS (fun d hd=>(RA.rng d (by simp at hd;subst hd;kernel_rfl)).2.2) hb (d9 hn (hS.congr fun e=>or_congr (S8.good e) (IN.out.good e)) hL)⟩
    ·have e3:=RA.k 3;have e138:a.tmps.getD 138 undef=_:=RA.d 5 rfl;cases ho;exact wy rfl rfl rfl e138 rfl
    ·have e143:(Fact.mem m4 [10,8] (ScRV (fun e=>((PA e)∧¬ (PB e))∨((PA e)∧(PB e))) 44 10610)).holds (a.tmps.getD 143 undef) win wr:=RA.d 10 rfl;have e144:a.tmps.getD 144 undef=_:=RA.d 11 rfl;have e138:a.tmps.getD 138 undef=_:=RA.d 5 rfl;cases ho;obtain⟨s10,⟨a10,b10,c10,d10,x10,y10,k10,t10⟩,S10,L10⟩:ScRV _ _ _ _ _:=e143;refine we2 rfl rfl rfl e138 (dB _ _ _ _ _ _ s10 A (m4.wins wr win [10,8]) wr (Mem.bK HO2.inn win [10,8]) t10 (bA.at'.le (Mem.dw HO2.inn win [10,8]))) ?_;rintro e w' ⟨rfl,hb⟩;exact⟨_,rfl,_,rfl,hb,congrArg Value.bool (aN ((fD S10 SA.out).2 fun e=>by by_cases hPA:PA e <;> by_cases hPB:PB e <;> by_cases hPC:PC e <;> simp[*]))⟩
    ·have e138:a.tmps.getD 138 undef=_:=RA.d 5 rfl;have e145:a.tmps.getD 145 undef=_:=RA.d 12 rfl;cases ho;exact wv rfl rfl rfl
    ·have e146:a.tmps.getD 146 undef=_:=RA.d 13 rfl;cases ho;exact wv rfl rfl rfl
    ·have e147:a.tmps.getD 147 undef=_:=RA.d 14 rfl;cases ho;refine we2 rfl rfl rfl e147 (bJ m4 wr HO2.inn HT.out) ?_;rintro e w' ⟨rfl,hb⟩;exact⟨_,rfl,_,rfl,hb,rfl⟩
    ·have e147:a.tmps.getD 147 undef=_:=RA.d 14 rfl;have e148:a.tmps.getD 148 undef=_:=RA.d 15 rfl;cases ho;exact wv rfl rfl rfl
    ·have e149:a.tmps.getD 149 undef=_:=RA.d 16 rfl;cases ho;exact wv rfl rfl rfl
   ·intro win a wr E;have e6:a.tmps.getD 6 undef=.bool true:=E.fact 17 _ zo rfl;obtain⟨t,d⟩:=a;obtain rfl:d=[]:=E.defers;refine aV zk (hX.out _ _ E.size ⟨?_,HO.out.dr.move E.below⟩) _;simp only[List.map_cons,List.map_nil,e6]
    first | done | rfl
  rintro z' vs w9 - ⟨rfl,hO⟩;simp[litL,lk];have HE:=zh hO.below;clear hO HO;go_wp2;exact hR.out _ _ ⟨rfl,HE.out⟩
end Cl

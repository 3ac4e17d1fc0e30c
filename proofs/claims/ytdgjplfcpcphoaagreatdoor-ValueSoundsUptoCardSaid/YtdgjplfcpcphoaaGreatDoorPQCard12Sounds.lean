/- The law's walk. -/
import Derived.Test.YtdgjplfcpcphoaaGreatDoorProg
import Derived.BigQuiet
import Derived.Deep.Cut
import Derived.Deep.QuietTactic
import Derived.Laws.StructEq
import Derived.Lib.AppendStr
import Derived.Lib.Builder
import Derived.Lib.Hide
import Derived.Lib.ItoaLen
import Derived.Maps.OwnOps
import Derived.Maps.OwnSet
import Derived.OrdersHeld
import Derived.Outline
import Derived.StillTailTactics
import Derived.StringKeys
import Derived.WalkKit
import Derived.WalkLawsBesides
import Derived.WalkSpells
import Derived.Deep.RegionHeld
import Derived.Laws.CopyRow
import Derived.Laws.Tables
import Derived.BigFrame
import Derived.RangeFuncNested
import Derived.RangeFuncBound
import Derived.RangeFuncCalls
import Derived.RangeFuncLeaves
import Derived.OwnWalkIn
import Derived.TacticsInMore
import Derived.LoopNIn
import Derived.LoopIn
import Derived.Shelf.Strings.Builder1
import Derived.Shelf.Small.Wraps
import Derived.Shelf.LaysM
import Derived.Shelf.Strconv.Itoa3
import Derived.Shelf.Strconv.AppendIntPublic10
import Derived.Shelf.Spec.SlicesGrow
import Derived.Shelf.SlSortCmp.WholeK
import Derived.RegionTactic
import Derived.ChangeAlike
import Derived.Laws.BytesArg
import Derived.Laws.EntriesVeiled
import Derived.Laws.CopyOwn
import Derived.WalkMore
import Derived.Test.YtdgjplfcpcphoaaGreatDoorRows
import Derived.Deep.Slices
import Derived.Lib.SmallJoins
import Derived.ChangeMaps5
import Derived.Carry
import Derived.KernelRfl
import Derived.ChangeArms
import Derived.Test.YtdgjplfcpcphoaaGreatDoorCards
import Derived.Test.YtdgjplfcpcphoaaGreatDoorTie
import Derived.ProofKit
import Derived.OpenShut
import Derived.Deep.DeepHandedRow
import Derived.Lib.LaidTab
import Derived.Stop.LaidErr
import Derived.Test.YtdgjplfcpcphoaaGreatDoorZz
import Derived.Test.YtdgjplfcpcphoaaGreatDoorPkV15
import Derived.Test.YtdgjplfcpcphoaaGreatDoorPkV3
import Derived.Test.YtdgjplfcpcphoaaGreatDoorPkV4
import Derived.Test.YtdgjplfcpcphoaaGreatDoorPkV5
import Derived.Test.YtdgjplfcpcphoaaGreatDoorPkV1
import Derived.Test.YtdgjplfcpcphoaaGreatDoorPkV2
import Derived.Test.YtdgjplfcpcphoaaGreatDoorPkV10
import Derived.Test.YtdgjplfcpcphoaaGreatDoorPkV24
import Derived.Test.YtdgjplfcpcphoaaGreatDoorPkV14
import Derived.Test.YtdgjplfcpcphoaaGreatDoorPkV20
import Derived.Test.YtdgjplfcpcphoaaGreatDoorPkV27
import Derived.Test.YtdgjplfcpcphoaaGreatDoorPkV9
import Derived.Test.YtdgjplfcpcphoaaGreatDoorPkV17
import Derived.Test.YtdgjplfcpcphoaaGreatDoorPkV6
import Derived.Test.YtdgjplfcpcphoaaGreatDoorPkV16
import Derived.Test.YtdgjplfcpcphoaaGreatDoorPkV25
import Derived.Test.YtdgjplfcpcphoaaGreatDoorPkV11
import Derived.Test.YtdgjplfcpcphoaaGreatDoorPkV26
import Derived.Test.YtdgjplfcpcphoaaGreatDoorPkV7
import Derived.Test.YtdgjplfcpcphoaaGreatDoorPkV8
import Derived.Test.YtdgjplfcpcphoaaGreatDoorPkV13
import Derived.Test.YtdgjplfcpcphoaaGreatDoorPkV18
import Derived.Test.YtdgjplfcpcphoaaGreatDoorPkV19
import Derived.Test.YtdgjplfcpcphoaaGreatDoorPkV21
import Derived.Test.YtdgjplfcpcphoaaGreatDoorPkV28
import Derived.Test.YtdgjplfcpcphoaaGreatDoorPkV12
import Derived.Test.YtdgjplfcpcphoaaGreatDoorPkV30
import Derived.Test.YtdgjplfcpcphoaaGreatDoorPkV22
import Derived.Test.YtdgjplfcpcphoaaGreatDoorPkV23
import Derived.Test.YtdgjplfcpcphoaaGreatDoorPkV29
set_option maxRecDepth 100000
set_option maxHeartbeats 16000000
namespace Cl
open Go Go.RowKit Go.Proofs
theorem zn (d:Vd) (x y:Sl) (m:Mem) (n:Nat) (w:World) (hm:m.inn w) (htab:TabM m) (h1:VAt m n x d.1) (h2:VAt m n y d.2) (f1:FewV n d.1) (f2:FewV n d.2) (t1:vcnt n d.1≤1048576) (t2:vcnt n d.2≤1048576) :
 Calls Tryz.prog 19 #[cZ d x y] w fun e w'=>e=.returned (.bool (tf (SndV d.1)&&tf (SndV d.2)))∧Below w.heap.size w w':=by
 have hO:=(Own.start hm).al (dcs d x y).toArray 35;have HC:=zh (fO d.1 x m n _ hO.inn htab h1 f1 t1);have HF:=zh (fun w' (h:m.inn w')=>fO d.2 y m n w' h htab h2 f2 t2);have hN:(nine d.1 x).length=9:=rfl;have hN2:(nine d.2 y).length=9:=rfl;have HD:=zh (zi (fun j u=>@lw d x y j u) (fun j u=>@lu d x y j u));have HO:=zh hO;unfold Vl.val cZ at *
 generalize nine d.1 x=N at *
 generalize nine d.2 y=N2 at *
 generalize dcs d x y=D at *
 clear hO h1 h2 f1 f2;have q0:=HO.out.obj.sub (o:=0) (cs:=N) fun j u hj=>by simpa using HD.out.1 j u hj
 generalize tf (SndV d.1)=s1 at *
 generalize tf (SndV d.2)=s2 at *
 refine av fun R hR=>?_
 go_enter Tryz.func19,Tryz.ntmps19
 go_wp2_with (refine ae tyV rfl (.tmp 3) rfl rfl N hN q0 ?_)
 refine HC.out.mono ?_;rintro e w1 ⟨rfl,hb1⟩;have HO1:=zh (HO.out.move hb1);have HF1:=zh (HF.out w1 HO1.out.inn);have q1:=HO1.out.obj.sub (o:=9) (cs:=N2) fun j u hj=>by simpa using HD.out.2 j u hj
 clear HO HC HF hb1 q0;cases s1
 ·have HB:=zh HO1.out.below;clear HO1 HF1 q1;go_wp2;exact hR.out _ _ ⟨rfl,HB.out⟩
 ·go_wp2_with (refine ae tyV rfl (.tmp 7) rfl rfl N2 hN2 q1 ?_)
  refine HF1.out.mono ?_;rintro e w2 ⟨rfl,hb2⟩;have HB:=zh (HO1.out.move hb2).below;clear HO1 HF1 hb2 q1;go_wp2;exact hR.out _ _ ⟨rfl,HB.out⟩
theorem uC (d:Vd) (x y:Sl) (m:Mem) (n:Nat) (w:World) (hm:m.inn w) (htab:TabM m) (h1:VAt m n x d.1) (h2:VAt m n y d.2) (t1:vcnt n d.1≤1048576) (t2:vcnt n d.2≤1048576) :
 Calls Tryz.prog 4 #[cZ d x y] w fun e w'=>e=.returned (.bool true)∧Below w.heap.size w w':=by
 obtain⟨m1,l1,c1,hO⟩:=kg 35 (dcs d x y).toArray (Own.start hm);have HT:=zh (htab.le l1);have HS:=zh (kV n d x y m1 _ hO.inn (h1.le l1) (h2.le l1) t1 t2);have HC:=zh (fun (w':World) (h:m1.inn w') j u (hj:(dcs d x y)[j]?=some u)=>Mem.aj h (c1 j u (by simpa using hj)));have HD:=zh (zi (fun j u=>@lw d x y j u) (fun j u=>@lu d x y j u));have C0:m1.cell w.heap.size 0=some (.bool d.1.any):=c1 0 _ rfl;have C9:m1.cell w.heap.size 9=some (.bool d.2.any):=c1 9 _ rfl;have hl:(dcs d x y).length=18:=rfl;have hN:(nine d.1 x).length=9:=rfl;have HV1:=zh (h1.le l1);have HV2:=zh (h2.le l1);have HB1:=zh (fun (w':World) (h:m1.inn w') (f:FewV n d.1∧FewV n d.2)=>kM d x y m1 n w' h HT.out HV1.out HV2.out f.1 f.2 t1 t2);have HB2:=zh (fun (w':World) (h:m1.inn w') (f:FewV n d.1∧FewV n d.2)=>zn d x y m1 n w' h HT.out HV1.out HV2.out f.1 f.2 t1 t2);have HO:=zh hO;unfold cZ at *
 generalize dcs d x y=D at *
 clear hO htab h1 h2 l1 c1;refine av fun R hR=>?_
 go_enter Tryz.func4,Tryz.ntmps4
 have q0:∀j u,D[j]?=some u→World.cell? _ ⟨w.heap.size,0+j,none⟩=some u:=fun j u hj=>by rw[Nat.zero_add];exact HC.out _ HO.out.inn j u hj
 have HQ:=zh q0;clear q0
 go_wp2_with (refine ae tyD rfl (.tmp 1) rfl rfl D hl HQ.out ?_)
 refine HS.out.mono ?_;rintro e w1 ⟨rfl,hb1⟩;have HO1:=zh (HO.out.move hb1);clear HO HS HQ hb1;by_cases hsm:fP n d.1=true∧fP n d.2=true
 case neg=>
  have hb:(fP n d.1&&fP n d.2)=false:=by
   cases a:fP n d.1 <;> cases b:fP n d.2 <;> simp[a,b] at hsm ⊢
  rw[hb];clear hsm hb
  go_wp2_with fail
  refine (dZ m1 _ HO1.out.inn HT.out).mono ?_;rintro e w2 ⟨rfl,hb2⟩;have HB:=zh (HO1.out.move hb2).below;clear HO1 hb2;go_wp2;exact hR.out _ _ ⟨rfl,HB.out⟩
 rw[hsm.1,hsm.2];have HF:=zh (zi (kQ hsm.1).few (kQ hsm.2).few);clear hsm
 go_upto_region 3 with (fail)
 refine aR [2] (fun vs w'=>vs=[.bool true]∧Own w m w' m1 []) ?_ ?_
 ·intro Y hY;generalize (tf (SndV d.1)&&tf (SndV d.2))=sb at *
  refine bv 8 6 (fun j=>[Fact.is (·=.agg D.toArray),Fact.is (·=.bool sb),Fact.is (·=.agg D.toArray),Fact.is (·=.bool sb),Fact.is (·=.bool true),Fact.is (·=.bool true),Fact.is (·=.bool true),Fact.is (·=.bool true)].getD j Fact.any) zk zk ?_ ?_
  ·intro i hi o win a wr ho RA;have HO2:=HO1.out.dr.move RA.below;have y3:=Mem.ay HO2.inn C0;rcases (show i=0∨i=1∨i=2∨i=3∨i=4∨i=5∨i=6∨i=7 by omega) with rfl | rfl | rfl | rfl | rfl | rfl | rfl | rfl
   ·have e1:=RA.k 1;cases ho;refine aP rfl rfl (aM (tyD.exec (b:=w.heap.size) (off:=0) rfl zg hl (fun j u hj=>by rw[Nat.zero_add];exact HC.out _ HO2.inn j u hj)) ⟨_,rfl,Below.refl _ _,rfl⟩)
   ·have e7:a.tmps.getD 7 undef=_:=RA.d 0 rfl;cases ho;refine we rfl rfl (HB1.out wr HO2.inn HF.out) ?_;rintro e w' ⟨rfl,hb⟩;exact⟨_,rfl,_,rfl,hb,rfl⟩
   ·have e1:=RA.k 1;cases ho;refine aP rfl rfl (aM (tyD.exec (b:=w.heap.size) (off:=0) rfl zg hl (fun j u hj=>by rw[Nat.zero_add];exact HC.out _ HO2.inn j u hj)) ⟨_,rfl,Below.refl _ _,rfl⟩)
   ·have e9:a.tmps.getD 9 undef=_:=RA.d 2 rfl;cases ho;refine we rfl rfl (HB2.out wr HO2.inn HF.out) ?_;rintro e w' ⟨rfl,hb⟩;exact⟨_,rfl,_,rfl,hb,rfl⟩
   ·have e8:a.tmps.getD 8 undef=_:=RA.d 1 rfl;have e10:a.tmps.getD 10 undef=_:=RA.d 3 rfl;cases ho;exact wv rfl rfl rfl
   ·have e11:a.tmps.getD 11 undef=_:=RA.d 4 rfl;cases ho;exact wv rfl rfl rfl
   ·have e12:a.tmps.getD 12 undef=_:=RA.d 5 rfl;cases ho;refine we2 rfl rfl rfl e12 (dZ m1 wr HO2.inn HT.out) ?_;rintro e w' ⟨rfl,hb⟩;exact⟨_,rfl,_,rfl,hb,rfl⟩
   ·have e12:a.tmps.getD 12 undef=_:=RA.d 5 rfl;have e13:a.tmps.getD 13 undef=_:=RA.d 6 rfl;cases ho;exact wv rfl rfl rfl
  ·intro win a wr E;have e14:a.tmps.getD 14 undef=.bool true:=E.fact 7 _ zo rfl;have hZ:=HO1.out.dr.move E.below;obtain⟨t1,dd⟩:=a;obtain rfl:dd=[]:=E.defers;refine il 8 zk (aP rfl rfl (aM (by go_simp;first | done | exact⟨rfl,rfl⟩ | rfl) ?_));refine dH zk (hY.out _ _ (by simpa using E.size) ⟨?_,hZ⟩) _;have hsz:t1.size=15:=E.size;simp[hsz] at e14;simp[hsz]
 rintro z vs w2 - ⟨rfl,hO⟩;simp[litL,lk];have HB:=zh hO.below;clear hO HO1 HT HC HD HB1 HB2 HF HV1 HV2;go_wp2;exact hR.out _ _ ⟨rfl,HB.out⟩
end Cl

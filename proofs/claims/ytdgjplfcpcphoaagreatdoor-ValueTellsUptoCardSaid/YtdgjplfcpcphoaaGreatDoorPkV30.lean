/- Lemmas for the proofs of chapter 11. -/
import Derived.Test.YtdgjplfcpcphoaaGreatDoorProg
import Derived.BigQuiet
import Derived.Deep.Cut
import Derived.Deep.QuietTactic
import Derived.Laws.StructEq
import Derived.Lib.AppendStr
import Derived.Lib.Builder
import Derived.Lib.Hide
import Derived.Lib.ItoaLen
import Derived.Maps.OwnOps
import Derived.Maps.OwnSet
import Derived.OrdersHeld
import Derived.Outline
import Derived.StillTailTactics
import Derived.StringKeys
import Derived.WalkKit
import Derived.WalkLawsBesides
import Derived.WalkSpells
import Derived.Deep.RegionHeld
import Derived.Laws.CopyRow
import Derived.Laws.Tables
import Derived.BigFrame
import Derived.RangeFuncNested
import Derived.RangeFuncBound
import Derived.RangeFuncCalls
import Derived.RangeFuncLeaves
import Derived.OwnWalkIn
import Derived.TacticsInMore
import Derived.LoopNIn
import Derived.LoopIn
import Derived.Shelf.Strings.Builder1
import Derived.Shelf.Small.Wraps
import Derived.Shelf.LaysM
import Derived.Shelf.Strconv.Itoa3
import Derived.Shelf.SlSortCmp.WholeK
import Derived.Laws.EntriesVeiled
import Derived.Laws.CopyOwn
import Derived.RegionTactic
import Derived.Test.YtdgjplfcpcphoaaGreatDoorZz
import Derived.Test.YtdgjplfcpcphoaaGreatDoorPkV15
import Derived.Test.YtdgjplfcpcphoaaGreatDoorPkV3
import Derived.Test.YtdgjplfcpcphoaaGreatDoorPkV4
import Derived.Test.YtdgjplfcpcphoaaGreatDoorPkV5
import Derived.Test.YtdgjplfcpcphoaaGreatDoorPkV1
import Derived.Test.YtdgjplfcpcphoaaGreatDoorPkV2
import Derived.Test.YtdgjplfcpcphoaaGreatDoorPkV10
import Derived.Test.YtdgjplfcpcphoaaGreatDoorPkV14
import Derived.Test.YtdgjplfcpcphoaaGreatDoorPkV9
import Derived.Test.YtdgjplfcpcphoaaGreatDoorPkV6
import Derived.Test.YtdgjplfcpcphoaaGreatDoorPkV11
import Derived.Test.YtdgjplfcpcphoaaGreatDoorPkV7
import Derived.Test.YtdgjplfcpcphoaaGreatDoorPkV8
import Derived.Test.YtdgjplfcpcphoaaGreatDoorPkV13
import Derived.Test.YtdgjplfcpcphoaaGreatDoorPkV16
import Derived.Test.YtdgjplfcpcphoaaGreatDoorPkV19
import Derived.Test.YtdgjplfcpcphoaaGreatDoorPkV12
set_option maxRecDepth 100000
set_option maxHeartbeats 16000000
namespace Cl
open Go Go.RowKit Go.Proofs
theorem kV (n:Nat) (d:Vd) (x y:Sl) (m:Mem) (w:World) (hm:m.inn w) (h1:VAt m n x d.1) (h2:VAt m n y d.2) (hc:vcnt n d.1≤1048576) (hc2:vcnt n d.2≤1048576) :
 Calls Tryz.prog 13 #[cZ d x y] w fun e w'=>e=.returned (.bool (fP n d.1&&fP n d.2))∧Below w.heap.size w w':=by
 have hO:=(Own.start hm).al (dcs d x y).toArray 35;have HC:=zh (kU n d.1 x m _ hO.inn h1 hc);have HF:=zh (fun w' (h:m.inn w')=>kU n d.2 y m w' h h2 hc2);have hN:(nine d.1 x).length=9:=rfl;have hN2:(nine d.2 y).length=9:=rfl;have HD:=zh (zi (fun j u=>@lw d x y j u) (fun j u=>@lu d x y j u));have HO:=zh hO;unfold Vl.val cZ at *
 generalize nine d.1 x=N at *
 generalize nine d.2 y=N2 at *
 generalize dcs d x y=D at *
 clear hO h1 h2;have q0:=HO.out.obj.sub (o:=0) (cs:=N) fun j u hj=>by simpa using HD.out.1 j u hj
 generalize fP n d.1=s1 at *
 generalize fP n d.2=s2 at *
 refine av fun R hR=>?_
 go_enter Tryz.func13,Tryz.ntmps13
 go_wp2_with (refine ae tyV rfl (.tmp 3) rfl rfl N hN q0 ?_)
 refine HC.out.mono ?_;rintro e w1 ⟨rfl,hb1⟩;have HO1:=zh (HO.out.move hb1);have HF1:=zh (HF.out w1 HO1.out.inn);have q1:=HO1.out.obj.sub (o:=9) (cs:=N2) fun j u hj=>by simpa using HD.out.2 j u hj
 clear HO HC HF hb1 q0;cases s1
 ·have HB:=zh HO1.out.below;clear HO1 HF1 q1;go_wp2;exact hR.out _ _ ⟨rfl,HB.out⟩
 ·go_wp2_with (refine ae tyV rfl (.tmp 7) rfl rfl N2 hN2 q1 ?_)
  refine HF1.out.mono ?_;rintro e w2 ⟨rfl,hb2⟩;have HB:=zh (HO1.out.move hb2).below;clear HO1 HF1 hb2 q1;go_wp2;exact hR.out _ _ ⟨rfl,HB.out⟩
end Cl

/- Lemmas for the proofs of chapter 11. -/
import Derived.WalkKit
import Derived.Deep.QuietTactic
import Derived.Test.YtdgjplfcpcphoaaGreatDoorProg
import Derived.Deep.Slices
import Derived.Lib.SmallJoins
import Derived.ChangeMaps5
import Derived.Carry
import Derived.KernelRfl
import Derived.ChangeArms
import Derived.BigQuiet
import Derived.Deep.Cut
import Derived.Laws.StructEq
import Derived.Lib.AppendStr
import Derived.Lib.Builder
import Derived.Lib.Hide
import Derived.Lib.ItoaLen
import Derived.Maps.OwnOps
import Derived.Maps.OwnSet
import Derived.OrdersHeld
import Derived.Outline
import Derived.StillTailTactics
import Derived.StringKeys
import Derived.WalkLawsBesides
import Derived.WalkSpells
import Derived.Deep.RegionHeld
import Derived.Test.YtdgjplfcpcphoaaGreatDoorRows
import Derived.RangeFuncNested
import Derived.RangeFuncBound
import Derived.RangeFuncCalls
import Derived.RangeFuncLeaves
import Derived.OwnWalkIn
import Derived.TacticsInMore
import Derived.LoopNIn
import Derived.LoopIn
import Derived.Shelf.Strings.Builder1
import Derived.Shelf.Small.Wraps
import Derived.Shelf.LaysM
import Derived.Shelf.Strconv.Itoa3
import Derived.Shelf.SlSortCmp.WholeK
import Derived.Laws.EntriesVeiled
import Derived.Laws.CopyOwn
import Derived.RegionTactic
import Derived.Test.YtdgjplfcpcphoaaGreatDoorZz
import Derived.Test.YtdgjplfcpcphoaaGreatDoorPkV3
import Derived.Test.YtdgjplfcpcphoaaGreatDoorPkV4
import Derived.Test.YtdgjplfcpcphoaaGreatDoorPkV1
import Derived.Test.YtdgjplfcpcphoaaGreatDoorPkV2
import Derived.Test.YtdgjplfcpcphoaaGreatDoorPkV15
import Derived.Test.YtdgjplfcpcphoaaGreatDoorPkV5
import Derived.Test.YtdgjplfcpcphoaaGreatDoorPkV10
import Derived.Test.YtdgjplfcpcphoaaGreatDoorPkV14
import Derived.Test.YtdgjplfcpcphoaaGreatDoorPkV9
import Derived.Test.YtdgjplfcpcphoaaGreatDoorPkV6
import Derived.Test.YtdgjplfcpcphoaaGreatDoorPkV11
import Derived.Test.YtdgjplfcpcphoaaGreatDoorPkV7
import Derived.Test.YtdgjplfcpcphoaaGreatDoorPkV8
import Derived.Test.YtdgjplfcpcphoaaGreatDoorPkV13
import Derived.Test.YtdgjplfcpcphoaaGreatDoorPkV12
set_option maxRecDepth 100000
set_option maxHeartbeats 16000000
namespace Cl
open Go Go.RowKit Go.Proofs Go.WideShapes Go.ChangeShapes Go.Deep Go.Joins
section
variable {H:Type} {enc:TypeId × Value→H} {w:World} {spare:Nat→Bool} {held:Bool} {B:DataW H→Nat}
theorem KX (hB:oU B) (fuel:Nat):yj B enc w spare held (fuel+1):=fun k cs x hk hx=>by
 obtain⟨v,s,e,hv,hb⟩:=vB hB k cs x hx;exact⟨v,s,e,hv.mono zo,by rw[nS hv.ht zo];exact hb⟩
theorem Dq (hB:oU B) {r:Reach} {b0:Nat} {v:Value} {d:DataW H} {p:List MemPlace} (hv:Value.okWide Tryz.prog w r b0 35 v) (h:DataW.Trod enc Tryz.prog w 0 spare held 35 v d p) :
 ∃n s1 s2 x,v=cZ x s1 s2∧VAt (Mem.of w) n s1 x.1∧VAt (Mem.of w) n s2 x.2∧cntD n x≤B d:=by
 obtain⟨cs,rfl,hsz⟩:=okWide_struct Tryz.underlying35 hv;obtain⟨fuel,hf⟩:=h;obtain⟨x,s1,s2,e,h1,h2,hb⟩:=Dp hB (KX hB fuel) (Nat.le_succ fuel) hf;refine ⟨_,s1,s2,x,?_,h1,h2,hb⟩;have:cs=(nine x.1 s1 ++ nine x.2 s2).toArray:=by
  have e':cs.toList=nine x.1 s1 ++ nine x.2 s2:=e;obtain⟨l⟩:=cs;exact congrArg Array.mk e'
 rw[this];rfl
end
end Cl
namespace Go.Proofs.YtdgjplfcpcphoaaGreatDoor
open Go Go.RowKit Go.Proofs Cl
theorem Eu {H:Type} {n:Nat} {A:Vd} {d:DataW H} (h:cntD n A≤Rows.uptoBulk d) (k:Rows.uptoBulk d≤1048576):vcnt n A.1≤1048576∧vcnt n A.2≤1048576:=by
 unfold cntD at h;omega
end Go.Proofs.YtdgjplfcpcphoaaGreatDoor

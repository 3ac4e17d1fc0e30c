/- Lemmas for the proofs of chapter 11. -/
import Derived.WalkKit
import Derived.Deep.QuietTactic
import Derived.Test.YtdgjplfcpcphoaaGreatDoorProg
import Derived.Deep.Slices
import Derived.Lib.SmallJoins
import Derived.ChangeMaps5
import Derived.Carry
import Derived.KernelRfl
import Derived.ChangeArms
import Derived.Test.YtdgjplfcpcphoaaGreatDoorZz
import Derived.Test.YtdgjplfcpcphoaaGreatDoorPkX3
import Derived.Test.YtdgjplfcpcphoaaGreatDoorPkX4
import Derived.Test.YtdgjplfcpcphoaaGreatDoorPkX1
import Derived.Test.YtdgjplfcpcphoaaGreatDoorPkX2
set_option maxRecDepth 100000
set_option maxHeartbeats 16000000
namespace Cl
open Go Go.RowKit Go.Proofs Go.WideShapes Go.ChangeShapes Go.Deep Go.Joins
section
variable {H:Type} {enc:TypeId × Value→H} {w:World} {spare:Nat→Bool} {held:Bool} {B:DataW H→Nat}
theorem pu (hB:mM B) (fuel:Nat):yN B enc w spare held (fuel+1):=fun k cs x hk hx=>by
 obtain⟨v,s,e,hv,hb⟩:=vX hB k cs x hx;exact⟨v,s,e,hv.mono zo,by rw[jC hv.ht zo];exact hb⟩
end
end Cl

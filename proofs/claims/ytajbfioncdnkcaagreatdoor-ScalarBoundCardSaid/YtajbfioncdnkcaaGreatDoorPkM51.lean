/- Lemmas for the proofs of chapter 11. -/
import Derived.WalkKit
import Derived.OrdersHeld
import Derived.Deep.RegionHeld
import Derived.Deep.QuietTactic
import Derived.Test.YtajbfioncdnkcaaGreatDoorZz
import Derived.Test.YtajbfioncdnkcaaGreatDoorPkM4
import Derived.Test.YtajbfioncdnkcaaGreatDoorPkM3
import Derived.Test.YtajbfioncdnkcaaGreatDoorPkM32
import Derived.Test.YtajbfioncdnkcaaGreatDoorPkM1
import Derived.Test.YtajbfioncdnkcaaGreatDoorPkM34
import Derived.Test.YtajbfioncdnkcaaGreatDoorPkM2
set_option maxRecDepth 100000
set_option maxHeartbeats 16000000
namespace Cl
open Go Go.RowKit
def TabV (T:Table) (M:Mem) (v:Value):Prop:=∃xa xc,v=.agg #[.slice xa (List.length T) xc]∧aI M (.slice xa (List.length T) xc) T
theorem Mq {m:Mem} {w w':World} {win:Win} {i:Nat} {r:Value} {T:Table} (hm:m.inn w) (hb:Below w.heap.size w w') (hst:aI (m.grow w w') r T) :
 TabV T (m.wins w' (win.put i (w.heap.size,w'.heap.size)) [i]) (.agg #[r]):=by
 have h:=aK (Mem.wh hm win i hb) hst;obtain⟨xa,xc,rfl,h'⟩:=id h;exact⟨xa,xc,rfl,h⟩
end Cl

/- Lemmas for the proofs of chapter 11. -/
import Derived.WalkKit
import Derived.Test.YtdgjplfcpcphoaaGreatDoorZz
import Derived.Test.YtdgjplfcpcphoaaGreatDoorPkX1
import Derived.Test.YtdgjplfcpcphoaaGreatDoorPkX2
set_option maxRecDepth 100000
set_option maxHeartbeats 16000000
namespace Cl
theorem GJ {v:Vl} {c:St} (hc:c∈v.structs) {f:Fd} (hf:f∈c.1):f.2∈v.kids:=il hc (List.mem_append.2 (.inl (List.mem_map.2 ⟨f,hf,rfl⟩)))
theorem GK {v:Vl} {c:St} (hc:c∈v.structs) {k:Kl} (hk:k∈c.2):k.2∈v.kids:=il hc (List.mem_append.2 (.inr (List.mem_map.2 ⟨k,hk,rfl⟩)))
end Cl

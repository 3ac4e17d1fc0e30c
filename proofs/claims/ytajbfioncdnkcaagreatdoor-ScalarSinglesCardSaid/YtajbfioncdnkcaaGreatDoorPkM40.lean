/- Lemmas for the proofs of chapter 11. -/
import Derived.Test.YtajbfioncdnkcaaGreatDoorZz
import Derived.Test.YtajbfioncdnkcaaGreatDoorPkM1
import Derived.Test.YtajbfioncdnkcaaGreatDoorPkM2
import Derived.Test.YtajbfioncdnkcaaGreatDoorPkM19
set_option maxRecDepth 100000
set_option maxHeartbeats 16000000
namespace Cl
theorem iL {s:RS} (h:s.gK):ScIs s.has s:=⟨h,fun _=>Iff.rfl⟩
end Cl

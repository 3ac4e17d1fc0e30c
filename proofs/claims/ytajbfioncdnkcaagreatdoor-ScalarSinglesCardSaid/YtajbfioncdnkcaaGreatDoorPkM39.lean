/- Lemmas for the proofs of chapter 11. -/
import Derived.Test.YtajbfioncdnkcaaGreatDoorZz
import Derived.Test.YtajbfioncdnkcaaGreatDoorPkM1
import Derived.Test.YtajbfioncdnkcaaGreatDoorPkM2
import Derived.Test.YtajbfioncdnkcaaGreatDoorPkM19
import Derived.Test.YtajbfioncdnkcaaGreatDoorPkM27
set_option maxRecDepth 100000
set_option maxHeartbeats 16000000
namespace Cl
theorem fD {p q:El→Prop} {r s:RS} (h:ScIs p r) (k:ScIs q s):r=s↔∀e,p e↔q e:=
 ⟨fun e a=>by rw[← h.mem,← k.mem,e],fun e=>(h.congr e).unique k⟩
end Cl

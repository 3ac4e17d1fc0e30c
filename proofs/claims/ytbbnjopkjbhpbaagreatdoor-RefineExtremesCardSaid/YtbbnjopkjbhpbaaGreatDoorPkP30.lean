/- Lemmas for the proofs of chapter 11. -/
import Derived.Test.YtbbnjopkjbhpbaaGreatDoorPkP22
set_option maxRecDepth 100000
set_option maxHeartbeats 16000000
namespace Cl
theorem VO.over{lv:Nat}{v:Vl}{a:Int}(h:0<=a):VO lv v a (a+1):=⟨zo,zo,fun e=>zo⟩
end Cl

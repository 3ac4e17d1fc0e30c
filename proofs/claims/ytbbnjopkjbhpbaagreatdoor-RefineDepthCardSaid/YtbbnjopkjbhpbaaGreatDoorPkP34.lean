/- Lemmas for the proofs of chapter 11. -/
import Derived.Test.YtbbnjopkjbhpbaaGreatDoorPkP28
import Derived.Test.YtbbnjopkjbhpbaaGreatDoorPkP33
set_option maxRecDepth 100000
set_option maxHeartbeats 16000000
namespace Cl
open Go Go.RowKit Go.Proofs
theorem R7{P:Program}{f:FuncId}{args:Array Value}{w:zW}{d a:Vd}(h:bD d)(_:bD a)(k:Calls P f args w fun e w'=>e=.returned (.bool (tf (d=a)&&(tf (jR d.1)&&tf (jR d.2))))/\zB w w'):Calls P f args w fun e w'=>e=.returned (.bool (tf (d=a)))/\zB w w':=by
 rw[aM h.s1,aM h.s2,Bool.and_true,Bool.and_true]at k;exact k
end Cl

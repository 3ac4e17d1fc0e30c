/- Lemmas for the proofs of chapter 11. -/
import Derived.Test.YtbbnjopkjbhpbaaGreatDoorPkP28
import Derived.Test.YtbbnjopkjbhpbaaGreatDoorPkP31
set_option maxRecDepth 100000
set_option maxHeartbeats 16000000
namespace Cl
open Go Go.RowKit Go.Proofs
theorem fQ.jH{d:Vd}(h:fQ d):oF 3 d:=by
 have:=h.2.2;unfold cv at this;exact⟨⟨h.1.src,zo⟩,h.2.1.src,zo⟩
theorem Zp{P:Program}{f:FuncId}{args:Array Value}{w:zW}{p q:Prop}(h:p↔q)(k:Calls P f args w fun e w'=>e=.returned (.bool (tf p))/\zB w w'):Calls P f args w fun e w'=>e=.returned (.bool (tf q))/\zB w w':=by rw[dY h]at k;exact k
end Cl

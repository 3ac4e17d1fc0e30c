/- Lemmas for the proofs of chapter 11. -/
import Derived.WalkKit
import Derived.Deep.QuietTactic
import Derived.Test.YtajbfioncdnkcaaGreatDoorZz
import Derived.Test.YtajbfioncdnkcaaGreatDoorPkM3
import Derived.Test.YtajbfioncdnkcaaGreatDoorPkM1
set_option maxRecDepth 100000
set_option maxHeartbeats 16000000
namespace Cl
open Go Go.RowKit
section
variable {w0 w w':World} {m mk:Mem} {L:List Item}
theorem Own.fifth {a b c d e:Item} (h:Own w0 m w mk (a::b::c::d::e::L)):Own w0 m w mk (e::a::b::c::d::L):=
 h.perm (((List.perm_append_comm (l₁:=[e]) (l₂:=[a,b,c,d])).append_right L))
end
end Cl

/- Lemmas. -/
import Derived.Test.YtbbnjopkjbhpbaaGreatDoorPkT19
set_option maxRecDepth 99999
set_option maxHeartbeats 9999999
namespace Cl
open Go Go.RowKit Go.Proofs
theorem CE{w0 w:zW}{m mk:Mem}{L:List bA}{g:Nat}{t:TypeId}{lo hi:Int}(h:Own w0 m w mk (.obj g t #[.int .i64 lo,.int .i64 hi]::L))(hk:pR (lo,hi)):
 ∃mk',mk.le mk'/\dD mk' (.slice (some ⟨g,0,none⟩) 1 1) [(lo,hi)]/\Own w0 m w mk' L:=
 ⟨_,dz9 h.j6,Ho (bzy h.obj rfl) (bzy h.obj rfl) hk,h.iC⟩
end Cl

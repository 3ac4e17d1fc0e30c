/- Lemmas for the proofs of chapter 11. -/
import Derived.Test.YtbbnjopkjbhpbaaGreatDoorPkP17
set_option maxRecDepth 100000
set_option maxHeartbeats 16000000
namespace Cl
open Go Go.RowKit Go.Proofs
theorem Dm{w0 w:zW}{m mk:Mem}{L:List bA}{g:Nat}{t:TypeId}{lo hi:Int}(h:Own w0 m w mk (.obj g t #[.int .i64 lo,.int .i64 hi]::L))(hk:qj (lo,hi)):
 ∃mk',mk.le mk'/\dK mk' (.slice (some ⟨g,0,none⟩) 1 1) [(lo,hi)]/\Own w0 m w mk' L:=
 ⟨_,Mem_le_add h.jG,IW (Mem_add_cell h.obj rfl) (Mem_add_cell h.obj rfl) hk,h.gU⟩
end Cl

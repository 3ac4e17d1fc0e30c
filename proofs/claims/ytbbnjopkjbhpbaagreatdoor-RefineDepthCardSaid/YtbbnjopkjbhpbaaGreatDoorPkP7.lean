/- Lemmas for the proofs of chapter 11. -/
import Derived.Test.YtbbnjopkjbhpbaaGreatDoorPkP6
set_option maxRecDepth 100000
set_option maxHeartbeats 16000000
namespace Cl
open Go Go.RowKit Go.Proofs
theorem bC(w:zW)(o:Obj):(w.alloc o).heap.size=w.heap.size+1:=by simp
def gzc(s:dm):Prop := -1000000000000002<=s.1/\s.1<=1000000000000002 /\ -1000000000000002<=s.2/\s.2<=1000000000000002
theorem fT.inR{x:NS}(h:fT x):∀s∈x.f,pR s:=fun s a=>by
 have b:=h.bf s a;have c:=h.nf.ok s a;simp only[oV,uF]at b;unfold pR;omega
theorem fT.rk{x:NS}(h:fT x):∀s∈x.f,gzc s:=fun s a=>by
 have b:=h.inR s a;unfold pR at b;unfold gzc;omega
end Cl

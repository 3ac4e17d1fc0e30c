/- Lemmas. -/
import Derived.Test.YtbbnjopkjbhpbaaGreatDoorPkT6
set_option maxRecDepth 99999
set_option maxHeartbeats 9999999
namespace Cl
open Go Go.RowKit Go.Proofs
theorem bB(w:zW)(o:Obj):(w.alloc o).heap.size=w.heap.size+1:=by simp
def fzf(s:dh):Prop := -1000000000000002<=s.1/\s.1<=1000000000000002 /\ -1000000000000002<=s.2/\s.2<=1000000000000002
theorem fH.inR{x:NS}(h:fH x):∀s∈x.f,o8 s:=fun s a=>by
 have b:=h.bf s a;have c:=h.nf.ok s a;simp only[oI,uk]at b;unfold o8;omega
theorem fH.rk{x:NS}(h:fH x):∀s∈x.f,fzf s:=fun s a=>by
 have b:=h.inR s a;unfold o8 at b;unfold fzf;omega
end Cl

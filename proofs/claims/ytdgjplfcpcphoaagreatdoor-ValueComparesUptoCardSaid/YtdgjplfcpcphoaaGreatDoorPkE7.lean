/- Lemmas for the proofs of chapter 11. -/
import Derived.Test.YtdgjplfcpcphoaaGreatDoorPkE6
set_option maxRecDepth 100000
set_option maxHeartbeats 16000000
namespace Cl
open Go Go.RowKit Go.Proofs
theorem bR(w:zW)(o:Obj):(w.alloc o).heap.size=w.heap.size+1:=by simp
def Un(s:bT):Prop := -1000000000000002<=s.1/\s.1<=1000000000000002 /\ -1000000000000002<=s.2/\s.2<=1000000000000002
theorem gM.inR{x:NS}(h:gM x):∀s∈x.f,lI s:=fun s a=>by
 have b:=h.bf s a;have c:=h.nf.ok s a;simp only[mq,qh]at b;unfold lI;omega
theorem gM.rk{x:NS}(h:gM x):∀s∈x.f,Un s:=fun s a=>by
 have b:=h.inR s a;unfold lI at b;unfold Un;omega
end Cl

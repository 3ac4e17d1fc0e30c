/- Lemmas for the proofs of chapter 11. -/
import Derived.Test.YtdgjplfcpcphoaaGreatDoorProg
import Derived.Deep.Slices
import Derived.Lib.SmallJoins
import Derived.ChangeMaps5
import Derived.Carry
import Derived.KernelRfl
import Derived.WalkKit
import Derived.Deep.QuietTactic
import Derived.ChangeArms
import Derived.Test.YtdgjplfcpcphoaaGreatDoorZz
import Derived.Test.YtdgjplfcpcphoaaGreatDoorPkX3
import Derived.Test.YtdgjplfcpcphoaaGreatDoorPkX1
import Derived.Test.YtdgjplfcpcphoaaGreatDoorPkX4
import Derived.Test.YtdgjplfcpcphoaaGreatDoorPkX23
import Derived.Test.YtdgjplfcpcphoaaGreatDoorPkX2
import Derived.Test.YtdgjplfcpcphoaaGreatDoorPkX27
set_option maxRecDepth 100000
set_option maxHeartbeats 16000000
namespace Cl
open Go Go.RowKit Go.Proofs Go.WideShapes Go.ChangeShapes Go.Deep Go.Joins
section
variable {H:Type} {enc:TypeId × Value→H} {w:World} {spare:Nat→Bool} {held:Bool}
theorem sW {base:Nat} {v:Value} {d:DataW H} {p:List MemPlace} (hv:Value.okWide Tryz.prog w .any base 9 v) (h:DataW.Trod enc Tryz.prog w 0 spare held 9 v d p) :
 ∃s:ByteArray,v=.string s∧d=.lit (.string s.data.toList)∧p=[]∧s.size≤maxLen:=Go.ChangeMaps.open_string Tryz.underlying9 hv h
end
section
variable {H:Type} {enc:TypeId × Value→H} {w:World} {spare:Nat→Bool} {held:Bool} {B:DataW H→Nat}
theorem Ec (hB:mM B) {r:Reach} {b0:Nat} {v:Value} {d:DataW H} {p:List MemPlace} (hv:Value.okWide Tryz.prog w r b0 45 v) (h:DataW.Trod enc Tryz.prog w 0 spare held 45 v d p) :
 ∃(n:Nat) (u u':Value) (c:St),v=.agg #[u,u']∧gI (VAt (Mem.of w) n) (Mem.of w) u c.1∧fV (VAt (Mem.of w) n) (Mem.of w) u' c.2∧vJ n c+1≤B d:=by
 obtain⟨cs,rfl,hsz⟩:=okWide_struct Tryz.underlying45 hv;obtain⟨fuel,hf⟩:=h;obtain⟨y0,y1,n,rfl,hl,h0,h1,hb⟩:=fT hB Tryz.underlying45 hf;have e2:Tryz.prog.cellsOf 45=2:=by kernel_rfl
 have e1:Tryz.prog.cellsOf 42=1:=by kernel_rfl
 have e3:Tryz.prog.cellsOf 43=1:=by kernel_rfl
 rw[e2] at hl;obtain⟨l⟩:=cs;obtain⟨c0,c1,rfl⟩:=CZ hl;simp[e1,e3] at h0 h1;obtain⟨u,l,g1,k1,b1⟩:=EP hB (pu hB n) (Nat.le_succ n) h0;obtain⟨u',l',g2,k2,b2⟩:=ED hB (pu hB n) (Nat.le_succ n) h1;cases g1;cases g2;exact⟨_,_,_,(l,l'),rfl,k1,k2,by unfold vJ;simp only at hb ⊢;omega⟩
end
end Cl

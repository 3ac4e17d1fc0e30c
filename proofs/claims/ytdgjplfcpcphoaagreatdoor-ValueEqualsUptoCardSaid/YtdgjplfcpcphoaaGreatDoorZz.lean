/- Short words. -/
import Derived.WalkKit
import Derived.Lib.Hide
open Go Go.RowKit
theorem zo {P : Prop} (h : P := by omega) : P := h
theorem zk {P : Prop} (h : P := by kernel_rfl) : P := h
theorem zS {P : Prop} (h : P := by simp) : P := h
theorem zD {P : Prop} (h : P := by decide) : P := h
theorem zg {P : Prop} (h : P := by go_simp; first | done | rfl) : P := h
theorem zh {P : Prop} (h : P) : Hid P := h
theorem zi {P Q : Prop} (x : P) (y : Q) : P ∧ Q := ⟨x, y⟩

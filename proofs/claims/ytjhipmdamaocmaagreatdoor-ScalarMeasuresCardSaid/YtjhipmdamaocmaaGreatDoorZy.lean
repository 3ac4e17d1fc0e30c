/- Short words. -/
import Derived.WalkKit
import Derived.Lib.Hide
open Go Go.RowKit
theorem zo {P : Prop} (h : P := by omega) : P := h
theorem zk {P : Prop} (h : P := by kernel_rfl) : P := h
theorem zS {P : Prop} (h : P := by simp) : P := h
theorem zD {P : Prop} (h : P := by decide) : P := h
theorem zg {P : Prop} (h : P := by go_simp; first | done | rfl) : P := h
theorem zh {P : Prop} (h : P) : Hid P := h
theorem zi {P Q : Prop} (x : P) (y : Q) : P ∧ Q := ⟨x, y⟩
theorem zA {P : Prop} (h : P := by assumption) : P := h
theorem zB : type_of% @List.getElem_mem := @List.getElem_mem
theorem zC : type_of% @Nat.zero_le := @Nat.zero_le
theorem zF : type_of% @List.take_succ_eq_append_getElem := @List.take_succ_eq_append_getElem
theorem zG : type_of% @Nat.le_refl := @Nat.le_refl
theorem zH : type_of% @if_neg := @if_neg
theorem zI : type_of% @if_pos := @if_pos
theorem zJ : type_of% @List.length_append := @List.length_append
theorem zK : type_of% @decide_eq_false := @decide_eq_false
theorem zL : type_of% @decide_eq_true := @decide_eq_true
theorem zM : type_of% @beq_eq_false_iff_ne := @beq_eq_false_iff_ne
theorem zN : type_of% @Classical.byContradiction := @Classical.byContradiction
theorem zO : type_of% @List.drop_eq_nil_of_le := @List.drop_eq_nil_of_le
theorem zP : type_of% @Below.refl := @Below.refl
theorem zQ : type_of% @Int.eq_ofNat_of_zero_le := @Int.eq_ofNat_of_zero_le
theorem zR : type_of% @List.mem_cons_of_mem := @List.mem_cons_of_mem
theorem zT : type_of% @Array.getD_eq_getD_getElem? := @Array.getD_eq_getD_getElem?
theorem zU : type_of% @List.mem_singleton := @List.mem_singleton
theorem zV : type_of% @List.mem_cons := @List.mem_cons
theorem zW : type_of% @List.getElem?_eq_some_iff := @List.getElem?_eq_some_iff
theorem zX : type_of% @Array.getElem?_eq_some_iff := @Array.getElem?_eq_some_iff
theorem zY : type_of% @List.mem_map := @List.mem_map
theorem zZ : type_of% @List.drop_eq_getElem_cons := @List.drop_eq_getElem_cons
theorem yA : type_of% @List.mem_cons_self := @List.mem_cons_self
theorem yB : type_of% @List.take_length := @List.take_length
theorem yC : type_of% @List.getElem?_eq_getElem := @List.getElem?_eq_getElem
theorem yD : type_of% @List.map_append := @List.map_append
theorem yE : type_of% @Nat.le_trans := @Nat.le_trans
theorem yF : type_of% @List.getElem?_append_left := @List.getElem?_append_left
theorem yG : type_of% @List.map_cons := @List.map_cons
theorem yH : type_of% @List.eq_nil_of_length_eq_zero := @List.eq_nil_of_length_eq_zero
theorem yI : type_of% @List.getElem?_append_right := @List.getElem?_append_right
theorem yJ : type_of% @List.length_cons := @List.length_cons
theorem yK : type_of% @List.mem_append := @List.mem_append
theorem yL : type_of% @List.mem_range := @List.mem_range
theorem yM : type_of% @List.append_nil := @List.append_nil
theorem yN : type_of% @List.pairwise_cons := @List.pairwise_cons
theorem yO : type_of% @List.mem_iff_getElem := @List.mem_iff_getElem
theorem yP : type_of% @List.getD_eq_getElem?_getD := @List.getD_eq_getElem?_getD
theorem yQ : type_of% @bodyPost_ret := @bodyPost_ret
theorem yR : type_of% @List.getElem_of_mem := @List.getElem_of_mem
theorem yS : type_of% @List.length_pos_iff := @List.length_pos_iff

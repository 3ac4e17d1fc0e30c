/- Lemmas for the proofs: PlainQ, PlainR, PlainS, Facts, Open, Seat, WalkCA, WalkCB, WalkCC. -/
import Derived.WalkKit
import Derived.OrdersHeld
import Derived.Deep.RegionHeld
import Derived.Test.YtaolacbikbllcaaDoorProg
import Derived.Deep.Slices
import Derived.Lib.SmallJoins
import Derived.ChangeMaps5
import Derived.Carry
import Derived.KernelRfl
import Derived.Test.YtaolacbikbllcaaDoorCards
import Derived.Test.YtaolacbikbllcaaDoorTie
import Derived.ProofKit
import Derived.OpenShut
import Derived.Deep.DeepHandedRow
import Derived.Lib.LaidTab
import Derived.Stop.LaidErr
import Derived.RegionTactic
import Derived.ChangeAlike
import Derived.Test.YtaolacbikbllcaaDoorPkA1
import Derived.Test.YtaolacbikbllcaaDoorPkA5
import Derived.Test.YtaolacbikbllcaaDoorPkA3
import Derived.Test.YtaolacbikbllcaaDoorPkA2
import Derived.Test.YtaolacbikbllcaaDoorPkA9
import Derived.Test.YtaolacbikbllcaaDoorPkA4
import Derived.Test.YtaolacbikbllcaaDoorPkA7
import Derived.Test.YtaolacbikbllcaaDoorPkA8
namespace Cl

/-- the edges of a state; none at -1 -/
def edsOf (l : Table) (s : Int) : List Ed := if s < 0 then [] else match l[s.toNat]? with
  | some st => st.edges
  | none => []
theorem tstep_edsOf (l : Table) (s : Int) (b : Nat) : tstep l s b = estep (edsOf l s) b := by
  unfold tstep edsOf
  split
  · rfl
  · cases l[s.toNat]? <;> rfl
def cutS (b : Nat) (o : Nat) (e : Ed) : Nat :=
  let o1 := if b < e.lo then min o e.lo else o
  if b ≤ e.hi then min o1 (e.hi + 1) else o1
def cutE (b : Nat) (es : List Ed) (o : Nat) : Nat := es.foldl (cutS b) o
theorem cutE_nil (b o : Nat) : cutE b [] o = o := rfl
theorem cutE_take (b o : Nat) {es : List Ed} {j : Nat} (h : j < es.length) : cutE b (es.take (j + 1)) o = cutS b (cutE b (es.take j) o) es[j] := by
  unfold cutE
  rw [List.take_succ_eq_append_getElem h, List.foldl_append]
  rfl
theorem cutS_le (b o : Nat) (e : Ed) : cutS b o e ≤ o := by
  unfold cutS
  simp only
  split <;> split <;> omega
theorem cutS_gt {b o : Nat} (e : Ed) (h : b < o) : b < cutS b o e := by
  unfold cutS
  simp only
  split <;> split <;> omega
theorem cutE_le (b : Nat) : ∀ (es : List Ed) (o : Nat), cutE b es o ≤ o
  | [], _ => Nat.le_refl _
  | e :: es, o => Nat.le_trans (cutE_le b es (cutS b o e)) (cutS_le b o e)
theorem cutE_gt {b : Nat} : ∀ (es : List Ed) (o : Nat), b < o → b < cutE b es o
  | [], _, h => h
  | e :: es, o, h => cutE_gt es (cutS b o e) (cutS_gt e h)
theorem cutE_const {b : Nat} : ∀ (es : List Ed) (o c : Nat), b ≤ c → c < cutE b es o → estep es c = estep es b
  | [], _, _, _, _ => rfl
  | e :: es, o, c, h1, h2 => by
    have ih := cutE_const es (cutS b o e) c h1 h2
    have hlt : c < cutS b o e := Nat.lt_of_lt_of_le h2 (cutE_le b es _)
    simp only [estep]
    rw [ih]
    unfold cutS at hlt
    simp only at hlt
    by_cases h3 : b < e.lo
    · rw [if_pos h3] at hlt
      have h4 : ¬ (e.lo ≤ b ∧ b ≤ e.hi) := by omega
      have h5 : ¬ (e.lo ≤ c ∧ c ≤ e.hi) := by split at hlt <;> omega
      rw [if_neg h4, if_neg h5]
    · rw [if_neg h3] at hlt
      by_cases h4 : b ≤ e.hi
      · rw [if_pos h4] at hlt
        rw [if_pos ⟨by omega, by omega⟩, if_pos ⟨by omega, h4⟩]
      · rw [if_neg (by omega), if_neg (by omega)]
/-- .. over some automata, each at its state -/
def cutTo (Ls : List Table) (ps : List Int) (b : Nat) : Nat → Nat
  | 0 => 256
  | k + 1 => cutE b (edsOf (Ls.getD k []) (ps.getD k (-1))) (cutTo Ls ps b k)
theorem cutTo_gt {Ls : List Table} {ps : List Int} {b : Nat} (h : b < 256) : ∀ k, b < cutTo Ls ps b k
  | 0 => h
  | k + 1 => cutE_gt _ _ (cutTo_gt h k)
theorem cutTo_le (Ls : List Table) (ps : List Int) (b : Nat) : ∀ k, cutTo Ls ps b k ≤ 256
  | 0 => Nat.le_refl _
  | k + 1 => Nat.le_trans (cutE_le _ _ _) (cutTo_le Ls ps b k)
theorem cut2_const {A B : Table} {p : Int × Int} {b c : Nat} (h1 : b ≤ c) (h2 : c < cutTo [A, B] [p.1, p.2] b 2) : pstep A B p c = pstep A B p b := by
  have h2 : c < cutE b (edsOf B p.2) (cutE b (edsOf A p.1) 256) := h2
  have h3 : c < cutE b (edsOf A p.1) 256 := Nat.lt_of_lt_of_le h2 (cutE_le _ _ _)
  unfold pstep
  rw [tstep_edsOf, tstep_edsOf, tstep_edsOf, tstep_edsOf, cutE_const _ _ _ h1 h3, cutE_const _ _ _ h1 h2]
end Cl
namespace Cl

/-- has state s a word of n bytes? -/
def cb (A : Table) (s n : Nat) : Bool := !(wex A n (s : Int)).isEmpty
theorem cb_zero {A : Table} {s : Nat} (h : s < A.length) : cb A s 0 = (A[s]).accept := by
  have h1 := canN_get A 0 h
  rw [canN_zero] at h1
  simp [h] at h1
  unfold cb
  rw [h1]
theorem cb_out {A : Table} {s n : Nat} (h : A.length ≤ s) : cb A s n = false := by
  unfold cb
  have : wex A n (s : Int) = [] := by
    apply List.eq_nil_iff_forall_not_mem.2
    intro x hx
    have := ((mem_wex A n s x).1 hx).2
    rw [accFrom_out A s x (by omega)] at this
    cases this
  rw [this]; rfl
theorem cb_succ {A : Table} (hw : WF A) (hb : Bytes A) {s : Nat} (h : s < A.length) (n : Nat) : cb A s (n + 1) = (A[s]).edges.any fun e => cb A e.to.toNat n := by
  have h1 := canN_get A (n + 1) h
  rw [canN_succ hw hb n] at h1
  simp [h] at h1
  unfold cb
  rw [← h1]
  rw [Bool.eq_iff_iff, List.any_eq_true, List.any_eq_true]
  constructor
  · rintro ⟨e, he, hx⟩
    refine ⟨e, he, ?_⟩
    have := wfEdges_sep (hw _ (List.getElem_mem h)) e he
    have hlt : e.to.toNat < A.length := by omega
    have h2 := canN_get A n hlt
    simp [canN] at h2
    simpa [canN, hlt] using hx
  · rintro ⟨e, he, hx⟩
    refine ⟨e, he, ?_⟩
    have := wfEdges_sep (hw _ (List.getElem_mem h)) e he
    have hlt : e.to.toNat < A.length := by omega
    simpa [canN, hlt] using hx
def f1 (A : Table) (s n : Nat) : Bool := decide (n = 0) && cb A s 0
def f2 (A : Table) (k s n : Nat) : Bool := decide (n < k) && cb A s n
def f3 (A : Table) (k t s n : Nat) : Bool := decide (n < k ∨ n = k ∧ s < t) && cb A s n
def f4 (A : Table) (k t : Nat) (es : List Ed) (s n : Nat) : Bool := f3 A k t s n || (decide (n = k ∧ s = t) && es.any fun e => cb A e.to.toNat (k - 1))
theorem f1_f2 (A : Table) (s n : Nat) : f1 A s n = f2 A 1 s n := by
  unfold f1 f2
  by_cases h : n = 0
  · subst h; simp
  · simp [h]
theorem f2_f3 (A : Table) (k s n : Nat) : f2 A k s n = f3 A k 0 s n := by simp [f2, f3]
theorem f3_f2 (A : Table) (k s n : Nat) (h : s < A.length) : f3 A k A.length s n = f2 A (k + 1) s n := by
  unfold f2 f3
  have : (n < k ∨ n = k ∧ s < A.length) ↔ n < k + 1 := by omega
  simp [this]
theorem f3_f4 (A : Table) (k t s n : Nat) : f3 A k t s n = f4 A k t [] s n := by simp [f4]
theorem f4_f3 {A : Table} (hw : WF A) (hb : Bytes A) {k t : Nat} (hk : 1 ≤ k) (h : t < A.length) (s n : Nat) : f4 A k t (A[t]).edges s n = f3 A k (t + 1) s n := by
  obtain ⟨k, rfl⟩ : ∃ j, k = j + 1 := ⟨k - 1, by omega⟩
  unfold f4
  rw [Nat.add_sub_cancel, ← cb_succ hw hb h k]
  unfold f3
  by_cases e : n = k + 1 ∧ s = t
  · obtain ⟨rfl, rfl⟩ := e
    simp
  · have : (n < k + 1 ∨ n = k + 1 ∧ s < t) ↔ (n < k + 1 ∨ n = k + 1 ∧ s < t + 1) := by omega
    have hd : decide (n < k + 1 ∨ n = k + 1 ∧ s < t) = decide (n < k + 1 ∨ n = k + 1 ∧ s < t + 1) := decide_eq_decide.2 this
    rw [hd]
    simp [e]
theorem f4_step (A : Table) (k t : Nat) (es : List Ed) (e : Ed) (s n : Nat) : f4 A k t (es ++ [e]) s n = if s = t ∧ n = k then (f4 A k t es s n || cb A e.to.toNat (k - 1)) else f4 A k t es s n := by
  unfold f4
  by_cases h : s = t ∧ n = k
  · rw [if_pos h]
    obtain ⟨rfl, rfl⟩ := h
    simp [List.any_append, Bool.or_assoc]
  · rw [if_neg h]
    have : ¬ (n = k ∧ s = t) := fun x => h ⟨x.2, x.1⟩
    simp [this]
theorem f2_at {A : Table} {k s n : Nat} (h : n < k) : f2 A k s n = cb A s n := by simp [f2, h]
theorem f4_low {A : Table} {k t s n : Nat} {es : List Ed} (h : n < k) : f4 A k t es s n = cb A s n := by
  have : ¬ n = k := by omega
  simp [f4, f3, h, this]
end Cl
namespace Cl

theorem take_pre {α : Type} {a b : List α} {n : Nat} (h : a <+: b) (hn : n ≤ a.length) : a.take n = b.take n := by
  obtain ⟨c, rfl⟩ := h
  rw [List.take_append_of_le_length hn]
theorem edW_pre (l : Table) (n : Nat) (t : Int) (lo : Nat) {c d : Nat} (h : c ≤ d) : edW l n t lo c <+: edW l n t lo d := by
  induction d with
  | zero => have : c = 0 := by omega
            subst this; exact List.prefix_rfl
  | succ d ih =>
    by_cases e : c = d + 1
    · subst e; exact List.prefix_rfl
    · rw [edW_succ]
      exact List.IsPrefix.trans (ih (by omega)) (List.prefix_append _ _)
theorem esW_pre (l : Table) (n : Nat) (es : List Ed) {i j : Nat} (h : i ≤ j) (hj : j ≤ es.length) : esW l n (es.take i) <+: esW l n (es.take j) := by
  induction j with
  | zero => have : i = 0 := by omega
            subst this; exact List.prefix_rfl
  | succ j ih =>
    by_cases e : i = j + 1
    · subst e; exact List.prefix_rfl
    · rw [esW_take l n es (i := j) (by omega)]
      exact List.IsPrefix.trans (ih (by omega) (by omega)) (List.prefix_append _ _)
/-- words behind the first i edges, and behind the first c bytes of the next one -/
def catW (l : Table) (n : Nat) (es : List Ed) (i : Nat) (e : Ed) (c : Nat) : List (List UInt8) := esW l n (es.take i) ++ edW l n e.to e.lo c
theorem catW_zero (l : Table) (n : Nat) (es : List Ed) (i : Nat) (e : Ed) : catW l n es i e 0 = esW l n (es.take i) := by simp [catW, edW_zero]
theorem catW_succ (l : Table) (n : Nat) (es : List Ed) (i : Nat) (e : Ed) (c : Nat) : catW l n es i e (c + 1) = catW l n es i e c ++ byteW l n e.to (e.lo + c) := by
  simp [catW, edW_succ]
theorem catW_pre (l : Table) (n : Nat) (es : List Ed) {i : Nat} (h : i < es.length) {c : Nat} (hc : c ≤ (es[i]).hi + 1 - (es[i]).lo) : catW l n es i es[i] c <+: esW l n (es.take (i + 1)) := by
  rw [esW_take l n es h]
  unfold catW
  exact (List.prefix_append_right_inj _).2 (edW_pre l n _ _ hc)
theorem catW_all (l : Table) (n : Nat) (es : List Ed) {i : Nat} (h : i < es.length) : catW l n es i es[i] ((es[i]).hi + 1 - (es[i]).lo) = esW l n (es.take (i + 1)) := by
  rw [esW_take l n es h]; rfl
theorem take_more {α : Type} {a b : List α} {n : Nat} (h : (a.take n).length < n) : a.take n ++ b.take (n - (a.take n).length) = (a ++ b).take n := by
  have : a.length < n := by
    rw [List.length_take] at h
    omega
  rw [List.take_of_length_le (by omega), List.take_append, List.take_of_length_le (l := a) (by omega)]
end Cl
namespace Cl
open Go Go.RowKit

/-- the blocks that an operation made: from .1 on, below .2 -/
abbrev Win := Nat → Nat × Nat
def Win.put (win : Win) (i : Nat) (x : Nat × Nat) : Win := fun j => if j = i then x else win j
theorem Win.put_same (win : Win) (i : Nat) (x : Nat × Nat) : win.put i x i = x := by simp [Win.put]
theorem Win.put_ne (win : Win) {i j : Nat} (x : Nat × Nat) (h : j ≠ i) : win.put i x j = win j := by simp [Win.put, h]

/-- WHAT IS KNOWN ONCE AN OPERATION HAS RUN, of its value, of the blocks that it and those that it waits for made, of the world: it stays true while nothing old turns. -/
structure Fact where
  deps : List Nat
  holds : Value → Win → World → Prop
  mono : ∀ (v : Value) (win win' : Win) (w w' : World), (∀ d ∈ deps, win d = win' d ∧ (win d).2 ≤ w.heap.size) → Below w.heap.size w w' → holds v win w → holds v win' w'

def Fact.any : Fact := ⟨[], fun _ _ _ => True, fun _ _ _ _ _ _ _ _ => trivial⟩
/-- the value is known -/
def Fact.is (p : Value → Prop) : Fact := ⟨[], fun v _ _ => p v, fun _ _ _ _ _ _ _ h => h⟩
/-- an object of its own -/
def Fact.obj (j : Nat) (t : TypeId) (arr : Array Value) : Fact := ⟨[j], fun v win w => v = .pointer (some ⟨(win j).1, 0, none⟩) ∧ (win j).2 = (win j).1 + 1 ∧ ObjAt w (win j).1 t arr, fun v win win' w w' hd hb ⟨h1, h2, h3⟩ => by
  obtain ⟨e, hl⟩ := hd j (List.mem_singleton.2 rfl)
  rw [← e]
  exact ⟨h1, h2, ObjAt.below h3 hb h3.lt⟩⟩
/-- a slice over a row of its own -/
def Fact.sl (j : Nat) (t : TypeId) (arr : Array Value) (n : Nat) : Fact := ⟨[j], fun v win w => v = .slice (some ⟨(win j).1, 0, none⟩) n n ∧ (win j).2 = (win j).1 + 1 ∧ ObjAt w (win j).1 t arr, fun v win win' w w' hd hb ⟨h1, h2, h3⟩ => by
  obtain ⟨e, hl⟩ := hd j (List.mem_singleton.2 rfl)
  rw [← e]
  exact ⟨h1, h2, ObjAt.below h3 hb h3.lt⟩⟩
/-- m, and the blocks of some operations -/
def Mem.wins (m : Mem) (w : World) (win : Win) (ds : List Nat) : Mem := fun k => if ds.any (fun d => decide ((win d).1 ≤ k ∧ k < (win d).2)) = true then w.heap[k]? else m k
theorem Mem.wins_eq {m : Mem} {w w' : World} {win win' : Win} {ds : List Nat} (hd : ∀ d ∈ ds, win d = win' d ∧ (win d).2 ≤ w.heap.size) (hb : Below w.heap.size w w') : m.wins w win ds = m.wins w' win' ds := by
  funext k
  unfold Mem.wins
  have e : (ds.any fun d => decide ((win d).1 ≤ k ∧ k < (win d).2)) = ds.any fun d => decide ((win' d).1 ≤ k ∧ k < (win' d).2) := by
    rw [Bool.eq_iff_iff, List.any_eq_true, List.any_eq_true]
    constructor
    · rintro ⟨d, h1, h2⟩; exact ⟨d, h1, by rw [← (hd d h1).1]; exact h2⟩
    · rintro ⟨d, h1, h2⟩; exact ⟨d, h1, by rw [(hd d h1).1]; exact h2⟩
  rw [← e]
  split
  · rename_i h
    obtain ⟨d, h1, h2⟩ := List.any_eq_true.1 h
    have := (hd d h1).2
    simp only [decide_eq_true_eq] at h2
    exact (hb.block k (by omega)).symm
  · rfl
theorem Mem.wins_inn {m : Mem} {w : World} (h : m.inn w) (win : Win) (ds : List Nat) : (m.wins w win ds).inn w := ⟨fun k o hk => by
  unfold Mem.wins at hk
  split at hk
  · exact hk
  · exact h.get k o hk⟩
theorem Mem.le_wins {m : Mem} {w : World} (h : m.inn w) (win : Win) (ds : List Nat) : m.le (m.wins w win ds) := ⟨fun k o hk => by
  unfold Mem.wins
  split
  · exact h.get k o hk
  · exact hk⟩
theorem Mem.wins_le {m : Mem} {w : World} (h : m.inn w) (win : Win) {ds es : List Nat} (hs : ∀ d ∈ ds, d ∈ es) : (m.wins w win ds).le (m.wins w win es) := ⟨fun k o hk => by
  have hi := (Mem.wins_inn h win ds).get k o hk
  unfold Mem.wins at hk ⊢
  split
  · exact hi
  · rename_i hne
    split at hk
    · rename_i hx
      obtain ⟨d, h1, h2⟩ := List.any_eq_true.1 hx
      exact absurd (List.any_eq_true.2 ⟨d, hs d h1, h2⟩) hne
    · exact hk⟩
theorem Mem.wins_none {m : Mem} {w : World} {win : Win} {ds : List Nat} {k : Nat} (h : m k = none) (hd : ∀ d ∈ ds, ¬ ((win d).1 ≤ k ∧ k < (win d).2)) : m.wins w win ds k = none := by
  unfold Mem.wins
  rw [if_neg]
  · exact h
  · intro hx
    obtain ⟨d, h1, h2⟩ := List.any_eq_true.1 hx
    exact hd d h1 (by simpa using h2)
/-- what a call made, in the words of windows -/
theorem Mem.grow_wins {m : Mem} {w w' : World} (h : m.inn w) (win : Win) {ds : List Nat} {i : Nat} (hd : ∀ d ∈ ds, d ≠ i) (hs : ∀ d ∈ ds, (win d).2 ≤ w.heap.size) (hb : Below w.heap.size w w') :
    ((m.wins w win ds).grow w w').le (m.wins w' (win.put i (w.heap.size, w'.heap.size)) (i :: ds)) := ⟨fun k o hk => by
  have e : m.wins w win ds = m.wins w' (win.put i (w.heap.size, w'.heap.size)) ds := Mem.wins_eq (fun d hd' => ⟨(Win.put_ne win _ (hd d hd')).symm, hs d hd'⟩) hb
  unfold Mem.grow at hk
  split at hk
  · rw [e] at hk
    exact (Mem.wins_le (Mem.inn_below h hb) _ (fun d h => List.mem_cons_of_mem _ h)).get k o hk
  · have hlt := (Array.getElem?_eq_some_iff.1 hk).1
    unfold Mem.wins
    rw [if_pos]
    · exact hk
    · refine List.any_eq_true.2 ⟨i, List.mem_cons_self .., ?_⟩
      rw [Win.put_same]
      simp only [decide_eq_true_eq]
      omega⟩
theorem Mem.grow_wins0 {m : Mem} {w w' : World} (h : m.inn w) (win : Win) (i : Nat) (hb : Below w.heap.size w w') : (m.grow w w').le (m.wins w' (win.put i (w.heap.size, w'.heap.size)) [i]) := by
  have := Mem.grow_wins (ds := []) h win (i := i) (by simp) (by simp) hb
  have e : m.wins w win [] = m := by funext k; simp [Mem.wins]
  rwa [e] at this
/-- a fact of memory: m and what some operations made -/
def Fact.mem (m : Mem) (ds : List Nat) (R : Mem → Value → Prop) : Fact := ⟨ds, fun v win w => R (m.wins w win ds) v, fun v win win' w w' hd hb h => by
  rw [← Mem.wins_eq hd hb]; exact h⟩

def dstV (a : Act) (o : Oper) : Value := match o.dst with
  | some s => a.tmps.getD s undef
  | none => undef

section
variable {P : Program} {ops : Array Oper} {Q : Exit → Act → World → Prop}

/-- how far a region has come -/
structure Reg (ops : Array Oper) (t0 : Array Value) (w1 : World) (F : Nat → Fact) (don : Nat → Bool) (win : Win) (a : Act) (w : World) : Prop where
  size : a.tmps.size = t0.size
  defers : a.defers = []
  below : Below w1.heap.size w1 w
  keep : ∀ s, (∀ j o, ops[j]? = some o → don j = true → o.dst ≠ some s) → a.tmps.getD s undef = t0.getD s undef
  fact : ∀ j o, ops[j]? = some o → don j = true → (F j).holds (dstV a o) win w
  rng : ∀ j, don j = true → w1.heap.size ≤ (win j).1 ∧ (win j).1 ≤ (win j).2 ∧ (win j).2 ≤ w.heap.size
  apart : ∀ j k, don j = true → don k = true → j ≠ k → (win j).2 ≤ (win k).1 ∨ (win k).2 ≤ (win j).1

/-- no early operation writes slot s -/
def notDst (ops : Array Oper) (n0 s : Nat) : Bool := (List.range n0).all fun i => ((ops[i]?).map fun o => !(o.dst == some s)).getD true
theorem notDst_spec {n0 s : Nat} (h : notDst ops n0 s = true) {j : Nat} {o : Oper} (ho : ops[j]? = some o) (hj : j < n0) : o.dst ≠ some s := by
  have := List.all_eq_true.1 h j (List.mem_range.2 hj)
  rw [ho] at this
  simpa using this

/-- what an operation finds -/
structure RegAt (ops : Array Oper) (n0 fu : Nat) (t0 : Array Value) (w1 : World) (F : Nat → Fact) (i : Nat) (win : Win) (a : Act) (w : World) : Prop where
  size : a.tmps.size = t0.size
  defers : a.defers = []
  below : Below w1.heap.size w1 w
  keep : ∀ s, notDst ops n0 s = true → a.tmps.getD s undef = t0.getD s undef
  dep : ∀ j o, waitsT ops fu i j = true → ops[j]? = some o → (F j).holds (dstV a o) win w
  rng : ∀ j, waitsT ops fu i j = true → w1.heap.size ≤ (win j).1 ∧ (win j).1 ≤ (win j).2 ∧ (win j).2 ≤ w.heap.size
/-- .. and what it leaves -/
def RegK (F : Nat → Fact) (i : Nat) (o : Oper) (win : Win) (a : Act) (w : World) (a' : Act) (w' : World) : Prop :=
  ∃ v, a' = a.put o.dst v ∧ Below w.heap.size w w' ∧ (F i).holds v (win.put i (w.heap.size, w'.heap.size)) w'
/-- what stands when all early operations have run -/
structure RegEnd (ops : Array Oper) (n0 : Nat) (t0 : Array Value) (w1 : World) (F : Nat → Fact) (win : Win) (a : Act) (w : World) : Prop where
  size : a.tmps.size = t0.size
  defers : a.defers = []
  below : Below w1.heap.size w1 w
  keep : ∀ s, notDst ops n0 s = true → a.tmps.getD s undef = t0.getD s undef
  fact : ∀ j o, j < n0 → ops[j]? = some o → (F j).holds (dstV a o) win w
  rng : ∀ j, j < n0 → w1.heap.size ≤ (win j).1 ∧ (win j).1 ≤ (win j).2 ∧ (win j).2 ≤ w.heap.size
  apart : ∀ j k, j < n0 → k < n0 → j ≠ k → (win j).2 ≤ (win k).1 ∨ (win k).2 ≤ (win j).1

def regOk (ops : Array Oper) (n0 fu nt : Nat) (deps : Nat → List Nat) : Bool :=
  decide (n0 ≤ ops.size) &&
  (List.range n0).all (fun i => ((ops[i]?).map fun o => o.after.all fun e => !Region.binds .any e || decide (e.on < i)).getD false) &&
  (List.range ops.size).all (fun i => decide (i < n0) || (List.range n0).all fun j => waitsT ops fu i j) &&
  (List.range n0).all (fun i => ((ops[i]?).map fun o => match o.dst with
    | some s => decide (s < nt) && (List.range i).all fun j => ((ops[j]?).map fun o' => !(o'.dst == some s)).getD true
    | none => false).getD false) &&
  (List.range n0).all (fun j => (deps j).all fun d => d == j || waitsT ops fu j d)
structure RegOk (ops : Array Oper) (n0 fu nt : Nat) (deps : Nat → List Nat) : Prop where
  le : n0 ≤ ops.size
  back : ∀ i o, i < n0 → ops[i]? = some o → ∀ e ∈ o.after, Region.binds .any e = true → e.on < i
  late : ∀ i, i < ops.size → n0 ≤ i → ∀ j, j < n0 → waitsT ops fu i j = true
  dst : ∀ i o, i < n0 → ops[i]? = some o → ∃ s, o.dst = some s ∧ s < nt ∧ ∀ j o', j < n0 → ops[j]? = some o' → j ≠ i → o'.dst ≠ some s
  dep : ∀ j, j < n0 → ∀ d ∈ deps j, d = j ∨ waitsT ops fu j d = true
theorem regOk_spec {n0 fu nt : Nat} {deps : Nat → List Nat} (h : regOk ops n0 fu nt deps = true) : RegOk ops n0 fu nt deps := by
  simp only [regOk, Bool.and_eq_true, decide_eq_true_eq] at h
  obtain ⟨⟨⟨⟨h1, h2⟩, h3⟩, h4⟩, h5⟩ := h
  have d1 : ∀ i o, i < n0 → ops[i]? = some o → ∃ s, o.dst = some s ∧ s < nt ∧ ∀ j o', j < i → ops[j]? = some o' → o'.dst ≠ some s := by
    intro i o hi ho
    have := List.all_eq_true.1 h4 i (List.mem_range.2 hi)
    rw [ho] at this
    simp only [Option.map_some, Option.getD_some] at this
    split at this
    · rename_i s hs
      rw [Bool.and_eq_true, decide_eq_true_eq] at this
      refine ⟨s, hs, this.1, fun j o' hj ho' => ?_⟩
      have := List.all_eq_true.1 this.2 j (List.mem_range.2 hj)
      rw [ho'] at this
      simpa using this
    · cases this
  refine ⟨h1, ?_, ?_, ?_, ?_⟩
  · intro i o hi ho e he hb
    have := List.all_eq_true.1 h2 i (List.mem_range.2 hi)
    rw [ho] at this
    simp only [Option.map_some, Option.getD_some] at this
    have := Array.all_eq_true_iff_forall_mem.1 this e he
    simpa [hb] using this
  · intro i hi hn j hj
    have := List.all_eq_true.1 h3 i (List.mem_range.2 hi)
    simp only [Bool.or_eq_true, decide_eq_true_eq] at this
    exact List.all_eq_true.1 (this.resolve_left (by omega)) j (List.mem_range.2 hj)
  · intro i o hi ho
    obtain ⟨s, hs, hlt, hall⟩ := d1 i o hi ho
    refine ⟨s, hs, hlt, fun j o' hj ho' hne e => ?_⟩
    rcases Nat.lt_or_ge j i with hlt' | hge
    · exact hall j o' hlt' ho' e
    · obtain ⟨s', hs', -, hall'⟩ := d1 j o' hj ho'
      have : s' = s := Option.some.inj (hs'.symm.trans e)
      subst this
      exact hall' i o (by omega) ho hs
  · intro j hj d hd
    have := List.all_eq_true.1 (List.all_eq_true.1 h5 j (List.mem_range.2 hj)) d hd
    simpa using this

theorem filter_less {p q : Nat → Bool} (h : ∀ x, q x = true → p x = true) {i : Nat} (hp : p i = true) (hq : q i = false) : ∀ l : List Nat, i ∈ l → (l.filter q).length < (l.filter p).length
  | [], hi => by cases hi
  | x :: l, hi => by
    have hle : (l.filter q).length ≤ (l.filter p).length := by
      clear hi
      induction l with
      | nil => simp
      | cons y l ih =>
        simp only [List.filter_cons]
        cases hy : q y with
        | true => simp [h y hy, ih]
        | false =>
          cases p y with
          | true => simp; omega
          | false => simpa using ih
    rcases List.mem_cons.1 hi with e | hm
    · subst e
      simp only [List.filter_cons, hp, hq, if_true]
      simp
      omega
    · have ih := filter_less h hp hq l hm
      simp only [List.filter_cons]
      cases hy : q x with
      | true => simp [h x hy, ih]
      | false =>
        cases p x with
        | true => simp; omega
        | false => simpa using ih
theorem least_of {p : Nat → Bool} : ∀ n, (∃ j, j < n ∧ p j = true) → ∃ j, j < n ∧ p j = true ∧ ∀ k, k < j → p k = false
  | 0, ⟨_, h, _⟩ => by omega
  | n + 1, ⟨j, h, hp⟩ => by
    by_cases hx : ∃ j, j < n ∧ p j = true
    · obtain ⟨j, h1, h2, h3⟩ := least_of n hx
      exact ⟨j, by omega, h2, h3⟩
    · refine ⟨j, h, hp, fun k hk => ?_⟩
      cases hpk : p k with
      | false => rfl
      | true => exact absurd ⟨k, by omega, hpk⟩ hx

theorem wpAny_more : ∀ (fuel more : Nat) (listed : Array Bool) (a : Act) (w : World), fuel ≤ more → wpAny P .any ops Q fuel listed a w → wpAny P .any ops Q more listed a w
  | 0, more, listed, a, w, _, h => by
    cases more with
    | zero => exact h
    | succ m => exact ⟨fun _ => h.2, fun i hi => by rw [h.1] at hi; cases hi⟩
  | fuel + 1, more, listed, a, w, hl, h => by
    cases more with
    | zero => omega
    | succ m => exact ⟨h.1, fun i hi => wpOp_mono (fun a' w' h' => wpAny_more fuel m _ a' w' (by omega) h') (h.2 i hi)⟩

/-- the first n0 have run -/
def maskL (n n0 : Nat) : Array Bool := ((List.range n).map fun i => decide (i < n0)).toArray

theorem getD_set_self {l : Array Bool} {i : Nat} (h : i < l.size) (d : Bool) : (l.setIfInBounds i true).getD i d = true := by simp [h]
theorem getD_tf {l : Array Bool} {i : Nat} (h : i < l.size) : l.getD i true = l.getD i false := by simp [h]

theorem maskL_of {n n0 : Nat} {listed : Array Bool} (hsz : listed.size = n) (hearly : ∀ j, listed.getD j false = true → j < n0) (hall : ∀ j, j < n0 → listed.getD j false = true) : listed = maskL n n0 := by
  apply Array.ext
  · simp [maskL, hsz]
  · intro i h1 h2
    simp only [maskL, List.getElem_toArray, List.getElem_map, List.getElem_range]
    have h3 : listed.getD i false = listed[i] := by simp [h1]
    rw [← h3]
    by_cases hi : i < n0
    · rw [hall i hi]; simp [hi]
    · cases hx : listed.getD i false with
      | true => exact absurd (hearly i hx) hi
      | false => simp [hi]
def ClosedF (ops : Array Oper) (listed : Array Bool) : Prop :=
  ∀ k ok, ops[k]? = some ok → listed.getD k false = true → ∀ e ∈ ok.after, Region.binds .any e = true → listed.getD e.on false = true
theorem waits_closed {listed : Array Bool} (hc : ClosedF ops listed) {i : Nat} : ∀ (n j : Nat), listed.getD j false = true → waitsT ops n j i = true → listed.getD i false = true := by
  intro n
  induction n with
  | zero => intro j _ h; cases h
  | succ n ih =>
    intro j hj h
    unfold waitsT at h
    cases ho : ops[j]? with
    | none => rw [ho] at h; cases h
    | some o =>
      rw [ho] at h
      simp only [Option.map_some, Option.getD_some, Array.any_eq_true', Bool.and_eq_true, Bool.or_eq_true, beq_iff_eq] at h
      obtain ⟨e, he, hb, h1⟩ := h
      have h2 := hc j o ho hj e he hb
      rcases h1 with h1 | h1
      · rw [← h1]; exact h2
      · exact ih e.on h2 h1
theorem ready_waits {listed : Array Bool} (hc : ClosedF ops listed) {i j n : Nat} (hr : i ∈ Region.ready .any ops listed) (hw : waitsT ops n i j = true) : listed.getD j false = true := by
  obtain ⟨hun, o, ho, hdeps⟩ := mem_ready.1 hr
  cases n with
  | zero => cases hw
  | succ n =>
    unfold waitsT at hw
    rw [ho] at hw
    simp only [Option.map_some, Option.getD_some, Array.any_eq_true', Bool.and_eq_true, Bool.or_eq_true, beq_iff_eq] at hw
    obtain ⟨e, he, hb, h1⟩ := hw
    have h2 := hdeps e he hb
    rcases h1 with h1 | h1
    · rw [← h1]; exact h2
    · exact waits_closed hc n e.on h2 h1
theorem getD_setF {l : Array Bool} {i j : Nat} : (l.setIfInBounds i true).getD j false = true ↔ l.getD j false = true ∨ (j = i ∧ i < l.size) := by
  simp only [Array.getD_eq_getD_getElem?, Array.getElem?_setIfInBounds]
  by_cases e : i = j
  · subst e
    by_cases h : i < l.size
    · simp [h]
    · simp [h]
  · rw [if_neg e]
    constructor
    · exact .inl
    · rintro (h | ⟨h, -⟩)
      · exact h
      · exact absurd h.symm e
theorem putD {a : Act} {s : Nat} {v : Value} {t : Nat} : (a.put (some s) v).tmps.getD t undef = if t = s ∧ s < a.tmps.size then v else a.tmps.getD t undef := by
  simp only [Act.put, Array.getD_eq_getD_getElem?, Array.getElem?_setIfInBounds]
  by_cases e : s = t
  · subst e
    by_cases h : s < a.tmps.size
    · simp [h]
    · simp [h]
  · rw [if_neg e, if_neg (fun h => e h.1.symm)]

theorem region_go {n0 fu : Nat} {t0 : Array Value} {w1 : World} {F : Nat → Fact} (H : RegOk ops n0 fu t0.size (fun j => (F j).deps))
    (hstep : ∀ i, i < n0 → ∀ o win a w, ops[i]? = some o → RegAt ops n0 fu t0 w1 F i win a w → wpOp P ops Q i (RegK F i o win a w) a w)
    (hend : ∀ win a w, RegEnd ops n0 t0 w1 F win a w → wpAny P .any ops Q (ops.size - n0) (maskL ops.size n0) a w) :
    ∀ (fuel : Nat) (listed : Array Bool) (win : Win) (a : Act) (w : World), listed.size = ops.size → (∀ j, listed.getD j false = true → j < n0) → ClosedF ops listed →
      ((List.range n0).filter fun j => !listed.getD j false).length + (ops.size - n0) ≤ fuel → Reg ops t0 w1 F (fun j => listed.getD j false) win a w → wpAny P .any ops Q fuel listed a w := by
  intro fuel
  induction fuel with
  | zero =>
    intro listed win a w hsz hearly hcl hfu hR
    have hall : ∀ j, j < n0 → listed.getD j false = true := fun j hj => by
      cases hx : listed.getD j false with
      | true => rfl
      | false =>
        have : j ∈ (List.range n0).filter fun j => !listed.getD j false := List.mem_filter.2 ⟨List.mem_range.2 hj, by rw [hx]; rfl⟩
        have := List.length_pos_of_mem this
        omega
    have := hend win a w ⟨hR.size, hR.defers, hR.below, fun s hs => hR.keep s fun j o ho hd => notDst_spec hs ho (hearly j hd), fun j o hj ho => hR.fact j o ho (hall j hj), fun j hj => hR.rng j (hall j hj), fun j k hj hk hne => hR.apart j k (hall j hj) (hall k hk) hne⟩
    rw [maskL_of hsz hearly hall]
    exact wpAny_more _ _ _ _ _ (by omega) this
  | succ fuel ih =>
    intro listed win a w hsz hearly hcl hfu hR
    by_cases hall : ∀ j, j < n0 → listed.getD j false = true
    · have := hend win a w ⟨hR.size, hR.defers, hR.below, fun s hs => hR.keep s fun j o ho hd => notDst_spec hs ho (hearly j hd), fun j o hj ho => hR.fact j o ho (hall j hj), fun j hj => hR.rng j (hall j hj), fun j k hj hk hne => hR.apart j k (hall j hj) (hall k hk) hne⟩
      rw [maskL_of hsz hearly hall]
      exact wpAny_more _ _ _ _ _ (by omega) this
    · have hex : ∃ j, j < n0 ∧ (!listed.getD j false) = true := by
        apply Classical.byContradiction
        intro hno
        exact hall fun j hj => by
          cases hx : listed.getD j false with
          | true => rfl
          | false => exact absurd ⟨j, hj, by rw [hx]; rfl⟩ hno
      refine ⟨fun hnil => ?_, fun i hi => ?_⟩
      · obtain ⟨j, h1, h2, h3⟩ := least_of n0 hex
        have hjs : j < ops.size := by have := H.le; omega
        have : j ∈ Region.ready .any ops listed := mem_ready.2 ⟨by rw [getD_tf (by omega)]; simpa using h2, ops[j], by simp [hjs], fun e he hb => by
          have := h3 e.on (H.back j _ h1 (by simp [hjs]) e he hb)
          simpa using this⟩
        rw [hnil] at this
        cases this
      · obtain ⟨hun, o, ho, hdeps⟩ := mem_ready.1 hi
        have his : i < ops.size := (Array.getElem?_eq_some_iff.1 ho).1
        have hin : i < n0 := by
          rcases Nat.lt_or_ge i n0 with h | h
          · exact h
          · exact absurd (fun j hj => ready_waits hcl hi (H.late i his h j hj)) hall
        rw [getD_tf (by omega)] at hun
        obtain ⟨s, hs, hst, hsn⟩ := H.dst i o hin ho
        have hsa : s < a.tmps.size := by rw [hR.size]; exact hst
        have hA : RegAt ops n0 fu t0 w1 F i win a w := ⟨hR.size, hR.defers, hR.below, fun s hs => hR.keep s fun j o ho hd => notDst_spec hs ho (hearly j hd),
          fun j o hw ho => hR.fact j o ho (ready_waits hcl hi hw), fun j hw => hR.rng j (ready_waits hcl hi hw)⟩
        refine wpOp_mono ?_ (hstep i hin o win a w ho hA)
        rintro a' w' ⟨v, rfl, hb, hv⟩
        rw [hs]
        have hother : ∀ j, listed.getD j false = true → j ≠ i := fun j hj e => by rw [e, hun] at hj; cases hj
        refine ih (listed.setIfInBounds i true) (win.put i (w.heap.size, w'.heap.size)) _ _ (by simpa using hsz) ?_ ?_ ?_ ?_
        · intro j hj
          rcases getD_setF.1 hj with h | h
          · exact hearly j h
          · rw [h.1]; exact hin
        · intro k ok hk hl e he hbd
          refine getD_setF.2 (.inl ?_)
          rcases getD_setF.1 hl with h | h
          · exact hcl k ok hk h e he hbd
          · have hki := h.1
            subst hki
            have : ok = o := Option.some.inj (hk.symm.trans ho)
            subst this
            exact hdeps e he hbd
        · have : ((List.range n0).filter fun j => !(listed.setIfInBounds i true).getD j false).length < ((List.range n0).filter fun j => !listed.getD j false).length := by
            refine filter_less (i := i) (fun x hx => ?_) (by rw [hun]; rfl) ?_ _ (List.mem_range.2 hin)
            · cases hl : listed.getD x false with
              | false => rfl
              | true =>
                have := getD_setF (l := listed) (i := i) (j := x) |>.2 (.inl hl)
                rw [this] at hx
                cases hx
            · have := getD_setF (l := listed) (i := i) (j := i) |>.2 (.inr ⟨rfl, by omega⟩)
              rw [this]; rfl
          omega
        · refine ⟨?_, hR.defers, below_then hR.below hb, ?_, ?_, ?_, ?_⟩
          · simp [Act.put, hR.size]
          · intro t ht
            rw [putD, if_neg]
            · exact hR.keep t fun j o' ho' hd => ht j o' ho' (getD_setF.2 (.inl hd))
            · rintro ⟨e, -⟩
              exact ht i o ho (getD_setF.2 (.inr ⟨rfl, by omega⟩)) (by rw [hs, e])
          · intro j o' ho' hd
            rcases getD_setF.1 hd with h | h
            · have hji := hother j h
              have e : dstV (a.put (some s) v) o' = dstV a o' := by
                unfold dstV
                cases hd' : o'.dst with
                | none => rfl
                | some t =>
                  simp only
                  rw [putD, if_neg]
                  rintro ⟨e, -⟩
                  exact hsn j o' (hearly j h) ho' hji (by rw [hd', e])
              rw [e]
              refine (F j).mono _ win _ w w' (fun d hd => ?_) hb (hR.fact j o' ho' h)
              have hdl : listed.getD d false = true := by
                rcases H.dep j (hearly j h) d hd with e | hw
                · rw [e]; exact h
                · exact waits_closed hcl fu j h hw
              exact ⟨(Win.put_ne win _ (hother d hdl)).symm, (hR.rng d hdl).2.2⟩
            · have hji := h.1
              subst hji
              have : o' = o := Option.some.inj (ho'.symm.trans ho)
              subst this
              have e : dstV (a.put (some s) v) o' = v := by
                unfold dstV
                rw [hs]
                simp only
                rw [putD, if_pos ⟨rfl, hsa⟩]
              rw [e]
              exact hv
          · intro j hd
            rcases getD_setF.1 hd with h | h
            · rw [Win.put_ne win _ (hother j h)]
              have := hR.rng j h
              have := hb.size
              omega
            · rw [h.1, Win.put_same]
              exact ⟨hR.below.size, hb.size, Nat.le_refl _⟩
          · intro j k hj hk hne
            rcases getD_setF.1 hj with h | h
            · rcases getD_setF.1 hk with h' | h'
              · rw [Win.put_ne win _ (hother j h), Win.put_ne win _ (hother k h')]
                exact hR.apart j k h h' hne
              · rw [Win.put_ne win _ (hother j h), h'.1, Win.put_same]
                exact .inl (hR.rng j h).2.2
            · rcases getD_setF.1 hk with h' | h'
              · rw [Win.put_ne win _ (hother k h'), h.1, Win.put_same]
                exact .inr (hR.rng k h').2.2
              · exact absurd (h.1.trans h'.1.symm) hne

/-- A REGION THAT DRAWS ITS ORDER: each early operation (the first n0) by itself; the late ones behind them all. -/
theorem wp_region_facts {id : Nat} {t0 : Array Value} {w : World} (n0 fu : Nat) (F : Nat → Fact) (hm : P.follows .mixedOrders = true) (hok : regOk ops n0 fu t0.size (fun j => (F j).deps) = true)
    (hstep : ∀ i, i < n0 → ∀ o win a w', ops[i]? = some o → RegAt ops n0 fu t0 w.drew F i win a w' → wpOp P ops Q i (RegK F i o win a w') a w')
    (hend : ∀ win a w', RegEnd ops n0 t0 w.drew F win a w' → wpAny P .any ops Q (ops.size - n0) (maskL ops.size n0) a w') : (Code.region id ops true).wp P Q ⟨t0, []⟩ w := by
  have H := regOk_spec hok
  refine wp_region_any hm (region_go H hstep hend ops.size (Array.replicate ops.size false) (fun _ => (0, 0)) ⟨t0, []⟩ w.drew (by simp) ?_ ?_ ?_ ?_)
  · intro j hj
    exfalso
    by_cases h : j < ops.size <;> simp [h] at hj
  · intro k ok _ hl
    exfalso
    by_cases h : k < ops.size <;> simp [h] at hl
  · have : ((List.range n0).filter fun j => !(Array.replicate ops.size false).getD j false).length ≤ n0 := by
      have := List.length_filter_le (fun j => !(Array.replicate ops.size false).getD j false) (List.range n0)
      simpa using this
    have := H.le
    omega
  · have hno : ∀ j, (Array.replicate ops.size false).getD j false = true → False := fun j hj => by
      by_cases h : j < ops.size <;> simp [h] at hj
    exact ⟨rfl, rfl, Below.refl _ _, fun _ _ => rfl, fun j _ _ hj => (hno j hj).elim, fun j hj => (hno j hj).elim, fun j _ hj => (hno j hj).elim⟩
theorem wpAny_none {listed : Array Bool} {a : Act} {w : World} (hr : (Region.ready .any ops listed == []) = true) (h : Q .normal a w) : ∀ fuel, wpAny P .any ops Q fuel listed a w := by
  have hr' : Region.ready .any ops listed = [] := by simpa using hr
  intro fuel
  cases fuel with
  | zero => exact ⟨hr', h⟩
  | succ n => exact ⟨fun _ => h, by rw [hr']; simp⟩
theorem wpAny_one (i : Nat) {fuel : Nat} {listed : Array Bool} {a : Act} {w : World} (hr : (Region.ready .any ops listed == [i]) = true)
    (h : wpOp P ops Q i (fun a' w' => wpAny P .any ops Q fuel (listed.setIfInBounds i true) a' w') a w) : wpAny P .any ops Q (fuel + 1) listed a w := by
  have hr' : Region.ready .any ops listed = [i] := by simpa using hr
  exact ⟨fun h0 => (by rw [hr'] at h0; cases h0), fun j hj => (by rw [hr'] at hj; obtain rfl := List.mem_singleton.1 hj; exact h)⟩
theorem getD_bool {t : Array Value} {s : Nat} {b : Bool} (h : t.getD s undef = .bool b) : t[s]? = some (.bool b) := by
  cases hx : t[s]? with
  | none => simp [hx, undef] at h
  | some v => simpa [hx] using h
theorem wanted_of {o : Oper} {a : Act} {g s : Nat} {b c : Bool} (hg : o.guard = some (g, b)) (hs : (ops[g]?).bind (·.dst) = some s) (e : a.tmps.getD s undef = .bool c) : Region.wanted o (yielded ops a.tmps) = (c == b) := by
  have h := getD_bool e
  simp [Region.wanted, hg, yielded, hs, h]
theorem wanted_yes {o : Oper} {a : Act} {g s : Nat} {b : Bool} (hg : o.guard = some (g, b)) (hs : (ops[g]?).bind (·.dst) = some s) (e : a.tmps.getD s undef = .bool b) : Region.wanted o (yielded ops a.tmps) = true := by
  rw [wanted_of hg hs e]; simp
theorem wanted_no {o : Oper} {a : Act} {g s : Nat} {b c : Bool} (hg : o.guard = some (g, b)) (hs : (ops[g]?).bind (·.dst) = some s) (e : a.tmps.getD s undef = .bool c) (hn : (c == b) = false) : Region.wanted o (yielded ops a.tmps) = false := by
  rw [wanted_of hg hs e, hn]
end
end Cl
namespace Cl
open Go Go.RowKit
/-- behind a region: what some operations made is sealed -/
theorem Own.region {w0 w1 w : World} {m mk : Mem} {L : List Item} (h : Own w0 m w1 mk L) (hb : Below w1.heap.size w1 w) (win : Win) (ds : List Nat) (hd : ∀ d ∈ ds, w1.heap.size ≤ (win d).1) : Own w0 m w (mk.wins w win ds) L := by
  have hm := h.move hb
  have no : ∀ k, k < w1.heap.size → mk k = none → mk.wins w win ds k = none := fun k hk hn => Mem.wins_none hn fun d h1 h2 => by have := hd d h1; omega
  refine ⟨h.m0, hm.below, ⟨Mem.le_trans h.ext.le (Mem.le_wins hm.inn win ds), fun k o hk => ?_⟩, Mem.wins_inn hm.inn win ds, hm.ok, fun it hi k hk => ⟨(h.fresh it hi k hk).1, no k (Item.lt (h.ok it hi) hk) (h.fresh it hi k hk).2⟩, h.apart⟩
  rcases Nat.lt_or_ge k w1.heap.size with hlt | hge
  · cases hx : mk k with
    | none => rw [no k hlt hx] at hk; cases hk
    | some o' => exact h.ext.dom k o' hx |>.imp (fun e => by
        have h1 := (Mem.le_wins hm.inn win ds).get k o' hx
        rw [hk] at h1
        rw [e, h1]) id
  · exact .inr (Nat.le_trans h.below.size hge)
theorem Own.inn0 {w0 w : World} {m mk : Mem} {L : List Item} (h : Own w0 m w mk L) : m.inn w := Mem.inn_le h.ext.le h.inn
theorem Own.newObj {w0 w : World} {m mk : Mem} {L : List Item} {g : Nat} {t : TypeId} {arr : Array Value} (h : Own w0 m w mk L) (ho : ObjAt w g t arr) (hge : w0.heap.size ≤ g) (hf : mk g = none) (hd : ∀ it ∈ L, it.blk ≠ some g) : Own w0 m w mk (.obj g t arr :: L) :=
  h.cons ho (fun k hk => by simp only [Item.blk, Option.some.injEq] at hk; subst hk; exact ⟨hge, hf⟩) (fun b hb k h1 h2 => by simp only [Item.blk, Option.some.injEq] at h1; subst h1; exact hd b hb h2)
theorem Own.blk_lt {w0 w : World} {m mk : Mem} {L : List Item} (h : Own w0 m w mk L) {n : Nat} (hn : w.heap.size ≤ n) : ∀ it ∈ L, it.blk ≠ some n := fun it hi e => by have := Item.lt (h.ok it hi) e; omega
theorem blk_cons {g n : Nat} {t : TypeId} {arr : Array Value} {L : List Item} (hne : g ≠ n) (h : ∀ it ∈ L, it.blk ≠ some n) : ∀ it ∈ Item.obj g t arr :: L, it.blk ≠ some n := by
  intro it hi
  rcases List.mem_cons.1 hi with rfl | hi
  · simpa [Item.blk] using hne
  · exact h it hi
theorem obj_mk {w : World} {i : Nat} {t : TypeId} {arr : Array Value} (win : Win) :
    (Fact.obj i t arr).holds (.pointer (some ⟨w.heap.size, 0, none⟩)) (win.put i (w.heap.size, (w.alloc (.cells arr t)).heap.size)) (w.alloc (.cells arr t)) := by
  show _ = Value.pointer (some ⟨((win.put i (w.heap.size, (w.alloc (.cells arr t)).heap.size)) i).1, 0, none⟩) ∧ _ ∧ _
  rw [Win.put_same]
  exact ⟨rfl, by simp, ObjAt.new _ _ _⟩
theorem sl_mk {w : World} {i n : Nat} {t : TypeId} {arr : Array Value} (win : Win) :
    (Fact.sl i t arr n).holds (.slice (some ⟨w.heap.size, 0, none⟩) n n) (win.put i (w.heap.size, (w.alloc (.cells arr t)).heap.size)) (w.alloc (.cells arr t)) := by
  show _ = Value.slice (some ⟨((win.put i (w.heap.size, (w.alloc (.cells arr t)).heap.size)) i).1, 0, none⟩) n n ∧ _ ∧ _
  rw [Win.put_same]
  exact ⟨rfl, by simp, ObjAt.new _ _ _⟩
/-- an automaton, as a value -/
def TabV (T : Table) (M : Mem) (v : Value) : Prop := ∃ xa xc, v = .agg #[.slice xa (List.length T) xc] ∧ statesAt M (.slice xa (List.length T) xc) T
theorem tabV_mk {m : Mem} {w w' : World} {win : Win} {i : Nat} {r : Value} {T : Table} (hm : m.inn w) (hb : Below w.heap.size w w') (hst : statesAt (m.grow w w') r T) :
    TabV T (m.wins w' (win.put i (w.heap.size, w'.heap.size)) [i]) (.agg #[r]) := by
  have h := statesAt_le (Mem.grow_wins0 hm win i hb) hst
  obtain ⟨xa, xc, rfl, h'⟩ := id h
  exact ⟨xa, xc, rfl, h⟩
/-- a set of strings, as a value -/
def LangV (f : List UInt8 → Bool) (n : Nat) (M : Mem) (v : Value) : Prop := ∃ xa xc C, v = .agg #[.slice xa (List.length C) xc] ∧ statesAt M (.slice xa (List.length C) xc) C ∧ LangIs f C ∧ C.length ≤ n
theorem langV_le {f : List UInt8 → Bool} {n : Nat} {M M' : Mem} {v : Value} (hl : M.le M') (h : LangV f n M v) : LangV f n M' v := by
  obtain ⟨xa, xc, C, h1, h2, h3⟩ := h
  exact ⟨xa, xc, C, h1, statesAt_le hl h2, h3⟩
theorem langV_of {f : List UInt8 → Bool} {n : Nat} {M : Mem} {r : Value} {C : Table} (hst : statesAt M r C) (hl : LangIs f C) (hn : C.length ≤ n) : LangV f n M (.agg #[r]) := by
  obtain ⟨xa, xc, rfl, h⟩ := hst
  exact ⟨xa, xc, C, rfl, ⟨xa, xc, rfl, h⟩, hl, hn⟩
theorem langV_mk {m : Mem} {w w' : World} {win : Win} {i : Nat} {f : List UInt8 → Bool} {n : Nat} {r : Value} {C : Table} (hm : m.inn w) (hb : Below w.heap.size w w') (hst : statesAt (m.grow w w') r C) (hl : LangIs f C) (hn : C.length ≤ n) :
    LangV f n (m.wins w' (win.put i (w.heap.size, w'.heap.size)) [i]) (.agg #[r]) := langV_of (statesAt_le (Mem.grow_wins0 hm win i hb) hst) hl hn
/-- .. made out of what others made -/
theorem langV_mks {m : Mem} {w w' : World} {win : Win} {i : Nat} {ds : List Nat} {f : List UInt8 → Bool} {n : Nat} {r : Value} {C : Table} (hm : m.inn w) (hd : ∀ d ∈ ds, d ≠ i) (hs : ∀ d ∈ ds, (win d).2 ≤ w.heap.size) (hb : Below w.heap.size w w')
    (hst : statesAt ((m.wins w win ds).grow w w') r C) (hl : LangIs f C) (hn : C.length ≤ n) : LangV f n (m.wins w' (win.put i (w.heap.size, w'.heap.size)) (i :: ds)) (.agg #[r]) :=
  langV_of (statesAt_le (Mem.grow_wins hm win hd hs hb) hst) hl hn
end Cl
namespace Cl
open Go Go.RowKit Go.Proofs Go.WideShapes Go.ChangeShapes Go.Deep Go.Joins

theorem Mem.of_cell {w : World} {b o : Nat} {v : Value} (h : w.cell? ⟨b, o, none⟩ = some v) : (Mem.of w).cell b o = some v := by
  unfold World.cell? at h
  unfold Mem.cell Mem.of
  split at h
  · rename_i hb
    rw [hb]
    simpa using h
  · cases h
theorem list1 {α : Type} {l : List α} (h : l.length = 1) : ∃ a, l = [a] := by
  match l, h with
  | [a], _ => exact ⟨a, rfl⟩
theorem list2 {α : Type} {l : List α} (h : l.length = 2) : ∃ a b, l = [a, b] := by
  match l, h with
  | [a, b], _ => exact ⟨a, b, rfl⟩
theorem list3 {α : Type} {l : List α} (h : l.length = 3) : ∃ a b c, l = [a, b, c] := by
  match l, h with
  | [a, b, c], _ => exact ⟨a, b, c, rfl⟩
theorem array1 {α : Type} {l : Array α} (h : l.size = 1) : ∃ a, l = #[a] := by
  obtain ⟨l⟩ := l
  obtain ⟨a, rfl⟩ := list1 h
  exact ⟨a, rfl⟩
theorem spot_of {w : World} {a : Addr} {v : Value} (h : w.cell? a = some v) : a.spot = none := by
  unfold World.cell? at h
  split at h
  · split at h
    · cases h
    · rename_i hs
      cases hx : a.spot with
      | none => rfl
      | some x => rw [hx] at hs; exact absurd rfl hs
  · cases h
theorem cells_get {w : World} {b o n : Nat} {cs : List Value} (h : w.cells? 0 ⟨b, o, none⟩ n = some cs) {i : Nat} {v : Value} (hi : cs[i]? = some v) : (Mem.of w).cell b (o + i) = some v := by
  obtain ⟨-, h2, h3⟩ := World.cells?_some h
  have hlt : i < n := by rw [← h2]; exact (List.getElem?_eq_some_iff.1 hi).1
  have := h3 i hlt
  rw [hi, Addr.add_lit] at this
  exact Mem.of_cell this

section
variable {H : Type} {enc : TypeId × Value → H} {P : Program} {w : World} {spare : Nat → Bool} {held : Bool}
theorem slice_of_trod {α : Type} [Inhabited α] {t e : TypeId} {size : Nat} (ht : P.underlying t = some (.slice e)) (hc : P.cellsOf e = size) (hpos : 0 < size) (R : Nat → Nat → α → Prop)
    (hR : ∀ (fuel b o : Nat) (cs : List Value) (x : DataW H × List MemPlace), w.cells? 0 ⟨b, o, none⟩ size = some cs → DataW.trod enc P w 0 spare held fuel e cs = some x → ∃ y : α, R b o y)
    {fuel : Nat} {cs : List Value} {x : DataW H × List MemPlace} (h : DataW.trod enc P w 0 spare held fuel t cs = some x) : ∃ v l, cs = [v] ∧ Mem.slice R size v l := by
  rcases open_slice ht h with ⟨rfl, -⟩ | ⟨a, len, cap, m, n, D, Pl, rfl, hb, hl, hm, hmm, rfl, hx⟩
  · exact ⟨_, [], rfl, none, 0, rfl, Nat.le_refl _, Nat.zero_le _, fun h => absurd rfl h⟩
  · have hlm : len ≤ m := by rw [hmm]; split <;> omega
    by_cases h0 : len = 0
    · subst h0
      exact ⟨_, [], rfl, some a, cap, rfl, Nat.zero_le _, hm, fun h => absurd rfl h⟩
    · have hsp : a.spot = none := by
        obtain ⟨cs', h1, -⟩ := hx 0 (by omega)
        obtain ⟨-, h2, h3⟩ := World.cells?_some h1
        rw [hc] at h2 h3
        have := h3 0 hpos
        rw [Nat.zero_mul] at this
        have e : (a.add 0).add 0 = a := by simp [Addr.add]
        rw [e, List.getElem?_eq_getElem (by omega)] at this
        exact spot_of this
      obtain ⟨b, o, sp⟩ := a
      simp only at hsp
      subst hsp
      obtain ⟨f, hf⟩ := choose_lt (α := α) (n := len) (p := fun i y => R b (o + i * size) y) (fun i hi => by
        obtain ⟨cs', h1, h2⟩ := hx i (by omega)
        rw [hc, Addr.add_lit] at h1
        exact hR _ _ _ _ _ h1 h2)
      refine ⟨_, (List.range len).map f, rfl, some ⟨b, o, none⟩, cap, by simp, by simpa using hl, hm, fun _ => ⟨b, o, rfl, fun i hi => ?_⟩⟩
      have hi' : i < len := by simpa using hi
      simpa using hf i hi'
end

instance : Inhabited Ed := ⟨⟨0, 0, 0⟩⟩
instance : Inhabited Sn := ⟨⟨false, []⟩⟩

section
variable {H : Type} {enc : TypeId × Value → H} {w : World} {spare : Nat → Bool} {held : Bool}
theorem u8_wf {n : Int} (h : (Lit.int .u8 n).wf = true) : ∃ k : Nat, n = k ∧ k < 256 := by
  simp only [Lit.wf, Bool.and_eq_true, decide_eq_true_eq] at h
  have e1 : IntKind.min .u8 = 0 := by decide
  have e2 : IntKind.max .u8 = 255 := by decide
  exact ⟨n.toNat, by omega, by omega⟩
theorem i64_wf {n : Int} (h : (Lit.int .i64 n).wf = true) : -9223372036854775808 ≤ n ∧ n ≤ 9223372036854775807 := by
  simp only [Lit.wf, Bool.and_eq_true, decide_eq_true_eq] at h
  have e1 : IntKind.min .i64 = -9223372036854775808 := by decide
  have e2 : IntKind.max .i64 = 9223372036854775807 := by decide
  omega
theorem edge_open (fuel b o : Nat) (cs : List Value) (x : DataW H × List MemPlace) (hc : w.cells? 0 ⟨b, o, none⟩ 3 = some cs) (h : DataW.trod enc Tryd.prog w 0 spare held fuel 51 cs = some x) : ∃ e, edgeAt (Mem.of w) b o e := by
  obtain ⟨y0, y1, y2, n, -, hl, h0, h1, h2⟩ := trod_struct3 Tryd.underlying51 h
  have hl3 : cs.length = 3 := (World.cells?_some hc).2.1
  obtain ⟨c0, c1, c2, rfl⟩ := list3 hl3
  have e8 : Tryd.prog.cellsOf 5 = 1 := by kernel_rfl
  have e64 : Tryd.prog.cellsOf 3 = 1 := by kernel_rfl
  simp [e8, e64] at h0 h1 h2
  obtain ⟨a0, e0, -, w0⟩ := DataW.trod_int Tryd.underlying5 h0
  obtain ⟨a1, e1, -, w1⟩ := DataW.trod_int Tryd.underlying5 h1
  obtain ⟨a2, e2, -, w2⟩ := DataW.trod_int Tryd.underlying3 h2
  obtain ⟨k0, rfl, l0⟩ := u8_wf w0
  obtain ⟨k1, rfl, l1⟩ := u8_wf w1
  cases e0; cases e1; cases e2
  have w2 := i64_wf w2
  exact ⟨⟨k0, k1, a2⟩, cells_get (i := 0) hc rfl, cells_get (i := 1) hc rfl, cells_get (i := 2) hc rfl, l0, l1, w2.1, w2.2⟩
theorem state_open (fuel b o : Nat) (cs : List Value) (x : DataW H × List MemPlace) (hc : w.cells? 0 ⟨b, o, none⟩ 2 = some cs) (h : DataW.trod enc Tryd.prog w 0 spare held fuel 48 cs = some x) : ∃ s, stateAt (Mem.of w) b o s := by
  obtain ⟨y0, y1, n, -, hl, h0, h1⟩ := trod_struct2 Tryd.underlying48 h
  have hl2 : cs.length = 2 := (World.cells?_some hc).2.1
  obtain ⟨c0, c1, rfl⟩ := list2 hl2
  have eb : Tryd.prog.cellsOf 4 = 1 := by kernel_rfl
  have es : Tryd.prog.cellsOf 46 = 1 := by kernel_rfl
  simp [eb, es] at h0 h1
  obtain ⟨a0, e0, -⟩ := DataW.trod_bool Tryd.underlying4 h0
  cases e0
  obtain ⟨v, l, e1, hs⟩ := slice_of_trod Tryd.underlying46 (by kernel_rfl) (by omega) (edgeAt (Mem.of w)) edge_open h1
  cases e1
  exact ⟨⟨a0, l⟩, cells_get (i := 0) hc rfl, c1, cells_get (i := 1) hc rfl, hs⟩
set_option maxRecDepth 100000 in
theorem lang_open {r : Reach} {b0 : Nat} {v : Value} {d : DataW H} {p : List MemPlace} (hv : Value.okWide Tryd.prog w r b0 24 v) (h : DataW.Trod enc Tryd.prog w 0 spare held 24 v d p) :
    ∃ u l, v = .agg #[u] ∧ statesAt (Mem.of w) u l := by
  obtain ⟨cs, rfl, hsz⟩ := okWide_struct Tryd.underlying24 hv
  have e1 : Tryd.prog.cellsOf 24 = 1 := by kernel_rfl
  have hsz1 := hsz.trans e1
  obtain ⟨fuel, hf⟩ := h
  obtain ⟨y0, n, -, -, h0⟩ := trod_struct1 Tryd.underlying24 hf
  obtain ⟨c0, rfl⟩ := array1 hsz1
  have es : Tryd.prog.cellsOf 22 = 1 := by kernel_rfl
  simp [Value.cells, es] at h0
  obtain ⟨u, l, e, hs⟩ := slice_of_trod Tryd.underlying22 (by kernel_rfl) (by omega) (stateAt (Mem.of w)) state_open h0
  cases e
  exact ⟨c0, l, rfl, hs⟩
set_option maxRecDepth 100000 in
theorem string_open {base : Nat} {v : Value} {d : DataW H} {p : List MemPlace} (hv : Value.okWide Tryd.prog w .any base 9 v) (h : DataW.Trod enc Tryd.prog w 0 spare held 9 v d p) :
    ∃ s : ByteArray, v = .string s ∧ d = .lit (.string s.data.toList) ∧ p = [] ∧ s.size ≤ maxLen := Go.ChangeMaps.open_string Tryd.underlying9 hv h
end
end Cl
namespace Cl
open Go Go.RowKit Go.Proofs Go.ChangeShapes Go.WideShapes

theorem seat_own : ownKnob Tryd.prog.godebug = none := by kernel_rfl
theorem seat_laidOut : laidOutB Tryd.prog = true := by kernel_rfl
theorem gTab : Tryd.prog.globalNamed "internal/strconv.uint64pow10" = some 0 := by kernel_rfl
theorem gTabType : (Tryd.prog.globals[0]?).map (·.type) = some 136 := by kernel_rfl
theorem cellsTab : Tryd.prog.cellsOf 136 = 20 := by kernel_rfl
theorem cellsU64 : Tryd.prog.cellsOf 129 = 1 := by kernel_rfl
/-- what every row of this seat lists -/
abbrev seatLaid : List (String × DataW Unit) := [("math/bits.deBruijn32tab", Go.Proofs.YtaolacbikbllcaaDoor.Rows.laid_math_bits_deBruijn32tab), ("math/bits.deBruijn64tab", Go.Proofs.YtaolacbikbllcaaDoor.Rows.laid_math_bits_deBruijn64tab), ("internal/strconv.uint64pow10", Go.Proofs.YtaolacbikbllcaaDoor.Rows.laid_internal_strconv_uint64pow10)]
theorem seat_tab {W : World} (h : laidMetH Tryd.prog seatLaid W) : TabM (Mem.of W) := by
  have h0 : laidMet Tryd.prog seatLaid W := h
  have h1 : Lib.TabIs Tryd.prog W "internal/strconv.uint64pow10" .u64 Lib.pow10Tab :=
    Lib.tabIs_of_head (rest := []) gTab gTabType Tryd.underlying136 Tryd.underlying129 cellsU64 cellsTab h0.tail.tail
  refine ⟨fun w hw => ?_⟩
  unfold Lib.TabIs World.var? at h1 ⊢
  rw [gTab] at h1 ⊢
  simp only [Option.bind_some] at h1 ⊢
  split at h1
  · rename_i cs t f hb
    rw [hw.get 0 _ hb]
    exact h1
  · cases h1

def litCells : DataW Unit → Array Value
  | .agg l => (l.map fun d => match d with
    | .lit (.int k n) => Value.int k n
    | _ => undef).toArray
  | _ => #[]
def layTab (c : Array Value) : Obj → Obj
  | .cells _ t frozen => .cells c t frozen
  | o => o
/-- a world for the witnesses: the settled one, the three tables holding what their initialisers lay -/
noncomputable def laidWorld (os : Os) : World :=
  { World.holding Tryd.prog os ⟨#[], #[], []⟩ with heap := (((World.holding Tryd.prog os ⟨#[], #[], []⟩).heap.modify 0 (layTab (litCells Go.Proofs.YtaolacbikbllcaaDoor.Rows.laid_internal_strconv_uint64pow10))).modify 1 (layTab (litCells Go.Proofs.YtaolacbikbllcaaDoor.Rows.laid_math_bits_deBruijn32tab))).modify 2 (layTab (litCells Go.Proofs.YtaolacbikbllcaaDoor.Rows.laid_math_bits_deBruijn64tab)) }

section
variable {H : Type} {enc : TypeId × Value → H}
theorem trodAll_stays {W W' : World} (hb : Below W.heap.size W W') {sp : Nat → Bool} : ∀ (ts : List TypeId) (vs : List Value) (ds : List (DataW H)) (ps : List MemPlace), (∀ t ∈ ts, Tryd.prog.readableRec t = true ∧ t < Tryd.prog.types.size) →
    (∀ x ∈ ps, x.block < W.heap.size) → (∀ x ∈ ps, sp x.block = true) → DataW.TrodAll enc Tryd.prog W 0 (fun _ => true) true ts vs ds ps → DataW.TrodAll enc Tryd.prog W' 0 sp true ts vs ds ps
  | [], _, _, _, _, _, _, h => by
    obtain ⟨rfl, rfl, rfl⟩ := trodAll_nil h
    exact trodAll_mk0
  | t :: ts, _, _, _, ht, hl, hs, h => by
    obtain ⟨v, vs1, d, ds1, a, b, rfl, rfl, rfl, h1, h2⟩ := trodAll_cons h
    have h0 := ht t (List.mem_cons_self ..)
    exact trodAll_cons_mk (WideElems.Trod_stays seat_laidOut h0.1 h0.2 h1 (fun x hx => hb.same (hl x (List.mem_append_left _ hx))) (fun x hx => hs x (List.mem_append_left _ hx)))
      (trodAll_stays hb ts vs1 ds1 b (fun t ht' => ht t (List.mem_cons_of_mem _ ht')) (fun x hx => hl x (List.mem_append_right _ hx)) (fun x hx => hs x (List.mem_append_right _ hx)) h2)
/-- what a law's call leaves: true, and the arguments as they were -/
theorem law_post {f : Func} {s : ChangeSpec} {W W' : World} {args : Array Value} {ds : List (DataW H)} {before : List MemPlace} (hv : s.vars = []) (hr : f.resultTypes = #[4])
    (ht : (f.params.toList.all fun t => Tryd.prog.readableRec t && decide (t < Tryd.prog.types.size)) = true) (hfn : s.fn H (ds ++ []) = { results := [.lit (.bool true)], args := ds })
    (hW : DataW.Whole enc Tryd.prog f.params.toList s.vars false W args.toList ds [] before) (hb : Below W.heap.size W W') :
    s.post enc Tryd.prog f false true false false W args (.bool true) W' := by
  have hlt := hW.lt
  obtain ⟨p, q, h1, h2, rfl, h3⟩ := id hW
  rw [hv] at h2
  obtain ⟨-, rfl⟩ := trodVars_none h2
  rw [List.append_nil] at hW hlt
  refine ⟨ds, [], p, [], p, [], hW, ?_, ?_, ?_, hb.frame _, fun h => by cases h⟩
  · rw [hfn, hr]
    exact trodAll_cons_mk (shut_bool Tryd.underlying4 _) trodAll_mk0
  · rw [hfn]
    exact trodAll_stays hb _ _ _ _ (fun t h => by have := List.all_eq_true.1 ht t h; simpa using this) hlt (fun x hx => by simpa using hlt x hx) h1
  · rw [hfn, hv]
    rfl
end
end Cl
namespace Cl
open Go Go.RowKit Go.Proofs

/-- a slice of automata -/
def tabsAt (m : Mem) (v : Value) (l : List Table) : Prop := Mem.slice1 (fun b o T => ∃ u, m.cell b o = some u ∧ statesAt m u T) v l

set_option maxRecDepth 100000 in
set_option maxHeartbeats 4000000 in
theorem Cut_any (v v2 : Value) (Ls : List Table) (ps : List Int) (b : Nat) (m : Mem) (w : World) (hm : m.inn w) (hv : tabsAt m v Ls) (hp : intsAt m v2 ps) (hl : Ls.length = ps.length)
    (hr : ∀ i, i < ps.length → -1 ≤ ps.getD i (-1) ∧ ps.getD i (-1) < (Ls.getD i []).length) (hb : b < 256) :
    Calls Tryd.prog 65 #[v, v2, .int .i64 b] w fun e w' => e = .returned (.int .i64 (cutTo Ls ps b Ls.length)) ∧ Below w.heap.size w w' := by
  obtain ⟨la, lc, rfl, h1, h2, h3⟩ := hv
  obtain ⟨pa, pc, rfl, p1, p2, p3⟩ := hp
  unfold maxLen at h2 p2
  have HL := Lib.hid (And.intro hl (And.intro hr hm))
  have hl' : Ls.length ≤ ps.length := by omega
  have H3 := Lib.hid h3
  have P3 := Lib.hid p3
  clear hl hr hm h3 p3
  refine calls_hide fun R hR => ?_
  go_enter Tryd.func65, Tryd.ntmps65
  go_wp2
  refine wp_loop_keep [0, 1, 2, 7, 8] (fun n vs w2 => ∃ (k : Nat), k ≤ Ls.length ∧ n = Ls.length - k ∧ vs = [.slice la Ls.length lc, .slice pa ps.length pc, .int .i64 b, .int .i64 (cutTo Ls ps b k), .int .i64 k] ∧ Below w.heap.size w w2) ?_ ?_
  · exact ⟨_, 0, Nat.zero_le _, rfl, rfl, Below.refl _ _⟩
  rintro X z n vs w2 hX - ⟨k, hk, rfl, rfl, hbw⟩
  simp [litL, lk]
  have hmw := Mem.inn_below HL.out.2.2 hbw
  have HB := Lib.hid hbw
  clear hbw
  have hge := cutTo_le Ls ps b k
  by_cases hlt : k < Ls.length
  · obtain ⟨gb, go, rfl, hg⟩ := H3.out (by intro h; simp [h] at hlt)
    obtain ⟨qb, qo, rfl, hq⟩ := P3.out (by intro h; rw [h] at hl'; simp at hl'; simp [hl'] at hlt)
    obtain ⟨u, g1, ua, uc, rfl, g2, g3, g4⟩ := hg k hlt
    obtain ⟨q1, q2, q3⟩ := hq k (by omega)
    have hrk := HL.out.2.1 k (by omega)
    have eL : Ls.getD k [] = Ls[k] := by simp [hlt]
    have hkp : k < ps.length := by omega
    have eP : ps.getD k (-1) = ps[k] := by simp [hkp]
    have hnx : cutTo Ls ps b (k + 1) = cutE b (edsOf Ls[k] ps[k]) (cutTo Ls ps b k) := by rw [← eL, ← eP]; rfl
    rw [eL, eP] at hrk
    have HN := Lib.hid hnx
    have hgt := cutTo_gt (Ls := Ls) (ps := ps) hb k
    clear hnx eL eP hg hq
    have c1 := Mem.cell_w hmw g1
    have c2 := Mem.cell_w hmw q1
    have c3 := Mem.cell_lt hmw g1
    have c4 := Mem.cell_lt hmw q1
    generalize Ls[k] = T at *
    generalize ps[k] = p at *
    generalize cutTo Ls ps b k = o at *
    by_cases hneg : p < 0
    · have hd : decide (p < 0) = true := decide_eq_true hneg
      have he : cutTo Ls ps b (k + 1) = o := by rw [HN.out, edsOf, if_pos hneg, cutE_nil]
      have HE := Lib.hid he
      clear he g4
      go_wp2
      refine hX.out _ _ _ (by omega) rfl ⟨k + 1, by omega, rfl, by rw [HE.out]; rfl, HB.out⟩
    · obtain ⟨p, rfl⟩ := Int.eq_ofNat_of_zero_le (by omega : 0 ≤ p)
      have hpt : p < T.length := by omega
      obtain ⟨b', off', rfl, h10⟩ := g4 (by intro h; simp [h] at hpt)
      obtain ⟨-, ve, e2, ea, ec, rfl, e4, e5, e6⟩ := h10 p hpt
      have hee : edsOf T (p : Int) = (T[p]).edges := by
        have h0' : ¬ ((p : Int) < 0) := by omega
        simp [edsOf, h0', hpt]
      rw [hee] at HN
      have HN := Lib.hid HN.out
      clear hee h10
      generalize T[p].edges = es at *
      unfold maxLen at e5 g3
      have c5 := Mem.cell_w hmw e2
      have c6 := Mem.cell_lt hmw e2
      have E6 := Lib.hid e6
      clear e6 g4
      go_wp2
      go_quiet (fail)
      go_wp2
      refine wp_loop_keep [0, 1, 2, 7, 8, 9, 10] (fun n vs w3 => ∃ (j : Nat), j ≤ es.length ∧ n = es.length - j ∧ vs = [.slice (some ⟨gb, go, none⟩) Ls.length lc, .slice (some ⟨qb, qo, none⟩) ps.length pc, .int .i64 b, .int .i64 (cutE b (es.take j) o), .int .i64 k, .slice ea es.length ec, .int .i64 j] ∧ Below w.heap.size w w3) ?_ ?_
      · exact ⟨_, 0, Nat.zero_le _, rfl, rfl, below_drewN HB.out _⟩
      clear c1 c2 c3 c4 c5 c6 hmw HB
      rintro Y z1 n1 vs1 w3 hY - ⟨j, hj, rfl, rfl, hb3⟩
      simp [litL, lk]
      have hmw := Mem.inn_below HL.out.2.2 hb3
      have HB := Lib.hid hb3
      clear hb3
      by_cases hltj : j < es.length
      · obtain ⟨eb, eo, rfl, h10⟩ := E6.out (by intro h; simp [h] at hltj)
        obtain ⟨x1, x2, -, x4, x5, -⟩ := h10 j hltj
        have d1 := Mem.cell_w hmw x1
        have d2 := Mem.cell_w hmw x2
        have d3 := Mem.cell_lt hmw x1
        have hs := cutE_take b o hltj
        have ho1 := cutE_le b (es.take j) o
        have ho2 := cutE_gt (es.take j) o hgt
        generalize es[j] = e at *
        generalize cutE b (es.take j) o = o1 at *
        have HSn := Lib.hid hs
        clear hs h10
        by_cases q1 : b < e.lo <;> by_cases q2 : b ≤ e.hi
        all_goals
          have y1 : decide ((b : Int) < (e.lo : Int)) = decide (b < e.lo) := by simp
          simp only [q1, decide_true, decide_false] at y1
          go_wp2
          refine hY.out _ _ _ (by omega) rfl ⟨j + 1, by omega, rfl, ?_, HB.out⟩
          rw [HSn.out]
          simp [cutS, q1, q2]
          try omega
      · obtain rfl : j = es.length := by omega
        clear hj
        go_wp2
        refine hX.out _ _ _ (by omega) rfl ⟨k + 1, by omega, rfl, by rw [HN.out, List.take_length]; rfl, HB.out⟩
  · obtain rfl : k = Ls.length := by omega
    clear hk
    go_wp2
    exact hR.out _ _ ⟨rfl, HB.out⟩
end Cl
namespace Cl
open Go Go.RowKit Go.Proofs

theorem tyPairs2 : SliceTy Tryd.prog 79 78 2 16 := ⟨Tryd.underlying79, by omega, by
  obtain ⟨i, h1, h2, h3, h4⟩ := info_parts (P := Tryd.prog) (e := 78) (z := .agg #[.int .i64 0, .int .i64 0]) (size := 2) (bytes := 16) (by kernel_rfl)
  exact ⟨i, _, h1, h2, h3, h4, rfl⟩⟩
def st0 (l : Table) : Int := if l.length = 0 then -1 else 0
theorem st0_lang {l : Table} (x : List UInt8) : accFrom l (st0 l) x = accFrom l 0 x := by
  unfold st0
  split
  · rename_i h
    rw [List.eq_nil_of_length_eq_zero h, accFrom_nil, accFrom_neg (by omega)]
  · rfl
theorem st0_rng (l : Table) : -1 ≤ st0 l ∧ st0 l < l.length := by
  unfold st0
  split <;> omega
theorem want_ff {op : Nat} {f : Bool → Bool → Bool} (h : op = 38 ∧ f = (fun x y => x && y) ∨ op = 124 ∧ f = (fun x y => x || y) ∨ op = 45 ∧ f = (fun x y => x && !y)) : f false false = false := by
  rcases h with ⟨-, rfl⟩ | ⟨-, rfl⟩ | ⟨-, rfl⟩ <;> rfl

theorem firstIdx_pair2 (l : List (Int × Int)) (x : Int × Int) : firstIdx (fun y => y = x) l 0 = if pairNo l x < l.length then ((pairNo l x : Nat) : Int) else -1 := by
  rw [← firstIdx_pair]
  congr 1
  funext y
  exact propext eq_comm
theorem cut_call {w0 w : World} {m mk : Mem} {L : List Cl.Item} {g1 g2 : Nat} {v v' : Value} {A B : Table} {pa pb : Int} {c : Nat}
    (hO : Own w0 m w mk (.obj g2 3 #[.int .i64 pa, .int .i64 pb] :: .obj g1 24 #[v, v'] :: L)) (hA : statesAt mk v A) (hB : statesAt mk v' B)
    (h1 : -1 ≤ pa) (h2 : pa < A.length) (h3 : -1 ≤ pb) (h4 : pb < B.length) (hc : c < 256) (hlA : A.length ≤ 1000000) (hlB : B.length ≤ 1000000) :
    Calls Tryd.prog 65 #[.slice (some ⟨g1, 0, none⟩) 2 2, .slice (some ⟨g2, 0, none⟩) 2 2, .int .i64 c] w fun e w' => e = .returned (.int .i64 (cutTo [A, B] [pa, pb] c 2)) ∧ Below w.heap.size w w' := by
  have l1 := Mem.le_add (w := w) hO.swap.objFree
  have hS1 := hO.swap.sealObj
  have l2 := Mem.le_add (w := w) hS1.objFree
  have hS2 := hS1.sealObj
  have cA : ((mk.add w g1).add w g2).cell g1 0 = some v := Mem.cell_le l2 (Mem.add_cell hO.swap.obj rfl)
  have cB : ((mk.add w g1).add w g2).cell g1 1 = some v' := Mem.cell_le l2 (Mem.add_cell hO.swap.obj rfl)
  have cp : ((mk.add w g1).add w g2).cell g2 0 = some (.int .i64 pa) := Mem.add_cell hO.obj rfl
  have cq : ((mk.add w g1).add w g2).cell g2 1 = some (.int .i64 pb) := Mem.add_cell hO.obj rfl
  have ll := Mem.le_trans l1 l2
  refine Cut_any (.slice (some ⟨g1, 0, none⟩) 2 2) (.slice (some ⟨g2, 0, none⟩) 2 2) [A, B] [pa, pb] c _ w hS2.inn ?_ ?_ rfl ?_ hc
  · refine ⟨_, 2, rfl, Nat.le_refl _, by simp [maxLen], fun _ => ⟨g1, 0, rfl, fun i hi => ?_⟩⟩
    have : i = 0 ∨ i = 1 := by simp at hi; omega
    rcases this with rfl | rfl
    · exact ⟨v, cA, statesAt_le ll hA⟩
    · exact ⟨v', cB, statesAt_le ll hB⟩
  · refine ⟨_, 2, rfl, Nat.le_refl _, by simp [maxLen], fun _ => ⟨g2, 0, rfl, fun i hi => ?_⟩⟩
    have : i = 0 ∨ i = 1 := by simp at hi; omega
    rcases this with rfl | rfl
    · exact ⟨cp, by simp only [List.getElem_cons_zero]; omega, by simp only [List.getElem_cons_zero]; omega⟩
    · exact ⟨cq, by simp only [List.getElem_cons_succ, List.getElem_cons_zero]; omega, by simp only [List.getElem_cons_succ, List.getElem_cons_zero]; omega⟩
  · intro i hi
    have : i = 0 ∨ i = 1 := by simp at hi; omega
    rcases this with rfl | rfl
    · exact ⟨h1, h2⟩
    · exact ⟨h3, h4⟩
set_option maxRecDepth 100000 in
set_option maxHeartbeats 8000000 in
theorem combine_any (op : Nat) (f : Bool → Bool → Bool) (hw : op = 38 ∧ f = (fun x y => x && y) ∨ op = 124 ∧ f = (fun x y => x || y) ∨ op = 45 ∧ f = (fun x y => x && !y))
    (v0 v1 : Value) (A B : Table) (m : Mem) (w : World) (hm : m.inn w) (hA : statesAt m v0 A) (hB : statesAt m v1 B) (hlen : (A.length + 2) * (B.length + 2) ≤ 1000000) (hlA : A.length ≤ 1000000) (hlB : B.length ≤ 1000000) :
    Calls Tryd.prog 37 #[.agg #[v0], .agg #[v1], .int .u8 op] w fun e w' => ∃ r C, e = .returned (.agg #[r]) ∧ Below w.heap.size w w' ∧ statesAt (m.grow w w') r C ∧
      LangIs (fun x => f (Sem A x) (Sem B x)) C ∧ C.length ≤ (A.length + 2) * (B.length + 2) + 1 := by
  have hO := (((Own.start hm).al #[v0] 24).al #[v1] 24).al #[.slice none 0 0] 24
  have hsz1 : (w.alloc (.cells #[v0] 24)).heap.size = w.heap.size + 1 := by simp
  have hsz2 : ((w.alloc (.cells #[v0] 24)).alloc (.cells #[v1] 24)).heap.size = w.heap.size + 1 + 1 := by simp
  rw [hsz2, hsz1] at hO
  have HO := Lib.hid hO
  have HA := Lib.hid hA
  have HB := Lib.hid hB
  have HW := Lib.hid hw
  clear hO hsz1 hsz2 hw hm
  refine calls_hide fun R hR => ?_
  obtain ⟨va, vc, rfl, -⟩ := hA
  obtain ⟨vb, vd, rfl, -⟩ := hB
  go_enter Tryd.func37, Tryd.ntmps37
  go_wp2
  refine wp_cut_keep [2, 6, 7, 8] (fun vs w' => ∃ (g1 g2 : Nat) (mk : Mem) (xa ya : Option Addr) (xc yc : Nat), vs = [.int .u8 op, .pointer (some ⟨w.heap.size + 1 + 1, 0, none⟩), .pointer (some ⟨g1, 0, none⟩), .pointer (some ⟨g2, 0, none⟩)] ∧
    Own w m w' mk [.obj g2 24 #[.slice ya (goodT B).length yc], .obj g1 24 #[.slice xa (goodT A).length xc], .obj (w.heap.size + 1 + 1) 24 #[.slice none 0 0]] ∧ m.le mk ∧
    statesAt mk (.slice xa (goodT A).length xc) (goodT A) ∧ statesAt mk (.slice ya (goodT B).length yc) (goodT B)) ?_ ?_
  · intro X hX
    refine wp_region_facts 6 6 (fun j => [Fact.is (· = .agg #[.slice va A.length vc]), Fact.mem m [1] (TabV (goodT A)), Fact.is (· = .agg #[.slice vb B.length vd]), Fact.mem m [3] (TabV (goodT B)), Fact.obj 4 24 #[.slice none 0 0], Fact.obj 5 24 #[.slice none 0 0]].getD j Fact.any) (by kernel_rfl) (by kernel_rfl) ?_ ?_
    · intro i hi o win a wr ho RA
      have HO2 := HO.out.dr.move RA.below
      have q1 := HO2.swap.obj.cell (i := 0) rfl
      have q2 := HO2.third.obj.cell (i := 0) rfl
      rcases (show i = 0 ∨ i = 1 ∨ i = 2 ∨ i = 3 ∨ i = 4 ∨ i = 5 by omega) with rfl | rfl | rfl | rfl | rfl | rfl
      · have e3 := RA.keep 3 (by kernel_rfl)
        cases ho
        refine wpOp_of rfl rfl (wp_value (by go_simp; first | done | rfl) ⟨_, rfl, Below.refl _ _, rfl⟩)
      · have e20 : a.tmps.getD 20 undef = .agg #[.slice va A.length vc] := RA.dep 0 _ (by kernel_rfl) rfl
        cases ho
        refine wpOp_of rfl rfl (wp_enter (by go_simp; first | done | rfl) (sound_any (.slice va A.length vc) A m wr HO2.inn HA.out hlA) ?_)
        rintro e w' ⟨r, rfl, hb, hst⟩
        exact ⟨_, rfl, _, rfl, hb, tabV_mk HO2.inn hb hst⟩
      · have e4 := RA.keep 4 (by kernel_rfl)
        cases ho
        refine wpOp_of rfl rfl (wp_value (by go_simp; first | done | rfl) ⟨_, rfl, Below.refl _ _, rfl⟩)
      · have e22 : a.tmps.getD 22 undef = .agg #[.slice vb B.length vd] := RA.dep 2 _ (by kernel_rfl) rfl
        cases ho
        refine wpOp_of rfl rfl (wp_enter (by go_simp; first | done | rfl) (sound_any (.slice vb B.length vd) B m wr HO2.inn HB.out hlB) ?_)
        rintro e w' ⟨r, rfl, hb, hst⟩
        exact ⟨_, rfl, _, rfl, hb, tabV_mk HO2.inn hb hst⟩
      · cases ho
        exact wpOp_of rfl rfl (wp_value (by go_simp; first | done | rfl) ⟨_, rfl, below_al (Below.refl _ _) _, obj_mk win⟩)
      · cases ho
        exact wpOp_of rfl rfl (wp_value (by go_simp; first | done | rfl) ⟨_, rfl, below_al (Below.refl _ _) _, obj_mk win⟩)
    · intro win a wr E
      have e2 := E.keep 2 (by kernel_rfl)
      have e6 := E.keep 6 (by kernel_rfl)
      have e7 : (Fact.obj 4 24 #[.slice none 0 0]).holds (a.tmps.getD 7 undef) win wr := E.fact 4 _ (by omega) rfl
      have e8 : (Fact.obj 5 24 #[.slice none 0 0]).holds (a.tmps.getD 8 undef) win wr := E.fact 5 _ (by omega) rfl
      have e21 : (Fact.mem m [1] (TabV (goodT A))).holds (a.tmps.getD 21 undef) win wr := E.fact 1 _ (by omega) rfl
      have e23 : (Fact.mem m [3] (TabV (goodT B))).holds (a.tmps.getD 23 undef) win wr := E.fact 3 _ (by omega) rfl
      obtain ⟨xa, xc, f1, st1⟩ : TabV _ _ _ := e21
      obtain ⟨ya, yc, f2, st2⟩ : TabV _ _ _ := e23
      obtain ⟨p1, n1, o1⟩ : _ ∧ _ ∧ _ := e7
      obtain ⟨p2, n2, o2⟩ : _ ∧ _ ∧ _ := e8
      have g1 := E.rng 4 (by omega)
      have g2 := E.rng 5 (by omega)
      have far : ∀ j, j = 4 ∨ j = 5 → ∀ d ∈ [1, 3], ¬ ((win d).1 ≤ (win j).1 ∧ (win j).1 < (win d).2) := by
        intro j hj d hd
        have hd' : d = 1 ∨ d = 3 := by simpa using hd
        have := E.apart j d (by omega) (by omega) (by omega)
        have : (win j).2 = (win j).1 + 1 := by rcases hj with rfl | rfl <;> assumption
        omega
      have hO1 := (HO.out.dr.drop2.drop2).region E.below win [1, 3] (fun d hd => (E.rng d (by simp at hd; omega)).1)
      have no : ∀ j, j = 4 ∨ j = 5 → m.wins wr win [1, 3] (win j).1 = none := fun j hj =>
        Mem.wins_none (Mem.none_of_ge HO.out.dr.inn (E.rng j (by omega)).1) (far j hj)
      have hL1 := (HO.out.dr.drop2.drop2).blk_lt g1.1
      have hL2 := (HO.out.dr.drop2.drop2).blk_lt g2.1
      have a12 := E.apart 4 5 (by omega) (by omega) (by omega)
      have hge := HO.out.dr.below.size
      have hO2 := hO1.newObj o1 (by omega) (no 4 (by omega)) hL1
      have hO2 := hO2.newObj o2 (by omega) (no 5 (by omega)) (blk_cons (by omega) hL2)
      have st1 := statesAt_le (Mem.wins_le (es := [1, 3]) hO1.inn0 win (by simp)) st1
      have st2 := statesAt_le (Mem.wins_le (es := [1, 3]) hO1.inn0 win (by simp)) st2
      have hle := Mem.le_wins hO1.inn0 win [1, 3]
      have HK := Lib.hid (And.intro hle (And.intro st1 st2))
      generalize m.wins wr win [1, 3] = mk at *
      generalize (win 4).1 = q1 at *
      generalize (win 5).1 = q2 at *
      have HE := Lib.hid E
      clear st1 st2 hle hL1 hL2 no far hO1 a12 g1 g2 o1 o2 n1 n2 hge E
      have b1 := hO2.swap.obj.frozen 0
      have b2 := hO2.swap.obj.cell (i := 0) rfl
      have b3 := hO2.swap.obj.lt
      have hO3 := hO2.swap.set 0 (.slice xa (goodT A).length xc)
      refine wpAny_one 6 (by kernel_rfl) (wpOp_of rfl rfl (wp_skipped (by go_simp; first | done | rfl) ?_))
      clear b1 b2 b3
      have b1 := hO3.swap.obj.frozen 0
      have b2 := hO3.swap.obj.cell (i := 0) rfl
      have b3 := hO3.swap.obj.lt
      have hO4 := hO3.swap.set 0 (.slice ya (goodT B).length yc)
      refine wpAny_one 7 (by kernel_rfl) (wpOp_of rfl rfl (wp_skipped (by go_simp; first | done | rfl) ?_))
      obtain ⟨t, d⟩ := a
      obtain rfl : d = [] := HE.out.defers
      refine wpAny_none (by kernel_rfl) (hX.out _ _ HE.out.size ⟨q1, q2, mk, xa, ya, xc, yc, ?_, hO4, HK.out.1, HK.out.2⟩) _
      simp only [List.map_cons, List.map_nil, e2, e6, p1, p2]
      rfl
  rintro z vs w1 - ⟨G1, G2, mk, xa, ya, xc, yc, rfl, hO, hmk, hr1, hr2⟩
  simp [litL, lk]
  clear HO HA HB
  have hgA := goodT_canon A
  have hgB := goodT_canon B
  have hgAl := goodT_len A
  have hgBl := goodT_len B
  have hsemA : ∀ x, accFrom (goodT A) 0 x = Sem A x := fun x => by
    unfold goodT Sem
    by_cases h : Canon A
    · simp [tf_true h]
    · simp [tf_false h]; exact accFrom_nil x
  have hsemB : ∀ x, accFrom (goodT B) 0 x = Sem B x := fun x => by
    unfold goodT Sem
    by_cases h : Canon B
    · simp [tf_true h]
    · simp [tf_false h]; exact accFrom_nil x
  have HG := Lib.hid (And.intro hgA (And.intro hgB (And.intro hsemA hsemB)))
  clear hgA hgB hsemA hsemB
  have hmul : ((goodT A).length + 2) * ((goodT B).length + 2) ≤ (A.length + 2) * (B.length + 2) := Nat.mul_le_mul (by omega) (by omega)
  generalize goodT A = A' at *
  generalize goodT B = B' at *
  have HO := Lib.hid hO
  have HR1 := Lib.hid (And.intro hr1 hr2)
  clear hO hr1 hr2
  go_wp2
  refine wp_cut_keep [2, 6, 7, 8, 9] (fun vs w' => ∃ (g3 : Nat), vs = [.int .u8 op, .pointer (some ⟨w.heap.size + 1 + 1, 0, none⟩), .pointer (some ⟨G1, 0, none⟩), .pointer (some ⟨G2, 0, none⟩), .slice (some ⟨g3, 0, none⟩) 1 1] ∧
    Own w m w' mk [.obj g3 78 #[.int .i64 (st0 A'), .int .i64 (st0 B')], .obj G2 24 #[.slice ya B'.length yc], .obj G1 24 #[.slice xa A'.length xc], .obj (w.heap.size + 1 + 1) 24 #[.slice none 0 0]]) ?_ ?_
  · intro X hX
    refine wp_region_facts 7 6 (fun j => [Fact.is (· = .agg #[.slice xa A'.length xc]), Fact.is (· = .int .i64 (st0 A')), Fact.is (· = .agg #[.slice ya B'.length yc]), Fact.is (· = .int .i64 (st0 B')), Fact.is (· = .agg #[.int .i64 (st0 A'), .int .i64 (st0 B')]), Fact.sl 5 78 #[.int .i64 (st0 A'), .int .i64 (st0 B')] 1, Fact.sl 5 78 #[.int .i64 (st0 A'), .int .i64 (st0 B')] 1].getD j Fact.any) (by kernel_rfl) (by kernel_rfl) ?_ ?_
    · intro i hi o win a wr ho RA
      have HO2 := HO.out.dr.move RA.below
      have q1 := HO2.obj.cell (i := 0) rfl
      have q2 := HO2.swap.obj.cell (i := 0) rfl
      rcases (show i = 0 ∨ i = 1 ∨ i = 2 ∨ i = 3 ∨ i = 4 ∨ i = 5 ∨ i = 6 by omega) with rfl | rfl | rfl | rfl | rfl | rfl | rfl
      · have e7 := RA.keep 7 (by kernel_rfl)
        cases ho
        refine wpOp_of rfl rfl (wp_value (by go_simp; first | done | rfl) ⟨_, rfl, Below.refl _ _, rfl⟩)
      · have e24 : a.tmps.getD 24 undef = .agg #[.slice xa A'.length xc] := RA.dep 0 _ (by kernel_rfl) rfl
        cases ho
        refine wpOp_of rfl rfl (wp_enter (by go_simp; first | done | rfl) (start_any (.slice xa A'.length xc) A' mk wr HR1.out.1) ?_)
        rintro e w' ⟨rfl, hb⟩
        exact ⟨_, rfl, _, rfl, hb, rfl⟩
      · have e8 := RA.keep 8 (by kernel_rfl)
        cases ho
        refine wpOp_of rfl rfl (wp_value (by go_simp; first | done | rfl) ⟨_, rfl, Below.refl _ _, rfl⟩)
      · have e26 : a.tmps.getD 26 undef = .agg #[.slice ya B'.length yc] := RA.dep 2 _ (by kernel_rfl) rfl
        cases ho
        refine wpOp_of rfl rfl (wp_enter (by go_simp; first | done | rfl) (start_any (.slice ya B'.length yc) B' mk wr HR1.out.2) ?_)
        rintro e w' ⟨rfl, hb⟩
        exact ⟨_, rfl, _, rfl, hb, rfl⟩
      · have e25 : a.tmps.getD 25 undef = .int .i64 (st0 A') := RA.dep 1 _ (by kernel_rfl) rfl
        have e27 : a.tmps.getD 27 undef = .int .i64 (st0 B') := RA.dep 3 _ (by kernel_rfl) rfl
        have f25 := (Array.getD_eq_getD_getElem? (xs := a.tmps) (i := 25) (d := undef)).symm.trans e25
        have f27 := (Array.getD_eq_getD_getElem? (xs := a.tmps) (i := 27) (d := undef)).symm.trans e27
        cases ho
        refine wpOp_of rfl rfl (wp_value (by go_simp; first | done | rfl) ⟨_, rfl, Below.refl _ _, rfl⟩)
      · have e28 : a.tmps.getD 28 undef = .agg #[.int .i64 (st0 A'), .int .i64 (st0 B')] := RA.dep 4 _ (by kernel_rfl) rfl
        have f28 := (Array.getD_eq_getD_getElem? (xs := a.tmps) (i := 28) (d := undef)).symm.trans e28
        cases ho
        exact wpOp_of rfl rfl (wp_value (by go_simp; first | done | rfl) ⟨_, rfl, below_al (Below.refl _ _) _, sl_mk win⟩)
      · have e29 : (Fact.sl 5 78 #[.int .i64 (st0 A'), .int .i64 (st0 B')] 1).holds (a.tmps.getD 29 undef) win wr := RA.dep 5 _ (by kernel_rfl) rfl
        cases ho
        obtain ⟨f1, f2, f3⟩ : _ ∧ _ ∧ _ := e29
        exact wpOp_of rfl rfl (wp_value (by go_simp; first | done | rfl) ⟨_, rfl, Below.refl _ _, (Fact.sl 5 78 #[.int .i64 (st0 A'), .int .i64 (st0 B')] 1).mono _ win _ wr wr (fun d hd => ⟨(Win.put_ne win _ (by simp [Fact.sl] at hd; omega)).symm, (RA.rng d (by simp [Fact.sl] at hd; subst hd; kernel_rfl)).2.2⟩) (Below.refl _ _) ⟨rfl, f2, f3⟩⟩)
    · intro win a wr E
      have e2 := E.keep 2 (by kernel_rfl)
      have e6 := E.keep 6 (by kernel_rfl)
      have e7 := E.keep 7 (by kernel_rfl)
      have e8 := E.keep 8 (by kernel_rfl)
      have e9 : (Fact.sl 5 78 #[.int .i64 (st0 A'), .int .i64 (st0 B')] 1).holds (a.tmps.getD 9 undef) win wr := E.fact 6 _ (by omega) rfl
      obtain ⟨p1, n1, o1⟩ : _ ∧ _ ∧ _ := e9
      have g1 := E.rng 5 (by omega)
      have hO1 := HO.out.dr.move E.below
      have hge := HO.out.dr.below.size
      have hO2 := hO1.newObj o1 (by omega) (Mem.none_of_ge HO.out.dr.inn g1.1) (HO.out.dr.blk_lt g1.1)
      obtain ⟨t, d⟩ := a
      obtain rfl : d = [] := E.defers
      refine wpAny_none (by kernel_rfl) (hX.out _ _ E.size ⟨(win 5).1, ?_, hO2⟩) _
      simp only [List.map_cons, List.map_nil, e2, e6, e7, e8, p1]
      rfl
  rintro z2 vs w2 - ⟨g3, rfl, hO⟩
  simp [litL, lk]
  clear HO
  have hO2 := (hO.asRow2).nilRow 48 2
  have HO2 := Lib.hid (And.intro hO2 (And.intro (prod_start (A := A') (B := B') (op := f) (st := (st0 A', st0 B')) (by have := st0_rng A'; have := st0_rng B'; simp only; omega)) (And.intro (st0_rng A') (st0_rng B'))))
  clear hO hO2
  go_wp2
  refine wp_loop_keep [2, 6, 7, 8, 9, 10, 11] (fun n vs wr => ∃ (k : Nat) (l : List (Int × Int)) (out : Table) (vl vo : Value) (xs : List Value) (mk' : Mem), n = 1000001 - k ∧
    vs = [.int .u8 op, .pointer (some ⟨w.heap.size + 1 + 1, 0, none⟩), .pointer (some ⟨G1, 0, none⟩), .pointer (some ⟨G2, 0, none⟩), vl, vo, .int .i64 k] ∧
    Own w m wr mk' [.row vo 48 2 k xs, .row vl 78 2 l.length (pairCells l), .obj G2 24 #[.slice ya B'.length yc], .obj G1 24 #[.slice xa A'.length xc], .obj (w.heap.size + 1 + 1) 24 #[.slice none 0 0]] ∧
    StRow mk' xs out ∧ mk.le mk' ∧ ProdInv A' B' f (st0 A', st0 B') l out ∧ out.length = k ∧ (∀ q ∈ l, q.1 < A'.length ∧ q.2 < B'.length)) ?_ ?_
  · refine ⟨_, 0, [(st0 A', st0 B')], [], .slice (some ⟨g3, 0, none⟩) 1 1, .slice none 0 0, [], mk, rfl, rfl, HO2.out.1, StRow.nil _, Mem.le_refl _, HO2.out.2.1, rfl, fun q hq => ?_⟩
    simp only [List.mem_singleton] at hq
    subst hq
    exact ⟨HO2.out.2.2.1.2, HO2.out.2.2.2.2⟩
  clear HO2
  rintro X z3 n vs wr hX - ⟨k, l, out, vl, vo, xs, mk', rfl, rfl, hO, hrow, hmk', hPI, hol, hlr⟩
  simp [litL, lk]
  obtain ⟨vla, vlc, rfl⟩ := row_slice hO.swap.row
  have hpl := pair_bound hPI.nodup hPI.rng
  have hkl := hPI.le
  by_cases hlt : k < l.length
  · obtain ⟨vlb, rfl⟩ := row_some hO.swap.row (by omega)
    have hpc := pairCells_get l k hlt
    have r1 := row_cellw hO.swap.row hpc.1
    have r2 := row_cellw hO.swap.row hpc.2
    have rl := (World.ownsRow.lt hO.swap.row _ rfl).2
    have hlk : l[k]? = some l[k] := by simp [hlt]
    have hrng := hPI.rng l[k] (List.getElem_mem hlt)
    have hrn2 := hlr l[k] (List.getElem_mem hlt)
    have HP := Lib.hid (And.intro hPI (And.intro hol (And.intro hlk hlr)))
    generalize l[k] = p at *
    obtain ⟨pa, pb⟩ := p
    simp only at r1 r2 hrng hrn2
    have hO2 := hO.al #[.int .i64 pa, .int .i64 pb] 78
    have HO2 := Lib.hid hO2
    clear hO2 hO hPI hol hlk hpc hlr
    go_wp2
    generalize hW2 : wr.alloc (.cells #[.int .i64 pa, .int .i64 pb] 78) = w2 at *
    generalize wr.heap.size = P at *
    refine wp_cut_keep [2, 6, 7, 8, 9, 10, 11, 12, 13] (fun vs w' => ∃ S : Nat,
      vs = [.int .u8 op, .pointer (some ⟨w.heap.size + 1 + 1, 0, none⟩), .pointer (some ⟨G1, 0, none⟩), .pointer (some ⟨G2, 0, none⟩), .slice (some ⟨vlb, 0, none⟩) l.length vlc, vo, .int .i64 k, .pointer (some ⟨P, 0, none⟩), .pointer (some ⟨S, 0, none⟩)] ∧
      Own w m w' mk' [.obj S 48 #[.bool (f (accAt A' pa) (accAt B' pb)), .slice none 0 0], .obj P 78 #[.int .i64 pa, .int .i64 pb], .row vo 48 2 k xs, .row (.slice (some ⟨vlb, 0, none⟩) l.length vlc) 78 2 l.length (pairCells l), .obj G2 24 #[.slice ya B'.length yc], .obj G1 24 #[.slice xa A'.length xc], .obj (w.heap.size + 1 + 1) 24 #[.slice none 0 0]]) ?_ ?_
    · intro Y hY
      refine wp_region_facts 12 6 (fun j => [Fact.is (· = .int .u8 op), Fact.is (· = .agg #[.slice xa A'.length xc]), Fact.is (· = .pointer (some ⟨P, 0, none⟩)), Fact.is (· = .int .i64 pa), Fact.is (· = .bool (accAt A' pa)), Fact.is (· = .agg #[.slice ya B'.length yc]), Fact.is (· = .pointer (some ⟨P, 1, none⟩)), Fact.is (· = .int .i64 pb), Fact.is (· = .bool (accAt B' pb)), Fact.is (· = .bool (f (accAt A' pa) (accAt B' pb))), Fact.is (· = .agg #[.bool (f (accAt A' pa) (accAt B' pb)), .slice none 0 0]), Fact.obj 11 48 #[.bool false, .slice none 0 0]].getD j Fact.any) (by kernel_rfl) (by kernel_rfl) ?_ ?_
      · intro i hi o win a wr ho RA
        have HO3 := HO2.out.dr.move RA.below
        have q1 := (HO3.at_obj (g := G1) (t := 24) (arr := #[.slice xa A'.length xc]) (by simp)).cell (i := 0) rfl
        have q2 := (HO3.at_obj (g := G2) (t := 24) (arr := #[.slice ya B'.length yc]) (by simp)).cell (i := 0) rfl
        have q3 := HO3.obj.cell (i := 0) rfl
        have q4 := HO3.obj.cell (i := 1) rfl
        have hin := Mem.inn_le hmk' HO3.inn
        rcases (show i = 0 ∨ i = 1 ∨ i = 2 ∨ i = 3 ∨ i = 4 ∨ i = 5 ∨ i = 6 ∨ i = 7 ∨ i = 8 ∨ i = 9 ∨ i = 10 ∨ i = 11 by omega) with rfl | rfl | rfl | rfl | rfl | rfl | rfl | rfl | rfl | rfl | rfl | rfl
        · have e2 := RA.keep 2 (by kernel_rfl)
          cases ho
          refine wpOp_of rfl rfl (wp_value (by go_simp; first | done | rfl) ⟨_, rfl, Below.refl _ _, rfl⟩)
        · have e7 := RA.keep 7 (by kernel_rfl)
          cases ho
          refine wpOp_of rfl rfl (wp_value (by go_simp; first | done | rfl) ⟨_, rfl, Below.refl _ _, rfl⟩)
        · have e12 := RA.keep 12 (by kernel_rfl)
          cases ho
          refine wpOp_of rfl rfl (wp_value (by go_simp; first | done | rfl) ⟨_, rfl, Below.refl _ _, rfl⟩)
        · have e42 : a.tmps.getD 42 undef = .pointer (some ⟨P, 0, none⟩) := RA.dep 2 _ (by kernel_rfl) rfl
          cases ho
          refine wpOp_of rfl rfl (wp_value (by go_simp; first | done | rfl) ⟨_, rfl, Below.refl _ _, rfl⟩)
        · have e41 : a.tmps.getD 41 undef = .agg #[.slice xa A'.length xc] := RA.dep 1 _ (by kernel_rfl) rfl
          have e43 : a.tmps.getD 43 undef = .int .i64 pa := RA.dep 3 _ (by kernel_rfl) rfl
          cases ho
          refine wpOp_of rfl rfl (wp_enter (by go_simp; first | done | rfl) (r06_accepts_any (.slice xa A'.length xc) A' pa mk wr hin HR1.out.1 (by omega) (by omega)) ?_)
          rintro e w' ⟨rfl, hb⟩
          exact ⟨_, rfl, _, rfl, hb, rfl⟩
        · have e8 := RA.keep 8 (by kernel_rfl)
          cases ho
          refine wpOp_of rfl rfl (wp_value (by go_simp; first | done | rfl) ⟨_, rfl, Below.refl _ _, rfl⟩)
        · have e12 := RA.keep 12 (by kernel_rfl)
          cases ho
          refine wpOp_of rfl rfl (wp_value (by go_simp; first | done | rfl) ⟨_, rfl, Below.refl _ _, rfl⟩)
        · have e46 : a.tmps.getD 46 undef = .pointer (some ⟨P, 1, none⟩) := RA.dep 6 _ (by kernel_rfl) rfl
          cases ho
          refine wpOp_of rfl rfl (wp_value (by go_simp; first | done | rfl) ⟨_, rfl, Below.refl _ _, rfl⟩)
        · have e45 : a.tmps.getD 45 undef = .agg #[.slice ya B'.length yc] := RA.dep 5 _ (by kernel_rfl) rfl
          have e47 : a.tmps.getD 47 undef = .int .i64 pb := RA.dep 7 _ (by kernel_rfl) rfl
          cases ho
          refine wpOp_of rfl rfl (wp_enter (by go_simp; first | done | rfl) (r06_accepts_any (.slice ya B'.length yc) B' pb mk wr hin HR1.out.2 (by omega) (by omega)) ?_)
          rintro e w' ⟨rfl, hb⟩
          exact ⟨_, rfl, _, rfl, hb, rfl⟩
        · have e40 : a.tmps.getD 40 undef = .int .u8 op := RA.dep 0 _ (by kernel_rfl) rfl
          have e44 : a.tmps.getD 44 undef = .bool (accAt A' pa) := RA.dep 4 _ (by kernel_rfl) rfl
          have e48 : a.tmps.getD 48 undef = .bool (accAt B' pb) := RA.dep 8 _ (by kernel_rfl) rfl
          cases ho
          refine wpOp_of rfl rfl (wp_enter (by go_simp; first | done | rfl) (want_any op (accAt A' pa) (accAt B' pb) wr f HW.out) ?_)
          rintro e w' ⟨rfl, hb⟩
          exact ⟨_, rfl, _, rfl, hb, rfl⟩
        · have e49 : a.tmps.getD 49 undef = .bool (f (accAt A' pa) (accAt B' pb)) := RA.dep 9 _ (by kernel_rfl) rfl
          have f49 := (Array.getD_eq_getD_getElem? (xs := a.tmps) (i := 49) (d := undef)).symm.trans e49
          cases ho
          refine wpOp_of rfl rfl (wp_value (by go_simp; first | done | rfl) ⟨_, rfl, Below.refl _ _, rfl⟩)
        · cases ho
          exact wpOp_of rfl rfl (wp_value (by go_simp; first | done | rfl) ⟨_, rfl, below_al (Below.refl _ _) _, obj_mk win⟩)
      · intro win a wr E
        have e2 := E.keep 2 (by kernel_rfl)
        have e6 := E.keep 6 (by kernel_rfl)
        have e7 := E.keep 7 (by kernel_rfl)
        have e8 := E.keep 8 (by kernel_rfl)
        have e9 := E.keep 9 (by kernel_rfl)
        have e10 := E.keep 10 (by kernel_rfl)
        have e11 := E.keep 11 (by kernel_rfl)
        have e12 := E.keep 12 (by kernel_rfl)
        have e13 : (Fact.obj 11 48 #[.bool false, .slice none 0 0]).holds (a.tmps.getD 13 undef) win wr := E.fact 11 _ (by omega) rfl
        have e50 : a.tmps.getD 50 undef = .agg #[.bool (f (accAt A' pa) (accAt B' pb)), .slice none 0 0] := E.fact 10 _ (by omega) rfl
        obtain ⟨p1, n1, o1⟩ : _ ∧ _ ∧ _ := e13
        have g1 := E.rng 11 (by omega)
        have hO1 := HO2.out.dr.move E.below
        have hge := HO2.out.dr.below.size
        have hF := hO1.newObj o1 (by omega) (Mem.none_of_ge HO2.out.dr.inn g1.1) (HO2.out.dr.blk_lt g1.1)
        generalize (win 11).1 = S at *
        have HE := Lib.hid E
        clear E g1 hge o1 n1 hO1
        have b0 := hF.obj.frozen 0
        have b1 := hF.obj.frozen 1
        have b2 := hF.obj.cell (i := 0) rfl
        have b3 := hF.obj.cell (i := 1) rfl
        have b4 := hF.obj.lt
        have hZ := (hF.set 0 (.bool (f (accAt A' pa) (accAt B' pb)))).set 1 (.slice none 0 0)
        refine wpAny_one 12 (by kernel_rfl) (wpOp_of rfl rfl (wp_skipped (by go_simp; first | done | rfl) ?_))
        obtain ⟨t, d⟩ := a
        obtain rfl : d = [] := HE.out.defers
        refine wpAny_none (by kernel_rfl) (hY.out _ _ HE.out.size ⟨S, ?_, hZ⟩) _
        simp only [List.map_cons, List.map_nil, e2, e6, e7, e8, e9, e10, e11, e12, p1]
        rfl
    rintro z4 vs w3 - ⟨S, rfl, hO⟩
    simp [litL, lk]
    have HO := Lib.hid (hO.nilRow 51 3)
    clear hO HO2 hW2
    go_wp2
    refine wp_loop_keep [2, 6, 7, 8, 9, 10, 11, 12, 13, 14] (fun n vs w' => ∃ (c : Nat) (l' : List (Int × Int)) (vl' ve : Value) (es : List Ed), c ≤ 256 ∧ n = 256 - c ∧
      vs = [.int .u8 op, .pointer (some ⟨w.heap.size + 1 + 1, 0, none⟩), .pointer (some ⟨G1, 0, none⟩), .pointer (some ⟨G2, 0, none⟩), vl', vo, .int .i64 k, .pointer (some ⟨P, 0, none⟩), .pointer (some ⟨S, 0, none⟩), .int .i64 c] ∧
      Own w m w' mk' [.row ve 51 3 es.length (edCells es), .obj S 48 #[.bool (f (accAt A' pa) (accAt B' pb)), ve], .obj P 78 #[.int .i64 pa, .int .i64 pb], .row vo 48 2 k xs, .row vl' 78 2 l'.length (pairCells l'), .obj G2 24 #[.slice ya B'.length yc], .obj G1 24 #[.slice xa A'.length xc], .obj (w.heap.size + 1 + 1) 24 #[.slice none 0 0]] ∧
      Cover A' B' (pa, pb) l' es c ∧ ProdInv A' B' f (st0 A', st0 B') l' out ∧ l'[k]? = some (pa, pb) ∧ (∀ q ∈ l', q.1 < A'.length ∧ q.2 < B'.length)) ?_ ?_
    · exact ⟨_, 0, l, .slice (some ⟨vlb, 0, none⟩) l.length vlc, .slice none 0 0, [], by omega, rfl, rfl, HO.out, Cover.start _ _ _ _, HP.out.1, HP.out.2.2.1, HP.out.2.2.2⟩
    clear HO
    rintro Y z5 n vs w6 hY - ⟨c, l', vl', ve, es, hc, rfl, rfl, hO, hcov, hPI, hlk, hlr⟩
    simp [litL, lk]
    obtain ⟨vla2, vlc2, rfl⟩ := row_slice (hO.at_row (v := vl') (t := 78) (size := 2) (n := l'.length) (xs := pairCells l') (by simp))
    obtain ⟨vea, vec, rfl⟩ := row_slice hO.row
    have hpl2 := pair_bound hPI.nodup hPI.rng
    have hok := hcov.ok (by omega)
    have hel := hok.2
    have HC := Lib.hid (And.intro hcov (And.intro hPI (And.intro hlk (And.intro hok.1 hlr))))
    clear hcov hlk hok hPI hlr
    by_cases hlt2 : c < 256
    · have hgt := cutTo_gt (Ls := [A', B']) (ps := [pa, pb]) hlt2 2
      have hle := cutTo_le [A', B'] [pa, pb] c 2
      have HQ := Lib.hid (fun b (h1 : c ≤ b) (h2 : b < cutTo [A', B'] [pa, pb] c 2) => cut2_const (A := A') (B := B') (p := (pa, pb)) h1 h2)
      have q1 := (hO.at_obj (g := G1) (t := 24) (arr := #[.slice xa A'.length xc]) (by simp)).cell (i := 0) rfl
      have q1l := (hO.at_obj (g := G1) (t := 24) (arr := #[.slice xa A'.length xc]) (by simp)).lt
      have q2 := (hO.at_obj (g := G2) (t := 24) (arr := #[.slice ya B'.length yc]) (by simp)).cell (i := 0) rfl
      have q2l := (hO.at_obj (g := G2) (t := 24) (arr := #[.slice ya B'.length yc]) (by simp)).lt
      have q3 := (hO.at_obj (g := P) (t := 78) (arr := #[.int .i64 pa, .int .i64 pb]) (by simp)).cell (i := 0) rfl
      have q4 := (hO.at_obj (g := P) (t := 78) (arr := #[.int .i64 pa, .int .i64 pb]) (by simp)).cell (i := 1) rfl
      have q3l := (hO.at_obj (g := P) (t := 78) (arr := #[.int .i64 pa, .int .i64 pb]) (by simp)).lt
      have hO3 := (hO.al #[.slice xa A'.length xc, .slice ya B'.length yc] 24).al #[.int .i64 pa, .int .i64 pb] 3
      have hsz : (w6.alloc (.cells #[.slice xa A'.length xc, .slice ya B'.length yc] 24)).heap.size = w6.heap.size + 1 := by simp
      rw [hsz] at hO3
      have hOm := hO.move (below_al (below_al (Below.refl _ _) (.cells #[.slice xa A'.length xc, .slice ya B'.length yc] 24)) (.cells #[.int .i64 pa, .int .i64 pb] 3))
      have HCut := Lib.hid (cut_call (v := .slice xa A'.length xc) (v' := .slice ya B'.length yc) hO3 (statesAt_le hmk' HR1.out.1) (statesAt_le hmk' HR1.out.2) (by omega) (by omega) (by omega) (by omega) hlt2 (by omega) (by omega))
      have HO := Lib.hid hOm
      clear hO hO3 hsz hOm
      go_wp2_with fail
      refine HCut.out.mono ?_
      rintro e w7 ⟨rfl, hb7⟩
      have HO := Lib.hid (HO.out.move hb7)
      clear HCut hb7 q1 q1l q2 q2l q3 q4 q3l
      generalize cutTo [A', B'] [pa, pb] c 2 = ed at *
      go_wp2
      refine wp_cut_keep [2, 6, 7, 8, 9, 10, 11, 12, 13, 14, 15, 16] (fun vs w' => ∃ Z : Nat, vs = [.int .u8 op, .pointer (some ⟨w.heap.size + 1 + 1, 0, none⟩), .pointer (some ⟨G1, 0, none⟩), .pointer (some ⟨G2, 0, none⟩), .slice vla2 l'.length vlc2, vo, .int .i64 k, .pointer (some ⟨P, 0, none⟩), .pointer (some ⟨S, 0, none⟩), .int .i64 c, .int .i64 ed, .pointer (some ⟨Z, 0, none⟩)] ∧
        Own w m w' mk' [.obj Z 78 #[.int .i64 (tstep A' pa c), .int .i64 (tstep B' pb c)], .row (.slice vea es.length vec) 51 3 es.length (edCells es), .obj S 48 #[.bool (f (accAt A' pa) (accAt B' pb)), .slice vea es.length vec], .obj P 78 #[.int .i64 pa, .int .i64 pb], .row vo 48 2 k xs, .row (.slice vla2 l'.length vlc2) 78 2 l'.length (pairCells l'), .obj G2 24 #[.slice ya B'.length yc], .obj G1 24 #[.slice xa A'.length xc], .obj (w.heap.size + 1 + 1) 24 #[.slice none 0 0]]) ?_ ?_
      · intro V hV
        refine wp_region_facts 12 6 (fun j => [Fact.is (· = .agg #[.slice xa A'.length xc]), Fact.is (· = .pointer (some ⟨P, 0, none⟩)), Fact.is (· = .int .i64 pa), Fact.is (· = .int .i64 c), Fact.is (· = .int .i64 (tstep A' pa c)), Fact.is (· = .agg #[.slice ya B'.length yc]), Fact.is (· = .pointer (some ⟨P, 1, none⟩)), Fact.is (· = .int .i64 pb), Fact.is (· = .int .i64 c), Fact.is (· = .int .i64 (tstep B' pb c)), Fact.is (· = .agg #[.int .i64 (tstep A' pa c), .int .i64 (tstep B' pb c)]), Fact.obj 11 78 #[.int .i64 0, .int .i64 0]].getD j Fact.any) (by kernel_rfl) (by kernel_rfl) ?_ ?_
        · intro i hi o win a wr ho RA
          have HO3 := HO.out.dr.move RA.below
          have q1 := (HO3.at_obj (g := G1) (t := 24) (arr := #[.slice xa A'.length xc]) (by simp)).cell (i := 0) rfl
          have q2 := (HO3.at_obj (g := G2) (t := 24) (arr := #[.slice ya B'.length yc]) (by simp)).cell (i := 0) rfl
          have q3 := (HO3.at_obj (g := P) (t := 78) (arr := #[.int .i64 pa, .int .i64 pb]) (by simp)).cell (i := 0) rfl
          have q4 := (HO3.at_obj (g := P) (t := 78) (arr := #[.int .i64 pa, .int .i64 pb]) (by simp)).cell (i := 1) rfl
          have hin := Mem.inn_le hmk' HO3.inn
          rcases (show i = 0 ∨ i = 1 ∨ i = 2 ∨ i = 3 ∨ i = 4 ∨ i = 5 ∨ i = 6 ∨ i = 7 ∨ i = 8 ∨ i = 9 ∨ i = 10 ∨ i = 11 by omega) with rfl | rfl | rfl | rfl | rfl | rfl | rfl | rfl | rfl | rfl | rfl | rfl
          · have e7 := RA.keep 7 (by kernel_rfl)
            cases ho
            refine wpOp_of rfl rfl (wp_value (by go_simp; first | done | rfl) ⟨_, rfl, Below.refl _ _, rfl⟩)
          · have e12 := RA.keep 12 (by kernel_rfl)
            cases ho
            refine wpOp_of rfl rfl (wp_value (by go_simp; first | done | rfl) ⟨_, rfl, Below.refl _ _, rfl⟩)
          · have e64 : a.tmps.getD 64 undef = .pointer (some ⟨P, 0, none⟩) := RA.dep 1 _ (by kernel_rfl) rfl
            cases ho
            refine wpOp_of rfl rfl (wp_value (by go_simp; first | done | rfl) ⟨_, rfl, Below.refl _ _, rfl⟩)
          · have e14 := RA.keep 14 (by kernel_rfl)
            cases ho
            refine wpOp_of rfl rfl (wp_value (by go_simp; first | done | rfl) ⟨_, rfl, Below.refl _ _, rfl⟩)
          · have e63 : a.tmps.getD 63 undef = .agg #[.slice xa A'.length xc] := RA.dep 0 _ (by kernel_rfl) rfl
            have e65 : a.tmps.getD 65 undef = .int .i64 pa := RA.dep 2 _ (by kernel_rfl) rfl
            have e66 : a.tmps.getD 66 undef = .int .i64 c := RA.dep 3 _ (by kernel_rfl) rfl
            cases ho
            refine wpOp_of rfl rfl (wp_enter (by go_simp; first | done | rfl) (next_any (.slice xa A'.length xc) A' pa c mk wr hin HR1.out.1 (by omega) (by omega)) ?_)
            rintro e w' ⟨rfl, hb⟩
            exact ⟨_, rfl, _, rfl, hb, rfl⟩
          · have e8 := RA.keep 8 (by kernel_rfl)
            cases ho
            refine wpOp_of rfl rfl (wp_value (by go_simp; first | done | rfl) ⟨_, rfl, Below.refl _ _, rfl⟩)
          · have e12 := RA.keep 12 (by kernel_rfl)
            cases ho
            refine wpOp_of rfl rfl (wp_value (by go_simp; first | done | rfl) ⟨_, rfl, Below.refl _ _, rfl⟩)
          · have e69 : a.tmps.getD 69 undef = .pointer (some ⟨P, 1, none⟩) := RA.dep 6 _ (by kernel_rfl) rfl
            cases ho
            refine wpOp_of rfl rfl (wp_value (by go_simp; first | done | rfl) ⟨_, rfl, Below.refl _ _, rfl⟩)
          · have e14 := RA.keep 14 (by kernel_rfl)
            cases ho
            refine wpOp_of rfl rfl (wp_value (by go_simp; first | done | rfl) ⟨_, rfl, Below.refl _ _, rfl⟩)
          · have e68 : a.tmps.getD 68 undef = .agg #[.slice ya B'.length yc] := RA.dep 5 _ (by kernel_rfl) rfl
            have e70 : a.tmps.getD 70 undef = .int .i64 pb := RA.dep 7 _ (by kernel_rfl) rfl
            have e71 : a.tmps.getD 71 undef = .int .i64 c := RA.dep 8 _ (by kernel_rfl) rfl
            cases ho
            refine wpOp_of rfl rfl (wp_enter (by go_simp; first | done | rfl) (next_any (.slice ya B'.length yc) B' pb c mk wr hin HR1.out.2 (by omega) (by omega)) ?_)
            rintro e w' ⟨rfl, hb⟩
            exact ⟨_, rfl, _, rfl, hb, rfl⟩
          · have e67 : a.tmps.getD 67 undef = .int .i64 (tstep A' pa c) := RA.dep 4 _ (by kernel_rfl) rfl
            have e72 : a.tmps.getD 72 undef = .int .i64 (tstep B' pb c) := RA.dep 9 _ (by kernel_rfl) rfl
            have f72 := (Array.getD_eq_getD_getElem? (xs := a.tmps) (i := 72) (d := undef)).symm.trans e72
            have f67 := (Array.getD_eq_getD_getElem? (xs := a.tmps) (i := 67) (d := undef)).symm.trans e67
            cases ho
            refine wpOp_of rfl rfl (wp_value (by go_simp; first | done | rfl) ⟨_, rfl, Below.refl _ _, rfl⟩)
          · cases ho
            exact wpOp_of rfl rfl (wp_value (by go_simp; first | done | rfl) ⟨_, rfl, below_al (Below.refl _ _) _, obj_mk win⟩)
        · intro win a wr E
          have e2 := E.keep 2 (by kernel_rfl)
          have e6 := E.keep 6 (by kernel_rfl)
          have e7 := E.keep 7 (by kernel_rfl)
          have e8 := E.keep 8 (by kernel_rfl)
          have e9 := E.keep 9 (by kernel_rfl)
          have e10 := E.keep 10 (by kernel_rfl)
          have e11 := E.keep 11 (by kernel_rfl)
          have e12 := E.keep 12 (by kernel_rfl)
          have e13 := E.keep 13 (by kernel_rfl)
          have e14 := E.keep 14 (by kernel_rfl)
          have e15 := E.keep 15 (by kernel_rfl)
          have e16 : (Fact.obj 11 78 #[.int .i64 0, .int .i64 0]).holds (a.tmps.getD 16 undef) win wr := E.fact 11 _ (by omega) rfl
          have e73 : a.tmps.getD 73 undef = .agg #[.int .i64 (tstep A' pa c), .int .i64 (tstep B' pb c)] := E.fact 10 _ (by omega) rfl
          obtain ⟨p1, n1, o1⟩ : _ ∧ _ ∧ _ := e16
          have g1 := E.rng 11 (by omega)
          have hO1 := HO.out.dr.move E.below
          have hge := HO.out.dr.below.size
          have hF := hO1.newObj o1 (by omega) (Mem.none_of_ge HO.out.dr.inn g1.1) (HO.out.dr.blk_lt g1.1)
          generalize (win 11).1 = Z at *
          have HE := Lib.hid E
          clear E g1 hge o1 n1 hO1
          have b0 := hF.obj.frozen 0
          have b1 := hF.obj.frozen 1
          have b2 := hF.obj.cell (i := 0) rfl
          have b3 := hF.obj.cell (i := 1) rfl
          have b4 := hF.obj.lt
          have hZ := (hF.set 0 (.int .i64 (tstep A' pa c))).set 1 (.int .i64 (tstep B' pb c))
          refine wpAny_one 12 (by kernel_rfl) (wpOp_of rfl rfl (wp_skipped (by go_simp; first | done | rfl) ?_))
          obtain ⟨t, d⟩ := a
          obtain rfl : d = [] := HE.out.defers
          refine wpAny_none (by kernel_rfl) (hV.out _ _ HE.out.size ⟨Z, ?_, hZ⟩) _
          simp only [List.map_cons, List.map_nil, e2, e6, e7, e8, e9, e10, e11, e12, e13, e14, e15, p1]
          rfl
      rintro z6 vs w8 - ⟨Z, rfl, hO⟩
      simp [litL, lk]
      clear HO
      have hrA := tstep_range HG.out.1.wf pa c
      have hrB := tstep_range HG.out.2.1.wf pb c
      have hps : pstep A' B' (pa, pb) c = (tstep A' pa c, tstep B' pb c) := rfl
      obtain ⟨qa, hqa⟩ : ∃ x, tstep A' pa c = x := ⟨_, rfl⟩
      obtain ⟨qb, hqb⟩ : ∃ x, tstep B' pb c = x := ⟨_, rfl⟩
      rw [hqa, hqb] at hps
      rw [hqa] at hrA
      rw [hqb] at hrB
      rw [hqa, hqb] at hO
      have hPI2 := HC.out.2.1.add (q := (qa, qb)) (by simp only; omega)
      have hpk : ∀ q ∈ l', pairOk q := fun q hq => by
        have := HC.out.2.1.rng q hq
        exact ⟨by omega, by omega, by omega, by omega⟩
      have hgt2 := pairAdd_get l' (qa, qb)
      have hpre := pairAdd_pre l' (qa, qb)
      have hcs := (HC.out.1.mono hpre).seg (h := ed - 1) (t := pairNo l' (qa, qb)) (by omega) (by omega) (by rw [hps]; exact hgt2) (fun b h1 h2 => HQ.out b h1 (by omega))
      have hlk2 : (pairAdd l' (qa, qb))[k]? = some (pa, pb) := by
        obtain ⟨x, hx⟩ := hpre
        rw [← hx, List.getElem?_append_left (List.getElem?_eq_some_iff.1 HC.out.2.2.1).1]; exact HC.out.2.2.1
      have hlr2 : ∀ q ∈ pairAdd l' (qa, qb), q.1 < A'.length ∧ q.2 < B'.length := fun q hq => by
        unfold pairAdd at hq
        split at hq
        · exact HC.out.2.2.2.2 q hq
        · rcases List.mem_append.1 hq with h | h
          · exact HC.out.2.2.2.2 q h
          · simp only [List.mem_singleton] at h
            subst h
            simp only
            omega
      have hpno := pairNo_le l' (qa, qb)
      have HK2 := Lib.hid (And.intro hcs (And.intro hPI2 (And.intro hlk2 hlr2)))
      have hq := hO.pull (l₁ := [_, _, _, _, _])
      have HPl := Lib.hid (place_any (.slice vla2 l'.length vlc2) l' (qa, qb) _ w8 hq.sealRow.inn (pairsAt_of_row hq.row hpk))
      have b0 := hO.obj.cell (i := 0) rfl
      have b1 := hO.obj.cell (i := 1) rfl
      have b2 := hO.obj.lt
      have HO := Lib.hid hO
      clear hO hq hpk hcs hPI2 hlk2 hlr2 hgt2 hpre hrA hrB hps HQ
      go_wp2_with fail
      refine HPl.out.mono ?_
      rintro e w9 ⟨rfl, hb9⟩
      rw [firstIdx_pair2]
      have HO := Lib.hid (HO.out.move hb9)
      clear HPl hb9 b0 b1 b2
      obtain ⟨bq, hbq⟩ : ∃ b, decide (pairNo l' (qa, qb) < l'.length) = b := ⟨_, rfl⟩
      have hto : (if pairNo l' (qa, qb) < l'.length then ((pairNo l' (qa, qb) : Nat) : Int) else -1) = if bq = true then ((pairNo l' (qa, qb) : Nat) : Int) else -1 := by rw [← hbq]; simp
      rw [hto]
      have HBQ := Lib.hid hbq
      clear hto hbq
      obtain ⟨vv, hvv⟩ : ∃ v : Int, (if bq = true then ((pairNo l' (qa, qb) : Nat) : Int) else -1) = v := ⟨_, rfl⟩
      rw [hvv]
      have HVV := Lib.hid hvv
      clear hvv
      go_upto_if 78 with (fail)
      refine wp_cut_keep [2, 6, 7, 8, 9, 10, 11, 12, 13, 14, 15, 17] (fun vs w' => ∃ vl2 : Value, vs = [.int .u8 op, .pointer (some ⟨w.heap.size + 1 + 1, 0, none⟩), .pointer (some ⟨G1, 0, none⟩), .pointer (some ⟨G2, 0, none⟩), vl2, vo, .int .i64 k, .pointer (some ⟨P, 0, none⟩), .pointer (some ⟨S, 0, none⟩), .int .i64 c, .int .i64 ed, .int .i64 (pairNo l' (qa, qb))] ∧
        Own w m w' mk' [.row (.slice vea es.length vec) 51 3 es.length (edCells es), .obj S 48 #[.bool (f (accAt A' pa) (accAt B' pb)), .slice vea es.length vec], .obj P 78 #[.int .i64 pa, .int .i64 pb], .row vo 48 2 k xs, .row vl2 78 2 (pairAdd l' (qa, qb)).length (pairCells (pairAdd l' (qa, qb))), .obj G2 24 #[.slice ya B'.length yc], .obj G1 24 #[.slice xa A'.length xc], .obj (w.heap.size + 1 + 1) 24 #[.slice none 0 0]]) ?_ ?_
      · intro V hV
        cases bq with
        | true =>
          have hvv : ((pairNo l' (qa, qb) : Nat) : Int) = vv := HVV.out
          have hlt3 : pairNo l' (qa, qb) < l'.length := of_decide_eq_true HBQ.out
          have he : pairAdd l' (qa, qb) = l' := by unfold pairAdd; rw [if_pos hlt3]
          have hng : ¬ vv < 0 := by omega
          have hd : decide (vv < 0) = false := decide_eq_false hng
          have HE := Lib.hid (And.intro he hvv)
          clear he hvv
          go_wp2
          refine hV.out _ _ rfl ⟨.slice vla2 l'.length vlc2, ?_, ?_⟩
          · rw [HE.out.2]; rfl
          · rw [HE.out.1]; exact HO.out.tail
        | false =>
          have hvv : -1 = vv := HVV.out
          have hlt3 : ¬ pairNo l' (qa, qb) < l'.length := of_decide_eq_false HBQ.out
          have he : pairAdd l' (qa, qb) = l' ++ [(qa, qb)] := by unfold pairAdd; rw [if_neg hlt3]
          have hn : pairNo l' (qa, qb) = l'.length := by omega
          have hng : vv < 0 := by omega
          have hd : decide (vv < 0) = true := decide_eq_true hng
          have HE := Lib.hid (And.intro he hn)
          have hO2 := HO.out.al #[.int .i64 qa, .int .i64 qb] 78
          have hnews := hO2.obj.news rfl
          have b0 := HO.out.obj.cell (i := 0) rfl
          have b1 := HO.out.obj.cell (i := 1) rfl
          have b2 := HO.out.obj.lt
          have hO3 := hO2.pull (l₁ := [_, _, _, _, _, _])
          have hvr := hO3.row
          have HO3 := Lib.hid hO3
          clear he hn hvv hlt3 hO2 hO3
          go_wp2_with (at_builtin; refine wpList_append_row tyPairs2 rfl (.tmp 81) (.tmp 83) rfl (.slice vla2 l'.length vlc2) l'.length (pairCells l') rfl hvr ⟨w9.heap.size, 0, none⟩ 1 1 [.int .i64 qa, .int .i64 qb] rfl rfl hnews (by simp [Value.oneCell']) (by unfold maxLen; omega) (by omega) ?_)
          intro xa' xc' w10 hown7 hgrow7 hrow7
          have hO5 := ((HO3.out.app hown7 hgrow7 hrow7 (by simp)).unpull (l₁ := [_, _, _, _, _, _])).tail.tail
          have HO5 := Lib.hid hO5
          clear hown7 hgrow7 hrow7 hO5 hvr hnews b0 b1 b2 HO3
          go_wp2
          refine hV.out _ _ rfl ⟨.slice xa' (l'.length + 1) xc', ?_, ?_⟩
          · rw [HE.out.2]; rfl
          · rw [HE.out.1]
            have := HO5.out
            simpa [pairCells_append] using this
      rintro z7 vs w10 - ⟨vl2, rfl, hO⟩
      simp [litL, lk]
      clear HO HVV HBQ
      obtain ⟨vla3, vlc3, rfl⟩ := row_slice (hO.at_row (v := vl2) (t := 78) (size := 2) (n := (pairAdd l' (qa, qb)).length) (xs := pairCells (pairAdd l' (qa, qb))) (by simp))
      generalize pairNo l' (qa, qb) = t at *
      generalize pairAdd l' (qa, qb) = l2 at *
      have hwu : IntKind.u8.wrap (c : Int) = (c : Int) := IntWalk.u8_in _ (by omega)
      have hwv : IntKind.u8.wrap ((ed : Int) - 1) = (ed : Int) - 1 := IntWalk.u8_in _ (by omega)
      have s1 := hO.swap.obj.cell (i := 1) rfl
      have s2 := hO.swap.obj.lt
      have s3 := hO.swap.obj.frozen 1
      have hO2 := hO.al #[.int .u8 c, .int .u8 ((ed : Int) - 1), .int .i64 t] 51
      have hnews := hO2.obj.news rfl
      have hvr := hO2.swap.row
      have HO2 := Lib.hid hO2.swap
      clear hO hO2
      go_wp2_with (at_builtin; refine wpList_append_row tyEdges rfl (.tmp 86) (.tmp 94) rfl (.slice vea es.length vec) es.length (edCells es) rfl hvr ⟨w10.heap.size, 0, none⟩ 1 1 [.int .u8 c, .int .u8 ((ed : Int) - 1), .int .i64 t] rfl rfl hnews (by simp [Value.oneCell']) (by unfold maxLen; omega) (by omega) ?_)
      intro na' nc' w11 hown7 hgrow7 hrow7
      have hO3 := (HO2.out.app hown7 hgrow7 hrow7 (by simp)).drop2
      have s1 := hO3.swap.obj.cell (i := 1) rfl
      have s2 := hO3.swap.obj.lt
      have s3 := hO3.swap.obj.frozen 1
      have hO4 := (hO3.swap.set 1 (.slice na' (es.length + 1) nc')).swap
      have HO4 := Lib.hid hO4
      clear hown7 hgrow7 hrow7 hO3 hO4 hvr hnews HO2
      go_wp2
      have hed : (((ed - 1 : Nat) : Int)) = (ed : Int) - 1 := by omega
      refine hY.out _ _ _ (by omega) rfl ⟨ed, l2, .slice vla3 l2.length vlc3, .slice na' (es.length + 1) nc', es ++ [⟨c, ed - 1, t⟩], by omega, rfl, ?_, ?_, ?_, HK2.out.2.1, HK2.out.2.2.1, HK2.out.2.2.2⟩
      · rfl
      · have := HO4.out
        rw [← hed] at this
        simpa [edCells_append] using this
      · have := HK2.out.1
        rwa [show ed - 1 + 1 = ed by omega] at this
    · obtain rfl : c = 256 := by omega
      have hPIn := HC.out.2.1.push (p := (pa, pb)) (by rw [HP.out.2.1]; exact HC.out.2.2.1) HC.out.1
      have hes := edgesAt_of_row (l := es) (m := mk') hO.row HC.out.2.2.2.1
      have hmk2 := Mem.le_addv (w := w6) hO.free
      have hrow2 := (hrow.mono hmk2).push (s := ⟨(f (accAt A' pa) (accAt B' pb)), es⟩) hes
      have hO2 := hO.sealRow
      have s0 := hO2.obj.cell (i := 0) rfl
      have s1 := hO2.obj.cell (i := 1) rfl
      have sl := hO2.obj.lt
      obtain ⟨voa, voc, rfl⟩ := row_slice (hO2.at_row (v := vo) (t := 48) (size := 2) (n := k) (xs := xs) (by simp))
      have hO3 := hO2.al #[.bool (f (accAt A' pa) (accAt B' pb)), .slice vea es.length vec] 48
      have hO4 := hO3.pull (l₁ := [_, _, _])
      have hvr := hO4.row
      have hnews := hO3.obj.news rfl
      have Hk := Lib.hid (And.intro hrow2 (And.intro (Mem.le_trans hmk' hmk2) (And.intro hPIn HC.out.2.2.2.2)))
      clear hrow2 hes hmk2 hO2 hO hPIn hO3
      generalize mk'.addv w6 (.slice vea es.length vec) = mk2 at *
      go_wp2_with (at_builtin; refine wpList_append_row tyStates rfl (.tmp 98) (.tmp 100) rfl (.slice voa k voc) k xs rfl hvr ⟨w6.heap.size, 0, none⟩ 1 1 [.bool (f (accAt A' pa) (accAt B' pb)), .slice vea es.length vec] rfl rfl hnews (by simp [Value.oneCell']) (by unfold maxLen; omega) (by omega) ?_)
      intro xa' xc' w7 hown7 hgrow7 hrow7
      have hO5 := (hO4.app hown7 hgrow7 hrow7 (by simp)).drop2.drop2.drop2
      have HO5 := Lib.hid hO5
      clear hown7 hgrow7 hrow7 hO4 hO5 hvr hnews
      go_wp2
      refine hX.out _ _ _ (by omega) rfl ⟨k + 1, l', out ++ [⟨(f (accAt A' pa) (accAt B' pb)), es⟩], .slice vla2 l'.length vlc2, .slice xa' (k + 1) xc', _, mk2, rfl, rfl, HO5.out, Hk.out.1, Hk.out.2.1, Hk.out.2.2.1, ?_, Hk.out.2.2.2⟩
      rw [List.length_append, HP.out.2.1]; rfl
  · have hkl2 : k = l.length := by omega
    have hdone := hPI.done (want_ff HW.out) (by omega)
    obtain ⟨voa, voc, rfl⟩ := row_slice hO.row
    have hst := statesAt_of_row (l := out) (m := mk') (by rw [hol]; exact hO.row) hrow hO.free
    have hO2 := hO.sealRow
    have HM := Lib.hid (r05Minimal_any (.slice voa k voc) out _ wr hO2.inn hst (by omega))
    have HO2 := Lib.hid hO2
    have HD := Lib.hid (And.intro hdone hol)
    clear hO2 hst hO hdone hol hPI hrow hkl2 hlr
    go_wp2_with fail
    refine HM.out.mono ?_
    rintro e w2 ⟨r, C, rfl, hb2, hst, hClen, hmin, hnot⟩
    have hwf := HD.out.1.1
    rw [tf_true hwf]
    obtain ⟨ra, rc, rfl⟩ : ∃ ra rc, r = .slice ra C.length rc := by obtain ⟨x, y, e, -⟩ := hst; exact ⟨x, y, e⟩
    have hO3 := HO2.out.call hb2
    have hO4 := (hO3.pull (l₁ := [_, _, _])).al #[.slice ra C.length rc] 24
    have g1 := hO4.swap.obj.cell (i := 0) rfl
    have g2 := hO4.swap.obj.frozen 0
    have g3 := hO4.swap.obj.lt
    have hO5 := hO4.swap.set 0 (.slice ra C.length rc)
    have g4 := hO5.obj.cell (i := 0) rfl
    have hfin := statesAt_le hO5.done hst
    have Hk := Lib.hid (And.intro hO5.below (And.intro hfin (And.intro (hmin hwf) hClen)))
    clear hO5 hO4 hO3 hfin hmin hnot hst hClen HO2 hwf
    go_wp2
    refine bodyPost_ret (v := .agg #[.slice ra C.length rc]) (by simp [results, Tryd.results37, go_sem, g4]) rfl ?_
    refine hR.out _ _ ⟨_, C, rfl, Hk.out.1, Hk.out.2.1, ⟨Hk.out.2.2.1.canon, fun x => ?_⟩, ?_⟩
    · rw [Hk.out.2.2.1.lang, HD.out.1.2.2.2.2]
      rw [st0_lang, st0_lang, HG.out.2.2.1, HG.out.2.2.2]
    · have h1 := Hk.out.2.2.2
      have h2 := HD.out.2
      omega
end Cl
namespace Cl
open Go Go.RowKit Go.Proofs

set_option maxRecDepth 100000 in
set_option maxHeartbeats 2000000 in
theorem r06And_any (v0 v1 : Value) (A B : Table) (m : Mem) (w : World) (hm : m.inn w) (hA : statesAt m v0 A) (hB : statesAt m v1 B) (hF : Fits A B) :
    Calls Tryd.prog 14 #[.agg #[v0], .agg #[v1]] w fun e w' => ∃ r C, e = .returned (.agg #[r]) ∧ Below w.heap.size w w' ∧ statesAt (m.grow w w') r C ∧
      LangIs (fun x => Sem A x && Sem B x) C ∧ C.length ≤ (A.length + 2) * (B.length + 2) + 1 := by
  have hO := (((Own.start hm).al #[v0] 24).al #[v1] 24).al #[.slice none 0 0] 24
  have hsz1 : (w.alloc (.cells #[v0] 24)).heap.size = w.heap.size + 1 := by simp
  have hsz2 : ((w.alloc (.cells #[v0] 24)).alloc (.cells #[v1] 24)).heap.size = w.heap.size + 2 := by simp
  rw [hsz2, hsz1] at hO
  have HP := Lib.hid (combine_any 38 (fun x y => x && y) (by simp) v0 v1 A B m _ hO.inn hA hB hF.mul hF.a hF.b)
  have HO := Lib.hid hO
  obtain ⟨va, vc, rfl, -⟩ := hA
  obtain ⟨vb, vd, rfl, -⟩ := hB
  clear hO hsz1 hsz2
  refine calls_hide fun R hR => ?_
  go_enter Tryd.func14, Tryd.ntmps14
  go_wp2_with fail
  refine HP.out.mono ?_
  rintro e w1 ⟨r, C, rfl, hb1, hst, hlang, hClen⟩
  have hO1 := HO.out.call hb1
  obtain ⟨ra, rc, rfl⟩ : ∃ ra rc, r = .slice ra C.length rc := by obtain ⟨x, y, e, -⟩ := hst; exact ⟨x, y, e⟩
  have g1 := hO1.obj.cell (i := 0) rfl
  have g2 := hO1.obj.frozen 0
  have g3 := hO1.obj.lt
  have hO2 := hO1.set 0 (.slice ra C.length rc)
  have g4 := hO2.obj.cell (i := 0) rfl
  have Hk := Lib.hid (And.intro hO2.below (And.intro (statesAt_le hO2.done hst) (And.intro hlang hClen)))
  clear hO2 hO1 hst hlang hClen HP HO hb1
  go_wp2
  refine bodyPost_ret (v := .agg #[.slice ra C.length rc]) (by simp [results, Tryd.results14, go_sem, g4]) rfl ?_
  exact hR.out _ _ ⟨_, C, rfl, Hk.out.1, Hk.out.2.1, Hk.out.2.2.1, Hk.out.2.2.2⟩
set_option maxRecDepth 100000 in
set_option maxHeartbeats 2000000 in
theorem r06Or_any (v0 v1 : Value) (A B : Table) (m : Mem) (w : World) (hm : m.inn w) (hA : statesAt m v0 A) (hB : statesAt m v1 B) (hF : Fits A B) :
    Calls Tryd.prog 16 #[.agg #[v0], .agg #[v1]] w fun e w' => ∃ r C, e = .returned (.agg #[r]) ∧ Below w.heap.size w w' ∧ statesAt (m.grow w w') r C ∧
      LangIs (fun x => Sem A x || Sem B x) C ∧ C.length ≤ (A.length + 2) * (B.length + 2) + 1 := by
  have hO := (((Own.start hm).al #[v0] 24).al #[v1] 24).al #[.slice none 0 0] 24
  have hsz1 : (w.alloc (.cells #[v0] 24)).heap.size = w.heap.size + 1 := by simp
  have hsz2 : ((w.alloc (.cells #[v0] 24)).alloc (.cells #[v1] 24)).heap.size = w.heap.size + 2 := by simp
  rw [hsz2, hsz1] at hO
  have HP := Lib.hid (combine_any 124 (fun x y => x || y) (by simp) v0 v1 A B m _ hO.inn hA hB hF.mul hF.a hF.b)
  have HO := Lib.hid hO
  obtain ⟨va, vc, rfl, -⟩ := hA
  obtain ⟨vb, vd, rfl, -⟩ := hB
  clear hO hsz1 hsz2
  refine calls_hide fun R hR => ?_
  go_enter Tryd.func16, Tryd.ntmps16
  go_wp2_with fail
  refine HP.out.mono ?_
  rintro e w1 ⟨r, C, rfl, hb1, hst, hlang, hClen⟩
  have hO1 := HO.out.call hb1
  obtain ⟨ra, rc, rfl⟩ : ∃ ra rc, r = .slice ra C.length rc := by obtain ⟨x, y, e, -⟩ := hst; exact ⟨x, y, e⟩
  have g1 := hO1.obj.cell (i := 0) rfl
  have g2 := hO1.obj.frozen 0
  have g3 := hO1.obj.lt
  have hO2 := hO1.set 0 (.slice ra C.length rc)
  have g4 := hO2.obj.cell (i := 0) rfl
  have Hk := Lib.hid (And.intro hO2.below (And.intro (statesAt_le hO2.done hst) (And.intro hlang hClen)))
  clear hO2 hO1 hst hlang hClen HP HO hb1
  go_wp2
  refine bodyPost_ret (v := .agg #[.slice ra C.length rc]) (by simp [results, Tryd.results16, go_sem, g4]) rfl ?_
  exact hR.out _ _ ⟨_, C, rfl, Hk.out.1, Hk.out.2.1, Hk.out.2.2.1, Hk.out.2.2.2⟩
end Cl

/- Lemmas for the proofs: Facts, Open, Seat, WalkCA. -/
import Derived.WalkKit
import Derived.OrdersHeld
import Derived.Deep.RegionHeld
import Derived.Test.YtaolacbikbllcaaGreatDoorProg
import Derived.Deep.Slices
import Derived.Lib.SmallJoins
import Derived.ChangeMaps5
import Derived.Carry
import Derived.KernelRfl
import Derived.Test.YtaolacbikbllcaaGreatDoorCards
import Derived.Test.YtaolacbikbllcaaGreatDoorTie
import Derived.ProofKit
import Derived.OpenShut
import Derived.Deep.DeepHandedRow
import Derived.Lib.LaidTab
import Derived.Stop.LaidErr
import Derived.RegionTactic
import Derived.ChangeAlike
import Derived.Test.YtaolacbikbllcaaGreatDoorPkA2
import Derived.Test.YtaolacbikbllcaaGreatDoorPkA9
import Derived.Test.YtaolacbikbllcaaGreatDoorPkA1
import Derived.Test.YtaolacbikbllcaaGreatDoorPkA3
import Derived.Test.YtaolacbikbllcaaGreatDoorPkA5
namespace Cl
open Go Go.RowKit

/-- the blocks that an operation made: from .1 on, below .2 -/
abbrev Win := Nat → Nat × Nat
def Win.put (win : Win) (i : Nat) (x : Nat × Nat) : Win := fun j => if j = i then x else win j
theorem Win.put_same (win : Win) (i : Nat) (x : Nat × Nat) : win.put i x i = x := by simp [Win.put]
theorem Win.put_ne (win : Win) {i j : Nat} (x : Nat × Nat) (h : j ≠ i) : win.put i x j = win j := by simp [Win.put, h]

/-- WHAT IS KNOWN ONCE AN OPERATION HAS RUN, of its value, of the blocks that it and those that it waits for made, of the world: it stays true while nothing old turns. -/
structure Fact where
  deps : List Nat
  holds : Value → Win → World → Prop
  mono : ∀ (v : Value) (win win' : Win) (w w' : World), (∀ d ∈ deps, win d = win' d ∧ (win d).2 ≤ w.heap.size) → Below w.heap.size w w' → holds v win w → holds v win' w'

def Fact.any : Fact := ⟨[], fun _ _ _ => True, fun _ _ _ _ _ _ _ _ => trivial⟩
/-- the value is known -/
def Fact.is (p : Value → Prop) : Fact := ⟨[], fun v _ _ => p v, fun _ _ _ _ _ _ _ h => h⟩
/-- an object of its own -/
def Fact.obj (j : Nat) (t : TypeId) (arr : Array Value) : Fact := ⟨[j], fun v win w => v = .pointer (some ⟨(win j).1, 0, none⟩) ∧ (win j).2 = (win j).1 + 1 ∧ ObjAt w (win j).1 t arr, fun v win win' w w' hd hb ⟨h1, h2, h3⟩ => by
  obtain ⟨e, hl⟩ := hd j (List.mem_singleton.2 rfl)
  rw [← e]
  exact ⟨h1, h2, ObjAt.below h3 hb h3.lt⟩⟩
/-- a slice over a row of its own -/
def Fact.sl (j : Nat) (t : TypeId) (arr : Array Value) (n : Nat) : Fact := ⟨[j], fun v win w => v = .slice (some ⟨(win j).1, 0, none⟩) n n ∧ (win j).2 = (win j).1 + 1 ∧ ObjAt w (win j).1 t arr, fun v win win' w w' hd hb ⟨h1, h2, h3⟩ => by
  obtain ⟨e, hl⟩ := hd j (List.mem_singleton.2 rfl)
  rw [← e]
  exact ⟨h1, h2, ObjAt.below h3 hb h3.lt⟩⟩
/-- m, and the blocks of some operations -/
def Mem.wins (m : Mem) (w : World) (win : Win) (ds : List Nat) : Mem := fun k => if ds.any (fun d => decide ((win d).1 ≤ k ∧ k < (win d).2)) = true then w.heap[k]? else m k
theorem Mem.wins_eq {m : Mem} {w w' : World} {win win' : Win} {ds : List Nat} (hd : ∀ d ∈ ds, win d = win' d ∧ (win d).2 ≤ w.heap.size) (hb : Below w.heap.size w w') : m.wins w win ds = m.wins w' win' ds := by
  funext k
  unfold Mem.wins
  have e : (ds.any fun d => decide ((win d).1 ≤ k ∧ k < (win d).2)) = ds.any fun d => decide ((win' d).1 ≤ k ∧ k < (win' d).2) := by
    rw [Bool.eq_iff_iff, List.any_eq_true, List.any_eq_true]
    constructor
    · rintro ⟨d, h1, h2⟩; exact ⟨d, h1, by rw [← (hd d h1).1]; exact h2⟩
    · rintro ⟨d, h1, h2⟩; exact ⟨d, h1, by rw [(hd d h1).1]; exact h2⟩
  rw [← e]
  split
  · rename_i h
    obtain ⟨d, h1, h2⟩ := List.any_eq_true.1 h
    have := (hd d h1).2
    simp only [decide_eq_true_eq] at h2
    exact (hb.block k (by omega)).symm
  · rfl
theorem Mem.wins_inn {m : Mem} {w : World} (h : m.inn w) (win : Win) (ds : List Nat) : (m.wins w win ds).inn w := ⟨fun k o hk => by
  unfold Mem.wins at hk
  split at hk
  · exact hk
  · exact h.get k o hk⟩
theorem Mem.le_wins {m : Mem} {w : World} (h : m.inn w) (win : Win) (ds : List Nat) : m.le (m.wins w win ds) := ⟨fun k o hk => by
  unfold Mem.wins
  split
  · exact h.get k o hk
  · exact hk⟩
theorem Mem.wins_le {m : Mem} {w : World} (h : m.inn w) (win : Win) {ds es : List Nat} (hs : ∀ d ∈ ds, d ∈ es) : (m.wins w win ds).le (m.wins w win es) := ⟨fun k o hk => by
  have hi := (Mem.wins_inn h win ds).get k o hk
  unfold Mem.wins at hk ⊢
  split
  · exact hi
  · rename_i hne
    split at hk
    · rename_i hx
      obtain ⟨d, h1, h2⟩ := List.any_eq_true.1 hx
      exact absurd (List.any_eq_true.2 ⟨d, hs d h1, h2⟩) hne
    · exact hk⟩
theorem Mem.wins_none {m : Mem} {w : World} {win : Win} {ds : List Nat} {k : Nat} (h : m k = none) (hd : ∀ d ∈ ds, ¬ ((win d).1 ≤ k ∧ k < (win d).2)) : m.wins w win ds k = none := by
  unfold Mem.wins
  rw [if_neg]
  · exact h
  · intro hx
    obtain ⟨d, h1, h2⟩ := List.any_eq_true.1 hx
    exact hd d h1 (by simpa using h2)
/-- what a call made, in the words of windows -/
theorem Mem.grow_wins {m : Mem} {w w' : World} (h : m.inn w) (win : Win) {ds : List Nat} {i : Nat} (hd : ∀ d ∈ ds, d ≠ i) (hs : ∀ d ∈ ds, (win d).2 ≤ w.heap.size) (hb : Below w.heap.size w w') :
    ((m.wins w win ds).grow w w').le (m.wins w' (win.put i (w.heap.size, w'.heap.size)) (i :: ds)) := ⟨fun k o hk => by
  have e : m.wins w win ds = m.wins w' (win.put i (w.heap.size, w'.heap.size)) ds := Mem.wins_eq (fun d hd' => ⟨(Win.put_ne win _ (hd d hd')).symm, hs d hd'⟩) hb
  unfold Mem.grow at hk
  split at hk
  · rw [e] at hk
    exact (Mem.wins_le (Mem.inn_below h hb) _ (fun d h => List.mem_cons_of_mem _ h)).get k o hk
  · have hlt := (Array.getElem?_eq_some_iff.1 hk).1
    unfold Mem.wins
    rw [if_pos]
    · exact hk
    · refine List.any_eq_true.2 ⟨i, List.mem_cons_self .., ?_⟩
      rw [Win.put_same]
      simp only [decide_eq_true_eq]
      omega⟩
theorem Mem.grow_wins0 {m : Mem} {w w' : World} (h : m.inn w) (win : Win) (i : Nat) (hb : Below w.heap.size w w') : (m.grow w w').le (m.wins w' (win.put i (w.heap.size, w'.heap.size)) [i]) := by
  have := Mem.grow_wins (ds := []) h win (i := i) (by simp) (by simp) hb
  have e : m.wins w win [] = m := by funext k; simp [Mem.wins]
  rwa [e] at this
/-- a fact of memory: m and what some operations made -/
def Fact.mem (m : Mem) (ds : List Nat) (R : Mem → Value → Prop) : Fact := ⟨ds, fun v win w => R (m.wins w win ds) v, fun v win win' w w' hd hb h => by
  rw [← Mem.wins_eq hd hb]; exact h⟩

def dstV (a : Act) (o : Oper) : Value := match o.dst with
  | some s => a.tmps.getD s undef
  | none => undef

section
variable {P : Program} {ops : Array Oper} {Q : Exit → Act → World → Prop}

/-- how far a region has come -/
structure Reg (ops : Array Oper) (t0 : Array Value) (w1 : World) (F : Nat → Fact) (don : Nat → Bool) (win : Win) (a : Act) (w : World) : Prop where
  size : a.tmps.size = t0.size
  defers : a.defers = []
  below : Below w1.heap.size w1 w
  keep : ∀ s, (∀ j o, ops[j]? = some o → don j = true → o.dst ≠ some s) → a.tmps.getD s undef = t0.getD s undef
  fact : ∀ j o, ops[j]? = some o → don j = true → (F j).holds (dstV a o) win w
  rng : ∀ j, don j = true → w1.heap.size ≤ (win j).1 ∧ (win j).1 ≤ (win j).2 ∧ (win j).2 ≤ w.heap.size
  apart : ∀ j k, don j = true → don k = true → j ≠ k → (win j).2 ≤ (win k).1 ∨ (win k).2 ≤ (win j).1

/-- no early operation writes slot s -/
def notDst (ops : Array Oper) (n0 s : Nat) : Bool := (List.range n0).all fun i => ((ops[i]?).map fun o => !(o.dst == some s)).getD true
theorem notDst_spec {n0 s : Nat} (h : notDst ops n0 s = true) {j : Nat} {o : Oper} (ho : ops[j]? = some o) (hj : j < n0) : o.dst ≠ some s := by
  have := List.all_eq_true.1 h j (List.mem_range.2 hj)
  rw [ho] at this
  simpa using this

/-- what an operation finds -/
structure RegAt (ops : Array Oper) (n0 fu : Nat) (t0 : Array Value) (w1 : World) (F : Nat → Fact) (i : Nat) (win : Win) (a : Act) (w : World) : Prop where
  size : a.tmps.size = t0.size
  defers : a.defers = []
  below : Below w1.heap.size w1 w
  keep : ∀ s, notDst ops n0 s = true → a.tmps.getD s undef = t0.getD s undef
  dep : ∀ j o, waitsT ops fu i j = true → ops[j]? = some o → (F j).holds (dstV a o) win w
  rng : ∀ j, waitsT ops fu i j = true → w1.heap.size ≤ (win j).1 ∧ (win j).1 ≤ (win j).2 ∧ (win j).2 ≤ w.heap.size
/-- .. and what it leaves -/
def RegK (F : Nat → Fact) (i : Nat) (o : Oper) (win : Win) (a : Act) (w : World) (a' : Act) (w' : World) : Prop :=
  ∃ v, a' = a.put o.dst v ∧ Below w.heap.size w w' ∧ (F i).holds v (win.put i (w.heap.size, w'.heap.size)) w'
/-- what stands when all early operations have run -/
structure RegEnd (ops : Array Oper) (n0 : Nat) (t0 : Array Value) (w1 : World) (F : Nat → Fact) (win : Win) (a : Act) (w : World) : Prop where
  size : a.tmps.size = t0.size
  defers : a.defers = []
  below : Below w1.heap.size w1 w
  keep : ∀ s, notDst ops n0 s = true → a.tmps.getD s undef = t0.getD s undef
  fact : ∀ j o, j < n0 → ops[j]? = some o → (F j).holds (dstV a o) win w
  rng : ∀ j, j < n0 → w1.heap.size ≤ (win j).1 ∧ (win j).1 ≤ (win j).2 ∧ (win j).2 ≤ w.heap.size
  apart : ∀ j k, j < n0 → k < n0 → j ≠ k → (win j).2 ≤ (win k).1 ∨ (win k).2 ≤ (win j).1

def regOk (ops : Array Oper) (n0 fu nt : Nat) (deps : Nat → List Nat) : Bool :=
  decide (n0 ≤ ops.size) &&
  (List.range n0).all (fun i => ((ops[i]?).map fun o => o.after.all fun e => !Region.binds .any e || decide (e.on < i)).getD false) &&
  (List.range ops.size).all (fun i => decide (i < n0) || (List.range n0).all fun j => waitsT ops fu i j) &&
  (List.range n0).all (fun i => ((ops[i]?).map fun o => match o.dst with
    | some s => decide (s < nt) && (List.range i).all fun j => ((ops[j]?).map fun o' => !(o'.dst == some s)).getD true
    | none => false).getD false) &&
  (List.range n0).all (fun j => (deps j).all fun d => d == j || waitsT ops fu j d)
structure RegOk (ops : Array Oper) (n0 fu nt : Nat) (deps : Nat → List Nat) : Prop where
  le : n0 ≤ ops.size
  back : ∀ i o, i < n0 → ops[i]? = some o → ∀ e ∈ o.after, Region.binds .any e = true → e.on < i
  late : ∀ i, i < ops.size → n0 ≤ i → ∀ j, j < n0 → waitsT ops fu i j = true
  dst : ∀ i o, i < n0 → ops[i]? = some o → ∃ s, o.dst = some s ∧ s < nt ∧ ∀ j o', j < n0 → ops[j]? = some o' → j ≠ i → o'.dst ≠ some s
  dep : ∀ j, j < n0 → ∀ d ∈ deps j, d = j ∨ waitsT ops fu j d = true
theorem regOk_spec {n0 fu nt : Nat} {deps : Nat → List Nat} (h : regOk ops n0 fu nt deps = true) : RegOk ops n0 fu nt deps := by
  simp only [regOk, Bool.and_eq_true, decide_eq_true_eq] at h
  obtain ⟨⟨⟨⟨h1, h2⟩, h3⟩, h4⟩, h5⟩ := h
  have d1 : ∀ i o, i < n0 → ops[i]? = some o → ∃ s, o.dst = some s ∧ s < nt ∧ ∀ j o', j < i → ops[j]? = some o' → o'.dst ≠ some s := by
    intro i o hi ho
    have := List.all_eq_true.1 h4 i (List.mem_range.2 hi)
    rw [ho] at this
    simp only [Option.map_some, Option.getD_some] at this
    split at this
    · rename_i s hs
      rw [Bool.and_eq_true, decide_eq_true_eq] at this
      refine ⟨s, hs, this.1, fun j o' hj ho' => ?_⟩
      have := List.all_eq_true.1 this.2 j (List.mem_range.2 hj)
      rw [ho'] at this
      simpa using this
    · cases this
  refine ⟨h1, ?_, ?_, ?_, ?_⟩
  · intro i o hi ho e he hb
    have := List.all_eq_true.1 h2 i (List.mem_range.2 hi)
    rw [ho] at this
    simp only [Option.map_some, Option.getD_some] at this
    have := Array.all_eq_true_iff_forall_mem.1 this e he
    simpa [hb] using this
  · intro i hi hn j hj
    have := List.all_eq_true.1 h3 i (List.mem_range.2 hi)
    simp only [Bool.or_eq_true, decide_eq_true_eq] at this
    exact List.all_eq_true.1 (this.resolve_left (by omega)) j (List.mem_range.2 hj)
  · intro i o hi ho
    obtain ⟨s, hs, hlt, hall⟩ := d1 i o hi ho
    refine ⟨s, hs, hlt, fun j o' hj ho' hne e => ?_⟩
    rcases Nat.lt_or_ge j i with hlt' | hge
    · exact hall j o' hlt' ho' e
    · obtain ⟨s', hs', -, hall'⟩ := d1 j o' hj ho'
      have : s' = s := Option.some.inj (hs'.symm.trans e)
      subst this
      exact hall' i o (by omega) ho hs
  · intro j hj d hd
    have := List.all_eq_true.1 (List.all_eq_true.1 h5 j (List.mem_range.2 hj)) d hd
    simpa using this

theorem filter_less {p q : Nat → Bool} (h : ∀ x, q x = true → p x = true) {i : Nat} (hp : p i = true) (hq : q i = false) : ∀ l : List Nat, i ∈ l → (l.filter q).length < (l.filter p).length
  | [], hi => by cases hi
  | x :: l, hi => by
    have hle : (l.filter q).length ≤ (l.filter p).length := by
      clear hi
      induction l with
      | nil => simp
      | cons y l ih =>
        simp only [List.filter_cons]
        cases hy : q y with
        | true => simp [h y hy, ih]
        | false =>
          cases p y with
          | true => simp; omega
          | false => simpa using ih
    rcases List.mem_cons.1 hi with e | hm
    · subst e
      simp only [List.filter_cons, hp, hq, if_true]
      simp
      omega
    · have ih := filter_less h hp hq l hm
      simp only [List.filter_cons]
      cases hy : q x with
      | true => simp [h x hy, ih]
      | false =>
        cases p x with
        | true => simp; omega
        | false => simpa using ih
theorem least_of {p : Nat → Bool} : ∀ n, (∃ j, j < n ∧ p j = true) → ∃ j, j < n ∧ p j = true ∧ ∀ k, k < j → p k = false
  | 0, ⟨_, h, _⟩ => by omega
  | n + 1, ⟨j, h, hp⟩ => by
    by_cases hx : ∃ j, j < n ∧ p j = true
    · obtain ⟨j, h1, h2, h3⟩ := least_of n hx
      exact ⟨j, by omega, h2, h3⟩
    · refine ⟨j, h, hp, fun k hk => ?_⟩
      cases hpk : p k with
      | false => rfl
      | true => exact absurd ⟨k, by omega, hpk⟩ hx

theorem wpAny_more : ∀ (fuel more : Nat) (listed : Array Bool) (a : Act) (w : World), fuel ≤ more → wpAny P .any ops Q fuel listed a w → wpAny P .any ops Q more listed a w
  | 0, more, listed, a, w, _, h => by
    cases more with
    | zero => exact h
    | succ m => exact ⟨fun _ => h.2, fun i hi => by rw [h.1] at hi; cases hi⟩
  | fuel + 1, more, listed, a, w, hl, h => by
    cases more with
    | zero => omega
    | succ m => exact ⟨h.1, fun i hi => wpOp_mono (fun a' w' h' => wpAny_more fuel m _ a' w' (by omega) h') (h.2 i hi)⟩

/-- the first n0 have run -/
def maskL (n n0 : Nat) : Array Bool := ((List.range n).map fun i => decide (i < n0)).toArray

theorem getD_set_self {l : Array Bool} {i : Nat} (h : i < l.size) (d : Bool) : (l.setIfInBounds i true).getD i d = true := by simp [h]
theorem getD_tf {l : Array Bool} {i : Nat} (h : i < l.size) : l.getD i true = l.getD i false := by simp [h]

theorem maskL_of {n n0 : Nat} {listed : Array Bool} (hsz : listed.size = n) (hearly : ∀ j, listed.getD j false = true → j < n0) (hall : ∀ j, j < n0 → listed.getD j false = true) : listed = maskL n n0 := by
  apply Array.ext
  · simp [maskL, hsz]
  · intro i h1 h2
    simp only [maskL, List.getElem_toArray, List.getElem_map, List.getElem_range]
    have h3 : listed.getD i false = listed[i] := by simp [h1]
    rw [← h3]
    by_cases hi : i < n0
    · rw [hall i hi]; simp [hi]
    · cases hx : listed.getD i false with
      | true => exact absurd (hearly i hx) hi
      | false => simp [hi]
def ClosedF (ops : Array Oper) (listed : Array Bool) : Prop :=
  ∀ k ok, ops[k]? = some ok → listed.getD k false = true → ∀ e ∈ ok.after, Region.binds .any e = true → listed.getD e.on false = true
theorem waits_closed {listed : Array Bool} (hc : ClosedF ops listed) {i : Nat} : ∀ (n j : Nat), listed.getD j false = true → waitsT ops n j i = true → listed.getD i false = true := by
  intro n
  induction n with
  | zero => intro j _ h; cases h
  | succ n ih =>
    intro j hj h
    unfold waitsT at h
    cases ho : ops[j]? with
    | none => rw [ho] at h; cases h
    | some o =>
      rw [ho] at h
      simp only [Option.map_some, Option.getD_some, Array.any_eq_true', Bool.and_eq_true, Bool.or_eq_true, beq_iff_eq] at h
      obtain ⟨e, he, hb, h1⟩ := h
      have h2 := hc j o ho hj e he hb
      rcases h1 with h1 | h1
      · rw [← h1]; exact h2
      · exact ih e.on h2 h1
theorem ready_waits {listed : Array Bool} (hc : ClosedF ops listed) {i j n : Nat} (hr : i ∈ Region.ready .any ops listed) (hw : waitsT ops n i j = true) : listed.getD j false = true := by
  obtain ⟨hun, o, ho, hdeps⟩ := mem_ready.1 hr
  cases n with
  | zero => cases hw
  | succ n =>
    unfold waitsT at hw
    rw [ho] at hw
    simp only [Option.map_some, Option.getD_some, Array.any_eq_true', Bool.and_eq_true, Bool.or_eq_true, beq_iff_eq] at hw
    obtain ⟨e, he, hb, h1⟩ := hw
    have h2 := hdeps e he hb
    rcases h1 with h1 | h1
    · rw [← h1]; exact h2
    · exact waits_closed hc n e.on h2 h1
theorem getD_setF {l : Array Bool} {i j : Nat} : (l.setIfInBounds i true).getD j false = true ↔ l.getD j false = true ∨ (j = i ∧ i < l.size) := by
  simp only [Array.getD_eq_getD_getElem?, Array.getElem?_setIfInBounds]
  by_cases e : i = j
  · subst e
    by_cases h : i < l.size
    · simp [h]
    · simp [h]
  · rw [if_neg e]
    constructor
    · exact .inl
    · rintro (h | ⟨h, -⟩)
      · exact h
      · exact absurd h.symm e
theorem putD {a : Act} {s : Nat} {v : Value} {t : Nat} : (a.put (some s) v).tmps.getD t undef = if t = s ∧ s < a.tmps.size then v else a.tmps.getD t undef := by
  simp only [Act.put, Array.getD_eq_getD_getElem?, Array.getElem?_setIfInBounds]
  by_cases e : s = t
  · subst e
    by_cases h : s < a.tmps.size
    · simp [h]
    · simp [h]
  · rw [if_neg e, if_neg (fun h => e h.1.symm)]

theorem region_go {n0 fu : Nat} {t0 : Array Value} {w1 : World} {F : Nat → Fact} (H : RegOk ops n0 fu t0.size (fun j => (F j).deps))
    (hstep : ∀ i, i < n0 → ∀ o win a w, ops[i]? = some o → RegAt ops n0 fu t0 w1 F i win a w → wpOp P ops Q i (RegK F i o win a w) a w)
    (hend : ∀ win a w, RegEnd ops n0 t0 w1 F win a w → wpAny P .any ops Q (ops.size - n0) (maskL ops.size n0) a w) :
    ∀ (fuel : Nat) (listed : Array Bool) (win : Win) (a : Act) (w : World), listed.size = ops.size → (∀ j, listed.getD j false = true → j < n0) → ClosedF ops listed →
      ((List.range n0).filter fun j => !listed.getD j false).length + (ops.size - n0) ≤ fuel → Reg ops t0 w1 F (fun j => listed.getD j false) win a w → wpAny P .any ops Q fuel listed a w := by
  intro fuel
  induction fuel with
  | zero =>
    intro listed win a w hsz hearly hcl hfu hR
    have hall : ∀ j, j < n0 → listed.getD j false = true := fun j hj => by
      cases hx : listed.getD j false with
      | true => rfl
      | false =>
        have : j ∈ (List.range n0).filter fun j => !listed.getD j false := List.mem_filter.2 ⟨List.mem_range.2 hj, by rw [hx]; rfl⟩
        have := List.length_pos_of_mem this
        omega
    have := hend win a w ⟨hR.size, hR.defers, hR.below, fun s hs => hR.keep s fun j o ho hd => notDst_spec hs ho (hearly j hd), fun j o hj ho => hR.fact j o ho (hall j hj), fun j hj => hR.rng j (hall j hj), fun j k hj hk hne => hR.apart j k (hall j hj) (hall k hk) hne⟩
    rw [maskL_of hsz hearly hall]
    exact wpAny_more _ _ _ _ _ (by omega) this
  | succ fuel ih =>
    intro listed win a w hsz hearly hcl hfu hR
    by_cases hall : ∀ j, j < n0 → listed.getD j false = true
    · have := hend win a w ⟨hR.size, hR.defers, hR.below, fun s hs => hR.keep s fun j o ho hd => notDst_spec hs ho (hearly j hd), fun j o hj ho => hR.fact j o ho (hall j hj), fun j hj => hR.rng j (hall j hj), fun j k hj hk hne => hR.apart j k (hall j hj) (hall k hk) hne⟩
      rw [maskL_of hsz hearly hall]
      exact wpAny_more _ _ _ _ _ (by omega) this
    · have hex : ∃ j, j < n0 ∧ (!listed.getD j false) = true := by
        apply Classical.byContradiction
        intro hno
        exact hall fun j hj => by
          cases hx : listed.getD j false with
          | true => rfl
          | false => exact absurd ⟨j, hj, by rw [hx]; rfl⟩ hno
      refine ⟨fun hnil => ?_, fun i hi => ?_⟩
      · obtain ⟨j, h1, h2, h3⟩ := least_of n0 hex
        have hjs : j < ops.size := by have := H.le; omega
        have : j ∈ Region.ready .any ops listed := mem_ready.2 ⟨by rw [getD_tf (by omega)]; simpa using h2, ops[j], by simp [hjs], fun e he hb => by
          have := h3 e.on (H.back j _ h1 (by simp [hjs]) e he hb)
          simpa using this⟩
        rw [hnil] at this
        cases this
      · obtain ⟨hun, o, ho, hdeps⟩ := mem_ready.1 hi
        have his : i < ops.size := (Array.getElem?_eq_some_iff.1 ho).1
        have hin : i < n0 := by
          rcases Nat.lt_or_ge i n0 with h | h
          · exact h
          · exact absurd (fun j hj => ready_waits hcl hi (H.late i his h j hj)) hall
        rw [getD_tf (by omega)] at hun
        obtain ⟨s, hs, hst, hsn⟩ := H.dst i o hin ho
        have hsa : s < a.tmps.size := by rw [hR.size]; exact hst
        have hA : RegAt ops n0 fu t0 w1 F i win a w := ⟨hR.size, hR.defers, hR.below, fun s hs => hR.keep s fun j o ho hd => notDst_spec hs ho (hearly j hd),
          fun j o hw ho => hR.fact j o ho (ready_waits hcl hi hw), fun j hw => hR.rng j (ready_waits hcl hi hw)⟩
        refine wpOp_mono ?_ (hstep i hin o win a w ho hA)
        rintro a' w' ⟨v, rfl, hb, hv⟩
        rw [hs]
        have hother : ∀ j, listed.getD j false = true → j ≠ i := fun j hj e => by rw [e, hun] at hj; cases hj
        refine ih (listed.setIfInBounds i true) (win.put i (w.heap.size, w'.heap.size)) _ _ (by simpa using hsz) ?_ ?_ ?_ ?_
        · intro j hj
          rcases getD_setF.1 hj with h | h
          · exact hearly j h
          · rw [h.1]; exact hin
        · intro k ok hk hl e he hbd
          refine getD_setF.2 (.inl ?_)
          rcases getD_setF.1 hl with h | h
          · exact hcl k ok hk h e he hbd
          · have hki := h.1
            subst hki
            have : ok = o := Option.some.inj (hk.symm.trans ho)
            subst this
            exact hdeps e he hbd
        · have : ((List.range n0).filter fun j => !(listed.setIfInBounds i true).getD j false).length < ((List.range n0).filter fun j => !listed.getD j false).length := by
            refine filter_less (i := i) (fun x hx => ?_) (by rw [hun]; rfl) ?_ _ (List.mem_range.2 hin)
            · cases hl : listed.getD x false with
              | false => rfl
              | true =>
                have := getD_setF (l := listed) (i := i) (j := x) |>.2 (.inl hl)
                rw [this] at hx
                cases hx
            · have := getD_setF (l := listed) (i := i) (j := i) |>.2 (.inr ⟨rfl, by omega⟩)
              rw [this]; rfl
          omega
        · refine ⟨?_, hR.defers, below_then hR.below hb, ?_, ?_, ?_, ?_⟩
          · simp [Act.put, hR.size]
          · intro t ht
            rw [putD, if_neg]
            · exact hR.keep t fun j o' ho' hd => ht j o' ho' (getD_setF.2 (.inl hd))
            · rintro ⟨e, -⟩
              exact ht i o ho (getD_setF.2 (.inr ⟨rfl, by omega⟩)) (by rw [hs, e])
          · intro j o' ho' hd
            rcases getD_setF.1 hd with h | h
            · have hji := hother j h
              have e : dstV (a.put (some s) v) o' = dstV a o' := by
                unfold dstV
                cases hd' : o'.dst with
                | none => rfl
                | some t =>
                  simp only
                  rw [putD, if_neg]
                  rintro ⟨e, -⟩
                  exact hsn j o' (hearly j h) ho' hji (by rw [hd', e])
              rw [e]
              refine (F j).mono _ win _ w w' (fun d hd => ?_) hb (hR.fact j o' ho' h)
              have hdl : listed.getD d false = true := by
                rcases H.dep j (hearly j h) d hd with e | hw
                · rw [e]; exact h
                · exact waits_closed hcl fu j h hw
              exact ⟨(Win.put_ne win _ (hother d hdl)).symm, (hR.rng d hdl).2.2⟩
            · have hji := h.1
              subst hji
              have : o' = o := Option.some.inj (ho'.symm.trans ho)
              subst this
              have e : dstV (a.put (some s) v) o' = v := by
                unfold dstV
                rw [hs]
                simp only
                rw [putD, if_pos ⟨rfl, hsa⟩]
              rw [e]
              exact hv
          · intro j hd
            rcases getD_setF.1 hd with h | h
            · rw [Win.put_ne win _ (hother j h)]
              have := hR.rng j h
              have := hb.size
              omega
            · rw [h.1, Win.put_same]
              exact ⟨hR.below.size, hb.size, Nat.le_refl _⟩
          · intro j k hj hk hne
            rcases getD_setF.1 hj with h | h
            · rcases getD_setF.1 hk with h' | h'
              · rw [Win.put_ne win _ (hother j h), Win.put_ne win _ (hother k h')]
                exact hR.apart j k h h' hne
              · rw [Win.put_ne win _ (hother j h), h'.1, Win.put_same]
                exact .inl (hR.rng j h).2.2
            · rcases getD_setF.1 hk with h' | h'
              · rw [Win.put_ne win _ (hother k h'), h.1, Win.put_same]
                exact .inr (hR.rng k h').2.2
              · exact absurd (h.1.trans h'.1.symm) hne

/-- A REGION THAT DRAWS ITS ORDER: each early operation (the first n0) by itself; the late ones behind them all. -/
theorem wp_region_facts {id : Nat} {t0 : Array Value} {w : World} (n0 fu : Nat) (F : Nat → Fact) (hm : P.follows .mixedOrders = true) (hok : regOk ops n0 fu t0.size (fun j => (F j).deps) = true)
    (hstep : ∀ i, i < n0 → ∀ o win a w', ops[i]? = some o → RegAt ops n0 fu t0 w.drew F i win a w' → wpOp P ops Q i (RegK F i o win a w') a w')
    (hend : ∀ win a w', RegEnd ops n0 t0 w.drew F win a w' → wpAny P .any ops Q (ops.size - n0) (maskL ops.size n0) a w') : (Code.region id ops true).wp P Q ⟨t0, []⟩ w := by
  have H := regOk_spec hok
  refine wp_region_any hm (region_go H hstep hend ops.size (Array.replicate ops.size false) (fun _ => (0, 0)) ⟨t0, []⟩ w.drew (by simp) ?_ ?_ ?_ ?_)
  · intro j hj
    exfalso
    by_cases h : j < ops.size <;> simp [h] at hj
  · intro k ok _ hl
    exfalso
    by_cases h : k < ops.size <;> simp [h] at hl
  · have : ((List.range n0).filter fun j => !(Array.replicate ops.size false).getD j false).length ≤ n0 := by
      have := List.length_filter_le (fun j => !(Array.replicate ops.size false).getD j false) (List.range n0)
      simpa using this
    have := H.le
    omega
  · have hno : ∀ j, (Array.replicate ops.size false).getD j false = true → False := fun j hj => by
      by_cases h : j < ops.size <;> simp [h] at hj
    exact ⟨rfl, rfl, Below.refl _ _, fun _ _ => rfl, fun j _ _ hj => (hno j hj).elim, fun j hj => (hno j hj).elim, fun j _ hj => (hno j hj).elim⟩
theorem wpAny_none {listed : Array Bool} {a : Act} {w : World} (hr : (Region.ready .any ops listed == []) = true) (h : Q .normal a w) : ∀ fuel, wpAny P .any ops Q fuel listed a w := by
  have hr' : Region.ready .any ops listed = [] := by simpa using hr
  intro fuel
  cases fuel with
  | zero => exact ⟨hr', h⟩
  | succ n => exact ⟨fun _ => h, by rw [hr']; simp⟩
theorem wpAny_one (i : Nat) {fuel : Nat} {listed : Array Bool} {a : Act} {w : World} (hr : (Region.ready .any ops listed == [i]) = true)
    (h : wpOp P ops Q i (fun a' w' => wpAny P .any ops Q fuel (listed.setIfInBounds i true) a' w') a w) : wpAny P .any ops Q (fuel + 1) listed a w := by
  have hr' : Region.ready .any ops listed = [i] := by simpa using hr
  exact ⟨fun h0 => (by rw [hr'] at h0; cases h0), fun j hj => (by rw [hr'] at hj; obtain rfl := List.mem_singleton.1 hj; exact h)⟩
theorem getD_bool {t : Array Value} {s : Nat} {b : Bool} (h : t.getD s undef = .bool b) : t[s]? = some (.bool b) := by
  cases hx : t[s]? with
  | none => simp [hx, undef] at h
  | some v => simpa [hx] using h
theorem wanted_of {o : Oper} {a : Act} {g s : Nat} {b c : Bool} (hg : o.guard = some (g, b)) (hs : (ops[g]?).bind (·.dst) = some s) (e : a.tmps.getD s undef = .bool c) : Region.wanted o (yielded ops a.tmps) = (c == b) := by
  have h := getD_bool e
  simp [Region.wanted, hg, yielded, hs, h]
theorem wanted_yes {o : Oper} {a : Act} {g s : Nat} {b : Bool} (hg : o.guard = some (g, b)) (hs : (ops[g]?).bind (·.dst) = some s) (e : a.tmps.getD s undef = .bool b) : Region.wanted o (yielded ops a.tmps) = true := by
  rw [wanted_of hg hs e]; simp
theorem wanted_no {o : Oper} {a : Act} {g s : Nat} {b c : Bool} (hg : o.guard = some (g, b)) (hs : (ops[g]?).bind (·.dst) = some s) (e : a.tmps.getD s undef = .bool c) (hn : (c == b) = false) : Region.wanted o (yielded ops a.tmps) = false := by
  rw [wanted_of hg hs e, hn]
end
end Cl
namespace Cl
open Go Go.RowKit
/-- behind a region: what some operations made is sealed -/
theorem Own.region {w0 w1 w : World} {m mk : Mem} {L : List Item} (h : Own w0 m w1 mk L) (hb : Below w1.heap.size w1 w) (win : Win) (ds : List Nat) (hd : ∀ d ∈ ds, w1.heap.size ≤ (win d).1) : Own w0 m w (mk.wins w win ds) L := by
  have hm := h.move hb
  have no : ∀ k, k < w1.heap.size → mk k = none → mk.wins w win ds k = none := fun k hk hn => Mem.wins_none hn fun d h1 h2 => by have := hd d h1; omega
  refine ⟨h.m0, hm.below, ⟨Mem.le_trans h.ext.le (Mem.le_wins hm.inn win ds), fun k o hk => ?_⟩, Mem.wins_inn hm.inn win ds, hm.ok, fun it hi k hk => ⟨(h.fresh it hi k hk).1, no k (Item.lt (h.ok it hi) hk) (h.fresh it hi k hk).2⟩, h.apart⟩
  rcases Nat.lt_or_ge k w1.heap.size with hlt | hge
  · cases hx : mk k with
    | none => rw [no k hlt hx] at hk; cases hk
    | some o' => exact h.ext.dom k o' hx |>.imp (fun e => by
        have h1 := (Mem.le_wins hm.inn win ds).get k o' hx
        rw [hk] at h1
        rw [e, h1]) id
  · exact .inr (Nat.le_trans h.below.size hge)
theorem Own.inn0 {w0 w : World} {m mk : Mem} {L : List Item} (h : Own w0 m w mk L) : m.inn w := Mem.inn_le h.ext.le h.inn
theorem Own.newObj {w0 w : World} {m mk : Mem} {L : List Item} {g : Nat} {t : TypeId} {arr : Array Value} (h : Own w0 m w mk L) (ho : ObjAt w g t arr) (hge : w0.heap.size ≤ g) (hf : mk g = none) (hd : ∀ it ∈ L, it.blk ≠ some g) : Own w0 m w mk (.obj g t arr :: L) :=
  h.cons ho (fun k hk => by simp only [Item.blk, Option.some.injEq] at hk; subst hk; exact ⟨hge, hf⟩) (fun b hb k h1 h2 => by simp only [Item.blk, Option.some.injEq] at h1; subst h1; exact hd b hb h2)
theorem Own.blk_lt {w0 w : World} {m mk : Mem} {L : List Item} (h : Own w0 m w mk L) {n : Nat} (hn : w.heap.size ≤ n) : ∀ it ∈ L, it.blk ≠ some n := fun it hi e => by have := Item.lt (h.ok it hi) e; omega
theorem blk_cons {g n : Nat} {t : TypeId} {arr : Array Value} {L : List Item} (hne : g ≠ n) (h : ∀ it ∈ L, it.blk ≠ some n) : ∀ it ∈ Item.obj g t arr :: L, it.blk ≠ some n := by
  intro it hi
  rcases List.mem_cons.1 hi with rfl | hi
  · simpa [Item.blk] using hne
  · exact h it hi
theorem obj_mk {w : World} {i : Nat} {t : TypeId} {arr : Array Value} (win : Win) :
    (Fact.obj i t arr).holds (.pointer (some ⟨w.heap.size, 0, none⟩)) (win.put i (w.heap.size, (w.alloc (.cells arr t)).heap.size)) (w.alloc (.cells arr t)) := by
  show _ = Value.pointer (some ⟨((win.put i (w.heap.size, (w.alloc (.cells arr t)).heap.size)) i).1, 0, none⟩) ∧ _ ∧ _
  rw [Win.put_same]
  exact ⟨rfl, by simp, ObjAt.new _ _ _⟩
theorem sl_mk {w : World} {i n : Nat} {t : TypeId} {arr : Array Value} (win : Win) :
    (Fact.sl i t arr n).holds (.slice (some ⟨w.heap.size, 0, none⟩) n n) (win.put i (w.heap.size, (w.alloc (.cells arr t)).heap.size)) (w.alloc (.cells arr t)) := by
  show _ = Value.slice (some ⟨((win.put i (w.heap.size, (w.alloc (.cells arr t)).heap.size)) i).1, 0, none⟩) n n ∧ _ ∧ _
  rw [Win.put_same]
  exact ⟨rfl, by simp, ObjAt.new _ _ _⟩
/-- an automaton, as a value -/
def TabV (T : Table) (M : Mem) (v : Value) : Prop := ∃ xa xc, v = .agg #[.slice xa (List.length T) xc] ∧ statesAt M (.slice xa (List.length T) xc) T
theorem tabV_mk {m : Mem} {w w' : World} {win : Win} {i : Nat} {r : Value} {T : Table} (hm : m.inn w) (hb : Below w.heap.size w w') (hst : statesAt (m.grow w w') r T) :
    TabV T (m.wins w' (win.put i (w.heap.size, w'.heap.size)) [i]) (.agg #[r]) := by
  have h := statesAt_le (Mem.grow_wins0 hm win i hb) hst
  obtain ⟨xa, xc, rfl, h'⟩ := id h
  exact ⟨xa, xc, rfl, h⟩
/-- a set of strings, as a value -/
def LangV (f : List UInt8 → Bool) (n : Nat) (M : Mem) (v : Value) : Prop := ∃ xa xc C, v = .agg #[.slice xa (List.length C) xc] ∧ statesAt M (.slice xa (List.length C) xc) C ∧ LangIs f C ∧ C.length ≤ n
theorem langV_le {f : List UInt8 → Bool} {n : Nat} {M M' : Mem} {v : Value} (hl : M.le M') (h : LangV f n M v) : LangV f n M' v := by
  obtain ⟨xa, xc, C, h1, h2, h3⟩ := h
  exact ⟨xa, xc, C, h1, statesAt_le hl h2, h3⟩
theorem langV_of {f : List UInt8 → Bool} {n : Nat} {M : Mem} {r : Value} {C : Table} (hst : statesAt M r C) (hl : LangIs f C) (hn : C.length ≤ n) : LangV f n M (.agg #[r]) := by
  obtain ⟨xa, xc, rfl, h⟩ := hst
  exact ⟨xa, xc, C, rfl, ⟨xa, xc, rfl, h⟩, hl, hn⟩
theorem langV_mk {m : Mem} {w w' : World} {win : Win} {i : Nat} {f : List UInt8 → Bool} {n : Nat} {r : Value} {C : Table} (hm : m.inn w) (hb : Below w.heap.size w w') (hst : statesAt (m.grow w w') r C) (hl : LangIs f C) (hn : C.length ≤ n) :
    LangV f n (m.wins w' (win.put i (w.heap.size, w'.heap.size)) [i]) (.agg #[r]) := langV_of (statesAt_le (Mem.grow_wins0 hm win i hb) hst) hl hn
/-- .. made out of what others made -/
theorem langV_mks {m : Mem} {w w' : World} {win : Win} {i : Nat} {ds : List Nat} {f : List UInt8 → Bool} {n : Nat} {r : Value} {C : Table} (hm : m.inn w) (hd : ∀ d ∈ ds, d ≠ i) (hs : ∀ d ∈ ds, (win d).2 ≤ w.heap.size) (hb : Below w.heap.size w w')
    (hst : statesAt ((m.wins w win ds).grow w w') r C) (hl : LangIs f C) (hn : C.length ≤ n) : LangV f n (m.wins w' (win.put i (w.heap.size, w'.heap.size)) (i :: ds)) (.agg #[r]) :=
  langV_of (statesAt_le (Mem.grow_wins hm win hd hs hb) hst) hl hn
end Cl
namespace Cl
open Go Go.RowKit Go.Proofs Go.WideShapes Go.ChangeShapes Go.Deep Go.Joins

theorem Mem.of_cell {w : World} {b o : Nat} {v : Value} (h : w.cell? ⟨b, o, none⟩ = some v) : (Mem.of w).cell b o = some v := by
  unfold World.cell? at h
  unfold Mem.cell Mem.of
  split at h
  · rename_i hb
    rw [hb]
    simpa using h
  · cases h
theorem list1 {α : Type} {l : List α} (h : l.length = 1) : ∃ a, l = [a] := by
  match l, h with
  | [a], _ => exact ⟨a, rfl⟩
theorem list2 {α : Type} {l : List α} (h : l.length = 2) : ∃ a b, l = [a, b] := by
  match l, h with
  | [a, b], _ => exact ⟨a, b, rfl⟩
theorem list3 {α : Type} {l : List α} (h : l.length = 3) : ∃ a b c, l = [a, b, c] := by
  match l, h with
  | [a, b, c], _ => exact ⟨a, b, c, rfl⟩
theorem array1 {α : Type} {l : Array α} (h : l.size = 1) : ∃ a, l = #[a] := by
  obtain ⟨l⟩ := l
  obtain ⟨a, rfl⟩ := list1 h
  exact ⟨a, rfl⟩
theorem spot_of {w : World} {a : Addr} {v : Value} (h : w.cell? a = some v) : a.spot = none := by
  unfold World.cell? at h
  split at h
  · split at h
    · cases h
    · rename_i hs
      cases hx : a.spot with
      | none => rfl
      | some x => rw [hx] at hs; exact absurd rfl hs
  · cases h
theorem cells_get {w : World} {b o n : Nat} {cs : List Value} (h : w.cells? 0 ⟨b, o, none⟩ n = some cs) {i : Nat} {v : Value} (hi : cs[i]? = some v) : (Mem.of w).cell b (o + i) = some v := by
  obtain ⟨-, h2, h3⟩ := World.cells?_some h
  have hlt : i < n := by rw [← h2]; exact (List.getElem?_eq_some_iff.1 hi).1
  have := h3 i hlt
  rw [hi, Addr.add_lit] at this
  exact Mem.of_cell this

section
variable {H : Type} {enc : TypeId × Value → H} {P : Program} {w : World} {spare : Nat → Bool} {held : Bool}
theorem slice_of_trod {α : Type} [Inhabited α] {t e : TypeId} {size : Nat} (ht : P.underlying t = some (.slice e)) (hc : P.cellsOf e = size) (hpos : 0 < size) (R : Nat → Nat → α → Prop)
    (hR : ∀ (fuel b o : Nat) (cs : List Value) (x : DataW H × List MemPlace), w.cells? 0 ⟨b, o, none⟩ size = some cs → DataW.trod enc P w 0 spare held fuel e cs = some x → ∃ y : α, R b o y)
    {fuel : Nat} {cs : List Value} {x : DataW H × List MemPlace} (h : DataW.trod enc P w 0 spare held fuel t cs = some x) : ∃ v l, cs = [v] ∧ Mem.slice R size v l := by
  rcases open_slice ht h with ⟨rfl, -⟩ | ⟨a, len, cap, m, n, D, Pl, rfl, hb, hl, hm, hmm, rfl, hx⟩
  · exact ⟨_, [], rfl, none, 0, rfl, Nat.le_refl _, Nat.zero_le _, fun h => absurd rfl h⟩
  · have hlm : len ≤ m := by rw [hmm]; split <;> omega
    by_cases h0 : len = 0
    · subst h0
      exact ⟨_, [], rfl, some a, cap, rfl, Nat.zero_le _, hm, fun h => absurd rfl h⟩
    · have hsp : a.spot = none := by
        obtain ⟨cs', h1, -⟩ := hx 0 (by omega)
        obtain ⟨-, h2, h3⟩ := World.cells?_some h1
        rw [hc] at h2 h3
        have := h3 0 hpos
        rw [Nat.zero_mul] at this
        have e : (a.add 0).add 0 = a := by simp [Addr.add]
        rw [e, List.getElem?_eq_getElem (by omega)] at this
        exact spot_of this
      obtain ⟨b, o, sp⟩ := a
      simp only at hsp
      subst hsp
      obtain ⟨f, hf⟩ := choose_lt (α := α) (n := len) (p := fun i y => R b (o + i * size) y) (fun i hi => by
        obtain ⟨cs', h1, h2⟩ := hx i (by omega)
        rw [hc, Addr.add_lit] at h1
        exact hR _ _ _ _ _ h1 h2)
      refine ⟨_, (List.range len).map f, rfl, some ⟨b, o, none⟩, cap, by simp, by simpa using hl, hm, fun _ => ⟨b, o, rfl, fun i hi => ?_⟩⟩
      have hi' : i < len := by simpa using hi
      simpa using hf i hi'
end

instance : Inhabited Ed := ⟨⟨0, 0, 0⟩⟩
instance : Inhabited Sn := ⟨⟨false, []⟩⟩

section
variable {H : Type} {enc : TypeId × Value → H} {w : World} {spare : Nat → Bool} {held : Bool}
theorem u8_wf {n : Int} (h : (Lit.int .u8 n).wf = true) : ∃ k : Nat, n = k ∧ k < 256 := by
  simp only [Lit.wf, Bool.and_eq_true, decide_eq_true_eq] at h
  have e1 : IntKind.min .u8 = 0 := by decide
  have e2 : IntKind.max .u8 = 255 := by decide
  exact ⟨n.toNat, by omega, by omega⟩
theorem i64_wf {n : Int} (h : (Lit.int .i64 n).wf = true) : -9223372036854775808 ≤ n ∧ n ≤ 9223372036854775807 := by
  simp only [Lit.wf, Bool.and_eq_true, decide_eq_true_eq] at h
  have e1 : IntKind.min .i64 = -9223372036854775808 := by decide
  have e2 : IntKind.max .i64 = 9223372036854775807 := by decide
  omega
theorem edge_open (fuel b o : Nat) (cs : List Value) (x : DataW H × List MemPlace) (hc : w.cells? 0 ⟨b, o, none⟩ 3 = some cs) (h : DataW.trod enc Tryz.prog w 0 spare held fuel 46 cs = some x) : ∃ e, edgeAt (Mem.of w) b o e := by
  obtain ⟨y0, y1, y2, n, -, hl, h0, h1, h2⟩ := trod_struct3 Tryz.underlying46 h
  have hl3 : cs.length = 3 := (World.cells?_some hc).2.1
  obtain ⟨c0, c1, c2, rfl⟩ := list3 hl3
  have e8 : Tryz.prog.cellsOf 5 = 1 := by kernel_rfl
  have e64 : Tryz.prog.cellsOf 3 = 1 := by kernel_rfl
  simp [e8, e64] at h0 h1 h2
  obtain ⟨a0, e0, -, w0⟩ := DataW.trod_int Tryz.underlying5 h0
  obtain ⟨a1, e1, -, w1⟩ := DataW.trod_int Tryz.underlying5 h1
  obtain ⟨a2, e2, -, w2⟩ := DataW.trod_int Tryz.underlying3 h2
  obtain ⟨k0, rfl, l0⟩ := u8_wf w0
  obtain ⟨k1, rfl, l1⟩ := u8_wf w1
  cases e0; cases e1; cases e2
  have w2 := i64_wf w2
  exact ⟨⟨k0, k1, a2⟩, cells_get (i := 0) hc rfl, cells_get (i := 1) hc rfl, cells_get (i := 2) hc rfl, l0, l1, w2.1, w2.2⟩
theorem state_open (fuel b o : Nat) (cs : List Value) (x : DataW H × List MemPlace) (hc : w.cells? 0 ⟨b, o, none⟩ 2 = some cs) (h : DataW.trod enc Tryz.prog w 0 spare held fuel 37 cs = some x) : ∃ s, stateAt (Mem.of w) b o s := by
  obtain ⟨y0, y1, n, -, hl, h0, h1⟩ := trod_struct2 Tryz.underlying37 h
  have hl2 : cs.length = 2 := (World.cells?_some hc).2.1
  obtain ⟨c0, c1, rfl⟩ := list2 hl2
  have eb : Tryz.prog.cellsOf 4 = 1 := by kernel_rfl
  have es : Tryz.prog.cellsOf 35 = 1 := by kernel_rfl
  simp [eb, es] at h0 h1
  obtain ⟨a0, e0, -⟩ := DataW.trod_bool Tryz.underlying4 h0
  cases e0
  obtain ⟨v, l, e1, hs⟩ := slice_of_trod Tryz.underlying35 (by kernel_rfl) (by omega) (edgeAt (Mem.of w)) edge_open h1
  cases e1
  exact ⟨⟨a0, l⟩, cells_get (i := 0) hc rfl, c1, cells_get (i := 1) hc rfl, hs⟩
set_option maxRecDepth 100000 in
theorem lang_open {r : Reach} {b0 : Nat} {v : Value} {d : DataW H} {p : List MemPlace} (hv : Value.okWide Tryz.prog w r b0 24 v) (h : DataW.Trod enc Tryz.prog w 0 spare held 24 v d p) :
    ∃ u l, v = .agg #[u] ∧ statesAt (Mem.of w) u l := by
  obtain ⟨cs, rfl, hsz⟩ := okWide_struct Tryz.underlying24 hv
  have e1 : Tryz.prog.cellsOf 24 = 1 := by kernel_rfl
  have hsz1 := hsz.trans e1
  obtain ⟨fuel, hf⟩ := h
  obtain ⟨y0, n, -, -, h0⟩ := trod_struct1 Tryz.underlying24 hf
  obtain ⟨c0, rfl⟩ := array1 hsz1
  have es : Tryz.prog.cellsOf 22 = 1 := by kernel_rfl
  simp [Value.cells, es] at h0
  obtain ⟨u, l, e, hs⟩ := slice_of_trod Tryz.underlying22 (by kernel_rfl) (by omega) (stateAt (Mem.of w)) state_open h0
  cases e
  exact ⟨c0, l, rfl, hs⟩
set_option maxRecDepth 100000 in
theorem string_open {base : Nat} {v : Value} {d : DataW H} {p : List MemPlace} (hv : Value.okWide Tryz.prog w .any base 9 v) (h : DataW.Trod enc Tryz.prog w 0 spare held 9 v d p) :
    ∃ s : ByteArray, v = .string s ∧ d = .lit (.string s.data.toList) ∧ p = [] ∧ s.size ≤ maxLen := Go.ChangeMaps.open_string Tryz.underlying9 hv h
end
end Cl
namespace Cl
open Go Go.RowKit Go.Proofs Go.ChangeShapes Go.WideShapes

theorem seat_own : ownKnob Tryz.prog.godebug = none := by kernel_rfl
theorem seat_laidOut : laidOutB Tryz.prog = true := by kernel_rfl
theorem gTab : Tryz.prog.globalNamed "internal/strconv.uint64pow10" = some 0 := by kernel_rfl
theorem gTabType : (Tryz.prog.globals[0]?).map (·.type) = some 134 := by kernel_rfl
theorem cellsTab : Tryz.prog.cellsOf 134 = 20 := by kernel_rfl
theorem cellsU64 : Tryz.prog.cellsOf 127 = 1 := by kernel_rfl
/-- what every row of this seat lists -/
abbrev seatLaid : List (String × DataW Unit) := [("math/bits.deBruijn32tab", Go.Proofs.YtaolacbikbllcaaGreatDoor.Rows.laid_math_bits_deBruijn32tab), ("math/bits.deBruijn64tab", Go.Proofs.YtaolacbikbllcaaGreatDoor.Rows.laid_math_bits_deBruijn64tab), ("internal/strconv.uint64pow10", Go.Proofs.YtaolacbikbllcaaGreatDoor.Rows.laid_internal_strconv_uint64pow10)]
theorem seat_tab {W : World} (h : laidMetH Tryz.prog seatLaid W) : TabM (Mem.of W) := by
  have h0 : laidMet Tryz.prog seatLaid W := h
  have h1 : Lib.TabIs Tryz.prog W "internal/strconv.uint64pow10" .u64 Lib.pow10Tab :=
    Lib.tabIs_of_head (rest := []) gTab gTabType Tryz.underlying134 Tryz.underlying127 cellsU64 cellsTab h0.tail.tail
  refine ⟨fun w hw => ?_⟩
  unfold Lib.TabIs World.var? at h1 ⊢
  rw [gTab] at h1 ⊢
  simp only [Option.bind_some] at h1 ⊢
  split at h1
  · rename_i cs t f hb
    rw [hw.get 0 _ hb]
    exact h1
  · cases h1

def litCells : DataW Unit → Array Value
  | .agg l => (l.map fun d => match d with
    | .lit (.int k n) => Value.int k n
    | _ => undef).toArray
  | _ => #[]
def layTab (c : Array Value) : Obj → Obj
  | .cells _ t frozen => .cells c t frozen
  | o => o
/-- a world for the witnesses: the settled one, the three tables holding what their initialisers lay -/
noncomputable def laidWorld (os : Os) : World :=
  { World.holding Tryz.prog os ⟨#[], #[], []⟩ with heap := (((World.holding Tryz.prog os ⟨#[], #[], []⟩).heap.modify 0 (layTab (litCells Go.Proofs.YtaolacbikbllcaaGreatDoor.Rows.laid_internal_strconv_uint64pow10))).modify 1 (layTab (litCells Go.Proofs.YtaolacbikbllcaaGreatDoor.Rows.laid_math_bits_deBruijn32tab))).modify 2 (layTab (litCells Go.Proofs.YtaolacbikbllcaaGreatDoor.Rows.laid_math_bits_deBruijn64tab)) }

section
variable {H : Type} {enc : TypeId × Value → H}
theorem trodAll_stays {W W' : World} (hb : Below W.heap.size W W') {sp : Nat → Bool} : ∀ (ts : List TypeId) (vs : List Value) (ds : List (DataW H)) (ps : List MemPlace), (∀ t ∈ ts, Tryz.prog.readableRec t = true ∧ t < Tryz.prog.types.size) →
    (∀ x ∈ ps, x.block < W.heap.size) → (∀ x ∈ ps, sp x.block = true) → DataW.TrodAll enc Tryz.prog W 0 (fun _ => true) true ts vs ds ps → DataW.TrodAll enc Tryz.prog W' 0 sp true ts vs ds ps
  | [], _, _, _, _, _, _, h => by
    obtain ⟨rfl, rfl, rfl⟩ := trodAll_nil h
    exact trodAll_mk0
  | t :: ts, _, _, _, ht, hl, hs, h => by
    obtain ⟨v, vs1, d, ds1, a, b, rfl, rfl, rfl, h1, h2⟩ := trodAll_cons h
    have h0 := ht t (List.mem_cons_self ..)
    exact trodAll_cons_mk (WideElems.Trod_stays seat_laidOut h0.1 h0.2 h1 (fun x hx => hb.same (hl x (List.mem_append_left _ hx))) (fun x hx => hs x (List.mem_append_left _ hx)))
      (trodAll_stays hb ts vs1 ds1 b (fun t ht' => ht t (List.mem_cons_of_mem _ ht')) (fun x hx => hl x (List.mem_append_right _ hx)) (fun x hx => hs x (List.mem_append_right _ hx)) h2)
/-- what a law's call leaves: true, and the arguments as they were -/
theorem law_post {f : Func} {s : ChangeSpec} {W W' : World} {args : Array Value} {ds : List (DataW H)} {before : List MemPlace} (hv : s.vars = []) (hr : f.resultTypes = #[4])
    (ht : (f.params.toList.all fun t => Tryz.prog.readableRec t && decide (t < Tryz.prog.types.size)) = true) (hfn : s.fn H (ds ++ []) = { results := [.lit (.bool true)], args := ds })
    (hW : DataW.Whole enc Tryz.prog f.params.toList s.vars false W args.toList ds [] before) (hb : Below W.heap.size W W') :
    s.post enc Tryz.prog f false true false false W args (.bool true) W' := by
  have hlt := hW.lt
  obtain ⟨p, q, h1, h2, rfl, h3⟩ := id hW
  rw [hv] at h2
  obtain ⟨-, rfl⟩ := trodVars_none h2
  rw [List.append_nil] at hW hlt
  refine ⟨ds, [], p, [], p, [], hW, ?_, ?_, ?_, hb.frame _, fun h => by cases h⟩
  · rw [hfn, hr]
    exact trodAll_cons_mk (shut_bool Tryz.underlying4 _) trodAll_mk0
  · rw [hfn]
    exact trodAll_stays hb _ _ _ _ (fun t h => by have := List.all_eq_true.1 ht t h; simpa using this) hlt (fun x hx => by simpa using hlt x hx) h1
  · rw [hfn, hv]
    rfl
end
end Cl
namespace Cl
open Go Go.RowKit Go.Proofs

/-- a slice of automata -/
def tabsAt (m : Mem) (v : Value) (l : List Table) : Prop := Mem.slice1 (fun b o T => ∃ u, m.cell b o = some u ∧ statesAt m u T) v l

set_option maxRecDepth 100000 in
set_option maxHeartbeats 4000000 in
theorem Cut_any (v v2 : Value) (Ls : List Table) (ps : List Int) (b : Nat) (m : Mem) (w : World) (hm : m.inn w) (hv : tabsAt m v Ls) (hp : intsAt m v2 ps) (hl : Ls.length = ps.length)
    (hr : ∀ i, i < ps.length → -1 ≤ ps.getD i (-1) ∧ ps.getD i (-1) < (Ls.getD i []).length) (hb : b < 256) :
    Calls Tryz.prog 63 #[v, v2, .int .i64 b] w fun e w' => e = .returned (.int .i64 (cutTo Ls ps b Ls.length)) ∧ Below w.heap.size w w' := by
  obtain ⟨la, lc, rfl, h1, h2, h3⟩ := hv
  obtain ⟨pa, pc, rfl, p1, p2, p3⟩ := hp
  unfold maxLen at h2 p2
  have HL := Lib.hid (And.intro hl (And.intro hr hm))
  have hl' : Ls.length ≤ ps.length := by omega
  have H3 := Lib.hid h3
  have P3 := Lib.hid p3
  clear hl hr hm h3 p3
  refine calls_hide fun R hR => ?_
  go_enter Tryz.func63, Tryz.ntmps63
  go_wp2
  refine wp_loop_keep [0, 1, 2, 7, 8] (fun n vs w2 => ∃ (k : Nat), k ≤ Ls.length ∧ n = Ls.length - k ∧ vs = [.slice la Ls.length lc, .slice pa ps.length pc, .int .i64 b, .int .i64 (cutTo Ls ps b k), .int .i64 k] ∧ Below w.heap.size w w2) ?_ ?_
  · exact ⟨_, 0, Nat.zero_le _, rfl, rfl, Below.refl _ _⟩
  rintro X z n vs w2 hX - ⟨k, hk, rfl, rfl, hbw⟩
  simp [litL, lk]
  have hmw := Mem.inn_below HL.out.2.2 hbw
  have HB := Lib.hid hbw
  clear hbw
  have hge := cutTo_le Ls ps b k
  by_cases hlt : k < Ls.length
  · obtain ⟨gb, go, rfl, hg⟩ := H3.out (by intro h; simp [h] at hlt)
    obtain ⟨qb, qo, rfl, hq⟩ := P3.out (by intro h; rw [h] at hl'; simp at hl'; simp [hl'] at hlt)
    obtain ⟨u, g1, ua, uc, rfl, g2, g3, g4⟩ := hg k hlt
    obtain ⟨q1, q2, q3⟩ := hq k (by omega)
    have hrk := HL.out.2.1 k (by omega)
    have eL : Ls.getD k [] = Ls[k] := by simp [hlt]
    have hkp : k < ps.length := by omega
    have eP : ps.getD k (-1) = ps[k] := by simp [hkp]
    have hnx : cutTo Ls ps b (k + 1) = cutE b (edsOf Ls[k] ps[k]) (cutTo Ls ps b k) := by rw [← eL, ← eP]; rfl
    rw [eL, eP] at hrk
    have HN := Lib.hid hnx
    have hgt := cutTo_gt (Ls := Ls) (ps := ps) hb k
    clear hnx eL eP hg hq
    have c1 := Mem.cell_w hmw g1
    have c2 := Mem.cell_w hmw q1
    have c3 := Mem.cell_lt hmw g1
    have c4 := Mem.cell_lt hmw q1
    generalize Ls[k] = T at *
    generalize ps[k] = p at *
    generalize cutTo Ls ps b k = o at *
    by_cases hneg : p < 0
    · have hd : decide (p < 0) = true := decide_eq_true hneg
      have he : cutTo Ls ps b (k + 1) = o := by rw [HN.out, edsOf, if_pos hneg, cutE_nil]
      have HE := Lib.hid he
      clear he g4
      go_wp2
      refine hX.out _ _ _ (by omega) rfl ⟨k + 1, by omega, rfl, by rw [HE.out]; rfl, HB.out⟩
    · obtain ⟨p, rfl⟩ := Int.eq_ofNat_of_zero_le (by omega : 0 ≤ p)
      have hpt : p < T.length := by omega
      obtain ⟨b', off', rfl, h10⟩ := g4 (by intro h; simp [h] at hpt)
      obtain ⟨-, ve, e2, ea, ec, rfl, e4, e5, e6⟩ := h10 p hpt
      have hee : edsOf T (p : Int) = (T[p]).edges := by
        have h0' : ¬ ((p : Int) < 0) := by omega
        simp [edsOf, h0', hpt]
      rw [hee] at HN
      have HN := Lib.hid HN.out
      clear hee h10
      generalize T[p].edges = es at *
      unfold maxLen at e5 g3
      have c5 := Mem.cell_w hmw e2
      have c6 := Mem.cell_lt hmw e2
      have E6 := Lib.hid e6
      clear e6 g4
      go_wp2
      go_quiet (fail)
      go_wp2
      refine wp_loop_keep [0, 1, 2, 7, 8, 9, 10] (fun n vs w3 => ∃ (j : Nat), j ≤ es.length ∧ n = es.length - j ∧ vs = [.slice (some ⟨gb, go, none⟩) Ls.length lc, .slice (some ⟨qb, qo, none⟩) ps.length pc, .int .i64 b, .int .i64 (cutE b (es.take j) o), .int .i64 k, .slice ea es.length ec, .int .i64 j] ∧ Below w.heap.size w w3) ?_ ?_
      · exact ⟨_, 0, Nat.zero_le _, rfl, rfl, below_drewN HB.out _⟩
      clear c1 c2 c3 c4 c5 c6 hmw HB
      rintro Y z1 n1 vs1 w3 hY - ⟨j, hj, rfl, rfl, hb3⟩
      simp [litL, lk]
      have hmw := Mem.inn_below HL.out.2.2 hb3
      have HB := Lib.hid hb3
      clear hb3
      by_cases hltj : j < es.length
      · obtain ⟨eb, eo, rfl, h10⟩ := E6.out (by intro h; simp [h] at hltj)
        obtain ⟨x1, x2, -, x4, x5, -⟩ := h10 j hltj
        have d1 := Mem.cell_w hmw x1
        have d2 := Mem.cell_w hmw x2
        have d3 := Mem.cell_lt hmw x1
        have hs := cutE_take b o hltj
        have ho1 := cutE_le b (es.take j) o
        have ho2 := cutE_gt (es.take j) o hgt
        generalize es[j] = e at *
        generalize cutE b (es.take j) o = o1 at *
        have HSn := Lib.hid hs
        clear hs h10
        by_cases q1 : b < e.lo <;> by_cases q2 : b ≤ e.hi
        all_goals
          have y1 : decide ((b : Int) < (e.lo : Int)) = decide (b < e.lo) := by simp
          simp only [q1, decide_true, decide_false] at y1
          go_wp2
          refine hY.out _ _ _ (by omega) rfl ⟨j + 1, by omega, rfl, ?_, HB.out⟩
          rw [HSn.out]
          simp [cutS, q1, q2]
          try omega
      · obtain rfl : j = es.length := by omega
        clear hj
        go_wp2
        refine hX.out _ _ _ (by omega) rfl ⟨k + 1, by omega, rfl, by rw [HN.out, List.take_length]; rfl, HB.out⟩
  · obtain rfl : k = Ls.length := by omega
    clear hk
    go_wp2
    exact hR.out _ _ ⟨rfl, HB.out⟩
end Cl

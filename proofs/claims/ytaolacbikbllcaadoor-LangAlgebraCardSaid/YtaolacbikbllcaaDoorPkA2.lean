/- Lemmas for the proofs: PlainO, PlainD, Base, Kit, Rep, Rep2, Own. -/
import Derived.Test.YtaolacbikbllcaaDoorProg
import Derived.BigQuiet
import Derived.Deep.Cut
import Derived.Deep.QuietTactic
import Derived.Laws.StructEq
import Derived.Lib.AppendStr
import Derived.Lib.Builder
import Derived.Lib.Hide
import Derived.Lib.ItoaLen
import Derived.Maps.OwnOps
import Derived.Maps.OwnSet
import Derived.OrdersHeld
import Derived.Outline
import Derived.StillTailTactics
import Derived.StringKeys
import Derived.WalkKit
import Derived.WalkLawsBesides
import Derived.WalkSpells
import Derived.Deep.RegionHeld
import Derived.Test.YtaolacbikbllcaaDoorPkA1
namespace Cl

def wordL (s : List UInt8) : Table := ((List.range s.length).map fun i => (⟨false, [⟨(s.getD i 0).toNat, (s.getD i 0).toNat, ((i + 1 : Nat) : Int)⟩]⟩ : Sn)) ++ [⟨true, []⟩]
theorem wordL_len (s : List UInt8) : (wordL s).length = s.length + 1 := by simp [wordL]
theorem wordL_at {s : List UInt8} {i : Nat} (h : i < s.length) : (wordL s)[i]? = some ⟨false, [⟨(s[i]).toNat, (s[i]).toNat, ((i + 1 : Nat) : Int)⟩]⟩ := by
  unfold wordL
  rw [List.getElem?_append_left (by simpa using h)]
  simp [h]
theorem wordL_end (s : List UInt8) : (wordL s)[s.length]? = some ⟨true, []⟩ := by
  unfold wordL
  rw [List.getElem?_append_right (by simp)]
  simp
theorem word_acc (s : List UInt8) : ∀ (v : List UInt8) (i : Nat), i ≤ s.length → (accFrom (wordL s) (i : Int) v = true ↔ v = s.drop i)
  | [], i, hi => by
    simp only [accFrom]
    by_cases h : i < s.length
    · rw [accAt_of (wordL_at h), List.drop_eq_getElem_cons h]
      exact ⟨fun h => (by cases h), fun h => (by cases h)⟩
    · obtain rfl : i = s.length := by omega
      rw [accAt_of (wordL_end s), List.drop_eq_nil_of_le (Nat.le_refl _)]
      simp
  | c :: v, i, hi => by
    simp only [accFrom]
    by_cases h : i < s.length
    · rw [tstep_of (wordL_at h), List.drop_eq_getElem_cons h]
      simp only [estep]
      by_cases e : c = s[i]
      · rw [if_pos (by rw [e]; exact ⟨Nat.le_refl _, Nat.le_refl _⟩), word_acc s v (i + 1) h, e]
        exact ⟨fun h => (by rw [h]), fun h => (List.cons.inj h).2⟩
      · have hne : c.toNat ≠ (s[i]).toNat := fun h => e (UInt8.toNat_inj.1 h)
        rw [if_neg (by omega), accFrom_neg (by omega)]
        exact ⟨fun h => (by cases h), fun h => absurd (List.cons.inj h).1 e⟩
    · obtain rfl : i = s.length := by omega
      rw [tstep_of (wordL_end s), List.drop_eq_nil_of_le (Nat.le_refl _)]
      simp only [estep]
      rw [accFrom_neg (by omega)]
      simp
theorem word_step (s : List UInt8) (k b t : Nat) (h : tstep (wordL s) k b = t) : k < s.length ∧ t = k + 1 := by
  by_cases hk : k < s.length
  · rw [tstep_of (wordL_at hk)] at h
    simp only [estep] at h
    split at h
    · exact ⟨hk, by omega⟩
    · omega
  · by_cases hk2 : k = s.length
    · subst hk2
      rw [tstep_of (wordL_end s)] at h
      simp only [estep] at h
      omega
    · rw [tstep_out _ _ _ (by rw [wordL_len]; omega)] at h
      omega
theorem word_is (s : List UInt8) : LangIs (fun v => decide (v = s)) (wordL s) := by
  have hstep : ∀ k (h : k < s.length), tstep (wordL s) k (s[k]).toNat = ((k + 1 : Nat) : Int) := fun k h => by
    rw [tstep_of (wordL_at h)]
    simp only [estep]
    rw [if_pos ⟨Nat.le_refl _, Nat.le_refl _⟩]
  have hst : ∀ x ∈ wordL s, x = ⟨true, []⟩ ∨ ∃ i, ∃ h : i < s.length, x = ⟨false, [⟨(s[i]).toNat, (s[i]).toNat, ((i + 1 : Nat) : Int)⟩]⟩ := by
    intro x hx
    obtain ⟨i, hi, rfl⟩ := List.mem_iff_getElem.1 hx
    rw [wordL_len] at hi
    have hg : (wordL s)[i]? = some ((wordL s)[i]'(by rw [wordL_len]; exact hi)) := by rw [List.getElem?_eq_getElem]
    by_cases h : i < s.length
    · rw [wordL_at h] at hg
      exact .inr ⟨i, h, (Option.some.inj hg).symm⟩
    · obtain rfl : i = s.length := by omega
      rw [wordL_end] at hg
      exact .inl (Option.some.inj hg).symm
  refine ⟨⟨?_, ?_, ?_, ?_, ?_, ?_, ?_⟩, fun v => ?_⟩
  · intro x hx
    rw [wordL_len]
    rcases hst x hx with rfl | ⟨i, h, rfl⟩
    · trivial
    · exact ⟨Nat.le_refl _, by show (0 : Int) ≤ ((i + 1 : Nat) : Int); omega, by show ((i + 1 : Nat) : Int) < ((s.length + 1 : Nat) : Int); omega, by show (-1 : Int) < ((s[i]).toNat : Int); omega, trivial⟩
  · intro x hx e he
    rcases hst x hx with rfl | ⟨i, h, rfl⟩
    · simp at he
    · simp only [List.mem_singleton] at he
      subst he
      exact ⟨(s[i]).toNat_lt, (s[i]).toNat_lt⟩
  · intro x hx
    rcases hst x hx with rfl | ⟨i, h, rfl⟩ <;> trivial
  · intro k hk
    rw [wordL_len] at hk
    exact ⟨s.drop k, (word_acc s _ k (by omega)).2 rfl⟩
  · intro i j hi hj h
    rw [wordL_len] at hi hj
    have h1 := (word_acc s (s.drop i) i (by omega)).2 rfl
    rw [h] at h1
    have h2 := (word_acc s (s.drop i) j (by omega)).1 h1
    have := congrArg List.length h2
    simp at this
    omega
  · intro k b t hb h t' h1 h2
    obtain ⟨hk, rfl⟩ := word_step s k b t h
    refine ⟨t' - 1, (s[t' - 1]'(by omega)).toNat, (s[t' - 1]'(by omega)).toNat_lt, .inl (by omega), ?_⟩
    have := hstep (t' - 1) (by omega)
    rw [show t' - 1 + 1 = t' by omega] at this
    exact this
  · intro t h1 h2
    rw [wordL_len] at h2
    refine ⟨t - 1, (s[t - 1]'(by omega)).toNat, by omega, (s[t - 1]'(by omega)).toNat_lt, ?_⟩
    have := hstep (t - 1) (by omega)
    rw [show t - 1 + 1 = t by omega] at this
    exact this
  · have := word_acc s v 0 (Nat.zero_le _)
    rw [List.drop_zero] at this
    rw [Bool.eq_iff_iff, decide_eq_true_iff]
    exact this

/-- the bounds of a word -/
noncomputable def boundF (op : List UInt8) (s : List UInt8) : Option (List UInt8 → Bool) :=
  if op = [60] then some (belowB false · s) else if op = [60, 61] then some (belowB true · s) else if op = [62] then some fun v => !belowB true v s
  else if op = [62, 61] then some fun v => !belowB false v s else if op = [61, 61] then some fun v => decide (v = s) else if op = [33, 61] then some fun v => !decide (v = s) else none
end Cl
namespace Cl

/-- the first bytes of the intervals -/
def cutList (p : Nat → Bool) : List Nat := (List.range 256).filter p
def loOf (c : List Nat) (i : Nat) : Nat := c.getD i 0
def hiOf (c : List Nat) (i : Nat) : Nat := if i + 1 < c.length then c.getD (i + 1) 0 - 1 else 255

theorem cutList_lt {p : Nat → Bool} {i j : Nat} (hij : i < j) (hj : j < (cutList p).length) : (cutList p).getD i 0 < (cutList p).getD j 0 := by
  have h : (cutList p).Pairwise (· < ·) := List.pairwise_lt_range.filter p
  have := List.pairwise_iff_getElem.1 h i j (by omega) hj hij
  simpa [hj, Nat.lt_trans hij hj] using this
theorem cutList_get {p : Nat → Bool} {i : Nat} (hi : i < (cutList p).length) : (cutList p).getD i 0 < 256 ∧ p ((cutList p).getD i 0) = true := by
  have : (cutList p).getD i 0 ∈ cutList p := by simp [hi]
  simpa [cutList] using this
theorem cutList_mem {p : Nat → Bool} {b : Nat} (hb : b < 256) (hp : p b = true) : ∃ j, j < (cutList p).length ∧ (cutList p).getD j 0 = b := by
  have : b ∈ cutList p := by simp [cutList, hb, hp]
  obtain ⟨j, hj, e⟩ := List.mem_iff_getElem.1 this
  exact ⟨j, hj, by simp [hj, e]⟩
theorem ivs_of {p : Nat → Bool} (h0 : p 0 = true) : Ivs (loOf (cutList p)) (hiOf (cutList p)) (cutList p).length ∧
    ∀ i, i < (cutList p).length → ∀ b, loOf (cutList p) i < b → b ≤ hiOf (cutList p) i → p b = false := by
  have hle : ∀ i, i < (cutList p).length → loOf (cutList p) i ≤ hiOf (cutList p) i ∧ hiOf (cutList p) i < 256 := by
    intro i hi
    unfold loOf hiOf
    have := cutList_get hi
    split
    · rename_i h
      have := cutList_lt (show i < i + 1 by omega) h
      have := (cutList_get h).1
      omega
    · omega
  refine ⟨⟨hle, ?_, ?_⟩, ?_⟩
  · intro i j hij hj
    unfold loOf hiOf
    rw [if_pos (by omega)]
    have h1 := cutList_lt (show i < i + 1 by omega) (show i + 1 < (cutList p).length by omega)
    by_cases c : i + 1 = j
    · subst c; omega
    · have h2 := cutList_lt (p := p) (show i + 1 < j by omega) hj
      omega
  · intro b
    induction b with
    | zero =>
      intro _
      obtain ⟨j, hj, e⟩ := cutList_mem (by omega) h0
      exact ⟨j, hj, by unfold loOf; omega, by omega⟩
    | succ b ih =>
      intro hb
      obtain ⟨i, hi, h1, h2⟩ := ih (by omega)
      by_cases c : b + 1 ≤ hiOf (cutList p) i
      · exact ⟨i, hi, by omega, c⟩
      · have e : hiOf (cutList p) i = b := by omega
        unfold hiOf at e
        split at e
        · rename_i h
          have := cutList_lt (show i < i + 1 by omega) h
          have hh := hle (i + 1) h
          have : loOf (cutList p) (i + 1) = b + 1 := by unfold loOf; omega
          exact ⟨i + 1, h, by omega, by omega⟩
        · omega
  · intro i hi b h1 h2
    cases hp : p b with
    | false => rfl
    | true =>
      have hb : b < 256 := by have := (hle i hi).2; omega
      obtain ⟨j, hj, e⟩ := cutList_mem hb hp
      unfold loOf at h1
      have hij : i < j := by
        rcases Nat.lt_trichotomy i j with c | c | c
        · exact c
        · subst c; omega
        · have := cutList_lt c hi; omega
      unfold hiOf at h2
      rw [if_pos (by omega)] at h2
      have h3 := cutList_lt (show i < i + 1 by omega) (show i + 1 < (cutList p).length by omega)
      by_cases c : i + 1 = j
      · subst c; omega
      · have := cutList_lt (p := p) (show i + 1 < j by omega) hj; omega

theorem estep_const {es : List Ed} {a b : Nat} (hab : a ≤ b) (h : ∀ c, a < c → c ≤ b → ∀ e ∈ es, e.lo ≠ c ∧ e.hi + 1 ≠ c) : estep es b = estep es a := by
  induction es with
  | nil => rfl
  | cons e es ih =>
    have ih := ih fun c h1 h2 x hx => h c h1 h2 x (by simp [hx])
    simp only [estep]
    by_cases c : e.lo ≤ a ∧ a ≤ e.hi
    · rw [if_pos c, if_pos]
      refine ⟨by omega, ?_⟩
      apply Nat.le_of_not_lt
      intro d
      exact (h (e.hi + 1) (by omega) (by omega) e (by simp)).2 rfl
    · rw [if_neg c]
      by_cases d : e.lo ≤ b ∧ b ≤ e.hi
      · exfalso
        by_cases f : e.lo ≤ a
        · omega
        · exact (h e.lo (by omega) (by omega) e (by simp)).1 rfl
      · rw [if_neg d]; exact ih

theorem estep_mem {es : List Ed} {b : Nat} (h : 0 ≤ estep es b) : ∃ e ∈ es, e.to = estep es b := by
  induction es with
  | nil => simp [estep] at h
  | cons x es ih =>
    simp only [estep] at h ⊢
    split at h
    · rename_i hc; exact ⟨x, by simp, by rw [if_pos hc]⟩
    · rename_i hc
      obtain ⟨e, he, e2⟩ := ih h
      exact ⟨e, by simp [he], by rw [if_neg hc]; exact e2⟩

/-- the bytes at which an edge of a table begins, or one byte behind its end -/
def Marks (l : Table) (p : Nat → Bool) : Prop := p 0 = true ∧ ∀ s ∈ l, ∀ e ∈ s.edges, ∀ b, b < 256 → (e.lo = b ∨ e.hi + 1 = b) → p b = true
theorem tstep_const {l : Table} {p : Nat → Bool} (hp : Marks l p) {i b : Nat} (hi : i < (cutList p).length) (h1 : loOf (cutList p) i ≤ b) (h2 : b ≤ hiOf (cutList p) i) (s : Int) :
    tstep l s b = tstep l s (loOf (cutList p) i) := by
  obtain ⟨hI, hg⟩ := ivs_of hp.1
  by_cases c : s < 0
  · rw [tstep_neg c, tstep_neg c]
  · by_cases d : s < l.length
    · obtain ⟨k, rfl⟩ := Int.eq_ofNat_of_zero_le (by omega : 0 ≤ s)
      rw [tstep_nat l k _ (by omega), tstep_nat l k _ (by omega)]
      apply estep_const h1
      intro c hc1 hc2 e he
      have hf := hg i hi c hc1 (by omega)
      have hc256 : c < 256 := by have := (hI.le i hi).2; omega
      refine ⟨fun e1 => ?_, fun e1 => ?_⟩
      · rw [hp.2 _ (List.getElem_mem (by omega)) e he c hc256 (.inl e1)] at hf; cases hf
      · rw [hp.2 _ (List.getElem_mem (by omega)) e he c hc256 (.inr e1)] at hf; cases hf
    · rw [tstep_out l s _ (by omega), tstep_out l s _ (by omega)]

/-- a sink in place of -1 -/
def snk (n : Nat) (x : Int) : Int := if x < 0 then n else x
theorem snk_lang {l : Table} (_ : WF l) (s : Int) (b : Nat) (w : List UInt8) : accFrom l (snk l.length (tstep l s b)) w = accFrom l (tstep l s b) w := by
  unfold snk
  split
  · rename_i h
    rw [accFrom_out l _ w (Int.le_refl _), accFrom_neg h]
  · rfl
theorem snk_rng {l : Table} (hw : WF l) (s : Int) (b : Nat) : 0 ≤ snk l.length (tstep l s b) ∧ snk l.length (tstep l s b) ≤ l.length := by
  unfold snk
  rcases tstep_range hw s b with h | h
  · rw [h]; simp
  · rw [if_neg (by omega)]; omega

/-- the complete automaton -/
theorem ta_complete {l : Table} (hw : WF l) {p : Nat → Bool} (hp : Marks l p) :
    TaHyp l (l.length + 1) (loOf (cutList p)) (hiOf (cutList p)) (cutList p).length (fun s i => snk l.length (tstep l s (loOf (cutList p) i))) := by
  refine ⟨(ivs_of hp.1).1, fun s i hs hi => ?_, fun s i hs hi b h1 h2 w => ?_, fun s t i hs ht hi h => ?_⟩
  · have := snk_rng hw s (loOf (cutList p) i)
    omega
  · rw [tstep_const hp hi h1 h2, snk_lang hw]
  · have := snk_rng hw s (loOf (cutList p) i)
    omega

/-- a language at each state -/
def Lv (l : Table) (s : Int) : Prop := ∃ w, accFrom l s w = true

theorem bfs_complete {l : Table} (hw : WF l) {p : Nat → Bool} (hp : Marks l p) {cls : List Int} (hc : ClsOk l (l.length + 1) cls) {lives : Nat → Bool}
    (hl : ∀ s : Nat, s < l.length + 1 → (lives (cls.getD s 0).toNat = true ↔ Lv l s)) {ac : Nat → Bool} (ha : ∀ s : Nat, s < l.length + 1 → ac s = accAt l s) (h0 : Lv l 0) :
    BfsHyp l (l.length + 1) (fun s => cls.getD s 0)
      (fun s i => if lives (cls.getD (snk l.length (tstep l s (loOf (cutList p) i))).toNat 0).toNat = true then some (snk l.length (tstep l s (loOf (cutList p) i))).toNat else none)
      (loOf (cutList p)) (hiOf (cutList p)) ac (cutList p).length := by
  have R := fun (s i : Nat) => snk_rng hw s (loOf (cutList p) i)
  have E := fun (s i : Nat) => Int.toNat_of_nonneg (R s i).1
  refine ⟨(ivs_of hp.1).1, by omega, fun s i t hs hi h => ?_, fun s i hs hi h b h1 h2 w => ?_, fun s t hs ht => hc.eq s t hs ht, fun s hs => ha s hs, h0⟩
  · simp only [Option.ite_none_right_eq_some, Option.some.injEq] at h
    obtain ⟨h1, h2⟩ := h
    have r := R s i
    have e := E s i
    have ht : t < l.length + 1 := by omega
    rw [h2] at h1 e
    refine ⟨ht, (hl t ht).1 h1, fun b b1 b2 w => ?_⟩
    rw [tstep_const hp hi b1 b2, ← snk_lang hw, ← e]
  · simp only [ite_eq_right_iff, reduceCtorEq, imp_false] at h
    have r := R s i
    have e := E s i
    rw [tstep_const hp hi h1 h2, ← snk_lang hw, ← e]
    rw [hl _ (by omega)] at h
    cases hx : accFrom l ((snk l.length (tstep l s (loOf (cutList p) i))).toNat : Int) w with
    | false => rfl
    | true => exact absurd ⟨w, hx⟩ h

/-- without the edges to dead states -/
def trimT (l : Table) (lives : Nat → Bool) : Table := l.map fun s => ⟨s.accept, s.edges.filter fun e => lives e.to.toNat⟩
theorem estep_filter {n : Nat} {es : List Ed} {lives : Nat → Bool} : ∀ {p : Int}, wfEdges n p es → ∀ b,
    estep (es.filter fun e => lives e.to.toNat) b = if 0 ≤ estep es b ∧ lives (estep es b).toNat = true then estep es b else -1 := by
  induction es with
  | nil => intro p _ b; simp [estep]
  | cons e es ih =>
    intro p ⟨h1, h2, h3, h4, h5⟩ b
    have ih := ih h5 b
    rw [List.filter_cons]
    by_cases c : e.lo ≤ b ∧ b ≤ e.hi
    · have hb : estep es b = -1 := estep_below h5 (by omega)
      simp only [estep, if_pos c]
      split
      · rename_i hl
        rw [if_pos ⟨h2, hl⟩]
        simp [estep, c]
      · rename_i hl
        rw [if_neg (fun h => hl h.2), ih, hb]
        simp
    · simp only [estep, if_neg c]
      split
      · simp only [estep, if_neg c]; exact ih
      · exact ih
theorem wfEdges_filter {n : Nat} {es : List Ed} {q : Ed → Bool} : ∀ {p : Int}, wfEdges n p es → wfEdges n p (es.filter q) := by
  induction es with
  | nil => intro p _; trivial
  | cons e es ih =>
    intro p ⟨h1, h2, h3, h4, h5⟩
    rw [List.filter_cons]
    split
    · exact ⟨h1, h2, h3, h4, ih h5⟩
    · exact wfEdges_low (ih h5) (by omega)
theorem trim_wf {l : Table} (hw : WF l) (lives : Nat → Bool) : WF (trimT l lives) := by
  intro s hs
  obtain ⟨x, hx, rfl⟩ := List.mem_map.1 hs
  have := wfEdges_filter (q := fun e => lives e.to.toNat) (hw x hx)
  simpa [trimT] using this
theorem trim_bytes {l : Table} (hw : Bytes l) (lives : Nat → Bool) : Bytes (trimT l lives) := by
  intro s hs
  obtain ⟨x, hx, rfl⟩ := List.mem_map.1 hs
  intro e he
  exact hw x hx e (List.mem_filter.1 he).1
theorem trim_step {l : Table} (hw : WF l) (lives : Nat → Bool) (s : Nat) (hs : s < l.length) (b : Nat) :
    tstep (trimT l lives) s b = if 0 ≤ tstep l s b ∧ lives (tstep l s b).toNat = true then tstep l s b else -1 := by
  rw [tstep_nat _ s b (by simpa [trimT] using hs), tstep_nat l s b hs]
  simp only [trimT, List.getElem_map]
  exact estep_filter (hw _ (List.getElem_mem hs)) b
theorem trim_lang {l : Table} (hw : WF l) {lives : Nat → Bool} (hl : ∀ s : Nat, s < l.length → (lives s = true ↔ Lv l s)) : ∀ (w : List UInt8) (s : Int), accFrom (trimT l lives) s w = accFrom l s w := by
  have hlen : (trimT l lives).length = l.length := by simp [trimT]
  intro w
  induction w with
  | nil =>
    intro s
    simp only [accFrom]
    by_cases c : s < 0
    · simp [accAt, c]
    · by_cases d : s < l.length
      · obtain ⟨k, rfl⟩ := Int.eq_ofNat_of_zero_le (by omega : 0 ≤ s)
        rw [accAt_nat _ k (by omega), accAt_nat _ k (by omega)]
        simp [trimT]
      · have h1 := accFrom_out (trimT l lives) s [] (by omega)
        have h2 := accFrom_out l s [] (by omega)
        simp only [accFrom] at h1 h2
        rw [h1, h2]
  | cons b w ih =>
    intro s
    simp only [accFrom]
    rw [ih]
    by_cases c : s < 0
    · rw [tstep_neg c, tstep_neg c]
    · by_cases d : s < l.length
      · obtain ⟨k, rfl⟩ := Int.eq_ofNat_of_zero_le (by omega : 0 ≤ s)
        rw [trim_step hw lives k (by omega)]
        split
        · rfl
        · rename_i hn
          rw [accFrom_neg (by omega)]
          rcases tstep_range hw k b.toNat with h | ⟨h1, h2⟩
          · rw [h, accFrom_neg (by omega)]
          · cases hx : accFrom l (tstep l k b.toNat) w with
            | false => rfl
            | true =>
              exfalso
              apply hn
              refine ⟨h1, (hl _ (by omega)).2 ⟨w, ?_⟩⟩
              rw [Int.toNat_of_nonneg h1]; exact hx
      · rw [tstep_out _ _ _ (by omega), tstep_out _ _ _ (by omega)]

/-- a trimmed table -/
theorem ta_trimmed {l : Table} (hw : WF l) {p : Nat → Bool} (hp : Marks l p) (ht : ∀ s ∈ l, ∀ e ∈ s.edges, Lv l e.to) :
    TaHyp l l.length (loOf (cutList p)) (hiOf (cutList p)) (cutList p).length (fun s i => tstep l s (loOf (cutList p) i)) := by
  have hlive : ∀ (s : Nat) (b : Nat), 0 ≤ tstep l s b → Lv l (tstep l s b) := by
    intro s b h
    by_cases c : s < l.length
    · rw [tstep_nat l s b c] at h ⊢
      obtain ⟨e, he, e2⟩ : ∃ e ∈ (l[s]).edges, e.to = estep (l[s]).edges b := by
        generalize (l[s]).edges = es at h
        induction es with
        | nil => simp [estep] at h
        | cons x es ih =>
          simp only [estep] at h ⊢
          split at h
          · rename_i hc; exact ⟨x, by simp, by rw [if_pos hc]⟩
          · rename_i hc
            obtain ⟨e, he, e2⟩ := ih h
            exact ⟨e, by simp [he], by rw [if_neg hc]; exact e2⟩
      rw [← e2]
      exact ht _ (List.getElem_mem c) e he
    · rw [tstep_out l s b (by omega)] at h; omega
  refine ⟨(ivs_of hp.1).1, fun s i hs hi => ?_, fun s i hs hi b h1 h2 w => ?_, fun s t i hs ht' hi h hf => ?_⟩
  · rcases tstep_range hw s (loOf (cutList p) i) with h | h <;> omega
  · rw [tstep_const hp hi h1 h2]
  · rcases tstep_range hw t (loOf (cutList p) i) with h | ⟨h1, h2⟩
    · exact h
    · obtain ⟨w, hw'⟩ := hlive t _ h1
      rw [hf w] at hw'; cases hw'
theorem bfs_trimmed {l : Table} (hw : WF l) {p : Nat → Bool} (hp : Marks l p) (ht : ∀ s ∈ l, ∀ e ∈ s.edges, Lv l e.to) {cls : List Int} (hc : ClsOk l l.length cls)
    {ac : Nat → Bool} (ha : ∀ s : Nat, s < l.length → ac s = accAt l s) (h0 : Lv l 0) (hpos : 0 < l.length) :
    BfsHyp l l.length (fun s => cls.getD s 0)
      (fun s i => if tstep l s (loOf (cutList p) i) < 0 then none else some (tstep l s (loOf (cutList p) i)).toNat)
      (loOf (cutList p)) (hiOf (cutList p)) ac (cutList p).length := by
  have H := ta_trimmed hw hp ht
  have hlive : ∀ (s : Nat) (i : Nat), s < l.length → i < (cutList p).length → 0 ≤ tstep l s (loOf (cutList p) i) → Lv l (tstep l s (loOf (cutList p) i)) := by
    intro s i hs hi h
    apply Classical.byContradiction
    intro hn
    have hf : ∀ w, accFrom l (tstep l s (loOf (cutList p) i)) w = false := fun w => by
      cases hx : accFrom l (tstep l s (loOf (cutList p) i)) w with
      | false => rfl
      | true => exact absurd ⟨w, hx⟩ hn
    rw [tstep_nat l s _ hs] at h hn
    obtain ⟨e, he, e2⟩ : ∃ e ∈ (l[s]).edges, e.to = estep (l[s]).edges (loOf (cutList p) i) := by
      generalize (l[s]).edges = es at h
      induction es with
      | nil => simp [estep] at h
      | cons x es ih =>
        simp only [estep] at h ⊢
        split at h
        · rename_i hc; exact ⟨x, by simp, by rw [if_pos hc]⟩
        · rename_i hc
          obtain ⟨e, he, e2⟩ := ih h
          exact ⟨e, by simp [he], by rw [if_neg hc]; exact e2⟩
    rw [← e2] at hn
    exact hn (ht _ (List.getElem_mem hs) e he)
  refine ⟨(ivs_of hp.1).1, hpos, fun s i t hs hi h => ?_, fun s i hs hi h b h1 h2 w => ?_, fun s t hs ht => hc.eq s t hs ht, fun s hs => ha s hs, h0⟩
  · split at h
    · cases h
    · rename_i hn
      simp only [Option.some.injEq] at h
      have r := tstep_range hw s (loOf (cutList p) i)
      have e : ((t : Nat) : Int) = tstep l s (loOf (cutList p) i) := by omega
      refine ⟨by omega, ?_, fun b b1 b2 w => ?_⟩
      · rw [e]; exact hlive s i hs hi (by omega)
      · rw [tstep_const hp hi b1 b2, ← e]
  · split at h
    · rename_i hn
      rw [tstep_const hp hi h1 h2]
      exact accFrom_neg hn w
    · cases h

/-- the states that can be reached, renumbered -/
def idPos (o : List Nat) (t : Nat) : Nat := posOf (fun s => (s : Int)) o t
def renum (o : List Nat) (s : Sn) : Sn := ⟨s.accept, s.edges.map fun e => ⟨e.lo, e.hi, (idPos o e.to.toNat : Int)⟩⟩
structure ReachInv (l : Table) (o : List Nat) (k : Nat) : Prop where
  first : o[0]? = some 0
  nodup : o.Nodup
  lt : ∀ x ∈ o, x < l.length
  le : k ≤ o.length
  there : ∀ j, (h : j < k) → (h' : j < o.length) → ∀ s, l[o[j]]? = some s → ∀ e ∈ s.edges, e.to.toNat ∈ o
def reachT (l : Table) (o : List Nat) (k : Nat) : Table := (o.take k).map fun x => renum o (l.getD x ⟨false, []⟩)

theorem dif_id {o : List Nat} (h : o.Nodup) : Dif (fun s => (s : Int)) o := by
  refine List.Pairwise.imp ?_ h
  intro a b hab h'
  exact hab (by have h' : (a : Int) = b := h'; omega)
theorem idPos_of_mem {o : List Nat} {t : Nat} (h : t ∈ o) : ∃ hp : idPos o t < o.length, o[idPos o t] = t := by
  have hp : idPos o t < o.length := List.findIdx_lt_length.2 ⟨t, h, by simp⟩
  refine ⟨hp, ?_⟩
  have := posOf_get (cf := fun s => (s : Int)) (o := o) (t := t) hp
  have : ((o[idPos o t] : Nat) : Int) = (t : Int) := this
  omega
theorem estep_renum {n : Nat} {o : List Nat} {es : List Ed} : ∀ {p : Int}, wfEdges n p es → ∀ b,
    estep (es.map fun e => (⟨e.lo, e.hi, (idPos o e.to.toNat : Int)⟩ : Ed)) b = if estep es b < 0 then -1 else (idPos o (estep es b).toNat : Int) := by
  induction es with
  | nil => intro p _ b; simp [estep]
  | cons e es ih =>
    intro p ⟨h1, h2, h3, h4, h5⟩ b
    have ih := ih h5 b
    simp only [List.map_cons]
    by_cases c : e.lo ≤ b ∧ b ≤ e.hi
    · have e1 : estep (e :: es) b = e.to := by simp [estep, c]
      have e2 : ∀ fs, estep (⟨e.lo, e.hi, (idPos o e.to.toNat : Int)⟩ :: fs) b = (idPos o e.to.toNat : Int) := fun fs => by simp [estep, c]
      rw [e2]
      simp only [e1]
      rw [if_neg (by omega)]
    · have e1 : estep (e :: es) b = estep es b := by simp only [estep]; rw [if_neg c]
      have e2 : ∀ fs, estep (⟨e.lo, e.hi, (idPos o e.to.toNat : Int)⟩ :: fs) b = estep fs b := fun fs => by simp only [estep]; rw [if_neg c]
      rw [e2]
      simp only [e1]
      exact ih
theorem wfEdges_renum {n m : Nat} {o : List Nat} {es : List Ed} : ∀ {p : Int}, wfEdges n p es → (∀ e ∈ es, idPos o e.to.toNat < m) → wfEdges m p (es.map fun e => (⟨e.lo, e.hi, (idPos o e.to.toNat : Int)⟩ : Ed)) := by
  induction es with
  | nil => intro p _ _; trivial
  | cons e es ih =>
    intro p ⟨h1, h2, h3, h4, h5⟩ hm
    exact ⟨h1, by simp, by have := hm e (by simp); simp; omega, h4, ih h5 fun x hx => hm x (by simp [hx])⟩
theorem reach_all {l : Table} (hw : WF l) (hb : Bytes l) {o : List Nat} (h : ReachInv l o o.length) :
    WF (reachT l o o.length) ∧ Bytes (reachT l o o.length) ∧ (reachT l o o.length).length = o.length ∧ ∀ w, accFrom (reachT l o o.length) 0 w = accFrom l 0 w := by
  have hlen : (reachT l o o.length).length = o.length := by simp [reachT]
  have hst : ∀ j, (hj : j < o.length) → (reachT l o o.length)[j]'(by omega) = renum o (l[o[j]]'(h.lt _ (List.getElem_mem hj))) := by
    intro j hj
    have hx := h.lt _ (List.getElem_mem hj)
    simp [reachT, hx]
  have hed : ∀ j, (hj : j < o.length) → ∀ e ∈ (l[o[j]]'(h.lt _ (List.getElem_mem hj))).edges, e.to.toNat ∈ o := by
    intro j hj e he
    have hx := h.lt _ (List.getElem_mem hj)
    exact h.there j hj hj _ (List.getElem?_eq_getElem hx) e he
  have hlang : ∀ w, ∀ j, (hj : j < o.length) → accFrom (reachT l o o.length) j w = accFrom l o[j] w := by
    intro w
    induction w with
    | nil =>
      intro j hj
      have hx := h.lt _ (List.getElem_mem hj)
      simp only [accFrom]
      rw [accAt_nat _ j (by omega), accAt_nat _ _ hx, hst j hj]
      rfl
    | cons b w ih =>
      intro j hj
      have hx := h.lt _ (List.getElem_mem hj)
      simp only [accFrom]
      rw [tstep_nat _ j _ (by omega), tstep_nat _ _ _ hx, hst j hj]
      have hwj := hw _ (List.getElem_mem hx)
      have := estep_renum (o := o) hwj b.toNat
      show accFrom _ (estep ((l[o[j]]).edges.map _) b.toNat) w = _
      rw [this]
      rcases estep_range hwj b.toNat with e | ⟨e1, e2⟩
      · rw [e]; simp only [show (-1 : Int) < 0 by omega, if_true]
        rw [accFrom_neg (by omega), accFrom_neg (by omega)]
      · rw [if_neg (by omega)]
        obtain ⟨e, he, e3⟩ := estep_mem e1
        have hm := hed j hj e he
        rw [e3] at hm
        obtain ⟨hp, hg⟩ := idPos_of_mem hm
        rw [ih _ hp, hg, Int.toNat_of_nonneg e1]
  have h0 : 0 < o.length := by
    have := h.first
    cases o with
    | nil => simp at this
    | cons _ _ => simp
  have ho0 : o[0] = 0 := by
    obtain ⟨h1, e⟩ := List.getElem?_eq_some_iff.1 h.first
    exact e
  refine ⟨?_, ?_, hlen, fun w => ?_⟩
  · intro s hs
    obtain ⟨j, hj, rfl⟩ := List.mem_iff_getElem.1 hs
    rw [hlen] at hj
    rw [hst j hj]
    refine wfEdges_renum (hw _ (List.getElem_mem _)) fun e he => ?_
    rw [hlen]
    exact (idPos_of_mem (hed j hj e he)).1
  · intro s hs
    obtain ⟨j, hj, rfl⟩ := List.mem_iff_getElem.1 hs
    rw [hlen] at hj
    rw [hst j hj]
    intro e he
    obtain ⟨x, hx, rfl⟩ := List.mem_map.1 he
    exact hb _ (List.getElem_mem _) x hx
  · have := hlang w 0 h0
    rw [ho0] at this
    exact this
end Cl

namespace Cl
open Go Go.RowKit

theorem calls_hide {P : Program} {f : FuncId} {args : Array Value} {w : World} {X : Ending → World → Prop}
    (h : ∀ R : Ending → World → Prop, Hid (∀ e w', X e w' → R e w') → Calls P f args w R) : Calls P f args w X := h X (fun _ _ h => h)

theorem ret_int {k : IntKind} {a b : Int} (h : a = b) : Ending.returned (.int k a) = .returned (.int k b) := by rw [h]
theorem ret_bool {a b : Bool} (h : a = b) : Ending.returned (.bool a) = .returned (.bool b) := by rw [h]

def lk : List (Nat × Value) → Nat → Value → Value
  | [], _, d => d
  | (k, v) :: r, i, d => if i = k then v else lk r i d
/-- the frame that holds the values of 'kv' at their places, and z elsewhere -/
def litL (z : Nat → Value) (kv : List (Nat × Value)) : Nat → Nat → List Value
  | _, 0 => []
  | i, n + 1 => lk kv i (z i) :: litL z kv (i + 1) n

theorem litL_length (z : Nat → Value) (kv : List (Nat × Value)) : ∀ n i, (litL z kv i n).length = n := by
  intro n
  induction n with
  | zero => intro i; rfl
  | succ n ih => intro i; simp [litL, ih]
theorem litL_get (z : Nat → Value) (kv : List (Nat × Value)) : ∀ n i j, j < n → (litL z kv i n)[j]? = some (lk kv (i + j) (z (i + j))) := by
  intro n
  induction n with
  | zero => intro i j h; omega
  | succ n ih =>
    intro i j h
    cases j with
    | zero => simp [litL]
    | succ j =>
      simp only [litL, List.getElem?_cons_succ]
      rw [ih (i + 1) j (by omega)]
      rw [show i + 1 + j = i + (j + 1) by omega]
theorem lk_zip_map (f : Nat → Value) (K : List Nat) (i : Nat) : lk (K.zip (K.map f)) i (f i) = f i := by
  induction K with
  | nil => rfl
  | cons k K ih =>
    simp only [List.map_cons, List.zip_cons_cons, lk]
    by_cases h : i = k
    · subst h; simp
    · simp [h, ih]
theorem litL_self (tmps : Array Value) (K : List Nat) : (litL (fun i => tmps.getD i undef) (K.zip (K.map fun i => tmps.getD i undef)) 0 tmps.size).toArray = tmps := by
  apply Array.ext
  · simp [litL_length]
  · intro i h1 h2
    have := litL_get (fun i => tmps.getD i undef) (K.zip (K.map fun i => tmps.getD i undef)) tmps.size 0 i (by simpa using h2)
    rw [Nat.zero_add, lk_zip_map (fun i => tmps.getD i undef) K i] at this
    have h3 := List.getElem?_eq_some_iff.1 this
    obtain ⟨h4, h5⟩ := h3
    simp only [List.getElem_toArray]
    rw [h5]
    simp [Array.getD, h2]

/-- A LOOP: the relation speaks of the slots of K alone; 'body n' holds with a number that every round lowers. -/
theorem wp_loop_keep {P : Program} {c : Code} {Q : Exit → Act → World → Prop} {tmps : Array Value} {w : World} (K : List Nat) (body : Nat → List Value → World → Prop)
    (h0 : ∃ n, body n (K.map fun i => tmps.getD i undef) w)
    (round : ∀ (X : Act → World → Prop) (z : Nat → Value) (n : Nat) (vs : List Value) (wr : World), Hid (∀ n' (tmps' : Array Value) w', n' < n → tmps'.size = tmps.size → body n' (K.map fun i => tmps'.getD i undef) w' → X ⟨tmps', []⟩ w') →
      vs.length = K.length → body n vs wr → c.wp P (Exit.then X Q) ⟨(litL z (K.zip vs) 0 tmps.size).toArray, []⟩ wr) :
    (Code.loop c).wp P Q ⟨tmps, []⟩ w := by
  let I : Nat → Act → World → Prop := fun n a w => a.defers = [] ∧ a.tmps.size = tmps.size ∧ body n (K.map fun i => a.tmps.getD i undef) w
  intro b k cs
  have key : ∀ n a w, I n a w → ∃ e a' w', Q e a' w' ∧ Arrives P (lone (b.at a (.code c :: .inLoop c :: k)) cs w) b k cs e a' w' := by
    intro n
    induction n using Nat.strongRecOn with
    | _ n ih =>
      intro a w ⟨hd, hs, hb⟩
      have ha : a = ⟨(litL (fun i => a.tmps.getD i undef) (K.zip (K.map fun i => a.tmps.getD i undef)) 0 tmps.size).toArray, []⟩ := by
        rw [← hs, litL_self]; cases a; simp_all
      have hr := round (fun a' w' => ∃ n', n' < n ∧ I n' a' w') (fun i => a.tmps.getD i undef) n _ w (fun n' t' w' h1 h2 h3 => ⟨n', h1, rfl, h2, h3⟩) (by simp) hb
      rw [← ha] at hr
      obtain ⟨e, a₁, w₁, hq, harr⟩ := hr b (.inLoop c :: k) cs
      cases e with
      | normal =>
        obtain ⟨n', hlt, hI1⟩ := hq
        obtain ⟨e₂, a₂, w₂, hq₂, harr₂⟩ := ih n' hlt a₁ w₁ hI1
        exact ⟨e₂, a₂, w₂, hq₂, .of_steps (Steps.trans harr (.one step_inLoop)) harr₂⟩
      | exit id => exact ⟨_, a₁, w₁, hq, .pass (x := .inLoop c) rfl (fun _ _ => .inl (by simp)) harr⟩
      | goto l => exact ⟨_, a₁, w₁, hq, .pass (x := .inLoop c) rfl (fun _ _ => .inl (by simp)) harr⟩
      | ret => exact ⟨_, a₁, w₁, hq, .pass (x := .inLoop c) rfl (fun _ _ => .inl (by simp)) harr⟩
      | panic ch => exact ⟨_, a₁, w₁, hq, .pass (x := .inLoop c) rfl (fun _ _ => .inl (by simp)) harr⟩
      | outgrown => exact ⟨_, a₁, w₁, hq, .pass (x := .inLoop c) rfl (fun _ _ => .inl (by simp)) harr⟩
  obtain ⟨n, h0⟩ := h0
  obtain ⟨e, a', w', hq, harr⟩ := key n ⟨tmps, []⟩ w ⟨rfl, rfl, h0⟩
  exact ⟨e, a', w', hq, .of_steps (.one step_loop) harr⟩

/-- THE SLOTS THAT NOBODY READS ANY MORE ARE FORGOTTEN: those of K stay. -/
theorem wp_keep {P : Program} {c : Code} {Q : Exit → Act → World → Prop} {tmps : Array Value} {w : World} (K : List Nat)
    (h : ∀ z : Nat → Value, c.wp P Q ⟨(litL z (K.zip (K.map fun i => tmps.getD i undef)) 0 tmps.size).toArray, []⟩ w) : c.wp P Q ⟨tmps, []⟩ w := by
  have := h (fun i => tmps.getD i undef)
  rwa [litL_self] at this

/-- THE WAYS THROUGH A PIECE MEET AGAIN: what is known behind it is said of the slots of K. -/
theorem wp_cut_keep {P : Program} {c : Code} {Q : Exit → Act → World → Prop} {tmps : Array Value} {w : World} (K : List Nat) (Mid : List Value → World → Prop)
    (h1 : ∀ (X : Act → World → Prop), Hid (∀ (tmps' : Array Value) w', tmps'.size = tmps.size → Mid (K.map fun i => tmps'.getD i undef) w' → X ⟨tmps', []⟩ w') → c.wp P (Exit.then X (fun _ _ _ => False)) ⟨tmps, []⟩ w)
    (h2 : ∀ (z : Nat → Value) (vs : List Value) (w' : World), vs.length = K.length → Mid vs w' → Q .normal ⟨(litL z (K.zip vs) 0 tmps.size).toArray, []⟩ w') : c.wp P Q ⟨tmps, []⟩ w := by
  refine wp_mono (h1 (fun a' w' => a'.defers = [] ∧ a'.tmps.size = tmps.size ∧ Mid (K.map fun i => a'.tmps.getD i undef) w') (fun t w' hs hm => ⟨rfl, hs, hm⟩)) ?_
  rintro e ⟨t, d⟩ w' hq
  cases e with
  | normal =>
    obtain ⟨hd, hs, hm⟩ := hq
    have h := h2 (fun i => t.getD i undef) _ w' (by simp) hm
    dsimp only at hs hd
    subst hd
    rw [← hs, litL_self] at h
    exact h
  | _ => exact hq.elim

theorem below_al {w wr : World} (h : Below w.heap.size w wr) (o : Obj) : Below w.heap.size w (wr.alloc o) := h.alloc h.size o
theorem cell_of_below {w w' : World} (h : Below w.heap.size w w') {b o : Nat} {v : Value} (hb : b < w.heap.size) (hc : w.cell? ⟨b, o, none⟩ = some v) : w'.cell? ⟨b, o, none⟩ = some v :=
  (h.cell (p := ⟨b, o, none⟩) hb).trans hc
theorem below_then {w wr w' : World} (h : Below w.heap.size w wr) (h' : Below wr.heap.size wr w') : Below w.heap.size w w' := h.trans (h'.mono h.size)
theorem below_drewN {B : Nat} {a w : World} (h : Below B a w) (n : Nat) : Below B a (w.drewN n) := ⟨h.os, h.tape, h.output, h.size, h.block⟩
end Cl
namespace Cl
open Go Go.RowKit

/-- Memory that is not written any more: a part of the heap. -/
abbrev Mem := Nat → Option Obj

structure Mem.le (m m' : Mem) : Prop where
  get : ∀ k o, m k = some o → m' k = some o
structure Mem.inn (m : Mem) (w : World) : Prop where
  get : ∀ k o, m k = some o → w.heap[k]? = some o
def Mem.cell (m : Mem) (b o : Nat) : Option Value := match m b with
  | some (.cells c _ _) => c[o]?
  | _ => none
def Mem.of (w : World) : Mem := fun k => w.heap[k]?

theorem Mem.of_inn (w : World) : (Mem.of w).inn w := ⟨fun _ _ h => h⟩
theorem Mem.le_of {m : Mem} {w : World} (h : m.inn w) : m.le (Mem.of w) := ⟨h.get⟩
theorem Mem.le_refl (m : Mem) : m.le m := ⟨fun _ _ h => h⟩
theorem Mem.le_trans {a b c : Mem} (h : a.le b) (k : b.le c) : a.le c := ⟨fun i o x => k.get i o (h.get i o x)⟩
theorem Mem.inn_le {m m' : Mem} {w : World} (h : m.le m') (k : m'.inn w) : m.inn w := ⟨fun i o x => k.get i o (h.get i o x)⟩

theorem Mem.cell_w {m : Mem} {w : World} (h : m.inn w) {b o : Nat} {v : Value} (hc : m.cell b o = some v) : w.cell? ⟨b, o, none⟩ = some v := by
  unfold Mem.cell at hc
  split at hc
  · rename_i c t fr hb
    simp [World.cell?, h.get _ _ hb, hc]
  · cases hc
theorem Mem.cell_lt {m : Mem} {w : World} (h : m.inn w) {b o : Nat} {v : Value} (hc : m.cell b o = some v) : b < w.heap.size := by
  have := Mem.cell_w h hc
  simp only [World.cell?] at this
  split at this
  · rename_i hb
    exact (Array.getElem?_eq_some_iff.1 hb).1
  · cases this
theorem Mem.cell_le {m m' : Mem} (h : m.le m') {b o : Nat} {v : Value} (hc : m.cell b o = some v) : m'.cell b o = some v := by
  unfold Mem.cell at hc ⊢
  split at hc
  · rename_i c t fr hb
    rw [h.get _ _ hb]
    exact hc
  · cases hc

/-- A slice value over memory: 'R b o x' says that the cells from 'o' on of block b hold x. -/
def Mem.slice {α : Type} (R : Nat → Nat → α → Prop) (size : Nat) (v : Value) (l : List α) : Prop :=
  ∃ a c, v = .slice a l.length c ∧ l.length ≤ c ∧ c ≤ maxLen ∧ (l ≠ [] → ∃ b off, a = some ⟨b, off, none⟩ ∧ ∀ i (h : i < l.length), R b (off + i * size) l[i])

theorem Mem.slice_mono {α : Type} {R R' : Nat → Nat → α → Prop} {size : Nat} {v : Value} {l : List α} (h : Mem.slice R size v l) (hr : ∀ b o x, R b o x → R' b o x) : Mem.slice R' size v l := by
  obtain ⟨a, c, h1, h2, h3, h4⟩ := h
  refine ⟨a, c, h1, h2, h3, fun hne => ?_⟩
  obtain ⟨b, off, h5, h6⟩ := h4 hne
  exact ⟨b, off, h5, fun i hi => hr _ _ _ (h6 i hi)⟩

def edgeAt (m : Mem) (b o : Nat) (e : Ed) : Prop :=
  m.cell b o = some (.int .u8 e.lo) ∧ m.cell b (o + 1) = some (.int .u8 e.hi) ∧ m.cell b (o + 2) = some (.int .i64 e.to) ∧
  e.lo < 256 ∧ e.hi < 256 ∧ -9223372036854775808 ≤ e.to ∧ e.to ≤ 9223372036854775807
def edgesAt (m : Mem) (v : Value) (es : List Ed) : Prop := Mem.slice (edgeAt m) 3 v es
def stateAt (m : Mem) (b o : Nat) (s : Sn) : Prop :=
  m.cell b o = some (.bool s.accept) ∧ ∃ ve, m.cell b (o + 1) = some ve ∧ edgesAt m ve s.edges
def statesAt (m : Mem) (v : Value) (l : Table) : Prop := Mem.slice (stateAt m) 2 v l

theorem edgeAt_le {m m' : Mem} (h : m.le m') {b o : Nat} {e : Ed} (k : edgeAt m b o e) : edgeAt m' b o e :=
  ⟨Mem.cell_le h k.1, Mem.cell_le h k.2.1, Mem.cell_le h k.2.2.1, k.2.2.2⟩
theorem edgesAt_le {m m' : Mem} (h : m.le m') {v : Value} {es : List Ed} (k : edgesAt m v es) : edgesAt m' v es := Mem.slice_mono k fun _ _ _ => edgeAt_le h
theorem stateAt_le {m m' : Mem} (h : m.le m') {b o : Nat} {s : Sn} (k : stateAt m b o s) : stateAt m' b o s := by
  obtain ⟨h1, ve, h2, h3⟩ := k
  exact ⟨Mem.cell_le h h1, ve, Mem.cell_le h h2, edgesAt_le h h3⟩
theorem statesAt_le {m m' : Mem} (h : m.le m') {v : Value} {l : Table} (k : statesAt m v l) : statesAt m' v l := Mem.slice_mono k fun _ _ _ => stateAt_le h
end Cl
namespace Cl
open Go Go.RowKit
theorem Mem.inn_below {m : Mem} {w w' : World} (h : m.inn w) (hb : Below w.heap.size w w') : m.inn w' := ⟨fun k o hk => by
  have := h.get k o hk
  rw [hb.block k (Array.getElem?_eq_some_iff.1 this).1]
  exact this⟩
end Cl
namespace Cl
open Go Go.RowKit
/-- elements of one cell -/
def Mem.slice1 {α : Type} (R : Nat → Nat → α → Prop) (v : Value) (l : List α) : Prop :=
  ∃ a c, v = .slice a l.length c ∧ l.length ≤ c ∧ c ≤ maxLen ∧ (l ≠ [] → ∃ b off, a = some ⟨b, off, none⟩ ∧ ∀ i (h : i < l.length), R b (off + i) l[i])
theorem Mem.slice1_mono {α : Type} {R R' : Nat → Nat → α → Prop} {v : Value} {l : List α} (h : Mem.slice1 R v l) (hr : ∀ b o x, R b o x → R' b o x) : Mem.slice1 R' v l := by
  obtain ⟨a, c, h1, h2, h3, h4⟩ := h
  refine ⟨a, c, h1, h2, h3, fun hne => ?_⟩
  obtain ⟨b, off, h5, h6⟩ := h4 hne
  exact ⟨b, off, h5, fun i hi => hr _ _ _ (h6 i hi)⟩
def boolAt (m : Mem) (b o : Nat) (x : Bool) : Prop := m.cell b o = some (.bool x)
def intAt (m : Mem) (b o : Nat) (x : Int) : Prop := m.cell b o = some (.int .i64 x) ∧ -9223372036854775808 ≤ x ∧ x ≤ 9223372036854775807
def strAt (m : Mem) (b o : Nat) (x : ByteArray) : Prop := m.cell b o = some (.string x) ∧ x.size ≤ maxLen
def pairAt (m : Mem) (b o : Nat) (x : Int × Int) : Prop := m.cell b o = some (.int .i64 x.1) ∧ m.cell b (o + 1) = some (.int .i64 x.2) ∧ -9223372036854775808 ≤ x.1 ∧ x.1 ≤ 9223372036854775807 ∧ -9223372036854775808 ≤ x.2 ∧ x.2 ≤ 9223372036854775807
def boolsAt (m : Mem) (v : Value) (l : List Bool) : Prop := Mem.slice1 (boolAt m) v l
def intsAt (m : Mem) (v : Value) (l : List Int) : Prop := Mem.slice1 (intAt m) v l
def strsAt (m : Mem) (v : Value) (l : List ByteArray) : Prop := Mem.slice1 (strAt m) v l
def pairsAt (m : Mem) (v : Value) (l : List (Int × Int)) : Prop := Mem.slice (pairAt m) 2 v l
def intssAt (m : Mem) (v : Value) (l : List (List Int)) : Prop := Mem.slice1 (fun b o x => ∃ u, m.cell b o = some u ∧ intsAt m u x) v l
def boolssAt (m : Mem) (v : Value) (l : List (List Bool)) : Prop := Mem.slice1 (fun b o x => ∃ u, m.cell b o = some u ∧ boolsAt m u x) v l
theorem boolsAt_le {m m' : Mem} (h : m.le m') {v : Value} {l : List Bool} (k : boolsAt m v l) : boolsAt m' v l := Mem.slice1_mono k fun _ _ _ => Mem.cell_le h
theorem intsAt_le {m m' : Mem} (h : m.le m') {v : Value} {l : List Int} (k : intsAt m v l) : intsAt m' v l := Mem.slice1_mono k fun _ _ _ k => ⟨Mem.cell_le h k.1, k.2⟩
theorem strsAt_le {m m' : Mem} (h : m.le m') {v : Value} {l : List ByteArray} (k : strsAt m v l) : strsAt m' v l := Mem.slice1_mono k fun _ _ _ k => ⟨Mem.cell_le h k.1, k.2⟩
theorem pairsAt_le {m m' : Mem} (h : m.le m') {v : Value} {l : List (Int × Int)} (k : pairsAt m v l) : pairsAt m' v l :=
  Mem.slice_mono k fun _ _ _ k => ⟨Mem.cell_le h k.1, Mem.cell_le h k.2.1, k.2.2⟩
theorem intssAt_le {m m' : Mem} (h : m.le m') {v : Value} {l : List (List Int)} (k : intssAt m v l) : intssAt m' v l :=
  Mem.slice1_mono k fun _ _ _ ⟨u, k1, k2⟩ => ⟨u, Mem.cell_le h k1, intsAt_le h k2⟩
theorem boolssAt_le {m m' : Mem} (h : m.le m') {v : Value} {l : List (List Bool)} (k : boolssAt m v l) : boolssAt m' v l :=
  Mem.slice1_mono k fun _ _ _ ⟨u, k1, k2⟩ => ⟨u, Mem.cell_le h k1, boolsAt_le h k2⟩

/-- the first place at which p holds, or -1 -/
noncomputable def firstIdx {α : Type} (p : α → Prop) : List α → Nat → Int
  | [], _ => -1
  | x :: l, k => if tf (p x) then (k : Int) else firstIdx p l (k + 1)
theorem firstIdx_drop {α : Type} (p : α → Prop) (l : List α) (k : Nat) (h : k < l.length) : firstIdx p (l.drop k) k = if tf (p l[k]) then (k : Int) else firstIdx p (l.drop (k + 1)) (k + 1) := by
  rw [List.drop_eq_getElem_cons h]; rfl
theorem firstIdx_spec {α : Type} (p : α → Prop) (l : List α) : ∀ k, (firstIdx p l k = -1 ∧ ∀ x ∈ l, ¬ p x) ∨ (∃ i, ∃ h : i < l.length, firstIdx p l k = ((k + i : Nat) : Int) ∧ p l[i] ∧ ∀ j, ∀ hj : j < l.length, j < i → ¬ p l[j]) := by
  induction l with
  | nil => intro k; left; exact ⟨rfl, by simp⟩
  | cons x l ih =>
    intro k
    by_cases hx : p x
    · right
      exact ⟨0, by simp, by simp [firstIdx, tf_true hx], hx, fun j _ hj => by omega⟩
    · have e : firstIdx p (x :: l) k = firstIdx p l (k + 1) := by simp [firstIdx, tf_false hx]
      rcases ih (k + 1) with ⟨h1, h2⟩ | ⟨i, h1, h2, h3, h4⟩
      · left
        exact ⟨e.trans h1, by simpa using ⟨hx, h2⟩⟩
      · right
        refine ⟨i + 1, by simp; omega, e.trans (h2.trans (by congr 1; omega)), by simpa using h3, ?_⟩
        intro j hj hji
        cases j with
        | zero => simpa using hx
        | succ j => simpa using h4 j (by simpa using hj) (by omega)
theorem list_step {α : Type} (l l' : List α) (k : Nat) (h : k < l.length) (h' : k < l'.length) : l.drop k = l'.drop k ↔ l[k] = l'[k] ∧ l.drop (k + 1) = l'.drop (k + 1) := by
  rw [List.drop_eq_getElem_cons h, List.drop_eq_getElem_cons h', List.cons.injEq]
end Cl
namespace Cl
open Go Go.RowKit

/-- block g holds the cells arr -/
structure ObjAt (w : World) (g : Nat) (t : TypeId) (arr : Array Value) : Prop where
  get : w.heap[g]? = some (.cells arr t (0, 0))

theorem ObjAt.lt {w : World} {g : Nat} {t : TypeId} {arr : Array Value} (h : ObjAt w g t arr) : g < w.heap.size := (Array.getElem?_eq_some_iff.1 h.get).1
theorem ObjAt.cell {w : World} {g : Nat} {t : TypeId} {arr : Array Value} (h : ObjAt w g t arr) {i : Nat} {v : Value} (hi : arr[i]? = some v) : w.cell? ⟨g, i, none⟩ = some v := by
  simp [World.cell?, h.get, hi]
theorem ObjAt.frozen {w : World} {g : Nat} {t : TypeId} {arr : Array Value} (h : ObjAt w g t arr) (i : Nat) : w.frozen? ⟨g, i, none⟩ = false := by
  simp [World.frozen?, h.get]
theorem ObjAt.of_heap {w w' : World} {g : Nat} {t : TypeId} {arr : Array Value} (h : ObjAt w g t arr) (e : w'.heap[g]? = w.heap[g]?) : ObjAt w' g t arr := ⟨e.trans h.get⟩
theorem ObjAt.al {w : World} {g : Nat} {t : TypeId} {arr : Array Value} (h : ObjAt w g t arr) (o : Obj) : ObjAt (w.alloc o) g t arr := h.of_heap (Below.heap_alloc _ _ _ h.lt)
theorem ObjAt.dr {w : World} {g : Nat} {t : TypeId} {arr : Array Value} (h : ObjAt w g t arr) : ObjAt w.drew g t arr := h.of_heap rfl
theorem ObjAt.drN {w : World} {g : Nat} {t : TypeId} {arr : Array Value} (h : ObjAt w g t arr) (n : Nat) : ObjAt (w.drewN n) g t arr := h.of_heap rfl
theorem ObjAt.set {w : World} {g : Nat} {t : TypeId} {arr : Array Value} (h : ObjAt w g t arr) (i : Nat) (v : Value) : ObjAt (w.setCell ⟨g, i, none⟩ v) g t (arr.setIfInBounds i v) := by
  constructor
  simp [World.setCell, Array.getElem?_modify, h.get]
theorem ObjAt.set_ne {w : World} {g : Nat} {t : TypeId} {arr : Array Value} (h : ObjAt w g t arr) {a : Addr} (hne : g ≠ a.block) (v : Value) : ObjAt (w.setCell a v) g t arr := h.of_heap (Below.heap_setCell _ _ _ _ hne)
theorem ObjAt.below {B : Nat} {w w' : World} {g : Nat} {t : TypeId} {arr : Array Value} (h : ObjAt w g t arr) (hb : Below B w w') (hg : g < B) : ObjAt w' g t arr := h.of_heap (hb.block _ hg)
theorem ObjAt.grown {w w' : World} {row : Option Nat} {g : Nat} {t : TypeId} {arr : Array Value} (h : ObjAt w g t arr) (hg : w.grownBy w' row) (hne : some g ≠ row) : ObjAt w' g t arr := h.of_heap (hg.block _ h.lt hne)
theorem ObjAt.new (w : World) (t : TypeId) (arr : Array Value) : ObjAt (w.alloc (.cells arr t)) w.heap.size t arr := by
  constructor
  show (w.heap.push _)[w.heap.size]? = _
  simp

theorem Mem.inn_al {m : Mem} {w : World} (h : m.inn w) (o : Obj) : m.inn (w.alloc o) :=
  ⟨fun k u hk => (Below.heap_alloc _ _ _ (Array.getElem?_eq_some_iff.1 (h.get k u hk)).1).trans (h.get k u hk)⟩
theorem Mem.inn_dr {m : Mem} {w : World} (h : m.inn w) : m.inn w.drew := ⟨fun k u hk => h.get k u hk⟩
theorem Mem.inn_drN {m : Mem} {w : World} (h : m.inn w) (n : Nat) : m.inn (w.drewN n) := ⟨fun k u hk => h.get k u hk⟩
theorem Mem.inn_set {m : Mem} {w : World} (h : m.inn w) {a : Addr} (ha : m a.block = none) (v : Value) : m.inn (w.setCell a v) :=
  ⟨fun k u hk => (Below.heap_setCell _ _ _ _ (by intro e; rw [e, ha] at hk; cases hk)).trans (h.get k u hk)⟩
theorem Mem.inn_grown {m : Mem} {w w' : World} {row : Option Nat} (h : m.inn w) (hg : w.grownBy w' row) (hr : ∀ k, row = some k → m k = none) : m.inn w' :=
  ⟨fun k u hk => (hg.block k (Array.getElem?_eq_some_iff.1 (h.get k u hk)).1 (by intro e; rw [hr k e.symm] at hk; cases hk)).trans (h.get k u hk)⟩
theorem Mem.lt_of {m : Mem} {w : World} (h : m.inn w) {k : Nat} {o : Obj} (hk : m k = some o) : k < w.heap.size := (Array.getElem?_eq_some_iff.1 (h.get k o hk)).1
theorem Mem.none_of_ge {m : Mem} {w : World} (h : m.inn w) {k : Nat} (hk : w.heap.size ≤ k) : m k = none := by
  cases hm : m k with
  | none => rfl
  | some o => have := Mem.lt_of h hm; omega

/-- all of w but the blocks of ex -/
def Mem.but (w : World) (ex : List Nat) : Mem := fun k => if k ∈ ex then none else w.heap[k]?
theorem Mem.but_inn (w : World) (ex : List Nat) : (Mem.but w ex).inn w := ⟨fun k o h => by
  unfold Mem.but at h
  split at h
  · cases h
  · exact h⟩
theorem Mem.le_but {m : Mem} {w : World} {ex : List Nat} (h : m.inn w) (hx : ∀ k ∈ ex, m k = none) : m.le (Mem.but w ex) := ⟨fun k o hk => by
  unfold Mem.but
  rw [if_neg (fun hm => by rw [hx k hm] at hk; cases hk)]
  exact h.get k o hk⟩
theorem Mem.but_none {w : World} {ex : List Nat} {k : Nat} (h : k ∈ ex) : Mem.but w ex k = none := by simp [Mem.but, h]
theorem ObjAt.but {w w' : World} {ex : List Nat} {g : Nat} {t : TypeId} {arr : Array Value} (h : ObjAt w g t arr) (hi : (Mem.but w ex).inn w') (hg : g ∉ ex) : ObjAt w' g t arr :=
  ⟨hi.get _ _ (by unfold Mem.but; rw [if_neg hg]; exact h.get)⟩

/-- m, and all that has come since w0 -/
def Mem.grow (m : Mem) (w0 w : World) : Mem := fun k => if k < w0.heap.size then m k else w.heap[k]?
theorem Mem.le_grow {m : Mem} {w0 w : World} (h : m.inn w0) : m.le (m.grow w0 w) := ⟨fun k o hk => by
  unfold Mem.grow
  rw [if_pos (Mem.lt_of h hk)]
  exact hk⟩
theorem Mem.grow_inn {m : Mem} {w0 w : World} (h : m.inn w0) (hb : Below w0.heap.size w0 w) : (m.grow w0 w).inn w := ⟨fun k o hk => by
  unfold Mem.grow at hk
  split at hk
  · rename_i hlt
    exact (hb.block k hlt).trans (h.get k o hk)
  · exact hk⟩
theorem Mem.grow_none {m : Mem} {w0 w : World} {k : Nat} (h : m k = none) (hk : k < w0.heap.size) : m.grow w0 w k = none := by simp [Mem.grow, hk, h]

/-- mk is m, and blocks that came since w0 -/
structure Mem.ext (m : Mem) (w0 : World) (mk : Mem) : Prop where
  le : m.le mk
  dom : ∀ k o, mk k = some o → m k = some o ∨ w0.heap.size ≤ k
theorem Mem.ext_refl (m : Mem) (w0 : World) : m.ext w0 m := ⟨Mem.le_refl m, fun _ _ h => .inl h⟩
theorem Mem.ext_grow {m : Mem} {w0 w1 w2 : World} {mk : Mem} (h : m.ext w0 mk) (hi : mk.inn w1) (hs : w0.heap.size ≤ w1.heap.size) : m.ext w0 (mk.grow w1 w2) :=
  ⟨Mem.le_trans h.le (Mem.le_grow hi), fun k o hk => by
    unfold Mem.grow at hk
    split at hk
    · exact h.dom k o hk
    · exact .inr (by omega)⟩
theorem Mem.ext_le_grow {m : Mem} {w0 w : World} {mk : Mem} (h : m.ext w0 mk) (hi : mk.inn w) : mk.le (m.grow w0 w) := ⟨fun k o hk => by
  unfold Mem.grow
  split
  · rename_i hlt
    rcases h.dom k o hk with h1 | h1
    · exact h1
    · omega
  · exact hi.get k o hk⟩
/-- one block more -/
def Mem.add (m : Mem) (w : World) (g : Nat) : Mem := fun k => if k = g then w.heap[g]? else m k
theorem Mem.add_inn {m : Mem} {w : World} {g : Nat} (h : m.inn w) : (m.add w g).inn w := ⟨fun k o hk => by
  unfold Mem.add at hk
  split at hk
  · rename_i e; rw [e]; exact hk
  · exact h.get k o hk⟩
theorem Mem.le_add {m : Mem} {w : World} {g : Nat} (h : m g = none) : m.le (m.add w g) := ⟨fun k o hk => by
  unfold Mem.add
  rw [if_neg (fun e => by rw [e, h] at hk; cases hk)]
  exact hk⟩
theorem Mem.ext_add {m mk : Mem} {w0 w : World} {g : Nat} (h : m.ext w0 mk) (hg : mk g = none) (hge : w0.heap.size ≤ g) : m.ext w0 (mk.add w g) :=
  ⟨Mem.le_trans h.le (Mem.le_add hg), fun k o hk => by
    unfold Mem.add at hk
    split at hk
    · exact .inr (by omega)
    · exact h.dom k o hk⟩
theorem Mem.add_none {m : Mem} {w : World} {g k : Nat} (h : m k = none) (hne : k ≠ g) : m.add w g k = none := by simp [Mem.add, hne, h]
theorem Mem.add_cell {m : Mem} {w : World} {g : Nat} {t : TypeId} {arr : Array Value} (h : ObjAt w g t arr) {i : Nat} {v : Value} (hi : arr[i]? = some v) : (m.add w g).cell g i = some v := by
  simp [Mem.cell, Mem.add, h.get, hi]

/-- THE SLICE TYPE t, ITS ELEMENTS OF TYPE e, OF size CELLS -/
structure SliceTy (P : Program) (t e : TypeId) (size bytes : Nat) : Prop where
  ht : P.underlying t = some (.slice e)
  pos : 0 < size
  info : ∃ i z, P.info? e = some i ∧ i.zero = some z ∧ i.size = size ∧ i.bytes = bytes ∧ z.cells.size = size

/-- THE ROW OF v LIES IN A BLOCK THAT IT HELD BEFORE, OR IN A NEW ONE. -/
theorem run_append_row {P : Program} {t e : TypeId} {size bytes : Nat} (S : SliceTy P t e size bytes) (w : World) (ty : TypeId)
    (v : Value) (n : Nat) (xs : List Value) (hown : w.ownsRow 0 e size v n xs)
    (a : Addr) (m c : Nat) (news : List Value) (hl : news.length = m * size) (hnews : ∀ j u, news[j]? = some u → w.cell? (a.add j) = some u) (h1 : ∀ u ∈ news, u.oneCell' = true)
    (h63 : n + m ≤ maxLen) (hbytes : (n + m) * bytes ≤ 140737488355328) :
    ∃ v' w', (Builtin.append_ #[t, t] ty #[v, .slice (some a) m c]).run P w = .ok v' w' ∧ w'.ownsRow 0 e size v' (n + m) (xs ++ news) ∧ w.grownBy w' v.ownBlock ∧
      (∀ k, v'.ownBlock = some k → v.ownBlock = some k ∨ w.heap.size ≤ k) := by
  obtain ⟨i, z, hi, hz, hsize, hby, hzs⟩ := S.info
  obtain ⟨v', w', hr, h2, h3, h4⟩ := run_append_own (P := P) w 0 t ty e i z size bytes S.ht hi hz hsize hby hzs S.pos v n xs hown a m c news hl hnews h1 h63 hbytes (Nat.zero_le _)
  refine ⟨v', w', hr, h2, h3, ?_⟩
  intro k hk
  rcases hown.2 with ⟨rfl, rfl⟩ | ⟨g, cap, cur, rfl, hbg, hg, hnc, hcm, hcs, htake⟩
  · -- nil: the row is new
    have hx : xs = [] := List.eq_nil_of_length_eq_zero (by simpa using hown.1)
    subst hx
    obtain ⟨v2, w2, hr2, h22, -, -⟩ := run_append_own (P := P) w w.heap.size t ty e i z size bytes S.ht hi hz hsize hby hzs S.pos (.slice none 0 0) 0 [] (World.ownsRow_nil _ _ _ _) a m c news hl hnews h1 h63 hbytes (Nat.le_refl _)
    rw [hr] at hr2
    cases hr2
    exact .inr (h22.lt k hk).1
  · by_cases hroom : n + m ≤ cap
    · have hfit : n * size + news.length ≤ cur.size := by rw [hl, hcs, ← Nat.add_mul]; exact Nat.mul_le_mul_right _ hroom
      subst hsize
      have hr2 := run_append_room (P := P) w t ty e i S.ht hi g n cap cur hg a m c news hl hnews h1 hroom hfit
      rw [hr] at hr2
      cases hr2
      exact .inl hk
    · have holds : ∀ j u, xs[j]? = some u → w.cell? ((⟨g, 0, none⟩ : Addr).add j) = some u := hown.cells (g := g) rfl
      subst hsize
      have hb : (n + m) * i.bytes ≤ 140737488355328 := by rw [hby]; exact hbytes
      have hr2 := run_append_grow (P := P) w t ty e i z S.ht hi hz ⟨g, 0, none⟩ n cap xs hown.1 holds a m c news hl hnews (by omega) (by simp only [maxLen] at h63; omega) (growslice_fits (by omega) hb)
      rw [hr] at hr2
      cases hr2
      simp [Value.ownBlock] at hk
      exact .inr (by omega)

theorem row_slice {w : World} {t : TypeId} {size : Nat} {v : Value} {n : Nat} {xs : List Value} (h : w.ownsRow 0 t size v n xs) : ∃ a c, v = .slice a n c := by
  rcases h.2 with ⟨rfl, rfl⟩ | ⟨g, cap, cur, rfl, -⟩
  · exact ⟨_, _, rfl⟩
  · exact ⟨_, _, rfl⟩
theorem wp_append_row {P : Program} {t e : TypeId} {size bytes : Nat} (S : SliceTy P t e size bytes) {w : World} {o : Oper} {a : Act} {K : Act → World → Prop} {Q : Exit → Act → World → Prop} (s x : Operand)
    (ho : o.op = .call { callee := .builtin .append, args := #[s, x], argTypes := #[t, t] })
    (v : Value) (n : Nat) (xs : List Value) (hs : a.eval s = v) (hown : w.ownsRow 0 e size v n xs)
    (ad : Addr) (m c : Nat) (news : List Value) (hx : a.eval x = .slice (some ad) m c) (hl : news.length = m * size) (hnews : ∀ j u, news[j]? = some u → w.cell? (ad.add j) = some u) (h1 : ∀ u ∈ news, u.oneCell' = true)
    (h63 : n + m ≤ maxLen) (hbytes : (n + m) * bytes ≤ 140737488355328)
    (h : ∀ va vc w', w'.ownsRow 0 e size (.slice va (n + m) vc) (n + m) (xs ++ news) → w.grownBy w' v.ownBlock → (∀ k, (Value.slice va (n + m) vc).ownBlock = some k → v.ownBlock = some k ∨ w.heap.size ≤ k) → K (a.put o.dst (.slice va (n + m) vc)) w') : o.wp P a w K Q := by
  obtain ⟨v', w', hr, h2, h3, h4⟩ := run_append_row S w o.type v n xs hown ad m c news hl hnews h1 h63 hbytes
  obtain ⟨va, vc, rfl⟩ := row_slice h2
  unfold Oper.wp execOp
  simp only [ho, resolve, invoke, builtin, Sem.run_bind, Sem.run_pure, Result.andThen_ok, List.map_toArray, List.map_cons, List.map_nil, hs, hx, hr]
  exact h va vc w' h2 h3 h4
/-- 'append(v, x)', v a row of the call's own: the law of the walk. -/
theorem wpList_append_row {P : Program} {t e : TypeId} {size bytes : Nat} (S : SliceTy P t e size bytes) {w : World} {ops : Array Oper} {rest : List Oper} {o : Oper} {a : Act} {Q : Exit → Act → World → Prop} (hgd : o.guard = none) (s x : Operand)
    (ho : o.op = .call { callee := .builtin .append, args := #[s, x], argTypes := #[t, t] })
    (v : Value) (n : Nat) (xs : List Value) (hs : a.eval s = v) (hown : w.ownsRow 0 e size v n xs)
    (ad : Addr) (m c : Nat) (news : List Value) (hx : a.eval x = .slice (some ad) m c) (hl : news.length = m * size) (hnews : ∀ j u, news[j]? = some u → w.cell? (ad.add j) = some u) (h1 : ∀ u ∈ news, u.oneCell' = true)
    (h63 : n + m ≤ maxLen) (hbytes : (n + m) * bytes ≤ 140737488355328)
    (h : ∀ va vc w', w'.ownsRow 0 e size (.slice va (n + m) vc) (n + m) (xs ++ news) → w.grownBy w' v.ownBlock → (∀ k, (Value.slice va (n + m) vc).ownBlock = some k → v.ownBlock = some k ∨ w.heap.size ≤ k) → wpList P ops Q rest (a.put o.dst (.slice va (n + m) vc)) w') : wpList P ops Q (o :: rest) a w :=
  wpList_plain hgd fun _ hK => wp_append_row S s x ho v n xs hs hown ad m c news hx hl hnews h1 h63 hbytes fun va vc w' h2 h3 h4 => hK _ _ (h va vc w' h2 h3 h4)
end Cl
namespace Cl
open Go Go.RowKit
/-- the row of v is written no more -/
def Mem.addv (m : Mem) (w : World) (v : Value) : Mem := match v.ownBlock with
  | some g => m.add w g
  | none => m
def Mem.free (m : Mem) (v : Value) : Prop := ∀ k, v.ownBlock = some k → m k = none
theorem Mem.addv_inn {m : Mem} {w : World} (h : m.inn w) (v : Value) : (m.addv w v).inn w := by
  unfold Mem.addv; split
  · exact Mem.add_inn h
  · exact h
theorem Mem.le_addv {m : Mem} {w : World} {v : Value} (h : m.free v) : m.le (m.addv w v) := by
  unfold Mem.addv; split
  · rename_i g hg; exact Mem.le_add (h g hg)
  · exact Mem.le_refl m
theorem Mem.ext_addv {m mk : Mem} {w0 w : World} {v : Value} (h : m.ext w0 mk) (hg : mk.free v) (hge : ∀ k, v.ownBlock = some k → w0.heap.size ≤ k) : m.ext w0 (mk.addv w v) := by
  unfold Mem.addv; split
  · rename_i g e; exact Mem.ext_add h (hg g e) (hge g e)
  · exact h
theorem Mem.addv_none {m : Mem} {w : World} {v : Value} {k : Nat} (h : m k = none) (hne : v.ownBlock ≠ some k) : m.addv w v k = none := by
  cases hv : v.ownBlock with
  | none => simp only [Mem.addv, hv]; exact h
  | some g => simp only [Mem.addv, hv]; exact Mem.add_none h (fun x => hne (by rw [hv, x]))
theorem Mem.free_le {m m' : Mem} {v : Value} (h : m'.free v) (hl : m.le m') : m.free v := fun k hk => by
  cases hm : m k with
  | none => rfl
  | some o => have := hl.get k o hm; rw [h k hk] at this; cases this

theorem row_cell {w : World} {t : TypeId} {size : Nat} {v : Value} {n : Nat} {xs : List Value} (hown : w.ownsRow 0 t size v n xs) {g : Nat} (hg : v.ownBlock = some g) (m : Mem) {j : Nat} {u : Value} (hj : xs[j]? = some u) : (m.addv w v).cell g j = some u := by
  rcases hown.2 with ⟨rfl, rfl⟩ | ⟨g', cap, cur, rfl, -, hb, hnc, hcm, hcs, htake⟩
  · cases hg
  · simp only [Value.ownBlock, Option.some.injEq] at hg
    subst hg
    simp only [Mem.addv, Value.ownBlock, Mem.cell, Mem.add, if_true, hb]
    rw [← htake, List.getElem?_take] at hj
    split at hj
    · simpa using hj
    · cases hj
theorem slice_of_row {α : Type} {R : Nat → Nat → α → Prop} {w : World} {t : TypeId} {size : Nat} {v : Value} {l : List α} {xs : List Value} (hown : w.ownsRow 0 t size v l.length xs)
    (hR : ∀ g, v.ownBlock = some g → ∀ i (h : i < l.length), R g (i * size) l[i]) : Mem.slice R size v l := by
  rcases hown.2 with ⟨rfl, h0⟩ | ⟨g, cap, cur, rfl, -, hb, hnc, hcm, hcs, htake⟩
  · refine ⟨none, 0, by rw [h0], by omega, by simp [maxLen], fun hne => absurd (List.eq_nil_of_length_eq_zero h0) hne⟩
  · refine ⟨some ⟨g, 0, none⟩, cap, rfl, hnc, hcm, fun _ => ⟨g, 0, rfl, fun i h => ?_⟩⟩
    rw [Nat.zero_add]
    exact hR g rfl i h
theorem slice1_of_row {α : Type} {R : Nat → Nat → α → Prop} {w : World} {t : TypeId} {v : Value} {l : List α} {xs : List Value} (hown : w.ownsRow 0 t 1 v l.length xs)
    (hR : ∀ g, v.ownBlock = some g → ∀ i (h : i < l.length), R g i l[i]) : Mem.slice1 R v l := by
  obtain ⟨a, c, h1, h2, h3, h4⟩ := slice_of_row (R := R) hown (fun g hg i h => by rw [Nat.mul_one]; exact hR g hg i h)
  refine ⟨a, c, h1, h2, h3, fun hne => ?_⟩
  obtain ⟨b, off, h5, h6⟩ := h4 hne
  exact ⟨b, off, h5, fun i hi => by have := h6 i hi; rwa [Nat.mul_one] at this⟩

/-- cells of a row of states, their edges in m -/
structure StRow (m : Mem) (xs : List Value) (l : Table) : Prop where
  len : xs.length = l.length * 2
  acc : ∀ i (h : i < l.length), xs[i * 2]? = some (.bool (l[i]).accept)
  edg : ∀ i (h : i < l.length), ∃ ve, xs[i * 2 + 1]? = some ve ∧ edgesAt m ve (l[i]).edges
theorem StRow.nil (m : Mem) : StRow m [] [] := ⟨rfl, fun i h => by simp at h, fun i h => by simp at h⟩
theorem StRow.mono {m m' : Mem} {xs : List Value} {l : Table} (h : StRow m xs l) (hl : m.le m') : StRow m' xs l :=
  ⟨h.len, h.acc, fun i hi => let ⟨ve, h1, h2⟩ := h.edg i hi; ⟨ve, h1, edgesAt_le hl h2⟩⟩
theorem StRow.push {m : Mem} {xs : List Value} {l : Table} (h : StRow m xs l) {s : Sn} {ve : Value} (he : edgesAt m ve s.edges) : StRow m (xs ++ [.bool s.accept, ve]) (l ++ [s]) := by
  refine ⟨by simp [h.len, Nat.add_mul], fun i hi => ?_, fun i hi => ?_⟩
  · by_cases c : i < l.length
    · rw [List.getElem?_append_left (by rw [h.len]; omega), h.acc i c, List.getElem_append_left c]
    · have : i = l.length := by simp at hi; omega
      subst this
      rw [List.getElem?_append_right (by rw [h.len]; omega)]
      simp [h.len]
  · by_cases c : i < l.length
    · obtain ⟨u, h1, h2⟩ := h.edg i c
      exact ⟨u, by rw [List.getElem?_append_left (by rw [h.len]; omega)]; exact h1, by rw [List.getElem_append_left c]; exact h2⟩
    · have : i = l.length := by simp at hi; omega
      subst this
      refine ⟨ve, ?_, by simpa using he⟩
      rw [List.getElem?_append_right (by rw [h.len]; omega)]
      simp [h.len]
theorem statesAt_of_row {w : World} {t : TypeId} {v : Value} {l : Table} {xs : List Value} {m : Mem} (hown : w.ownsRow 0 t 2 v l.length xs) (hr : StRow m xs l) (hf : m.free v) : statesAt (m.addv w v) v l :=
  slice_of_row hown fun _ hg i h => ⟨row_cell hown hg m (hr.acc i h), let ⟨ve, h1, h2⟩ := hr.edg i h; ⟨ve, row_cell hown hg m h1, edgesAt_le (Mem.le_addv hf) h2⟩⟩

/-- cells of a row of edges -/
def edCells (es : List Ed) : List Value := es.flatMap fun e => [.int .u8 e.lo, .int .u8 e.hi, .int .i64 e.to]
def edOk (e : Ed) : Prop := e.lo < 256 ∧ e.hi < 256 ∧ -9223372036854775808 ≤ e.to ∧ e.to ≤ 9223372036854775807
theorem edCells_length (es : List Ed) : (edCells es).length = es.length * 3 := by
  induction es with
  | nil => rfl
  | cons e es ih => simp only [edCells, List.flatMap_cons, List.length_append] at *; simp [ih]; omega
theorem edCells_get (es : List Ed) : ∀ i (h : i < es.length), (edCells es)[i * 3]? = some (.int .u8 es[i].lo) ∧ (edCells es)[i * 3 + 1]? = some (.int .u8 es[i].hi) ∧ (edCells es)[i * 3 + 2]? = some (.int .i64 es[i].to) := by
  induction es with
  | nil => intro i h; simp at h
  | cons e es ih =>
    intro i h
    cases i with
    | zero => simp [edCells]
    | succ i =>
      have := ih i (by simpa using h)
      simp only [edCells, List.flatMap_cons] at *
      rw [show (i + 1) * 3 = i * 3 + 3 by omega, show i * 3 + 3 + 1 = (i * 3 + 1) + 3 by omega, show i * 3 + 3 + 2 = (i * 3 + 2) + 3 by omega]
      simpa using this
theorem edCells_append (es : List Ed) (e : Ed) : edCells (es ++ [e]) = edCells es ++ [.int .u8 e.lo, .int .u8 e.hi, .int .i64 e.to] := by simp [edCells]
theorem edgesAt_of_row {w : World} {t : TypeId} {v : Value} {l : List Ed} {m : Mem} (hown : w.ownsRow 0 t 3 v l.length (edCells l)) (hk : ∀ e ∈ l, edOk e) : edgesAt (m.addv w v) v l :=
  slice_of_row hown fun g hg i h => by
    obtain ⟨h1, h2, h3⟩ := edCells_get l i h
    exact ⟨row_cell hown hg m h1, row_cell hown hg m h2, row_cell hown hg m h3, hk _ (List.getElem_mem h)⟩
theorem intsAt_of_row {w : World} {t : TypeId} {v : Value} {l : List Int} {m : Mem} (hown : w.ownsRow 0 t 1 v l.length (l.map (Value.int .i64))) (hk : ∀ x ∈ l, -9223372036854775808 ≤ x ∧ x ≤ 9223372036854775807) : intsAt (m.addv w v) v l :=
  slice1_of_row hown fun g hg i h => ⟨row_cell hown hg m (by simp [h]), hk _ (List.getElem_mem h)⟩
theorem boolsAt_of_row {w : World} {t : TypeId} {v : Value} {l : List Bool} {m : Mem} (hown : w.ownsRow 0 t 1 v l.length (l.map Value.bool)) : boolsAt (m.addv w v) v l :=
  slice1_of_row hown fun g hg i h => row_cell hown hg m (by simp [h])
end Cl
namespace Cl
open Go Go.RowKit
theorem le_done {m mk : Mem} {w0 w : World} {v : Value} (hx : m.ext w0 mk) (hi : mk.inn w) (hf : mk.free v) (hge : ∀ k, v.ownBlock = some k → w0.heap.size ≤ k) : (mk.addv w v).le (m.grow w0 w) :=
  Mem.ext_le_grow (Mem.ext_addv hx hf hge) (Mem.addv_inn hi v)
theorem below_grown {w0 w w' : World} {v : Value} (hb : Below w0.heap.size w0 w) (hg : w.grownBy w' v.ownBlock) (hge : ∀ k, v.ownBlock = some k → w0.heap.size ≤ k) : Below w0.heap.size w0 w' :=
  hb.grown hg hb.size hge
/-- what an append tells of the row's block -/
theorem free_next {mk : Mem} {w : World} {v v' : Value} {N : Nat} (hi : mk.inn w) (hf : mk.free v) (hrow : ∀ k, v'.ownBlock = some k → v.ownBlock = some k ∨ N ≤ k) (hN : w.heap.size ≤ N) : mk.free v' := fun k hk => by
  rcases hrow k hk with h | h
  · exact hf k h
  · exact Mem.none_of_ge hi (by omega)
theorem ge_next {n N : Nat} {v v' : Value} (hge : ∀ k, v.ownBlock = some k → n ≤ k) (hrow : ∀ k, v'.ownBlock = some k → v.ownBlock = some k ∨ N ≤ k) (hN : n ≤ N) : ∀ k, v'.ownBlock = some k → n ≤ k := fun k hk => by
  rcases hrow k hk with h | h
  · exact hge k h
  · omega
end Cl
namespace Cl
open Go Go.RowKit
theorem ObjAt.news {w : World} {g : Nat} {t : TypeId} {arr : Array Value} (h : ObjAt w g t arr) {l : List Value} (hl : arr.toList = l) : ∀ j u, l[j]? = some u → w.cell? ((⟨g, 0, none⟩ : Addr).add j) = some u := by
  intro j u hj
  subst hl
  rw [Addr.add_lit, Nat.zero_add]
  exact h.cell (by simpa using hj)
end Cl
namespace Cl
open Go Go.RowKit

inductive Item where
  | obj (g : Nat) (t : TypeId) (arr : Array Value)
  | row (v : Value) (t : TypeId) (size n : Nat) (xs : List Value)
  | blob (g : Nat) (o : Obj)

def Item.blk : Item → Option Nat
  | .obj g _ _ => some g
  | .row v _ _ _ _ => v.ownBlock
  | .blob g _ => some g
def Item.ok (w : World) : Item → Prop
  | .obj g t arr => ObjAt w g t arr
  | .row v t size n xs => w.ownsRow 0 t size v n xs
  | .blob g o => w.heap[g]? = some o
def Item.apart (a b : Item) : Prop := ∀ k, a.blk = some k → b.blk = some k → False

theorem Item.ok_of_heap {w w' : World} {it : Item} (h : it.ok w) (e : ∀ k, it.blk = some k → w'.heap[k]? = w.heap[k]?) : it.ok w' := by
  cases it with
  | obj g t arr => exact ObjAt.of_heap h (e g rfl)
  | row v t size n xs =>
    obtain ⟨h1, h2⟩ := h
    refine ⟨h1, ?_⟩
    rcases h2 with h2 | ⟨g, cap, cur, hv, hg, hh, r⟩
    · exact .inl h2
    · exact .inr ⟨g, cap, cur, hv, hg, by rw [e g (by rw [hv]; rfl)]; exact hh, r⟩
  | blob g o => exact (e g rfl).trans h
theorem Item.lt {w : World} {it : Item} (h : it.ok w) {k : Nat} (hk : it.blk = some k) : k < w.heap.size := by
  cases it with
  | obj g t arr => simp only [Item.blk, Option.some.injEq] at hk; subst hk; exact ObjAt.lt h
  | row v t size n xs => exact (World.ownsRow.lt h k hk).2
  | blob g o => simp only [Item.blk, Option.some.injEq] at hk; subst hk; exact (Array.getElem?_eq_some_iff.1 h).1

structure Own (w0 : World) (m : Mem) (w : World) (mk : Mem) (L : List Item) : Prop where
  m0 : m.inn w0
  below : Below w0.heap.size w0 w
  ext : m.ext w0 mk
  inn : mk.inn w
  ok : ∀ it ∈ L, it.ok w
  fresh : ∀ it ∈ L, ∀ k, it.blk = some k → w0.heap.size ≤ k ∧ mk k = none
  apart : L.Pairwise Item.apart

section
variable {w0 w w' : World} {m mk : Mem} {L : List Item}

theorem Own.start (h : m.inn w) : Own w m w m [] := ⟨h, Below.refl _ _, Mem.ext_refl _ _, h, by simp, by simp, .nil⟩
/-- the world moves on, and no block that is sealed or owned turns -/
theorem Own.move (h : Own w0 m w mk L) (hb : Below w.heap.size w w') : Own w0 m w' mk L :=
  ⟨h.m0, below_then h.below hb, h.ext, Mem.inn_below h.inn hb, fun it hi => Item.ok_of_heap (h.ok it hi) fun k hk => hb.block k (Item.lt (h.ok it hi) hk), h.fresh, h.apart⟩
theorem Own.al' (h : Own w0 m w mk L) (o : Obj) : Own w0 m (w.alloc o) mk L := h.move (below_al (Below.refl _ _) o)
theorem Own.dr (h : Own w0 m w mk L) : Own w0 m w.drew mk L := h.move (Below.refl _ _).drew
theorem Own.drN (h : Own w0 m w mk L) (n : Nat) : Own w0 m (w.drewN n) mk L := h.move (below_drewN (Below.refl _ _) n)
theorem Own.cons (h : Own w0 m w mk L) {it : Item} (h1 : it.ok w) (h2 : ∀ k, it.blk = some k → w0.heap.size ≤ k ∧ mk k = none) (h3 : ∀ b ∈ L, it.apart b) : Own w0 m w mk (it :: L) :=
  ⟨h.m0, h.below, h.ext, h.inn, by simp only [List.mem_cons, forall_eq_or_imp]; exact ⟨h1, h.ok⟩, by simp only [List.mem_cons, forall_eq_or_imp]; exact ⟨h2, h.fresh⟩, .cons h3 h.apart⟩
theorem Own.sub {L' : List Item} (h : Own w0 m w mk L) (hs : L'.Sublist L) : Own w0 m w mk L' :=
  ⟨h.m0, h.below, h.ext, h.inn, fun it hi => h.ok it (hs.subset hi), fun it hi => h.fresh it (hs.subset hi), h.apart.sublist hs⟩
theorem Own.perm {L' : List Item} (h : Own w0 m w mk L) (hp : L'.Perm L) : Own w0 m w mk L' :=
  ⟨h.m0, h.below, h.ext, h.inn, fun it hi => h.ok it (hp.subset hi), fun it hi => h.fresh it (hp.subset hi), (hp.symm.pairwise_iff (fun {_ _} hab k h1 h2 => hab k h2 h1)).1 h.apart⟩
theorem Own.tail {it : Item} (h : Own w0 m w mk (it :: L)) : Own w0 m w mk L := h.sub (List.sublist_cons_self _ _)
theorem Own.drop2 {a b : Item} (h : Own w0 m w mk (a :: b :: L)) : Own w0 m w mk (a :: L) := h.sub (.cons_cons _ (.cons _ (List.Sublist.refl _)))
theorem Own.drop3 {a b c : Item} (h : Own w0 m w mk (a :: b :: c :: L)) : Own w0 m w mk (a :: b :: L) := h.sub (.cons_cons _ (.cons_cons _ (.cons _ (List.Sublist.refl _))))
theorem Own.drop4 {a b c d : Item} (h : Own w0 m w mk (a :: b :: c :: d :: L)) : Own w0 m w mk (a :: b :: c :: L) := h.sub (.cons_cons _ (.cons_cons _ (.cons_cons _ (.cons _ (List.Sublist.refl _)))))
theorem Own.swap {a b : Item} (h : Own w0 m w mk (a :: b :: L)) : Own w0 m w mk (b :: a :: L) := h.perm (List.Perm.swap _ _ _)
theorem Own.third {a b c : Item} (h : Own w0 m w mk (a :: b :: c :: L)) : Own w0 m w mk (c :: a :: b :: L) := h.perm ((List.Perm.swap _ _ _).trans (List.Perm.cons _ (List.Perm.swap _ _ _)))
theorem Own.fourth {a b c d : Item} (h : Own w0 m w mk (a :: b :: c :: d :: L)) : Own w0 m w mk (d :: a :: b :: c :: L) :=
  h.perm ((List.Perm.swap _ _ _).trans (List.Perm.cons _ ((List.Perm.swap _ _ _).trans (List.Perm.cons _ (List.Perm.swap _ _ _)))))
theorem Own.swap23 {a b c : Item} (h : Own w0 m w mk (a :: b :: c :: L)) : Own w0 m w mk (a :: c :: b :: L) := h.perm (List.Perm.cons _ (List.Perm.swap _ _ _))
theorem Own.at {g : Nat} {t : TypeId} {arr : Array Value} (h : Own w0 m w mk L) (hi : Item.obj g t arr ∈ L) : ObjAt w g t arr := h.ok _ hi
/-- a new object -/
theorem Own.al (h : Own w0 m w mk L) (arr : Array Value) (t : TypeId) : Own w0 m (w.alloc (.cells arr t)) mk (.obj w.heap.size t arr :: L) :=
  (h.al' (.cells arr t)).cons (ObjAt.new _ _ _) (fun k hk => by simp only [Item.blk, Option.some.injEq] at hk; subst hk; exact ⟨h.below.size, Mem.none_of_ge h.inn (Nat.le_refl _)⟩)
    (fun b hb k h1 h2 => by simp only [Item.blk, Option.some.injEq] at h1; subst h1; exact absurd (Item.lt (h.ok b hb) h2) (Nat.lt_irrefl _))
theorem Own.nilRow (h : Own w0 m w mk L) (t : TypeId) (size : Nat) : Own w0 m w mk (.row (.slice none 0 0) t size 0 [] :: L) :=
  h.cons (World.ownsRow_nil _ _ _ _) (fun k hk => by cases hk) (fun b _ k h1 _ => by cases h1)
/-- a store into an object -/
theorem Own.set {g : Nat} {t : TypeId} {arr : Array Value} (h : Own w0 m w mk (.obj g t arr :: L)) (i : Nat) (v : Value) : Own w0 m (w.setCell ⟨g, i, none⟩ v) mk (.obj g t (arr.setIfInBounds i v) :: L) := by
  have hf := h.fresh _ (List.mem_cons_self ..) g rfl
  have hap := List.pairwise_cons.1 h.apart
  refine ⟨h.m0, h.below.setCell hf.1 v, h.ext, Mem.inn_set h.inn hf.2 v, ?_, ?_, .cons ?_ hap.2⟩
  · simp only [List.mem_cons, forall_eq_or_imp]
    exact ⟨ObjAt.set (h.ok _ (List.mem_cons_self ..)) i v, fun it hi => Item.ok_of_heap (h.ok it (List.mem_cons_of_mem _ hi)) fun k hk =>
      Below.heap_setCell _ _ _ _ (fun e => hap.1 it hi g rfl (by rw [hk, e]))⟩
  · simp only [List.mem_cons, forall_eq_or_imp]
    exact ⟨fun k hk => by simp only [Item.blk, Option.some.injEq] at hk; subst hk; exact hf, fun it hi => h.fresh it (List.mem_cons_of_mem _ hi)⟩
  · intro b hb k h1 h2
    exact hap.1 b hb k h1 h2
/-- an append to a row -/
theorem Own.app {v v' : Value} {t : TypeId} {size n n' : Nat} {xs xs' : List Value} (h : Own w0 m w mk (.row v t size n xs :: L)) (ho : w'.ownsRow 0 t size v' n' xs') (hg : w.grownBy w' v.ownBlock)
    {N : Nat} (hr : ∀ k, v'.ownBlock = some k → v.ownBlock = some k ∨ N ≤ k) (hN : w.heap.size ≤ N) : Own w0 m w' mk (.row v' t size n' xs' :: L) := by
  have hf := h.fresh _ (List.mem_cons_self ..)
  have hap := List.pairwise_cons.1 h.apart
  refine ⟨h.m0, below_grown h.below hg (fun k hk => (hf k hk).1), h.ext, Mem.inn_grown h.inn hg (fun k hk => (hf k hk).2), ?_, ?_, .cons ?_ hap.2⟩
  · simp only [List.mem_cons, forall_eq_or_imp]
    exact ⟨ho, fun it hi => Item.ok_of_heap (h.ok it (List.mem_cons_of_mem _ hi)) fun k hk => hg.block k (Item.lt (h.ok it (List.mem_cons_of_mem _ hi)) hk) (fun e => hap.1 it hi k e.symm hk)⟩
  · simp only [List.mem_cons, forall_eq_or_imp]
    exact ⟨fun k hk => (hr k hk).elim (fun h1 => hf k h1) (fun h1 => ⟨by have := h.below.size; omega, Mem.none_of_ge h.inn (by omega)⟩), fun it hi => h.fresh it (List.mem_cons_of_mem _ hi)⟩
  · intro b hb k h1 h2
    rcases hr k h1 with h3 | h3
    · exact hap.1 b hb k h3 h2
    · have := Item.lt (h.ok b (List.mem_cons_of_mem _ hb)) h2
      omega
/-- a call that makes memory: what came is sealed -/
theorem Own.call (h : Own w0 m w mk L) (hb : Below w.heap.size w w') : Own w0 m w' (mk.grow w w') L :=
  ⟨h.m0, below_then h.below hb, Mem.ext_grow h.ext h.inn h.below.size, Mem.grow_inn h.inn hb, (h.move hb).ok,
    fun it hi k hk => ⟨(h.fresh it hi k hk).1, Mem.grow_none (h.fresh it hi k hk).2 (Item.lt (h.ok it hi) hk)⟩, h.apart⟩
/-- an item is written no more -/
theorem Own.sealRow {v : Value} {t : TypeId} {size n : Nat} {xs : List Value} (h : Own w0 m w mk (.row v t size n xs :: L)) : Own w0 m w (mk.addv w v) L := by
  have hf := h.fresh _ (List.mem_cons_self ..)
  have hap := List.pairwise_cons.1 h.apart
  exact ⟨h.m0, h.below, Mem.ext_addv h.ext (fun k hk => (hf k hk).2) (fun k hk => (hf k hk).1), Mem.addv_inn h.inn v, fun it hi => h.ok it (List.mem_cons_of_mem _ hi),
    fun it hi k hk => ⟨(h.fresh it (List.mem_cons_of_mem _ hi) k hk).1, Mem.addv_none (h.fresh it (List.mem_cons_of_mem _ hi) k hk).2 (fun e => hap.1 it hi k e hk)⟩, hap.2⟩
theorem Own.sealObj {g : Nat} {t : TypeId} {arr : Array Value} (h : Own w0 m w mk (.obj g t arr :: L)) : Own w0 m w (mk.add w g) L := by
  have hf := h.fresh _ (List.mem_cons_self ..) g rfl
  have hap := List.pairwise_cons.1 h.apart
  exact ⟨h.m0, h.below, Mem.ext_add h.ext hf.2 hf.1, Mem.add_inn h.inn, fun it hi => h.ok it (List.mem_cons_of_mem _ hi),
    fun it hi k hk => ⟨(h.fresh it (List.mem_cons_of_mem _ hi) k hk).1, Mem.add_none (h.fresh it (List.mem_cons_of_mem _ hi) k hk).2 (fun e => hap.1 it hi g rfl (by rw [hk, e]))⟩, hap.2⟩
theorem Own.free {v : Value} {t : TypeId} {size n : Nat} {xs : List Value} (h : Own w0 m w mk (.row v t size n xs :: L)) : mk.free v := fun k hk => (h.fresh _ (List.mem_cons_self ..) k hk).2
theorem Own.objFree {g : Nat} {t : TypeId} {arr : Array Value} (h : Own w0 m w mk (.obj g t arr :: L)) : mk g = none := (h.fresh _ (List.mem_cons_self ..) g rfl).2
theorem Own.row {v : Value} {t : TypeId} {size n : Nat} {xs : List Value} (h : Own w0 m w mk (.row v t size n xs :: L)) : w.ownsRow 0 t size v n xs := h.ok _ (List.mem_cons_self ..)
theorem Own.obj {g : Nat} {t : TypeId} {arr : Array Value} (h : Own w0 m w mk (.obj g t arr :: L)) : ObjAt w g t arr := h.ok _ (List.mem_cons_self ..)
theorem Own.done (h : Own w0 m w mk L) : mk.le (m.grow w0 w) := Mem.ext_le_grow h.ext h.inn
end
end Cl
namespace Cl
open Go Go.RowKit
theorem row_cellw {w : World} {t : TypeId} {size n cap g : Nat} {xs : List Value} (h : w.ownsRow 0 t size (.slice (some ⟨g, 0, none⟩) n cap) n xs) {j : Nat} {u : Value} (hj : xs[j]? = some u) : w.cell? ⟨g, j, none⟩ = some u := by
  have := h.cells (g := g) rfl j u hj
  rwa [Addr.add_lit, Nat.zero_add] at this
theorem row_frozen {w : World} {t : TypeId} {size n cap g : Nat} {xs : List Value} (h : w.ownsRow 0 t size (.slice (some ⟨g, 0, none⟩) n cap) n xs) (j : Nat) : w.frozen? ⟨g, j, none⟩ = false := by
  rcases h.2 with ⟨h', -⟩ | ⟨g', cap', cur, h', -, hb, -⟩
  · cases h'
  · cases h'
    simp [World.frozen?, hb]
section
variable {w0 w w' : World} {m mk mk' : Mem} {L L' : List Item}
theorem Own.setRow {g n cap size : Nat} {t : TypeId} {xs : List Value} (h : Own w0 m w mk (.row (.slice (some ⟨g, 0, none⟩) n cap) t size n xs :: L)) (j : Nat) (u : Value) :
    Own w0 m (w.setCell ⟨g, j, none⟩ u) mk (.row (.slice (some ⟨g, 0, none⟩) n cap) t size n (xs.set j u) :: L) := by
  obtain ⟨h1, h2⟩ := h.row.stored j u
  exact h.app h1 h2 (N := w.heap.size) (fun k hk => .inl hk) (Nat.le_refl _)
/-- a row that was made -/
theorem Own.make (h : Own w0 m w mk L) {n cap size : Nat} {t : TypeId} {xs : List Value} (ho : w'.ownsRow 0 t size (.slice (some ⟨w.heap.size, 0, none⟩) n cap) n xs) (hg : w.grownBy w' none) :
    Own w0 m w' mk (.row (.slice (some ⟨w.heap.size, 0, none⟩) n cap) t size n xs :: L) :=
  (h.nilRow t size).app ho hg (N := w.heap.size) (fun k hk => by simp [Value.ownBlock] at hk; exact .inr (by omega)) (Nat.le_refl _)
/-- what a callee made joins what the caller owns -/
theorem Own.join (h : Own w0 m w mk L) (h' : Own w mk w' mk' L') : Own w0 m w' mk' (L' ++ L) := by
  refine ⟨h.m0, below_then h.below h'.below, ⟨Mem.le_trans h.ext.le h'.ext.le, fun k o hk => ?_⟩, h'.inn, ?_, ?_, ?_⟩
  · rcases h'.ext.dom k o hk with h1 | h1
    · exact h.ext.dom k o h1
    · exact .inr (Nat.le_trans h.below.size h1)
  · intro it hi
    rcases List.mem_append.1 hi with h1 | h1
    · exact h'.ok it h1
    · exact (h.move h'.below).ok it h1
  · intro it hi k hk
    rcases List.mem_append.1 hi with h1 | h1
    · exact ⟨Nat.le_trans h.below.size (h'.fresh it h1 k hk).1, (h'.fresh it h1 k hk).2⟩
    · refine ⟨(h.fresh it h1 k hk).1, ?_⟩
      cases hm : mk' k with
      | none => rfl
      | some o =>
        rcases h'.ext.dom k o hm with h2 | h2
        · rw [(h.fresh it h1 k hk).2] at h2; cases h2
        · exact absurd (Item.lt (h.ok it h1) hk) (by omega)
  · rw [List.pairwise_append]
    refine ⟨h'.apart, h.apart, fun a ha b hb k h1 h2 => ?_⟩
    have e1 := (h'.fresh a ha k h1).1
    have e2 := Item.lt (h.ok b hb) h2
    omega
end
end Cl
namespace Cl
open Go Go.RowKit
theorem made_one (z : Value) (n : Nat) : (madeCells #[z] (n * 1)).toList = List.replicate n z := by
  apply List.ext_getElem
  · simp [madeCells]
  · intro i h1 h2
    simp [madeCells, Nat.mod_one]
structure MakeTy (P : Program) (t e : TypeId) (bytes : Nat) (z : Value) : Prop where
  ht : P.underlying t = some (.slice e)
  info : (P.info? e).map (fun i => (i.zero, i.size, i.bytes)) = some (some z, 1, bytes)
  one : z.cells = #[z]
/-- 'make([]T, n)' -/
theorem wpList_make_row {P : Program} {t e : TypeId} {bytes : Nat} {z : Value} (S : MakeTy P t e bytes z) {w : World} {ops : Array Oper} {rest : List Oper} {o : Oper} {a : Act} {Q : Exit → Act → World → Prop}
    (hg : o.guard = none) (l c : Operand) (hop : o.op = Op.makeSlice t l c) (n : Nat) (hl : a.eval l = .int .i64 n) (hc : a.eval c = .int .i64 n) (b2 : bytes * n ≤ 281474976710656) (b3 : n ≤ maxLen)
    (hK : ∀ w', w'.ownsRow 0 e 1 (.slice (some ⟨w.heap.size, 0, none⟩) n n) n (List.replicate n z) → w.grownBy w' none → wpList P ops Q rest (a.put o.dst (.slice (some ⟨w.heap.size, 0, none⟩) n n)) w') :
    wpList P ops Q (o :: rest) a w := by
  obtain ⟨i, hi, hz, hs, hb⟩ := info_parts S.info
  refine wpList_make_full w hg l c t hop 0 e i z 1 S.ht hi hz hs .i64 .i64 n n n hl hc rfl rfl (by rw [hb]; exact b2) b3 (Nat.zero_le _) ?_
  intro w' h1 h2
  rw [S.one, made_one] at h1
  exact hK w' h1 h2
end Cl
namespace Cl
open Go Go.RowKit
section
variable {w0 w w' : World} {m mk : Mem} {L : List Item}
/-- a new block of whatever kind -/
theorem Own.alBlob (h : Own w0 m w mk L) (o : Obj) : Own w0 m (w.alloc o) mk (.blob w.heap.size o :: L) :=
  (h.al' o).cons (show (w.heap.push o)[w.heap.size]? = some o by simp) (fun k hk => by simp only [Item.blk, Option.some.injEq] at hk; subst hk; exact ⟨h.below.size, Mem.none_of_ge h.inn (Nat.le_refl _)⟩)
    (fun b hb k h1 h2 => by simp only [Item.blk, Option.some.injEq] at h1; subst h1; exact absurd (Item.lt (h.ok b hb) h2) (Nat.lt_irrefl _))
theorem Own.blob {g : Nat} {o : Obj} (h : Own w0 m w mk (.blob g o :: L)) : w.heap[g]? = some o := h.ok _ (List.mem_cons_self ..)
/-- a block of whatever kind turns -/
theorem Own.setBlob {g : Nat} {o o' : Obj} (h : Own w0 m w mk (.blob g o :: L)) (ho : w'.heap[g]? = some o') (hg : w.grownBy w' (some g)) : Own w0 m w' mk (.blob g o' :: L) := by
  have hf := h.fresh _ (List.mem_cons_self ..) g rfl
  have hap := List.pairwise_cons.1 h.apart
  refine ⟨h.m0, h.below.grown hg h.below.size (fun k hk => by cases hk; exact hf.1), h.ext, Mem.inn_grown h.inn hg (fun k hk => by cases hk; exact hf.2), ?_, ?_, .cons ?_ hap.2⟩
  · simp only [List.mem_cons, forall_eq_or_imp]
    exact ⟨ho, fun it hi => Item.ok_of_heap (h.ok it (List.mem_cons_of_mem _ hi)) fun k hk => hg.block k (Item.lt (h.ok it (List.mem_cons_of_mem _ hi)) hk) (fun e => hap.1 it hi g rfl (by cases e; exact hk))⟩
  · simp only [List.mem_cons, forall_eq_or_imp]
    exact ⟨fun k hk => by simp only [Item.blk, Option.some.injEq] at hk; subst hk; exact hf, fun it hi => h.fresh it (List.mem_cons_of_mem _ hi)⟩
  · intro b hb k h1 h2
    exact hap.1 b hb k h1 h2
theorem Own.fifth {a b c d e : Item} (h : Own w0 m w mk (a :: b :: c :: d :: e :: L)) : Own w0 m w mk (e :: a :: b :: c :: d :: L) :=
  h.perm (((List.perm_append_comm (l₁ := [e]) (l₂ := [a, b, c, d])).append_right L))
theorem Own.at_row {v : Value} {t : TypeId} {size n : Nat} {xs : List Value} (h : Own w0 m w mk L) (hi : Item.row v t size n xs ∈ L) : w.ownsRow 0 t size v n xs := h.ok _ hi
theorem Own.at_obj {g : Nat} {t : TypeId} {arr : Array Value} (h : Own w0 m w mk L) (hi : Item.obj g t arr ∈ L) : ObjAt w g t arr := h.ok _ hi
theorem Own.at_blob {g : Nat} {o : Obj} (h : Own w0 m w mk L) (hi : Item.blob g o ∈ L) : w.heap[g]? = some o := h.ok _ hi
end
end Cl

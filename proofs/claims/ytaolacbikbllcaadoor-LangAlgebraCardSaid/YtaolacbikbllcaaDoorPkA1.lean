/- Lemmas for the proofs: PlainA, PlainB, PlainC, PlainK, PlainL. -/
namespace Cl

structure Ed where
  lo : Nat
  hi : Nat
  to : Int

structure Sn where
  accept : Bool
  edges : List Ed

abbrev Table := List Sn

/-- the edges are ascending, do not overlap, and lead to states below n; all begin behind p -/
def wfEdges (n : Nat) : Int → List Ed → Prop
  | _, [] => True
  | p, e :: es => e.lo ≤ e.hi ∧ 0 ≤ e.to ∧ e.to < n ∧ p < e.lo ∧ wfEdges n e.hi es

def WF (l : Table) : Prop := ∀ s ∈ l, wfEdges l.length (-1) s.edges

def bytesEdges (es : List Ed) : Prop := ∀ e ∈ es, e.lo < 256 ∧ e.hi < 256
def Bytes (l : Table) : Prop := ∀ s ∈ l, bytesEdges s.edges

/-- where a byte leads to; -1 if nowhere -/
def estep : List Ed → Nat → Int
  | [], _ => -1
  | e :: es, b => if e.lo ≤ b ∧ b ≤ e.hi then e.to else estep es b

def tstep (l : Table) (s : Int) (b : Nat) : Int :=
  if s < 0 then -1 else match l[s.toNat]? with
    | some st => estep st.edges b
    | none => -1

def accAt (l : Table) (s : Int) : Bool :=
  if s < 0 then false else match l[s.toNat]? with
    | some st => st.accept
    | none => false

def accFrom (l : Table) : Int → List UInt8 → Bool
  | s, [] => accAt l s
  | s, b :: w => accFrom l (tstep l s b.toNat) w

theorem tstep_neg {l : Table} {s : Int} (h : s < 0) (b : Nat) : tstep l s b = -1 := by simp [tstep, h]
theorem accFrom_neg {l : Table} {s : Int} (h : s < 0) (w : List UInt8) : accFrom l s w = false := by
  induction w generalizing s with
  | nil => simp [accFrom, accAt, h]
  | cons b w ih => simp only [accFrom]; rw [tstep_neg h]; exact ih (by omega)

theorem tstep_nat (l : Table) (k : Nat) (b : Nat) (h : k < l.length) : tstep l (k : Int) b = estep (l[k]).edges b := by
  have h0 : ¬ ((k : Int) < 0) := by omega
  simp [tstep, h0, h]
theorem tstep_out (l : Table) (k : Int) (b : Nat) (h : (l.length : Int) ≤ k) : tstep l k b = -1 := by
  have h0 : ¬ (k < 0) := by omega
  have h1 : l.length ≤ k.toNat := by omega
  simp [tstep, h0, h1]
theorem accFrom_out (l : Table) (k : Int) (w : List UInt8) (h : (l.length : Int) ≤ k) : accFrom l k w = false := by
  cases w with
  | nil =>
    have h0 : ¬ (k < 0) := by omega
    have h1 : l.length ≤ k.toNat := by omega
    simp [accFrom, accAt, h0, h1]
  | cons b w => simp only [accFrom]; rw [tstep_out _ _ _ h]; exact accFrom_neg (by omega) w

theorem estep_range {n : Nat} {p : Int} {es : List Ed} (h : wfEdges n p es) (b : Nat) : estep es b = -1 ∨ (0 ≤ estep es b ∧ estep es b < n) := by
  induction es generalizing p with
  | nil => left; rfl
  | cons e es ih =>
    obtain ⟨h1, h2, h3, h4, h5⟩ := h
    simp only [estep]
    split
    · right; exact ⟨h2, h3⟩
    · exact ih h5
theorem tstep_range {l : Table} (h : WF l) (k : Int) (b : Nat) : tstep l k b = -1 ∨ (0 ≤ tstep l k b ∧ tstep l k b < l.length) := by
  by_cases h0 : k < 0
  · left; exact tstep_neg h0 b
  · by_cases h1 : k < l.length
    · obtain ⟨n, rfl⟩ := Int.eq_ofNat_of_zero_le (by omega : 0 ≤ k)
      rw [tstep_nat l n b (by omega)]
      exact estep_range (h _ (List.getElem_mem _)) b
    · left; exact tstep_out l k b (by omega)

/-- no two neighbours could be one edge -/
def Merged : List Ed → Prop
  | [] => True
  | [_] => True
  | e :: f :: es => ¬ (e.to = f.to ∧ e.hi + 1 = f.lo) ∧ Merged (f :: es)

structure Canon (l : Table) : Prop where
  wf : WF l
  bytes : Bytes l
  merged : ∀ s ∈ l, Merged s.edges
  live : ∀ k : Nat, k < l.length → ∃ w, accFrom l k w = true
  dist : ∀ i j : Nat, i < l.length → j < l.length → (∀ w, accFrom l i w = accFrom l j w) → i = j
  seen : ∀ (k b t : Nat), b < 256 → tstep l k b = t → ∀ t' : Nat, 0 < t' → t' < t → ∃ k' b' : Nat, b' < 256 ∧ (k' < k ∨ k' = k ∧ b' < b) ∧ tstep l k' b' = t'
  reach : ∀ t : Nat, 0 < t → t < l.length → ∃ k b : Nat, k < t ∧ b < 256 ∧ tstep l k b = t

theorem estep_below {n : Nat} {p : Int} {es : List Ed} (h : wfEdges n p es) {b : Nat} (hb : (b : Int) ≤ p) : estep es b = -1 := by
  induction es generalizing p with
  | nil => rfl
  | cons e es ih =>
    obtain ⟨h1, h2, h3, h4, h5⟩ := h
    simp only [estep]
    rw [if_neg (by omega)]
    exact ih h5 (by omega)

theorem edges_unique {n m : Nat} (es : List Ed) : ∀ (fs : List Ed) (p : Int), wfEdges n p es → wfEdges m p fs → bytesEdges es → bytesEdges fs → Merged es → Merged fs →
    (∀ b : Nat, b < 256 → p < (b : Int) → estep es b = estep fs b) → es = fs := by
  induction es with
  | nil =>
    intro fs p _ hf _ bf _ _ h
    cases fs with
    | nil => rfl
    | cons f fs =>
      obtain ⟨f1, f2, f3, f4, f5⟩ := hf
      have := h f.lo (bf f (by simp)).1 f4
      simp [estep] at this
      omega
  | cons e es ih =>
    intro fs p he hf be bf me mf h
    obtain ⟨e1, e2, e3, e4, e5⟩ := he
    cases fs with
    | nil =>
      have := h e.lo (be e (by simp)).1 e4
      simp [estep, e1] at this
      omega
    | cons f fs =>
      obtain ⟨f1, f2, f3, f4, f5⟩ := hf
      have be' : bytesEdges es := fun x hx => be x (by simp [hx])
      have bf' : bytesEdges fs := fun x hx => bf x (by simp [hx])
      have blo := (be e (by simp))
      have flo := (bf f (by simp))
      -- lo
      have hlo : e.lo = f.lo := by
        have A := h e.lo blo.1 e4
        have B := h f.lo flo.1 f4
        simp only [estep] at A B
        rw [if_pos ⟨Nat.le_refl _, e1⟩] at A
        rw [if_pos (⟨Nat.le_refl _, f1⟩ : f.lo ≤ f.lo ∧ f.lo ≤ f.hi)] at B
        by_cases c : e.lo < f.lo
        · rw [if_neg (by omega), estep_below f5 (by omega)] at A; omega
        · by_cases c' : f.lo < e.lo
          · rw [if_neg (by omega), estep_below e5 (by omega)] at B; omega
          · omega
      have hto : e.to = f.to := by
        have A := h e.lo blo.1 e4
        simp only [estep] at A
        rw [if_pos ⟨Nat.le_refl _, e1⟩, if_pos (by omega)] at A
        exact A
      -- behind an edge comes another target
      have next : ∀ {k : Nat} {g : Ed} {gs : List Ed}, wfEdges k (g.hi : Int) gs → Merged (g :: gs) → 0 ≤ g.to → estep gs (g.hi + 1) ≠ g.to := by
        intro k g gs hg mg g0 hh
        cases gs with
        | nil => simp [estep] at hh; omega
        | cons x xs =>
          obtain ⟨x1, x2, x3, x4, x5⟩ := hg
          simp only [estep] at hh
          by_cases c : x.lo = g.hi + 1
          · rw [if_pos (by omega)] at hh
            exact mg.1 ⟨hh.symm, c.symm⟩
          · rw [if_neg (by omega), estep_below x5 (by omega)] at hh
            omega
      have hhi : e.hi = f.hi := by
        by_cases c : e.hi < f.hi
        · have A := h (e.hi + 1) (by omega) (by omega)
          simp only [estep] at A
          rw [if_neg (by omega), if_pos (by omega)] at A
          exact absurd (A.trans hto.symm) (next e5 me e2)
        · by_cases c' : f.hi < e.hi
          · have A := h (f.hi + 1) (by omega) (by omega)
            simp only [estep] at A
            rw [if_pos (by omega), if_neg (by omega)] at A
            exact absurd (A.symm.trans hto) (next f5 mf f2)
          · omega
      have heq : e = f := by
        cases e; cases f; simp_all
      subst heq
      congr 1
      have me' : Merged es := by
        cases es with
        | nil => trivial
        | cons x xs => exact me.2
      have mf' : Merged fs := by
        cases fs with
        | nil => trivial
        | cons x xs => exact mf.2
      refine ih fs e.hi e5 f5 be' bf' me' mf' ?_
      intro b hb hp
      have A := h b hb (by omega)
      simp only [estep] at A
      rw [if_neg (by omega), if_neg (by omega)] at A
      exact A

theorem byteOf (b : Nat) (h : b < 256) : ∃ u : UInt8, u.toNat = b := ⟨UInt8.ofNat b, by simp [Nat.mod_eq_of_lt h]⟩

theorem resid {l m : Table} {i j : Int} (h : ∀ w, accFrom l i w = accFrom m j w) (b : Nat) (hb : b < 256) : ∀ w, accFrom l (tstep l i b) w = accFrom m (tstep m j b) w := by
  obtain ⟨u, rfl⟩ := byteOf b hb
  intro w
  have := h (u :: w)
  simpa [accFrom] using this

theorem live_iff {l m : Table} (hl : Canon l) (hm : Canon m) {i j : Int} (hi : i = -1 ∨ (0 ≤ i ∧ i < l.length)) (hj : j = -1 ∨ (0 ≤ j ∧ j < m.length))
    (h : ∀ w, accFrom l i w = accFrom m j w) : (i = -1 ∧ j = -1) ∨ (∃ s t : Nat, i = s ∧ j = t ∧ s < l.length ∧ t < m.length) := by
  rcases hi with hi | ⟨hi0, hi1⟩
  · rcases hj with hj | ⟨hj0, hj1⟩
    · exact .inl ⟨hi, hj⟩
    · obtain ⟨t, rfl⟩ := Int.eq_ofNat_of_zero_le hj0
      obtain ⟨w, hw⟩ := hm.live t (by omega)
      have := h w
      rw [hw, accFrom_neg (by omega)] at this
      cases this
  · obtain ⟨s, rfl⟩ := Int.eq_ofNat_of_zero_le hi0
    rcases hj with hj | ⟨hj0, hj1⟩
    · obtain ⟨w, hw⟩ := hl.live s (by omega)
      have := h w
      rw [hw, accFrom_neg (by omega)] at this
      cases this
    · obtain ⟨t, rfl⟩ := Int.eq_ofNat_of_zero_le hj0
      exact .inr ⟨s, t, rfl, rfl, by omega, by omega⟩

/-- the core of uniqueness: at each state and byte both automata go to the same state -/
theorem same_at {l m : Table} (hl : Canon l) (hm : Canon m) (h : ∀ w, accFrom l 0 w = accFrom m 0 w) :
    ∀ N k b : Nat, b < 256 → 256 * k + b < N → ((k < l.length ∨ k < m.length) → (∀ w, accFrom l k w = accFrom m k w)) ∧ tstep l k b = tstep m k b := by
  intro N
  induction N with
  | zero => intro k b _ hN; omega
  | succ N ih =>
    intro k b hb hN
    have hres : (k < l.length ∨ k < m.length) → (∀ w, accFrom l k w = accFrom m k w) := by
      intro hk
      by_cases k0 : k = 0
      · subst k0; exact h
      · rcases hk with hk | hk
        · obtain ⟨k', b', h1, h2, h3⟩ := hl.reach k (by omega) hk
          have := ih k' b' h2 (by omega)
          have hk' : k' < l.length := by omega
          have r := resid (this.1 (.inl hk')) b' h2
          rw [← this.2, h3] at r
          exact r
        · obtain ⟨k', b', h1, h2, h3⟩ := hm.reach k (by omega) hk
          have := ih k' b' h2 (by omega)
          have hk' : k' < m.length := by omega
          have r := resid (this.1 (.inr hk')) b' h2
          rw [this.2, h3] at r
          exact r
    refine ⟨hres, ?_⟩
    by_cases hk : k < l.length ∨ k < m.length
    · have r := resid (hres hk) b hb
      rcases live_iff hl hm (tstep_range hl.wf _ b) (tstep_range hm.wf _ b) r with ⟨e1, e2⟩ | ⟨s, t, e1, e2, hs, ht⟩
      · rw [e1, e2]
      · rw [e1, e2] at r ⊢
        have : s = t := by
          by_cases c : s < t
          · -- t is seen in m at (k, b): so s was seen before in m
            have hm' : ∀ w, accFrom l s w = accFrom m s w := by
              by_cases s0 : s = 0
              · subst s0; exact h
              · obtain ⟨k', b', h1, h2, h3⟩ := hm.seen k b t hb e2 s (by omega) c
                have I := ih k' b' h1 (by omega)
                by_cases hk' : k' < l.length ∨ k' < m.length
                · have r' := resid (I.1 hk') b' h1
                  rw [I.2, h3] at r'
                  exact r'
                · rw [tstep_out m k' b' (by omega)] at h3; omega
            exact hm.dist s t (by omega) ht (fun w => (hm' w).symm.trans (r w))
          · by_cases c' : t < s
            · have hm' : ∀ w, accFrom l t w = accFrom m t w := by
                by_cases t0 : t = 0
                · subst t0; exact h
                · obtain ⟨k', b', h1, h2, h3⟩ := hl.seen k b s hb e1 t (by omega) c'
                  have I := ih k' b' h1 (by omega)
                  by_cases hk' : k' < l.length ∨ k' < m.length
                  · have r' := resid (I.1 hk') b' h1
                    rw [← I.2, h3] at r'
                    exact r'
                  · rw [tstep_out l k' b' (by omega)] at h3; omega
              exact hl.dist s t hs (by omega) (fun w => (r w).trans (hm' w).symm)
            · omega
        rw [this]
    · rw [tstep_out l k b (by omega), tstep_out m k b (by omega)]

theorem accAt_nat (l : Table) (k : Nat) (h : k < l.length) : accAt l (k : Int) = (l[k]).accept := by
  have h0 : ¬ ((k : Int) < 0) := by omega
  simp [accAt, h0, h]

theorem lens {l m : Table} (hl : Canon l) (hm : Canon m) (h : ∀ w, accFrom l 0 w = accFrom m 0 w) : l.length ≤ m.length := by
  apply Nat.le_of_not_lt
  intro c
  have A := (same_at hl hm h (256 * m.length + 1) m.length 0 (by omega) (by omega)).1 (.inl c)
  obtain ⟨w, hw⟩ := hl.live m.length c
  rw [A w, accFrom_out m _ w (by omega)] at hw
  cases hw

/-- CANONICAL AUTOMATA OF ONE LANGUAGE ARE ONE. -/
theorem canon_unique {l m : Table} (hl : Canon l) (hm : Canon m) (h : ∀ w, accFrom l 0 w = accFrom m 0 w) : l = m := by
  have hlen : l.length = m.length := Nat.le_antisymm (lens hl hm h) (lens hm hl (fun w => (h w).symm))
  apply List.ext_getElem hlen
  intro k h1 h2
  have ha : (l[k]).accept = (m[k]).accept := by
    have := (same_at hl hm h (256 * k + 1) k 0 (by omega) (by omega)).1 (.inl h1) []
    simp only [accFrom] at this
    rwa [accAt_nat l k h1, accAt_nat m k h2] at this
  have he : (l[k]).edges = (m[k]).edges := by
    refine edges_unique _ _ (-1) (hl.wf _ (List.getElem_mem h1)) (hm.wf _ (List.getElem_mem h2)) (hl.bytes _ (List.getElem_mem h1)) (hm.bytes _ (List.getElem_mem h2))
      (hl.merged _ (List.getElem_mem h1)) (hm.merged _ (List.getElem_mem h2)) ?_
    intro b hb _
    have := (same_at hl hm h (256 * k + b + 1) k b hb (by omega)).2
    rwa [tstep_nat l k b h1, tstep_nat m k b h2] at this
  cases hx : l[k]; cases hy : m[k]; simp_all

end Cl
namespace Cl
noncomputable def tf (p : Prop) : Bool := @decide p (Classical.propDecidable p)
theorem tf_true {p : Prop} (h : p) : tf p = true := by simp [tf, h]
theorem tf_false {p : Prop} (h : ¬ p) : tf p = false := by simp [tf, h]
theorem tf_iff {p : Prop} : tf p = true ↔ p := by simp [tf]
theorem tf_congr {p q : Prop} (h : p ↔ q) : tf p = tf q := by rw [show p = q from propext h]

def prevHi (es : List Ed) (k : Nat) : Int := if h : 0 < k ∧ k ≤ es.length then ((es[k - 1]'(by omega)).hi : Int) else -1
theorem prevHi_zero (es : List Ed) (k : Nat) (h : ¬ 0 < k) : prevHi es k = -1 := by simp [prevHi, h]
theorem wfEdges_step {n : Nat} {es : List Ed} {k : Nat} (h : k < es.length) :
    wfEdges n (prevHi es k) (es.drop k) ↔ (es[k]).lo ≤ (es[k]).hi ∧ 0 ≤ (es[k]).to ∧ (es[k]).to < n ∧ prevHi es k < (es[k]).lo ∧ wfEdges n (prevHi es (k + 1)) (es.drop (k + 1)) := by
  rw [List.drop_eq_getElem_cons h, wfEdges]
  have : prevHi es (k + 1) = (es[k]).hi := by simp [prevHi, Nat.succ_le_of_lt h]
  rw [this]
theorem wf_step {n : Nat} {l : Table} {k : Nat} (h : k < l.length) :
    (∀ s ∈ l.drop k, wfEdges n (-1) s.edges) ↔ wfEdges n (-1) (l[k]).edges ∧ ∀ s ∈ l.drop (k + 1), wfEdges n (-1) s.edges := by
  rw [List.drop_eq_getElem_cons h, List.forall_mem_cons]
end Cl
namespace Cl

theorem wfEdges_mono {n n' : Nat} (h : n ≤ n') {es : List Ed} : ∀ {p : Int}, wfEdges n p es → wfEdges n' p es := by
  induction es with
  | nil => intro p _; trivial
  | cons e es ih => intro p ⟨h1, h2, h3, h4, h5⟩; exact ⟨h1, h2, by omega, h4, ih h5⟩
theorem wfEdges_low {n : Nat} {es : List Ed} {p q : Int} (h : wfEdges n p es) (hq : q ≤ p) : wfEdges n q es := by
  cases es with
  | nil => trivial
  | cons e es => obtain ⟨h1, h2, h3, h4, h5⟩ := h; exact ⟨h1, h2, h3, by omega, h5⟩
theorem wfEdges_app {n : Nat} {es fs : List Ed} : ∀ {p q : Int}, wfEdges n p es → (∀ e ∈ es, (e.hi : Int) ≤ q) → p ≤ q → wfEdges n q fs → wfEdges n p (es ++ fs) := by
  induction es with
  | nil => intro p q _ _ hpq hf; exact wfEdges_low hf hpq
  | cons e es ih =>
    intro p q ⟨h1, h2, h3, h4, h5⟩ hq _ hf
    exact ⟨h1, h2, h3, h4, ih h5 (fun x hx => hq x (by simp [hx])) (hq e (by simp)) hf⟩
theorem wfEdges_front {n : Nat} {es fs : List Ed} : ∀ {p : Int}, wfEdges n p (es ++ fs) → wfEdges n p es := by
  induction es with
  | nil => intro p _; trivial
  | cons e es ih => intro p ⟨h1, h2, h3, h4, h5⟩; exact ⟨h1, h2, h3, h4, ih h5⟩
theorem estep_app (es fs : List Ed) (b : Nat) (h : ∀ e ∈ es, ¬ (e.lo ≤ b ∧ b ≤ e.hi)) : estep (es ++ fs) b = estep fs b := by
  induction es with
  | nil => rfl
  | cons e es ih =>
    simp only [List.cons_append, estep]
    rw [if_neg (h e (by simp))]
    exact ih fun x hx => h x (by simp [hx])
theorem estep_app_left (es fs : List Ed) (b : Nat) (h : ∃ e ∈ es, e.lo ≤ b ∧ b ≤ e.hi) : estep (es ++ fs) b = estep es b := by
  induction es with
  | nil => obtain ⟨e, h, _⟩ := h; simp at h
  | cons e es ih =>
    simp only [List.cons_append, estep]
    split
    · rfl
    · rename_i hn
      obtain ⟨x, hx, h1⟩ := h
      rcases List.mem_cons.1 hx with rfl | hx
      · exact absurd h1 hn
      · exact ih ⟨x, hx, h1⟩
theorem estep_none (es : List Ed) (b : Nat) (h : ∀ e ∈ es, ¬ (e.lo ≤ b ∧ b ≤ e.hi)) : estep es b = -1 := by
  have := estep_app es [] b h
  simpa [estep] using this
theorem wfEdges_sep {n : Nat} {es : List Ed} : ∀ {p : Int}, wfEdges n p es → ∀ e ∈ es, p < e.lo ∧ e.lo ≤ e.hi ∧ 0 ≤ e.to ∧ e.to < n := by
  induction es with
  | nil => intro p _ e he; simp at he
  | cons x es ih =>
    intro p ⟨h1, h2, h3, h4, h5⟩ e he
    rcases List.mem_cons.1 he with rfl | he
    · exact ⟨h4, h1, h2, h3⟩
    · have := ih h5 e he; exact ⟨by omega, this.2⟩
theorem wfEdges_last {n : Nat} {es : List Ed} {x : Ed} : ∀ {p : Int}, wfEdges n p (es ++ [x]) → ∀ e ∈ es, e.hi < x.lo := by
  induction es with
  | nil => intro p _ e he; simp at he
  | cons y es ih =>
    intro p ⟨h1, h2, h3, h4, h5⟩ e he
    rcases List.mem_cons.1 he with rfl | he
    · have := (wfEdges_sep h5 x (by simp)).1; omega
    · exact ih h5 e he

theorem merged_app {es : List Ed} {x : Ed} (h : Merged es) (hx : ∀ y, es.getLast? = some y → ¬ (y.to = x.to ∧ y.hi + 1 = x.lo)) : Merged (es ++ [x]) := by
  induction es with
  | nil => trivial
  | cons e es ih =>
    cases es with
    | nil => exact ⟨hx e rfl, trivial⟩
    | cons f es => exact ⟨h.1, ih h.2 (fun y hy => hx y (by simpa using hy))⟩
theorem merged_widen {es : List Ed} {x : Ed} {hi : Nat} (h : Merged (es ++ [x])) : Merged (es ++ [⟨x.lo, hi, x.to⟩]) := by
  induction es with
  | nil => trivial
  | cons e es ih =>
    cases es with
    | nil => exact ⟨h.1, trivial⟩
    | cons f es => exact ⟨h.1, ih h.2⟩
theorem merged_front {es fs : List Ed} (h : Merged (es ++ fs)) : Merged es := by
  induction es with
  | nil => trivial
  | cons e es ih =>
    cases es with
    | nil => trivial
    | cons f es => exact ⟨h.1, ih h.2⟩

/-- one interval more at the end of a state's edges -/
def pushEd (es : List Ed) (lo hi : Nat) (to : Nat) : List Ed := match es.getLast? with
  | some e => if e.to = to ∧ e.hi + 1 = lo then es.dropLast ++ [⟨e.lo, hi, to⟩] else es ++ [⟨lo, hi, to⟩]
  | none => es ++ [⟨lo, hi, to⟩]

theorem pushEd_spec {n : Nat} {es : List Ed} {lo hi to : Nat} (hw : wfEdges n (-1) es) (hlt : ∀ e ∈ es, e.hi < lo) (hlh : lo ≤ hi) (h256 : hi < 256) (hto : to < n) (hb : bytesEdges es) (hm : Merged es) :
    wfEdges n (-1) (pushEd es lo hi to) ∧ (∀ e ∈ pushEd es lo hi to, e.hi ≤ hi) ∧ bytesEdges (pushEd es lo hi to) ∧ Merged (pushEd es lo hi to) ∧
      ∀ b, estep (pushEd es lo hi to) b = if lo ≤ b ∧ b ≤ hi then (to : Int) else estep es b := by
  have plain : (∀ y, es.getLast? = some y → ¬ (y.to = (to : Int) ∧ y.hi + 1 = lo)) → wfEdges n (-1) (es ++ [⟨lo, hi, to⟩]) ∧ (∀ e ∈ es ++ [⟨lo, hi, to⟩], e.hi ≤ hi) ∧ bytesEdges (es ++ [⟨lo, hi, to⟩]) ∧ Merged (es ++ [⟨lo, hi, to⟩]) ∧
      ∀ b, estep (es ++ [⟨lo, hi, to⟩]) b = if lo ≤ b ∧ b ≤ hi then (to : Int) else estep es b := by
    intro hl
    refine ⟨wfEdges_app (q := (lo : Int) - 1) hw (fun e he => by have := hlt e he; omega) (by omega) ⟨hlh, by simp, by simpa using hto, by show (lo : Int) - 1 < (lo : Int); omega, trivial⟩, ?_, ?_, merged_app hm hl, ?_⟩
    · intro e he
      rcases List.mem_append.1 he with h | h
      · have := hlt e h; omega
      · simp only [List.mem_singleton] at h; subst h; exact Nat.le_refl _
    · intro e he
      rcases List.mem_append.1 he with h | h
      · exact hb e h
      · simp only [List.mem_singleton] at h; subst h; exact ⟨by simp; omega, by simpa using h256⟩
    · intro b
      by_cases c : lo ≤ b ∧ b ≤ hi
      · rw [if_pos c, estep_app _ _ _ (fun e he => by have := hlt e he; omega)]
        simp [estep, c]
      · rw [if_neg c]
        by_cases d : ∃ e ∈ es, e.lo ≤ b ∧ b ≤ e.hi
        · exact estep_app_left _ _ _ d
        · have d' : ∀ e ∈ es, ¬ (e.lo ≤ b ∧ b ≤ e.hi) := fun e he h => d ⟨e, he, h⟩
          rw [estep_app _ _ _ d', estep_none _ _ d']
          simp [estep, c]
  unfold pushEd
  split
  · rename_i e he
    split
    · rename_i hc
      obtain ⟨hc1, hc2⟩ := hc
      obtain ⟨fs, rfl⟩ : ∃ fs, es = fs ++ [e] := List.getLast?_eq_some_iff.1 he
      rw [List.dropLast_concat]
      have hfl := wfEdges_last hw
      have hel := (wfEdges_sep hw e (by simp))
      have hle := hlt e (by simp)
      refine ⟨wfEdges_app (q := (e.lo : Int) - 1) (wfEdges_front hw) (fun x hx => by have := hfl x hx; omega) (by omega) ⟨by show e.lo ≤ hi; omega, by simp, by simpa using hto, by show (e.lo : Int) - 1 < (e.lo : Int); omega, trivial⟩, ?_, ?_, ?_, ?_⟩
      · intro x hx
        rcases List.mem_append.1 hx with h | h
        · have := hfl x h; omega
        · simp only [List.mem_singleton] at h; subst h; exact Nat.le_refl _
      · intro x hx
        rcases List.mem_append.1 hx with h | h
        · exact hb x (by simp [h])
        · simp only [List.mem_singleton] at h; subst h; exact ⟨by simp; omega, by simpa using h256⟩
      · have := merged_widen (hi := hi) hm
        rwa [hc1] at this
      · intro b
        by_cases d : ∃ x ∈ fs, x.lo ≤ b ∧ b ≤ x.hi
        · obtain ⟨x, hx, h1, h2⟩ := d
          have := hfl x hx
          rw [estep_app_left _ _ _ ⟨x, hx, h1, h2⟩, estep_app_left _ _ _ ⟨x, hx, h1, h2⟩, if_neg (by omega)]
        · have d' : ∀ x ∈ fs, ¬ (x.lo ≤ b ∧ b ≤ x.hi) := fun x hx h => d ⟨x, hx, h⟩
          rw [estep_app _ _ _ d', estep_app _ _ _ d']
          simp only [estep]
          by_cases c : lo ≤ b ∧ b ≤ hi
          · rw [if_pos c, if_pos (by omega)]
          · rw [if_neg c]
            by_cases c2 : e.lo ≤ b ∧ b ≤ e.hi
            · rw [if_pos (by omega), if_pos c2, hc1]
            · rw [if_neg (by omega), if_neg c2]
    · rename_i hc
      exact plain fun y hy => by rw [he] at hy; cases hy; exact hc
  · rename_i he
    exact plain fun y hy => by rw [he] at hy; cases hy

/-- the place in an order of a state of the class of t, or its length -/
def posOf (cf : Nat → Int) (o : List Nat) (t : Nat) : Nat := o.findIdx fun s => cf s == cf t
def ordAdd (cf : Nat → Int) (o : List Nat) (t : Nat) : List Nat := if posOf cf o t < o.length then o else o ++ [t]
def Dif (cf : Nat → Int) (o : List Nat) : Prop := o.Pairwise fun a b => cf a ≠ cf b

theorem posOf_le (cf : Nat → Int) (o : List Nat) (t : Nat) : posOf cf o t ≤ o.length := List.findIdx_le_length
theorem posOf_get {cf : Nat → Int} {o : List Nat} {t : Nat} (h : posOf cf o t < o.length) : cf (o[posOf cf o t]) = cf t := by
  have := List.findIdx_getElem (p := fun s => cf s == cf t) (w := h)
  exact eq_of_beq this
theorem posOf_app_left {cf : Nat → Int} {o x : List Nat} {t : Nat} (h : posOf cf o t < o.length) : posOf cf (o ++ x) t = posOf cf o t := by
  unfold posOf at *
  rw [List.findIdx_append, if_pos h]
theorem posOf_new {cf : Nat → Int} {o : List Nat} {t : Nat} (h : ¬ posOf cf o t < o.length) : posOf cf (o ++ [t]) t = o.length := by
  unfold posOf at *
  rw [List.findIdx_append, if_neg h]
  simp [List.findIdx_cons]
theorem posOf_none {cf : Nat → Int} {o : List Nat} {t : Nat} (h : ¬ posOf cf o t < o.length) : ∀ s ∈ o, cf s ≠ cf t := by
  intro s hs e
  exact h (List.findIdx_lt_length.2 ⟨s, hs, by simpa using e⟩)
theorem dif_add {cf : Nat → Int} {o : List Nat} (t : Nat) (h : Dif cf o) : Dif cf (ordAdd cf o t) := by
  unfold ordAdd
  split
  · exact h
  · rename_i hn
    exact List.pairwise_append.2 ⟨h, by simp, fun a ha b hb => by
      simp only [List.mem_singleton] at hb; subst hb; exact posOf_none hn a ha⟩
theorem dif_inj {cf : Nat → Int} {o : List Nat} (h : Dif cf o) {i j : Nat} (hi : i < o.length) (hj : j < o.length) (e : cf o[i] = cf o[j]) : i = j := by
  have := List.pairwise_iff_getElem.1 h
  rcases Nat.lt_trichotomy i j with c | c | c
  · exact absurd e (this i j hi hj c)
  · exact c
  · exact absurd e.symm (this j i hj hi c)
theorem posOf_eq {cf : Nat → Int} {o : List Nat} (h : Dif cf o) {p t : Nat} (hp : p < o.length) (e : cf o[p] = cf t) : posOf cf o t = p := by
  have h1 : posOf cf o t < o.length := List.findIdx_lt_length.2 ⟨o[p], List.getElem_mem hp, by simpa using e⟩
  exact dif_inj h h1 hp ((posOf_get h1).trans e.symm)
theorem ordAdd_pre (cf : Nat → Int) (o : List Nat) (t : Nat) : o <+: ordAdd cf o t := by
  unfold ordAdd
  split
  · exact List.prefix_rfl
  · exact List.prefix_append _ _
theorem ordAdd_pos (cf : Nat → Int) (o : List Nat) (t : Nat) : posOf cf (ordAdd cf o t) t = posOf cf o t ∧ posOf cf o t < (ordAdd cf o t).length := by
  unfold ordAdd
  split
  · rename_i h; exact ⟨rfl, h⟩
  · rename_i h
    have := posOf_le cf o t
    exact ⟨by rw [posOf_new h]; omega, by simp; omega⟩
theorem pre_pos {cf : Nat → Int} {o o' : List Nat} (h : o <+: o') {t : Nat} (ht : posOf cf o t < o.length) : posOf cf o' t = posOf cf o t := by
  obtain ⟨x, rfl⟩ := h
  exact posOf_app_left ht
theorem pre_get {o o' : List Nat} (h : o <+: o') {i : Nat} (hi : i < o.length) : o'[i]'(Nat.lt_of_lt_of_le hi h.length_le) = o[i] := by
  obtain ⟨x, rfl⟩ := h
  exact List.getElem_append_left hi
theorem ordAdd_mem {cf : Nat → Int} {o : List Nat} {t : Nat} : ∀ x ∈ ordAdd cf o t, x ∈ o ∨ x = t := by
  intro x hx
  unfold ordAdd at hx
  split at hx
  · exact .inl hx
  · simpa using hx
theorem ordAdd_len {cf : Nat → Int} {o : List Nat} {t : Nat} : (ordAdd cf o t).length = o.length ∨ (ordAdd cf o t).length = o.length + 1 ∧ posOf cf o t = o.length := by
  unfold ordAdd
  split
  · exact .inl rfl
  · rename_i h
    have := posOf_le cf o t
    exact .inr ⟨by simp, by omega⟩

section
variable (cf : Nat → Int) (dl : Nat → Nat → Option Nat) (lo hi : Nat → Nat) (ac : Nat → Bool) (K : Nat)

def rowTo (s : Nat) (o : List Nat) : Nat → List Nat × List Ed
  | 0 => (o, [])
  | i + 1 => match dl s i with
    | none => rowTo s o i
    | some t => (ordAdd cf (rowTo s o i).1 t, pushEd (rowTo s o i).2 (lo i) (hi i) (posOf cf (rowTo s o i).1 t))
def bfsTo : Nat → List Nat × Table
  | 0 => ([0], [])
  | k + 1 => ((rowTo cf dl lo hi ((bfsTo k).1.getD k 0) (bfsTo k).1 K).1, (bfsTo k).2 ++ [⟨ac ((bfsTo k).1.getD k 0), (rowTo cf dl lo hi ((bfsTo k).1.getD k 0) (bfsTo k).1 K).2⟩])

/-- the intervals of bytes -/
structure Ivs : Prop where
  le : ∀ i, i < K → lo i ≤ hi i ∧ hi i < 256
  sep : ∀ i j, i < j → j < K → hi i < lo j
  cover : ∀ b, b < 256 → ∃ i, i < K ∧ lo i ≤ b ∧ b ≤ hi i

def tgt (o : List Nat) : Option Nat → Int
  | none => -1
  | some t => posOf cf o t

structure RowInv (N s : Nat) (o : List Nat) (i : Nat) (r : List Nat × List Ed) : Prop where
  pre : o <+: r.1
  dif : Dif cf r.1
  lt : ∀ x ∈ r.1, x < N
  wf : wfEdges r.1.length (-1) r.2
  low : ∀ e ∈ r.2, ∀ j, i ≤ j → j < K → e.hi < lo j
  bytes : bytesEdges r.2
  merged : Merged r.2
  step : ∀ j, j < i → ∀ b, lo j ≤ b → b ≤ hi j → estep r.2 b = tgt cf r.1 (dl s j)
  there : ∀ j, j < i → ∀ t, dl s j = some t → posOf cf r.1 t < r.1.length
  new : ∀ p, o.length ≤ p → p < r.1.length → ∃ j, j < i ∧ ∃ t, dl s j = some t ∧ posOf cf r.1 t = p
  seen : ∀ j, j < i → ∀ t, dl s j = some t → ∀ p, o.length ≤ p → p < posOf cf r.1 t → ∃ j', j' < j ∧ ∃ t', dl s j' = some t' ∧ posOf cf r.1 t' = p

variable {cf dl lo hi ac K}

theorem row_inv {N s : Nat} {o : List Nat} (hI : Ivs lo hi K) (hd : Dif cf o) (hlt : ∀ x ∈ o, x < N) (hdl : ∀ i t, i < K → dl s i = some t → t < N) :
    ∀ i, i ≤ K → RowInv cf dl lo hi K N s o i (rowTo cf dl lo hi s o i) := by
  intro i
  induction i with
  | zero =>
    intro _
    exact ⟨List.prefix_rfl, hd, hlt, trivial, fun e he => by simp [rowTo] at he, fun e he => by simp [rowTo] at he, trivial, fun j hj => by omega, fun j hj => by omega, fun p h1 h2 => by simp [rowTo] at h2; omega, fun j hj => by omega⟩
  | succ i ih =>
    intro hi'
    have ih := ih (by omega)
    have hle := hI.le i (by omega)
    cases hc : dl s i with
    | none =>
      have e : rowTo cf dl lo hi s o (i + 1) = rowTo cf dl lo hi s o i := by simp [rowTo, hc]
      rw [e]
      generalize rowTo cf dl lo hi s o i = r at *
      refine ⟨ih.pre, ih.dif, ih.lt, ih.wf, fun e he j hj => ih.low e he j (by omega), ih.bytes, ih.merged, ?_, ?_, ?_, ?_⟩
      · intro j hj b h1 h2
        by_cases c : j = i
        · subst c
          rw [hc]
          show _ = (-1 : Int)
          apply estep_none
          intro e he
          have := ih.low e he j (Nat.le_refl _) (by omega)
          omega
        · exact ih.step j (by omega) b h1 h2
      · intro j hj t ht
        by_cases c : j = i
        · subst c; rw [hc] at ht; cases ht
        · exact ih.there j (by omega) t ht
      · intro p h1 h2
        obtain ⟨j, hj, h⟩ := ih.new p h1 h2
        exact ⟨j, by omega, h⟩
      · intro j hj t ht
        by_cases c : j = i
        · subst c; rw [hc] at ht; cases ht
        · exact ih.seen j (by omega) t ht
    | some t =>
      have e : rowTo cf dl lo hi s o (i + 1) = (ordAdd cf (rowTo cf dl lo hi s o i).1 t, pushEd (rowTo cf dl lo hi s o i).2 (lo i) (hi i) (posOf cf (rowTo cf dl lo hi s o i).1 t)) := by simp [rowTo, hc]
      rw [e]
      generalize rowTo cf dl lo hi s o i = r at *
      have hpre := ordAdd_pre cf r.1 t
      have hpos := ordAdd_pos cf r.1 t
      have hlen := hpre.length_le
      obtain ⟨p1, p2, p3, p4, p5⟩ := pushEd_spec (to := posOf cf r.1 t) (wfEdges_mono hlen ih.wf) (fun e he => ih.low e he i (Nat.le_refl _) (by omega)) hle.1 hle.2 hpos.2 ih.bytes ih.merged
      have hsame : ∀ j, j < i → ∀ u, dl s j = some u → posOf cf (ordAdd cf r.1 t) u = posOf cf r.1 u := fun j hj u hu => pre_pos hpre (ih.there j hj u hu)
      refine ⟨ih.pre.trans hpre, dif_add t ih.dif, ?_, p1, ?_, p3, p4, ?_, ?_, ?_, ?_⟩
      · intro x hx
        rcases ordAdd_mem x hx with h | h
        · exact ih.lt x h
        · subst h; exact hdl i _ (by omega) hc
      · intro e he j hj hjK
        have h1 := p2 e he
        have h2 := hI.sep i j (by omega) hjK
        omega
      · intro j hj b h1 h2
        show estep (pushEd r.2 (lo i) (hi i) (posOf cf r.1 t)) b = tgt cf (ordAdd cf r.1 t) (dl s j)
        rw [p5]
        by_cases c : j = i
        · subst c
          rw [if_pos ⟨h1, h2⟩, hc]
          show _ = ((posOf cf (ordAdd cf r.1 t) t : Nat) : Int)
          rw [hpos.1]
        · have := hI.sep j i (by omega) (by omega)
          rw [if_neg (by omega), ih.step j (by omega) b h1 h2]
          cases hu : dl s j with
          | none => rfl
          | some u => simp only [tgt]; rw [hsame j (by omega) u hu]
      · intro j hj u hu
        by_cases c : j = i
        · subst c
          rw [hc] at hu; cases hu
          show posOf cf (ordAdd cf r.1 t) t < (ordAdd cf r.1 t).length
          rw [hpos.1]; exact hpos.2
        · have := ih.there j (by omega) u hu
          show posOf cf (ordAdd cf r.1 t) u < (ordAdd cf r.1 t).length
          rw [hsame j (by omega) u hu]
          omega
      · intro p h1 h2
        have h2 : p < (ordAdd cf r.1 t).length := h2
        by_cases c : p < r.1.length
        · obtain ⟨j, hj, u, hu, he⟩ := ih.new p h1 c
          exact ⟨j, by omega, u, hu, by rw [← he]; exact hsame j hj u hu⟩
        · rcases ordAdd_len (cf := cf) (o := r.1) (t := t) with h | ⟨h, h'⟩
          · omega
          · exact ⟨i, by omega, t, hc, by show posOf cf (ordAdd cf r.1 t) t = p; rw [hpos.1]; omega⟩
      · intro j hj u hu p h1 h2
        have h2 : p < posOf cf (ordAdd cf r.1 t) u := h2
        by_cases c : j = i
        · subst c
          rw [hc] at hu; cases hu
          rw [hpos.1] at h2
          have := posOf_le cf r.1 t
          obtain ⟨j', hj', u, hu, he⟩ := ih.new p h1 (by omega)
          exact ⟨j', hj', u, hu, by rw [← he]; exact hsame j' hj' u hu⟩
        · rw [hsame j (by omega) u hu] at h2
          obtain ⟨j', hj', u', hu', he⟩ := ih.seen j (by omega) u hu p h1 h2
          exact ⟨j', hj', u', hu', by rw [← he]; exact hsame j' (by omega) u' hu'⟩

structure BfsInv (cf : Nat → Int) (dl : Nat → Nat → Option Nat) (lo hi : Nat → Nat) (ac : Nat → Bool) (K N k : Nat) (r : List Nat × Table) : Prop where
  first : r.1[0]? = some 0
  dif : Dif cf r.1
  lt : ∀ x ∈ r.1, x < N
  len : r.2.length = k
  state : ∀ j, (h : j < r.2.length) → ∃ h' : j < r.1.length, (r.2[j]).accept = ac r.1[j] ∧ wfEdges r.1.length (-1) (r.2[j]).edges ∧ bytesEdges (r.2[j]).edges ∧ Merged (r.2[j]).edges ∧
    ∀ i, i < K → (∀ b, lo i ≤ b → b ≤ hi i → estep (r.2[j]).edges b = tgt cf r.1 (dl r.1[j] i)) ∧ ∀ t, dl r.1[j] i = some t → posOf cf r.1 t < r.1.length
  reach : ∀ p, 0 < p → p < r.1.length → ∃ j, j < k ∧ j < p ∧ ∃ i, i < K ∧ ∃ t, dl (r.1.getD j 0) i = some t ∧ posOf cf r.1 t = p
  seen : ∀ j, j < k → ∀ i, i < K → ∀ t, dl (r.1.getD j 0) i = some t → ∀ p, 0 < p → p < posOf cf r.1 t →
    ∃ j' i', (j' < j ∨ j' = j ∧ i' < i) ∧ i' < K ∧ ∃ t', dl (r.1.getD j' 0) i' = some t' ∧ posOf cf r.1 t' = p

theorem getD_pre {o o' : List Nat} (h : o <+: o') {i : Nat} (hi : i < o.length) : o'.getD i 0 = o.getD i 0 := by
  have h' := Nat.lt_of_lt_of_le hi h.length_le
  simp [hi, h', pre_get h hi]

theorem bfs_inv {N : Nat} (hI : Ivs lo hi K) (h0 : 0 < N) (hdl : ∀ s i t, s < N → i < K → dl s i = some t → t < N) :
    ∀ k, (∀ j, j < k → j < (bfsTo cf dl lo hi ac K j).1.length) → BfsInv cf dl lo hi ac K N k (bfsTo cf dl lo hi ac K k) := by
  intro k
  induction k with
  | zero =>
    intro _
    exact ⟨rfl, by simp [bfsTo, Dif], fun x hx => by simp [bfsTo] at hx; omega, rfl, fun j h => by simp [bfsTo] at h, fun p h1 h2 => by simp [bfsTo] at h2; omega, fun j hj => by omega⟩
  | succ k ih =>
    intro hk
    have ih := ih fun j hj => hk j (by omega)
    have hkl := hk k (by omega)
    have e1 : (bfsTo cf dl lo hi ac K (k + 1)).1 = (rowTo cf dl lo hi ((bfsTo cf dl lo hi ac K k).1.getD k 0) (bfsTo cf dl lo hi ac K k).1 K).1 := rfl
    have e2 : (bfsTo cf dl lo hi ac K (k + 1)).2 = (bfsTo cf dl lo hi ac K k).2 ++ [⟨ac ((bfsTo cf dl lo hi ac K k).1.getD k 0), (rowTo cf dl lo hi ((bfsTo cf dl lo hi ac K k).1.getD k 0) (bfsTo cf dl lo hi ac K k).1 K).2⟩] := rfl
    generalize hr' : bfsTo cf dl lo hi ac K (k + 1) = r' at *
    generalize bfsTo cf dl lo hi ac K k = r at *
    have hs : r.1.getD k 0 < N := ih.lt _ (by simp [hkl])
    have R := row_inv (cf := cf) (s := r.1.getD k 0) hI ih.dif ih.lt (fun i t hi ht => hdl _ i t hs hi ht) K (Nat.le_refl _)
    obtain ⟨q1, q2⟩ := r'
    simp only at e1 e2
    generalize hq : rowTo cf dl lo hi (r.1.getD k 0) r.1 K = q at *
    obtain ⟨qo, qe⟩ := q
    subst e1
    subst e2
    have hpre := R.pre
    have hlen := hpre.length_le
    simp only at R hpre hlen
    have same : ∀ j, j < k → ∀ i, i < K → ∀ t, dl (r.1.getD j 0) i = some t → posOf cf q1 t = posOf cf r.1 t ∧ posOf cf r.1 t < r.1.length := by
      intro j hj i hi' t ht
      obtain ⟨h', -, -, -, -, h6⟩ := ih.state j (by rw [ih.len]; exact hj)
      have h7 := (h6 i hi').2 t (by simpa [h'] using ht)
      exact ⟨pre_pos hpre h7, h7⟩
    refine ⟨?_, R.dif, R.lt, by simp [ih.len], ?_, ?_, ?_⟩
    · obtain ⟨x, hx⟩ := hpre
      show q1[0]? = some 0
      rw [← hx, List.getElem?_append_left (by omega)]
      exact ih.first
    · intro j hj
      by_cases c : j < k
      · obtain ⟨h', h1, h2, h3, h4, h5⟩ := ih.state j (by rw [ih.len]; exact c)
        have eg : (r.2 ++ [⟨ac (r.1.getD k 0), qe⟩])[j]'hj = r.2[j]'(by rw [ih.len]; exact c) := List.getElem_append_left (by rw [ih.len]; exact c)
        have eo := pre_get hpre h'
        refine ⟨by show j < q1.length; omega, ?_⟩
        show ((r.2 ++ [⟨ac (r.1.getD k 0), qe⟩])[j]'hj).accept = _ ∧ _
        simp only [eg, eo]
        refine ⟨h1, wfEdges_mono hlen h2, h3, h4, fun i hi' => ⟨fun b b1 b2 => ?_, fun t ht => ?_⟩⟩
        · rw [(h5 i hi').1 b b1 b2]
          cases hu : dl r.1[j] i with
          | none => rfl
          | some u => simp only [tgt]; rw [(same j c i hi' u (by simpa [h'] using hu)).1]
        · have := same j c i hi' t (by simpa [h'] using ht)
          omega
      · have : j = k := by simp [ih.len] at hj; omega
        subst this
        have eg : (r.2 ++ [⟨ac (r.1.getD j 0), qe⟩])[j]'hj = ⟨ac (r.1.getD j 0), qe⟩ := by
          rw [List.getElem_append_right (by rw [ih.len]; omega)]
          simp [ih.len]
        have eo := pre_get hpre hkl
        have ed : r.1.getD j 0 = r.1[j] := by simp [hkl]
        refine ⟨by show j < q1.length; omega, ?_⟩
        show ((r.2 ++ [⟨ac (r.1.getD j 0), qe⟩])[j]'hj).accept = _ ∧ _
        simp only [eg, eo]
        rw [ed] at R ⊢
        exact ⟨rfl, R.wf, R.bytes, R.merged, fun i hi' => ⟨R.step i hi', R.there i hi'⟩⟩
    · intro p h1 h2
      have h2 : p < q1.length := h2
      by_cases c : p < r.1.length
      · obtain ⟨j, hj, hjp, i, hi', t, ht, he⟩ := ih.reach p h1 c
        refine ⟨j, by omega, hjp, i, hi', t, ?_, ?_⟩
        · rw [getD_pre hpre (by omega)]; exact ht
        · rw [← he]; exact (same j hj i hi' t ht).1
      · obtain ⟨i, hi', t, ht, he⟩ := R.new p (by omega) h2
        refine ⟨k, by omega, by omega, i, hi', t, ?_, he⟩
        rw [getD_pre hpre hkl]; exact ht
    · intro j hj i hi' t ht p h1 h2
      have h2 : p < posOf cf q1 t := h2
      have ht : dl (q1.getD j 0) i = some t := ht
      by_cases c : j < k
      · rw [getD_pre hpre (by omega)] at ht
        rw [(same j c i hi' t ht).1] at h2
        obtain ⟨j', i', hlt', hi'', t', ht', he⟩ := ih.seen j c i hi' t ht p h1 h2
        refine ⟨j', i', hlt', hi'', t', ?_, ?_⟩
        · rw [getD_pre hpre (by omega)]; exact ht'
        · rw [← he]; exact (same j' (by omega) i' hi'' t' ht').1
      · have : j = k := by omega
        subst this
        rw [getD_pre hpre hkl] at ht
        by_cases d : p < r.1.length
        · obtain ⟨j', hj', hjp, i', hi'', t', ht', he⟩ := ih.reach p h1 d
          refine ⟨j', i', .inl hj', hi'', t', ?_, ?_⟩
          · rw [getD_pre hpre (by omega)]; exact ht'
          · rw [← he]; exact (same j' hj' i' hi'' t' ht').1
        · obtain ⟨i', hi'', t', ht', he⟩ := R.seen i hi' t ht p (by omega) h2
          refine ⟨j, i', .inr ⟨rfl, hi''⟩, by omega, t', ?_, he⟩
          rw [getD_pre hpre hkl]; exact ht'
end

/-- what the numbering asks of a table T with states 0 .. N - 1 -/
structure BfsHyp (T : Table) (N : Nat) (cf : Nat → Int) (dl : Nat → Nat → Option Nat) (lo hi : Nat → Nat) (ac : Nat → Bool) (K : Nat) : Prop where
  iv : Ivs lo hi K
  pos : 0 < N
  some : ∀ s i t, s < N → i < K → dl s i = some t → t < N ∧ (∃ w, accFrom T t w = true) ∧ ∀ b, lo i ≤ b → b ≤ hi i → ∀ w, accFrom T (tstep T s b) w = accFrom T t w
  none : ∀ s i, s < N → i < K → dl s i = none → ∀ b, lo i ≤ b → b ≤ hi i → ∀ w, accFrom T (tstep T s b) w = false
  cls : ∀ s t, s < N → t < N → (cf s = cf t ↔ ∀ w, accFrom T s w = accFrom T t w)
  acc : ∀ s, s < N → ac s = accAt T s
  live : ∃ w, accFrom T 0 w = true

theorem bfs_canon {T : Table} {N : Nat} {cf : Nat → Int} {dl : Nat → Nat → Option Nat} {lo hi : Nat → Nat} {ac : Nat → Bool} {K k : Nat} (H : BfsHyp T N cf dl lo hi ac K)
    (hk : ∀ j, j < k → j < (bfsTo cf dl lo hi ac K j).1.length) (hend : (bfsTo cf dl lo hi ac K k).1.length = k) :
    Canon (bfsTo cf dl lo hi ac K k).2 ∧ ∀ w, accFrom (bfsTo cf dl lo hi ac K k).2 0 w = accFrom T 0 w := by
  have B := bfs_inv (cf := cf) (ac := ac) H.iv H.pos (fun s i t h1 h2 h3 => (H.some s i t h1 h2 h3).1) k hk
  generalize bfsTo cf dl lo hi ac K k = r at *
  obtain ⟨o, out⟩ := r
  simp only at *
  have hlen := B.len
  simp only at hlen
  have hoN : ∀ j, (h : j < o.length) → o[j] < N := fun j h => B.lt _ (List.getElem_mem h)
  -- the step of the result
  have hstep : ∀ j, (h : j < o.length) → ∀ b, b < 256 → ∃ i, i < K ∧ lo i ≤ b ∧ b ≤ hi i ∧ tstep out j b = tgt cf o (dl o[j] i) := by
    intro j h b hb
    obtain ⟨i, hi', h1, h2⟩ := H.iv.cover b hb
    obtain ⟨h', -, -, -, -, h7⟩ := B.state j (by show j < out.length; omega)
    refine ⟨i, hi', h1, h2, ?_⟩
    rw [tstep_nat out j b (by omega)]
    exact (h7 i hi').1 b h1 h2
  have hpos : ∀ j, (h : j < o.length) → ∀ i, i < K → ∀ t, dl o[j] i = some t → ∃ hp : posOf cf o t < o.length, cf o[posOf cf o t] = cf t := by
    intro j h i hi' t ht
    obtain ⟨h', -, -, -, -, h7⟩ := B.state j (by show j < out.length; omega)
    have := (h7 i hi').2 t ht
    exact ⟨this, posOf_get this⟩
  -- languages
  have hacc : ∀ w, ∀ j, (h : j < o.length) → accFrom out j w = accFrom T o[j] w := by
    intro w
    induction w with
    | nil =>
      intro j h
      obtain ⟨h', h2, -⟩ := B.state j (by show j < out.length; omega)
      simp only [accFrom]
      rw [accAt_nat out j (by omega)]
      exact h2.trans (H.acc _ (hoN j h))
    | cons b w ih =>
      intro j h
      simp only [accFrom]
      obtain ⟨i, hi', h1, h2, e⟩ := hstep j h b.toNat b.toNat_lt
      rw [e]
      cases hd : dl o[j] i with
      | none =>
        rw [H.none _ i (hoN j h) hi' hd _ h1 h2 w]
        exact accFrom_neg (by simp [tgt]) w
      | some t =>
        obtain ⟨hp, hc⟩ := hpos j h i hi' t hd
        have hs := H.some _ i t (hoN j h) hi' hd
        show accFrom out (posOf cf o t : Nat) w = _
        rw [ih _ hp, hs.2.2 _ h1 h2 w]
        exact (H.cls _ _ (hoN _ hp) hs.1).1 hc w
  have hf := B.first
  simp only at hf
  have h0 : 0 < o.length := by
    cases o with
    | nil => simp at hf
    | cons _ _ => simp
  have ho0 : o[0] = 0 := by
    obtain ⟨h, e⟩ := List.getElem?_eq_some_iff.1 hf
    exact e
  have hlive : ∀ j, (h : j < o.length) → ∃ w, accFrom T o[j] w = true := by
    intro j h
    by_cases c : j = 0
    · subst c
      simp only [ho0]
      exact H.live
    · obtain ⟨j', hj', hjp, i, hi', t, ht, he⟩ := B.reach j (by omega) h
      have hjo : j' < o.length := by omega
      have ht : dl o[j'] i = some t := by simpa [hjo] using ht
      obtain ⟨hp, hc⟩ := hpos j' hjo i hi' t ht
      have hs := H.some _ i t (hoN j' hjo) hi' ht
      obtain ⟨w, hw⟩ := hs.2.1
      have he : posOf cf o t = j := he
      refine ⟨w, ?_⟩
      rw [← hw]
      subst he
      exact (H.cls _ _ (hoN _ hp) hs.1).1 hc w
  refine ⟨⟨?_, ?_, ?_, ?_, ?_, ?_, ?_⟩, ?_⟩
  · intro s hs
    obtain ⟨j, hj, rfl⟩ := List.mem_iff_getElem.1 hs
    obtain ⟨h', -, h3, -⟩ := B.state j hj
    show wfEdges out.length _ _
    have h3 : wfEdges o.length (-1) out[j].edges := h3
    rwa [hlen, ← hend]
  · intro s hs
    obtain ⟨j, hj, rfl⟩ := List.mem_iff_getElem.1 hs
    obtain ⟨h', -, -, h4, -⟩ := B.state j hj
    exact h4
  · intro s hs
    obtain ⟨j, hj, rfl⟩ := List.mem_iff_getElem.1 hs
    obtain ⟨h', -, -, -, h5, -⟩ := B.state j hj
    exact h5
  · intro j hj
    obtain ⟨w, hw⟩ := hlive j (by omega)
    exact ⟨w, (hacc w j (by omega)).trans hw⟩
  · intro i j hi' hj he
    refine dif_inj B.dif (show i < o.length by omega) (show j < o.length by omega) ?_
    refine (H.cls _ _ (hoN _ _) (hoN _ _)).2 fun w => ?_
    rw [← hacc w i (by omega), ← hacc w j (by omega), he w]
  · intro j b t hb ht p h1 h2
    by_cases c : j < o.length
    · obtain ⟨i, hi', b1, b2, e⟩ := hstep j c b hb
      rw [ht] at e
      cases hd : dl o[j] i with
      | none => rw [hd] at e; simp [tgt] at e
      | some u =>
        rw [hd] at e
        have e : t = posOf cf o u := by simp only [tgt] at e; omega
        obtain ⟨j', i', hlt, hi'', t', ht', he⟩ := B.seen j (by omega) i hi' u (by simpa [c] using hd) p h1 (by show p < posOf cf o u; omega)
        have hj' : j' < o.length := by omega
        have ht' : dl o[j'] i' = some t' := by simpa [hj'] using ht'
        have he : posOf cf o t' = p := he
        have hle := H.iv.le i' hi''
        obtain ⟨h', -, -, -, -, h7⟩ := B.state j' (by show j' < out.length; omega)
        refine ⟨j', lo i', by omega, ?_, ?_⟩
        · rcases hlt with h | ⟨h, h'⟩
          · exact .inl h
          · refine .inr ⟨h, ?_⟩
            have := H.iv.sep i' i h' hi'
            omega
        · rw [tstep_nat out j' _ (by omega)]
          have := (h7 i' hi'').1 (lo i') (Nat.le_refl _) hle.1
          refine this.trans ?_
          show tgt cf o (dl o[j'] i') = _
          rw [ht']
          simp [tgt, he]
    · rw [tstep_out out j b (by omega)] at ht; omega
  · intro t h1 h2
    obtain ⟨j', hj', hjp, i, hi', u, hu, he⟩ := B.reach t h1 (by show t < o.length; omega)
    have hjo : j' < o.length := by omega
    have hu : dl o[j'] i = some u := by simpa [hjo] using hu
    have he : posOf cf o u = t := he
    have hle := H.iv.le i hi'
    obtain ⟨h', -, -, -, -, h7⟩ := B.state j' (by show j' < out.length; omega)
    refine ⟨j', lo i, hjp, by omega, ?_⟩
    rw [tstep_nat out j' _ (by omega)]
    have := (h7 i hi').1 (lo i) (Nat.le_refl _) hle.1
    refine this.trans ?_
    show tgt cf o (dl o[j'] i) = _
    rw [hu]
    simp [tgt, he]
  · intro w
    have := hacc w 0 h0
    rw [ho0] at this
    exact this
end Cl
namespace Cl

theorem nodup_sub {α : Type} [DecidableEq α] : ∀ (l l' : List α), l.Nodup → (∀ x ∈ l, x ∈ l') → l.length ≤ l'.length := by
  intro l
  induction l with
  | nil => intro l' _ _; simp
  | cons a l ih =>
    intro l' hn hs
    have hn := List.nodup_cons.1 hn
    have ha : a ∈ l' := hs a (by simp)
    have := ih (l'.erase a) hn.2 fun x hx => (List.mem_erase_of_ne (fun e => hn.1 (by rw [← e]; exact hx))).2 (hs x (by simp [hx]))
    have hl := List.length_erase_of_mem ha
    have hp := List.length_pos_of_mem ha
    simp only [List.length_cons]
    omega
theorem surj_le {a b : Nat} (f : Nat → Nat) (h : ∀ v, v < a → ∃ u, u < b ∧ f u = v) : a ≤ b := by
  have := nodup_sub (List.range a) ((List.range b).map f) List.nodup_range (fun x hx => by
    obtain ⟨u, hu, e⟩ := h x (List.mem_range.1 hx)
    exact List.mem_map.2 ⟨u, List.mem_range.2 hu, e⟩)
  simpa using this
theorem surj_inj {a : Nat} (f : Nat → Nat) (h : ∀ v, v < a → ∃ u, u < a ∧ f u = v) {i j : Nat} (hi : i < a) (hj : j < a) (e : f i = f j) : i = j := by
  apply Classical.byContradiction
  intro hne
  have := nodup_sub (List.range a) (((List.range a).erase j).map f) List.nodup_range (fun x hx => by
    obtain ⟨u, hu, e'⟩ := h x (List.mem_range.1 hx)
    by_cases c : u = j
    · subst c
      exact List.mem_map.2 ⟨i, (List.mem_erase_of_ne hne).2 (List.mem_range.2 hi), by rw [e]; exact e'⟩
    · exact List.mem_map.2 ⟨u, (List.mem_erase_of_ne c).2 (List.mem_range.2 hu), e'⟩)
  rw [List.length_map, List.length_erase_of_mem (List.mem_range.2 hj), List.length_range] at this
  omega

theorem nodup_get {α : Type} : ∀ {l : List α}, l.Nodup → ∀ {i j : Nat} (hi : i < l.length) (hj : j < l.length), l[i] = l[j] → i = j := by
  intro l hn i j hi hj e
  have := List.pairwise_iff_getElem.1 hn
  rcases Nat.lt_trichotomy i j with c | c | c
  · exact absurd e (this i j hi hj c)
  · exact c
  · exact absurd e.symm (this j i hj hi c)

/-- numbers by first occurrence -/
def numTo (f : Nat → List Int) : Nat → List (List Int) × List Int
  | 0 => ([], [])
  | k + 1 => (if (numTo f k).1.findIdx (· == f k) < (numTo f k).1.length then (numTo f k).1 else (numTo f k).1 ++ [f k], (numTo f k).2 ++ [((numTo f k).1.findIdx (· == f k) : Int)])

structure NumInv (f : Nat → List Int) (k : Nat) (r : List (List Int) × List Int) : Prop where
  nodup : r.1.Nodup
  len : r.2.length = k
  le : r.1.length ≤ k
  at_ : ∀ s, s < k → ∃ p : Nat, r.2[s]? = some (p : Int) ∧ r.1[p]? = some (f s)
  from_ : ∀ p, (h : p < r.1.length) → ∃ s, s < k ∧ f s = r.1[p]
theorem num_inv (f : Nat → List Int) : ∀ k, NumInv f k (numTo f k) := by
  intro k
  induction k with
  | zero => exact ⟨by simp [numTo], rfl, by simp [numTo], fun s h => by omega, fun p h => by simp [numTo] at h⟩
  | succ k ih =>
    have e : numTo f (k + 1) = (if (numTo f k).1.findIdx (· == f k) < (numTo f k).1.length then (numTo f k).1 else (numTo f k).1 ++ [f k], (numTo f k).2 ++ [((numTo f k).1.findIdx (· == f k) : Int)]) := rfl
    rw [e]
    generalize numTo f k = r at *
    have hle : r.1.findIdx (· == f k) ≤ r.1.length := List.findIdx_le_length
    have hlen := ih.len
    by_cases c : r.1.findIdx (· == f k) < r.1.length
    · rw [if_pos c]
      have hg : r.1[r.1.findIdx (· == f k)] = f k := by
        have := List.findIdx_getElem (p := (· == f k)) (w := c)
        simpa using this
      refine ⟨ih.nodup, by simp [hlen], by have := ih.le; simp; omega, fun s hs => ?_, fun p h => ?_⟩
      · by_cases d : s < k
        · obtain ⟨p, h1, h2⟩ := ih.at_ s d
          exact ⟨p, by rw [List.getElem?_append_left (by omega)]; exact h1, h2⟩
        · have : s = k := by omega
          subst this
          exact ⟨r.1.findIdx (· == f s), by rw [List.getElem?_append_right (by omega)]; simp [hlen], by simp [c, hg]⟩
      · obtain ⟨s, h1, h2⟩ := ih.from_ p h
        exact ⟨s, by omega, h2⟩
    · rw [if_neg c]
      have hnot : f k ∉ r.1 := fun hm => c (List.findIdx_lt_length.2 ⟨f k, hm, by simp⟩)
      refine ⟨?_, by simp [hlen], by have := ih.le; simp; omega, fun s hs => ?_, fun p h => ?_⟩
      · exact List.nodup_append.2 ⟨ih.nodup, by simp, fun a ha b hb => by
          simp only [List.mem_singleton] at hb; subst hb; exact fun e => hnot (e ▸ ha)⟩
      · by_cases d : s < k
        · obtain ⟨p, h1, h2⟩ := ih.at_ s d
          refine ⟨p, by show (r.2 ++ _)[s]? = _; rw [List.getElem?_append_left (by omega)]; exact h1, ?_⟩
          have : p < r.1.length := (List.getElem?_eq_some_iff.1 h2).1
          show (r.1 ++ [f k])[p]? = _
          rw [List.getElem?_append_left this]; exact h2
        · have : s = k := by omega
          subst this
          refine ⟨r.1.length, ?_, by simp⟩
          show (r.2 ++ _)[s]? = _
          rw [List.getElem?_append_right (by omega)]
          simp [hlen]
          omega
      · by_cases d : p < r.1.length
        · obtain ⟨s, h1, h2⟩ := ih.from_ p d
          exact ⟨s, by omega, by show _ = (r.1 ++ [f k])[p]; rw [List.getElem_append_left d]; exact h2⟩
        · have h' : p < (r.1 ++ [f k]).length := h
          have : p = r.1.length := by simp at h'; omega
          subst this
          exact ⟨k, by omega, by show _ = (r.1 ++ [f k])[r.1.length]; simp⟩
theorem NumInv.eq_iff {f : Nat → List Int} {k : Nat} {r : List (List Int) × List Int} (h : NumInv f k r) {s t : Nat} (hs : s < k) (ht : t < k) : r.2.getD s 0 = r.2.getD t 0 ↔ f s = f t := by
  obtain ⟨p, h1, h2⟩ := h.at_ s hs
  obtain ⟨q, h3, h4⟩ := h.at_ t ht
  simp only [List.getD_eq_getElem?_getD, h1, h3, Option.getD_some]
  refine ⟨fun e => ?_, fun e => ?_⟩
  · have : p = q := by omega
    subst this
    rw [h2] at h4
    simpa using h4
  · obtain ⟨p1, p2⟩ := List.getElem?_eq_some_iff.1 h2
    obtain ⟨q1, q2⟩ := List.getElem?_eq_some_iff.1 h4
    have := nodup_get h.nodup p1 q1 (by rw [p2, q2, e])
    omega
theorem NumInv.rng {f : Nat → List Int} {k : Nat} {r : List (List Int) × List Int} (h : NumInv f k r) {s : Nat} (hs : s < k) : 0 ≤ r.2.getD s 0 ∧ r.2.getD s 0 < r.1.length := by
  obtain ⟨p, h1, h2⟩ := h.at_ s hs
  simp only [List.getD_eq_getElem?_getD, h1, Option.getD_some]
  have := (List.getElem?_eq_some_iff.1 h2).1
  omega
theorem NumInv.surj {f : Nat → List Int} {k : Nat} {r : List (List Int) × List Int} (h : NumInv f k r) {v : Nat} (hv : v < r.1.length) : ∃ s, s < k ∧ r.2.getD s 0 = v := by
  obtain ⟨s, hs, e⟩ := h.from_ v hv
  refine ⟨s, hs, ?_⟩
  obtain ⟨p, h1, h2⟩ := h.at_ s hs
  obtain ⟨p1, p2⟩ := List.getElem?_eq_some_iff.1 h2
  have := nodup_get h.nodup p1 hv (by rw [p2, e])
  simp [h1, this]

/-- the class of a target -/
def clsOf (cls : List Int) (x : Int) : Int := if x < 0 then x else cls.getD x.toNat 0
/-- what tells states apart in one round -/
def sig (cls : List Int) (ta : Nat → Nat → Int) (K : Nat) (s : Nat) : List Int := cls.getD s 0 :: (List.range K).map fun i => clsOf cls (ta s i)

/-- the targets of a table T's states 0 .. N - 1 -/
structure TaHyp (T : Table) (N : Nat) (lo hi : Nat → Nat) (K : Nat) (ta : Nat → Nat → Int) : Prop where
  iv : Ivs lo hi K
  rng : ∀ s i, s < N → i < K → -1 ≤ ta s i ∧ ta s i < N
  step : ∀ s i, s < N → i < K → ∀ b, lo i ≤ b → b ≤ hi i → ∀ w, accFrom T (tstep T s b) w = accFrom T (ta s i) w
  neg : ∀ s t i, s < N → t < N → i < K → ta s i = -1 → (∀ w, accFrom T (ta t i) w = false) → ta t i = -1

def NEq (T : Table) (s t : Nat) : Prop := ∀ w, accFrom T s w = accFrom T t w
structure ClsOk (T : Table) (N : Nat) (cls : List Int) : Prop where
  len : cls.length = N
  rng : ∀ x ∈ cls, 0 ≤ x ∧ x < N
  eq : ∀ s t, s < N → t < N → (cls.getD s 0 = cls.getD t 0 ↔ NEq T s t)
structure RefInv (T : Table) (N : Nat) (cls : List Int) (many : Nat) : Prop where
  len : cls.length = N
  rng : ∀ s, s < N → 0 ≤ cls.getD s 0 ∧ cls.getD s 0 ≤ N
  coarse : ∀ s t, s < N → t < N → NEq T s t → cls.getD s 0 = cls.getD t 0
  acc : ∀ s t, s < N → t < N → cls.getD s 0 = cls.getD t 0 → accAt T s = accAt T t
  cnt : many = 0 ∨ (∀ s, s < N → cls.getD s 0 < many) ∧ ∀ v, v < many → ∃ s, s < N ∧ cls.getD s 0 = v

theorem ref_start {T : Table} {N : Nat} {cls : List Int} (hN : 1 ≤ N) (hl : cls.length = N) (h : ∀ s, s < N → cls.getD s 0 = if accAt T s = true then 1 else 0) : RefInv T N cls 0 := by
  refine ⟨hl, fun s hs => ?_, fun s t hs ht he => ?_, fun s t hs ht he => ?_, .inl rfl⟩
  · rw [h s hs]; split <;> omega
  · rw [h s hs, h t ht]
    have := he []
    simp only [accFrom] at this
    rw [this]
  · rw [h s hs, h t ht] at he
    cases h1 : accAt T s <;> cases h2 : accAt T t <;> simp [h1, h2] at he ⊢

theorem neq_ta {T : Table} {N : Nat} {lo hi : Nat → Nat} {K : Nat} {ta : Nat → Nat → Int} (H : TaHyp T N lo hi K ta) {s t i : Nat} (hs : s < N) (ht : t < N) (hi' : i < K) (he : NEq T s t) :
    ∀ w, accFrom T (ta s i) w = accFrom T (ta t i) w := by
  have hle := H.iv.le i hi'
  intro w
  rw [← H.step s i hs hi' (lo i) (Nat.le_refl _) hle.1 w, ← H.step t i ht hi' (lo i) (Nat.le_refl _) hle.1 w]
  exact resid he (lo i) (by omega) w

theorem ref_round {T : Table} {N : Nat} {lo hi : Nat → Nat} {K : Nat} {ta : Nat → Nat → Int} (H : TaHyp T N lo hi K ta) (hN : 1 ≤ N) {cls : List Int} {many : Nat} (hr : RefInv T N cls many) :
    RefInv T N (numTo (sig cls ta K) N).2 (numTo (sig cls ta K) N).1.length ∧ many ≤ (numTo (sig cls ta K) N).1.length ∧ (numTo (sig cls ta K) N).1.length ≤ N ∧ 1 ≤ (numTo (sig cls ta K) N).1.length ∧
      ((numTo (sig cls ta K) N).1.length = many → ClsOk T N (numTo (sig cls ta K) N).2) := by
  have hn := num_inv (sig cls ta K) N
  generalize numTo (sig cls ta K) N = r at *
  -- equal classes of targets
  have hsame : ∀ s t, s < N → t < N → NEq T s t → sig cls ta K s = sig cls ta K t := by
    intro s t hs ht he
    unfold sig
    rw [hr.coarse s t hs ht he]
    congr 1
    apply List.map_congr_left
    intro i hi'
    have hi' := List.mem_range.1 hi'
    have ht' := neq_ta H hs ht hi' he
    have r1 := H.rng s i hs hi'
    have r2 := H.rng t i ht hi'
    unfold clsOf
    by_cases c : ta s i < 0
    · have e1 : ta s i = -1 := by omega
      have := H.neg s t i hs ht hi' e1 (fun w => by rw [← ht' w, e1]; exact accFrom_neg (by omega) w)
      rw [e1, this]
    · by_cases d : ta t i < 0
      · have e1 : ta t i = -1 := by omega
        have := H.neg t s i ht hs hi' e1 (fun w => by rw [ht' w, e1]; exact accFrom_neg (by omega) w)
        omega
      · rw [if_neg c, if_neg d]
        obtain ⟨x, hx⟩ := Int.eq_ofNat_of_zero_le (by omega : 0 ≤ ta s i)
        obtain ⟨y, hy⟩ := Int.eq_ofNat_of_zero_le (by omega : 0 ≤ ta t i)
        rw [hx, hy] at ht' ⊢
        exact hr.coarse x y (by omega) (by omega) ht'
  have hfine : ∀ s t, s < N → t < N → r.2.getD s 0 = r.2.getD t 0 → cls.getD s 0 = cls.getD t 0 ∧ ∀ i, i < K → clsOf cls (ta s i) = clsOf cls (ta t i) := by
    intro s t hs ht e
    have e := (hn.eq_iff hs ht).1 e
    unfold sig at e
    injection e with e1 e2
    refine ⟨e1, fun i hi' => ?_⟩
    have := congrArg (fun l => l[i]?) e2
    simpa [hi'] using this
  have hmany : many ≤ r.1.length ∧ (r.1.length = many → ∀ s t, s < N → t < N → cls.getD s 0 = cls.getD t 0 → r.2.getD s 0 = r.2.getD t 0) := by
    rcases hr.cnt with h0 | ⟨h1, h2⟩
    · refine ⟨by omega, fun e => ?_⟩
      have := (hn.rng (s := 0) (by omega)).2
      have := (hn.rng (s := 0) (by omega)).1
      omega
    · -- the class of a number
      let g : Nat → Nat := fun u => if h : ∃ s, s < N ∧ r.2.getD s 0 = u then (cls.getD h.choose 0).toNat else 0
      have hg : ∀ s, s < N → g (r.2.getD s 0).toNat = (cls.getD s 0).toNat := by
        intro s hs
        have hex : ∃ s', s' < N ∧ r.2.getD s' 0 = ((r.2.getD s 0).toNat : Int) := ⟨s, hs, by have := (hn.rng hs).1; omega⟩
        show (if h : ∃ s', s' < N ∧ r.2.getD s' 0 = ((r.2.getD s 0).toNat : Int) then (cls.getD h.choose 0).toNat else 0) = _
        rw [dif_pos hex]
        have hc := hex.choose_spec
        have := (hfine _ s hc.1 hs (by rw [hc.2]; have := (hn.rng hs).1; omega)).1
        rw [this]
      have hs : ∀ v, v < many → ∃ u, u < r.1.length ∧ g u = v := by
        intro v hv
        obtain ⟨s, hs, e⟩ := h2 v hv
        have := hn.rng hs
        exact ⟨(r.2.getD s 0).toNat, by omega, by rw [hg s hs, e]; simp⟩
      refine ⟨surj_le g hs, fun e s t hs' ht' he => ?_⟩
      rw [← e] at hs
      have r1 := hn.rng hs'
      have r2 := hn.rng ht'
      have := surj_inj g hs (i := (r.2.getD s 0).toNat) (j := (r.2.getD t 0).toNat) (by omega) (by omega) (by rw [hg s hs', hg t ht', he])
      omega
  have hacc : ∀ s t, s < N → t < N → r.2.getD s 0 = r.2.getD t 0 → accAt T s = accAt T t := fun s t hs ht e => hr.acc s t hs ht (hfine s t hs ht e).1
  refine ⟨⟨hn.len, fun s hs => by have := hn.rng hs; have := hn.le; omega, fun s t hs ht he => (hn.eq_iff hs ht).2 (hsame s t hs ht he), hacc, .inr ⟨fun s hs => (hn.rng hs).2, fun v hv => hn.surj hv⟩⟩, hmany.1, hn.le, ?_, fun e => ?_⟩
  · have := hn.rng (s := 0) (by omega); omega
  · have hst := hmany.2 e
    refine ⟨hn.len, fun x hx => ?_, fun s t hs ht => ⟨fun he => ?_, fun he => (hn.eq_iff hs ht).2 (hsame s t hs ht he)⟩⟩
    · obtain ⟨s, h1, rfl⟩ := List.mem_iff_getElem.1 hx
      have := hn.rng (s := s) (by rw [← hn.len]; exact h1)
      have := hn.le
      simp only [List.getD_eq_getElem?_getD, h1, List.getElem?_eq_getElem, Option.getD_some] at *
      omega
    · intro w
      induction w generalizing s t with
      | nil => simp only [accFrom]; exact hacc s t hs ht he
      | cons b w ih =>
        simp only [accFrom]
        obtain ⟨i, hi', b1, b2⟩ := H.iv.cover b.toNat b.toNat_lt
        rw [H.step s i hs hi' _ b1 b2 w, H.step t i ht hi' _ b1 b2 w]
        have r1 := H.rng s i hs hi'
        have r2 := H.rng t i ht hi'
        have hc := (hfine s t hs ht he).2 i hi'
        unfold clsOf at hc
        by_cases c : ta s i < 0
        · by_cases d : ta t i < 0
          · have e1 : ta s i = -1 := by omega
            have e2 : ta t i = -1 := by omega
            rw [e1, e2]
          · rw [if_pos c, if_neg d] at hc
            have := (hr.rng (ta t i).toNat (by omega)).1
            omega
        · by_cases d : ta t i < 0
          · rw [if_neg c, if_pos d] at hc
            have := (hr.rng (ta s i).toNat (by omega)).1
            omega
          · rw [if_neg c, if_neg d] at hc
            obtain ⟨x, hx⟩ := Int.eq_ofNat_of_zero_le (by omega : 0 ≤ ta s i)
            obtain ⟨y, hy⟩ := Int.eq_ofNat_of_zero_le (by omega : 0 ≤ ta t i)
            rw [hx, hy] at hc ⊢
            exact ih x y (by omega) (by omega) (hst x y (by omega) (by omega) hc)

/-- as many classes as states -/
theorem ref_full {T : Table} {N : Nat} {cls : List Int} {many : Nat} (hr : RefInv T N cls many) (hm : N ≤ many) (hN : 1 ≤ N) : ClsOk T N cls := by
  rcases hr.cnt with h0 | ⟨h1, h2⟩
  · omega
  · have hle : many ≤ N := surj_le (fun s => (cls.getD s 0).toNat) fun v hv => by
      obtain ⟨s, hs, e⟩ := h2 v hv
      exact ⟨s, hs, by rw [e]; simp⟩
    have hmN : many = N := by omega
    rw [hmN] at h1 h2
    refine ⟨hr.len, fun x hx => ?_, fun s t hs ht => ⟨fun he => ?_, hr.coarse s t hs ht⟩⟩
    · obtain ⟨s, hs, rfl⟩ := List.mem_iff_getElem.1 hx
      have hs' : s < N := by rw [← hr.len]; exact hs
      have a := hr.rng s hs'
      have b := h1 s hs'
      simp only [List.getD_eq_getElem?_getD, hs, List.getElem?_eq_getElem, Option.getD_some] at *
      exact ⟨a.1, b⟩
    · have := surj_inj (fun s => (cls.getD s 0).toNat) (fun v hv => by
        obtain ⟨s, hs, e⟩ := h2 v hv
        exact ⟨s, hs, by show (cls.getD s 0).toNat = v; rw [e]; simp⟩) hs ht (by rw [he])
      subst this
      intro w; rfl
end Cl
namespace Cl

theorem canon_nil : Canon [] :=
  ⟨fun s hs => by simp at hs, fun s hs => by simp at hs, fun s hs => by simp at hs, fun k hk => by simp at hk, fun i j hi => by simp at hi, fun k b t hb ht => by
    rw [tstep_out [] k b (by simp)] at ht; omega, fun t h1 h2 => by simp at h2⟩
theorem accFrom_nil (x : List UInt8) : accFrom [] 0 x = false := accFrom_out [] 0 x (by simp)

/-- a word before another one of the same length -/
def lex : List UInt8 → List UInt8 → Prop
  | [], [] => False
  | [], _ :: _ => True
  | _ :: _, [] => False
  | a :: u, b :: v => a < b ∨ a = b ∧ lex u v
/-- shortlex -/
def slt (u v : List UInt8) : Prop := u.length < v.length ∨ u.length = v.length ∧ lex u v

theorem lex_irrefl : ∀ u : List UInt8, ¬ lex u u
  | [], h => h
  | _ :: u, h => h.elim (fun h => by simp at h) (fun h => lex_irrefl u h.2)
theorem u8_trans {a b c : UInt8} (h : a < b) (k : b < c) : a < c := UInt8.lt_trans h k
theorem lex_trans : ∀ {u v x : List UInt8}, lex u v → lex v x → lex u x
  | [], [], _, h, _ => h.elim
  | [], _ :: _, [], _, k => k.elim
  | [], _ :: _, _ :: _, _, _ => trivial
  | _ :: _, [], _, h, _ => h.elim
  | _ :: _, _ :: _, [], _, k => k.elim
  | a :: u, b :: v, c :: x, h, k => by
    rcases h with h | ⟨rfl, h⟩
    · rcases k with k | ⟨rfl, k⟩
      · exact .inl (u8_trans h k)
      · exact .inl h
    · rcases k with k | ⟨rfl, k⟩
      · exact .inl k
      · exact .inr ⟨rfl, lex_trans h k⟩
theorem lex_total : ∀ u v : List UInt8, lex u v ∨ u = v ∨ lex v u
  | [], [] => .inr (.inl rfl)
  | [], _ :: _ => .inl trivial
  | _ :: _, [] => .inr (.inr trivial)
  | a :: u, b :: v => by
    rcases Nat.lt_trichotomy a.toNat b.toNat with h | h | h
    · exact .inl (.inl (UInt8.lt_iff_toNat_lt.2 h))
    · obtain rfl : a = b := UInt8.toNat_inj.1 h
      rcases lex_total u v with h | h | h
      · exact .inl (.inr ⟨rfl, h⟩)
      · exact .inr (.inl (by rw [h]))
      · exact .inr (.inr (.inr ⟨rfl, h⟩))
    · exact .inr (.inr (.inl (UInt8.lt_iff_toNat_lt.2 h)))
theorem slt_irrefl (u : List UInt8) : ¬ slt u u := fun h => h.elim (fun h => by omega) (fun h => lex_irrefl u h.2)
theorem slt_trans {u v x : List UInt8} (h : slt u v) (k : slt v x) : slt u x := by
  rcases h with h | ⟨h, h'⟩ <;> rcases k with k | ⟨k, k'⟩
  · exact .inl (by omega)
  · exact .inl (by omega)
  · exact .inl (by omega)
  · exact .inr ⟨by omega, lex_trans h' k'⟩
theorem slt_total (u v : List UInt8) : slt u v ∨ u = v ∨ slt v u := by
  rcases Nat.lt_trichotomy u.length v.length with h | h | h
  · exact .inl (.inl h)
  · rcases lex_total u v with k | k | k
    · exact .inl (.inr ⟨h, k⟩)
    · exact .inr (.inl k)
    · exact .inr (.inr (.inr ⟨h.symm, k⟩))
  · exact .inr (.inr (.inl h))
theorem slt_asymm {u v : List UInt8} (h : slt u v) (k : slt v u) : False := slt_irrefl u (slt_trans h k)

/-- r: the first k words of the set f (all of them, if there are fewer) -/
structure IsFirst (f : List UInt8 → Bool) (k : Nat) (r : List (List UInt8)) : Prop where
  sorted : r.Pairwise slt
  mem : ∀ x ∈ r, f x = true
  le : r.length ≤ k
  rest : ∀ y, f y = true → y ∉ r → r.length = k ∧ ∀ x ∈ r, slt x y

theorem slt_ne {a b : List UInt8} (h : slt a b) : a ≠ b := fun e => slt_irrefl a (by rw [← e] at h; exact h)
theorem sorted_nodup {r : List (List UInt8)} (h : r.Pairwise slt) : r.Nodup := h.imp slt_ne
theorem sorted_ext : ∀ {r t : List (List UInt8)}, r.Pairwise slt → t.Pairwise slt → (∀ x, x ∈ r ↔ x ∈ t) → r = t
  | [], [], _, _, _ => rfl
  | [], b :: t, _, _, h => absurd ((h b).2 (by simp)) (by simp)
  | a :: r, [], _, _, h => absurd ((h a).1 (by simp)) (by simp)
  | a :: r, b :: t, h1, h2, h => by
    have k1 := List.pairwise_cons.1 h1
    have k2 := List.pairwise_cons.1 h2
    have e : a = b := by
      rcases List.mem_cons.1 ((h a).1 (by simp)) with h3 | h3
      · exact h3
      · rcases List.mem_cons.1 ((h b).2 (by simp)) with h4 | h4
        · exact h4.symm
        · exact (slt_asymm (k2.1 a h3) (k1.1 b h4)).elim
    subst e
    rw [sorted_ext k1.2 k2.2 fun x => ?_]
    constructor
    · intro hx
      rcases List.mem_cons.1 ((h x).1 (List.mem_cons_of_mem _ hx)) with h3 | h3
      · subst h3; exact (slt_irrefl _ (k1.1 _ hx)).elim
      · exact h3
    · intro hx
      rcases List.mem_cons.1 ((h x).2 (List.mem_cons_of_mem _ hx)) with h3 | h3
      · subst h3; exact (slt_irrefl _ (k2.1 _ hx)).elim
      · exact h3
theorem first_sub {f : List UInt8 → Bool} {k : Nat} {r t : List (List UInt8)} (h : IsFirst f k r) (h' : IsFirst f k t) : ∀ x ∈ r, x ∈ t := by
  intro x hx
  apply Classical.byContradiction
  intro hn
  obtain ⟨h1, h2⟩ := h'.rest x (h.mem x hx) hn
  have hsub : ∀ y ∈ t, y ∈ r := by
    intro y hy
    apply Classical.byContradiction
    intro hm
    obtain ⟨-, h4⟩ := h.rest y (h'.mem y hy) hm
    exact slt_asymm (h4 x hx) (h2 y hy)
  have hc := nodup_sub (x :: t) r (List.nodup_cons.2 ⟨hn, sorted_nodup h'.sorted⟩) (by
    intro y hy
    rcases List.mem_cons.1 hy with rfl | hy
    · exact hx
    · exact hsub y hy)
  have := h.le
  simp only [List.length_cons] at hc
  omega
theorem first_unique {f : List UInt8 → Bool} {k : Nat} {r t : List (List UInt8)} (h : IsFirst f k r) (h' : IsFirst f k t) : r = t :=
  sorted_ext h.sorted h'.sorted fun x => ⟨first_sub h h' x, first_sub h' h x⟩
theorem IsFirst.congr {f g : List UInt8 → Bool} {k : Nat} {r : List (List UInt8)} (h : IsFirst f k r) (e : ∀ w, f w = g w) : IsFirst g k r := by
  have : f = g := funext e
  rw [← this]; exact h

/-- the words of n bytes that a state accepts, in their order -/
def wex (l : Table) : Nat → Int → List (List UInt8)
  | 0, s => if accAt l s then [[]] else []
  | n + 1, s => (List.range 256).flatMap fun b => (wex l n (tstep l s b)).map (UInt8.ofNat b :: ·)
theorem u8_of (b : UInt8) : UInt8.ofNat b.toNat = b := by simp
theorem mem_wex (l : Table) : ∀ (n : Nat) (s : Int) (w : List UInt8), w ∈ wex l n s ↔ w.length = n ∧ accFrom l s w = true
  | 0, s, w => by
    unfold wex
    cases w with
    | nil => by_cases h : accAt l s = true <;> simp [h, accFrom]
    | cons a w => by_cases h : accAt l s = true <;> simp [h]
  | n + 1, s, w => by
    unfold wex
    simp only [List.mem_flatMap, List.mem_range, List.mem_map]
    constructor
    · rintro ⟨b, hb, v, hv, rfl⟩
      obtain ⟨h1, h2⟩ := (mem_wex l n _ v).1 hv
      refine ⟨by simp [h1], ?_⟩
      simp only [accFrom]
      rw [show (UInt8.ofNat b).toNat = b by simp; omega]
      exact h2
    · rintro ⟨h1, h2⟩
      cases w with
      | nil => simp at h1
      | cons b v =>
        refine ⟨b.toNat, b.toNat_lt, v, (mem_wex l n _ v).2 ⟨by simpa using h1, h2⟩, by rw [u8_of]⟩
theorem flat_sorted {α : Type} {R : α → α → Prop} (f : Nat → List α) : ∀ (l : List Nat), l.Pairwise (· < ·) → (∀ b ∈ l, (f b).Pairwise R) → (∀ b ∈ l, ∀ c ∈ l, b < c → ∀ x ∈ f b, ∀ y ∈ f c, R x y) → (l.flatMap f).Pairwise R
  | [], _, _, _ => .nil
  | b :: l, h, h1, h2 => by
    have k := List.pairwise_cons.1 h
    rw [List.flatMap_cons, List.pairwise_append]
    refine ⟨h1 b (by simp), flat_sorted f l k.2 (fun c hc => h1 c (by simp [hc])) (fun c hc d hd => h2 c (by simp [hc]) d (by simp [hd])), ?_⟩
    intro x hx y hy
    obtain ⟨c, hc, hy⟩ := List.mem_flatMap.1 hy
    exact h2 b (by simp) c (by simp [hc]) (k.1 c hc) x hx y hy
theorem wex_sorted (l : Table) : ∀ (n : Nat) (s : Int), (wex l n s).Pairwise slt
  | 0, s => by
    unfold wex
    split <;> simp
  | n + 1, s => by
    unfold wex
    refine flat_sorted _ _ List.pairwise_lt_range ?_ ?_
    · intro b _
      rw [List.pairwise_map]
      refine (wex_sorted l n _).imp fun {u v} h => ?_
      rcases h with h | ⟨h1, h2⟩
      · exact .inl (by simp [h])
      · exact .inr ⟨by simp [h1], .inr ⟨rfl, h2⟩⟩
    · intro b hb c hc hbc x hx y hy
      obtain ⟨u, hu, rfl⟩ := List.mem_map.1 hx
      obtain ⟨v, hv, rfl⟩ := List.mem_map.1 hy
      have h1 := ((mem_wex l n _ u).1 hu).1
      have h2 := ((mem_wex l n _ v).1 hv).1
      have hb := List.mem_range.1 hb
      have hc := List.mem_range.1 hc
      refine .inr ⟨by simp [h1, h2], .inl (UInt8.lt_iff_toNat_lt.2 ?_)⟩
      simp only [UInt8.toNat_ofNat']
      omega
/-- the words of fewer than L bytes -/
def enum (l : Table) (s : Int) (L : Nat) : List (List UInt8) := (List.range L).flatMap fun n => wex l n s
theorem mem_enum (l : Table) (s : Int) (L : Nat) (w : List UInt8) : w ∈ enum l s L ↔ w.length < L ∧ accFrom l s w = true := by
  unfold enum
  simp only [List.mem_flatMap, List.mem_range, mem_wex]
  exact ⟨fun ⟨n, h1, h2, h3⟩ => ⟨by omega, h3⟩, fun ⟨h1, h2⟩ => ⟨_, h1, rfl, h2⟩⟩
theorem enum_sorted (l : Table) (s : Int) (L : Nat) : (enum l s L).Pairwise slt := by
  refine flat_sorted _ _ List.pairwise_lt_range (fun b _ => wex_sorted l b s) ?_
  intro b _ c _ hbc x hx y hy
  have h1 := ((mem_wex l _ _ _).1 hx).1
  have h2 := ((mem_wex l _ _ _).1 hy).1
  exact .inl (by omega)
theorem enum_succ (l : Table) (s : Int) (L : Nat) : enum l s (L + 1) = enum l s L ++ wex l L s := by
  unfold enum
  rw [List.range_succ, List.flatMap_append]
  simp
theorem first_enum {l : Table} {s : Int} {L k : Nat} (h : k ≤ (enum l s L).length ∨ ∀ y, accFrom l s y = true → y.length < L) : IsFirst (accFrom l s) k ((enum l s L).take k) := by
  have hs := enum_sorted l s L
  refine ⟨hs.sublist (List.take_sublist _ _), fun x hx => ((mem_enum l s L x).1 (List.mem_of_mem_take hx)).2, List.length_take_le _ _, ?_⟩
  intro y hy hn
  by_cases hm : y ∈ enum l s L
  · have hd : y ∈ (enum l s L).drop k := by
      rw [← List.take_append_drop k (enum l s L)] at hm
      rcases List.mem_append.1 hm with h1 | h1
      · exact absurd h1 hn
      · exact h1
    refine ⟨?_, fun x hx => ?_⟩
    · rw [List.length_take]
      have : k < (enum l s L).length := by
        apply Classical.byContradiction
        intro hk
        rw [List.drop_eq_nil_of_le (by omega)] at hd
        simp at hd
      omega
    · rw [← List.take_append_drop k (enum l s L), List.pairwise_append] at hs
      exact hs.2.2 x hx y hd
  · have hL : ¬ y.length < L := fun h1 => hm ((mem_enum l s L y).2 ⟨h1, hy⟩)
    rcases h with h | h
    · refine ⟨by rw [List.length_take]; omega, fun x hx => .inl ?_⟩
      have := ((mem_enum l s L x).1 (List.mem_of_mem_take hx)).1
      omega
    · exact absurd (h y hy) hL

/-- where a word leads to -/
def runTo (l : Table) : Int → List UInt8 → Int
  | s, [] => s
  | s, b :: w => runTo l (tstep l s b.toNat) w
theorem accFrom_app (l : Table) : ∀ (u v : List UInt8) (s : Int), accFrom l s (u ++ v) = accFrom l (runTo l s u) v
  | [], _, _ => rfl
  | _ :: u, v, _ => accFrom_app l u v _
theorem accFrom_range {l : Table} {s : Int} {w : List UInt8} (h : accFrom l s w = true) : 0 ≤ s ∧ s < l.length := by
  constructor
  · apply Classical.byContradiction
    intro hn
    rw [accFrom_neg (by omega)] at h; cases h
  · apply Classical.byContradiction
    intro hn
    rw [accFrom_out l s w (by omega)] at h; cases h
theorem take_run {l : Table} {s : Int} {y : List UInt8} (h : accFrom l s y = true) (i : Nat) : 0 ≤ runTo l s (y.take i) ∧ runTo l s (y.take i) < l.length := by
  refine accFrom_range (w := y.drop i) ?_
  rw [← accFrom_app, List.take_append_drop]; exact h
/-- a long word can be cut short -/
theorem pump {l : Table} {s : Int} {y : List UInt8} (h : accFrom l s y = true) (hn : l.length ≤ y.length) : ∃ y', accFrom l s y' = true ∧ y'.length < y.length ∧ y.length ≤ y'.length + l.length := by
  have hnd : ¬ ((List.range (l.length + 1)).map fun i => (runTo l s (y.take i)).toNat).Nodup := by
    intro hnd
    have := nodup_sub _ (List.range l.length) hnd (by
      intro x hx
      obtain ⟨i, -, rfl⟩ := List.mem_map.1 hx
      have := take_run h i
      rw [List.mem_range]; omega)
    simp at this
    omega
  have hex : ∃ i j, i < j ∧ j ≤ l.length ∧ runTo l s (y.take i) = runTo l s (y.take j) := by
    apply Classical.byContradiction
    intro hno
    apply hnd
    rw [List.Nodup, List.pairwise_map]
    refine (List.pairwise_lt_range (n := l.length + 1)).imp_of_mem fun {i j} hi hj hij e => hno ⟨i, j, hij, ?_, ?_⟩
    · have := List.mem_range.1 hj; omega
    · have h1 := take_run h i
      have h2 := take_run h j
      omega
  obtain ⟨i, j, hij, hj, e⟩ := hex
  refine ⟨y.take i ++ y.drop j, ?_, ?_, ?_⟩
  · rw [accFrom_app, e, ← accFrom_app, List.take_append_drop]; exact h
  · simp; omega
  · simp; omega
theorem window {l : Table} {s : Int} (t : Nat) : ∀ (N : Nat) (y : List UInt8), y.length ≤ N → accFrom l s y = true → t ≤ y.length → ∃ y', accFrom l s y' = true ∧ t ≤ y'.length ∧ y'.length < t + l.length
  | 0, y, hN, h, ht => ⟨y, h, ht, by have := accFrom_range h; omega⟩
  | N + 1, y, hN, h, ht => by
    by_cases hy : y.length < t + l.length
    · exact ⟨y, h, ht, hy⟩
    · obtain ⟨y', h1, h2, h3⟩ := pump h (by omega)
      exact window t N y' (by omega) h1 (by omega)
theorem enum_mono {l : Table} {s : Int} {L L' : Nat} (h : L ≤ L') : (enum l s L).length ≤ (enum l s L').length := by
  induction h with
  | refl => exact Nat.le_refl _
  | step _ ih => rw [enum_succ, List.length_append]; omega
theorem enum_many {l : Table} {s : Int} {y : List UInt8} (h : accFrom l s y = true) : ∀ c, c * l.length ≤ y.length → c ≤ (enum l s (c * l.length)).length
  | 0, _ => Nat.zero_le _
  | c + 1, hc => by
    have e : (c + 1) * l.length = c * l.length + l.length := Nat.succ_mul _ _
    have ih := enum_many h c (by omega)
    obtain ⟨y', h1, h2, h3⟩ := window (c * l.length) _ y (Nat.le_refl _) h (by omega)
    have h4 : y' ∈ enum l s ((c + 1) * l.length) := (mem_enum _ _ _ _).2 ⟨by omega, h1⟩
    have h5 : y' ∉ enum l s (c * l.length) := fun hm => by have := ((mem_enum _ _ _ _).1 hm).1; omega
    have := nodup_sub (y' :: enum l s (c * l.length)) (enum l s ((c + 1) * l.length)) (List.nodup_cons.2 ⟨h5, sorted_nodup (enum_sorted _ _ _)⟩) (by
      intro x hx
      rcases List.mem_cons.1 hx with rfl | hx
      · exact h4
      · obtain ⟨g1, g2⟩ := (mem_enum _ _ _ _).1 hx
        exact (mem_enum _ _ _ _).2 ⟨by omega, g2⟩)
    simp only [List.length_cons] at this
    omega
theorem first_most {l : Table} {s : Int} {k L : Nat} (hL : k * l.length ≤ L) : IsFirst (accFrom l s) k ((enum l s L).take k) := by
  apply first_enum
  by_cases h : ∃ y, accFrom l s y = true ∧ L ≤ y.length
  · obtain ⟨y, h1, h2⟩ := h
    have h3 := enum_many h1 k (by omega)
    exact .inl (Nat.le_trans h3 (enum_mono hL))
  · exact .inr fun y hy => by
      apply Classical.byContradiction
      intro hn
      exact h ⟨y, hy, by omega⟩

/-- a set with finitely many words -/
def FinSet (f : List UInt8 → Bool) : Prop := ∃ L, ∀ y, f y = true → y.length < L
theorem fin_iff (l : Table) (s : Int) : FinSet (accFrom l s) ↔ ∀ n, l.length ≤ n → n ≤ 2 * l.length → wex l n s = [] := by
  constructor
  · rintro ⟨L, hL⟩ n h1 h2
    apply Classical.byContradiction
    intro hne
    obtain ⟨y, hy⟩ := List.exists_mem_of_ne_nil _ hne
    obtain ⟨g1, g2⟩ := (mem_wex _ _ _ _).1 hy
    -- pump up: from a long word longer ones
    exact absurd rfl (fun _ : (0 : Nat) = 0 => by
      have key : ∀ c : Nat, ∃ y, accFrom l s y = true ∧ l.length ≤ y.length ∧ c ≤ y.length := by
        intro c
        induction c with
        | zero => exact ⟨y, g2, by omega, Nat.zero_le _⟩
        | succ c ih =>
          obtain ⟨z, z1, z2, z3⟩ := ih
          obtain ⟨i, j, hij, hj, e⟩ : ∃ i j, i < j ∧ j ≤ l.length ∧ runTo l s (z.take i) = runTo l s (z.take j) := by
            apply Classical.byContradiction
            intro hno
            have hnd : ((List.range (l.length + 1)).map fun i => (runTo l s (z.take i)).toNat).Nodup := by
              rw [List.Nodup, List.pairwise_map]
              refine (List.pairwise_lt_range (n := l.length + 1)).imp_of_mem fun {i j} hi hj hij e => hno ⟨i, j, hij, ?_, ?_⟩
              · have := List.mem_range.1 hj; omega
              · have h1 := take_run z1 i
                have h2 := take_run z1 j
                omega
            have := nodup_sub _ (List.range l.length) hnd (by
              intro x hx
              obtain ⟨i, -, rfl⟩ := List.mem_map.1 hx
              have := take_run z1 i
              rw [List.mem_range]; omega)
            simp at this
            omega
          refine ⟨z.take j ++ z.drop i, ?_, ?_, ?_⟩
          · rw [accFrom_app, ← e, ← accFrom_app, List.take_append_drop]; exact z1
          · simp; omega
          · simp; omega
      obtain ⟨z, z1, -, z3⟩ := key L
      have := hL z z1
      omega)
  · intro h
    refine ⟨l.length, fun y hy => ?_⟩
    apply Classical.byContradiction
    intro hn
    obtain ⟨y', h1, h2, h3⟩ := window l.length _ y (Nat.le_refl _) hy (by omega)
    have : y' ∈ wex l y'.length s := (mem_wex _ _ _ _).2 ⟨rfl, h1⟩
    rw [h _ h2 (by omega)] at this
    simp at this
end Cl
namespace Cl

def IsLeast (f : List UInt8 → Bool) : Option (List UInt8) → Prop
  | none => ∀ y, f y = false
  | some x => f x = true ∧ ∀ y, f y = true → y = x ∨ slt x y
theorem least_first {f : List UInt8 → Bool} {r : List (List UInt8)} (h : IsFirst f 1 r) : IsLeast f r.head? := by
  cases r with
  | nil =>
    intro y
    cases hy : f y with
    | false => rfl
    | true => have := (h.rest y hy (by simp)).1; simp at this
  | cons x r =>
    refine ⟨h.mem x (by simp), fun y hy => ?_⟩
    by_cases hm : y ∈ x :: r
    · have := h.le
      simp only [List.length_cons] at this
      have hr : r = [] := List.eq_nil_of_length_eq_zero (by omega)
      subst hr
      exact .inl (by simpa using hm)
    · exact .inr ((h.rest y hy hm).2 x (by simp))
theorem least_unique {f : List UInt8 → Bool} {a b : Option (List UInt8)} (h : IsLeast f a) (k : IsLeast f b) : a = b := by
  cases a with
  | none =>
    cases b with
    | none => rfl
    | some y => have h1 := h y; have h2 : f y = true := k.1; rw [h1] at h2; cases h2
  | some x =>
    cases b with
    | none => have h1 := k x; have h2 : f x = true := h.1; rw [h1] at h2; cases h2
    | some y =>
      rcases h.2 y k.1 with h1 | h1
      · rw [h1]
      · rcases k.2 x h.1 with h2 | h2
        · rw [h2]
        · exact (slt_asymm h1 h2).elim
theorem IsLeast.congr {f g : List UInt8 → Bool} {a : Option (List UInt8)} (h : IsLeast f a) (e : ∀ w, f w = g w) : IsLeast g a := by
  have : f = g := funext e
  rw [← this]; exact h

/-- c: how two sets compare: by the least word that is in one of them alone -/
inductive CmpIs (f g : List UInt8 → Bool) : Int → Prop where
  | same (h : ∀ w, f w = g w) : CmpIs f g 0
  | lt (x : List UInt8) (h1 : f x = true) (h2 : g x = false) (h3 : ∀ y, slt y x → f y = g y) : CmpIs f g (-1)
  | gt (x : List UInt8) (h1 : f x = false) (h2 : g x = true) (h3 : ∀ y, slt y x → f y = g y) : CmpIs f g 1
theorem cmp_unique {f g : List UInt8 → Bool} {c d : Int} (h : CmpIs f g c) (k : CmpIs f g d) : c = d := by
  cases h with
  | same h =>
    cases k with
    | same => rfl
    | lt x a b _ => rw [h x, b] at a; cases a
    | gt x a b _ => rw [h x, b] at a; cases a
  | lt x a b e =>
    cases k with
    | same h => rw [h x, b] at a; cases a
    | lt => rfl
    | gt y a' b' e' =>
      rcases slt_total x y with q | q | q
      · have := e' x q; rw [a, b] at this; cases this
      · subst q; rw [a] at a'; cases a'
      · have := e y q; rw [a', b'] at this; cases this
  | gt x a b e =>
    cases k with
    | same h => rw [h x, b] at a; cases a
    | gt => rfl
    | lt y a' b' e' =>
      rcases slt_total x y with q | q | q
      · have := e' x q; rw [a, b] at this; cases this
      · subst q; rw [a] at a'; cases a'
      · have := e y q; rw [a', b'] at this; cases this
theorem CmpIs.swap {f g : List UInt8 → Bool} {c : Int} (h : CmpIs f g c) : CmpIs g f (-c) := by
  cases h with
  | same h => exact .same fun w => (h w).symm
  | lt x a b e => exact .gt x b a fun y hy => (e y hy).symm
  | gt x a b e => exact .lt x b a fun y hy => (e y hy).symm
theorem CmpIs.refl (f : List UInt8 → Bool) : CmpIs f f 0 := .same fun _ => rfl
theorem CmpIs.zero {f g : List UInt8 → Bool} {c : Int} (h : CmpIs f g c) : c = 0 ↔ ∀ w, f w = g w := by
  constructor
  · rintro rfl
    cases h with
    | same h => exact h
  · intro e
    exact cmp_unique h (.same e)
theorem CmpIs.range {f g : List UInt8 → Bool} {c : Int} (h : CmpIs f g c) : -1 ≤ c ∧ c ≤ 1 := by cases h <;> omega
theorem cmp_lt_trans {f g k : List UInt8 → Bool} (h : CmpIs f g (-1)) (h' : CmpIs g k (-1)) : CmpIs f k (-1) := by
  cases h with
  | lt x a b e =>
    cases h' with
    | lt y a' b' e' =>
      rcases slt_total x y with q | q | q
      · exact .lt x a (by rw [← e' x q]; exact b) fun z hz => (e z hz).trans (e' z (slt_trans hz q))
      · subst q; rw [b] at a'; cases a'
      · exact .lt y (by rw [e y q]; exact a') b' fun z hz => (e z (slt_trans hz q)).trans (e' z hz)
theorem CmpIs.congr {f g f' g' : List UInt8 → Bool} {c : Int} (h : CmpIs f g c) (e : ∀ w, f w = f' w) (e' : ∀ w, g w = g' w) : CmpIs f' g' c := by
  have h1 : f = f' := funext e
  have h2 : g = g' := funext e'
  rw [← h1, ← h2]; exact h
/-- the order is transitive -/
theorem cmp_trans {f g k : List UInt8 → Bool} {x y z : Int} (h1 : CmpIs f g x) (h2 : CmpIs g k y) (h3 : CmpIs f k z) (hx : x ≤ 0) (hy : y ≤ 0) : z ≤ 0 ∧ (z = 0 ↔ x = 0 ∧ y = 0) := by
  have r1 := h1.range
  have r2 := h2.range
  by_cases ex : x = 0
  · have e := h1.zero.1 ex
    have h4 := h2.congr (fun w => (e w).symm) (fun _ => rfl)
    have := cmp_unique h3 h4
    omega
  · obtain rfl : x = -1 := by omega
    by_cases ey : y = 0
    · have e := h2.zero.1 ey
      have h4 := h1.congr (fun _ => rfl) e
      have := cmp_unique h3 h4
      omega
    · obtain rfl : y = -1 := by omega
      have := cmp_unique h3 (cmp_lt_trans h1 h2)
      omega
/-- from the least words of the two differences -/
theorem cmp_of_least {f g : List UInt8 → Bool} {a b : Option (List UInt8)} (h : IsLeast (fun w => f w && !g w) a) (k : IsLeast (fun w => g w && !f w) b) :
    match a, b with
    | none, none => CmpIs f g 0
    | some _, none => CmpIs f g (-1)
    | none, some _ => CmpIs f g 1
    | some x, some y => x ≠ y ∧ (slt x y → CmpIs f g (-1)) ∧ (slt y x → CmpIs f g 1) := by
  have hn : (∀ y, (f y && !g y) = false) → ∀ y, f y = true → g y = true := fun h y hy => by have := h y; simpa [hy] using this
  have kn : (∀ y, (g y && !f y) = false) → ∀ y, g y = true → f y = true := fun h y hy => by have := h y; simpa [hy] using this
  have lo : ∀ x, (∀ y, (f y && !g y) = true → y = x ∨ slt x y) → ∀ y, slt y x → f y = true → g y = true := fun x hx y hy hf => by
    cases hg : g y with
    | true => rfl
    | false =>
      rcases hx y (by simp [hf, hg]) with e | e
      · subst e; exact (slt_irrefl _ hy).elim
      · exact (slt_asymm hy e).elim
  have lo' : ∀ x, (∀ y, (g y && !f y) = true → y = x ∨ slt x y) → ∀ y, slt y x → g y = true → f y = true := fun x hx y hy hf => by
    cases hg : f y with
    | true => rfl
    | false =>
      rcases hx y (by simp [hf, hg]) with e | e
      · subst e; exact (slt_irrefl _ hy).elim
      · exact (slt_asymm hy e).elim
  have eqb : ∀ {p q : Bool}, (p = true → q = true) → (q = true → p = true) → p = q := fun {p q} a b => by cases p <;> cases q <;> simp_all
  cases a with
  | none =>
    cases b with
    | none => exact .same fun w => eqb (hn h w) (kn k w)
    | some y =>
      have h1 := k.1
      simp only [Bool.and_eq_true, Bool.not_eq_true'] at h1
      exact .gt y h1.2 h1.1 fun z hz => eqb (hn h z) (lo' y k.2 z hz)
  | some x =>
    have h1 := h.1
    simp only [Bool.and_eq_true, Bool.not_eq_true'] at h1
    cases b with
    | none => exact .lt x h1.1 h1.2 fun z hz => eqb (lo x h.2 z hz) (kn k z)
    | some y =>
      have k1 := k.1
      simp only [Bool.and_eq_true, Bool.not_eq_true'] at k1
      refine ⟨fun e => (by subst e; rw [h1.2] at k1; exact absurd k1.1 (by simp)), fun q => ?_, fun q => ?_⟩
      · exact .lt x h1.1 h1.2 fun z hz => eqb (lo x h.2 z hz) (lo' y k.2 z (slt_trans hz q))
      · exact .gt y k1.2 k1.1 fun z hz => eqb (lo x h.2 z (slt_trans hz q)) (lo' y k.2 z hz)

/-- what an automaton stands for: nothing, if it is not canonical -/
noncomputable def Sem (l : Table) (w : List UInt8) : Bool := tf (Canon l) && accFrom l 0 w
theorem sem_canon {l : Table} (h : Canon l) (w : List UInt8) : Sem l w = accFrom l 0 w := by simp [Sem, tf_true h]
theorem sem_bad {l : Table} (h : ¬ Canon l) (w : List UInt8) : Sem l w = false := by simp [Sem, tf_false h]
/-- C: the canonical automaton of a set -/
structure LangIs (f : List UInt8 → Bool) (C : Table) : Prop where
  canon : Canon C
  lang : ∀ w, accFrom C 0 w = f w
theorem LangIs.sem {f : List UInt8 → Bool} {C : Table} (h : LangIs f C) (w : List UInt8) : Sem C w = f w := by rw [sem_canon h.canon]; exact h.lang w
theorem LangIs.congr {f g : List UInt8 → Bool} {C : Table} (h : LangIs f C) (e : ∀ w, f w = g w) : LangIs g C := ⟨h.canon, fun w => (h.lang w).trans (e w)⟩
theorem lang_unique {f : List UInt8 → Bool} {C D : Table} (h : LangIs f C) (k : LangIs f D) : C = D := canon_unique h.canon k.canon fun w => (h.lang w).trans (k.lang w).symm
theorem lang_eq_iff {f g : List UInt8 → Bool} {C D : Table} (h : LangIs f C) (k : LangIs g D) : C = D ↔ ∀ w, f w = g w :=
  ⟨fun e w => by rw [← h.lang, ← k.lang, e], fun e => lang_unique (h.congr e) k⟩
theorem lang_nil : LangIs (fun _ => false) [] := ⟨canon_nil, fun w => accFrom_nil w⟩
theorem lang_of_sem {l : Table} (h : Canon l) : LangIs (Sem l) l := ⟨h, fun w => (sem_canon h w).symm⟩
theorem nil_iff {f : List UInt8 → Bool} {C : Table} (h : LangIs f C) : C = [] ↔ ∀ w, f w = false := lang_eq_iff h lang_nil

/-- words before a word (or that word itself): the table -/
def belowT (s : List UInt8) (self : Bool) : Table :=
  (s.zipIdx.map fun x => (⟨true, (if 0 < x.1.toNat then [(⟨0, x.1.toNat - 1, (s.length : Int) + 1⟩ : Ed)] else []) ++ [⟨x.1.toNat, x.1.toNat, (x.2 : Int) + 1⟩]⟩ : Sn)) ++ [⟨self, []⟩, ⟨true, [⟨0, 255, (s.length : Int) + 1⟩]⟩]
open Classical in
/-- the dictionary's order -/
noncomputable def belowB (self : Bool) : List UInt8 → List UInt8 → Bool
  | [], [] => self
  | _ :: _, [] => false
  | [], _ :: _ => true
  | t :: v, c :: s => if t = c then belowB self v s else decide (t < c)
theorem belowT_len (s : List UInt8) (self : Bool) : (belowT s self).length = s.length + 2 := by simp [belowT]
theorem belowT_at {s : List UInt8} {self : Bool} {i : Nat} (h : i < s.length) : (belowT s self)[i]? = some ⟨true, (if 0 < (s[i]).toNat then [(⟨0, (s[i]).toNat - 1, (s.length : Int) + 1⟩ : Ed)] else []) ++ [⟨(s[i]).toNat, (s[i]).toNat, (i : Int) + 1⟩]⟩ := by
  unfold belowT
  rw [List.getElem?_append_left (by simpa using h)]
  simp [h]
theorem belowT_end (s : List UInt8) (self : Bool) : (belowT s self)[s.length]? = some ⟨self, []⟩ := by
  unfold belowT
  rw [List.getElem?_append_right (by simp)]
  simp
theorem belowT_all (s : List UInt8) (self : Bool) : (belowT s self)[s.length + 1]? = some ⟨true, [⟨0, 255, (s.length : Int) + 1⟩]⟩ := by
  unfold belowT
  rw [List.getElem?_append_right (by simp)]
  simp
theorem belowT_wf (s : List UInt8) (self : Bool) : WF (belowT s self) ∧ Bytes (belowT s self) := by
  have key : ∀ x ∈ belowT s self, wfEdges (s.length + 2) (-1) x.edges ∧ bytesEdges x.edges := by
    intro x hx
    obtain ⟨i, hi, rfl⟩ := List.mem_iff_getElem.1 hx
    have hg : (belowT s self)[i]? = some (belowT s self)[i] := by simp [hi]
    rw [belowT_len] at hi
    by_cases h1 : i < s.length
    · rw [belowT_at h1] at hg
      rw [← Option.some.inj hg]
      have hb := (s[i]).toNat_lt
      by_cases h2 : 0 < (s[i]).toNat
      · simp only [h2, if_true]
        refine ⟨⟨Nat.zero_le _, by show (0 : Int) ≤ (s.length : Int) + 1; omega, by show (s.length : Int) + 1 < ((s.length + 2 : Nat) : Int); omega, by show (-1 : Int) < ((0 : Nat) : Int); omega, Nat.le_refl _, by show (0 : Int) ≤ (i : Int) + 1; omega, by show (i : Int) + 1 < ((s.length + 2 : Nat) : Int); omega, by show (((s[i]).toNat - 1 : Nat) : Int) < ((s[i]).toNat : Int); omega, trivial⟩, ?_⟩
        intro e he
        simp only [List.cons_append, List.nil_append, List.mem_cons, List.not_mem_nil, or_false] at he
        rcases he with rfl | rfl
        · exact ⟨by simp, by simp; omega⟩
        · exact ⟨hb, hb⟩
      · simp only [h2, if_false]
        refine ⟨⟨Nat.le_refl _, by show (0 : Int) ≤ (i : Int) + 1; omega, by show (i : Int) + 1 < ((s.length + 2 : Nat) : Int); omega, by show (-1 : Int) < ((s[i]).toNat : Int); omega, trivial⟩, ?_⟩
        intro e he
        simp only [List.nil_append, List.mem_cons, List.not_mem_nil, or_false] at he
        subst he
        exact ⟨hb, hb⟩
    · by_cases h2 : i = s.length
      · subst h2
        rw [belowT_end] at hg
        rw [← Option.some.inj hg]
        exact ⟨trivial, fun e he => by cases he⟩
      · obtain rfl : i = s.length + 1 := by omega
        rw [belowT_all] at hg
        rw [← Option.some.inj hg]
        refine ⟨⟨Nat.zero_le _, by show (0 : Int) ≤ (s.length : Int) + 1; omega, by show (s.length : Int) + 1 < ((s.length + 2 : Nat) : Int); omega, by show (-1 : Int) < ((0 : Nat) : Int); omega, trivial⟩, ?_⟩
        intro e he
        simp only [List.mem_cons, List.not_mem_nil, or_false] at he
        subst he
        exact ⟨by simp, by simp⟩
  exact ⟨fun x hx => by rw [belowT_len]; exact (key x hx).1, fun x hx => (key x hx).2⟩
theorem tstep_of {l : Table} {i : Nat} {st : Sn} (h : l[i]? = some st) (b : Nat) : tstep l (i : Int) b = estep st.edges b := by
  obtain ⟨h1, h2⟩ := List.getElem?_eq_some_iff.1 h
  rw [tstep_nat l i b h1, h2]
theorem accAt_of {l : Table} {i : Nat} {st : Sn} (h : l[i]? = some st) : accAt l (i : Int) = st.accept := by
  obtain ⟨h1, h2⟩ := List.getElem?_eq_some_iff.1 h
  rw [accAt_nat l i h1, h2]
theorem below_sink (s : List UInt8) (self : Bool) : ∀ v : List UInt8, accFrom (belowT s self) ((s.length + 1 : Nat) : Int) v = true
  | [] => by simp only [accFrom]; rw [accAt_of (belowT_all s self)]
  | c :: v => by
    simp only [accFrom]
    rw [tstep_of (belowT_all s self)]
    have hc := c.toNat_lt
    have : estep [(⟨0, 255, (s.length : Int) + 1⟩ : Ed)] c.toNat = ((s.length + 1 : Nat) : Int) := by
      simp only [estep]
      rw [if_pos ⟨Nat.zero_le _, by omega⟩]; omega
    rw [this]
    exact below_sink s self v
theorem below_lang (s : List UInt8) (self : Bool) : ∀ (v : List UInt8) (i : Nat), i ≤ s.length → accFrom (belowT s self) (i : Int) v = belowB self v (s.drop i)
  | [], i, hi => by
    simp only [accFrom]
    by_cases h : i < s.length
    · rw [accAt_of (belowT_at h), List.drop_eq_getElem_cons h]; rfl
    · obtain rfl : i = s.length := by omega
      rw [accAt_of (belowT_end s self), List.drop_eq_nil_of_le (Nat.le_refl _)]; rfl
  | c :: v, i, hi => by
    simp only [accFrom]
    by_cases h : i < s.length
    · rw [tstep_of (belowT_at h), List.drop_eq_getElem_cons h]
      simp only [belowB]
      have hb := (s[i]).toNat_lt
      by_cases e : c = s[i]
      · rw [if_pos e]
        have hs : estep ((if 0 < (s[i]).toNat then [(⟨0, (s[i]).toNat - 1, (s.length : Int) + 1⟩ : Ed)] else []) ++ [⟨(s[i]).toNat, (s[i]).toNat, (i : Int) + 1⟩]) c.toNat = ((i + 1 : Nat) : Int) := by
          rw [e]
          split <;> simp only [List.cons_append, List.nil_append, estep]
          · rw [if_neg (by omega), if_pos ⟨Nat.le_refl _, Nat.le_refl _⟩]; omega
          · rw [if_pos ⟨Nat.le_refl _, Nat.le_refl _⟩]; omega
        rw [hs]
        exact below_lang s self v (i + 1) h
      · rw [if_neg e]
        have hne : c.toNat ≠ (s[i]).toNat := fun h => e (UInt8.toNat_inj.1 h)
        by_cases hlt : c < s[i]
        · have hlt' := UInt8.lt_iff_toNat_lt.1 hlt
          have hs : estep ((if 0 < (s[i]).toNat then [(⟨0, (s[i]).toNat - 1, (s.length : Int) + 1⟩ : Ed)] else []) ++ [⟨(s[i]).toNat, (s[i]).toNat, (i : Int) + 1⟩]) c.toNat = ((s.length + 1 : Nat) : Int) := by
            rw [if_pos (by omega)]
            simp only [List.cons_append, List.nil_append, estep]
            rw [if_pos ⟨Nat.zero_le _, by omega⟩]; omega
          rw [hs, below_sink, decide_eq_true hlt]
        · have hlt' : ¬ c.toNat < (s[i]).toNat := fun h => hlt (UInt8.lt_iff_toNat_lt.2 h)
          have hs : estep ((if 0 < (s[i]).toNat then [(⟨0, (s[i]).toNat - 1, (s.length : Int) + 1⟩ : Ed)] else []) ++ [⟨(s[i]).toNat, (s[i]).toNat, (i : Int) + 1⟩]) c.toNat = -1 := by
            split <;> simp only [List.cons_append, List.nil_append, estep]
            · rw [if_neg (by omega), if_neg (by omega)]
            · rw [if_neg (by omega)]
          rw [hs, accFrom_neg (by omega), decide_eq_false hlt]
    · obtain rfl : i = s.length := by omega
      rw [tstep_of (belowT_end s self), List.drop_eq_nil_of_le (Nat.le_refl _)]
      simp only [estep, belowB]
      rw [accFrom_neg (by omega)]
end Cl

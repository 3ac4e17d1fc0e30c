/- Lemmas for the proofs: PlainG, PlainI, PlainJ, PlainE, WalkD, WalkG, Region2, WalkA. -/
import Derived.Test.YtaolacbikbllcaaDoorPkA1
import Derived.Test.YtaolacbikbllcaaDoorPkA2
import Derived.Test.YtaolacbikbllcaaDoorPkA3
import Derived.Test.YtaolacbikbllcaaDoorPkA4
namespace Cl
open Go Go.RowKit Go.Proofs

theorem BfsHyp.congr {T : Table} {N : Nat} {cf : Nat → Int} {dl dl' : Nat → Nat → Option Nat} {lo hi : Nat → Nat} {ac ac' : Nat → Bool} {K : Nat} (H : BfsHyp T N cf dl lo hi ac K)
    (h : ∀ s i, s < N → i < K → dl' s i = dl s i) (ha : ∀ s, s < N → ac' s = ac s) : BfsHyp T N cf dl' lo hi ac' K :=
  ⟨H.iv, H.pos, fun s i t hs hi' he => H.some s i t hs hi' (by rw [← h s i hs hi']; exact he), fun s i hs hi' he => H.none s i hs hi' (by rw [← h s i hs hi']; exact he), H.cls, fun s hs => (ha s hs).trans (H.acc s hs), H.live⟩

noncomputable def pOf (l : Table) (b : Nat) : Bool := tf (cutP l b)
theorem cutsTo_list (l : Table) : cutsTo l 256 = (cutList (pOf l)).map Int.ofNat := rfl
theorem marks_of (l : Table) : Marks l (pOf l) := by
  refine ⟨tf_true (.inl rfl), fun s hs e he b _ h => tf_true (.inr ⟨s, hs, e, he, ?_⟩)⟩
  exact h
theorem cutHyp_of (l : Table) : CutHyp (cutsTo l 256) (loOf (cutList (pOf l))) (hiOf (cutList (pOf l))) := by
  rw [cutsTo_list]
  refine ⟨fun i h => ?_, fun i h => ?_⟩
  · have h' : i < (cutList (pOf l)).length := by simpa using h
    simp [loOf, h']
  · have h' : i < (cutList (pOf l)).length := by simpa using h
    unfold endOf hiOf
    by_cases c : i + 1 < (cutList (pOf l)).length
    · have h1 := cutList_lt (show i < i + 1 by omega) c
      rw [dif_pos (by simpa using c), if_pos c]
      simp only [List.getElem_map, List.getD_eq_getElem?_getD, c, List.getElem?_eq_getElem, Option.getD_some] at h1 ⊢
      have : ((cutList (pOf l))[i + 1] - 1 : Nat) = (((cutList (pOf l))[i + 1] : Nat) : Int) - 1 := by omega
      rw [this]; rfl
    · rw [dif_neg (by simpa using c), if_neg c]; rfl
theorem cuts_len (l : Table) : (cutsTo l 256).length = (cutList (pOf l)).length := by rw [cutsTo_list, List.length_map]

def compRows (l : Table) (cuts : List Int) : List (List Int) := compNext l cuts ++ [cuts.map fun _ => (l.length : Int)]
theorem compRows_len (l : Table) (cuts : List Int) : (compRows l cuts).length = l.length + 1 := by simp [compRows, compNext]
theorem compRows_ta {l : Table} (_ : WF l) {s i : Nat} (hs : s < l.length + 1) (hi : i < (cutList (pOf l)).length) :
    taN (compRows l (cutsTo l 256)) s i = snk l.length (tstep l s (loOf (cutList (pOf l)) i)) := by
  have hi2 : i < (cutsTo l 256).length := by rw [cuts_len]; exact hi
  have hc := (cutHyp_of l).lo i hi2
  unfold taN nx
  by_cases c : s < l.length
  · have e1 : (compRows l (cutsTo l 256)).getD s [] = compRow l.length (cutsTo l 256) (l[s]).edges := by
      unfold compRows compNext
      rw [List.getD_eq_getElem?_getD, List.getElem?_append_left (by simpa using c)]
      simp [c]
    rw [e1]
    have e2 : (compRow l.length (cutsTo l 256) (l[s]).edges).getD i 0 = goTo l.length (l[s]).edges ((cutsTo l 256)[i]) := by simp [compRow, hi2]
    rw [e2, hc, tstep_nat l s _ c]
    simp [goTo, snk]
  · have : s = l.length := by omega
    subst this
    have e1 : (compRows l (cutsTo l 256)).getD l.length [] = (cutsTo l 256).map fun _ => (l.length : Int) := by
      unfold compRows
      rw [List.getD_eq_getElem?_getD, List.getElem?_append_right (by simp [compNext])]
      simp [compNext]
    rw [e1, tstep_out l _ _ (Int.le_refl _)]
    simp [snk, hi2]
theorem comp_hyp {l : Table} (hw : WF l) (hlen : l.length ≤ 1000000) :
    CompHyp l (cutsTo l 256) (compRows l (cutsTo l 256)) (l.map (·.accept) ++ [false]) (loOf (cutList (pOf l))) (hiOf (cutList (pOf l))) := by
  have hl := compRows_len l (cutsTo l 256)
  have hT := ta_complete hw (marks_of l)
  refine ⟨?_, fun s hs => ?_, by simp [hl], fun r hr => ?_, by omega, cutsTo_le l 256, by omega⟩
  · rw [hl, cuts_len]
    refine ⟨hT.iv, fun s i hs hi => ?_, fun s i hs hi b h1 h2 w => ?_, fun s t i hs ht hi h1 h2 => ?_⟩
    · rw [compRows_ta hw hs hi]; exact hT.rng s i hs hi
    · rw [compRows_ta hw hs hi]; exact hT.step s i hs hi b h1 h2 w
    · rw [compRows_ta hw hs hi] at h1
      rw [compRows_ta hw ht hi] at h2 ⊢
      exact hT.neg s t i hs ht hi h1 h2
  · rw [hl] at hs
    by_cases c : s < l.length
    · rw [accAt_nat l s c, List.getD_eq_getElem?_getD, List.getElem?_append_left (by simpa using c)]
      simp [c]
    · have : s = l.length := by omega
      subst this
      rw [List.getD_eq_getElem?_getD, List.getElem?_append_right (by simp)]
      have := accFrom_out l (l.length : Int) [] (Int.le_refl _)
      simp only [accFrom] at this
      simp [this]
  · rw [hl]
    unfold compRows at hr
    rcases List.mem_append.1 hr with h | h
    · obtain ⟨s, hs, rfl⟩ := List.mem_map.1 h
      exact ⟨by simp [compRow], fun x hx => by have := compRow_range (hw s hs) _ x hx; omega⟩
    · simp only [List.mem_singleton] at h
      subst h
      exact ⟨by simp, fun x hx => by obtain ⟨y, -, rfl⟩ := List.mem_map.1 hx; omega⟩

theorem liveC_lv {T : Table} {cuts : List Int} {next : List (List Int)} {acc : List Bool} {lo hi : Nat → Nat} (H : CompHyp T cuts next acc lo hi) {cls : List Int} (hc : ClsOk T next.length cls) {s : Nat} (hs : s < next.length) :
    LiveC next acc cls (cl cls s) ↔ Lv T s := by
  have hrow : ∀ t, t < next.length → ∃ r, nx next t = r ∧ r.length = cuts.length ∧ (∀ x ∈ r, 0 ≤ x ∧ x < next.length) := fun t ht => by
    refine ⟨next[t], by simp [nx, ht], H.rows _ (List.getElem_mem ht)⟩
  have hcl : ∀ a b, a < next.length → b < next.length → cl cls a = cl cls b → NEq T a b := fun a b ha hb e => by
    refine (hc.eq a b ha hb).1 ?_
    unfold cl at e
    have h1 : ∀ t, t < next.length → 0 ≤ cls.getD t 0 := fun t ht => by
      have hl : t < cls.length := by rw [hc.len]; exact ht
      have := (hc.rng cls[t] (List.getElem_mem hl)).1
      simpa [hl] using this
    have := h1 a ha
    have := h1 b hb
    omega
  constructor
  · intro h
    have gen : ∀ c, LiveC next acc cls c → ∀ t, t < next.length → cl cls t = c → Lv T t := by
      intro c h
      induction h with
      | acc u hu h =>
        intro t ht e
        have hn := hcl t u ht hu e
        refine ⟨[], (hn []).trans ?_⟩
        simp only [accFrom]
        rw [← H.accs u hu]
        exact h
      | step u hu x hx _ ih =>
        intro t ht e
        have hn := hcl t u ht hu e
        obtain ⟨r, hr, hrl, hrx⟩ := hrow u hu
        rw [hr] at hx
        have hxr := hrx x hx
        obtain ⟨w, hw⟩ := ih x.toNat (by omega) rfl
        obtain ⟨i, hi', e2⟩ := List.mem_iff_getElem.1 hx
        have hta : taN next u i = x := by
          unfold taN
          rw [hr]
          simp [hi', e2]
        have hle := H.ta.iv.le i (by omega)
        obtain ⟨ub, hub⟩ := byteOf (lo i) (by omega)
        refine ⟨ub :: w, (hn (ub :: w)).trans ?_⟩
        simp only [accFrom]
        rw [hub, H.ta.step u i hu (by omega) (lo i) (Nat.le_refl _) hle.1 w, hta]
        have : ((x.toNat : Nat) : Int) = x := by omega
        rw [← this]
        exact hw
    exact gen _ h s hs rfl
  · rintro ⟨w, hw⟩
    induction w generalizing s with
    | nil =>
      refine .acc s hs ?_
      simp only [accFrom] at hw
      have := H.accs s hs
      unfold bt
      rw [this, hw]
    | cons b w ih =>
      simp only [accFrom] at hw
      obtain ⟨i, hi', b1, b2⟩ := H.ta.iv.cover b.toNat b.toNat_lt
      rw [H.ta.step s i hs hi' _ b1 b2 w] at hw
      obtain ⟨r, hr, hrl, hrx⟩ := hrow s hs
      have hta : taN next s i = r[i] := by
        unfold taN
        rw [hr]
        simp [hrl, hi']
      have hxr := hrx r[i] (List.getElem_mem (by omega))
      rw [hta] at hw
      have e : ((r[i].toNat : Nat) : Int) = r[i] := by omega
      refine .step s hs r[i] (by rw [hr]; exact List.getElem_mem (by omega)) (ih (by omega) ?_)
      rw [e]; exact hw

theorem bfs_of_comp {l : Table} (hw : WF l) (hlen : l.length ≤ 1000000) {cls : List Int} (hc : ClsOk l (compRows l (cutsTo l 256)).length cls) {lv : List Bool}
    (hlv : ∀ c, bt lv c = true ↔ LiveC (compRows l (cutsTo l 256)) (l.map (·.accept) ++ [false]) cls c) (h0 : bt lv (cl cls 0) = true) :
    BfsHyp l (compRows l (cutsTo l 256)).length (fun s => cls.getD s 0) (dlN (compRows l (cutsTo l 256)) cls lv) (loOf (cutList (pOf l))) (hiOf (cutList (pOf l))) (fun s => (l.map (·.accept) ++ [false]).getD s false) (cutsTo l 256).length := by
  have H := comp_hyp hw hlen
  have hl := compRows_len l (cutsTo l 256)
  have hlive : ∀ s : Nat, s < l.length + 1 → (bt lv (cls.getD s 0).toNat = true ↔ Lv l s) := fun s hs => (hlv _).trans (liveC_lv H hc (by omega))
  have h00 : Lv l (0 : Nat) := (hlive 0 (by omega)).1 h0
  rw [hl] at hc ⊢
  rw [cuts_len]
  refine (bfs_complete hw (marks_of l) hc hlive (ac := fun s => (l.map (·.accept) ++ [false]).getD s false) (fun s hs => H.accs s (by rw [hl]; exact hs)) h00).congr (fun s i hs hi => ?_) (fun s hs => rfl)
  unfold dlN
  rw [compRows_ta hw hs hi]
  rfl
theorem dead_of_comp {l : Table} (hw : WF l) (hlen : l.length ≤ 1000000) {cls : List Int} (hc : ClsOk l (compRows l (cutsTo l 256)).length cls) {lv : List Bool}
    (hlv : ∀ c, bt lv c = true ↔ LiveC (compRows l (cutsTo l 256)) (l.map (·.accept) ++ [false]) cls c) (h0 : bt lv (cl cls 0) = false) : ∀ w, accFrom l 0 w = false := by
  intro w
  have H := comp_hyp hw hlen
  have hl := compRows_len l (cutsTo l 256)
  cases hx : accFrom l 0 w with
  | false => rfl
  | true =>
    have := (hlv _).2 ((liveC_lv H hc (s := 0) (by omega)).2 ⟨w, hx⟩)
    rw [h0] at this; cases this
end Cl
namespace Cl

theorem idPos_le (o : List Nat) (t : Nat) : idPos o t ≤ o.length := posOf_le _ _ _
theorem idPos_next {o : List Nat} {t q : Nat} (h : q ≤ idPos o t) (hq : q < o.length) : if o[q] = t then q = idPos o t else q + 1 ≤ idPos o t := by
  split
  · rename_i e
    apply Classical.byContradiction
    intro hne
    have := List.not_of_lt_findIdx (p := fun (s : Nat) => ((s : Int) == (t : Int))) (xs := o) (i := q) (by
      have : q < idPos o t := by omega
      exact this)
    simp [e] at this
  · rename_i e
    apply Classical.byContradiction
    intro hne
    have h2 : q = idPos o t := by omega
    have hp : idPos o t < o.length := by omega
    have := posOf_get (cf := fun s => (s : Int)) (o := o) (t := t) hp
    have h3 : ((o[idPos o t] : Nat) : Int) = (t : Int) := this
    apply e
    subst h2
    omega
def idAdd (o : List Nat) (t : Nat) : List Nat := if idPos o t < o.length then o else o ++ [t]
theorem idAdd_pre (o : List Nat) (t : Nat) : o <+: idAdd o t := ordAdd_pre _ o t
theorem idAdd_mem (o : List Nat) (t : Nat) : t ∈ idAdd o t := by
  unfold idAdd
  split
  · rename_i h
    have h2 : ((o[idPos o t] : Nat) : Int) = (t : Int) := posOf_get (cf := fun s => (s : Int)) h
    have : o[idPos o t] = t := by omega
    rw [← this]; exact List.getElem_mem h
  · simp
theorem idAdd_nodup {o : List Nat} {t : Nat} (h : o.Nodup) : (idAdd o t).Nodup := nodup_of_dif (dif_add (cf := fun s => (s : Int)) t (dif_id h))
theorem idAdd_lt {o : List Nat} {t n : Nat} (h : ∀ x ∈ o, x < n) (ht : t < n) : ∀ x ∈ idAdd o t, x < n := by
  intro x hx
  rcases ordAdd_mem (cf := fun s => (s : Int)) x hx with h1 | h1
  · exact h x h1
  · subst h1; exact ht
theorem idAdd_pos (o : List Nat) (t : Nat) : idPos (idAdd o t) t = idPos o t := (ordAdd_pos (fun s => (s : Int)) o t).1
theorem idPos_lt_of_mem {o : List Nat} {t : Nat} (h : t ∈ o) : idPos o t < o.length := (idPos_of_mem h).1
theorem idPos_pre {o o' : List Nat} (h : o <+: o') {t : Nat} (ht : t ∈ o) : idPos o' t = idPos o t := pre_pos h (idPos_lt_of_mem ht)
theorem nodup_len {o : List Nat} {n : Nat} (h : o.Nodup) (hl : ∀ x ∈ o, x < n) : o.length ≤ n := by
  have := nodup_sub o (List.range n) h (fun x hx => List.mem_range.2 (hl x hx))
  simpa using this

def renE (o : List Nat) (es : List Ed) : List Ed := es.map fun e => ⟨e.lo, e.hi, (idPos o e.to.toNat : Int)⟩
theorem renE_pre {o o' : List Nat} (h : o <+: o') {es : List Ed} (hm : ∀ e ∈ es, e.to.toNat ∈ o) : renE o' es = renE o es := by
  apply List.map_congr_left
  intro e he
  rw [idPos_pre h (hm e he)]
structure InR (l : Table) (o : List Nat) (es : List Ed) (j : Nat) (o' : List Nat) : Prop where
  pre : o <+: o'
  nodup : o'.Nodup
  lt : ∀ x ∈ o', x < l.length
  mem : ∀ e ∈ es.take j, e.to.toNat ∈ o'
theorem inR_start {l : Table} {o : List Nat} {k : Nat} (h : ReachInv l o k) (es : List Ed) : InR l o es 0 o := ⟨List.prefix_rfl, h.nodup, h.lt, fun e he => by simp at he⟩
theorem inR_step {l : Table} {o o' : List Nat} {es : List Ed} {j : Nat} (h : InR l o es j o') (hj : j < es.length) (ht : (es[j]).to.toNat < l.length) :
    InR l o es (j + 1) (idAdd o' (es[j]).to.toNat) ∧ renE (idAdd o' (es[j]).to.toNat) (es.take (j + 1)) = renE o' (es.take j) ++ [⟨(es[j]).lo, (es[j]).hi, (idPos o' (es[j]).to.toNat : Int)⟩] := by
  have hp := idAdd_pre o' (es[j]).to.toNat
  refine ⟨⟨h.pre.trans hp, idAdd_nodup h.nodup, idAdd_lt h.lt ht, fun e he => ?_⟩, ?_⟩
  · rw [List.take_succ_eq_append_getElem hj] at he
    rcases List.mem_append.1 he with h1 | h1
    · exact hp.subset (h.mem e h1)
    · simp only [List.mem_singleton] at h1; subst h1; exact idAdd_mem _ _
  · rw [List.take_succ_eq_append_getElem hj]
    unfold renE
    rw [List.map_append]
    have := renE_pre hp (es := es.take j) h.mem
    unfold renE at this
    rw [this]
    simp [idAdd_pos]
theorem reach_start {l : Table} (h : 0 < l.length) : ReachInv l [0] 0 := ⟨rfl, by simp, fun x hx => by simp at hx; omega, by simp, fun j hj => by omega⟩
theorem reach_next {l : Table} {o o' : List Nat} {k : Nat} (h : ReachInv l o k) (hk : k < o.length) {s : Sn} (hs : l[o[k]]? = some s) (H : InR l o s.edges s.edges.length o') :
    ReachInv l o' (k + 1) ∧ reachT l o' (k + 1) = reachT l o k ++ [⟨s.accept, renE o' s.edges⟩] := by
  have hlen := H.pre.length_le
  have hmem : ∀ e ∈ s.edges, e.to.toNat ∈ o' := by have := H.mem; rwa [List.take_length] at this
  refine ⟨⟨?_, H.nodup, H.lt, by omega, fun j hj hj' t ht e he => ?_⟩, ?_⟩
  · obtain ⟨x, hx⟩ := H.pre
    rw [← hx, List.getElem?_append_left (by omega)]
    exact h.first
  · have hjo : j < o.length := by omega
    have e1 := pre_get H.pre hjo
    rw [e1] at ht
    by_cases c : j < k
    · exact H.pre.subset (h.there j c hjo t ht e he)
    · have : j = k := by omega
      subst this
      rw [hs] at ht
      cases ht
      exact hmem e he
  · have e1 := pre_get H.pre hk
    have ht : o'.take (k + 1) = o.take k ++ [o[k]] := by
      obtain ⟨x, hx⟩ := H.pre
      rw [← hx, List.take_append_of_le_length (by omega), List.take_succ_eq_append_getElem hk]
    unfold reachT
    rw [ht, List.map_append]
    congr 1
    · apply List.map_congr_left
      intro y hy
      obtain ⟨j, hj, rfl⟩ := List.mem_iff_getElem.1 hy
      have hjk : j < k := by simp at hj; omega
      simp only [List.getElem_take]
      have hyl := h.lt _ (List.getElem_mem (show j < o.length by omega))
      have e2 : l.getD o[j] ⟨false, []⟩ = l[o[j]] := by simp [hyl]
      rw [e2]
      unfold renum
      congr 1
      exact renE_pre H.pre (es := (l[o[j]]).edges) (fun e he => h.there j hjk (by omega) _ (by simp [hyl]) e he)
    · have e2 : l.getD o[k] ⟨false, []⟩ = s := by rw [List.getD_eq_getElem?_getD, hs]; rfl
      simp only [List.map_cons, List.map_nil, e2]
      rfl
end Cl
namespace Cl
open Go Go.RowKit Go.Proofs

theorem wf_len {n : Nat} {es : List Ed} : ∀ {p : Int}, wfEdges n p es → bytesEdges es → -1 ≤ p → p ≤ 255 → (es.length : Int) + p ≤ 255 := by
  induction es with
  | nil => intro p _ _ h1 h2; simp; exact h2
  | cons e es ih =>
    intro p ⟨h1, h2, h3, h4, h5⟩ hb hp hp2
    have hb1 := hb e (by simp)
    have := ih h5 (fun x hx => hb x (by simp [hx])) (by omega) (by omega)
    simp only [List.length_cons]
    omega
theorem wf_len256 {l : Table} (hw : WF l) (hb : Bytes l) : ∀ s ∈ l, s.edges.length ≤ 256 := fun s hs => by
  have := wf_len (hw s hs) (hb s hs) (by omega) (by omega)
  omega
/-- 'numbered' is the place of a class -/
theorem numbered_pos {o : List Nat} {cls : List Int} {t : Nat} (ht : t < cls.length) :
    (let r := firstIdx (fun y => cls.getD y.toNat 0 = cls[t]) (o.map Int.ofNat) 0; if r < 0 then ((o.map Int.ofNat).length : Int) else r) = (posOf (fun s => cls.getD s 0) o t : Nat) := by
  have hct : cls.getD t 0 = cls[t] := by simp [ht]
  rcases firstIdx_spec (fun y => cls.getD y.toNat 0 = cls[t]) (o.map Int.ofNat) 0 with ⟨h1, h2⟩ | ⟨i, h1, h2, h3, h4⟩
  · simp only [h1]
    rw [if_pos (by omega)]
    have hn : ¬ posOf (fun s => cls.getD s 0) o t < o.length := fun h => by
      have := posOf_get (cf := fun s => cls.getD s 0) h
      exact h2 (Int.ofNat o[posOf (fun s => cls.getD s 0) o t]) (List.mem_map.2 ⟨_, List.getElem_mem h, rfl⟩) (by rw [← hct]; exact this)
    have := posOf_le (fun s => cls.getD s 0) o t
    rw [List.length_map]
    omega
  · simp only [h2]
    rw [if_neg (by omega)]
    have hio : i < o.length := by simpa using h1
    have : posOf (fun s => cls.getD s 0) o t = i := by
      unfold posOf
      rw [List.findIdx_eq hio]
      refine ⟨?_, fun j hj => ?_⟩
      · have := h3
        simp only [List.getElem_map] at this
        exact beq_iff_eq.2 (by show cls.getD o[i] 0 = cls.getD t 0; rw [hct]; exact this)
      · have := h4 j (by simp; omega) hj
        simp only [List.getElem_map] at this
        exact beq_eq_false_iff_ne.2 (by show cls.getD o[j] 0 ≠ cls.getD t 0; rw [hct]; exact this)
    rw [this]; simp
theorem trim_live {R : Table} (hw : WF R) {lv : Nat → Bool} (hlv : ∀ s : Nat, s < R.length → (lv s = true ↔ Lv R s)) : ∀ s ∈ trimT R lv, ∀ e ∈ s.edges, Lv (trimT R lv) e.to := by
  intro s hs e he
  obtain ⟨x, hx, rfl⟩ := List.mem_map.1 hs
  obtain ⟨h1, h2⟩ := List.mem_filter.1 he
  have h3 := wfEdges_lohi (hw x hx) e h1
  obtain ⟨w, hw'⟩ := (hlv e.to.toNat (by omega)).1 h2
  refine ⟨w, ?_⟩
  rw [trim_lang hw hlv]
  rwa [Int.toNat_of_nonneg h3.2.1] at hw'
def dlT (T : Table) (lo : Nat → Nat) (s i : Nat) : Option Nat := if tstep T s (lo i) < 0 then none else some (tstep T s (lo i)).toNat
theorem ordCells_ints (o : List Nat) : ordCells o = (o.map Int.ofNat).map (Value.int .i64) := by
  unfold ordCells
  rw [List.map_map]
  rfl
end Cl
namespace Cl

def pstep (A B : Table) (p : Int × Int) (b : Nat) : Int × Int := (tstep A p.1 b, tstep B p.2 b)

structure Cover (A B : Table) (p : Int × Int) (l : List (Int × Int)) (es : List Ed) (c : Nat) : Prop where
  wf : wfEdges l.length (-1) es
  hi : ∀ e ∈ es, e.hi < c
  le : c ≤ 256
  step : ∀ b, b < c → ∃ t : Nat, estep es b = t ∧ l[t]? = some (pstep A B p b)
  last : c = 0 ∧ es = [] ∨ ∃ fs e, es = fs ++ [e] ∧ e.hi + 1 = c

theorem Cover.start (A B : Table) (p : Int × Int) (l : List (Int × Int)) : Cover A B p l [] 0 :=
  ⟨trivial, fun e he => by simp at he, by omega, fun b hb => by omega, .inl ⟨rfl, rfl⟩⟩
theorem Cover.mono {A B : Table} {p : Int × Int} {l l' : List (Int × Int)} {es : List Ed} {c : Nat} (h : Cover A B p l es c) (hp : l <+: l') : Cover A B p l' es c := by
  refine ⟨wfEdges_mono hp.length_le h.wf, h.hi, h.le, fun b hb => ?_, h.last⟩
  obtain ⟨t, h1, h2⟩ := h.step b hb
  obtain ⟨x, rfl⟩ := hp
  exact ⟨t, h1, by rw [List.getElem?_append_left (List.getElem?_eq_some_iff.1 h2).1]; exact h2⟩
theorem Cover.seg {A B : Table} {p : Int × Int} {l : List (Int × Int)} {es : List Ed} {c h t : Nat} (H : Cover A B p l es c) (hch : c ≤ h) (h256 : h < 256) (ht : l[t]? = some (pstep A B p c))
    (hs : ∀ b, c ≤ b → b ≤ h → pstep A B p b = pstep A B p c) : Cover A B p l (es ++ [⟨c, h, t⟩]) (h + 1) := by
  have htl := (List.getElem?_eq_some_iff.1 ht).1
  refine ⟨wfEdges_app (q := (c : Int) - 1) H.wf (fun e he => by have := H.hi e he; omega) (by omega) ⟨hch, by simp, by simpa using htl, by show (c : Int) - 1 < (c : Int); omega, trivial⟩, ?_, by omega, fun b hb => ?_, .inr ⟨es, _, rfl, rfl⟩⟩
  · intro e he
    rcases List.mem_append.1 he with h1 | h1
    · have := H.hi e h1; omega
    · simp only [List.mem_singleton] at h1; subst h1; exact Nat.lt_succ_self _
  · by_cases hbc : b < c
    · obtain ⟨s, h1, h2⟩ := H.step b hbc
      refine ⟨s, ?_, h2⟩
      rw [← h1]
      by_cases d : ∃ e ∈ es, e.lo ≤ b ∧ b ≤ e.hi
      · exact estep_app_left _ _ _ d
      · have d' : ∀ e ∈ es, ¬ (e.lo ≤ b ∧ b ≤ e.hi) := fun e he hh => d ⟨e, he, hh⟩
        rw [estep_none _ _ d'] at h1
        omega
    · refine ⟨t, ?_, by rw [hs b (by omega) (by omega)]; exact ht⟩
      rw [estep_app _ _ _ (fun e he => by have := H.hi e he; omega)]
      simp only [estep]
      rw [if_pos ⟨by omega, by omega⟩]
theorem Cover.widen {A B : Table} {p : Int × Int} {l : List (Int × Int)} {fs : List Ed} {e : Ed} {c : Nat} (H : Cover A B p l (fs ++ [e]) c) (hc : e.hi + 1 = c) (h256 : c < 256)
    (hs : pstep A B p c = pstep A B p (c - 1)) : Cover A B p l (fs ++ [⟨e.lo, c, e.to⟩]) (c + 1) := by
  have hl := wfEdges_last H.wf
  have he := wfEdges_sep H.wf e (by simp)
  refine ⟨wfEdges_app (q := (e.lo : Int) - 1) (wfEdges_front H.wf) (fun x hx => by have := hl x hx; omega) (by omega) ⟨by show e.lo ≤ c; omega, he.2.2.1, he.2.2.2, by show (e.lo : Int) - 1 < (e.lo : Int); omega, trivial⟩, ?_, by omega, fun b hb => ?_, .inr ⟨fs, _, rfl, rfl⟩⟩
  · intro x hx
    rcases List.mem_append.1 hx with h1 | h1
    · have := H.hi x (by simp [h1]); omega
    · simp only [List.mem_singleton] at h1; subst h1; exact Nat.lt_succ_self _
  · have key : ∀ b, b ≤ c - 1 → estep (fs ++ [⟨e.lo, c, e.to⟩]) b = estep (fs ++ [e]) b := by
      intro b hb
      by_cases d : ∃ x ∈ fs, x.lo ≤ b ∧ b ≤ x.hi
      · rw [estep_app_left _ _ _ d, estep_app_left _ _ _ d]
      · have d' : ∀ x ∈ fs, ¬ (x.lo ≤ b ∧ b ≤ x.hi) := fun x hx hh => d ⟨x, hx, hh⟩
        rw [estep_app _ _ _ d', estep_app _ _ _ d']
        simp only [estep]
        by_cases f : e.lo ≤ b
        · rw [if_pos (by omega), if_pos (by omega)]
        · rw [if_neg (by omega), if_neg (by omega)]
    by_cases hbc : b < c
    · rw [key b (by omega)]
      exact H.step b hbc
    · obtain rfl : b = c := by omega
      obtain ⟨t, h1, h2⟩ := H.step (b - 1) (by omega)
      refine ⟨t, ?_, by rw [hs]; exact h2⟩
      have hne : ∀ x ∈ fs, ¬ (x.lo ≤ b - 1 ∧ b - 1 ≤ x.hi) := fun x hx => by have := hl x hx; omega
      have hne2 : ∀ x ∈ fs, ¬ (x.lo ≤ b ∧ b ≤ x.hi) := fun x hx => by have := hl x hx; omega
      rw [estep_app _ _ _ hne] at h1
      simp only [estep] at h1
      rw [if_pos (by omega)] at h1
      rw [estep_app _ _ _ hne2]
      simp only [estep]
      rw [if_pos (by omega)]
      exact h1

structure ProdInv (A B : Table) (op : Bool → Bool → Bool) (st : Int × Int) (l : List (Int × Int)) (out : Table) : Prop where
  first : l[0]? = some st
  nodup : l.Nodup
  rng : ∀ q ∈ l, (-1 ≤ q.1 ∧ q.1 ≤ A.length) ∧ (-1 ≤ q.2 ∧ q.2 ≤ B.length)
  le : out.length ≤ l.length
  state : ∀ j, (h : j < out.length) → ∀ p, l[j]? = some p → (out[j]).accept = op (accAt A p.1) (accAt B p.2) ∧ Cover A B p l (out[j]).edges 256

theorem pair_bound {a b : Nat} {l : List (Int × Int)} (hn : l.Nodup) (hr : ∀ q ∈ l, (-1 ≤ q.1 ∧ q.1 ≤ a) ∧ (-1 ≤ q.2 ∧ q.2 ≤ b)) : l.length ≤ (a + 2) * (b + 2) := by
  have := nodup_sub l ((List.range (a + 2)).flatMap fun (i : Nat) => (List.range (b + 2)).map fun (j : Nat) => ((i : Int) - 1, (j : Int) - 1)) hn (fun q hq => by
    have := hr q hq
    obtain ⟨q1, q2⟩ := q
    simp only at this
    rw [List.mem_flatMap]
    refine ⟨(q1 + 1).toNat, List.mem_range.2 (by omega), List.mem_map.2 ⟨(q2 + 1).toNat, List.mem_range.2 (by omega), ?_⟩⟩
    simp only [Prod.mk.injEq]
    omega)
  refine Nat.le_trans this ?_
  generalize a + 2 = x
  generalize b + 2 = y
  clear this hr
  induction x with
  | zero => simp
  | succ x ih => rw [List.range_succ, List.flatMap_append, List.length_append, Nat.succ_mul]; simp at ih ⊢; exact ih

theorem prod_start {A B : Table} {op : Bool → Bool → Bool} {st : Int × Int} (h : (-1 ≤ st.1 ∧ st.1 ≤ A.length) ∧ (-1 ≤ st.2 ∧ st.2 ≤ B.length)) : ProdInv A B op st [st] [] :=
  ⟨rfl, by simp, fun q hq => by simp only [List.mem_singleton] at hq; subst hq; exact h, by simp, fun j hj => by simp at hj⟩
theorem ProdInv.grow {A B : Table} {op : Bool → Bool → Bool} {st : Int × Int} {l : List (Int × Int)} {out : Table} (h : ProdInv A B op st l out) {q : Int × Int} (hq : q ∉ l)
    (hr : (-1 ≤ q.1 ∧ q.1 ≤ A.length) ∧ (-1 ≤ q.2 ∧ q.2 ≤ B.length)) : ProdInv A B op st (l ++ [q]) out := by
  have h0 : 0 < l.length := by
    have := h.first
    cases l with
    | nil => simp at this
    | cons _ _ => simp
  refine ⟨by rw [List.getElem?_append_left h0]; exact h.first, ?_, ?_, by have := h.le; simp; omega, fun j hj p hp => ?_⟩
  · exact List.nodup_append.2 ⟨h.nodup, by simp, fun a ha b hb e => by simp only [List.mem_singleton] at hb; subst hb; exact hq (e ▸ ha)⟩
  · intro x hx
    rcases List.mem_append.1 hx with h1 | h1
    · exact h.rng x h1
    · simp only [List.mem_singleton] at h1; subst h1; exact hr
  · have hj' : j < l.length := by have := h.le; omega
    rw [List.getElem?_append_left hj'] at hp
    obtain ⟨h1, h2⟩ := h.state j hj p hp
    exact ⟨h1, h2.mono (List.prefix_append _ _)⟩
theorem ProdInv.push {A B : Table} {op : Bool → Bool → Bool} {st : Int × Int} {l : List (Int × Int)} {out : Table} (h : ProdInv A B op st l out) {p : Int × Int} (hp : l[out.length]? = some p) {es : List Ed}
    (hc : Cover A B p l es 256) : ProdInv A B op st l (out ++ [⟨op (accAt A p.1) (accAt B p.2), es⟩]) := by
  refine ⟨h.first, h.nodup, h.rng, by have := (List.getElem?_eq_some_iff.1 hp).1; simp; omega, fun j hj q hq => ?_⟩
  by_cases c : j < out.length
  · rw [List.getElem_append_left c]
    exact h.state j c q hq
  · have : j = out.length := by simp at hj; omega
    subst this
    rw [hp] at hq
    cases hq
    have eg : (out ++ [⟨op (accAt A p.1) (accAt B p.2), es⟩])[out.length]'hj = ⟨op (accAt A p.1) (accAt B p.2), es⟩ := by simp
    rw [eg]
    exact ⟨rfl, hc⟩
theorem ProdInv.done {A B : Table} {op : Bool → Bool → Bool} {st : Int × Int} {l : List (Int × Int)} {out : Table} (h : ProdInv A B op st l out) (_ : op false false = false) (he : out.length = l.length) :
    WF out ∧ Bytes out ∧ out.length ≤ (A.length + 2) * (B.length + 2) ∧ 0 < out.length ∧ ∀ w, accFrom out 0 w = op (accFrom A st.1 w) (accFrom B st.2 w) := by
  have h0 : 0 < l.length := by
    have := h.first
    cases l with
    | nil => simp at this
    | cons _ _ => simp
  have hlang : ∀ (w : List UInt8), ∀ (j : Nat) (p : Int × Int), l[j]? = some p → accFrom out j w = op (accFrom A p.1 w) (accFrom B p.2 w) := by
    intro w
    induction w with
    | nil =>
      intro j p hp
      have hj := (List.getElem?_eq_some_iff.1 hp).1
      simp only [accFrom]
      rw [accAt_nat out j (by omega)]
      exact (h.state j (by omega) p hp).1
    | cons b w ih =>
      intro j p hp
      have hj := (List.getElem?_eq_some_iff.1 hp).1
      simp only [accFrom]
      rw [tstep_nat out j _ (by omega)]
      obtain ⟨t, h1, h2⟩ := (h.state j (by omega) p hp).2.step b.toNat b.toNat_lt
      rw [h1]
      exact ih t _ h2
  refine ⟨?_, ?_, by rw [he]; exact pair_bound h.nodup h.rng, by omega, fun w => hlang w 0 st h.first⟩
  · intro s hs
    obtain ⟨j, hj, rfl⟩ := List.mem_iff_getElem.1 hs
    rw [he]
    exact (h.state j hj _ (List.getElem?_eq_getElem (by omega))).2.wf
  · intro s hs
    obtain ⟨j, hj, rfl⟩ := List.mem_iff_getElem.1 hs
    have := (h.state j hj _ (List.getElem?_eq_getElem (by omega))).2
    intro e he'
    have h1 := this.hi e he'
    have h2 := (wfEdges_sep this.wf e he').2.1
    omega
end Cl
namespace Cl
open Go Go.RowKit Go.Proofs

theorem bytes_ext {a b : ByteArray} (h : a.toList = b.toList) : a = b := by
  rw [ByteArray.toList_eq, ByteArray.toList_eq] at h
  obtain ⟨⟨x⟩⟩ := a
  obtain ⟨⟨y⟩⟩ := b
  simpa using h
theorem fieldsPair : (Tryd.prog.fieldsOf 69).toList = [⟨"a", 3, 0, false, "", "configlang/lang", 0⟩, ⟨"b", 3, 1, false, "", "configlang/lang", 8⟩] := by
  kernel_rfl
theorem stoodPair : Tryd.prog.stoodInHeld 69 = false := by kernel_rfl
theorem guardPair : Tryd.prog.eqGuardType Tryd.prog.depth 69 = false := by kernel_rfl
theorem undPair : Tryd.prog.underlying 69 = some (.struct (Tryd.prog.fieldsOf 69)) := by kernel_rfl
theorem pair_eqIn (a b a' b' : Int) (w : World) : (Op.equalIn 10000 69 (.agg #[.int .i64 a, .int .i64 b]) (.agg #[.int .i64 a', .int .i64 b'])).run Tryd.prog w = .ok (a == a' && b == b') w := by
  rw [run_equalIn_agg w 9999 69 _ _ undPair stoodPair, fieldsPair]
  have e2 := fun (d : Nat) (a b : Int) (w : World) => run_equalIn_int (P := Tryd.prog) w d 3 .i64 .i64 a b Tryd.underlying3
  simp only [Op.eqFields]
  simp [isAgg, go_sem, e2]
  by_cases h1 : a = a' <;> by_cases h2 : b = b' <;> simp [h1, h2]

set_option maxRecDepth 100000 in
set_option maxHeartbeats 1000000 in
theorem Index_pair_any (v : Value) (l : List (Int × Int)) (x : Int × Int) (m : Mem) (w : World) (hm : m.inn w) (hl : pairsAt m v l) :
    Calls Tryd.prog 57 #[v, .agg #[.int .i64 x.1, .int .i64 x.2]] w fun e w' => e = .returned (.int .i64 (firstIdx (fun y => x = y) l 0)) ∧ Below w.heap.size w w' := by
  obtain ⟨a, c, rfl, h1, h2, h3⟩ := hl
  unfold maxLen at h2
  refine calls_hide fun R hR => ?_
  go_enter Tryd.func57, Tryd.ntmps57
  go_wp2
  have hb0 : Below w.heap.size w (w.alloc (.cells #[.int .i64 x.1, .int .i64 x.2] 69)) := below_al (Below.refl _ _) _
  have d1 : (w.alloc (.cells #[.int .i64 x.1, .int .i64 x.2] 69)).cell? ⟨w.heap.size, 0, none⟩ = some (.int .i64 x.1) := by simp
  have d2 : (w.alloc (.cells #[.int .i64 x.1, .int .i64 x.2] 69)).cell? ⟨w.heap.size, 1, none⟩ = some (.int .i64 x.2) := by simp
  have d3 : w.heap.size < (w.alloc (.cells #[.int .i64 x.1, .int .i64 x.2] 69)).heap.size := by simp
  have hm0 := Mem.inn_below hm hb0
  generalize w.alloc (.cells #[.int .i64 x.1, .int .i64 x.2] 69) = w0 at *
  refine wp_loop_keep [0, 3, 7, 8] (fun n vs wr => ∃ k : Nat, k ≤ l.length ∧ n = l.length - k ∧ vs = [.slice a l.length c, .pointer (some ⟨w.heap.size, 0, none⟩), .int .i64 l.length, .int .i64 k] ∧ firstIdx (fun y => x = y) l 0 = firstIdx (fun y => x = y) (l.drop k) k ∧ Below w0.heap.size w0 wr) ?_ ?_
  · exact ⟨_, 0, Nat.zero_le _, rfl, rfl, rfl, Below.refl _ _⟩
  rintro X z n vs wr hX - ⟨k, hk, rfl, rfl, hrel, hbel⟩
  have Hrel := Lib.hid hrel
  clear hrel
  simp [litL, lk]
  have hmr := Mem.inn_below hm0 hbel
  have e1 := cell_of_below hbel d3 d1
  have e2 := cell_of_below hbel d3 d2
  by_cases hlt : k < l.length
  · obtain ⟨b, off, rfl, h4⟩ := h3 (by intro h; simp [h] at hlt)
    obtain ⟨g1, g2, -⟩ := h4 k hlt
    have c1 := Mem.cell_w hmr g1
    have c2 := Mem.cell_w hmr g2
    have HD := Lib.hid (firstIdx_drop (fun y => x = y) l k hlt)
    have hq := fun w => pair_eqIn x.1 x.2 (l[k].1) (l[k].2) w
    have hgd := guardPair
    by_cases hx : x = l[k]
    · have hb1 : (x.1 == l[k].1) = true := by simp [← hx]
      have hb2 : (x.2 == l[k].2) = true := by simp [← hx]
      have Hx := Lib.hid hx
      clear hx
      go_wp2
      go_quiet (fail)
      go_wp2
      exact hR.out _ _ ⟨ret_int (by rw [Hrel.out, HD.out, if_pos (tf_true Hx.out)]), below_then hb0 (below_drewN hbel _)⟩
    · have hb1 : (x.1 == l[k].1 && x.2 == l[k].2) = false := by
        by_cases h : x.1 = l[k].1
        · by_cases h' : x.2 = l[k].2
          · exact absurd (Prod.ext h h') hx
          · simp [h']
        · simp [h]
      have Hx := Lib.hid hx
      clear hx
      go_wp2
      go_quiet (fail)
      go_wp2
      exact hX.out _ _ _ (by omega) rfl ⟨k + 1, by omega, rfl, rfl, by rw [Hrel.out, HD.out, if_neg (by rw [tf_false Hx.out]; simp)], below_drewN hbel _⟩
  · go_wp2
    exact hR.out _ _ ⟨ret_int (by rw [Hrel.out, List.drop_eq_nil_of_le (by omega)]; rfl), below_then hb0 hbel⟩

theorem undArr2 : Tryd.prog.underlying 78 = some (.array 2 3) := by kernel_rfl
theorem guardArr2 : Tryd.prog.eqGuardType Tryd.prog.depth 78 = false := by kernel_rfl
theorem arr2_eqIn (a b a' b' : Int) (w : World) : (Op.equalIn 10000 78 (.agg #[.int .i64 a, .int .i64 b]) (.agg #[.int .i64 a', .int .i64 b'])).run Tryd.prog w = .ok (a == a' && b == b') w := by
  have e2 := fun (d : Nat) (a b : Int) (w : World) => run_equalIn_int (P := Tryd.prog) w d 3 .i64 .i64 a b Tryd.underlying3
  have e3 : (Tryd.t3).size = 1 := by kernel_rfl
  show (Op.equalIn (9999 + 1) 78 _ _).run _ _ = _
  rw [Op.equalIn]
  simp only [Sem.run_bind, run_underlying undArr2, Result.andThen_ok]
  simp only [Std.Legacy.Range.forIn_eq_forIn_range', Std.Legacy.Range.size]
  simp [isAgg, Go.sizeOf, go_sem, e2, e3, List.range']
  by_cases h1 : a = a' <;> by_cases h2 : b = b' <;> simp [h1, h2]

set_option maxRecDepth 100000 in
set_option maxHeartbeats 1000000 in
theorem place_any (v : Value) (l : List (Int × Int)) (x : Int × Int) (m : Mem) (w : World) (hm : m.inn w) (hl : pairsAt m v l) :
    Calls Tryd.prog 67 #[v, .agg #[.int .i64 x.1, .int .i64 x.2]] w fun e w' => e = .returned (.int .i64 (firstIdx (fun y => y = x) l 0)) ∧ Below w.heap.size w w' := by
  obtain ⟨a, c, rfl, h1, h2, h3⟩ := hl
  unfold maxLen at h2
  refine calls_hide fun R hR => ?_
  go_enter Tryd.func67, Tryd.ntmps67
  go_wp2
  have hb0 : Below w.heap.size w (w.alloc (.cells #[.int .i64 x.1, .int .i64 x.2] 78)) := below_al (Below.refl _ _) _
  have d1 : (w.alloc (.cells #[.int .i64 x.1, .int .i64 x.2] 78)).cell? ⟨w.heap.size, 0, none⟩ = some (.int .i64 x.1) := by simp
  have d2 : (w.alloc (.cells #[.int .i64 x.1, .int .i64 x.2] 78)).cell? ⟨w.heap.size, 1, none⟩ = some (.int .i64 x.2) := by simp
  have d3 : w.heap.size < (w.alloc (.cells #[.int .i64 x.1, .int .i64 x.2] 78)).heap.size := by simp
  have hm0 := Mem.inn_below hm hb0
  generalize w.alloc (.cells #[.int .i64 x.1, .int .i64 x.2] 78) = w0 at *
  refine wp_loop_keep [0, 3, 5] (fun n vs wr => ∃ k : Nat, k ≤ l.length ∧ n = l.length - k ∧ vs = [.slice a l.length c, .pointer (some ⟨w.heap.size, 0, none⟩), .int .i64 k] ∧ firstIdx (fun y => y = x) l 0 = firstIdx (fun y => y = x) (l.drop k) k ∧ Below w0.heap.size w0 wr) ?_ ?_
  · exact ⟨_, 0, Nat.zero_le _, rfl, rfl, rfl, Below.refl _ _⟩
  rintro X z n vs wr hX - ⟨k, hk, rfl, rfl, hrel, hbel⟩
  have Hrel := Lib.hid hrel
  clear hrel
  simp [litL, lk]
  have hmr := Mem.inn_below hm0 hbel
  have e1 := cell_of_below hbel d3 d1
  have e2 := cell_of_below hbel d3 d2
  by_cases hlt : k < l.length
  · obtain ⟨b, off, rfl, h4⟩ := h3 (by intro h; simp [h] at hlt)
    obtain ⟨g1, g2, -⟩ := h4 k hlt
    have c1 := Mem.cell_w hmr g1
    have c2 := Mem.cell_w hmr g2
    have HD := Lib.hid (firstIdx_drop (fun y => y = x) l k hlt)
    have hq := fun w => arr2_eqIn (l[k].1) (l[k].2) x.1 x.2 w
    have hgd := guardArr2
    by_cases hx : l[k] = x
    · have hb1 : (l[k].1 == x.1) = true := by simp [← hx]
      have hb2 : (l[k].2 == x.2) = true := by simp [← hx]
      have Hx := Lib.hid hx
      clear hx
      go_wp2
      go_quiet (fail)
      go_wp2
      exact hR.out _ _ ⟨ret_int (by rw [Hrel.out, HD.out, if_pos (tf_true Hx.out)]), below_then hb0 (below_drewN hbel _)⟩
    · have hb1 : (l[k].1 == x.1 && l[k].2 == x.2) = false := by
        by_cases h : l[k].1 = x.1
        · by_cases h' : l[k].2 = x.2
          · exact absurd (Prod.ext h h') hx
          · simp [h']
        · simp [h]
      have Hx := Lib.hid hx
      clear hx
      go_wp2
      go_quiet (fail)
      go_wp2
      exact hX.out _ _ _ (by omega) rfl ⟨k + 1, by omega, rfl, rfl, by rw [Hrel.out, HD.out, if_neg (by rw [tf_false Hx.out]; simp)], below_drewN hbel _⟩
  · go_wp2
    exact hR.out _ _ ⟨ret_int (by rw [Hrel.out, List.drop_eq_nil_of_le (by omega)]; rfl), below_then hb0 hbel⟩

set_option maxRecDepth 100000 in
set_option maxHeartbeats 1000000 in
theorem sameInts_any (v v' : Value) (l l' : List Int) (m : Mem) (w : World) (hm : m.inn w) (hl : intsAt m v l) (hl' : intsAt m v' l') :
    Calls Tryd.prog 96 #[v, v'] w fun e w' => e = .returned (.bool (tf (l = l'))) ∧ Below w.heap.size w w' := by
  obtain ⟨a, c, rfl, h1, h2, h3⟩ := hl
  obtain ⟨a', c', rfl, h1', h2', h3'⟩ := hl'
  unfold maxLen at h2 h2'
  refine calls_hide fun R hR => ?_
  by_cases hlen : l.length = l'.length
  · have hne : ((l.length : Int) != (l'.length : Int)) = false := by simp [hlen]
    have Hlen := Lib.hid hlen
    clear hlen
    go_enter Tryd.func96, Tryd.ntmps96
    go_wp2
    refine wp_loop_keep [0, 1, 12, 13] (fun n vs wr => ∃ k : Nat, k ≤ l.length ∧ n = l.length - k ∧ vs = [.slice a l.length c, .slice a' l'.length c', .int .i64 l.length, .int .i64 k] ∧ (l = l' ↔ l.drop k = l'.drop k) ∧ Below w.heap.size w wr) ?_ ?_
    · exact ⟨_, 0, Nat.zero_le _, rfl, rfl, Iff.rfl, Below.refl _ _⟩
    rintro X z n vs wr hX - ⟨k, hk, rfl, rfl, hrel, hbel⟩
    have Hrel := Lib.hid hrel
    clear hrel
    simp [litL, lk]
    have hmr := Mem.inn_below hm hbel
    by_cases hlt : k < l.length
    · have hlt' : k < l'.length := by rw [← Hlen.out]; exact hlt
      obtain ⟨b, off, rfl, h4⟩ := h3 (by intro h; simp [h] at hlt)
      obtain ⟨b', off', rfl, h4'⟩ := h3' (by intro h; simp [h] at hlt')
      have c1 := Mem.cell_w hmr (h4 k hlt).1
      have c1' := Mem.cell_w hmr (h4' k hlt').1
      have HD := Lib.hid (list_step l l' k hlt hlt')
      by_cases heq : l[k] = l'[k]
      · have hb1 : (l[k] != l'[k]) = false := by simp [heq]
        have Heq := Lib.hid heq
        clear heq
        go_wp2
        go_quiet (fail)
        go_wp2
        exact hX.out _ _ _ (by omega) rfl ⟨k + 1, by omega, rfl, rfl, Hrel.out.trans (HD.out.trans ⟨fun h => h.2, fun h => ⟨Heq.out, h⟩⟩), below_drewN hbel _⟩
      · have hb1 : (l[k] != l'[k]) = true := by simp [heq]
        have Heq := Lib.hid heq
        clear heq
        go_wp2
        go_quiet (fail)
        go_wp2
        exact hR.out _ _ ⟨ret_bool (by rw [tf_false]; intro h; exact Heq.out (HD.out.1 (Hrel.out.1 h)).1), below_drewN hbel _⟩
    · go_wp2
      refine hR.out _ _ ⟨ret_bool ?_, hbel⟩
      rw [tf_true (Hrel.out.2 ?_)]
      rw [List.drop_eq_nil_of_le (by omega), List.drop_eq_nil_of_le (by rw [← Hlen.out]; omega)]
  · have hne : ((l.length : Int) != (l'.length : Int)) = true := by simp; omega
    go_enter Tryd.func96, Tryd.ntmps96
    go_wp2
    exact hR.out _ _ ⟨ret_bool (by rw [tf_false (fun h => hlen (by rw [h]))]), Below.refl _ _⟩

set_option maxRecDepth 100000 in
set_option maxHeartbeats 1000000 in
theorem find_any (v v' : Value) (l : List (List Int)) (x : List Int) (m : Mem) (w : World) (hm : m.inn w) (hl : intssAt m v l) (hx : intsAt m v' x) :
    Calls Tryd.prog 88 #[v, v'] w fun e w' => e = .returned (.int .i64 (firstIdx (fun y => y = x) l 0)) ∧ Below w.heap.size w w' := by
  have hcall := fun u y hu w1 hm1 => sameInts_any u v' y x m w1 hm1 hu hx
  have Hc := Lib.hid hcall
  clear hcall
  obtain ⟨a, c, rfl, h1, h2, h3⟩ := hl
  obtain ⟨ax, cx, rfl, -⟩ := hx
  unfold maxLen at h2
  refine calls_hide fun R hR => ?_
  go_enter Tryd.func88, Tryd.ntmps88
  go_wp2
  refine wp_loop_keep [0, 1, 7, 8] (fun n vs wr => ∃ k : Nat, k ≤ l.length ∧ n = l.length - k ∧ vs = [.slice a l.length c, .slice ax x.length cx, .int .i64 l.length, .int .i64 k] ∧ firstIdx (fun y => y = x) l 0 = firstIdx (fun y => y = x) (l.drop k) k ∧ Below w.heap.size w wr) ?_ ?_
  · exact ⟨_, 0, Nat.zero_le _, rfl, rfl, rfl, Below.refl _ _⟩
  rintro X z n vs wr hX - ⟨k, hk, rfl, rfl, hrel, hbel⟩
  have Hrel := Lib.hid hrel
  clear hrel
  simp [litL, lk]
  have hmr := Mem.inn_below hm hbel
  by_cases hlt : k < l.length
  · obtain ⟨b, off, rfl, h4⟩ := h3 (by intro h; simp [h] at hlt)
    obtain ⟨u, hu1, hu2⟩ := h4 k hlt
    have hc := Hc.out u l[k] hu2 _ hmr
    obtain ⟨ua, uc, rfl, -⟩ := hu2
    have c1 := Mem.cell_w hmr hu1
    have HD := Lib.hid (firstIdx_drop (fun y => y = x) l k hlt)
    have Hcc := Lib.hid hc
    clear hc
    go_wp2_with fail
    refine Hcc.out.mono ?_
    rintro e w' ⟨rfl, hbel2⟩
    by_cases hx : l[k] = x
    · rw [tf_true hx]
      have Hx := Lib.hid hx
      clear hx
      go_wp2
      exact hR.out _ _ ⟨ret_int (by rw [Hrel.out, HD.out, if_pos (tf_true Hx.out)]), below_then hbel hbel2⟩
    · rw [tf_false hx]
      go_wp2
      exact hX.out _ _ _ (by omega) rfl ⟨k + 1, by omega, rfl, rfl, by rw [Hrel.out, HD.out, if_neg (by rw [tf_false hx]; simp)], below_then hbel hbel2⟩
  · go_wp2
    exact hR.out _ _ ⟨ret_int (by rw [Hrel.out, List.drop_eq_nil_of_le (by omega)]; rfl), hbel⟩

set_option maxRecDepth 100000 in
set_option maxHeartbeats 1000000 in
theorem numbered_any (v v' : Value) (l cl : List Int) (x : Nat) (m : Mem) (w : World) (hm : m.inn w) (hl : intsAt m v l) (hc : intsAt m v' cl) (hx : x < cl.length) (hlc : ∀ y ∈ l, 0 ≤ y ∧ y < cl.length) :
    Calls Tryd.prog 79 #[v, v', .int .i64 x] w fun e w' => e = .returned (.int .i64 (let r := firstIdx (fun y => cl.getD y.toNat 0 = cl[x]) l 0; if r < 0 then l.length else r)) ∧ Below w.heap.size w w' := by
  obtain ⟨a, c, rfl, h1, h2, h3⟩ := hl
  obtain ⟨a', c', rfl, h1', h2', h3'⟩ := hc
  obtain ⟨b', off', rfl, h4'⟩ := h3' (by intro h; simp [h] at hx)
  unfold maxLen at h2 h2'
  refine calls_hide fun R hR => ?_
  go_enter Tryd.func79, Tryd.ntmps79
  go_wp2
  refine wp_loop_keep [0, 1, 2, 9, 10, 11] (fun n vs wr => ∃ k : Nat, k ≤ l.length ∧ n = l.length - k ∧ vs = [.slice a l.length c, .slice (some ⟨b', off', none⟩) cl.length c', .int .i64 x, .slice a l.length c, .int .i64 l.length, .int .i64 k] ∧ firstIdx (fun y => cl.getD y.toNat 0 = cl[x]) l 0 = firstIdx (fun y => cl.getD y.toNat 0 = cl[x]) (l.drop k) k ∧ Below w.heap.size w wr) ?_ ?_
  · exact ⟨_, 0, Nat.zero_le _, rfl, rfl, rfl, Below.refl _ _⟩
  rintro X z n vs wr hX - ⟨k, hk, rfl, rfl, hrel, hbel⟩
  have Hrel := Lib.hid hrel
  clear hrel
  simp [litL, lk]
  have hmr := Mem.inn_below hm hbel
  by_cases hlt : k < l.length
  · obtain ⟨b, off, rfl, h4⟩ := h3 (by intro h; simp [h] at hlt)
    have c1 := Mem.cell_w hmr (h4 k hlt).1
    obtain ⟨y, hy⟩ := Int.eq_ofNat_of_zero_le (hlc l[k] (List.getElem_mem hlt)).1
    have hy2 : y < cl.length := by have := (hlc l[k] (List.getElem_mem hlt)).2; omega
    have hgd : cl.getD (l[k]).toNat 0 = cl[y] := by rw [hy]; simp [hy2]
    rw [hy] at c1
    have Hgd := Lib.hid hgd
    clear hgd hy
    have c2 := Mem.cell_w hmr (h4' y hy2).1
    have c3 := Mem.cell_w hmr (h4' x hx).1
    have HD := Lib.hid (firstIdx_drop (fun y => cl.getD y.toNat 0 = cl[x]) l k hlt)
    by_cases heq : cl[y] = cl[x]
    · have hb1 : (cl[y] == cl[x]) = true := by simp [heq]
      have Heq := Lib.hid heq
      clear heq
      go_wp2
      go_quiet (fail)
      go_wp2
      refine hR.out _ _ ⟨ret_int ?_, below_drewN hbel _⟩
      rw [Hrel.out, HD.out, if_pos (tf_true (by rw [Hgd.out]; exact Heq.out))]
      rw [if_neg (by omega)]
    · have hb1 : (cl[y] == cl[x]) = false := by simp [heq]
      have Heq := Lib.hid heq
      clear heq
      go_wp2
      go_quiet (fail)
      go_wp2
      exact hX.out _ _ _ (by omega) rfl ⟨k + 1, by omega, rfl, rfl, by rw [Hrel.out, HD.out, if_neg (by rw [tf_false (by rw [Hgd.out]; exact Heq.out)]; simp)], below_drewN hbel _⟩
  · go_wp2
    exact hR.out _ _ ⟨ret_int (by rw [Hrel.out, List.drop_eq_nil_of_le (by omega)]; rfl), hbel⟩

set_option maxRecDepth 100000 in
set_option maxHeartbeats 1000000 in
theorem Texts_any (v v' : Value) (l l' : List ByteArray) (m : Mem) (w : World) (hm : m.inn w) (hl : strsAt m v l) (hl' : strsAt m v' l') :
    Calls Tryd.prog 17 #[v, v'] w fun e w' => e = .returned (.bool (tf (l = l'))) ∧ Below w.heap.size w w' := by
  obtain ⟨a, c, rfl, h1, h2, h3⟩ := hl
  obtain ⟨a', c', rfl, h1', h2', h3'⟩ := hl'
  unfold maxLen at h2 h2'
  refine calls_hide fun R hR => ?_
  by_cases hlen : l.length = l'.length
  · have hne : ((l.length : Int) != (l'.length : Int)) = false := by simp [hlen]
    have Hlen := Lib.hid hlen
    clear hlen
    go_enter Tryd.func17, Tryd.ntmps17
    go_wp2
    refine wp_loop_keep [0, 1, 5] (fun n vs wr => ∃ k : Nat, k ≤ l.length ∧ n = l.length - k ∧ vs = [.slice a l.length c, .slice a' l'.length c', .int .i64 k] ∧ (l = l' ↔ l.drop k = l'.drop k) ∧ Below w.heap.size w wr) ?_ ?_
    · exact ⟨_, 0, Nat.zero_le _, rfl, rfl, Iff.rfl, Below.refl _ _⟩
    rintro X z n vs wr hX - ⟨k, hk, rfl, rfl, hrel, hbel⟩
    have Hrel := Lib.hid hrel
    clear hrel
    simp [litL, lk]
    have hmr := Mem.inn_below hm hbel
    by_cases hlt : k < l.length
    · have hlt' : k < l'.length := by rw [← Hlen.out]; exact hlt
      obtain ⟨b, off, rfl, h4⟩ := h3 (by intro h; simp [h] at hlt)
      obtain ⟨b', off', rfl, h4'⟩ := h3' (by intro h; simp [h] at hlt')
      have c1 := Mem.cell_w hmr (h4 k hlt).1
      have c1' := Mem.cell_w hmr (h4' k hlt').1
      have HD := Lib.hid (list_step l l' k hlt hlt')
      generalize l[k] = s at *
      generalize l'[k] = s' at *
      go_wp2
      go_quiet (fail)
      go_wp2
      · refine hR.out _ _ ⟨ret_bool ?_, below_drewN hbel _⟩
        rw [tf_false]
        intro h
        have h5 := (HD.out.1 (Hrel.out.1 h)).1
        have h6 := ‹(!s.toList == s'.toList) = true›
        simp [h5] at h6
      · refine hX.out _ _ _ (by omega) rfl ⟨k + 1, by omega, rfl, rfl, ?_, below_drewN hbel _⟩
        have h6 := ‹(!s.toList == s'.toList) = false›
        simp at h6
        exact Hrel.out.trans (HD.out.trans ⟨fun h => h.2, fun h => ⟨bytes_ext h6, h⟩⟩)
    · go_wp2
      refine hR.out _ _ ⟨ret_bool ?_, hbel⟩
      rw [tf_true (Hrel.out.2 ?_)]
      rw [List.drop_eq_nil_of_le (by omega), List.drop_eq_nil_of_le (by rw [← Hlen.out]; omega)]
  · have hne : ((l.length : Int) != (l'.length : Int)) = true := by simp; omega
    go_enter Tryd.func17, Tryd.ntmps17
    go_wp2
    exact hR.out _ _ ⟨ret_bool (by rw [tf_false (fun h => hlen (by rw [h]))]), Below.refl _ _⟩
end Cl
namespace Cl
open Go Go.RowKit Go.Proofs

def wordT (s : List UInt8) (k : Nat) : Table := (List.range k).map fun i => ⟨false, [⟨(s.getD i 0).toNat, (s.getD i 0).toNat, (i + 1 : Nat)⟩]⟩

theorem wordT_succ (s : List UInt8) (k : Nat) : wordT s (k + 1) = wordT s k ++ [⟨false, [⟨(s.getD k 0).toNat, (s.getD k 0).toNat, (k + 1 : Nat)⟩]⟩] := by
  simp [wordT, List.range_succ]
theorem wordT_length (s : List UInt8) (k : Nat) : (wordT s k).length = k := by simp [wordT]
theorem oneEdge {mk : Mem} {w : World} {g : Nat} {t : TypeId} {lo hi : Nat} {to : Int} (h : ObjAt w g t #[.int .u8 lo, .int .u8 hi, .int .i64 to]) (hk : edOk ⟨lo, hi, to⟩) : edgesAt (mk.add w g) (.slice (some ⟨g, 0, none⟩) 1 1) [⟨lo, hi, to⟩] := by
  refine ⟨some ⟨g, 0, none⟩, 1, rfl, by simp, by simp [maxLen], fun _ => ⟨g, 0, rfl, fun i hi => ?_⟩⟩
  have : i = 0 := by simpa using hi
  subst this
  exact ⟨Mem.add_cell h rfl, Mem.add_cell h rfl, Mem.add_cell h rfl, hk⟩
theorem noEdges (mk : Mem) : edgesAt mk (.slice none 0 0) [] := ⟨none, 0, rfl, by simp, by simp [maxLen], fun h => absurd rfl h⟩

set_option maxRecDepth 100000 in
set_option maxHeartbeats 1000000 in
theorem r05Word_any (s : ByteArray) (m : Mem) (w : World) (hm : m.inn w) (hs : s.size ≤ 1000) :
    Calls Tryd.prog 34 #[.string s] w fun e w' => ∃ r, e = .returned (.agg #[r]) ∧ Below w.heap.size w w' ∧ statesAt (m.grow w w') r (wordT s.data.toList s.size ++ [⟨true, []⟩]) := by
  refine calls_hide fun R hR => ?_
  go_enter Tryd.func34, Tryd.ntmps34
  go_wp2
  refine wp_loop_keep [0, 2, 3, 4] (fun n vs wr => ∃ (k : Nat) (v : Value) (xs : List Value) (mk : Mem), k ≤ s.size ∧ n = s.size - k ∧ vs = [.string s, .pointer (some ⟨w.heap.size, 0, none⟩), .pointer (some ⟨w.heap.size + 1, 0, none⟩), .int .i64 k] ∧
    Own w m wr mk [.obj (w.heap.size + 1) 24 #[v], .row v 48 2 k xs, .obj w.heap.size 24 #[.slice none 0 0]] ∧ StRow mk xs (wordT s.data.toList k)) ?_ ?_
  · refine ⟨_, 0, .slice none 0 0, [], m, Nat.zero_le _, rfl, rfl, ?_, StRow.nil m⟩
    have := (((Own.start hm).al #[.slice none 0 0] 24).al #[.slice none 0 0] 24).nilRow 48 2
    simpa using this.swap
  rintro X z n vs wr hX - ⟨k, v, xs, mk, hk, rfl, rfl, hO, hrow⟩
  simp [litL, lk]
  have ho2 := hO.obj
  have c1 := ho2.cell (i := 0) (v := v) rfl
  have f1 := ho2.frozen 0
  have l1 := ho2.lt
  by_cases hlt : k < s.size
  · go_wp2
    have hw1 : IntKind.i64.wrap ((k : Int) + 1) = (k : Int) + 1 := IntWalk.i64_in _ (by omega)
    refine wp_region_T (fun w' => ObjAt w' (w.heap.size + 1) 24 #[v]) 16 (by kernel_rfl) ?_
    have hS : ObjAt wr.drew (w.heap.size + 1) 24 #[v] := ho2.dr
    refine wpAnyT_take 0 rfl (by kernel_rfl) (fun _ _ _ h => h) hS (yields_of rfl fun w' hS' => by have q := hS'.cell (i := 0) rfl; go_simp; rfl) ?_
    refine wpAnyT_take 1 rfl (by kernel_rfl) (fun _ _ _ h => h) hS (yields_of rfl fun w' hS' => by have q := hS'.cell (i := 0) rfl; go_simp; rfl) ?_
    refine wpAnyT_take 2 rfl (by kernel_rfl) (fun _ _ _ h => h) hS (yields_of rfl fun w' hS' => by have q := hS'.cell (i := 0) rfl; go_simp; rfl) ?_
    refine wpAnyT_take 3 rfl (by kernel_rfl) (fun _ _ _ h => h) hS (yields_of rfl fun w' hS' => by have q := hS'.cell (i := 0) rfl; go_simp; rfl) ?_
    refine wpAnyT_take 4 rfl (by kernel_rfl) (fun _ _ _ h => h) hS (yields_of rfl fun w' hS' => by have q := hS'.cell (i := 0) rfl; go_simp; rfl) ?_
    refine wpAnyT_take 5 rfl (by kernel_rfl) (fun _ _ _ h => h) hS (yields_of rfl fun w' hS' => by have q := hS'.cell (i := 0) rfl; go_simp; rfl) ?_
    refine wpAnyT_take 6 rfl (by kernel_rfl) (fun _ _ _ h => h) hS (yields_of rfl fun w' hS' => by have q := hS'.cell (i := 0) rfl; go_simp; rfl) ?_
    refine wpAnyT_take 7 rfl (by kernel_rfl) (fun _ _ _ h => h) hS (yields_of rfl fun w' hS' => by have q := hS'.cell (i := 0) rfl; go_simp; rfl) ?_
    refine wpAnyT_take 8 rfl (by kernel_rfl) (fun _ _ _ h => h) hS (yields_of rfl fun w' hS' => by have q := hS'.cell (i := 0) rfl; go_simp; rfl) ?_
    refine wpAnyT_take 9 rfl (by kernel_rfl) (fun _ _ _ h => h) hS (yields_of rfl fun w' hS' => by have q := hS'.cell (i := 0) rfl; go_simp; rfl) ?_
    refine wpAnyT_take 10 rfl (by kernel_rfl) (fun _ _ _ h => h) hS (yields_of rfl fun w' hS' => by have q := hS'.cell (i := 0) rfl; go_simp; rfl) ?_
    refine wpAnyT_only 11 (by kernel_rfl) (wpOp_of rfl rfl (wp_value (by go_simp; exact ⟨rfl, rfl⟩) (andS (ho2.al _).dr fun hS1 => ?_)))
    refine wpAnyT_take 12 rfl (by kernel_rfl) (fun _ _ _ h => h) hS1 (yields_of rfl fun w' hS' => by have q := hS'.cell (i := 0) rfl; go_simp; rfl) ?_
    refine wpAnyT_only 13 (by kernel_rfl) (wpOp_of rfl rfl (wp_value (by go_simp; exact ⟨rfl, rfl⟩) (andS ((ho2.al _).al _).dr fun hS2 => ?_)))
    go_simp
    have hO2 := ((hO.al #[Value.int IntKind.u8 s[k].toNat, Value.int IntKind.u8 s[k].toNat, Value.int IntKind.i64 (k + 1)] 51).al #[Value.bool false, Value.slice (some ⟨wr.heap.size, 0, none⟩) 1 1] 48).dr
    rw [show (wr.alloc (.cells #[Value.int IntKind.u8 s[k].toNat, Value.int IntKind.u8 s[k].toNat, Value.int IntKind.i64 (k + 1)] 51)).heap.size = wr.heap.size + 1 by simp] at hO2
    have hO3 := hO2.tail.sealObj
    have hed := oneEdge (mk := mk) (lo := s[k].toNat) (hi := s[k].toNat) (to := (k : Int) + 1) hO2.tail.obj ⟨s[k].toNat_lt, s[k].toNat_lt, by show _ ≤ (k : Int) + 1; omega, by show (k : Int) + 1 ≤ _; omega⟩
    have hf := hO2.tail.objFree
    refine wpAnyT_only 14 (by kernel_rfl) (wpOp_of rfl rfl (wp_append_row tyStates (.tmp 12) (.tmp 24) rfl v k xs rfl hO3.swap.row ⟨wr.heap.size + 1, 0, none⟩ 1 1 [.bool false, .slice (some ⟨wr.heap.size, 0, none⟩) 1 1] rfl rfl (hO2.obj.news rfl) (by simp [Value.oneCell']) (by unfold maxLen; omega) (by omega) (fun va vc w3 hown3 hgrow hrow3 => ?_)))
    have hO4 := hO3.swap.app hown3 hgrow hrow3 (Nat.le_refl _)
    refine andS hO4.swap.obj fun hS3 => ?_
    have f3 := hS3.frozen 0
    have c3 := hS3.cell (i := 0) rfl
    refine wpAnyT_take 15 rfl (by kernel_rfl) (fun _ _ _ h => h) hS3 (yields_of rfl fun w' hS' => by have q := hS'.cell (i := 0) rfl; go_simp; rfl) ?_
    refine wpAnyT_only 16 (by kernel_rfl) (wpOp_of rfl rfl (wp_skipped (by go_simp; rfl) (andLast rfl ?_)))
    refine wpAnyT_done (by kernel_rfl) ?_ _
    have hO5 := hO4.swap.set 0 (.slice va (k + 1) vc)
    have hrow5 := (hrow.mono (Mem.le_add hf)).push (s := ⟨false, [⟨s[k].toNat, s[k].toNat, (k + 1 : Nat)⟩]⟩) hed
    have Hfin := Lib.hid (And.intro hO5 hrow5)
    clear hO5 hrow5 hO4 hO3 hO2 hO hed hf hown3 hgrow hrow3 hS hS1 hS2 hS3 f3 c3 ho2 c1 f1
    go_wp2
    refine hX.out _ _ _ (by omega) rfl ⟨k + 1, _, _, _, by omega, rfl, rfl, Hfin.out.1, ?_⟩
    have hg := Hfin.out.2
    rw [wordT_succ]
    have e : s.data.toList.getD k 0 = s[k] := by
      rw [List.getD_eq_getElem?_getD]
      have : s.data.toList[k]? = some s[k] := by
        rw [List.getElem?_eq_getElem (by simpa using hlt)]; rfl
      rw [this]; rfl
    rw [e]
    exact hg
  · obtain rfl : k = s.size := by omega
    have hO1 := hO.al #[Value.bool true, Value.slice none 0 0] 48
    go_wp2_with (at_builtin; refine wpList_append_row tyStates rfl (.tmp 28) (.tmp 30) rfl v s.size xs rfl (hO1.third).row ⟨wr.heap.size, 0, none⟩ 1 1 [.bool true, .slice none 0 0] rfl rfl (hO1.obj.news rfl) (by simp [Value.oneCell']) (by unfold maxLen; omega) (by omega) ?_)
    intro va vc w3 hown3 hgrow hrow3
    have hO2 := hO1.third.app hown3 hgrow hrow3 (by simp)
    have hS3 := hO2.third.obj
    have f3 := hS3.frozen 0
    have c3 := hS3.cell (i := 0) rfl
    have l3 := hS3.lt
    have g3 := hO2.fourth.obj.cell (i := 0) rfl
    have g4 := hO2.fourth.obj.frozen 0
    have g5 := hO2.fourth.obj.lt
    have hO4 := (hO2.third.set 0 (.slice va (s.size + 1) vc)).fourth.set 0 (.slice va (s.size + 1) vc)
    have hrow4 := hrow.push (s := (⟨true, []⟩ : Sn)) (noEdges mk)
    have hO5 := hO4.third.sealRow
    have hln : (wordT s.data.toList s.size ++ [(⟨true, []⟩ : Sn)]).length = s.size + 1 := by simp [wordT_length]
    have hst := statesAt_of_row (l := wordT s.data.toList s.size ++ [(⟨true, []⟩ : Sn)]) (by rw [hln]; exact hO4.third.row) hrow4 hO4.third.free
    have hfin := statesAt_le hO5.done hst
    have Hfin := Lib.hid (And.intro hO5.below hfin)
    clear hO5 hst hfin hO4 hrow4 hown3 hgrow hrow3 hO2 hO1 hO
    go_wp2
    refine bodyPost_ret (v := .agg #[.slice va (s.size + 1) vc]) (by simp [results, Tryd.results34, go_sem, g3]) rfl ?_
    exact hR.out _ _ ⟨_, rfl, Hfin.out.1, Hfin.out.2⟩
set_option maxRecDepth 100000 in
set_option maxHeartbeats 1000000 in
theorem auWord_any (s : ByteArray) (m : Mem) (w : World) (hm : m.inn w) (hs : s.size ≤ 1000) :
    Calls Tryd.prog 55 #[.string s] w fun e w' => ∃ r, e = .returned (.agg #[r]) ∧ Below w.heap.size w w' ∧ statesAt (m.grow w w') r (wordT s.data.toList s.size ++ [⟨true, []⟩]) := by
  refine calls_hide fun R hR => ?_
  go_enter Tryd.func55, Tryd.ntmps55
  go_wp2
  refine wp_loop_keep [0, 2, 3, 6, 7] (fun n vs wr => ∃ (k : Nat) (v : Value) (xs : List Value) (mk : Mem), k ≤ s.size ∧ n = s.size - k ∧ vs = [.string s, .pointer (some ⟨w.heap.size, 0, none⟩), .pointer (some ⟨w.heap.size + 1, 0, none⟩), .int .i64 s.size, .int .i64 k] ∧
    Own w m wr mk [.obj (w.heap.size + 1) 24 #[v], .row v 48 2 k xs, .obj w.heap.size 24 #[.slice none 0 0]] ∧ StRow mk xs (wordT s.data.toList k)) ?_ ?_
  · refine ⟨_, 0, .slice none 0 0, [], m, Nat.zero_le _, rfl, rfl, ?_, StRow.nil m⟩
    have := (((Own.start hm).al #[.slice none 0 0] 24).al #[.slice none 0 0] 24).nilRow 48 2
    simpa using this.swap
  rintro X z n vs wr hX - ⟨k, v, xs, mk, hk, rfl, rfl, hO, hrow⟩
  simp [litL, lk]
  have ho2 := hO.obj
  have c1 := ho2.cell (i := 0) (v := v) rfl
  have f1 := ho2.frozen 0
  have l1 := ho2.lt
  by_cases hlt : k < s.size
  · go_wp2
    have hw1 : IntKind.i64.wrap ((k : Int) + 1) = (k : Int) + 1 := IntWalk.i64_in _ (by omega)
    refine wp_region_T (fun w' => ObjAt w' (w.heap.size + 1) 24 #[v]) 16 (by kernel_rfl) ?_
    have hS : ObjAt wr.drew (w.heap.size + 1) 24 #[v] := ho2.dr
    refine wpAnyT_take 0 rfl (by kernel_rfl) (fun _ _ _ h => h) hS (yields_of rfl fun w' hS' => by have q := hS'.cell (i := 0) rfl; go_simp; rfl) ?_
    refine wpAnyT_take 1 rfl (by kernel_rfl) (fun _ _ _ h => h) hS (yields_of rfl fun w' hS' => by have q := hS'.cell (i := 0) rfl; go_simp; rfl) ?_
    refine wpAnyT_take 2 rfl (by kernel_rfl) (fun _ _ _ h => h) hS (yields_of rfl fun w' hS' => by have q := hS'.cell (i := 0) rfl; go_simp; rfl) ?_
    refine wpAnyT_take 3 rfl (by kernel_rfl) (fun _ _ _ h => h) hS (yields_of rfl fun w' hS' => by have q := hS'.cell (i := 0) rfl; go_simp; rfl) ?_
    refine wpAnyT_take 4 rfl (by kernel_rfl) (fun _ _ _ h => h) hS (yields_of rfl fun w' hS' => by have q := hS'.cell (i := 0) rfl; go_simp; rfl) ?_
    refine wpAnyT_take 5 rfl (by kernel_rfl) (fun _ _ _ h => h) hS (yields_of rfl fun w' hS' => by have q := hS'.cell (i := 0) rfl; go_simp; rfl) ?_
    refine wpAnyT_take 6 rfl (by kernel_rfl) (fun _ _ _ h => h) hS (yields_of rfl fun w' hS' => by have q := hS'.cell (i := 0) rfl; go_simp; rfl) ?_
    refine wpAnyT_take 7 rfl (by kernel_rfl) (fun _ _ _ h => h) hS (yields_of rfl fun w' hS' => by have q := hS'.cell (i := 0) rfl; go_simp; rfl) ?_
    refine wpAnyT_take 8 rfl (by kernel_rfl) (fun _ _ _ h => h) hS (yields_of rfl fun w' hS' => by have q := hS'.cell (i := 0) rfl; go_simp; rfl) ?_
    refine wpAnyT_take 9 rfl (by kernel_rfl) (fun _ _ _ h => h) hS (yields_of rfl fun w' hS' => by have q := hS'.cell (i := 0) rfl; go_simp; rfl) ?_
    refine wpAnyT_take 10 rfl (by kernel_rfl) (fun _ _ _ h => h) hS (yields_of rfl fun w' hS' => by have q := hS'.cell (i := 0) rfl; go_simp; rfl) ?_
    refine wpAnyT_only 11 (by kernel_rfl) (wpOp_of rfl rfl (wp_value (by go_simp; exact ⟨rfl, rfl⟩) (andS (ho2.al _).dr fun hS1 => ?_)))
    refine wpAnyT_take 12 rfl (by kernel_rfl) (fun _ _ _ h => h) hS1 (yields_of rfl fun w' hS' => by have q := hS'.cell (i := 0) rfl; go_simp; rfl) ?_
    refine wpAnyT_only 13 (by kernel_rfl) (wpOp_of rfl rfl (wp_value (by go_simp; exact ⟨rfl, rfl⟩) (andS ((ho2.al _).al _).dr fun hS2 => ?_)))
    go_simp
    have hO2 := ((hO.al #[Value.int IntKind.u8 s[k].toNat, Value.int IntKind.u8 s[k].toNat, Value.int IntKind.i64 (k + 1)] 51).al #[Value.bool false, Value.slice (some ⟨wr.heap.size, 0, none⟩) 1 1] 48).dr
    rw [show (wr.alloc (.cells #[Value.int IntKind.u8 s[k].toNat, Value.int IntKind.u8 s[k].toNat, Value.int IntKind.i64 (k + 1)] 51)).heap.size = wr.heap.size + 1 by simp] at hO2
    have hO3 := hO2.tail.sealObj
    have hed := oneEdge (mk := mk) (lo := s[k].toNat) (hi := s[k].toNat) (to := (k : Int) + 1) hO2.tail.obj ⟨s[k].toNat_lt, s[k].toNat_lt, by show _ ≤ (k : Int) + 1; omega, by show (k : Int) + 1 ≤ _; omega⟩
    have hf := hO2.tail.objFree
    refine wpAnyT_only 14 (by kernel_rfl) (wpOp_of rfl rfl (wp_append_row tyStates (.tmp 11) (.tmp 23) rfl v k xs rfl hO3.swap.row ⟨wr.heap.size + 1, 0, none⟩ 1 1 [.bool false, .slice (some ⟨wr.heap.size, 0, none⟩) 1 1] rfl rfl (hO2.obj.news rfl) (by simp [Value.oneCell']) (by unfold maxLen; omega) (by omega) (fun va vc w3 hown3 hgrow hrow3 => ?_)))
    have hO4 := hO3.swap.app hown3 hgrow hrow3 (Nat.le_refl _)
    refine andS hO4.swap.obj fun hS3 => ?_
    have f3 := hS3.frozen 0
    have c3 := hS3.cell (i := 0) rfl
    refine wpAnyT_take 15 rfl (by kernel_rfl) (fun _ _ _ h => h) hS3 (yields_of rfl fun w' hS' => by have q := hS'.cell (i := 0) rfl; go_simp; rfl) ?_
    refine wpAnyT_only 16 (by kernel_rfl) (wpOp_of rfl rfl (wp_skipped (by go_simp; rfl) (andLast rfl ?_)))
    refine wpAnyT_done (by kernel_rfl) ?_ _
    have hO5 := hO4.swap.set 0 (.slice va (k + 1) vc)
    have hrow5 := (hrow.mono (Mem.le_add hf)).push (s := ⟨false, [⟨s[k].toNat, s[k].toNat, (k + 1 : Nat)⟩]⟩) hed
    have Hfin := Lib.hid (And.intro hO5 hrow5)
    clear hO5 hrow5 hO4 hO3 hO2 hO hed hf hown3 hgrow hrow3 hS hS1 hS2 hS3 f3 c3 ho2 c1 f1
    go_wp2
    refine hX.out _ _ _ (by omega) rfl ⟨k + 1, _, _, _, by omega, rfl, rfl, Hfin.out.1, ?_⟩
    have hg := Hfin.out.2
    rw [wordT_succ]
    have e : s.data.toList.getD k 0 = s[k] := by
      rw [List.getD_eq_getElem?_getD]
      have : s.data.toList[k]? = some s[k] := by
        rw [List.getElem?_eq_getElem (by simpa using hlt)]; rfl
      rw [this]; rfl
    rw [e]
    exact hg
  · obtain rfl : k = s.size := by omega
    have hO1 := hO.al #[Value.bool true, Value.slice none 0 0] 48
    go_wp2_with (at_builtin; refine wpList_append_row tyStates rfl (.tmp 28) (.tmp 30) rfl v s.size xs rfl (hO1.third).row ⟨wr.heap.size, 0, none⟩ 1 1 [.bool true, .slice none 0 0] rfl rfl (hO1.obj.news rfl) (by simp [Value.oneCell']) (by unfold maxLen; omega) (by omega) ?_)
    intro va vc w3 hown3 hgrow hrow3
    have hO2 := hO1.third.app hown3 hgrow hrow3 (by simp)
    have hS3 := hO2.third.obj
    have f3 := hS3.frozen 0
    have c3 := hS3.cell (i := 0) rfl
    have l3 := hS3.lt
    have g3 := hO2.fourth.obj.cell (i := 0) rfl
    have g4 := hO2.fourth.obj.frozen 0
    have g5 := hO2.fourth.obj.lt
    have hO4 := (hO2.third.set 0 (.slice va (s.size + 1) vc)).fourth.set 0 (.slice va (s.size + 1) vc)
    have hrow4 := hrow.push (s := (⟨true, []⟩ : Sn)) (noEdges mk)
    have hO5 := hO4.third.sealRow
    have hln : (wordT s.data.toList s.size ++ [(⟨true, []⟩ : Sn)]).length = s.size + 1 := by simp [wordT_length]
    have hst := statesAt_of_row (l := wordT s.data.toList s.size ++ [(⟨true, []⟩ : Sn)]) (by rw [hln]; exact hO4.third.row) hrow4 hO4.third.free
    have hfin := statesAt_le hO5.done hst
    have Hfin := Lib.hid (And.intro hO5.below hfin)
    clear hO5 hst hfin hO4 hrow4 hown3 hgrow hrow3 hO2 hO1 hO
    go_wp2
    refine bodyPost_ret (v := .agg #[.slice va (s.size + 1) vc]) (by simp [results, Tryd.results55, go_sem, g3]) rfl ?_
    exact hR.out _ _ ⟨_, rfl, Hfin.out.1, Hfin.out.2⟩
end Cl
namespace Cl
open Go

section
variable {P : Program} {ops : Array Oper} {Q : Exit → Act → World → Prop} {D : Nat → World → Prop}

def wpAnyD (P : Program) (ops : Array Oper) (Q : Exit → Act → World → Prop) (D : Nat → World → Prop) : Nat → Array Bool → Act → World → Prop
  | 0, listed, a, w => Region.ready .any ops listed = [] ∧ Q .normal a w
  | fuel + 1, listed, a, w =>
    (Region.ready .any ops listed = [] → Q .normal a w) ∧
    ∀ i ∈ Region.ready .any ops listed, wpOp P ops Q i (fun a' w' => (w' = w ∨ D i w') ∧ wpAnyD P ops Q D fuel (listed.setIfInBounds i true) a' w') a w

theorem wpAny_of_D : ∀ (fuel : Nat) (listed : Array Bool) (a : Act) (w : World), wpAnyD P ops Q D fuel listed a w → wpAny P .any ops Q fuel listed a w
  | 0, _, _, _, h => h
  | fuel + 1, _, _, _, h => ⟨h.1, fun i hi => wpOp_mono (fun a' w' h' => wpAny_of_D fuel _ a' w' h'.2) (h.2 i hi)⟩

theorem not_ready_D {listed : Array Bool} {i j : Nat} (hr : i ∈ Region.ready .any ops listed) (hj : j ∈ Region.ready .any ops listed) : waits ops j i = false := by
  cases h : waits ops j i with
  | false => rfl
  | true => exact absurd hj (not_ready_last h hr)

theorem wpAnyD_first {i : Nat} {oi : Oper} {v : Value} (hi : ops[i]? = some oi) (hsel : ∀ (j : Nat) (o : Oper) cs b, ops[j]? = some o → o.op ≠ .select cs b)
    (hQ : ∀ c a w, Q (.panic c) (a.put oi.dst v) w → Q (.panic c) a w) {S : World → Prop} (hlast : ∀ j w', waits ops j i = false → D j w' → S w') :
    ∀ (fuel : Nat) (listed : Array Bool) (a : Act) (w : World),
      (∀ j oj, ops[j]? = some oj → j ≠ i → listed.getD j true = false → (∀ e ∈ oj.after, Region.binds .any e = true → e.on ≠ i) → oi.apart ops oj = true) →
      i ∈ Region.ready .any ops listed → YieldsIf P ops S oi v a → S w →
      wpAnyD P ops Q D fuel (listed.setIfInBounds i true) (a.put oi.dst v) w → wpAnyD P ops Q D (fuel + 1) listed a w := by
  intro fuel
  induction fuel with
  | zero =>
    intro listed a w _ hr hy hS H
    refine ⟨fun h => (by rw [h] at hr; cases hr), fun j hj => ?_⟩
    by_cases hji : j = i
    · subst hji; exact hy.wpOp hi hS ⟨.inl rfl, H⟩
    · have := ready_mono hj hji
      rw [H.1] at this
      cases this
  | succ fuel ih =>
    intro listed a w hfree hr hy hS H
    refine ⟨fun h => (by rw [h] at hr; cases hr), fun j hj => ?_⟩
    by_cases hji : j = i
    · subst hji; exact hy.wpOp hi hS ⟨.inl rfl, H⟩
    · have h1 := H.2 j (ready_mono hj hji)
      have hjl := fun w' => hlast j w' (not_ready_D hr hj)
      obtain ⟨hjun, oj, hoj, hall⟩ := mem_ready.1 hj
      have hnot : ∀ e ∈ oj.after, Region.binds .any e = true → e.on ≠ i := fun e he hb heq => by
        have h1 := hall e he hb
        have h0 := (mem_ready.1 hr).1
        rw [heq] at h1
        rcases Nat.lt_or_ge i listed.size with h' | h'
        · simp [h'] at h0 h1; rw [h0] at h1; cases h1
        · simp [Array.getElem?_eq_none h'] at h1
      have h2 := wpOp_putIf hoj (hfree j oj hoj hji hjun hnot) (fun cs b => hsel i oi cs b hi) (fun cs b => hsel j oj cs b hoj) hQ hy h1
      have hfree' : ∀ k ok, ops[k]? = some ok → k ≠ i → (listed.setIfInBounds j true).getD k true = false →
          (∀ e ∈ ok.after, Region.binds .any e = true → e.on ≠ i) → oi.apart ops ok = true := fun k ok hk hki hun hno => by
        refine hfree k ok hk hki ?_ hno
        by_cases hjk : j = k
        · subst hjk; exact hjun
        · rw [getD_set_ne true hjk] at hun; exact hun
      refine wpOp_mono (fun a' w' h3 => ⟨h3.2.1, ih (listed.setIfInBounds j true) a' w' hfree' (ready_mono hr (Ne.symm hji)) h3.1 (h3.2.1.elim (fun e => by rw [e]; exact hS) (hjl w')) ?_⟩) h2
      rw [Array.setIfInBounds_comm _ _ hji]
      exact h3.2.2

theorem waits_no {j i : Nat} (h : waits ops j i = true) (k : waits ops j i = false) : False := by rw [h] at k; cases k
/-- Take number 'i' first. -/
theorem wpAnyD_take (i : Nat) (S : World → Prop) {oi : Oper} {v : Value} {fuel : Nat} {listed : Array Bool} {a : Act} {w : World} (hi : ops[i]? = some oi)
    (hs : (Region.noSelect ops && Region.free .any ops listed i && (Region.ready .any ops listed).contains i) = true)
    (hQ : ∀ c a w, Q (.panic c) (a.put oi.dst v) w → Q (.panic c) a w) (hlast : ∀ j w', waits ops j i = false → D j w' → S w') (hS : S w) (hy : YieldsIf P ops S oi v a)
    (h : wpAnyD P ops Q D fuel (listed.setIfInBounds i true) (a.put oi.dst v) w) : wpAnyD P ops Q D (fuel + 1) listed a w := by
  simp only [Bool.and_eq_true] at hs
  obtain ⟨⟨h1, h2⟩, h3⟩ := hs
  exact wpAnyD_first hi (Region.noSelect_spec h1) hQ hlast fuel listed a w (Region.free_spec hi h2) (by simpa using h3) hy hS h
/-- Only number i may come up. -/
theorem wpAnyD_only (i : Nat) {fuel : Nat} {listed : Array Bool} {a : Act} {w : World} (hr : (Region.ready .any ops listed == [i]) = true)
    (h : wpOp P ops Q i (fun a' w' => (w' = w ∨ D i w') ∧ wpAnyD P ops Q D fuel (listed.setIfInBounds i true) a' w') a w) : wpAnyD P ops Q D (fuel + 1) listed a w := by
  have hr' : Region.ready .any ops listed = [i] := by simpa using hr
  exact ⟨fun h0 => (by rw [hr'] at h0; cases h0), fun j hj => (by rw [hr'] at hj; obtain rfl := List.mem_singleton.1 hj; exact h)⟩
theorem wpAnyD_two (i j : Nat) {fuel : Nat} {listed : Array Bool} {a : Act} {w : World} (hr : (Region.ready .any ops listed == [i, j]) = true)
    (h : wpOp P ops Q i (fun a' w' => (w' = w ∨ D i w') ∧ wpAnyD P ops Q D fuel (listed.setIfInBounds i true) a' w') a w)
    (h' : wpOp P ops Q j (fun a' w' => (w' = w ∨ D j w') ∧ wpAnyD P ops Q D fuel (listed.setIfInBounds j true) a' w') a w) : wpAnyD P ops Q D (fuel + 1) listed a w := by
  have hr' : Region.ready .any ops listed = [i, j] := by simpa using hr
  refine ⟨fun h0 => (by rw [hr'] at h0; cases h0), fun k hj => ?_⟩
  rw [hr'] at hj
  simp only [List.mem_cons, List.not_mem_nil, or_false] at hj
  rcases hj with rfl | rfl
  · exact h
  · exact h'
theorem wpAnyD_done {listed : Array Bool} {a : Act} {w : World} (hr : (Region.ready .any ops listed == []) = true) (h : Q .normal a w) : ∀ fuel, wpAnyD P ops Q D fuel listed a w := by
  have hr' : Region.ready .any ops listed = [] := by simpa using hr
  intro fuel
  cases fuel with
  | zero => exact ⟨hr', h⟩
  | succ n => exact ⟨fun _ => h, by rw [hr']; simp⟩
theorem wp_region_D {id : Nat} {a : Act} {w : World} (D : Nat → World → Prop) (hm : P.follows .mixedOrders = true)
    (h : wpAnyD P ops Q D ops.size (Array.replicate ops.size false) a w.drew) : (Code.region id ops true).wp P Q a w :=
  wp_region_any hm (wpAny_of_D _ _ _ _ h)

/-- where the same is known all the way -/
theorem wpAnyS_take (i : Nat) {S : World → Prop} {oi : Oper} {v : Value} {fuel : Nat} {listed : Array Bool} {a : Act} {w : World} (hi : ops[i]? = some oi)
    (hs : (Region.noSelect ops && Region.free .any ops listed i && (Region.ready .any ops listed).contains i) = true)
    (hQ : ∀ c a w, Q (.panic c) (a.put oi.dst v) w → Q (.panic c) a w) (hS : S w) (hy : YieldsIf P ops S oi v a)
    (h : wpAnyD P ops Q (fun _ w => S w) fuel (listed.setIfInBounds i true) (a.put oi.dst v) w) : wpAnyD P ops Q (fun _ w => S w) (fuel + 1) listed a w :=
  wpAnyD_take i S hi hs hQ (fun _ _ _ h => h) hS hy h
end
end Cl
namespace Cl
open Go Go.RowKit Go.Proofs

theorem estep_drop (es : List Ed) (b k : Nat) (h : k < es.length) : estep (es.drop k) b = if (es[k]).lo ≤ b ∧ b ≤ (es[k]).hi then (es[k]).to else estep (es.drop (k + 1)) b := by
  rw [List.drop_eq_getElem_cons h]; rfl

set_option maxHeartbeats 1000000 in
theorem Wellformed_any (v : Value) (l : Table) (m : Mem) (w : World) (hm : m.inn w) (hl : statesAt m v l) :
    Calls Tryd.prog 49 #[v] w fun e w' => e = .returned (.bool (tf (WF l))) ∧ Below w.heap.size w w' := by
  obtain ⟨a, c, rfl, h1, h2, h3⟩ := hl
  unfold maxLen at h2
  refine calls_hide fun R hR => ?_
  go_enter Tryd.func49, Tryd.ntmps49
  go_wp2
  refine wp_loop_keep [0, 7, 8, 9] (fun n vs wr => ∃ k : Nat, k ≤ l.length ∧ n = l.length - k ∧ vs = [.slice a l.length c, .slice a l.length c, .int .i64 l.length, .int .i64 k] ∧ (WF l ↔ ∀ s ∈ l.drop k, wfEdges l.length (-1) s.edges) ∧ Below w.heap.size w wr) ?_ ?_
  · exact ⟨_, 0, Nat.zero_le _, rfl, rfl, Iff.rfl, Below.refl _ _⟩
  rintro X z n vs wr hX - ⟨k, hk, rfl, rfl, hrel, hbel⟩
  simp [litL, lk]
  have hmr := Mem.inn_below hm hbel
  by_cases hlt : k < l.length
  · obtain ⟨b, off, rfl, h4⟩ := h3 (by intro h; simp [h] at hlt)
    obtain ⟨h5, ve, h6, a', c', rfl, h7, h8, h9⟩ := h4 k hlt
    have hb := Mem.cell_lt hmr h6
    have c1 := Mem.cell_w hmr h5
    have c2 := Mem.cell_w hmr h6
    have Hs := Lib.hid (wf_step (n := l.length) hlt)
    generalize l[k] = s at *
    unfold maxLen at h8
    clear h4 h3
    go_wp2
    refine wp_loop_keep [0, 4, 7, 8, 9, 14, 15, 16] (fun n vs w2 => ∃ j : Nat, j ≤ s.edges.length ∧ n = s.edges.length - j ∧ vs = [.slice (some ⟨b, off, none⟩) l.length c, .pointer (some ⟨wr.heap.size, 0, none⟩), .slice (some ⟨b, off, none⟩) l.length c, .int .i64 l.length, .int .i64 k, .slice a' s.edges.length c', .int .i64 s.edges.length, .int .i64 j] ∧ (wfEdges l.length (-1) s.edges ↔ wfEdges l.length (prevHi s.edges j) (s.edges.drop j)) ∧ w2.cell? ⟨wr.heap.size, 1, none⟩ = some (.slice a' s.edges.length c') ∧ wr.heap.size < w2.heap.size ∧ Below w.heap.size w w2) ?_ ?_
    · exact ⟨_, 0, Nat.zero_le _, rfl, rfl, Iff.rfl, by simp, by simp, below_al hbel _⟩
    rintro Y z2 n vs w2 hY - ⟨j, hj, rfl, rfl, hrel2, hc2, hsz, hbel2⟩
    simp [litL, lk]
    have hmr2 := Mem.inn_below hm hbel2
    by_cases hlt2 : j < s.edges.length
    · obtain ⟨b', off', rfl, h10⟩ := h9 (by intro h; simp [h] at hlt2)
      obtain ⟨g1, g2, g3, g4, g5, g6, g7⟩ := h10 j hlt2
      have hb1 := Mem.cell_lt hmr2 g1
      have d1 := Mem.cell_w hmr2 g1
      have d2 := Mem.cell_w hmr2 g2
      have d3 := Mem.cell_w hmr2 g3
      have Hw := Lib.hid (wfEdges_step (n := l.length) hlt2)
      have hprev : 0 < j → w2.cell? ⟨b', off' + (j - 1) * 3 + 1, none⟩ = some (.int .u8 (s.edges[j - 1]).hi) ∧ prevHi s.edges j = (s.edges[j - 1]).hi := by
        intro hj0
        refine ⟨Mem.cell_w hmr2 (h10 (j - 1) (by omega)).2.1, ?_⟩
        simp [prevHi, show 0 < j ∧ j ≤ s.edges.length from ⟨hj0, by omega⟩]
      go_wp2
      refine wp_region_quiet_lit (by kernel_rfl) (by kernel_rfl) ?_
      repeat (any_goals (first | go_big_quiet_step (fail) | quiet_step (fail) | (refine wpQuiet_step (fun K hK => ?_); go_simp; split <;> (refine hK _ ?_; clear hK K))))
      all_goals (refine wpQuiet_nil ?_; intro _ hw'; obtain ⟨nq, hw''⟩ := hw'; subst hw'')
      all_goals go_wp2
      all_goals first
        | exact hR.out _ _ ⟨ret_bool (by
            rw [tf_false]
            intro hwf
            obtain ⟨q1, q2, q3, q4, -⟩ := Hw.out.1 (hrel2.1 (Hs.out.1 (hrel.1 hwf)).1)
            first
              | omega
              | (have := (hprev (by assumption)).2; omega)), below_drewN (below_al hbel2 _) _⟩
        | exact hY.out _ _ _ (by omega) rfl ⟨j + 1, by omega, rfl, rfl, hrel2.trans (Hw.out.trans ⟨fun h => h.2.2.2.2, fun h => ⟨by omega, by omega, by omega, by
              first
                | (have := (hprev (by assumption)).2; omega)
                | (have := prevHi_zero s.edges j (by omega); omega), h⟩⟩),
            by rw [World.cell?_drewN, World.cell?_alloc_past _ _ _ hsz]; exact hc2, by simp; omega, below_drewN (below_al hbel2 _) _⟩
    · go_wp2
      refine hX.out _ _ _ (by omega) rfl ⟨k + 1, by omega, rfl, rfl, hrel.trans (Hs.out.trans ⟨fun h => h.2, fun h => ⟨hrel2.2 ?_, h⟩⟩), hbel2⟩
      rw [List.drop_eq_nil_of_le (by omega)]
      trivial
  · go_wp2
    refine hR.out _ _ ⟨ret_bool ?_, hbel⟩
    rw [tf_true (hrel.2 (by rw [List.drop_eq_nil_of_le (by omega)]; simp))]
set_option maxHeartbeats 1000000 in
theorem wellFormed_any (v : Value) (l : Table) (m : Mem) (w : World) (hm : m.inn w) (hl : statesAt m v l) :
    Calls Tryd.prog 82 #[v] w fun e w' => e = .returned (.bool (tf (WF l))) ∧ Below w.heap.size w w' := by
  obtain ⟨a, c, rfl, h1, h2, h3⟩ := hl
  unfold maxLen at h2
  refine calls_hide fun R hR => ?_
  go_enter Tryd.func82, Tryd.ntmps82
  go_wp2
  refine wp_loop_keep [0, 7, 8, 9] (fun n vs wr => ∃ k : Nat, k ≤ l.length ∧ n = l.length - k ∧ vs = [.slice a l.length c, .slice a l.length c, .int .i64 l.length, .int .i64 k] ∧ (WF l ↔ ∀ s ∈ l.drop k, wfEdges l.length (-1) s.edges) ∧ Below w.heap.size w wr) ?_ ?_
  · exact ⟨_, 0, Nat.zero_le _, rfl, rfl, Iff.rfl, Below.refl _ _⟩
  rintro X z n vs wr hX - ⟨k, hk, rfl, rfl, hrel, hbel⟩
  simp [litL, lk]
  have hmr := Mem.inn_below hm hbel
  by_cases hlt : k < l.length
  · obtain ⟨b, off, rfl, h4⟩ := h3 (by intro h; simp [h] at hlt)
    obtain ⟨h5, ve, h6, a', c', rfl, h7, h8, h9⟩ := h4 k hlt
    have hb := Mem.cell_lt hmr h6
    have c1 := Mem.cell_w hmr h5
    have c2 := Mem.cell_w hmr h6
    have Hs := Lib.hid (wf_step (n := l.length) hlt)
    generalize l[k] = s at *
    unfold maxLen at h8
    clear h4 h3
    go_wp2
    refine wp_loop_keep [0, 4, 7, 8, 9, 14, 15, 16] (fun n vs w2 => ∃ j : Nat, j ≤ s.edges.length ∧ n = s.edges.length - j ∧ vs = [.slice (some ⟨b, off, none⟩) l.length c, .pointer (some ⟨wr.heap.size, 0, none⟩), .slice (some ⟨b, off, none⟩) l.length c, .int .i64 l.length, .int .i64 k, .slice a' s.edges.length c', .int .i64 s.edges.length, .int .i64 j] ∧ (wfEdges l.length (-1) s.edges ↔ wfEdges l.length (prevHi s.edges j) (s.edges.drop j)) ∧ w2.cell? ⟨wr.heap.size, 1, none⟩ = some (.slice a' s.edges.length c') ∧ wr.heap.size < w2.heap.size ∧ Below w.heap.size w w2) ?_ ?_
    · exact ⟨_, 0, Nat.zero_le _, rfl, rfl, Iff.rfl, by simp, by simp, below_al hbel _⟩
    rintro Y z2 n vs w2 hY - ⟨j, hj, rfl, rfl, hrel2, hc2, hsz, hbel2⟩
    simp [litL, lk]
    have hmr2 := Mem.inn_below hm hbel2
    by_cases hlt2 : j < s.edges.length
    · obtain ⟨b', off', rfl, h10⟩ := h9 (by intro h; simp [h] at hlt2)
      obtain ⟨g1, g2, g3, g4, g5, g6, g7⟩ := h10 j hlt2
      have hb1 := Mem.cell_lt hmr2 g1
      have d1 := Mem.cell_w hmr2 g1
      have d2 := Mem.cell_w hmr2 g2
      have d3 := Mem.cell_w hmr2 g3
      have Hw := Lib.hid (wfEdges_step (n := l.length) hlt2)
      have hprev : 0 < j → w2.cell? ⟨b', off' + (j - 1) * 3 + 1, none⟩ = some (.int .u8 (s.edges[j - 1]).hi) ∧ prevHi s.edges j = (s.edges[j - 1]).hi := by
        intro hj0
        refine ⟨Mem.cell_w hmr2 (h10 (j - 1) (by omega)).2.1, ?_⟩
        simp [prevHi, show 0 < j ∧ j ≤ s.edges.length from ⟨hj0, by omega⟩]
      go_wp2
      refine wp_region_quiet_lit (by kernel_rfl) (by kernel_rfl) ?_
      repeat (any_goals (first | go_big_quiet_step (fail) | quiet_step (fail) | (refine wpQuiet_step (fun K hK => ?_); go_simp; split <;> (refine hK _ ?_; clear hK K))))
      all_goals (refine wpQuiet_nil ?_; intro _ hw'; obtain ⟨nq, hw''⟩ := hw'; subst hw'')
      all_goals go_wp2
      all_goals first
        | exact hR.out _ _ ⟨ret_bool (by
            rw [tf_false]
            intro hwf
            obtain ⟨q1, q2, q3, q4, -⟩ := Hw.out.1 (hrel2.1 (Hs.out.1 (hrel.1 hwf)).1)
            first
              | omega
              | (have := (hprev (by assumption)).2; omega)), below_drewN (below_al hbel2 _) _⟩
        | exact hY.out _ _ _ (by omega) rfl ⟨j + 1, by omega, rfl, rfl, hrel2.trans (Hw.out.trans ⟨fun h => h.2.2.2.2, fun h => ⟨by omega, by omega, by omega, by
              first
                | (have := (hprev (by assumption)).2; omega)
                | (have := prevHi_zero s.edges j (by omega); omega), h⟩⟩),
            by rw [World.cell?_drewN, World.cell?_alloc_past _ _ _ hsz]; exact hc2, by simp; omega, below_drewN (below_al hbel2 _) _⟩
    · go_wp2
      refine hX.out _ _ _ (by omega) rfl ⟨k + 1, by omega, rfl, rfl, hrel.trans (Hs.out.trans ⟨fun h => h.2, fun h => ⟨hrel2.2 ?_, h⟩⟩), hbel2⟩
      rw [List.drop_eq_nil_of_le (by omega)]
      trivial
  · go_wp2
    refine hR.out _ _ ⟨ret_bool ?_, hbel⟩
    rw [tf_true (hrel.2 (by rw [List.drop_eq_nil_of_le (by omega)]; simp))]

theorem tstep_at (l : Table) (n : Nat) (x : Nat) (h : n < l.length) : tstep l (n : Int) x = estep (l[n]).edges x := tstep_nat l n x h

set_option maxHeartbeats 400000 in
theorem step_in (v : Value) (l : Table) (s x : Nat) (m : Mem) (w : World) (hm : m.inn w) (hl : statesAt m v l) (hs : s < l.length) :
    Calls Tryd.prog 60 #[.agg #[v], .int .i64 s, .int .u8 x] w fun e w' => e = .returned (.int .i64 (estep (l[s]).edges x)) ∧ Below w.heap.size w w' := by
  obtain ⟨a, c, rfl, h1, h2, h3⟩ := hl
  obtain ⟨b, off, rfl, h4⟩ := h3 (by intro h; simp [h] at hs)
  obtain ⟨-, ve, h6, a', c', rfl, h7, h8, h9⟩ := h4 s hs
  have hb := Mem.cell_lt hm h6
  have hc := Mem.cell_w hm h6
  generalize l[s].edges = es at *
  clear h4 h3
  unfold maxLen at h2 h8
  refine calls_hide fun R hR => ?_
  go_enter Tryd.func60, Tryd.ntmps60
  go_wp2
  refine wp_loop_keep [2, 23, 24, 25] (fun n vs wr => ∃ k : Nat, k ≤ es.length ∧ n = es.length - k ∧ vs = [.int .u8 x, .slice a' es.length c', .int .i64 es.length, .int .i64 k] ∧ estep es x = estep (es.drop k) x ∧ Below w.heap.size w wr) ?_ ?_
  · exact ⟨_, 0, Nat.zero_le _, rfl, rfl, rfl, below_al (Below.refl _ _) _⟩
  rintro X z n vs wr hX - ⟨k, hk, rfl, rfl, hrel, hbel⟩
  simp [litL, lk]
  have hmr := Mem.inn_below hm hbel
  by_cases hlt : k < es.length
  · obtain ⟨b', off', rfl, h10⟩ := h9 (by intro h; simp [h] at hlt)
    obtain ⟨g1, g2, g3, g4, g5, g6, g7⟩ := h10 k hlt
    have hb1 := Mem.cell_lt hmr g1
    have c1 := Mem.cell_w hmr g1
    have c2 := Mem.cell_w hmr g2
    have c3 := Mem.cell_w hmr g3
    have HD := Lib.hid (estep_drop es x k hlt)
    go_wp2
    · exact hR.out _ _ ⟨ret_int (by rw [hrel, HD.out, if_pos ⟨by assumption, by assumption⟩]), below_al hbel _⟩
    · exact hX.out _ _ _ (by omega) rfl ⟨k + 1, by omega, rfl, rfl, by rw [hrel, HD.out, if_neg (by omega)], below_al hbel _⟩
    · exact hX.out _ _ _ (by omega) rfl ⟨k + 1, by omega, rfl, rfl, by rw [hrel, HD.out, if_neg (by omega)], below_al hbel _⟩
  · go_wp2
    exact hR.out _ _ ⟨ret_int (by rw [hrel, List.drop_eq_nil_of_le (by omega)]; rfl), hbel⟩

set_option maxHeartbeats 400000 in
theorem step_any (v : Value) (l : Table) (s : Int) (x : Nat) (m : Mem) (w : World) (hm : m.inn w) (hl : statesAt m v l) (hs1 : -9223372036854775808 ≤ s) (hs2 : s ≤ 9223372036854775807) :
    Calls Tryd.prog 60 #[.agg #[v], .int .i64 s, .int .u8 x] w fun e w' => e = .returned (.int .i64 (tstep l s x)) ∧ Below w.heap.size w w' := by
  by_cases h0 : s < 0
  · rw [tstep_neg h0]
    refine calls_hide fun R hR => ?_
    go_enter Tryd.func60, Tryd.ntmps60
    go_wp2
    exact hR.out _ _ ⟨rfl, below_al (Below.refl _ _) _⟩
  · obtain ⟨n, rfl⟩ := Int.eq_ofNat_of_zero_le (by omega : 0 ≤ s)
    by_cases h1 : n < l.length
    · rw [tstep_nat l n x h1]
      exact step_in v l n x m w hm hl h1
    · rw [tstep_out l n x (by omega)]
      obtain ⟨a, c, rfl, h1, h2, h3⟩ := hl
      unfold maxLen at h2
      refine calls_hide fun R hR => ?_
      go_enter Tryd.func60, Tryd.ntmps60
      go_wp2
      exact hR.out _ _ ⟨rfl, below_al (Below.refl _ _) _⟩

set_option maxHeartbeats 400000 in
theorem Step_any (v : Value) (l : Table) (s : Int) (x : Nat) (m : Mem) (w : World) (hm : m.inn w) (hl : statesAt m v l) (hs1 : -9223372036854775808 ≤ s) (hs2 : s < l.length) :
    Calls Tryd.prog 50 #[v, .int .i64 s, .int .u8 x] w fun e w' => e = .returned (.int .i64 (tstep l s x)) ∧ Below w.heap.size w w' := by
  by_cases h0 : s < 0
  · rw [tstep_neg h0]
    refine calls_hide fun R hR => ?_
    go_enter Tryd.func50, Tryd.ntmps50
    go_wp2
    exact hR.out _ _ ⟨rfl, Below.refl _ _⟩
  obtain ⟨s, rfl⟩ := Int.eq_ofNat_of_zero_le (by omega : 0 ≤ s)
  have hs : s < l.length := by omega
  rw [tstep_nat l s x hs]
  obtain ⟨a, c, rfl, h1, h2, h3⟩ := hl
  obtain ⟨b, off, rfl, h4⟩ := h3 (by intro h; simp [h] at hs)
  obtain ⟨-, ve, h6, a', c', rfl, h7, h8, h9⟩ := h4 s hs
  have hb := Mem.cell_lt hm h6
  have hc := Mem.cell_w hm h6
  generalize l[s].edges = es at *
  clear h4 h3
  unfold maxLen at h2 h8
  refine calls_hide fun R hR => ?_
  go_enter Tryd.func50, Tryd.ntmps50
  go_wp2
  refine wp_loop_keep [2, 15, 16, 17] (fun n vs wr => ∃ k : Nat, k ≤ es.length ∧ n = es.length - k ∧ vs = [.int .u8 x, .slice a' es.length c', .int .i64 es.length, .int .i64 k] ∧ estep es x = estep (es.drop k) x ∧ Below w.heap.size w wr) ?_ ?_
  · exact ⟨_, 0, Nat.zero_le _, rfl, rfl, rfl, Below.refl _ _⟩
  rintro X z n vs wr hX - ⟨k, hk, rfl, rfl, hrel, hbel⟩
  simp [litL, lk]
  have hmr := Mem.inn_below hm hbel
  by_cases hlt : k < es.length
  · obtain ⟨b', off', rfl, h10⟩ := h9 (by intro h; simp [h] at hlt)
    obtain ⟨g1, g2, g3, g4, g5, g6, g7⟩ := h10 k hlt
    have hb1 := Mem.cell_lt hmr g1
    have c1 := Mem.cell_w hmr g1
    have c2 := Mem.cell_w hmr g2
    have c3 := Mem.cell_w hmr g3
    have HD := Lib.hid (estep_drop es x k hlt)
    go_wp2
    · exact hR.out _ _ ⟨ret_int (by rw [hrel, HD.out, if_pos ⟨by assumption, by assumption⟩]), below_al hbel _⟩
    · exact hX.out _ _ _ (by omega) rfl ⟨k + 1, by omega, rfl, rfl, by rw [hrel, HD.out, if_neg (by omega)], below_al hbel _⟩
    · exact hX.out _ _ _ (by omega) rfl ⟨k + 1, by omega, rfl, rfl, by rw [hrel, HD.out, if_neg (by omega)], below_al hbel _⟩
  · go_wp2
    exact hR.out _ _ ⟨ret_int (by rw [hrel, List.drop_eq_nil_of_le (by omega)]; rfl), hbel⟩

set_option maxHeartbeats 400000 in
theorem next_any (v : Value) (l : Table) (s : Int) (x : Nat) (m : Mem) (w : World) (hm : m.inn w) (hl : statesAt m v l) (hs1 : -9223372036854775808 ≤ s) (hs2 : s < l.length) :
    Calls Tryd.prog 66 #[.agg #[v], .int .i64 s, .int .i64 x] w fun e w' => e = .returned (.int .i64 (tstep l s x)) ∧ Below w.heap.size w w' := by
  by_cases h0 : s < 0
  · rw [tstep_neg h0]
    refine calls_hide fun R hR => ?_
    go_enter Tryd.func66, Tryd.ntmps66
    go_wp2
    exact hR.out _ _ ⟨rfl, below_al (Below.refl _ _) _⟩
  obtain ⟨s, rfl⟩ := Int.eq_ofNat_of_zero_le (by omega : 0 ≤ s)
  have hs : s < l.length := by omega
  rw [tstep_nat l s x hs]
  obtain ⟨a, c, rfl, h1, h2, h3⟩ := hl
  obtain ⟨b, off, rfl, h4⟩ := h3 (by intro h; simp [h] at hs)
  obtain ⟨-, ve, h6, a', c', rfl, h7, h8, h9⟩ := h4 s hs
  have hb := Mem.cell_lt hm h6
  generalize l[s].edges = es at *
  clear h4 h3
  unfold maxLen at h2 h8
  refine calls_hide fun R hR => ?_
  go_enter Tryd.func66, Tryd.ntmps66
  go_wp2
  have hbel0 : Below w.heap.size w (w.alloc (Obj.cells #[.slice (some ⟨b, off, none⟩) l.length c] 24)) := below_al (Below.refl _ _) _
  have hm1 := Mem.inn_below hm hbel0
  have d1 : (w.alloc (Obj.cells #[.slice (some ⟨b, off, none⟩) l.length c] 24)).cell? ⟨w.heap.size, 0, none⟩ = some (.slice (some ⟨b, off, none⟩) l.length c) := by simp
  have d2 : w.heap.size < (w.alloc (Obj.cells #[.slice (some ⟨b, off, none⟩) l.length c] 24)).heap.size := by simp
  generalize hw1 : w.alloc (Obj.cells #[.slice (some ⟨b, off, none⟩) l.length c] 24) = w1 at *
  clear hw1
  refine wp_loop_keep [1, 2, 3, 7] (fun n vs wr => ∃ k : Nat, k ≤ es.length ∧ n = es.length - k ∧ vs = [.int .i64 s, .int .i64 x, .pointer (some ⟨w.heap.size, 0, none⟩), .int .i64 k] ∧ estep es x = estep (es.drop k) x ∧ Below w1.heap.size w1 wr) ?_ ?_
  · exact ⟨_, 0, Nat.zero_le _, rfl, rfl, rfl, Below.refl _ _⟩
  rintro X z n vs wr hX - ⟨k, hk, rfl, rfl, hrel, hbel⟩
  simp [litL, lk]
  have hmr := Mem.inn_below hm1 hbel
  have hc := Mem.cell_w hmr h6
  have hbr := Mem.cell_lt hmr h6
  have d3 := (hbel.cell (p := ⟨w.heap.size, 0, none⟩) d2).trans d1
  have d4 : w.heap.size < wr.heap.size := Nat.lt_of_lt_of_le d2 hbel.size
  by_cases hlt : k < es.length
  · obtain ⟨b', off', rfl, h10⟩ := h9 (by intro h; simp [h] at hlt)
    obtain ⟨g1, g2, g3, g4, g5, g6, g7⟩ := h10 k hlt
    have hb1 := Mem.cell_lt hmr g1
    have c1 := Mem.cell_w hmr g1
    have c2 := Mem.cell_w hmr g2
    have c3 := Mem.cell_w hmr g3
    have HD := Lib.hid (estep_drop es x k hlt)
    go_wp2
    · exact hR.out _ _ ⟨ret_int (by rw [hrel, HD.out, if_pos ⟨by assumption, by assumption⟩]), below_then hbel0 (below_al hbel _)⟩
    · exact hX.out _ _ _ (by omega) rfl ⟨k + 1, by omega, rfl, rfl, by rw [hrel, HD.out, if_neg (by omega)], below_al hbel _⟩
    · exact hX.out _ _ _ (by omega) rfl ⟨k + 1, by omega, rfl, rfl, by rw [hrel, HD.out, if_neg (by omega)], below_al hbel _⟩
  · go_wp2
    exact hR.out _ _ ⟨ret_int (by rw [hrel, List.drop_eq_nil_of_le (by omega)]; rfl), below_then hbel0 hbel⟩

set_option maxHeartbeats 400000 in
theorem lang_accepts_any (v : Value) (l : Table) (s : Int) (m : Mem) (w : World) (hm : m.inn w) (hl : statesAt m v l) (hs1 : -9223372036854775808 ≤ s) (hs2 : s < l.length) :
    Calls Tryd.prog 58 #[.agg #[v], .int .i64 s] w fun e w' => e = .returned (.bool (accAt l s)) ∧ Below w.heap.size w w' := by
  by_cases h0 : s < 0
  · have : accAt l s = false := by simp [accAt, h0]
    rw [this]
    refine calls_hide fun R hR => ?_
    go_enter Tryd.func58, Tryd.ntmps58
    go_wp2
    exact hR.out _ _ ⟨rfl, below_al (Below.refl _ _) _⟩
  obtain ⟨s, rfl⟩ := Int.eq_ofNat_of_zero_le (by omega : 0 ≤ s)
  have hs : s < l.length := by omega
  rw [accAt_nat l s hs]
  obtain ⟨a, c, rfl, h1, h2, h3⟩ := hl
  obtain ⟨b, off, rfl, h4⟩ := h3 (by intro h; simp [h] at hs)
  obtain ⟨h5, -⟩ := h4 s hs
  have hb := Mem.cell_lt hm h5
  have hc := Mem.cell_w hm h5
  clear h4 h3
  unfold maxLen at h2
  refine calls_hide fun R hR => ?_
  go_enter Tryd.func58, Tryd.ntmps58
  go_wp2
  exact hR.out _ _ ⟨rfl, below_al (Below.refl _ _) _⟩
set_option maxHeartbeats 400000 in
theorem r06_accepts_any (v : Value) (l : Table) (s : Int) (m : Mem) (w : World) (hm : m.inn w) (hl : statesAt m v l) (hs1 : -9223372036854775808 ≤ s) (hs2 : s < l.length) :
    Calls Tryd.prog 64 #[.agg #[v], .int .i64 s] w fun e w' => e = .returned (.bool (accAt l s)) ∧ Below w.heap.size w w' := by
  by_cases h0 : s < 0
  · have : accAt l s = false := by simp [accAt, h0]
    rw [this]
    refine calls_hide fun R hR => ?_
    go_enter Tryd.func64, Tryd.ntmps64
    go_wp2
    exact hR.out _ _ ⟨rfl, below_al (Below.refl _ _) _⟩
  obtain ⟨s, rfl⟩ := Int.eq_ofNat_of_zero_le (by omega : 0 ≤ s)
  have hs : s < l.length := by omega
  rw [accAt_nat l s hs]
  obtain ⟨a, c, rfl, h1, h2, h3⟩ := hl
  obtain ⟨b, off, rfl, h4⟩ := h3 (by intro h; simp [h] at hs)
  obtain ⟨h5, -⟩ := h4 s hs
  have hb := Mem.cell_lt hm h5
  have hc := Mem.cell_w hm h5
  clear h4 h3
  unfold maxLen at h2
  refine calls_hide fun R hR => ?_
  go_enter Tryd.func64, Tryd.ntmps64
  go_wp2
  exact hR.out _ _ ⟨rfl, below_al (Below.refl _ _) _⟩

theorem start_any (v : Value) (l : Table) (m : Mem) (w : World) (hl : statesAt m v l) :
    Calls Tryd.prog 62 #[.agg #[v]] w fun e w' => e = .returned (.int .i64 (if l.length = 0 then -1 else 0)) ∧ Below w.heap.size w w' := by
  obtain ⟨a, c, rfl, h1, h2, h3⟩ := hl
  unfold maxLen at h2
  refine calls_hide fun R hR => ?_
  go_enter Tryd.func62, Tryd.ntmps62
  go_wp2
  · exact hR.out _ _ ⟨ret_int (by rw [if_pos (by have := ‹((l.length : Int) == 0) = true›; simp at this; simp [this])]), below_al (Below.refl _ _) _⟩
  · exact hR.out _ _ ⟨ret_int (by rw [if_neg (by have := ‹((l.length : Int) == 0) = false›; simp at this; simp [this])]), below_al (Below.refl _ _) _⟩

theorem And1_any (x y : Bool) (w : World) :
    Calls Tryd.prog 36 #[.bool x, .bool y] w fun e w' => e = .returned (.bool (x && y)) ∧ Below w.heap.size w w' := by
  refine calls_hide fun R hR => ?_
  cases x <;> cases y
  all_goals
    go_enter Tryd.func36, Tryd.ntmps36
    go_wp2
    exact hR.out _ _ ⟨rfl, Below.refl _ _⟩
theorem Or1_any (x y : Bool) (w : World) :
    Calls Tryd.prog 40 #[.bool x, .bool y] w fun e w' => e = .returned (.bool (x || y)) ∧ Below w.heap.size w w' := by
  refine calls_hide fun R hR => ?_
  cases x <;> cases y
  all_goals
    go_enter Tryd.func40, Tryd.ntmps40
    go_wp2
    exact hR.out _ _ ⟨rfl, Below.refl _ _⟩
theorem Minus1_any (x y : Bool) (w : World) :
    Calls Tryd.prog 48 #[.bool x, .bool y] w fun e w' => e = .returned (.bool (x && !y)) ∧ Below w.heap.size w w' := by
  refine calls_hide fun R hR => ?_
  cases x <;> cases y
  all_goals
    go_enter Tryd.func48, Tryd.ntmps48
    go_wp2
    exact hR.out _ _ ⟨rfl, Below.refl _ _⟩
end Cl

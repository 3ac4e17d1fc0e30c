/- Lemmas for the proofs: WalkI, WalkJ, WalkL, WalkM, PlainH, PlainM, PlainN, PlainP, PlainF, Shelf, Build, MapK. -/
import Derived.Shelf.Strings.Builder1
import Derived.Shelf.Small.Wraps
import Derived.Shelf.LaysM
import Derived.Shelf.Strconv.Itoa3
import Derived.Test.YtaolacbikbllcaaDoorProg
import Derived.WalkKit
import Derived.Maps.OwnOps
import Derived.Maps.OwnSet
import Derived.Test.YtaolacbikbllcaaDoorPkA2
import Derived.Test.YtaolacbikbllcaaDoorPkA1
namespace Cl
open Go Go.RowKit Go.Proofs

/-- an array of marks -/
noncomputable def marr (P : Nat → Prop) (n : Nat) : Array Value := ((List.range n).map fun b => Value.bool (tf (P b))).toArray
theorem marr_get {P : Nat → Prop} {n i : Nat} (h : i < n) : (marr P n)[i]? = some (.bool (tf (P i))) := by simp [marr, h]
theorem marr_congr {P P' : Nat → Prop} {n : Nat} (h : ∀ b, b < n → (P b ↔ P' b)) : marr P n = marr P' n := by
  unfold marr
  congr 1
  apply List.map_congr_left
  intro b hb
  rw [tf_congr (h b (List.mem_range.1 hb))]
theorem marr_none {P : Nat → Prop} {n i : Nat} (h : ¬ i < n) : (marr P n)[i]? = none := by simp [marr]; omega
theorem marr_set (P : Nat → Prop) (n i : Nat) : (marr P n).setIfInBounds i (.bool true) = marr (fun b => P b ∨ b = i) n := by
  apply Array.ext_getElem?
  intro j
  rw [Array.getElem?_setIfInBounds]
  by_cases hj : j < n
  · by_cases hji : i = j
    · subst hji
      rw [if_pos rfl, if_pos (by simpa [marr] using hj), marr_get hj, tf_true (Or.inr rfl)]
    · rw [if_neg hji, marr_get hj, marr_get hj, tf_congr (show P j ↔ (P j ∨ j = i) from ⟨.inl, fun h => h.elim id (fun e => absurd e.symm hji)⟩)]
  · rw [marr_none hj, marr_none hj]
    by_cases hji : i = j
    · rw [if_pos hji, if_neg (by simp [marr]; omega)]
    · rw [if_neg hji]
theorem marr_false (n : Nat) : Array.replicate n (Value.bool false) = marr (fun _ => False) n := by
  apply Array.ext
  · simp [marr]
  · intro j h1 h2
    simp [marr, tf_false (p := False) id]

theorem zero257 : Tryd.zeroCells101 = Array.replicate 257 (Value.bool false) := by kernel_rfl

def edMark (e : Ed) (b : Nat) : Prop := e.lo = b ∨ e.hi + 1 = b
def cutP (l : Table) (b : Nat) : Prop := b = 0 ∨ ∃ s ∈ l, ∃ e ∈ s.edges, edMark e b
noncomputable def cutsTo (l : Table) (n : Nat) : List Int := ((List.range n).filter fun b => tf (cutP l b)).map Int.ofNat
theorem cutsTo_succ (l : Table) (n : Nat) : cutsTo l (n + 1) = cutsTo l n ++ if tf (cutP l n) then [(n : Int)] else [] := by
  unfold cutsTo
  rw [List.range_succ, List.filter_append, List.map_append]
  congr 1
  cases h : tf (cutP l n) <;> simp [h]
theorem cutsTo_range (l : Table) (n : Nat) : ∀ x ∈ cutsTo l n, 0 ≤ x ∧ x < n := by
  intro x hx
  simp only [cutsTo, List.mem_map, List.mem_filter, List.mem_range] at hx
  obtain ⟨b, ⟨h1, -⟩, rfl⟩ := hx
  simp; exact h1
theorem cutsTo_le (l : Table) (n : Nat) : (cutsTo l n).length ≤ n := by
  unfold cutsTo
  rw [List.length_map]
  exact Nat.le_trans (List.length_filter_le _ _) (by simp)
theorem edMark_take {es : List Ed} {j : Nat} (h : j < es.length) (b : Nat) : (∃ e ∈ es.take (j + 1), edMark e b) ↔ (∃ e ∈ es.take j, edMark e b) ∨ edMark es[j] b := by
  rw [List.take_succ_eq_append_getElem h]
  constructor
  · rintro ⟨e, he, hm⟩
    rcases List.mem_append.1 he with h1 | h1
    · exact .inl ⟨e, h1, hm⟩
    · rw [List.mem_singleton.1 h1] at hm; exact .inr hm
  · rintro (⟨e, he, hm⟩ | hm)
    · exact ⟨e, List.mem_append_left _ he, hm⟩
    · exact ⟨_, List.mem_append_right _ (List.mem_singleton.2 rfl), hm⟩
theorem cutP_take {l : Table} {k : Nat} (h : k < l.length) (b : Nat) : cutP (l.take (k + 1)) b ↔ cutP (l.take k) b ∨ ∃ e ∈ (l[k]).edges, edMark e b := by
  unfold cutP
  rw [List.take_succ_eq_append_getElem h]
  constructor
  · rintro (h0 | ⟨s, hs, hm⟩)
    · exact .inl (.inl h0)
    · rcases List.mem_append.1 hs with h1 | h1
      · exact .inl (.inr ⟨s, h1, hm⟩)
      · rw [List.mem_singleton.1 h1] at hm; exact .inr hm
  · rintro ((h0 | ⟨s, hs, hm⟩) | hm)
    · exact .inl h0
    · exact .inr ⟨s, List.mem_append_left _ hs, hm⟩
    · exact .inr ⟨_, List.mem_append_right _ (List.mem_singleton.2 rfl), hm⟩
theorem wfEdges_lohi {n : Nat} {p : Int} {es : List Ed} (h : wfEdges n p es) : ∀ e ∈ es, e.lo ≤ e.hi ∧ 0 ≤ e.to ∧ e.to < n := by
  induction es generalizing p with
  | nil => simp
  | cons e es ih =>
    obtain ⟨h1, h2, h3, -, h5⟩ := h
    intro x hx
    rcases List.mem_cons.1 hx with rfl | hx
    · exact ⟨h1, h2, h3⟩
    · exact ih h5 x hx
theorem tyInts : SliceTy Tryd.prog 83 3 1 8 := ⟨Tryd.underlying83, by omega, by
  obtain ⟨i, h1, h2, h3, h4⟩ := info_parts (P := Tryd.prog) (e := 3) (z := .int .i64 0) (size := 1) (bytes := 8) (by kernel_rfl)
  exact ⟨i, _, h1, h2, h3, h4, rfl⟩⟩

set_option maxRecDepth 100000 in
set_option maxHeartbeats 2000000 in
theorem cut_any (v0 : Value) (l : Table) (m : Mem) (w : World) (hm : m.inn w) (hl : statesAt m v0 l) (hwf : WF l) :
    Calls Tryd.prog 89 #[v0] w fun e w' => ∃ r, e = .returned r ∧ Below w.heap.size w w' ∧ intsAt (m.grow w w') r (cutsTo l 256) := by
  obtain ⟨a, c, rfl, h1, h2, h3⟩ := hl
  unfold maxLen at h2
  refine calls_hide fun R hR => ?_
  go_enter Tryd.func89, Tryd.ntmps89
  go_wp2
  refine wp_loop_keep [3, 11, 12, 13] (fun n vs wr => ∃ (k : Nat), k ≤ l.length ∧ n = l.length - k ∧ vs = [.pointer (some ⟨w.heap.size, 0, none⟩), .slice a l.length c, .int .i64 l.length, .int .i64 k] ∧
    Own w m wr m [.obj w.heap.size 101 (marr (cutP (l.take k)) 257)]) ?_ ?_
  · refine ⟨_, 0, Nat.zero_le _, rfl, rfl, ?_⟩
    have := (Own.start hm).al (Tryd.zeroCells101.setIfInBounds 0 (.bool true)) 101
    rw [zero257, marr_false, marr_set, marr_congr (P' := cutP (l.take 0)) (by intro b _; simp [cutP])] at this
    rw [zero257, marr_false, marr_set, marr_congr (P' := cutP (l.take 0)) (by intro b _; simp [cutP])]
    exact this
  rintro X z n vs wr hX - ⟨k, hk, rfl, rfl, hO⟩
  simp [litL, lk]
  by_cases hlt : k < l.length
  · obtain ⟨b, off, rfl, h4⟩ := h3 (by intro h; simp [h] at hlt)
    have hmr := hO.inn
    obtain ⟨g1, ve, g2, ea, ec, rfl, g4, g5, g6⟩ := h4 k hlt
    have hc1 := Mem.cell_w hmr g1
    have hc2 := Mem.cell_w hmr g2
    have hb := Mem.cell_lt hmr g1
    have hlo := wfEdges_lohi (hwf l[k] (List.getElem_mem hlt))
    have Hcut := Lib.hid (fun b => cutP_take hlt b)
    generalize l[k] = s at *
    unfold maxLen at g5
    have hg0 := hO.obj.lt
    have hO' := hO.al' (.cells #[.bool s.accept, .slice ea s.edges.length ec] 48)
    go_wp2
    refine wp_loop_keep [3, 11, 12, 13, 18, 19, 20] (fun n vs w2 => ∃ (j : Nat), j ≤ s.edges.length ∧ n = s.edges.length - j ∧ vs = [.pointer (some ⟨w.heap.size, 0, none⟩), .slice (some ⟨b, off, none⟩) l.length c, .int .i64 l.length, .int .i64 k, .slice ea s.edges.length ec, .int .i64 s.edges.length, .int .i64 j] ∧
      Own w m w2 m [.obj w.heap.size 101 (marr (fun b => cutP (l.take k) b ∨ ∃ e ∈ s.edges.take j, edMark e b) 257)]) ?_ ?_
    · refine ⟨_, 0, Nat.zero_le _, rfl, rfl, ?_⟩
      rw [marr_congr (P' := cutP (l.take k)) (by intro b _; simp)]
      exact hO'
    rintro Y z2 n vs w2 hY - ⟨j, hj, rfl, rfl, hO2⟩
    simp [litL, lk]
    by_cases hlt2 : j < s.edges.length
    · obtain ⟨b', off', rfl, h10⟩ := g6 (by intro h; simp [h] at hlt2)
      obtain ⟨e1, e2, e3, e4, e5, -⟩ := h10 j hlt2
      have hle := (hlo s.edges[j] (List.getElem_mem hlt2)).1
      have d1 := Mem.cell_w hO2.inn e1
      have d2 := Mem.cell_w hO2.inn e2
      have d3 := Mem.cell_w hO2.inn e3
      have hb1 := Mem.cell_lt hO2.inn e1
      have hg1 := hO2.obj.lt
      have k1 := hO2.obj.cell (marr_get (i := s.edges[j].lo) (by omega))
      have k2 := hO2.obj.cell (marr_get (i := s.edges[j].hi + 1) (by omega))
      have k3 := hO2.obj.frozen s.edges[j].lo
      have k4 := hO2.obj.frozen (s.edges[j].hi + 1)
      have hne : s.edges[j].lo ≠ s.edges[j].hi + 1 := by omega
      have hne' : s.edges[j].hi + 1 ≠ s.edges[j].lo := by omega
      have hO3 := (((hO2.set s.edges[j].lo (.bool true)).set (s.edges[j].hi + 1) (.bool true))).al' (.cells #[.int .u8 s.edges[j].lo, .int .u8 s.edges[j].hi, .int .i64 s.edges[j].to] 51)
      rw [marr_set, marr_set, marr_congr (P' := fun b => cutP (l.take k) b ∨ ∃ e ∈ s.edges.take (j + 1), edMark e b) (by
        intro b _
        rw [edMark_take hlt2]
        unfold edMark
        constructor
        · rintro ((h | h) | h)
          · exact h.elim .inl (fun h => .inr (.inl h))
          · exact .inr (.inr (.inl h.symm))
          · exact .inr (.inr (.inr h.symm))
        · rintro (h | h | h | h)
          · exact .inl (.inl (.inl h))
          · exact .inl (.inl (.inr h))
          · exact .inl (.inr h.symm)
          · exact .inr h.symm)] at hO3
      have HO3 := Lib.hid hO3
      clear hO3
      go_wp2
      exact hY.out _ _ _ (by omega) rfl ⟨j + 1, by omega, rfl, rfl, HO3.out⟩
    · go_wp2
      refine hX.out _ _ _ (by omega) rfl ⟨k + 1, by omega, rfl, rfl, ?_⟩
      rw [marr_congr (P' := fun b => cutP (l.take k) b ∨ ∃ e ∈ s.edges.take j, edMark e b) (by
        intro b _
        rw [Hcut.out, List.take_of_length_le (l := s.edges) (i := j) (by omega)])]
      exact hO2
  · rw [List.take_of_length_le (by omega)] at hO
    go_wp2
    refine wp_loop_keep [3, 8, 34] (fun n vs w2 => ∃ (q : Nat) (v : Value), q ≤ 256 ∧ n = 256 - q ∧ vs = [.pointer (some ⟨w.heap.size, 0, none⟩), v, .int .i64 q] ∧
      Own w m w2 m [.row v 3 1 (cutsTo l q).length ((cutsTo l q).map (Value.int .i64)), .obj w.heap.size 101 (marr (cutP l) 257)]) ?_ ?_
    · exact ⟨_, 0, .slice none 0 0, by omega, rfl, rfl, hO.nilRow _ _⟩
    rintro Y z2 n vs w2 hY - ⟨q, v, hq, rfl, rfl, hO2⟩
    simp [litL, lk]
    by_cases hlt2 : q < 256
    · have k1 := hO2.swap.obj.cell (marr_get (i := q) (by omega))
      have hg := hO2.swap.obj.lt
      have hcl := cutsTo_le l q
      have hsu := cutsTo_succ l q
      by_cases hc : cutP l q
      · have ht := tf_true hc
        rw [ht] at k1
        rw [ht, if_pos rfl] at hsu
        have Hsu := Lib.hid hsu
        clear hsu ht
        have hO3 := hO2.al #[.int .i64 q] 3
        go_wp2_with (at_builtin; refine wpList_append_row tyInts rfl (.tmp 40) (.tmp 42) rfl v (cutsTo l q).length ((cutsTo l q).map (Value.int .i64)) rfl hO3.swap.row ⟨w2.heap.size, 0, none⟩ 1 1 [.int .i64 q] rfl rfl (hO3.obj.news rfl) (by simp [Value.oneCell']) (by unfold maxLen; omega) (by omega) ?_)
        intro va vc w3 hown3 hgrow hrow3
        have hO4 := (hO3.swap.app hown3 hgrow hrow3 (by simp)).drop2
        have Hfin := Lib.hid hO4
        clear hO4 hown3 hgrow hrow3 hO3
        go_wp2
        refine hY.out _ _ _ (by omega) rfl ⟨q + 1, _, by omega, rfl, rfl, ?_⟩
        rw [Hsu.out]
        simpa using Hfin.out
      · have ht := tf_false hc
        rw [ht] at k1
        rw [ht, if_neg (by simp), List.append_nil] at hsu
        have Hsu := Lib.hid hsu
        clear hsu ht
        go_wp2
        refine hY.out _ _ _ (by omega) rfl ⟨q + 1, v, by omega, rfl, rfl, ?_⟩
        rw [Hsu.out]
        exact hO2
    · obtain rfl : q = 256 := by omega
      have hres := intsAt_le hO2.sealRow.done (intsAt_of_row (m := m) hO2.row (fun x hx => by have := cutsTo_range l 256 x hx; omega))
      have Hfin := Lib.hid (And.intro hO2.below hres)
      clear hres hO2
      go_wp2
      exact hR.out _ _ ⟨_, rfl, Hfin.out.1, Hfin.out.2⟩
set_option maxRecDepth 100000 in
set_option maxHeartbeats 2000000 in
theorem Starts_any (v0 : Value) (l : Table) (m : Mem) (w : World) (hm : m.inn w) (hl : statesAt m v0 l) (hwf : WF l) :
    Calls Tryd.prog 77 #[v0] w fun e w' => ∃ r, e = .returned r ∧ Below w.heap.size w w' ∧ intsAt (m.grow w w') r (cutsTo l 256) := by
  obtain ⟨a, c, rfl, h1, h2, h3⟩ := hl
  unfold maxLen at h2
  refine calls_hide fun R hR => ?_
  go_enter Tryd.func77, Tryd.ntmps77
  go_wp2
  refine wp_loop_keep [3, 11, 12, 13] (fun n vs wr => ∃ (k : Nat), k ≤ l.length ∧ n = l.length - k ∧ vs = [.pointer (some ⟨w.heap.size, 0, none⟩), .slice a l.length c, .int .i64 l.length, .int .i64 k] ∧
    Own w m wr m [.obj w.heap.size 101 (marr (cutP (l.take k)) 257)]) ?_ ?_
  · refine ⟨_, 0, Nat.zero_le _, rfl, rfl, ?_⟩
    have := (Own.start hm).al (Tryd.zeroCells101.setIfInBounds 0 (.bool true)) 101
    rw [zero257, marr_false, marr_set, marr_congr (P' := cutP (l.take 0)) (by intro b _; simp [cutP])] at this
    rw [zero257, marr_false, marr_set, marr_congr (P' := cutP (l.take 0)) (by intro b _; simp [cutP])]
    exact this
  rintro X z n vs wr hX - ⟨k, hk, rfl, rfl, hO⟩
  simp [litL, lk]
  by_cases hlt : k < l.length
  · obtain ⟨b, off, rfl, h4⟩ := h3 (by intro h; simp [h] at hlt)
    have hmr := hO.inn
    obtain ⟨g1, ve, g2, ea, ec, rfl, g4, g5, g6⟩ := h4 k hlt
    have hc1 := Mem.cell_w hmr g1
    have hc2 := Mem.cell_w hmr g2
    have hb := Mem.cell_lt hmr g1
    have hlo := wfEdges_lohi (hwf l[k] (List.getElem_mem hlt))
    have Hcut := Lib.hid (fun b => cutP_take hlt b)
    generalize l[k] = s at *
    unfold maxLen at g5
    have hg0 := hO.obj.lt
    have hO' := hO.al' (.cells #[.bool s.accept, .slice ea s.edges.length ec] 48)
    go_wp2
    refine wp_loop_keep [3, 11, 12, 13, 18, 19, 20] (fun n vs w2 => ∃ (j : Nat), j ≤ s.edges.length ∧ n = s.edges.length - j ∧ vs = [.pointer (some ⟨w.heap.size, 0, none⟩), .slice (some ⟨b, off, none⟩) l.length c, .int .i64 l.length, .int .i64 k, .slice ea s.edges.length ec, .int .i64 s.edges.length, .int .i64 j] ∧
      Own w m w2 m [.obj w.heap.size 101 (marr (fun b => cutP (l.take k) b ∨ ∃ e ∈ s.edges.take j, edMark e b) 257)]) ?_ ?_
    · refine ⟨_, 0, Nat.zero_le _, rfl, rfl, ?_⟩
      rw [marr_congr (P' := cutP (l.take k)) (by intro b _; simp)]
      exact hO'
    rintro Y z2 n vs w2 hY - ⟨j, hj, rfl, rfl, hO2⟩
    simp [litL, lk]
    by_cases hlt2 : j < s.edges.length
    · obtain ⟨b', off', rfl, h10⟩ := g6 (by intro h; simp [h] at hlt2)
      obtain ⟨e1, e2, e3, e4, e5, -⟩ := h10 j hlt2
      have hle := (hlo s.edges[j] (List.getElem_mem hlt2)).1
      have d1 := Mem.cell_w hO2.inn e1
      have d2 := Mem.cell_w hO2.inn e2
      have d3 := Mem.cell_w hO2.inn e3
      have hb1 := Mem.cell_lt hO2.inn e1
      have hg1 := hO2.obj.lt
      have k1 := hO2.obj.cell (marr_get (i := s.edges[j].lo) (by omega))
      have k2 := hO2.obj.cell (marr_get (i := s.edges[j].hi + 1) (by omega))
      have k3 := hO2.obj.frozen s.edges[j].lo
      have k4 := hO2.obj.frozen (s.edges[j].hi + 1)
      have hne : s.edges[j].lo ≠ s.edges[j].hi + 1 := by omega
      have hne' : s.edges[j].hi + 1 ≠ s.edges[j].lo := by omega
      have hO3 := (((hO2.set s.edges[j].lo (.bool true)).set (s.edges[j].hi + 1) (.bool true))).al' (.cells #[.int .u8 s.edges[j].lo, .int .u8 s.edges[j].hi, .int .i64 s.edges[j].to] 51)
      rw [marr_set, marr_set, marr_congr (P' := fun b => cutP (l.take k) b ∨ ∃ e ∈ s.edges.take (j + 1), edMark e b) (by
        intro b _
        rw [edMark_take hlt2]
        unfold edMark
        constructor
        · rintro ((h | h) | h)
          · exact h.elim .inl (fun h => .inr (.inl h))
          · exact .inr (.inr (.inl h.symm))
          · exact .inr (.inr (.inr h.symm))
        · rintro (h | h | h | h)
          · exact .inl (.inl (.inl h))
          · exact .inl (.inl (.inr h))
          · exact .inl (.inr h.symm)
          · exact .inr h.symm)] at hO3
      have HO3 := Lib.hid hO3
      clear hO3
      go_wp2
      exact hY.out _ _ _ (by omega) rfl ⟨j + 1, by omega, rfl, rfl, HO3.out⟩
    · go_wp2
      refine hX.out _ _ _ (by omega) rfl ⟨k + 1, by omega, rfl, rfl, ?_⟩
      rw [marr_congr (P' := fun b => cutP (l.take k) b ∨ ∃ e ∈ s.edges.take j, edMark e b) (by
        intro b _
        rw [Hcut.out, List.take_of_length_le (l := s.edges) (i := j) (by omega)])]
      exact hO2
  · rw [List.take_of_length_le (by omega)] at hO
    go_wp2
    refine wp_loop_keep [3, 8, 9] (fun n vs w2 => ∃ (q : Nat) (v : Value), q ≤ 256 ∧ n = 256 - q ∧ vs = [.pointer (some ⟨w.heap.size, 0, none⟩), v, .int .i64 q] ∧
      Own w m w2 m [.row v 3 1 (cutsTo l q).length ((cutsTo l q).map (Value.int .i64)), .obj w.heap.size 101 (marr (cutP l) 257)]) ?_ ?_
    · exact ⟨_, 0, .slice none 0 0, by omega, rfl, rfl, hO.nilRow _ _⟩
    rintro Y z2 n vs w2 hY - ⟨q, v, hq, rfl, rfl, hO2⟩
    simp [litL, lk]
    by_cases hlt2 : q < 256
    · have k1 := hO2.swap.obj.cell (marr_get (i := q) (by omega))
      have hg := hO2.swap.obj.lt
      have hcl := cutsTo_le l q
      have hsu := cutsTo_succ l q
      by_cases hc : cutP l q
      · have ht := tf_true hc
        rw [ht] at k1
        rw [ht, if_pos rfl] at hsu
        have Hsu := Lib.hid hsu
        clear hsu ht
        have hO3 := hO2.al #[.int .i64 q] 3
        go_wp2_with (at_builtin; refine wpList_append_row tyInts rfl (.tmp 42) (.tmp 44) rfl v (cutsTo l q).length ((cutsTo l q).map (Value.int .i64)) rfl hO3.swap.row ⟨w2.heap.size, 0, none⟩ 1 1 [.int .i64 q] rfl rfl (hO3.obj.news rfl) (by simp [Value.oneCell']) (by unfold maxLen; omega) (by omega) ?_)
        intro va vc w3 hown3 hgrow hrow3
        have hO4 := (hO3.swap.app hown3 hgrow hrow3 (by simp)).drop2
        have Hfin := Lib.hid hO4
        clear hO4 hown3 hgrow hrow3 hO3
        go_wp2
        refine hY.out _ _ _ (by omega) rfl ⟨q + 1, _, by omega, rfl, rfl, ?_⟩
        rw [Hsu.out]
        simpa using Hfin.out
      · have ht := tf_false hc
        rw [ht] at k1
        rw [ht, if_neg (by simp), List.append_nil] at hsu
        have Hsu := Lib.hid hsu
        clear hsu ht
        go_wp2
        refine hY.out _ _ _ (by omega) rfl ⟨q + 1, v, by omega, rfl, rfl, ?_⟩
        rw [Hsu.out]
        exact hO2
    · obtain rfl : q = 256 := by omega
      have hres := intsAt_le hO2.sealRow.done (intsAt_of_row (m := m) hO2.row (fun x hx => by have := cutsTo_range l 256 x hx; omega))
      have Hfin := Lib.hid (And.intro hO2.below hres)
      clear hres hO2
      go_wp2
      exact hR.out _ _ ⟨_, rfl, Hfin.out.1, Hfin.out.2⟩
end Cl
namespace Cl
open Go Go.RowKit Go.Proofs

/-- where a state's interval leads to in the complete automaton -/
def goTo (n : Nat) (es : List Ed) (c : Int) : Int := if estep es c.toNat < 0 then (n : Int) else estep es c.toNat
def compRow (n : Nat) (cuts : List Int) (es : List Ed) : List Int := cuts.map (goTo n es)
theorem estep_snoc (es : List Ed) (e : Ed) (b : Nat) (h : ∀ x ∈ es, x.hi < e.lo) : estep (es ++ [e]) b = if e.lo ≤ b ∧ b ≤ e.hi then e.to else estep es b := by
  induction es with
  | nil => rfl
  | cons x es ih =>
    have hx := h x (by simp)
    have := ih (fun y hy => h y (by simp [hy]))
    simp only [List.cons_append, estep]
    by_cases hc : x.lo ≤ b ∧ b ≤ x.hi
    · rw [if_pos hc, if_pos hc, if_neg (by omega)]
    · rw [if_neg hc, if_neg hc, this]
theorem wfEdges_before {n : Nat} {es : List Ed} : ∀ {p : Int}, wfEdges n p es → ∀ j, (h : j < es.length) → ∀ x ∈ es.take j, x.hi < (es[j]).lo := by
  induction es with
  | nil => intro p _ j h; simp at h
  | cons e es ih =>
    intro p hw j h x hx
    obtain ⟨-, -, -, -, h5⟩ := hw
    cases j with
    | zero => simp at hx
    | succ j =>
      simp only [List.take_succ_cons, List.mem_cons] at hx
      have hj : j < es.length := by simpa using h
      have hlo : ∀ {q : Int} {fs : List Ed}, wfEdges n q fs → ∀ y ∈ fs, q < y.lo := by
        intro q fs
        induction fs generalizing q with
        | nil => simp
        | cons f fs ihf =>
          intro hq y hy
          obtain ⟨q1, -, -, q4, q5⟩ := hq
          rcases List.mem_cons.1 hy with rfl | hy
          · exact q4
          · have := ihf q5 y hy; omega
      rcases hx with rfl | hx
      · have := hlo h5 es[j] (List.getElem_mem hj)
        simp only [List.getElem_cons_succ]
        omega
      · simpa using ih h5 j hj x hx
theorem goTo_snoc {n : Nat} {es : List Ed} {p : Int} (hw : wfEdges n p es) {j : Nat} (hj : j < es.length) (c : Int) :
    goTo n (es.take (j + 1)) c = if (es[j]).lo ≤ c.toNat ∧ c.toNat ≤ (es[j]).hi then (es[j]).to else goTo n (es.take j) c := by
  have h2 := (wfEdges_lohi hw es[j] (List.getElem_mem hj)).2
  unfold goTo
  rw [List.take_succ_eq_append_getElem hj, estep_snoc _ _ _ (wfEdges_before hw j hj)]
  by_cases hc : (es[j]).lo ≤ c.toNat ∧ c.toNat ≤ (es[j]).hi
  · rw [if_pos hc, if_pos hc, if_neg (by omega)]
  · rw [if_neg hc, if_neg hc]
def compNext (l : Table) (cuts : List Int) : List (List Int) := l.map (fun s => compRow l.length cuts s.edges)
theorem tyIntss : SliceTy Tryd.prog 102 83 1 24 := ⟨Tryd.underlying102, by omega, by
  obtain ⟨i, h1, h2, h3, h4⟩ := info_parts (P := Tryd.prog) (e := 83) (z := .slice none 0 0) (size := 1) (bytes := 24) (by kernel_rfl)
  exact ⟨i, _, h1, h2, h3, h4, rfl⟩⟩
theorem mkInts : MakeTy Tryd.prog 83 3 8 (.int .i64 0) := ⟨Tryd.underlying83, by kernel_rfl, rfl⟩
theorem mkBools : MakeTy Tryd.prog 41 4 1 (.bool false) := ⟨Tryd.underlying41, by kernel_rfl, rfl⟩
theorem tyBools : SliceTy Tryd.prog 41 4 1 1 := ⟨Tryd.underlying41, by omega, by
  obtain ⟨i, h1, h2, h3, h4⟩ := info_parts (P := Tryd.prog) (e := 4) (z := .bool false) (size := 1) (bytes := 1) (by kernel_rfl)
  exact ⟨i, _, h1, h2, h3, h4, rfl⟩⟩

/-- cells of a row of rows -/
structure IssRow (m : Mem) (xs : List Value) (l : List (List Int)) : Prop where
  len : xs.length = l.length
  get : ∀ i (h : i < l.length), ∃ v, xs[i]? = some v ∧ intsAt m v l[i]
theorem IssRow.nil (m : Mem) : IssRow m [] [] := ⟨rfl, fun i h => by simp at h⟩
theorem IssRow.mono {m m' : Mem} {xs : List Value} {l : List (List Int)} (h : IssRow m xs l) (hl : m.le m') : IssRow m' xs l :=
  ⟨h.len, fun i hi => let ⟨v, h1, h2⟩ := h.get i hi; ⟨v, h1, intsAt_le hl h2⟩⟩
theorem IssRow.push {m : Mem} {xs : List Value} {l : List (List Int)} (h : IssRow m xs l) {x : List Int} {v : Value} (hx : intsAt m v x) : IssRow m (xs ++ [v]) (l ++ [x]) := by
  refine ⟨by simp [h.len], fun i hi => ?_⟩
  by_cases c : i < l.length
  · obtain ⟨u, h1, h2⟩ := h.get i c
    exact ⟨u, by rw [List.getElem?_append_left (by rw [h.len]; omega)]; exact h1, by rw [List.getElem_append_left c]; exact h2⟩
  · have : i = l.length := by simp at hi; omega
    subst this
    refine ⟨v, ?_, by simpa using hx⟩
    rw [List.getElem?_append_right (by rw [h.len]; omega)]
    simp [h.len]
theorem intssAt_of_row {w : World} {t : TypeId} {v : Value} {l : List (List Int)} {xs : List Value} {m : Mem} (hown : w.ownsRow 0 t 1 v l.length xs) (hr : IssRow m xs l) (hf : m.free v) : intssAt (m.addv w v) v l :=
  slice1_of_row hown fun _ hg i h => let ⟨u, h1, h2⟩ := hr.get i h; ⟨u, row_cell hown hg m h1, intsAt_le (Mem.le_addv hf) h2⟩
/-- a row that is being filled -/
def part (f : Int → Int) (cuts : List Int) (i : Nat) : List Value := ((cuts.take i).map f ++ List.replicate (cuts.length - i) 0).map (Value.int .i64)
def partX (f : Int → Int) (cuts : List Int) (i : Nat) (x : Int) : List Value := ((cuts.take i).map f ++ x :: List.replicate (cuts.length - i - 1) 0).map (Value.int .i64)
theorem part_eqX {f : Int → Int} {cuts : List Int} {i : Nat} (h : i < cuts.length) : part f cuts i = partX f cuts i 0 := by
  unfold part partX
  rw [show cuts.length - i = (cuts.length - i - 1) + 1 by omega, List.replicate_succ]
  rfl
theorem partX_get {f : Int → Int} {cuts : List Int} {i : Nat} (h : i < cuts.length) (x : Int) : (partX f cuts i x)[i]? = some (.int .i64 x) := by
  unfold partX
  rw [List.getElem?_map, List.getElem?_append_right (by simp; omega)]
  simp [Nat.min_eq_left (Nat.le_of_lt h)]
theorem partX_set {f : Int → Int} {cuts : List Int} {i : Nat} (h : i < cuts.length) (x y : Int) : (partX f cuts i x).set i (.int .i64 y) = partX f cuts i y := by
  unfold partX
  rw [List.map_append, List.map_append, List.set_append_right _ _ (by simp; omega)]
  simp [Nat.min_eq_left (Nat.le_of_lt h)]
theorem partX_succ {f : Int → Int} {cuts : List Int} {i : Nat} (h : i < cuts.length) : partX f cuts i (f cuts[i]) = part f cuts (i + 1) := by
  unfold part partX
  rw [List.take_succ_eq_append_getElem h, show cuts.length - i - 1 = cuts.length - (i + 1) by omega]
  simp only [List.map_append, List.map_cons, List.append_assoc, List.cons_append, List.nil_append, List.map_nil]
theorem part_zero (f : Int → Int) (cuts : List Int) : List.replicate cuts.length (Value.int .i64 0) = part f cuts 0 := by simp [part]
theorem part_all (f : Int → Int) (cuts : List Int) : part f cuts cuts.length = (cuts.map f).map (Value.int .i64) := by simp [part]
theorem part_get {f : Int → Int} {cuts : List Int} {i : Nat} (h : i < cuts.length) : (part f cuts i)[i]? = some (.int .i64 0) := by rw [part_eqX h]; exact partX_get h 0
theorem part_set {f : Int → Int} {cuts : List Int} {i : Nat} (h : i < cuts.length) (y : Int) : (part f cuts i).set i (.int .i64 y) = partX f cuts i y := by rw [part_eqX h]; exact partX_set h 0 y
theorem goTo_range {n : Nat} {p : Int} {es : List Ed} (hw : wfEdges n p es) (c : Int) : 0 ≤ goTo n es c ∧ goTo n es c ≤ n := by
  unfold goTo
  rcases estep_range hw c.toNat with h | h
  · rw [h, if_pos (by omega)]; omega
  · rw [if_neg (by omega)]; omega
theorem compRow_range {n : Nat} {p : Int} {es : List Ed} (hw : wfEdges n p es) (cuts : List Int) : ∀ x ∈ compRow n cuts es, 0 ≤ x ∧ x ≤ n := by
  intro x hx
  obtain ⟨c, -, rfl⟩ := List.mem_map.1 hx
  exact goTo_range hw c
end Cl
namespace Cl
open Go Go.RowKit Go.Proofs

/-- a table (complete automaton with classes) in sealed memory -/
structure TabAt (m : Mem) (g : Nat) (cuts : List Int) (next : List (List Int)) (acc : List Bool) (cls : List Int) : Prop where
  ex : ∃ vc vn va vk, m.cell g 0 = some vc ∧ m.cell g 1 = some vn ∧ m.cell g 2 = some va ∧ m.cell g 3 = some vk ∧
    intsAt m vc cuts ∧ intssAt m vn next ∧ boolsAt m va acc ∧ intsAt m vk cls
theorem TabAt.mono {m m' : Mem} {g : Nat} {cuts : List Int} {next : List (List Int)} {acc : List Bool} {cls : List Int} (h : TabAt m g cuts next acc cls) (hl : m.le m') : TabAt m' g cuts next acc cls := by
  obtain ⟨vc, vn, va, vk, h1, h2, h3, h4, h5, h6, h7, h8⟩ := h.ex
  exact ⟨vc, vn, va, vk, Mem.cell_le hl h1, Mem.cell_le hl h2, Mem.cell_le hl h3, Mem.cell_le hl h4, intsAt_le hl h5, intssAt_le hl h6, boolsAt_le hl h7, intsAt_le hl h8⟩
/-- the last byte of an interval -/
def endOf (cuts : List Int) (i : Nat) : Int := if h : i + 1 < cuts.length then cuts[i + 1] - 1 else 255

set_option maxRecDepth 100000 in
theorem end_any (g : Nat) (cuts : List Int) (next : List (List Int)) (acc : List Bool) (cls : List Int) (i : Nat) (m : Mem) (w : World) (hm : m.inn w) (ht : TabAt m g cuts next acc cls)
    (hi : i < cuts.length) (hc : ∀ h : i + 1 < cuts.length, 1 ≤ cuts[i + 1] ∧ cuts[i + 1] ≤ 255) :
    Calls Tryd.prog 92 #[.pointer (some ⟨g, 0, none⟩), .int .i64 i] w fun e w' => e = .returned (.int .u8 (endOf cuts i)) ∧ w' = w := by
  obtain ⟨vc, vn, va, vk, h1, -, -, -, ⟨a, c, rfl, h5, h6, h7⟩, -, -, -⟩ := ht.ex
  have hg := Mem.cell_lt hm h1
  have hw := Mem.cell_w hm h1
  unfold maxLen at h6
  refine calls_hide fun R hR => ?_
  go_enter Tryd.func92, Tryd.ntmps92
  by_cases hlt : i + 1 < cuts.length
  · obtain ⟨b, off, rfl, h8⟩ := h7 (by intro h; simp [h] at hlt)
    obtain ⟨k1, k2, k3⟩ := h8 (i + 1) hlt
    have k4 := Mem.cell_w hm k1
    have hcc := hc hlt
    have hend : endOf cuts i = cuts[i + 1] - 1 := by simp [endOf, hlt]
    generalize cuts[i + 1] = x at *
    go_wp2
    refine hR.out _ _ ⟨?_, rfl⟩
    rw [hend]
    rfl
  · have hend : endOf cuts i = 255 := by simp [endOf, hlt]
    go_wp2
    refine hR.out _ _ ⟨?_, rfl⟩
    rw [hend]
    rfl
end Cl
namespace Cl
open Go Go.RowKit Go.Proofs

def cl (cls : List Int) (s : Nat) : Nat := (cls.getD s 0).toNat
def bt (out : List Bool) (c : Nat) : Bool := out.getD c false
def nx (next : List (List Int)) (s : Nat) : List Int := next.getD s []
def okTo (out : List Bool) (cls l : List Int) (b : Bool) : Bool := b || l.any fun x => bt out (cl cls x.toNat)
theorem bt_get {out : List Bool} {c : Nat} (h : c < out.length) : bt out c = out[c] := by simp [bt, h]
theorem okTo_take {out : List Bool} {cls l : List Int} {b : Bool} {j : Nat} (h : j < l.length) : okTo out cls (l.take (j + 1)) b = (okTo out cls (l.take j) b || bt out (cl cls (l[j]).toNat)) := by
  unfold okTo
  rw [List.take_succ_eq_append_getElem h, List.any_append]
  simp [Bool.or_assoc]
/-- the classes from which an accepting state can be reached -/
inductive LiveC (next : List (List Int)) (acc : List Bool) (cls : List Int) : Nat → Prop
  | acc (s : Nat) (hs : s < next.length) (h : bt acc s = true) : LiveC next acc cls (cl cls s)
  | step (s : Nat) (hs : s < next.length) (x : Int) (hx : x ∈ nx next s) (h : LiveC next acc cls (cl cls x.toNat)) : LiveC next acc cls (cl cls s)
def LvSound (next : List (List Int)) (acc : List Bool) (cls : List Int) (out : List Bool) : Prop := ∀ c, bt out c = true → LiveC next acc cls c
def LvClosed (next : List (List Int)) (acc : List Bool) (cls : List Int) (out : List Bool) (k : Nat) : Prop :=
  ∀ s, s < k → okTo out cls (nx next s) (bt acc s) = true → bt out (cl cls s) = true
theorem liveC_iff {next : List (List Int)} {acc : List Bool} {cls : List Int} {out : List Bool} (h1 : LvSound next acc cls out) (h2 : LvClosed next acc cls out next.length) (c : Nat) :
    bt out c = true ↔ LiveC next acc cls c := by
  refine ⟨h1 c, fun h => ?_⟩
  induction h with
  | acc s hs h => exact h2 s hs (by simp [okTo, h])
  | step s hs x hx _ ih => exact h2 s hs (by simp only [okTo, Bool.or_eq_true, List.any_eq_true]; exact .inr ⟨x, hx, ih⟩)
theorem lv_closed_succ {next : List (List Int)} {acc : List Bool} {cls : List Int} {out : List Bool} {k : Nat} (h : LvClosed next acc cls out k) (hk : okTo out cls (nx next k) (bt acc k) = true → bt out (cl cls k) = true) :
    LvClosed next acc cls out (k + 1) := fun s hs hok => by
  by_cases e : s = k
  · subst e; exact hk hok
  · exact h s (by omega) hok
theorem lv_sound_set {next : List (List Int)} {acc : List Bool} {cls : List Int} {out : List Bool} (h1 : LvSound next acc cls out) {s : Nat} (hs : s < next.length) (hok : okTo out cls (nx next s) (bt acc s) = true) :
    LvSound next acc cls (out.set (cl cls s) true) := by
  intro c hc
  by_cases e : cl cls s = c
  · subst e
    simp only [okTo, Bool.or_eq_true, List.any_eq_true] at hok
    rcases hok with h | ⟨x, hx, h⟩
    · exact .acc s hs h
    · exact .step s hs x hx (h1 _ h)
  · refine h1 c ?_
    simpa [bt, List.getElem?_set, e] using hc
theorem count_set {out : List Bool} : ∀ {c : Nat}, c < out.length → bt out c = false → (out.set c true).count false + 1 = out.count false := by
  induction out with
  | nil => intro c h; simp at h
  | cons b out ih =>
    intro c h hb
    cases c with
    | zero =>
      simp [bt] at hb
      subst hb
      simp
    | succ c =>
      have := @ih c (by simpa using h) (by simpa [bt] using hb)
      simp only [List.set_cons_succ, List.count_cons]
      omega

set_option maxRecDepth 100000 in
set_option maxHeartbeats 2000000 in
theorem live_any (g : Nat) (cuts : List Int) (next : List (List Int)) (acc : List Bool) (cls : List Int) (m : Mem) (w : World) (hm : m.inn w) (ht : TabAt m g cuts next acc cls)
    (ha : acc.length = next.length) (hk : cls.length = next.length) (hn : ∀ r ∈ next, ∀ x ∈ r, 0 ≤ x ∧ x < next.length) (hkr : ∀ x ∈ cls, 0 ≤ x ∧ x < next.length) (hlen : next.length ≤ 1000001) :
    Calls Tryd.prog 91 #[.pointer (some ⟨g, 0, none⟩)] w fun e w' => ∃ r out, e = .returned r ∧ Below w.heap.size w w' ∧ boolsAt (m.grow w w') r out ∧ out.length = next.length ∧
      ∀ c, bt out c = true ↔ LiveC next acc cls c := by
  obtain ⟨vc, vn, va, vk, e1, e2, e3, e4, -, ⟨na, nc, rfl, n1, n2, n3⟩, ⟨aa, ac, rfl, a1, a2, a3⟩, ⟨ka, kc, rfl, k1, k2, k3⟩⟩ := ht.ex
  have hg := Mem.cell_lt hm e1
  have w2 := Mem.cell_w hm e2
  have w3 := Mem.cell_w hm e3
  have w4 := Mem.cell_w hm e4
  unfold maxLen at n2 a2 k2
  refine calls_hide fun R hR => ?_
  go_enter Tryd.func91, Tryd.ntmps91
  go_wp2_with (refine wpList_make_row mkBools rfl (.tmp 13) (.tmp 13) rfl next.length rfl rfl (by omega) (by unfold maxLen; omega) ?_)
  intro w5 hown hgrow
  have hO := (Own.start hm).make hown hgrow
  clear hown hgrow
  have hrep : List.replicate next.length (Value.bool false) = (List.replicate next.length false).map Value.bool := by simp
  rw [hrep] at hO
  clear hrep
  have hs0 : LvSound next acc cls (List.replicate next.length false) := by
    intro c hc
    simp [bt, List.getElem?_replicate] at hc
    split at hc <;> simp at hc
  generalize hB : w.heap.size = B at *
  have hl0 : (List.replicate next.length false).length = next.length := by simp
  generalize List.replicate next.length false = out0 at *
  go_wp2
  refine wp_loop_keep [0, 3, 4] (fun n vs wr => ∃ (out : List Bool) (again : Bool), out.length = next.length ∧ n = (if again = true then out.count false + 1 else 0) ∧
    vs = [.pointer (some ⟨g, 0, none⟩), .slice (some ⟨B, 0, none⟩) next.length next.length, .bool again] ∧ Own w m wr m [.row (.slice (some ⟨B, 0, none⟩) next.length next.length) 4 1 next.length (out.map Value.bool)] ∧
    LvSound next acc cls out ∧ (again = false → LvClosed next acc cls out next.length)) ?_ ?_
  · exact ⟨_, out0, true, hl0, rfl, rfl, hO, hs0, by simp⟩
  clear hO hs0 hl0
  rintro X z n vs wr hX - ⟨out, again, hlo, rfl, rfl, hO, hs, hcl⟩
  simp [litL, lk]
  have q2 := Mem.cell_w hO.inn e2
  have hgl := Mem.cell_lt hO.inn e1
  cases again with
  | false =>
    go_wp2
    have hb := boolsAt_of_row (l := out) (m := m) (w := wr) (v := .slice (some ⟨B, 0, none⟩) next.length next.length) (by rw [hlo]; exact hO.row)
    exact hR.out _ _ ⟨_, out, rfl, hB ▸ hO.below, boolsAt_le hO.sealRow.done hb, hlo, liveC_iff hs (hcl (by simp))⟩
  | true =>
    clear hcl
    go_wp2
    refine wp_loop_keep [0, 3, 4, 20, 21] (fun n vs wr => ∃ (ou : List Bool) (ag : Bool) (k : Nat), k ≤ next.length ∧ n = next.length - k ∧ ou.length = next.length ∧
      vs = [.pointer (some ⟨g, 0, none⟩), .slice (some ⟨B, 0, none⟩) next.length next.length, .bool ag, .int .i64 next.length, .int .i64 k] ∧ Own w m wr m [.row (.slice (some ⟨B, 0, none⟩) next.length next.length) 4 1 next.length (ou.map Value.bool)] ∧
      LvSound next acc cls ou ∧ (ag = true → ou.count false < out.count false) ∧ (ag = false → ou = out ∧ LvClosed next acc cls ou k)) ?_ ?_
    · exact ⟨_, out, false, 0, Nat.zero_le _, rfl, hlo, rfl, hO, hs, by simp, fun _ => ⟨rfl, fun s h => absurd h (by omega)⟩⟩
    clear hO q2 hgl
    rintro Y z2 n vs wr2 hY - ⟨ou, ag, k, hk2, rfl, hlu, rfl, hO, hs2, hag, hcl⟩
    simp [litL, lk]
    have q2 := Mem.cell_w hO.inn e2
    have q3 := Mem.cell_w hO.inn e3
    have q4 := Mem.cell_w hO.inn e4
    have hgl := Mem.cell_lt hO.inn e1
    by_cases hlt : k < next.length
    · obtain ⟨nb, no, rfl, n4⟩ := n3 (by intro h; simp [h] at hlt)
      obtain ⟨ab, ao, rfl, a4⟩ := a3 (by intro h; simp [h] at ha; omega)
      obtain ⟨kb, ko, rfl, k4⟩ := k3 (by intro h; simp [h] at hk; omega)
      obtain ⟨u, c1, ra, rc, rfl, r1, r2, r3⟩ := n4 k hlt
      have c1w := Mem.cell_w hO.inn c1
      have c2 := a4 k (by omega)
      have c2w := Mem.cell_w hO.inn c2
      have c3 := k4 k (by omega)
      have c3w := Mem.cell_w hO.inn c3.1
      have hrow := hn next[k] (List.getElem_mem hlt)
      have hnx : nx next k = next[k] := by simp [nx, hlt]
      have hba : bt acc k = acc[k] := bt_get (by omega)
      rw [← hba] at c2w
      have hkk := hkr cls[k] (List.getElem_mem (by omega))
      obtain ⟨kn, hkn⟩ := Int.eq_ofNat_of_zero_le hkk.1
      have hcl1 : cl cls k = kn := by simp [cl, show k < cls.length by omega, hkn]
      rw [hkn] at c3w
      unfold maxLen at r2
      generalize next[k] = row at *
      go_wp2
      refine wp_loop_keep [0, 3, 4, 20, 21, 5, 6, 37, 38, 39] (fun n vs wr3 => ∃ j : Nat, j ≤ row.length ∧ n = row.length - j ∧
        vs = [.pointer (some ⟨g, 0, none⟩), .slice (some ⟨B, 0, none⟩) next.length next.length, .bool ag, .int .i64 next.length, .int .i64 k, .int .i64 k, .bool (okTo ou cls (row.take j) (bt acc k)), .slice ra row.length rc, .int .i64 row.length, .int .i64 j] ∧
        Own w m wr3 m [.row (.slice (some ⟨B, 0, none⟩) next.length next.length) 4 1 next.length (ou.map Value.bool)]) ?_ ?_
      · exact ⟨_, 0, Nat.zero_le _, rfl, by simp [okTo, hba], hO⟩
      clear hO q2 q3 q4 hgl c1w c2w c3w
      rintro Z z3 n vs wr3 hZ - ⟨j, hj, rfl, rfl, hO⟩
      simp [litL, lk]
      have q4 := Mem.cell_w hO.inn e4
      have hgl := Mem.cell_lt hO.inn e1
      by_cases hlt2 : j < row.length
      · obtain ⟨rb, ro, rfl, r4⟩ := r3 (by intro h; simp [h] at hlt2)
        have d1 := Mem.cell_w hO.inn (r4 j hlt2).1
        have hx := hrow row[j] (List.getElem_mem hlt2)
        obtain ⟨xn, hxn⟩ := Int.eq_ofNat_of_zero_le hx.1
        have hstep := okTo_take (out := ou) (cls := cls) (b := bt acc k) hlt2
        rw [hxn] at d1 hx hstep
        have hxl : xn < next.length := by omega
        have hy := hkr cls[xn] (List.getElem_mem (by omega))
        obtain ⟨yn, hyn⟩ := Int.eq_ofNat_of_zero_le hy.1
        have d2 := Mem.cell_w hO.inn (k4 xn (by omega)).1
        rw [hyn] at d2 hy
        have hcx : cl cls ((xn : Int).toNat) = yn := by simp [cl, show xn < cls.length by omega, hyn]
        rw [hcx] at hstep
        have hyl : yn < ou.length := by omega
        have d3 := row_cellw (j := yn) (u := .bool ou[yn]) hO.row (by simp [hyl])
        rw [← bt_get hyl] at d3
        generalize bt ou yn = y at *
        have Hst := Lib.hid hstep
        clear hstep
        generalize okTo ou cls (row.take j) (bt acc k) = ok at *
        go_wp2
        all_goals refine hZ.out _ _ _ (by omega) rfl ⟨j + 1, by omega, rfl, ?_, hO⟩
        all_goals rw [Hst.out]
        all_goals first
          | rfl
          | simp_all
      · obtain rfl : j = row.length := by omega
        rw [List.take_length]
        have c3w := Mem.cell_w hO.inn c3.1
        rw [hkn] at c3w
        have hkl : kn < ou.length := by omega
        have d3 := row_cellw (j := kn) (u := .bool ou[kn]) hO.row (by simp [hkl])
        have d4 := row_frozen hO.row kn
        rw [← bt_get hkl] at d3
        have hO2 := hO.setRow kn (.bool true)
        have hset : (ou.map Value.bool).set kn (.bool true) = (ou.set kn true).map Value.bool := by rw [List.map_set]
        rw [hset] at hO2
        have hcnt := count_set (out := ou) (c := kn) hkl
        have hsnd := lv_sound_set (s := k) hs2 hlt
        rw [hcl1, hnx] at hsnd
        generalize hok : okTo ou cls row (bt acc k) = ok at *
        generalize hy : bt ou kn = y at *
        have hclk : ∀ (_ : ok = true → y = true) (_ : ag = false), LvClosed next acc cls ou (k + 1) := fun h1 h2 =>
          lv_closed_succ (hcl h2).2 (by rw [hnx, hok, hcl1, hy]; exact h1)
        have HO2 := Lib.hid hO2
        have Hkeep := Lib.hid (And.intro hag (And.intro hcl (And.intro hcnt (And.intro hsnd hclk))))
        clear hO2 hset hag hcl hcnt hsnd hclk hok hy
        cases ok with
        | false =>
          go_wp2
          obtain ⟨hag, hcl, hcnt, hsnd, hclk⟩ := Hkeep.out
          exact hY.out _ _ _ (by omega) rfl ⟨ou, ag, k + 1, by omega, rfl, hlu, rfl, hO, hs2, hag, fun h => ⟨(hcl h).1, hclk (by simp) h⟩⟩
        | true =>
          cases y with
          | true =>
            go_wp2
            obtain ⟨hag, hcl, hcnt, hsnd, hclk⟩ := Hkeep.out
            exact hY.out _ _ _ (by omega) rfl ⟨ou, ag, k + 1, by omega, rfl, hlu, rfl, hO, hs2, hag, fun h => ⟨(hcl h).1, hclk (by simp) h⟩⟩
          | false =>
            go_wp2
            obtain ⟨hag, hcl, hcnt, hsnd, hclk⟩ := Hkeep.out
            refine hY.out _ _ _ (by omega) rfl ⟨ou.set kn true, true, k + 1, by omega, rfl, by simp [hlu], rfl, HO2.out, hsnd (by simp), fun _ => ?_, by simp⟩
            have := hcnt (by simp)
            cases ag with
            | true => have := hag rfl; omega
            | false => have := (hcl rfl).1; subst this; omega
    · obtain rfl : k = next.length := by omega
      have hmeas : (if ag = true then ou.count false + 1 else 0) < out.count false + 1 := by
        split
        · exact Nat.add_lt_add_right (hag (by assumption)) 1
        · omega
      go_wp2
      exact hX.out _ _ _ (by simpa using hmeas) rfl ⟨ou, ag, hlu, rfl, rfl, hO, hs2, fun h => (hcl h).2⟩
end Cl
namespace Cl

theorem wf_estep_lo {n : Nat} {es : List Ed} : ∀ {p : Int}, wfEdges n p es → ∀ e ∈ es, estep es e.lo = e.to := by
  induction es with
  | nil => intro p _ e he; simp at he
  | cons x es ih =>
    intro p ⟨h1, h2, h3, h4, h5⟩ e he
    simp only [estep]
    rcases List.mem_cons.1 he with rfl | he
    · rw [if_pos ⟨Nat.le_refl _, h1⟩]
    · have := (wfEdges_sep h5 e he).1
      rw [if_neg (by omega)]
      exact ih h5 e he

def StepOk (l : Table) (out : List Bool) (s : Nat) : Prop := (accAt l s = true ∨ ∃ st, l[s]? = some st ∧ ∃ e ∈ st.edges, bt out e.to.toNat = true) → bt out s = true
def AClosed (l : Table) (out : List Bool) : Prop := ∀ s, s < l.length → StepOk l out s
def ASound (l : Table) (out : List Bool) : Prop := ∀ s, bt out s = true → Lv l s
theorem alive_of_closed {l : Table} (_ : WF l) {out : List Bool} (h : AClosed l out) : ∀ (w : List UInt8) (s : Nat), accFrom l s w = true → bt out s = true := by
  intro w
  induction w with
  | nil =>
    intro s hs
    simp only [accFrom] at hs
    by_cases c : s < l.length
    · exact h s c (.inl hs)
    · have := accFrom_out l (s : Int) [] (by omega)
      simp only [accFrom] at this
      rw [hs] at this; cases this
  | cons b w ih =>
    intro s hs
    simp only [accFrom] at hs
    by_cases c : s < l.length
    · rw [tstep_nat l s _ c] at hs
      have h0 : 0 ≤ estep (l[s]).edges b.toNat := by
        apply Classical.byContradiction
        intro hn
        rw [accFrom_neg (by omega)] at hs; cases hs
      obtain ⟨e, he, e2⟩ := estep_mem h0
      refine h s c (.inr ⟨l[s], by simp [c], e, he, ?_⟩)
      apply ih
      rw [e2, Int.toNat_of_nonneg h0]
      exact hs
    · rw [tstep_out l _ _ (by omega), accFrom_neg (by omega)] at hs; cases hs
theorem lv_edge {l : Table} (hw : WF l) (hb : Bytes l) {s : Nat} {st : Sn} (hs : l[s]? = some st) {e : Ed} (he : e ∈ st.edges) (h : Lv l e.to) : Lv l s := by
  obtain ⟨h1, h2⟩ := List.getElem?_eq_some_iff.1 hs
  subst h2
  obtain ⟨w, hw'⟩ := h
  obtain ⟨u, hu⟩ := byteOf e.lo (hb _ (List.getElem_mem h1) e he).1
  refine ⟨u :: w, ?_⟩
  simp only [accFrom]
  rw [hu, tstep_nat l s _ h1, wf_estep_lo (hw _ (List.getElem_mem h1)) e he]
  exact hw'

structure AlvInv (l : Table) (out0 out : List Bool) (i : Nat) (C : List Bool → Prop) : Prop where
  len : out.length = l.length
  sound : ASound l out
  keep : out = out0 ∨ out0.count true < out.count true
  stay : AClosed l out0 → out = out0
  part : out = out0 → (∀ s, s < i → StepOk l out s) ∧ (C out → bt out i = true)
theorem alv_start {l : Table} {out0 : List Bool} (h1 : out0.length = l.length) (h2 : ASound l out0) : AlvInv l out0 out0 0 (fun _ => False) :=
  ⟨h1, h2, .inl rfl, fun _ => rfl, fun _ => ⟨fun s hs => by omega, fun h => h.elim⟩⟩
theorem count_true_set {out : List Bool} : ∀ {c : Nat}, c < out.length → bt out c = false → (out.set c true).count true = out.count true + 1 := by
  induction out with
  | nil => intro c h; simp at h
  | cons b out ih =>
    intro c h hb
    cases c with
    | zero =>
      simp [bt] at hb
      subst hb
      simp
    | succ c =>
      have := @ih c (by simpa using h) (by simpa [bt] using hb)
      simp only [List.set_cons_succ, List.count_cons]
      omega
theorem set_bt_self {out : List Bool} {i : Nat} (h : i < out.length) : out.set i (bt out i) = out := by
  rw [bt_get h]; exact List.set_getElem_self _
theorem alv_step {l : Table} {out0 out : List Bool} {i : Nat} {C C' : List Bool → Prop} (H : AlvInv l out0 out i C) (hi : i < l.length) (b : Bool)
    (hj : b = true → accAt l i = true ∨ ∃ st, l[i]? = some st ∧ ∃ e ∈ st.edges, bt out e.to.toNat = true) (hl : b = true → Lv l i) (hC : C' out → C out ∨ b = true) :
    AlvInv l out0 (out.set i (bt out i || b)) i C' := by
  have hil : i < out.length := by rw [H.len]; exact hi
  by_cases hc : bt out i = false ∧ b = true
  · obtain ⟨h1, h2⟩ := hc
    have hcount := count_true_set hil h1
    rw [h1, h2, Bool.false_or]
    have hle : out0.count true ≤ out.count true := by
      rcases H.keep with h | h
      · rw [h]; exact Nat.le_refl _
      · omega
    refine ⟨by simp [H.len], fun s hs => ?_, .inr (by omega), fun hcl => ?_, fun e => ?_⟩
    · by_cases c : s = i
      · subst c; exact hl h2
      · refine H.sound s ?_
        simpa [bt, List.getElem?_set, show ¬ i = s from fun e => c e.symm] using hs
    · have e0 := H.stay hcl
      have := hcl i hi (by rw [← e0]; exact hj h2)
      rw [← e0, h1] at this; cases this
    · rw [← e] at hle; omega
  · have e : (bt out i || b) = bt out i := by
      cases h1 : bt out i <;> cases h2 : b <;> simp_all
    rw [e, set_bt_self hil]
    refine ⟨H.len, H.sound, H.keep, H.stay, fun e0 => ⟨(H.part e0).1, fun hc' => ?_⟩⟩
    rcases hC hc' with h | h
    · exact (H.part e0).2 h
    · rw [← e, h]; simp
theorem alv_next {l : Table} {out0 out : List Bool} {i : Nat} {C : List Bool → Prop} (H : AlvInv l out0 out i C) (hi : i < l.length)
    (hC : (accAt l i = true ∨ ∃ st, l[i]? = some st ∧ ∃ e ∈ st.edges, bt out e.to.toNat = true) → C out) : AlvInv l out0 out (i + 1) (fun _ => False) :=
  ⟨H.len, H.sound, H.keep, H.stay, fun e0 => ⟨fun s hs => by
    by_cases c : s = i
    · subst c; exact fun h => (H.part e0).2 (hC h)
    · exact (H.part e0).1 s (by omega), fun h => h.elim⟩⟩
/-- between rounds -/
structure AlvRound (l : Table) (out : List Bool) (r : Nat) : Prop where
  len : out.length = l.length
  sound : ASound l out
  prog : AClosed l out ∨ r ≤ out.count true
theorem alv_round {l : Table} {out0 out : List Bool} {r : Nat} (H0 : AlvRound l out0 r) (H : AlvInv l out0 out l.length (fun _ => False)) : AlvRound l out (r + 1) := by
  refine ⟨H.len, H.sound, ?_⟩
  rcases H.keep with h | h
  · exact .inl fun s hs => (H.part h).1 s hs
  · rcases H0.prog with h2 | h2
    · have := H.stay h2
      rw [this] at h; omega
    · exact .inr (by omega)
theorem alv_end {l : Table} (hw : WF l) {out : List Bool} (H : AlvRound l out l.length) : ∀ s : Nat, s < l.length → (bt out s = true ↔ Lv l s) := by
  intro s hs
  refine ⟨H.sound s, fun h => ?_⟩
  obtain ⟨w, hx⟩ := h
  rcases H.prog with h2 | h2
  · exact alive_of_closed hw h2 w s hx
  · have hc : out.count true = out.length := Nat.le_antisymm List.count_le_length (by rw [H.len]; exact h2)
    have hall := List.count_eq_length.1 hc
    have hs' : s < out.length := by rw [H.len]; exact hs
    rw [bt_get hs']
    exact (hall _ (List.getElem_mem hs')).symm
theorem alv_zero (l : Table) : AlvRound l (List.replicate l.length false) 0 := by
  refine ⟨by simp, fun s hs => ?_, .inr (Nat.zero_le _)⟩
  simp [bt, List.getElem?_replicate] at hs
  split at hs <;> simp at hs
end Cl
namespace Cl

theorem wex_neg (l : Table) (n : Nat) {s : Int} (h : s < 0) : wex l n s = [] := by
  cases hx : wex l n s with
  | nil => rfl
  | cons a r =>
    have := ((mem_wex l n s a).1 (by rw [hx]; simp)).2
    rw [accFrom_neg h] at this; cases this
/-- the words over one byte of an edge -/
def byteW (l : Table) (n : Nat) (t : Int) (b : Nat) : List (List UInt8) := (wex l n t).map (UInt8.ofNat b :: ·)
def edW (l : Table) (n : Nat) (t : Int) (lo cnt : Nat) : List (List UInt8) := (List.range' lo cnt).flatMap (byteW l n t)
theorem edW_zero (l : Table) (n : Nat) (t : Int) (lo : Nat) : edW l n t lo 0 = [] := rfl
theorem edW_succ (l : Table) (n : Nat) (t : Int) (lo cnt : Nat) : edW l n t lo (cnt + 1) = edW l n t lo cnt ++ byteW l n t (lo + cnt) := by
  unfold edW
  rw [List.range'_concat, List.flatMap_append]
  simp
theorem edW_nil {l : Table} {n : Nat} {t : Int} (h : wex l n t = []) (lo cnt : Nat) : edW l n t lo cnt = [] := by
  unfold edW byteW
  rw [h]
  simp
/-- the words over some edges -/
def esW (l : Table) (n : Nat) (es : List Ed) : List (List UInt8) := es.flatMap fun e => edW l n e.to e.lo (e.hi + 1 - e.lo)
theorem esW_take (l : Table) (n : Nat) (es : List Ed) {i : Nat} (h : i < es.length) : esW l n (es.take (i + 1)) = esW l n (es.take i) ++ edW l n (es[i]).to (es[i]).lo ((es[i]).hi + 1 - (es[i]).lo) := by
  unfold esW
  rw [List.take_succ_eq_append_getElem h, List.flatMap_append]
  simp
theorem flatMap_nil {α β : Type} {f : α → List β} : ∀ {l : List α}, (∀ x ∈ l, f x = []) → l.flatMap f = []
  | [], _ => rfl
  | a :: l, h => by rw [List.flatMap_cons, h a (by simp), flatMap_nil fun x hx => h x (by simp [hx])]; rfl
theorem flatMap_congr {α β : Type} {f g : α → List β} : ∀ {l : List α}, (∀ x ∈ l, f x = g x) → l.flatMap f = l.flatMap g
  | [], _ => rfl
  | a :: l, h => by rw [List.flatMap_cons, List.flatMap_cons, h a (by simp), flatMap_congr fun x hx => h x (by simp [hx])]
theorem esW_all {l : Table} {n N : Nat} : ∀ (es : List Ed) (q : Nat), wfEdges N ((q : Int) - 1) es → bytesEdges es → q ≤ 256 →
    (List.range' q (256 - q)).flatMap (fun b => byteW l n (estep es b) b) = esW l n es
  | [], q, _, _, _ => flatMap_nil fun b _ => by
      show (wex l n (-1)).map _ = []
      rw [wex_neg l n (by omega)]; rfl
  | e :: es, q, ⟨h1, h2, h3, h4, h5⟩, hb, hq => by
    have hbe := hb e (by simp)
    have e1 : List.range' q (256 - q) = List.range' q (e.lo - q) ++ (List.range' e.lo (e.hi + 1 - e.lo) ++ List.range' (e.hi + 1) (256 - (e.hi + 1))) := by
      have a1 : List.range' e.lo (256 - e.lo) = List.range' e.lo (e.hi + 1 - e.lo) ++ List.range' (e.hi + 1) (256 - (e.hi + 1)) := by
        have := List.range'_append_1 (s := e.lo) (m := e.hi + 1 - e.lo) (n := 256 - (e.hi + 1))
        rw [show e.lo + (e.hi + 1 - e.lo) = e.hi + 1 by omega] at this
        rw [this]; congr 1; omega
      have a2 := List.range'_append_1 (s := q) (m := e.lo - q) (n := 256 - e.lo)
      rw [show q + (e.lo - q) = e.lo by omega] at a2
      rw [← a1, a2]; congr 1; omega
    rw [e1, List.flatMap_append, List.flatMap_append]
    rw [flatMap_nil (l := List.range' q (e.lo - q)) fun b hb' => by
      have hr := List.mem_range'_1.1 hb'
      have : estep (e :: es) b = -1 := estep_none _ _ fun x hx hh => by
        rcases List.mem_cons.1 hx with rfl | hx
        · omega
        · have := (wfEdges_sep h5 x hx).1; omega
      show (wex l n _).map _ = []
      rw [this, wex_neg l n (by omega)]; rfl]
    rw [flatMap_congr (l := List.range' e.lo (e.hi + 1 - e.lo)) (g := byteW l n e.to) fun b hb' => by
      have hr := List.mem_range'_1.1 hb'
      show byteW l n (estep (e :: es) b) b = _
      simp only [estep]
      rw [if_pos ⟨by omega, by omega⟩]]
    rw [flatMap_congr (l := List.range' (e.hi + 1) (256 - (e.hi + 1))) (g := fun b => byteW l n (estep es b) b) fun b hb' => by
      have hr := List.mem_range'_1.1 hb'
      show byteW l n (estep (e :: es) b) b = _
      simp only [estep]
      rw [if_neg (by omega)]]
    rw [esW_all es (e.hi + 1) (by rw [show (((e.hi + 1 : Nat) : Int) - 1) = (e.hi : Int) by omega]; exact h5) (fun x hx => hb x (by simp [hx])) (by omega)]
    rfl
/-- the words of a state: along its edges -/
theorem wex_esW {l : Table} (hw : WF l) (hb : Bytes l) {s : Nat} (hs : s < l.length) (n : Nat) : wex l (n + 1) (s : Int) = esW l n (l[s]).edges := by
  have h := esW_all (l := l) (n := n) (l[s]).edges 0 (by have := hw l[s] (List.getElem_mem hs); simpa using this) (hb l[s] (List.getElem_mem hs)) (by omega)
  rw [← h]
  unfold wex
  rw [List.range_eq_range']
  exact flatMap_congr fun b _ => by rw [tstep_nat l s b hs]; rfl
/-- which states have a word of n bytes -/
def canN (l : Table) (n : Nat) : List Bool := (List.range l.length).map fun (s : Nat) => !(wex l n (s : Int)).isEmpty
theorem canN_len (l : Table) (n : Nat) : (canN l n).length = l.length := by simp [canN]
theorem canN_get (l : Table) (n : Nat) {s : Nat} (h : s < l.length) : (canN l n)[s]? = some (!(wex l n (s : Int)).isEmpty) := by simp [canN, h]
theorem canN_zero (l : Table) : canN l 0 = l.map (·.accept) := by
  apply List.ext_getElem
  · simp [canN]
  · intro i h1 h2
    have hi : i < l.length := by simpa using h2
    simp only [canN, List.getElem_map, List.getElem_range]
    unfold wex
    rw [accAt_nat l i hi]
    cases (l[i]).accept <;> rfl
theorem esW_empty {l : Table} {n : Nat} {es : List Ed} {N : Nat} {p : Int} (hw : wfEdges N p es) : (esW l n es = []) ↔ ∀ e ∈ es, wex l n e.to = [] := by
  constructor
  · intro h e he
    have h1 := wfEdges_sep hw e he
    unfold esW at h
    have h2 := List.flatMap_eq_nil_iff.1 h e he
    unfold edW at h2
    have h3 := List.flatMap_eq_nil_iff.1 h2 e.lo (List.mem_range'_1.2 ⟨Nat.le_refl _, by omega⟩)
    exact List.map_eq_nil_iff.1 h3
  · intro h
    exact flatMap_nil fun e he => edW_nil (h e he) _ _
theorem canN_succ {l : Table} (hw : WF l) (hb : Bytes l) (n : Nat) : canN l (n + 1) = l.map fun s => s.edges.any fun e => (canN l n).getD e.to.toNat false := by
  apply List.ext_getElem
  · simp [canN]
  · intro i h1 h2
    have hi : i < l.length := by simpa using h2
    have e1 : (canN l (n + 1))[i] = !(wex l (n + 1) (i : Int)).isEmpty := by simp [canN]
    rw [e1, List.getElem_map, wex_esW hw hb hi, Bool.eq_iff_iff]
    have hwi := hw l[i] (List.getElem_mem hi)
    have key : ∀ e ∈ (l[i]).edges, (canN l n).getD e.to.toNat false = true ↔ wex l n e.to ≠ [] := by
      intro e he
      have := wfEdges_sep hwi e he
      rw [List.getD_eq_getElem?_getD, canN_get l n (by omega), Option.getD_some, Int.toNat_of_nonneg this.2.2.1]
      simp
    rw [List.any_eq_true]
    constructor
    · intro h
      have hne : ¬ (esW l n (l[i]).edges = []) := by simpa using h
      rw [esW_empty hwi] at hne
      apply Classical.byContradiction
      intro hc
      exact hne fun e he => Classical.byContradiction fun hx => hc ⟨e, he, (key e he).2 hx⟩
    · rintro ⟨e, he, hx⟩
      have := (key e he).1 hx
      have hne : ¬ (esW l n (l[i]).edges = []) := fun h => this ((esW_empty hwi).1 h e he)
      simpa using hne
/-- a way to every state -/
theorem canon_path {l : Table} (h : Canon l) : ∀ t, t < l.length → ∃ u, runTo l 0 u = t := by
  intro t
  induction t using Nat.strongRecOn with
  | _ t ih =>
    intro ht
    by_cases h0 : t = 0
    · exact ⟨[], by rw [h0]; rfl⟩
    · obtain ⟨k, b, hk, hb, hs⟩ := h.reach t (by omega) ht
      obtain ⟨u, hu⟩ := ih k hk (by omega)
      obtain ⟨c, hc⟩ := byteOf b hb
      refine ⟨u ++ [c], ?_⟩
      have : ∀ (u v : List UInt8) (s : Int), runTo l s (u ++ v) = runTo l (runTo l s u) v := by
        intro u v
        induction u with
        | nil => intro s; rfl
        | cons a u ih => intro s; exact ih _
      rw [this, hu]
      show tstep l k c.toNat = t
      rw [hc]; exact hs
/-- if the enumeration is short, no state has long words -/
theorem canN_bound {l : Table} (h : Canon l) {K n : Nat} (hK : (enum l 0 n).length < K) (hn : K * l.length < n) : canN l (n - 1) = List.replicate l.length false := by
  apply List.ext_getElem
  · simp [canN]
  · intro i h1 h2
    have hi : i < l.length := by simpa using h2
    simp only [canN, List.getElem_map, List.getElem_range, List.getElem_replicate]
    rw [Bool.not_eq_false', List.isEmpty_iff]
    apply Classical.byContradiction
    intro hne
    obtain ⟨y, hy⟩ := List.exists_mem_of_ne_nil _ hne
    obtain ⟨g1, g2⟩ := (mem_wex _ _ _ _).1 hy
    obtain ⟨u, hu⟩ := canon_path h i hi
    have hacc : accFrom l 0 (u ++ y) = true := by rw [accFrom_app, hu]; exact g2
    have := enum_many hacc K (by simp; omega)
    have := enum_mono (l := l) (s := 0) (show K * l.length ≤ n by omega)
    omega
/-- no state has words of n bytes: none has longer ones -/
theorem canN_none {l : Table} (hw : WF l) (hb : Bytes l) {n : Nat} (h : ∀ b ∈ canN l n, b = false) : ∀ m, n ≤ m → ∀ b ∈ canN l m, b = false := by
  intro m hm
  induction hm with
  | refl => exact h
  | step _ ih =>
    rw [canN_succ hw hb]
    intro b hbm
    obtain ⟨s, hs, rfl⟩ := List.mem_map.1 hbm
    rw [Bool.eq_false_iff]
    intro hx
    obtain ⟨e, he, hx⟩ := List.any_eq_true.1 hx
    rw [List.getD_eq_getElem?_getD] at hx
    cases hg : (canN l _)[e.to.toNat]? with
    | none => rw [hg] at hx; simp at hx
    | some b =>
      rw [hg] at hx
      have := ih b (List.mem_of_getElem? hg)
      rw [this] at hx; simp at hx
theorem enum_done {l : Table} (hw : WF l) (hb : Bytes l) {n : Nat} (h : ∀ b ∈ canN l n, b = false) : ∀ y, accFrom l 0 y = true → y.length < n := by
  intro y hy
  apply Classical.byContradiction
  intro hn
  have h1 := canN_none hw hb h y.length (by omega)
  have hr := accFrom_range hy
  have h0 : 0 < l.length := by omega
  have h2 := h1 _ (List.mem_of_getElem? (canN_get l y.length h0))
  have h3 : y ∈ wex l y.length ((0 : Nat) : Int) := (mem_wex _ _ _ _).2 ⟨rfl, hy⟩
  rw [Bool.not_eq_false', List.isEmpty_iff] at h2
  rw [h2] at h3
  simp at h3
end Cl
namespace Cl

/-- the words of a state are bounded -/
def Bnd (l : Table) (s : Int) : Prop := FinSet (accFrom l s)
def FInv (l : Table) (left : List Bool) : Prop := left.length = l.length ∧ ∀ s : Nat, s < l.length → left[s]? = some false → Bnd l s
theorem bnd_neg (l : Table) {s : Int} (h : s < 0) : Bnd l s := ⟨0, fun y hy => by rw [accFrom_neg h] at hy; cases hy⟩
theorem bnd_edges {l : Table} {s : Nat} (hs : s < l.length) (h : ∀ e ∈ (l[s]).edges, Bnd l e.to) : Bnd l s := by
  have key : ∀ es : List Ed, (∀ e ∈ es, Bnd l e.to) → ∃ L, ∀ b y, accFrom l (estep es b) y = true → y.length < L := by
    intro es
    induction es with
    | nil => intro _; exact ⟨0, fun b y hy => by simp only [estep] at hy; rw [accFrom_neg (by omega)] at hy; cases hy⟩
    | cons e es ih =>
      intro he
      obtain ⟨L, hL⟩ := ih fun x hx => he x (by simp [hx])
      obtain ⟨L', hL'⟩ := he e (by simp)
      refine ⟨max L L', fun b y hy => ?_⟩
      simp only [estep] at hy
      split at hy
      · have := hL' y hy; omega
      · have := hL b y hy; omega
  obtain ⟨L, hL⟩ := key _ h
  refine ⟨L + 1, fun y hy => ?_⟩
  cases y with
  | nil => simp
  | cons b y =>
    simp only [accFrom] at hy
    rw [tstep_nat l s _ hs] at hy
    have := hL _ y hy
    simp; omega
theorem finv_start (l : Table) : FInv l (List.replicate l.length true) := ⟨by simp, fun s hs h => by simp [hs] at h⟩
theorem finv_set {l : Table} {left : List Bool} (h : FInv l left) {s : Nat} (hs : s < l.length) (hw : WF l) (he : ∀ e ∈ (l[s]).edges, left[e.to.toNat]? = some false) : FInv l (left.set s false) := by
  refine ⟨by rw [List.length_set]; exact h.1, fun t ht hf => ?_⟩
  by_cases e : s = t
  · subst e
    refine bnd_edges hs fun e he' => ?_
    have hr := wfEdges_sep (hw l[s] (List.getElem_mem hs)) e he'
    have := h.2 e.to.toNat (by omega) (he e he')
    rwa [Int.toNat_of_nonneg hr.2.2.1] at this
  · rw [List.getElem?_set_ne e] at hf
    exact h.2 t ht hf
theorem count_set_lt {left : List Bool} {s : Nat} (h : left[s]? = some true) : (left.set s false).count true < left.count true := by
  induction left generalizing s with
  | nil => simp at h
  | cons b l ih =>
    cases s with
    | zero =>
      simp at h
      subst h
      simp
    | succ s =>
      have := ih (s := s) (by simpa using h)
      simp only [List.set_cons_succ, List.count_cons]
      omega
/-- no state that is left comes to an end -/
def NoEnd (l : Table) (left : List Bool) (k : Nat) : Prop := ∀ s : Nat, s < k → ∀ h : s < l.length, left[s]? = some true → ∃ e ∈ (l[s]).edges, left[e.to.toNat]? = some true
theorem noEnd_long {l : Table} (hw : WF l) (hb : Bytes l) {left : List Bool} (hl : left.length = l.length) (h : NoEnd l left l.length) : ∀ (n s : Nat), left[s]? = some true → ∃ (u : List UInt8) (t : Nat), u.length = n ∧ t < l.length ∧ runTo l s u = t ∧ left[t]? = some true
  | 0, s, hs => ⟨[], s, rfl, by have := (List.getElem?_eq_some_iff.1 hs).1; omega, rfl, hs⟩
  | n + 1, s, hs => by
    have hsl : s < l.length := by have := (List.getElem?_eq_some_iff.1 hs).1; omega
    obtain ⟨e, he, hx⟩ := h s hsl hsl hs
    have hr := wfEdges_sep (hw l[s] (List.getElem_mem hsl)) e he
    have hbe := hb l[s] (List.getElem_mem hsl) e he
    obtain ⟨u, t, h1, h2, h3, h4⟩ := noEnd_long hw hb hl h n e.to.toNat hx
    obtain ⟨c, hc⟩ := byteOf e.lo (by omega)
    refine ⟨c :: u, t, by simp [h1], h2, ?_, h4⟩
    show runTo l (tstep l s c.toNat) u = t
    rw [hc, tstep_nat l s _ hsl, wf_estep_lo (hw l[s] (List.getElem_mem hsl)) e he]
    rwa [Int.toNat_of_nonneg hr.2.2.1] at h3
theorem runTo_app' (l : Table) : ∀ (u v : List UInt8) (s : Int), runTo l s (u ++ v) = runTo l (runTo l s u) v
  | [], _, _ => rfl
  | _ :: u, v, _ => runTo_app' l u v _
/-- what is left tells whether the set is finite -/
theorem fin_left {l : Table} (hC : Canon l) {left : List Bool} (h : FInv l left) (hn : NoEnd l left l.length) : FinSet (accFrom l 0) ↔ ¬ (true ∈ left) := by
  constructor
  · rintro ⟨L, hL⟩ hm
    obtain ⟨s, hs, hx⟩ := List.mem_iff_getElem.1 hm
    have hs' : left[s]? = some true := by rw [List.getElem?_eq_getElem hs, hx]
    obtain ⟨u, t, h1, h2, h3, h4⟩ := noEnd_long hC.wf hC.bytes h.1 hn L s hs'
    obtain ⟨v, hv⟩ := canon_path hC s (by have := h.1; omega)
    obtain ⟨w, hw⟩ := hC.live t h2
    have := hL (v ++ (u ++ w)) (by rw [accFrom_app, hv, accFrom_app, h3]; exact hw)
    simp at this
    omega
  · intro hm
    by_cases h0 : 0 < l.length
    · refine h.2 0 h0 ?_
      have hl0 : 0 < left.length := by have := h.1; omega
      rw [List.getElem?_eq_getElem hl0]
      cases hb : left[0] with
      | false => rfl
      | true => exact absurd (by rw [← hb]; exact List.getElem_mem hl0) hm
    · refine ⟨0, fun y hy => ?_⟩
      rw [accFrom_out l 0 y (by omega)] at hy; cases hy
end Cl
namespace Cl

theorem aw_least : IsLeast (fun x => decide (x = [98]) || decide (x = [97])) (some [97]) := by
  refine ⟨by decide, fun y hy => ?_⟩
  simp only [Bool.or_eq_true, decide_eq_true_eq] at hy
  rcases hy with rfl | rfl
  · exact .inr (.inr ⟨rfl, .inl (by decide)⟩)
  · exact .inl rfl
theorem aw_sub : ∀ x : List UInt8, (decide (x = [97]) && !(decide (x = [97]) || decide (x = [98]))) = false := fun x => by
  cases decide (x = [97]) <;> cases decide (x = [98]) <;> rfl
theorem aw_nsub : ¬ ∀ x : List UInt8, ((!decide (x = [97])) && !decide (x = [98])) = false := fun h => by
  have := h []
  simp at this
theorem aw_and : ∀ x : List UInt8, (decide (x = [97]) && decide (x = [98])) = false := fun x => by
  by_cases h : x = [97]
  · subst h; decide
  · simp [h]
theorem aw_fin : FinSet fun x => decide (x = [97]) := ⟨2, fun y hy => by
  have : y = [97] := by simpa using hy
  subst this; decide⟩
theorem aw_nfin : ¬ FinSet fun x => !decide (x = [97]) := fun ⟨L, h⟩ => by
  have := h (List.replicate (L + 2) 0) (by
    have : List.replicate (L + 2) (0 : UInt8) ≠ [97] := fun e => by
      have := congrArg List.length e
      simp at this
    simp [this])
  simp at this
  omega
theorem aw_cmp : CmpIs (fun x => decide (x = [97])) (fun x => decide (x = [98])) (-1) := by
  refine .lt [97] (by decide) (by decide) fun y hy => ?_
  have h1 : y ≠ [97] := slt_ne hy
  have h2 : y ≠ [98] := fun e => by
    subst e
    exact slt_asymm hy (.inr ⟨rfl, .inl (by decide)⟩)
  simp [h1, h2]
theorem aw_first : IsFirst (fun x => (!decide (x = [97])) && !decide (x = [98])) 2 [[], [0]] := by
  have h0 : ∀ y : List UInt8, y ∉ ([[], [0]] : List (List UInt8)) → slt [] y ∧ slt [0] y := fun y hy => by
    match y, hy with
    | [], hy => simp at hy
    | [c], hy =>
      have hc : c ≠ 0 := fun e => by subst e; simp at hy
      have hc : (0 : UInt8) < c := by
        rw [UInt8.lt_iff_toNat_lt]
        have : c.toNat ≠ 0 := fun e => hc (UInt8.toNat_inj.1 (by simpa using e))
        have e : (0 : UInt8).toNat = 0 := rfl
        omega
      exact ⟨.inl (by simp), .inr ⟨rfl, .inl hc⟩⟩
    | a :: b :: r, _ => exact ⟨.inl (by simp), .inl (by simp)⟩
  refine ⟨.cons (fun b hb => ?_) (.cons (by simp) .nil), fun x hx => ?_, by simp, fun y _ hy => ⟨rfl, fun x hx => ?_⟩⟩
  · simp only [List.mem_singleton] at hb
    subst hb
    exact .inl (by simp)
  · simp only [List.mem_cons, List.not_mem_nil, or_false] at hx
    rcases hx with rfl | rfl <;> decide
  · simp only [List.mem_cons, List.not_mem_nil, or_false] at hx
    rcases hx with rfl | rfl
    · exact (h0 y hy).1
    · exact (h0 y hy).2
end Cl
namespace Cl

theorem nodup_of_dif {cf : Nat → Int} {o : List Nat} (h : Dif cf o) : o.Nodup := List.Pairwise.imp (fun hab e => hab (by rw [e])) h
theorem dif_len {cf : Nat → Int} {o : List Nat} {N : Nat} (h : Dif cf o) (hl : ∀ x ∈ o, x < N) : o.length ≤ N := by
  have := nodup_sub o (List.range N) (nodup_of_dif h) (fun x hx => List.mem_range.2 (hl x hx))
  simpa using this
/-- the place of a class -/
def posC (cf : Nat → Int) (o : List Nat) (c : Int) : Nat := o.findIdx fun s => cf s == c
theorem posC_of (cf : Nat → Int) (o : List Nat) (t : Nat) : posC cf o (cf t) = posOf cf o t := rfl
theorem posC_app (cf : Nat → Int) (o : List Nat) (t : Nat) (c : Int) : posC cf (o ++ [t]) c = if posC cf o c < o.length then posC cf o c else if cf t = c then o.length else o.length + 1 := by
  unfold posC
  rw [List.findIdx_append]
  split
  · rfl
  · by_cases h : cf t = c
    · simp [h]
    · simp [h]; omega
theorem pushEd_nil (lo hi to : Nat) : pushEd [] lo hi to = [⟨lo, hi, to⟩] := rfl
theorem pushEd_app {fs : List Ed} {e : Ed} {lo hi to : Nat} (h : ¬ (e.to = to ∧ e.hi + 1 = lo)) : pushEd (fs ++ [e]) lo hi to = (fs ++ [e]) ++ [⟨lo, hi, to⟩] := by
  unfold pushEd
  simp [h]
theorem pushEd_set {fs : List Ed} {e : Ed} {lo hi to : Nat} (h : e.to = to ∧ e.hi + 1 = lo) : pushEd (fs ++ [e]) lo hi to = fs ++ [⟨e.lo, hi, e.to⟩] := by
  unfold pushEd
  simp [h]
theorem pushEd_len (es : List Ed) (lo hi to : Nat) : (pushEd es lo hi to).length ≤ es.length + 1 := by
  unfold pushEd
  split
  · split <;> simp
  · simp
theorem rowTo_len (cf : Nat → Int) (dl : Nat → Nat → Option Nat) (lo hi : Nat → Nat) (s : Nat) (o : List Nat) : ∀ i, (rowTo cf dl lo hi s o i).2.length ≤ i := by
  intro i
  induction i with
  | zero => simp [rowTo]
  | succ i ih =>
    simp only [rowTo]
    split
    · omega
    · have := pushEd_len (rowTo cf dl lo hi s o i).2 (lo i) (hi i) (posOf cf (rowTo cf dl lo hi s o i).1 (by assumption))
      simp only
      omega
theorem rowTo_none {cf : Nat → Int} {dl : Nat → Nat → Option Nat} {lo hi : Nat → Nat} {s : Nat} {o : List Nat} {i : Nat} (h : dl s i = none) : rowTo cf dl lo hi s o (i + 1) = rowTo cf dl lo hi s o i := by simp [rowTo, h]
theorem rowTo_some {cf : Nat → Int} {dl : Nat → Nat → Option Nat} {lo hi : Nat → Nat} {s : Nat} {o : List Nat} {i t : Nat} (h : dl s i = some t) :
    rowTo cf dl lo hi s o (i + 1) = (ordAdd cf (rowTo cf dl lo hi s o i).1 t, pushEd (rowTo cf dl lo hi s o i).2 (lo i) (hi i) (posOf cf (rowTo cf dl lo hi s o i).1 t)) := by simp [rowTo, h]
/-- edges whose parts are bytes and ints -/
theorem row_edok {cf : Nat → Int} {dl : Nat → Nat → Option Nat} {lo hi : Nat → Nat} {K N s : Nat} {o : List Nat} {i : Nat} {r : List Nat × List Ed} (h : RowInv cf dl lo hi K N s o i r) (hN : N ≤ 2000000) :
    ∀ e ∈ r.2, e.lo < 256 ∧ e.hi < 256 ∧ -9223372036854775808 ≤ e.to ∧ e.to ≤ 9223372036854775807 := by
  intro e he
  have h1 := h.bytes e he
  have h2 := wfEdges_sep h.wf e he
  have h3 := dif_len h.dif h.lt
  exact ⟨h1.1, h1.2, by omega, by omega⟩
end Cl
namespace Go.Proofs
open Go.Shelf
def Tryd.lays169_ren : Go.Shelf.Ren := ⟨fun | 169 => 99 | n => n, fun | 70 => 116 | 9 => 9 | 0 => 0 | 72 => 118 | 37 => 90 | 127 => 124 | 3 => 3 | 5 => 5 | n => n, fun | n => n⟩
theorem Tryd.lays169 : Go.Proofs.Lays.n169 Tryd.prog Tryd.lays169_ren := {
  mixed := by kernel_rfl
  f169 := Tryd.func99.trans (congrArg some (by kernel_rfl))
  t0 := Tryd.underlying0
  a0 := Tryd.isAgg0
  z0 := Tryd.sizeOf0
  v0 := Tryd.zeroValue0
  t3 := Tryd.underlying3
  a3 := Tryd.isAgg3
  z3 := Tryd.sizeOf3
  v3 := Tryd.zeroValue3
  t9 := Tryd.underlying9
  a9 := Tryd.isAgg9
  z9 := Tryd.sizeOf9
  v9 := Tryd.zeroValue9
  t37 := Tryd.underlying90
  a37 := Tryd.isAgg90
  z37 := Tryd.sizeOf90
  v37 := Tryd.zeroValue90
  t70 := Tryd.underlying116
  a70 := Tryd.isAgg116
  z70 := Tryd.sizeOf116
  v70 := Tryd.zeroValue116
  t72 := Tryd.underlying118
  a72 := Tryd.isAgg118
  z72 := Tryd.sizeOf118
  v72 := Tryd.zeroValue118
  t127 := Tryd.underlying124
  a127 := Tryd.isAgg124
  z127 := Tryd.sizeOf124
  v127 := Tryd.zeroValue124 }
theorem Tryd.Builder_Extra_169 : Builder.Extra Tryd.prog Tryd.lays169_ren := {
  sizeBuilder := by kernel_rfl
  liesBuilder := by kernel_rfl
  t5 := Tryd.underlying5
  a5 := Tryd.isAgg5
  z5 := Tryd.sizeOf5
  v5 := Tryd.zeroValue5
  infoByte := by kernel_rfl
  cellsByte := by kernel_rfl
  sizeByte := by kernel_rfl
  neB5 := by decide }
open Go.RowKit in
theorem Tryd.Builder_String_empty (B b : Nat) (w : World) (h : Lib.IsBuilder 118 5 B b [] w) (hBw : B ≤ w.heap.size) :
    Calls Tryd.prog 99 #[.pointer (some ⟨b, 0, none⟩)] w fun e w' => e = .returned (.string ⟨#[]⟩) ∧ Below B w w' := Any.Builder_String_empty Tryd.lays169 Tryd.Builder_Extra_169 B b w h hBw
open Go.RowKit in
theorem Tryd.Builder_String_any (B b : Nat) (l : List UInt8) (w : World) (h : Lib.IsBuilder 118 5 B b (Lib.byteCells l) w) (hBw : B ≤ w.heap.size) :
    Calls Tryd.prog 99 #[.pointer (some ⟨b, 0, none⟩)] w fun e w' => e = .returned (.string ⟨l.toArray⟩) ∧ Below B w w' := Any.Builder_String_any Tryd.lays169 Tryd.Builder_Extra_169 B b l w h hBw
def Tryd.lays122_ren : Go.Shelf.Ren := ⟨fun | 122 => 52 | 215 => 80 | n => n, fun | 3 => 3 | 4 => 4 | n => n, fun | n => n⟩
theorem Tryd.lays122 : Go.Proofs.Lays.n122 Tryd.prog Tryd.lays122_ren := {
  mixed := by kernel_rfl
  f122 := Tryd.func52.trans (congrArg some (by kernel_rfl))
  f215 := Tryd.func80.trans (congrArg some (by kernel_rfl))
  t3 := Tryd.underlying3
  a3 := Tryd.isAgg3
  z3 := Tryd.sizeOf3
  v3 := Tryd.zeroValue3
  t4 := Tryd.underlying4
  a4 := Tryd.isAgg4
  z4 := Tryd.sizeOf4
  v4 := Tryd.zeroValue4 }
open Go.RowKit in
theorem Tryd.cmp_Compare_int (x y : Int) (w : World) :
    Calls Tryd.prog 52 #[.int .i64 x, .int .i64 y] w fun e w' => e = .returned (.int .i64 (Lib.compareInt x y)) ∧ w' = w := Any.cmp_Compare_int Tryd.lays122 x y w
def Tryd.laysM171_ren : Go.Shelf.Ren := ⟨fun | 171 => 98 | 243 => 101 | 246 => 103 | 283 => 104 | 284 => 105 | 285 => 106 | 286 => 107 | 129 => 109 | 317 => 108 | 318 => 110 | 319 => 111 | 320 => 112 | 337 => 113 | 338 => 114 | n => n, fun | 3 => 3 | 9 => 9 | 2 => 2 | 4 => 4 | 171 => 128 | 0 => 0 | 53 => 129 | 37 => 90 | 5 => 5 | 173 => 132 | 212 => 136 | 51 => 137 | 20 => 20 | 213 => 138 | 46 => 139 | 232 => 142 | 233 => 143 | n => n, fun | 17 => 0 | 18 => 1 | 19 => 2 | n => n⟩
theorem Tryd.laysM171 : Go.Proofs.LaysM.n171 Tryd.prog Tryd.laysM171_ren := {
  mixed := by kernel_rfl
  f129 := Tryd.func109.trans (congrArg some (by kernel_rfl))
  f171 := Tryd.func98.trans (congrArg some (by kernel_rfl))
  f243 := Tryd.func101.trans (congrArg some (by kernel_rfl))
  f246 := Tryd.func103.trans (congrArg some (by kernel_rfl))
  f283 := Tryd.func104.trans (congrArg some (by kernel_rfl))
  f284 := Tryd.func105.trans (congrArg some (by kernel_rfl))
  f285 := Tryd.func106.trans (congrArg some (by kernel_rfl))
  f286 := Tryd.func107.trans (congrArg some (by kernel_rfl))
  f317 := Tryd.func108.trans (congrArg some (by kernel_rfl))
  f318 := Tryd.func110.trans (congrArg some (by kernel_rfl))
  f319 := Tryd.func111.trans (congrArg some (by kernel_rfl))
  f320 := Tryd.func112.trans (congrArg some (by kernel_rfl))
  f337 := Tryd.func113.trans (congrArg some (by kernel_rfl))
  f338 := Tryd.func114.trans (congrArg some (by kernel_rfl))
  t0 := Tryd.underlying0
  a0 := Tryd.isAgg0
  z0 := Tryd.sizeOf0
  v0 := Tryd.zeroValue0
  t2 := Tryd.underlying2
  a2 := Tryd.isAgg2
  z2 := Tryd.sizeOf2
  v2 := Tryd.zeroValue2
  t3 := Tryd.underlying3
  a3 := Tryd.isAgg3
  z3 := Tryd.sizeOf3
  v3 := Tryd.zeroValue3
  t4 := Tryd.underlying4
  a4 := Tryd.isAgg4
  z4 := Tryd.sizeOf4
  v4 := Tryd.zeroValue4
  t5 := Tryd.underlying5
  a5 := Tryd.isAgg5
  z5 := Tryd.sizeOf5
  v5 := Tryd.zeroValue5
  t9 := Tryd.underlying9
  a9 := Tryd.isAgg9
  z9 := Tryd.sizeOf9
  v9 := Tryd.zeroValue9
  t20 := Tryd.underlying20
  a20 := Tryd.isAgg20
  z20 := Tryd.sizeOf20
  v20 := Tryd.zeroValue20
  t37 := Tryd.underlying90
  a37 := Tryd.isAgg90
  z37 := Tryd.sizeOf90
  v37 := Tryd.zeroValue90
  t46 := Tryd.underlying139
  a46 := Tryd.isAgg139
  z46 := Tryd.sizeOf139
  v46 := Tryd.zeroValue139
  t51 := Tryd.underlying137
  a51 := Tryd.isAgg137
  z51 := Tryd.sizeOf137
  v51 := Tryd.zeroValue137
  t53 := Tryd.underlying129
  a53 := Tryd.isAgg129
  z53 := Tryd.sizeOf129
  v53 := Tryd.zeroValue129
  t171 := Tryd.underlying128
  a171 := Tryd.isAgg128
  z171 := Tryd.sizeOf128
  v171 := Tryd.zeroValue128
  t173 := Tryd.underlying132
  a173 := Tryd.isAgg132
  z173 := Tryd.sizeOf132
  v173 := Tryd.zeroValue132
  t212 := Tryd.underlying136
  a212 := Tryd.isAgg136
  z212 := Tryd.sizeOf136
  v212 := Tryd.zeroValue136
  t213 := Tryd.underlying138
  a213 := Tryd.isAgg138
  z213 := Tryd.sizeOf138
  t232 := Tryd.underlying142
  a232 := Tryd.isAgg142
  z232 := Tryd.sizeOf142
  v232 := Tryd.zeroValue142
  t233 := Tryd.underlying143
  a233 := Tryd.isAgg143
  z233 := Tryd.sizeOf143
  v233 := Tryd.zeroValue143
  g17 := by kernel_rfl
  g18 := by kernel_rfl
  g19 := by kernel_rfl
  i0 := by kernel_rfl
  i2 := by kernel_rfl
  i3 := by kernel_rfl
  i4 := by kernel_rfl
  i5 := by kernel_rfl
  i9 := by kernel_rfl
  i20 := by kernel_rfl
  i37 := by kernel_rfl
  i46 := by kernel_rfl
  i51 := by kernel_rfl
  i53 := by kernel_rfl
  i171 := by kernel_rfl
  i173 := by kernel_rfl
  i212 := by kernel_rfl
  i232 := by kernel_rfl
  i233 := by kernel_rfl
  m17 := by kernel_rfl
  m18 := by kernel_rfl
  m19 := by kernel_rfl }
open Go.RowKit Go.Sort Go.Lib in
theorem Tryd.strconv_Itoa (n : Int) (h0 : -9223372036854775808 ≤ n) (h1 : n ≤ 9223372036854775807) (w : World) (htab : Lib.TabIs Tryd.prog w "internal/strconv.uint64pow10" .u64 Lib.pow10Tab) :
    Calls Tryd.prog 98 #[.int .i64 n] w fun e w' => e = .returned (.string ⟨(Lib.itoa n).toArray⟩) ∧ ∃ k os, w' = grow (w.drewN k) os := Any.strconv_Itoa Tryd.laysM171 n h0 h1 w htab
end Go.Proofs
namespace Cl
open Go Go.RowKit Go.Proofs

set_option maxHeartbeats 1000000 in
set_option maxRecDepth 100000 in
theorem copyCheck_used (b : Nat) (w : World) (h0 : w.cell? ⟨b, 0, none⟩ = some (.pointer (some ⟨b, 0, none⟩))) :
    Calls Tryd.prog 100 #[.pointer (some ⟨b, 0, none⟩)] w fun e w' => e = .returned (.tuple #[]) ∧ w' = w := by
  obtain ⟨j, hj, _⟩ := Option.map_eq_some_iff.1 (show (Tryd.prog.info? 118).map (·.size) = some 2 by kernel_rfl)
  go_enter Tryd.func100, Tryd.ntmps100
  go_wp2
  rw [Lib.run_neq_ptr_same w _ Tryd.underlying116 hj]
  go_wp2
  go_end0
  exact ⟨rfl, rfl⟩
set_option maxHeartbeats 1000000 in
set_option maxRecDepth 100000 in
theorem copyCheck_fresh (b : Nat) (w : World) (h0 : w.cell? ⟨b, 0, none⟩ = some (.pointer none)) (hsh : w.shape? b = some (118, 2)) (hfz : w.frozen? ⟨b, 0, none⟩ = false) :
    Calls Tryd.prog 100 #[.pointer (some ⟨b, 0, none⟩)] w fun e w' => e = .returned (.tuple #[]) ∧ w' = w.setCell ⟨b, 0, none⟩ (.pointer (some ⟨b, 0, none⟩)) := by
  obtain ⟨j, hj, hjs⟩ := Option.map_eq_some_iff.1 (show (Tryd.prog.info? 118).map (·.size) = some 2 by kernel_rfl)
  go_enter Tryd.func100, Tryd.ntmps100
  go_wp2
  rw [Lib.run_to_unsafe w ⟨b, 0, none⟩ Tryd.underlying116 Tryd.underlying125 hj (by rw [hjs]; decide) hsh (Nat.zero_lt_succ 1)]
  simp only [Result.andThen]
  rw [Oper.upon_value]
  go_wp2
  rw [run_callFunc_extern Tryd.func102 (by kernel_rfl) (by kernel_rfl) (by kernel_rfl) (e := Extern.AbiNoEscape.same) (by kernel_rfl)]
  rw [Lib.run_noEscape]
  simp only [Result.andThen]
  rw [Oper.upon_value]
  go_wp2
  rw [Lib.run_from_unsafe w ⟨b, 0, none⟩ Tryd.underlying125 Tryd.underlying116 hj hsh (by kernel_rfl)]
  simp only [Result.andThen]
  rw [Oper.upon_value]
  go_wp2
  go_end0
  exact ⟨rfl, rfl⟩
theorem copyCheck_any (B b : Nat) (bs : List Value) (w : World) (h : Lib.IsBuilder 118 5 B b bs w) :
    Calls Tryd.prog 100 #[.pointer (some ⟨b, 0, none⟩)] w fun e w' => e = .returned (.tuple #[]) ∧ (Lib.BuilderAt 118 5 B b (.pointer (some ⟨b, 0, none⟩)) bs w' ∧ Below B w w') := by
  rcases h with h | h
  · refine (copyCheck_fresh b w h.cell0 h.shape h.frozen0).mono ?_
    rintro e w' ⟨rfl, rfl⟩
    exact ⟨rfl, h.used _, (Below.refl B w).setCell (p := ⟨b, 0, none⟩) h.1 _⟩
  · refine (copyCheck_used b w h.cell0).mono ?_
    rintro e w' ⟨rfl, rfl⟩
    exact ⟨rfl, h, Below.refl B _⟩
set_option maxHeartbeats 2000000 in
set_option maxRecDepth 100000 in
theorem WriteString_any (B b : Nat) (bs : List Value) (s : ByteArray) (w : World) (h : Lib.IsBuilder 118 5 B b bs w) (hlen : bs.length + s.size ≤ 140737488355328) (hBw : B ≤ w.heap.size) :
    Calls Tryd.prog 97 #[.pointer (some ⟨b, 0, none⟩), .string s] w fun e w' => e = .returned (.tuple #[.int .i64 s.size, .nilIface]) ∧ (Lib.BuilderAt 118 5 B b (.pointer (some ⟨b, 0, none⟩)) (bs ++ Lib.strCells s) w' ∧ Below B w w') := by
  obtain ⟨i0, hi, hz0, hz1, hz2⟩ := info_parts (show (Tryd.prog.info? 5).map (fun i => (i.zero, i.size, i.bytes)) = some (some (.int .u8 0), 1, 1) by kernel_rfl)
  go_enter Tryd.func97, Tryd.ntmps97
  go_wp2_with (go_at_call 100; refine (copyCheck_any B b bs _ h).mono ?_)
  rintro e w1 ⟨rfl, h1, hb1⟩
  obtain ⟨hB, v, hbk, hown, hne⟩ := h1
  have c0 : w1.cell? ⟨b, 0, none⟩ = some (.pointer (some ⟨b, 0, none⟩)) := by rw [Lib.cell_of_heap hbk]; rfl
  have c1 : w1.cell? ⟨b, 1, none⟩ = some v := by rw [Lib.cell_of_heap hbk]; rfl
  go_wp2_with (at_builtin; refine Lib.wpList_append_own_string _ rfl _ _ 90 9 rfl B 5 i0 Tryd.underlying90 Tryd.underlying9 hi hz0 hz1 hz2 _ _ _ rfl hown s rfl ?c3 ?c4 ?c5 ?_)
  case c3 => unfold maxLen; omega
  case c4 => omega
  case c5 => have := hb1.size; omega
  intro v' w2 hown' hgrow _
  have hlt : b < w1.heap.size := by
    rcases Nat.lt_or_ge b w1.heap.size with h' | h'
    · exact h'
    · simp [Array.getElem?_eq_none h'] at hbk
  have hb2 : w2.heap[b]? = some (.cells #[.pointer (some ⟨b, 0, none⟩), v] 118 (0, 0)) := by
    rw [hgrow.block b hlt (fun e => hne e.symm)]
    exact hbk
  have d0 : w2.cell? ⟨b, 0, none⟩ = some (.pointer (some ⟨b, 0, none⟩)) := by rw [Lib.cell_of_heap hb2]; rfl
  have d1 : w2.cell? ⟨b, 1, none⟩ = some v := by rw [Lib.cell_of_heap hb2]; rfl
  have f1 : w2.frozen? ⟨b, 1, none⟩ = false := Lib.frozen_of_heap hb2 1
  obtain ⟨ao, n', cap, rfl⟩ : ∃ ao n' cap, v' = .slice ao n' cap := by
    rcases hown'.2 with ⟨hv, _⟩ | ⟨g, cap, cur, hv, _⟩
    · exact ⟨_, _, _, hv⟩
    · exact ⟨_, _, _, hv⟩
  go_wp2
  go_ret2
  refine ⟨rfl, ?_, ?_⟩
  · exact Lib.BuilderAt.put (T := 118) (e := 5) hB hb2 (bs' := bs ++ Lib.strCells s) (by simpa [Lib.strCells_length] using hown') (by decide)
  · exact (hb1.grown hgrow (by have := hb1.size; omega) (fun k hk => (hown.lt k hk).1)).setCell (p := ⟨b, 1, none⟩) hB _

/-- the table of powers of ten lies in the sealed memory -/
structure TabM (m : Mem) : Prop where
  get : ∀ w, m.inn w → Lib.TabIs Tryd.prog w "internal/strconv.uint64pow10" .u64 Lib.pow10Tab
theorem TabM.le {m m' : Mem} (h : TabM m) (hl : m.le m') : TabM m' := ⟨fun w hw => h.get w (Mem.inn_le hl hw)⟩
end Cl
namespace Cl
open Go Go.RowKit

structure IMap (P : Program) (k e : TypeId) (o : Obj) (n sz : Nat) (f : Lit → Option Int) : Prop where
  ex : ∃ D : DataW Unit, (∀ (w : World) b, w.heap[b]? = some o → w.ownsMap P k (plainElem P e) b n D) ∧ Maps.size D = sz ∧ Maps.Tidy D ∧ (∀ kl, Maps.has D kl = (f kl).isSome) ∧
    ∀ kl, D.atKey kl (.lit (.int .i64 0)) = .lit (.int .i64 ((f kl).getD 0))
open Classical in
noncomputable def fput (f : Lit → Option Int) (kl : Lit) (x : Int) : Lit → Option Int := fun k => if k = kl then some x else f k
theorem fput_same (f : Lit → Option Int) (kl : Lit) (x : Int) : fput f kl x kl = some x := by simp [fput]
theorem fput_other (f : Lit → Option Int) {kl k : Lit} (x : Int) (h : k ≠ kl) : fput f kl x k = f k := by simp [fput, h]

section
variable {P : Program} {k e : TypeId} {o : Obj} {n sz : Nat} {f : Lit → Option Int}
theorem imap_of_owns {w : World} {b : Nat} {D : DataW Unit} {R : Value → Option (DataW Unit × List MemPlace)} (h : w.ownsMap P k R b n D) : ∃ o, w.heap[b]? = some o ∧ ∀ (w : World) b, w.heap[b]? = some o → w.ownsMap P k R b n D := by
  obtain ⟨es, clock, hb, F, hs, hD⟩ := h
  exact ⟨_, hb, fun w' b' h' => ⟨es, clock, h', F, hs, hD⟩⟩
theorem IMap.made (P : Program) (k e : TypeId) : IMap P k e (.map #[] 0) 0 0 (fun _ => none) := by
  refine ⟨.map [], fun w b h => ?_, rfl, Maps.tidy_empty, fun kl => rfl, fun kl => ?_⟩
  · obtain ⟨es, clock, hb, F, hs, hD⟩ := World.ownsMap_made (H := Unit) w P k (plainElem P e)
    have : (w.alloc (.map #[] 0)).heap[w.heap.size]? = some (.map #[] 0) := show (w.heap.push _)[w.heap.size]? = _ by simp
    rw [this] at hb
    cases hb
    exact ⟨_, _, h, F, hs, hD⟩
  · exact Maps.atKey_of_not_has rfl _

variable {w : World} {t : TypeId} {ops : Array Oper} {rest : List Oper} {op : Oper} {a : Act} {Q : Exit → Act → World → Prop} {b : Nat}
theorem IMap.run_get (h : IMap P k e o n sz f) (K : Maps.Keyed P k) (ht : P.underlying t = some (.map k e)) (he : P.underlying e = some (.int .i64)) (hz : ∀ w, (zeroValue e).run P w = .ok (.int .i64 0) w) (hb : w.heap[b]? = some o)
    {key : Value} {kl : Lit} (hkey : keyOf P k key = some kl) : (Instr.lookup t (.map (some b)) key false).run P w = .ok (.int .i64 ((f kl).getD 0)) w := by
  obtain ⟨D, hD, -, -, -, hat⟩ := h.ex
  obtain ⟨c, hr, hc, -⟩ := (hD w b hb).lookup_int K ht he (hz w) hkey
  rw [hat kl] at hc
  simp only [DataW.lit.injEq, Lit.int.injEq, true_and] at hc
  rw [hr, hc]
theorem IMap.mono (h : IMap P k e o n sz f) {n' : Nat} (hn : n ≤ n') : IMap P k e o n' sz f := by
  obtain ⟨D, hD, h1⟩ := h.ex
  exact ⟨D, fun w b hb => (hD w b hb).mono hn, h1⟩
theorem IMap.run_ok (h : IMap P k e o n sz f) (K : Maps.Keyed P k) (ht : P.underlying t = some (.map k e)) (he : P.underlying e = some (.int .i64)) (hz : ∀ w, (zeroValue e).run P w = .ok (.int .i64 0) w) (hb : w.heap[b]? = some o)
    {key : Value} {kl : Lit} (hkey : keyOf P k key = some kl) : (Instr.lookup t (.map (some b)) key true).run P w = .ok (.tuple #[.int .i64 ((f kl).getD 0), .bool (f kl).isSome]) w := by
  obtain ⟨D, hD, -, -, hh, hat⟩ := h.ex
  obtain ⟨v, ps, hr, hv⟩ := (hD w b hb).look_ok K ht (hz w) (zd := .lit (.int .i64 0)) (zp := []) (plainElem_int he (by decide)) hkey
  obtain ⟨c, rfl, hc, -⟩ := plainElem_int_inv he hv
  have hc := congrArg Prod.fst hc
  simp only at hc
  rw [hat kl] at hc
  simp only [DataW.lit.injEq, Lit.int.injEq, true_and] at hc
  rw [hr, hh kl, hc]
theorem IMap.run_len (h : IMap P k e o n sz f) (ht : P.underlying t = some (.map k e)) (hb : w.heap[b]? = some o) (ty : TypeId) : (Builtin.len_ #[t] ty #[.map (some b)]).run P w = .ok (.int .i64 sz) w := by
  obtain ⟨D, hD, hs, -⟩ := h.ex
  rw [(hD w b hb).len ht ty, hs]
/-- 'm[k]' -/
theorem wpList_imap_get (h : IMap P k e o n sz f) (K : Maps.Keyed P k) (ht : P.underlying t = some (.map k e)) (he : P.underlying e = some (.int .i64)) (hz : ∀ w, (zeroValue e).run P w = .ok (.int .i64 0) w) (hb : w.heap[b]? = some o)
    (hg : op.guard = none) (mm x : Operand) (hop : op.op = Op.lookup t mm x false) (hm : a.eval mm = .map (some b)) (key : Value) (kl : Lit) (hx : a.eval x = key) (hkey : keyOf P k key = some kl)
    (hK : wpList P ops Q rest (a.put op.dst (.int .i64 ((f kl).getD 0))) w) : wpList P ops Q (op :: rest) a w := by
  refine wpList_plain hg fun K' hK' => ?_
  unfold Oper.wp
  simp [execOp, hop, hm, hx, h.run_get K ht he hz hb hkey, Result.andThen]
  exact hK' _ _ hK
/-- 'v, ok := m[k]' -/
theorem wpList_imap_ok (h : IMap P k e o n sz f) (K : Maps.Keyed P k) (ht : P.underlying t = some (.map k e)) (he : P.underlying e = some (.int .i64)) (hz : ∀ w, (zeroValue e).run P w = .ok (.int .i64 0) w) (hb : w.heap[b]? = some o)
    (hg : op.guard = none) (mm x : Operand) (hop : op.op = Op.lookup t mm x true) (hm : a.eval mm = .map (some b)) (key : Value) (kl : Lit) (hx : a.eval x = key) (hkey : keyOf P k key = some kl)
    (hK : wpList P ops Q rest (a.put op.dst (.tuple #[.int .i64 ((f kl).getD 0), .bool (f kl).isSome])) w) : wpList P ops Q (op :: rest) a w := by
  obtain ⟨D, hD, -, -, hh, hat⟩ := h.ex
  refine wpList_lookup_own_ok_int w hg mm x t hop k e .i64 K ht he (hz w) b n D hm (hD w b hb) key kl hx hkey fun c hc _ => ?_
  rw [hat kl] at hc
  simp only [DataW.lit.injEq, Lit.int.injEq, true_and] at hc
  rw [hh kl, ← hc]
  exact hK
/-- 'len(m)' -/
theorem wpList_imap_len (h : IMap P k e o n sz f) (ht : P.underlying t = some (.map k e)) (hb : w.heap[b]? = some o)
    (hg : op.guard = none) (mm : Operand) (hop : op.op = Op.call { callee := Callee.builtin Builtin.len, args := #[mm], argTypes := #[t] }) (hm : a.eval mm = .map (some b))
    (hK : wpList P ops Q rest (a.put op.dst (.int .i64 sz)) w) : wpList P ops Q (op :: rest) a w := by
  obtain ⟨D, hD, hs, -⟩ := h.ex
  refine wpList_len_own w hg mm t hop k e ht _ b n D hm (hD w b hb) ?_
  rw [hs]
  exact hK
theorem IMap.run_put (h : IMap P k e o n sz f) (K : Maps.Keyed P k) (ht : P.underlying t = some (.map k e)) (he : P.underlying e = some (.int .i64)) (hb : w.heap[b]? = some o) (hn : n < maxLen)
    {key : Value} {kl : Lit} (hkey : keyOf P k key = some kl) {x : Int} (hx : (Lit.int .i64 x).wf = true) :
    ∃ w' o', (Instr.mapUpdate t (.map (some b)) key (.int .i64 x)).run P w = .ok () w' ∧ w'.heap[b]? = some o' ∧ IMap P k e o' (n + 1) (if (f kl).isSome then sz else sz + 1) (fput f kl x) ∧ w.grownBy w' (some b) := by
  obtain ⟨D, hD, hs, htd, hh, hat⟩ := h.ex
  have hkl : WideAt.IsKeyLit kl := K.key hkey
  obtain ⟨w', hr, ho, hgr⟩ := (hD w b hb).update K ht hn hkey (plainElem_int he hx)
  obtain ⟨o', ho', hD'⟩ := imap_of_owns ho
  refine ⟨w', o', hr, ho', ⟨_, hD', ?_, htd.put hkl _, fun k' => ?_, fun k' => ?_⟩, hgr⟩
  · rw [Maps.size_put htd, hh kl, hs]
  · by_cases c : k' = kl
    · subst c; rw [Maps.has_put_same htd.isMap hkl, fput_same]; rfl
    · rw [Maps.has_put_other c, fput_other f x c, hh]
  · by_cases c : k' = kl
    · subst c; rw [Maps.atKey_put_same htd.isMap hkl, fput_same]; rfl
    · rw [Maps.atKey_put_other c, fput_other f x c, hat]
/-- 'm[k] = x' -/
theorem wpList_imap_put (h : IMap P k e o n sz f) (K : Maps.Keyed P k) (ht : P.underlying t = some (.map k e)) (he : P.underlying e = some (.int .i64)) (hb : w.heap[b]? = some o) (hn : n < maxLen)
    (hg : op.guard = none) (mm kx v : Operand) (hop : op.op = Op.mapUpdate t mm kx v ∨ op.op = Op.insert t mm kx v) (hm : a.eval mm = .map (some b)) (key : Value) (kl : Lit) (hkx : a.eval kx = key) (hkey : keyOf P k key = some kl) (x : Int) (hv : a.eval v = .int .i64 x) (hx : (Lit.int .i64 x).wf = true)
    (hK : ∀ w' o', w'.heap[b]? = some o' → IMap P k e o' (n + 1) (if (f kl).isSome then sz else sz + 1) (fput f kl x) → w.grownBy w' (some b) → wpList P ops Q rest (a.put op.dst undef) w') : wpList P ops Q (op :: rest) a w := by
  refine wpList_plain hg fun K' hK' => ?_
  obtain ⟨w', o', hr, h1, h2, h3⟩ := h.run_put K ht he hb hn hkey hx
  unfold Oper.wp
  rcases hop with hop | hop
  · simp [execOp, hop, hm, hkx, hv, hr, Result.andThen]
    exact hK' _ _ (hK w' o' h1 h2 h3)
  · simp [execOp, hop, hm, hkx, hv, hr, Result.andThen]
    exact hK' _ _ (hK w' o' h1 h2 h3)
end
end Cl

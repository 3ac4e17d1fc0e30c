/- Lemmas for the proofs: WalkX, WalkZ, WalkAA. -/
import Derived.RegionTactic
import Derived.ChangeAlike
import Derived.Test.YtaolacbikbllcaaDoorPkA2
import Derived.Test.YtaolacbikbllcaaDoorPkA1
import Derived.Test.YtaolacbikbllcaaDoorPkA5
import Derived.Test.YtaolacbikbllcaaDoorPkA3
import Derived.Test.YtaolacbikbllcaaDoorPkA4
import Derived.Test.YtaolacbikbllcaaDoorPkA6
import Derived.Test.YtaolacbikbllcaaDoorPkA7
namespace Cl
open Go Go.RowKit Go.Proofs

/-- the cells of a row of pairs -/
def pairCells (l : List (Int × Int)) : List Value := l.flatMap fun p => [.int .i64 p.1, .int .i64 p.2]
def pairOk (p : Int × Int) : Prop := -9223372036854775808 ≤ p.1 ∧ p.1 ≤ 9223372036854775807 ∧ -9223372036854775808 ≤ p.2 ∧ p.2 ≤ 9223372036854775807
theorem pairCells_append (l : List (Int × Int)) (p : Int × Int) : pairCells (l ++ [p]) = pairCells l ++ [.int .i64 p.1, .int .i64 p.2] := by simp [pairCells]
theorem pairCells_get : ∀ (l : List (Int × Int)) (i : Nat) (h : i < l.length), (pairCells l)[i * 2]? = some (.int .i64 l[i].1) ∧ (pairCells l)[i * 2 + 1]? = some (.int .i64 l[i].2)
  | [], i, h => by simp at h
  | p :: l, 0, _ => by simp [pairCells]
  | p :: l, i + 1, h => by
    have := pairCells_get l i (by simpa using h)
    simp only [pairCells, List.flatMap_cons, List.getElem_cons_succ] at this ⊢
    rw [show (i + 1) * 2 = i * 2 + 2 by omega]
    exact this
theorem pairsAt_of_row {w : World} {t : TypeId} {v : Value} {l : List (Int × Int)} {m : Mem} (hown : w.ownsRow 0 t 2 v l.length (pairCells l)) (hk : ∀ p ∈ l, pairOk p) : pairsAt (m.addv w v) v l :=
  slice_of_row hown fun g hg i h => by
    obtain ⟨h1, h2⟩ := pairCells_get l i h
    exact ⟨row_cell hown hg m h1, row_cell hown hg m h2, hk _ (List.getElem_mem h)⟩
theorem tyPairs : SliceTy Tryd.prog 70 69 2 16 := ⟨Tryd.underlying70, by omega, by
  obtain ⟨i, h1, h2, h3, h4⟩ := info_parts (P := Tryd.prog) (e := 69) (z := .agg #[.int .i64 0, .int .i64 0]) (size := 2) (bytes := 16) (by kernel_rfl)
  exact ⟨i, _, h1, h2, h3, h4, rfl⟩⟩
def pairNo (l : List (Int × Int)) (p : Int × Int) : Nat := l.findIdx (fun q => p = q)
def pairAdd (l : List (Int × Int)) (p : Int × Int) : List (Int × Int) := if pairNo l p < l.length then l else l ++ [p]
theorem firstIdx_pair (l : List (Int × Int)) (x : Int × Int) : firstIdx (fun y => x = y) l 0 = if pairNo l x < l.length then ((pairNo l x : Nat) : Int) else -1 := by
  rcases firstIdx_spec (fun y => x = y) l 0 with ⟨h1, h2⟩ | ⟨i, h1, h2, h3, h4⟩
  · rw [h1, if_neg]
    intro h
    obtain ⟨y, hy, hp⟩ := List.findIdx_lt_length.1 h
    exact h2 y hy (by simpa using hp)
  · have : pairNo l x = i := by
      unfold pairNo
      rw [List.findIdx_eq h1]
      exact ⟨by simpa using h3, fun j hj => by simpa using h4 j (by omega) hj⟩
    rw [h2, this, if_pos h1]
    simp
theorem pairNo_le (l : List (Int × Int)) (p : Int × Int) : pairNo l p ≤ l.length := List.findIdx_le_length
theorem pairAdd_pre (l : List (Int × Int)) (p : Int × Int) : l <+: pairAdd l p := by
  unfold pairAdd; split
  · exact List.prefix_refl _
  · exact List.prefix_append _ _
theorem pairAdd_get (l : List (Int × Int)) (p : Int × Int) : (pairAdd l p)[pairNo l p]? = some p := by
  unfold pairAdd
  split
  · rename_i h
    have := List.findIdx_getElem (p := fun q => decide (p = q)) (xs := l) (w := h)
    rw [List.getElem?_eq_getElem h]
    exact congrArg some (of_decide_eq_true this).symm
  · rename_i h
    have : pairNo l p = l.length := by have := pairNo_le l p; omega
    rw [this]; simp
theorem pairNo_new {l : List (Int × Int)} {p : Int × Int} (h : ¬ pairNo l p < l.length) : p ∉ l := fun hm => h (List.findIdx_lt_length.2 ⟨p, hm, by simp⟩)

set_option maxRecDepth 100000 in
set_option maxHeartbeats 1000000 in
theorem number_any (g : Nat) (v : Value) (l : List (Int × Int)) (p : Int × Int) (w0 w : World) (m mk : Mem) (L : List Item) (hO : Own w0 m w mk (.row v 69 2 l.length (pairCells l) :: .obj g 70 #[v] :: L))
    (_ : pairOk p) (hk : ∀ q ∈ l, pairOk q) (hlen : l.length ≤ 100000000) :
    Calls Tryd.prog 56 #[.agg #[.int .i64 p.1, .int .i64 p.2], .pointer (some ⟨g, 0, none⟩)] w fun e w' => ∃ v', e = .returned (.int .i64 (pairNo l p)) ∧
      Own w0 m w' mk (.row v' 69 2 (pairAdd l p).length (pairCells (pairAdd l p)) :: .obj g 70 #[v'] :: L) := by
  refine calls_hide fun R hR => ?_
  obtain ⟨va, vc, rfl⟩ := row_slice hO.row
  have hO1 := hO.al' (.cells #[.int .i64 p.1, .int .i64 p.2] 69)
  have hs := hO1.sealRow
  have hI := Index_pair_any _ l p _ _ hs.inn (pairsAt_of_row hO1.row hk)
  rw [firstIdx_pair] at hI
  have hle := pairNo_le l p
  have hsz : (w.alloc (.cells #[.int .i64 p.1, .int .i64 p.2] 69)).heap.size = w.heap.size + 1 := by simp
  have hpc0 : (w.alloc (.cells #[.int .i64 p.1, .int .i64 p.2] 69)).heap[w.heap.size]? = some (.cells #[.int .i64 p.1, .int .i64 p.2] 69 (0, 0)) := (ObjAt.new _ _ _).get
  have c1 := hO1.swap.obj.cell (i := 0) rfl
  have c2 := hO1.swap.obj.lt
  have hgw := hO.swap.obj.lt
  by_cases hf : pairNo l p < l.length
  · rw [if_pos hf] at hI
    have hpa : pairAdd l p = l := by unfold pairAdd; rw [if_pos hf]
    generalize pairNo l p = idx at *
    have HI := Lib.hid (And.intro hI (And.intro hO1 hpa))
    clear hI hO1 hs hpc0 hpa hsz hO
    go_enter Tryd.func56, Tryd.ntmps56
    go_wp2_with fail
    refine HI.out.1.mono ?_
    rintro e w1 ⟨rfl, hb1⟩
    have hO2 := HI.out.2.1.move hb1
    go_wp2
    refine hR.out _ _ ⟨.slice va l.length vc, rfl, ?_⟩
    rw [HI.out.2.2]
    exact hO2
  · rw [if_neg hf] at hI
    have hpa : pairAdd l p = l ++ [p] := by unfold pairAdd; rw [if_neg hf]
    have hpn : pairNo l p = l.length := by omega
    generalize hq : pairNo l p = idx at *
    have HI := Lib.hid (And.intro hI (And.intro hO1 (And.intro hpa hpn)))
    clear hI hO1 hs hpa hsz hpn hq hO
    go_enter Tryd.func56, Tryd.ntmps56
    go_wp2_with fail
    refine HI.out.1.mono ?_
    rintro e w1 ⟨rfl, hb1⟩
    have hO2 := HI.out.2.1.move hb1
    have p1 : w1.cell? ⟨w.heap.size, 0, none⟩ = some (.int .i64 p.1) := cell_of_below hb1 (by simp) (by simp)
    have p2 : w1.cell? ⟨w.heap.size, 1, none⟩ = some (.int .i64 p.2) := cell_of_below hb1 (by simp) (by simp)
    have psz : w.heap.size < w1.heap.size := by have := hb1.size; simp at this; omega
    have d1 := hO2.swap.obj.cell (i := 0) rfl
    have d2 := hO2.swap.obj.frozen 0
    have d3 := hO2.swap.obj.lt
    clear hb1 c1 c2
    have hO3 := hO2.al #[.int .i64 p.1, .int .i64 p.2] 69
    have hnews := hO3.obj.news rfl
    clear hO2
    go_wp2_with (at_builtin; refine wpList_append_row tyPairs rfl (.tmp 12) (.tmp 14) rfl (.slice va l.length vc) l.length (pairCells l) rfl hO3.swap.row ⟨w1.heap.size, 0, none⟩ 1 1 [.int .i64 p.1, .int .i64 p.2] rfl rfl hnews (by simp [Value.oneCell']) (by unfold maxLen; omega) (by omega) ?_)
    intro xa xc w7 hown7 hgrow7 hrow7
    have hO4 := (hO3.swap.app hown7 hgrow7 hrow7 (by simp)).drop2.swap
    have d1 := hO4.obj.cell (i := 0) rfl
    have d2 := hO4.obj.frozen 0
    have d3 := hO4.obj.lt
    have hO5 := (hO4.set 0 (.slice xa (l.length + 1) xc)).swap
    have HO5 := Lib.hid hO5
    clear hO5 hO4 hO3 hnews hown7 hgrow7 hrow7
    go_wp2
    refine hR.out _ _ ⟨.slice xa (l.length + 1) xc, ret_int (by rw [HI.out.2.2.2]), ?_⟩
    rw [HI.out.2.2.1, pairCells_append, show (l ++ [p]).length = l.length + 1 by simp]
    exact HO5.out

/-- the marks that the edges of a state make -/
def edsMark (es : List Ed) (b : Nat) : Prop := ∃ e ∈ es, edMark e b
theorem edsMark_take {es : List Ed} {j : Nat} (h : j < es.length) (b : Nat) : edsMark (es.take (j + 1)) b ↔ edsMark (es.take j) b ∨ edMark es[j] b := edMark_take h b
def esOf (l : Table) (s : Int) : List Ed := if s < 0 then [] else match l[s.toNat]? with
  | some st => st.edges
  | none => []
theorem tstep_esOf (l : Table) (s : Int) (b : Nat) : tstep l s b = estep (esOf l s) b := by
  unfold tstep esOf
  split
  · rfl
  · cases l[s.toNat]? <;> rfl

set_option maxRecDepth 100000 in
set_option maxHeartbeats 2000000 in
theorem cuts_any (v0 : Value) (l : Table) (s : Int) (g : Nat) (P : Nat → Prop) (w0 w : World) (m mk : Mem) (L : List Item) (hO : Own w0 m w mk (.obj g 73 (marr P 256) :: L)) (hl : statesAt mk v0 l)
    (hs1 : -1 ≤ s) (hs2 : s ≤ l.length) (_ : l.length ≤ 1000000) :
    Calls Tryd.prog 59 #[.agg #[v0], .int .i64 s, .pointer (some ⟨g, 0, none⟩)] w fun e w' => e = .returned (.tuple #[]) ∧
      Own w0 m w' mk (.obj g 73 (marr (fun b => P b ∨ edsMark (esOf l s) b) 256) :: L) := by
  obtain ⟨a, c, rfl, h1, h2, h3⟩ := hl
  unfold maxLen at h2
  by_cases h0 : s < 0
  · have he : esOf l s = [] := by simp [esOf, h0]
    have hm : marr (fun b => P b ∨ edsMark (esOf l s) b) 256 = marr P 256 := marr_congr fun b _ => by rw [he]; simp [edsMark]
    rw [hm]
    refine calls_hide fun R hR => ?_
    have HO := Lib.hid (hO.al' (.cells #[.slice a l.length c] 24))
    clear hO he hm
    go_enter Tryd.func59, Tryd.ntmps59
    go_wp2
    refine bodyPost_ret (v := .tuple #[]) (by simp [results, Tryd.results59, go_sem]) rfl ?_
    exact hR.out _ _ ⟨rfl, HO.out⟩
  obtain ⟨s, rfl⟩ := Int.eq_ofNat_of_zero_le (by omega : 0 ≤ s)
  by_cases hs : s < l.length
  · obtain ⟨b, off, rfl, h4⟩ := h3 (by intro h; simp [h] at hs)
    obtain ⟨-, ve, g2, ea, ec, rfl, g4, g5, g6⟩ := h4 s hs
    have he : esOf l (s : Int) = (l[s]).edges := by
      have h0' : ¬ ((s : Int) < 0) := by omega
      simp [esOf, h0', hs]
    rw [he]
    generalize l[s].edges = es at *
    refine calls_hide fun R hR => ?_
    unfold maxLen at g5
    have hcm := Mem.cell_w hO.inn g2
    have hcl := Mem.cell_lt hO.inn g2
    have HO := Lib.hid (hO.al' (.cells #[.slice (some ⟨b, off, none⟩) l.length c] 24))
    clear hO h3 h4 he
    go_enter Tryd.func59, Tryd.ntmps59
    go_wp2
    refine wp_loop_keep [2, 22, 23, 24] (fun n vs w2 => ∃ (j : Nat), j ≤ es.length ∧ n = es.length - j ∧ vs = [.pointer (some ⟨g, 0, none⟩), .slice ea es.length ec, .int .i64 es.length, .int .i64 j] ∧
      Own w0 m w2 mk (.obj g 73 (marr (fun b => P b ∨ edsMark (es.take j) b) 256) :: L)) ?_ ?_
    · refine ⟨_, 0, Nat.zero_le _, rfl, rfl, ?_⟩
      rw [marr_congr (P' := P) (by intro b _; simp [edsMark])]
      exact HO.out
    clear HO hcm
    rintro X z n vs w2 hX - ⟨j, hj, rfl, rfl, hO⟩
    simp [litL, lk]
    by_cases hlt : j < es.length
    · obtain ⟨b', off', rfl, h10⟩ := g6 (by intro h; simp [h] at hlt)
      obtain ⟨e1, e2, e3, e4, e5, -⟩ := h10 j hlt
      have d1 := Mem.cell_w hO.inn e1
      have d2 := Mem.cell_w hO.inn e2
      have d3 := Mem.cell_w hO.inn e3
      have hb1 := Mem.cell_lt hO.inn e1
      have Htk := Lib.hid (fun b => edsMark_take hlt b)
      generalize es[j] = e at *
      have hO2 := (hO.al #[.int .u8 e.lo, .int .u8 e.hi, .int .i64 e.to] 51)
      have HO2 := Lib.hid hO2
      clear hO hO2
      go_wp2
      generalize w2.heap.size = E at *
      generalize w2.alloc (.cells #[.int .u8 e.lo, .int .u8 e.hi, .int .i64 e.to] 51) = w3 at *
      have x0 := HO2.out.obj.cell (i := 0) rfl
      have x1 := HO2.out.obj.lt
      have x2 := HO2.out.swap.obj.lt
      have x3 := HO2.out.swap.obj.frozen e.lo
      have x4 := HO2.out.swap.obj.cell (marr_get (i := e.lo) (by omega))
      refine wp_cut_keep [2, 7, 22, 23, 24] (fun vs w' => vs = [.pointer (some ⟨g, 0, none⟩), .pointer (some ⟨E, 0, none⟩), .slice (some ⟨b', off', none⟩) es.length ec, .int .i64 es.length, .int .i64 j] ∧ w' = (w3.setCell ⟨g, e.lo, none⟩ (.bool true)).drew) ?_ ?_
      · intro Y hY
        go_region
        all_goals exact hY.out _ _ rfl ⟨rfl, rfl⟩
      rintro z1 vs w1' - ⟨rfl, rfl⟩
      simp [litL, lk]
      have hO3 := (HO2.out.swap.set e.lo (.bool true)).dr
      rw [marr_set] at hO3
      have HO3 := Lib.hid hO3
      clear hO3 HO2 d1 d2 d3 hb1 x0 x1 x2 x3 x4
      generalize (w3.setCell ⟨g, e.lo, none⟩ (.bool true)).drew = w4 at *
      have x0 := HO3.out.swap.obj.cell (i := 1) rfl
      have x1 := HO3.out.swap.obj.lt
      by_cases hhi : e.hi < 255
      · have hdec : decide ((e.hi : Int) < 255) = true := decide_eq_true (by omega)
        go_wp2
        have hwr : IntKind.u8.wrap ((e.hi : Int) + 1) = (e.hi : Int) + 1 := IntWalk.u8_in _ (by omega)
        have x2 := HO3.out.obj.lt
        have x3 := HO3.out.obj.frozen (e.hi + 1)
        have x4 := HO3.out.obj.cell (marr_get (i := e.hi + 1) (by omega))
        refine wp_cut_keep [2, 22, 23, 24] (fun vs w' => vs = [.pointer (some ⟨g, 0, none⟩), .slice (some ⟨b', off', none⟩) es.length ec, .int .i64 es.length, .int .i64 j] ∧ w' = (w4.setCell ⟨g, e.hi + 1, none⟩ (.bool true)).drew) ?_ ?_
        · intro Y hY
          go_region
          all_goals exact hY.out _ _ rfl ⟨rfl, rfl⟩
        rintro z1 vs w1' - ⟨rfl, rfl⟩
        simp [litL, lk]
        have hO4 := ((HO3.out.set (e.hi + 1) (.bool true)).dr).drop2
        rw [marr_set] at hO4
        have HO4 := Lib.hid hO4
        clear hO4 x0 x1 x2 x3 x4 HO3
        go_wp2
        refine hX.out _ _ _ (by omega) rfl ⟨j + 1, by omega, rfl, rfl, ?_⟩
        rw [marr_congr (P := fun b => P b ∨ edsMark (es.take (j + 1)) b) (P' := fun b => ((P b ∨ edsMark (es.take j) b) ∨ b = e.lo) ∨ b = e.hi + 1) (by
          intro b _
          rw [Htk.out]
          unfold edMark
          constructor
          · rintro (h | h | h | h)
            · exact .inl (.inl (.inl h))
            · exact .inl (.inl (.inr h))
            · exact .inl (.inr h.symm)
            · exact .inr h.symm
          · rintro (((h | h) | h) | h)
            · exact .inl h
            · exact .inr (.inl h)
            · exact .inr (.inr (.inl h.symm))
            · exact .inr (.inr (.inr h.symm)))]
        exact HO4.out
      · have hdec : decide ((e.hi : Int) < 255) = false := decide_eq_false (by omega)
        go_wp2
        refine hX.out _ _ _ (by omega) rfl ⟨j + 1, by omega, rfl, rfl, ?_⟩
        rw [marr_congr (P := fun b => P b ∨ edsMark (es.take (j + 1)) b) (P' := fun b => (P b ∨ edsMark (es.take j) b) ∨ b = e.lo) (by
          intro b hb
          rw [Htk.out]
          unfold edMark
          constructor
          · rintro (h | h | h | h)
            · exact .inl (.inl h)
            · exact .inl (.inr h)
            · exact .inr h.symm
            · omega
          · rintro ((h | h) | h)
            · exact .inl h
            · exact .inr (.inl h)
            · exact .inr (.inr (.inl h.symm)))]
        exact HO3.out.drop2
    · obtain rfl : j = es.length := by omega
      rw [List.take_length] at hO
      have HO := Lib.hid hO
      clear hO
      go_wp2
      refine bodyPost_ret (v := .tuple #[]) (by simp [results, Tryd.results59, go_sem]) rfl ?_
      exact hR.out _ _ ⟨rfl, HO.out⟩
  · have hsl : s = l.length := by omega
    have he : esOf l (s : Int) = [] := by
      have h0' : ¬ ((s : Int) < 0) := by omega
      simp [esOf, hsl]
    have hm : marr (fun b => P b ∨ edsMark (esOf l (s : Int)) b) 256 = marr P 256 := marr_congr fun b _ => by rw [he]; simp [edsMark]
    rw [hm]
    refine calls_hide fun R hR => ?_
    have HO := Lib.hid (hO.al' (.cells #[.slice a l.length c] 24))
    clear hO he hm h3
    subst hsl
    go_enter Tryd.func59, Tryd.ntmps59
    go_wp2
    refine bodyPost_ret (v := .tuple #[]) (by simp [results, Tryd.results59, go_sem]) rfl ?_
    exact hR.out _ _ ⟨rfl, HO.out⟩
end Cl
namespace Cl
open Go Go.RowKit Go.Proofs

theorem accAt_out (l : Table) (s : Int) (h : (l.length : Int) ≤ s) : accAt l s = false := by
  have := accFrom_out l s [] h
  exact this
set_option maxHeartbeats 400000 in
theorem lang_acceptsAt (v : Value) (l : Table) (s : Int) (m : Mem) (w : World) (hm : m.inn w) (hl : statesAt m v l) (hs1 : -9223372036854775808 ≤ s) (hs2 : s ≤ 9223372036854775807) :
    Calls Tryd.prog 58 #[.agg #[v], .int .i64 s] w fun e w' => e = .returned (.bool (accAt l s)) ∧ Below w.heap.size w w' := by
  by_cases h : s < l.length
  · exact lang_accepts_any v l s m w hm hl hs1 h
  · rw [accAt_out l s (by omega)]
    obtain ⟨a, c, rfl, h1, h2, h3⟩ := hl
    unfold maxLen at h2
    clear h3
    refine calls_hide fun R hR => ?_
    go_enter Tryd.func58, Tryd.ntmps58
    go_wp2
    all_goals exact hR.out _ _ ⟨rfl, below_al (Below.refl _ _) _⟩
theorem estep_unmark : ∀ (es : List Ed) (c : Nat), 0 < c → ¬ edsMark es c → estep es c = estep es (c - 1)
  | [], _, _, _ => rfl
  | e :: es, c, hc, h => by
    have h1 : ¬ (e.lo = c ∨ e.hi + 1 = c) := fun hx => h ⟨e, by simp, hx⟩
    have ih := estep_unmark es c hc (fun ⟨x, hx, hm⟩ => h ⟨x, by simp [hx], hm⟩)
    simp only [estep]
    by_cases g : e.lo ≤ c ∧ c ≤ e.hi
    · rw [if_pos g, if_pos ⟨by omega, by omega⟩]
    · rw [if_neg g, if_neg (by omega), ih]
theorem pstep_unmark {A B : Table} {p : Int × Int} {c : Nat} (hc : 0 < c) (h : ¬ ((c = 0 ∨ edsMark (esOf A p.1) c) ∨ edsMark (esOf B p.2) c)) : pstep A B p c = pstep A B p (c - 1) := by
  unfold pstep
  rw [tstep_esOf, tstep_esOf, tstep_esOf, tstep_esOf, estep_unmark _ c hc (fun x => h (.inl (.inr x))), estep_unmark _ c hc (fun x => h (.inr x))]
theorem zero256 : (Tryd.zeroCells73).setIfInBounds 0 (.bool true) = marr (fun b => b = 0) 256 := by
  have : Tryd.zeroCells73 = Array.replicate 256 (Value.bool false) := by kernel_rfl
  rw [this, marr_false, marr_set]
  exact marr_congr fun b _ => by simp
theorem Own.asRow2 {w0 w : World} {m mk : Mem} {L : List Cl.Item} {g : Nat} {t : TypeId} {x y : Value} (h : Own w0 m w mk (.obj g t #[x, y] :: L)) : Own w0 m w mk (.row (.slice (some ⟨g, 0, none⟩) 1 1) t 2 1 [x, y] :: L) := by
  have hap := List.pairwise_cons.1 h.apart
  refine ⟨h.m0, h.below, h.ext, h.inn, ?_, ?_, .cons (fun b hb k h1 h2 => hap.1 b hb k h1 h2) hap.2⟩
  · simp only [List.mem_cons, forall_eq_or_imp]
    refine ⟨⟨rfl, .inr ⟨g, 1, #[x, y], rfl, Nat.zero_le _, h.obj.get, Nat.le_refl _, by simp [maxLen], rfl, rfl⟩⟩, fun it hi => h.ok it (List.mem_cons_of_mem _ hi)⟩
  · simp only [List.mem_cons, forall_eq_or_imp]
    exact ⟨fun k hk => h.fresh _ (List.mem_cons_self ..) k hk, fun it hi => h.fresh it (List.mem_cons_of_mem _ hi)⟩
theorem Own.setAll {w0 w : World} {m mk : Mem} {L : List Cl.Item} {g : Nat} {t : TypeId} {arr : Array Value} (h : Own w0 m w mk (.obj g t arr :: L)) (cs : Array Value) : Own w0 m (w.setRow g cs) mk (.obj g t cs :: L) := by
  have hg : w.grownBy (w.setRow g cs) (some g) := ⟨rfl, rfl, rfl, by simp, fun k _ hne => setRow_other w g k cs (fun e => hne (by rw [e]))⟩
  have hf := h.fresh _ (List.mem_cons_self ..) g rfl
  have hap := List.pairwise_cons.1 h.apart
  refine ⟨h.m0, h.below.grown hg h.below.size (fun k hk => by cases hk; exact hf.1), h.ext, Mem.inn_grown h.inn hg (fun k hk => by cases hk; exact hf.2), ?_, ?_, .cons (fun b hb k h1 h2 => hap.1 b hb k h1 h2) hap.2⟩
  · simp only [List.mem_cons, forall_eq_or_imp]
    exact ⟨⟨setRow_heap w g arr cs t (0, 0) h.obj.get⟩, fun it hi => Item.ok_of_heap (h.ok it (List.mem_cons_of_mem _ hi)) fun k hk => hg.block k (Item.lt (h.ok it (List.mem_cons_of_mem _ hi)) hk) (fun e => hap.1 it hi g rfl (by cases e; exact hk))⟩
  · simp only [List.mem_cons, forall_eq_or_imp]
    exact ⟨fun k hk => by simp only [Item.blk, Option.some.injEq] at hk; subst hk; exact hf, fun it hi => h.fresh it (List.mem_cons_of_mem _ hi)⟩
theorem ProdInv.add {A B : Table} {op : Bool → Bool → Bool} {st : Int × Int} {l : List (Int × Int)} {out : Table} (h : ProdInv A B op st l out) {q : Int × Int}
    (hr : (-1 ≤ q.1 ∧ q.1 ≤ A.length) ∧ (-1 ≤ q.2 ∧ q.2 ≤ B.length)) : ProdInv A B op st (pairAdd l q) out := by
  by_cases hf : pairNo l q < l.length
  · have : pairAdd l q = l := by unfold pairAdd; rw [if_pos hf]
    rw [this]; exact h
  · have : pairAdd l q = l ++ [q] := by unfold pairAdd; rw [if_neg hf]
    rw [this]; exact h.grow (pairNo_new hf) hr
theorem Cover.ok {A B : Table} {p : Int × Int} {l : List (Int × Int)} {es : List Ed} {c : Nat} (h : Cover A B p l es c) (hl : l.length ≤ 100000000) : (∀ e ∈ es, edOk e) ∧ es.length ≤ 256 := by
  have hw := wfEdges_lohi h.wf
  have hle := h.le
  refine ⟨fun e he => ?_, ?_⟩
  · have h1 := h.hi e he
    have h2 := hw e he
    exact ⟨by omega, by omega, by omega, by omega⟩
  · have := wf_len h.wf (fun e he => by have h1 := h.hi e he; have h2 := hw e he; exact ⟨by omega, by omega⟩) (by omega) (by omega)
    omega

set_option maxRecDepth 100000 in
set_option maxHeartbeats 8000000 in
theorem product_any (fi : Nat) (f : Bool → Bool → Bool) (hf : ∀ x y w, Calls Tryd.prog fi #[.bool x, .bool y] w fun e w' => e = .returned (.bool (f x y)) ∧ Below w.heap.size w w') (hff : f false false = false)
    (hcf : Hid (∀ x y w, Sem.run Tryd.prog (callFunc fi #[.bool x, .bool y]) w = .ok (.enter fi #[.bool x, .bool y]) w))
    (v0 v1 : Value) (A B : Table) (m : Mem) (w : World) (hm : m.inn w) (htab : TabM m) (hA : statesAt m v0 A) (hB : statesAt m v1 B) (hlen : (A.length + 2) * (B.length + 2) ≤ 1000000) (hlA : A.length ≤ 1000000) (hlB : B.length ≤ 1000000) :
    Calls Tryd.prog 35 #[.agg #[v0], .agg #[v1], .func (.func fi) #[] #[]] w fun e w' => ∃ r C, e = .returned (.agg #[r]) ∧ Below w.heap.size w w' ∧ statesAt (m.grow w w') r C ∧
      LangIs (fun x => f (Sem A x) (Sem B x)) C ∧ C.length ≤ (A.length + 2) * (B.length + 2) + 1 := by
  have hO := (((Own.start hm).al #[v0] 24).al #[v1] 24).al #[.slice none 0 0] 24
  have hsz1 : (w.alloc (.cells #[v0] 24)).heap.size = w.heap.size + 1 := by simp
  have hsz2 : ((w.alloc (.cells #[v0] 24)).alloc (.cells #[v1] 24)).heap.size = w.heap.size + 2 := by simp
  rw [hsz2, hsz1] at hO
  have HO := Lib.hid hO
  have HA := Lib.hid (fun w (hw : m.inn w) => good_any v0 A m w hw htab hA hlA)
  have HB := Lib.hid (fun mk w (hw : mk.inn w) (hle : m.le mk) => good_any v1 B mk w hw (htab.le hle) (statesAt_le hle hB) hlB)
  clear hO hsz1 hsz2
  refine calls_hide fun R hR => ?_
  obtain ⟨va, vc, rfl, -⟩ := hA
  obtain ⟨vb, vd, rfl, -⟩ := hB
  go_enter Tryd.func35, Tryd.ntmps35
  go_wp2
  refine wp_cut_keep [2, 3, 4, 6] (fun vs w' => ∃ (r1 r2 : Value) (mk : Mem), vs = [.func (.func fi) #[] #[], .pointer (some ⟨w.heap.size, 0, none⟩), .pointer (some ⟨w.heap.size + 1, 0, none⟩), .pointer (some ⟨w.heap.size + 2, 0, none⟩)] ∧
    Own w m w' mk [.obj (w.heap.size + 2) 24 #[.slice none 0 0], .obj (w.heap.size + 1) 24 #[r2], .obj w.heap.size 24 #[r1]] ∧ statesAt mk r1 (goodT A) ∧ statesAt mk r2 (goodT B)) ?_ ?_
  · intro X hX
    refine wp_region_D (fun j w' => (j ≠ 4 → j ≠ 5 → ObjAt w' w.heap.size 24 #[.slice va A.length vc]) ∧ (j ≠ 5 → ObjAt w' (w.heap.size + 1) 24 #[.slice vb B.length vd])) (by kernel_rfl) ?_
    have hO := HO.out.dr
    refine wpAnyD_take 0 (fun w' => ObjAt w' w.heap.size 24 #[.slice va A.length vc]) rfl (by kernel_rfl) (fun _ _ _ h => h) (fun j w' hj hd => hd.1 (by rintro rfl; exact waits_no (by kernel_rfl) hj) (by rintro rfl; exact waits_no (by kernel_rfl) hj)) hO.third.obj (yields_of rfl fun w' hS' => by have q := hS'.cell (i := 0) rfl; go_simp; rfl) ?_
    refine wpAnyD_take 2 (fun w' => ObjAt w' (w.heap.size + 1) 24 #[.slice vb B.length vd]) rfl (by kernel_rfl) (fun _ _ _ h => h) (fun j w' hj hd => hd.2 (by rintro rfl; exact waits_no (by kernel_rfl) hj)) hO.swap.obj (yields_of rfl fun w' hS' => by have q := hS'.cell (i := 0) rfl; go_simp; rfl) ?_
    refine wpAnyD_only 1 (by kernel_rfl) (wpOp_of rfl rfl (wp_enter (by go_simp) (HA.out _ hO.inn) ?_))
    rintro e w1 ⟨r1, rfl, hb1, hr1⟩
    have hO2 := hO.call hb1
    have hle := Mem.le_grow (w := w1) hO.inn
    refine ⟨_, rfl, .inr ⟨fun _ _ => hO2.third.obj, fun _ => hO2.swap.obj⟩, ?_⟩
    go_simp
    refine wpAnyD_only 3 (by kernel_rfl) (wpOp_of rfl rfl (wp_enter (by go_simp) (HB.out _ _ hO2.inn hle) ?_))
    rintro e w2 ⟨r2, rfl, hb2, hr2⟩
    have hO3 := hO2.call hb2
    have hle2 := Mem.le_grow (w := w2) hO2.inn
    refine ⟨_, rfl, .inr ⟨fun _ _ => hO3.third.obj, fun _ => hO3.swap.obj⟩, ?_⟩
    obtain ⟨xa, xc, rfl⟩ : ∃ xa xc, r1 = .slice xa (goodT A).length xc := by obtain ⟨x, y, e, -⟩ := hr1; exact ⟨x, y, e⟩
    obtain ⟨ya, yc, rfl⟩ : ∃ xa xc, r2 = .slice xa (goodT B).length xc := by obtain ⟨x, y, e, -⟩ := hr2; exact ⟨x, y, e⟩
    go_simp
    have f1 := hO3.third.obj.frozen 0
    have c1 := hO3.third.obj.cell (i := 0) rfl
    have hO4 := hO3.third.set 0 (.slice xa (goodT A).length xc)
    have f3 := hO4.third.obj.frozen 0
    have c3 := hO4.third.obj.cell (i := 0) rfl
    have hO6 := (hO4.third.set 0 (.slice ya (goodT B).length yc)).third
    refine wpAnyD_only 4 (by kernel_rfl) (wpOp_of rfl rfl (wp_skipped (by go_simp; first | done | rfl) ⟨.inr ⟨fun h => absurd rfl h, fun _ => hO4.third.obj⟩, ?_⟩))
    refine wpAnyD_only 5 (by kernel_rfl) (wpOp_of rfl rfl (wp_skipped (by go_simp; first | done | rfl) ⟨.inr ⟨fun _ h => absurd rfl h, fun h => absurd rfl h⟩, ?_⟩))
    refine wpAnyD_done (by kernel_rfl) ?_ _
    exact hX.out _ _ rfl ⟨_, _, _, rfl, hO6, statesAt_le hle2 hr1, hr2⟩
  rintro z vs w1 - ⟨r1, r2, mk, rfl, hO, hr1, hr2⟩
  simp [litL, lk]
  clear HO HA HB
  have hgA := goodT_canon A
  have hgB := goodT_canon B
  have hgAl := goodT_len A
  have hgBl := goodT_len B
  have hsemA : ∀ x, accFrom (goodT A) 0 x = Sem A x := fun x => by
    unfold goodT Sem
    by_cases h : Canon A
    · simp [tf_true h]
    · simp [tf_false h]; exact accFrom_nil x
  have hsemB : ∀ x, accFrom (goodT B) 0 x = Sem B x := fun x => by
    unfold goodT Sem
    by_cases h : Canon B
    · simp [tf_true h]
    · simp [tf_false h]; exact accFrom_nil x
  have HG := Lib.hid (And.intro hgA (And.intro hgB (And.intro hsemA hsemB)))
  clear hgA hgB hsemA hsemB
  have hmul : ((goodT A).length + 2) * ((goodT B).length + 2) ≤ (A.length + 2) * (B.length + 2) := Nat.mul_le_mul (by omega) (by omega)
  generalize goodT A = A' at *
  generalize goodT B = B' at *
  have hO2 := (((hO.al #[.int .i64 0, .int .i64 0] 69).asRow2).al #[.slice (some ⟨w1.heap.size, 0, none⟩) 1 1] 70).swap.nilRow 48 2
  have hsz : (w1.alloc (.cells #[.int .i64 0, .int .i64 0] 69)).heap.size = w1.heap.size + 1 := by simp
  rw [hsz] at hO2
  have HO2 := Lib.hid (And.intro hO2 (prod_start (A := A') (B := B') (op := f) (st := (0, 0)) (by simp only; omega)))
  have HR1 := Lib.hid (And.intro hr1 hr2)
  obtain ⟨xa, xc, rfl, -⟩ := hr1
  obtain ⟨ya, yc, rfl, -⟩ := hr2
  clear hO2 hO hsz
  go_wp2
  generalize w1.heap.size = N at *
  refine wp_loop_keep [2, 3, 4, 6, 7, 8, 9, 10] (fun n vs wr => ∃ (k : Nat) (l : List (Int × Int)) (out : Table) (vl vo : Value) (xs : List Value) (mk' : Mem), n = 1000001 - k ∧
    vs = [.func (.func fi) #[] #[], .pointer (some ⟨w.heap.size, 0, none⟩), .pointer (some ⟨w.heap.size + 1, 0, none⟩), .pointer (some ⟨w.heap.size + 2, 0, none⟩), .pointer (some ⟨N + 1, 0, none⟩), .func (.func 56) #[] #[.pointer (some ⟨N + 1, 0, none⟩)], vo, .int .i64 k] ∧
    Own w m wr mk' [.row vo 48 2 k xs, .row vl 69 2 l.length (pairCells l), .obj (N + 1) 70 #[vl], .obj (w.heap.size + 2) 24 #[.slice none 0 0], .obj (w.heap.size + 1) 24 #[.slice ya B'.length yc], .obj w.heap.size 24 #[.slice xa A'.length xc]] ∧
    StRow mk' xs out ∧ mk.le mk' ∧ ProdInv A' B' f (0, 0) l out ∧ out.length = k) ?_ ?_
  · refine ⟨_, 0, [(0, 0)], [], .slice (some ⟨N, 0, none⟩) 1 1, .slice none 0 0, [], mk, rfl, ?_, HO2.out.1, StRow.nil _, Mem.le_refl _, HO2.out.2, rfl⟩
    rfl
  clear HO2
  rintro X z n vs wr hX - ⟨k, l, out, vl, vo, xs, mk', rfl, rfl, hO, hrow, hmk, hPI, hol⟩
  simp [litL, lk]
  obtain ⟨vla, vlc, rfl⟩ := row_slice hO.swap.row
  have hob := hO.third.obj
  have b1 := hob.cell (i := 0) rfl
  have b2 := hob.lt
  have hpl := pair_bound hPI.nodup hPI.rng
  have hkl := hPI.le
  by_cases hlt : k < l.length
  · obtain ⟨vlb, rfl⟩ := row_some hO.swap.row (by omega)
    have hpc := pairCells_get l k hlt
    have r1 := row_cellw hO.swap.row hpc.1
    have r2 := row_cellw hO.swap.row hpc.2
    have rl := (World.ownsRow.lt hO.swap.row _ rfl).2
    have hlk : l[k]? = some l[k] := by simp [hlt]
    have hrng := hPI.rng l[k] (List.getElem_mem hlt)
    have HP := Lib.hid (And.intro hPI (And.intro hol hlk))
    generalize l[k] = p at *
    obtain ⟨pa, pb⟩ := p
    simp only at r1 r2 hrng
    have hO2 := hO.al #[.int .i64 pa, .int .i64 pb] 69
    have HO2 := Lib.hid hO2
    clear hO2 hO hPI hol hlk hpc hob
    go_wp2
    generalize hW2 : wr.alloc (.cells #[.int .i64 pa, .int .i64 pb] 69) = w2 at *
    generalize wr.heap.size = P at *
    refine wp_cut_keep [2, 3, 4, 6, 7, 8, 9, 10, 11, 12] (fun vs w' => ∃ S : Nat,
      vs = [.func (.func fi) #[] #[], .pointer (some ⟨w.heap.size, 0, none⟩), .pointer (some ⟨w.heap.size + 1, 0, none⟩), .pointer (some ⟨w.heap.size + 2, 0, none⟩), .pointer (some ⟨N + 1, 0, none⟩), .func (.func 56) #[] #[.pointer (some ⟨N + 1, 0, none⟩)], vo, .int .i64 k, .pointer (some ⟨P, 0, none⟩), .pointer (some ⟨S, 0, none⟩)] ∧
      Own w m w' mk' [.obj S 48 #[.bool (f (accAt A' pa) (accAt B' pb)), .slice none 0 0], .obj P 69 #[.int .i64 pa, .int .i64 pb], .row vo 48 2 k xs, .row (.slice (some ⟨vlb, 0, none⟩) l.length vlc) 69 2 l.length (pairCells l), .obj (N + 1) 70 #[.slice (some ⟨vlb, 0, none⟩) l.length vlc], .obj (w.heap.size + 2) 24 #[.slice none 0 0], .obj (w.heap.size + 1) 24 #[.slice ya B'.length yc], .obj w.heap.size 24 #[.slice xa A'.length xc]]) ?_ ?_
    · intro Y hY
      refine wp_region_T (fun w' => ObjAt w' w.heap.size 24 #[.slice xa A'.length xc] ∧ ObjAt w' (w.heap.size + 1) 24 #[.slice ya B'.length yc] ∧ ObjAt w' P 69 #[.int .i64 pa, .int .i64 pb]) 12 (by kernel_rfl) ?_
      have hO := HO2.out.dr
      generalize w2.drew = w3 at *
      have mkS : ∀ {w' : World} {L : List Cl.Item}, Own w m w' mk' L → Item.obj w.heap.size 24 #[.slice xa A'.length xc] ∈ L → Item.obj (w.heap.size + 1) 24 #[.slice ya B'.length yc] ∈ L → Item.obj P 69 #[.int .i64 pa, .int .i64 pb] ∈ L →
          (ObjAt w' w.heap.size 24 #[.slice xa A'.length xc] ∧ ObjAt w' (w.heap.size + 1) 24 #[.slice ya B'.length yc] ∧ ObjAt w' P 69 #[.int .i64 pa, .int .i64 pb]) :=
        fun h h1 h2 h3 => ⟨h.at_obj h1, h.at_obj h2, h.at_obj h3⟩
      have hS := mkS hO (by simp) (by simp) (by simp)
      refine wpAnyT_take 0 rfl (by kernel_rfl) (fun _ _ _ h => h) hS (yields_of rfl fun w' hS' => by have q := hS'.1.cell (i := 0) rfl; have q1 := hS'.2.1.cell (i := 0) rfl; have q2 := hS'.2.2.cell (i := 0) rfl; have q3 := hS'.2.2.cell (i := 1) rfl; go_simp; rfl) ?_
      refine wpAnyT_take 1 rfl (by kernel_rfl) (fun _ _ _ h => h) hS (yields_of rfl fun w' hS' => by have q := hS'.1.cell (i := 0) rfl; have q1 := hS'.2.1.cell (i := 0) rfl; have q2 := hS'.2.2.cell (i := 0) rfl; have q3 := hS'.2.2.cell (i := 1) rfl; go_simp; rfl) ?_
      refine wpAnyT_take 2 rfl (by kernel_rfl) (fun _ _ _ h => h) hS (yields_of rfl fun w' hS' => by have q := hS'.1.cell (i := 0) rfl; have q1 := hS'.2.1.cell (i := 0) rfl; have q2 := hS'.2.2.cell (i := 0) rfl; have q3 := hS'.2.2.cell (i := 1) rfl; go_simp; rfl) ?_
      refine wpAnyT_take 3 rfl (by kernel_rfl) (fun _ _ _ h => h) hS (yields_of rfl fun w' hS' => by have q := hS'.1.cell (i := 0) rfl; have q1 := hS'.2.1.cell (i := 0) rfl; have q2 := hS'.2.2.cell (i := 0) rfl; have q3 := hS'.2.2.cell (i := 1) rfl; go_simp; rfl) ?_
      refine wpAnyT_take 5 rfl (by kernel_rfl) (fun _ _ _ h => h) hS (yields_of rfl fun w' hS' => by have q := hS'.1.cell (i := 0) rfl; have q1 := hS'.2.1.cell (i := 0) rfl; have q2 := hS'.2.2.cell (i := 0) rfl; have q3 := hS'.2.2.cell (i := 1) rfl; go_simp; rfl) ?_
      refine wpAnyT_take 6 rfl (by kernel_rfl) (fun _ _ _ h => h) hS (yields_of rfl fun w' hS' => by have q := hS'.1.cell (i := 0) rfl; have q1 := hS'.2.1.cell (i := 0) rfl; have q2 := hS'.2.2.cell (i := 0) rfl; have q3 := hS'.2.2.cell (i := 1) rfl; go_simp; rfl) ?_
      refine wpAnyT_take 7 rfl (by kernel_rfl) (fun _ _ _ h => h) hS (yields_of rfl fun w' hS' => by have q := hS'.1.cell (i := 0) rfl; have q1 := hS'.2.1.cell (i := 0) rfl; have q2 := hS'.2.2.cell (i := 0) rfl; have q3 := hS'.2.2.cell (i := 1) rfl; go_simp; rfl) ?_
      clear hS
      refine wpAnyT_two 4 11 (by kernel_rfl) ?_ ?_
      · skip
        refine wpOp_of rfl rfl (wp_enter (by go_simp) (lang_acceptsAt (.slice xa A'.length xc) A' pa mk _ (Mem.inn_le hmk hO.inn) HR1.out.1 (by omega) (by omega)) ?_)
        rintro e wF1 ⟨rfl, hb'⟩
        have hF1 := hO.move hb'
        refine ⟨_, rfl, andS (mkS hF1 (by simp) (by simp) (by simp)) fun _ => ?_⟩
        clear hO hb'
        go_simp
        refine wpAnyT_two 8 11 (by kernel_rfl) ?_ ?_
        · skip
          refine wpOp_of rfl rfl (wp_enter (by go_simp) (lang_acceptsAt (.slice ya B'.length yc) B' pb mk _ (Mem.inn_le hmk hF1.inn) HR1.out.2 (by omega) (by omega)) ?_)
          rintro e wF2 ⟨rfl, hb'⟩
          have hF2 := hF1.move hb'
          refine ⟨_, rfl, andS (mkS hF2 (by simp) (by simp) (by simp)) fun _ => ?_⟩
          clear hF1 hb'
          go_simp
          refine wpAnyT_two 9 11 (by kernel_rfl) ?_ ?_
          · skip
            refine wpOp_of rfl rfl (wp_enter (by have hc := fun w' => hcf.out (accAt A' pa) (accAt B' pb) w'; go_simp; rfl) (hf (accAt A' pa) (accAt B' pb) _) ?_)
            rintro e wF3 ⟨rfl, hb'⟩
            have hF3 := hF2.move hb'
            refine ⟨_, rfl, andS (mkS hF3 (by simp) (by simp) (by simp)) fun _ => ?_⟩
            clear hF2 hb'
            go_simp
            refine wpAnyT_two 10 11 (by kernel_rfl) ?_ ?_
            · skip
              refine wpOp_of rfl rfl (wp_value (by go_simp; first | exact ⟨rfl, rfl⟩ | rfl) (andS (mkS hF3 (by simp) (by simp) (by simp)) fun _ => ?_))
              have hF4 := hF3
              clear hF3
              go_simp
              refine wpAnyT_only 11 (by kernel_rfl) ?_
              have hF5 := hF4.al #[.bool false, .slice none 0 0] 48
              refine wpOp_of rfl rfl (wp_value (by go_simp; first | exact ⟨rfl, rfl⟩ | rfl) (andS (mkS hF5 (by simp) (by simp) (by simp)) fun _ => ?_))
              clear hF4
              go_simp
              generalize wF3.alloc (.cells #[.bool false, .slice none 0 0] 48) = wF5 at *
              generalize wF3.heap.size = S at *
              have hE0 := hF5.obj.frozen 0
              have hE1 := hF5.obj.frozen 1
              have hE2 := hF5.obj.cell (i := 0) rfl
              have hE3 := hF5.obj.cell (i := 1) rfl
              have hE4 := hF5.obj.lt
              have hZ := (hF5.set 0 (.bool (f (accAt A' pa) (accAt B' pb)))).set 1 (.slice none 0 0)
              refine wpAnyT_only 12 (by kernel_rfl) (wpOp_of rfl rfl (wp_skipped (by go_simp; first | done | rfl) (andLast rfl ?_)))
              refine wpAnyT_done (by kernel_rfl) ?_ _
              exact hY.out _ _ rfl ⟨S, rfl, hZ⟩
            · skip
              have hF6 := hF3.al #[.bool false, .slice none 0 0] 48
              refine wpOp_of rfl rfl (wp_value (by go_simp; first | exact ⟨rfl, rfl⟩ | rfl) (andS (mkS hF6 (by simp) (by simp) (by simp)) fun _ => ?_))
              clear hF3
              go_simp
              generalize wF3.alloc (.cells #[.bool false, .slice none 0 0] 48) = wF6 at *
              generalize wF3.heap.size = S at *
              refine wpAnyT_only 10 (by kernel_rfl) ?_
              refine wpOp_of rfl rfl (wp_value (by go_simp; first | exact ⟨rfl, rfl⟩ | rfl) (andS (mkS hF6 (by simp) (by simp) (by simp)) fun _ => ?_))
              have hF7 := hF6
              clear hF6
              go_simp
              have hE0 := hF7.obj.frozen 0
              have hE1 := hF7.obj.frozen 1
              have hE2 := hF7.obj.cell (i := 0) rfl
              have hE3 := hF7.obj.cell (i := 1) rfl
              have hE4 := hF7.obj.lt
              have hZ := (hF7.set 0 (.bool (f (accAt A' pa) (accAt B' pb)))).set 1 (.slice none 0 0)
              refine wpAnyT_only 12 (by kernel_rfl) (wpOp_of rfl rfl (wp_skipped (by go_simp; first | done | rfl) (andLast rfl ?_)))
              refine wpAnyT_done (by kernel_rfl) ?_ _
              exact hY.out _ _ rfl ⟨S, rfl, hZ⟩
          · skip
            have hF8 := hF2.al #[.bool false, .slice none 0 0] 48
            refine wpOp_of rfl rfl (wp_value (by go_simp; first | exact ⟨rfl, rfl⟩ | rfl) (andS (mkS hF8 (by simp) (by simp) (by simp)) fun _ => ?_))
            clear hF2
            go_simp
            generalize wF2.alloc (.cells #[.bool false, .slice none 0 0] 48) = wF8 at *
            generalize wF2.heap.size = S at *
            refine wpAnyT_only 9 (by kernel_rfl) ?_
            refine wpOp_of rfl rfl (wp_enter (by have hc := fun w' => hcf.out (accAt A' pa) (accAt B' pb) w'; go_simp; rfl) (hf (accAt A' pa) (accAt B' pb) _) ?_)
            rintro e wF9 ⟨rfl, hb'⟩
            have hF9 := hF8.move hb'
            refine ⟨_, rfl, andS (mkS hF9 (by simp) (by simp) (by simp)) fun _ => ?_⟩
            clear hF8 hb'
            go_simp
            refine wpAnyT_only 10 (by kernel_rfl) ?_
            refine wpOp_of rfl rfl (wp_value (by go_simp; first | exact ⟨rfl, rfl⟩ | rfl) (andS (mkS hF9 (by simp) (by simp) (by simp)) fun _ => ?_))
            have hF10 := hF9
            clear hF9
            go_simp
            have hE0 := hF10.obj.frozen 0
            have hE1 := hF10.obj.frozen 1
            have hE2 := hF10.obj.cell (i := 0) rfl
            have hE3 := hF10.obj.cell (i := 1) rfl
            have hE4 := hF10.obj.lt
            have hZ := (hF10.set 0 (.bool (f (accAt A' pa) (accAt B' pb)))).set 1 (.slice none 0 0)
            refine wpAnyT_only 12 (by kernel_rfl) (wpOp_of rfl rfl (wp_skipped (by go_simp; first | done | rfl) (andLast rfl ?_)))
            refine wpAnyT_done (by kernel_rfl) ?_ _
            exact hY.out _ _ rfl ⟨S, rfl, hZ⟩
        · skip
          have hF11 := hF1.al #[.bool false, .slice none 0 0] 48
          refine wpOp_of rfl rfl (wp_value (by go_simp; first | exact ⟨rfl, rfl⟩ | rfl) (andS (mkS hF11 (by simp) (by simp) (by simp)) fun _ => ?_))
          clear hF1
          go_simp
          generalize wF1.alloc (.cells #[.bool false, .slice none 0 0] 48) = wF11 at *
          generalize wF1.heap.size = S at *
          refine wpAnyT_only 8 (by kernel_rfl) ?_
          refine wpOp_of rfl rfl (wp_enter (by go_simp) (lang_acceptsAt (.slice ya B'.length yc) B' pb mk _ (Mem.inn_le hmk hF11.inn) HR1.out.2 (by omega) (by omega)) ?_)
          rintro e wF12 ⟨rfl, hb'⟩
          have hF12 := hF11.move hb'
          refine ⟨_, rfl, andS (mkS hF12 (by simp) (by simp) (by simp)) fun _ => ?_⟩
          clear hF11 hb'
          go_simp
          refine wpAnyT_only 9 (by kernel_rfl) ?_
          refine wpOp_of rfl rfl (wp_enter (by have hc := fun w' => hcf.out (accAt A' pa) (accAt B' pb) w'; go_simp; rfl) (hf (accAt A' pa) (accAt B' pb) _) ?_)
          rintro e wF13 ⟨rfl, hb'⟩
          have hF13 := hF12.move hb'
          refine ⟨_, rfl, andS (mkS hF13 (by simp) (by simp) (by simp)) fun _ => ?_⟩
          clear hF12 hb'
          go_simp
          refine wpAnyT_only 10 (by kernel_rfl) ?_
          refine wpOp_of rfl rfl (wp_value (by go_simp; first | exact ⟨rfl, rfl⟩ | rfl) (andS (mkS hF13 (by simp) (by simp) (by simp)) fun _ => ?_))
          have hF14 := hF13
          clear hF13
          go_simp
          have hE0 := hF14.obj.frozen 0
          have hE1 := hF14.obj.frozen 1
          have hE2 := hF14.obj.cell (i := 0) rfl
          have hE3 := hF14.obj.cell (i := 1) rfl
          have hE4 := hF14.obj.lt
          have hZ := (hF14.set 0 (.bool (f (accAt A' pa) (accAt B' pb)))).set 1 (.slice none 0 0)
          refine wpAnyT_only 12 (by kernel_rfl) (wpOp_of rfl rfl (wp_skipped (by go_simp; first | done | rfl) (andLast rfl ?_)))
          refine wpAnyT_done (by kernel_rfl) ?_ _
          exact hY.out _ _ rfl ⟨S, rfl, hZ⟩
      · skip
        have hF15 := hO.al #[.bool false, .slice none 0 0] 48
        refine wpOp_of rfl rfl (wp_value (by go_simp; first | exact ⟨rfl, rfl⟩ | rfl) (andS (mkS hF15 (by simp) (by simp) (by simp)) fun _ => ?_))
        clear hO
        go_simp
        generalize w3.alloc (.cells #[.bool false, .slice none 0 0] 48) = wF15 at *
        generalize w3.heap.size = S at *
        refine wpAnyT_only 4 (by kernel_rfl) ?_
        refine wpOp_of rfl rfl (wp_enter (by go_simp) (lang_acceptsAt (.slice xa A'.length xc) A' pa mk _ (Mem.inn_le hmk hF15.inn) HR1.out.1 (by omega) (by omega)) ?_)
        rintro e wF16 ⟨rfl, hb'⟩
        have hF16 := hF15.move hb'
        refine ⟨_, rfl, andS (mkS hF16 (by simp) (by simp) (by simp)) fun _ => ?_⟩
        clear hF15 hb'
        go_simp
        refine wpAnyT_only 8 (by kernel_rfl) ?_
        refine wpOp_of rfl rfl (wp_enter (by go_simp) (lang_acceptsAt (.slice ya B'.length yc) B' pb mk _ (Mem.inn_le hmk hF16.inn) HR1.out.2 (by omega) (by omega)) ?_)
        rintro e wF17 ⟨rfl, hb'⟩
        have hF17 := hF16.move hb'
        refine ⟨_, rfl, andS (mkS hF17 (by simp) (by simp) (by simp)) fun _ => ?_⟩
        clear hF16 hb'
        go_simp
        refine wpAnyT_only 9 (by kernel_rfl) ?_
        refine wpOp_of rfl rfl (wp_enter (by have hc := fun w' => hcf.out (accAt A' pa) (accAt B' pb) w'; go_simp; rfl) (hf (accAt A' pa) (accAt B' pb) _) ?_)
        rintro e wF18 ⟨rfl, hb'⟩
        have hF18 := hF17.move hb'
        refine ⟨_, rfl, andS (mkS hF18 (by simp) (by simp) (by simp)) fun _ => ?_⟩
        clear hF17 hb'
        go_simp
        refine wpAnyT_only 10 (by kernel_rfl) ?_
        refine wpOp_of rfl rfl (wp_value (by go_simp; first | exact ⟨rfl, rfl⟩ | rfl) (andS (mkS hF18 (by simp) (by simp) (by simp)) fun _ => ?_))
        have hF19 := hF18
        clear hF18
        go_simp
        have hE0 := hF19.obj.frozen 0
        have hE1 := hF19.obj.frozen 1
        have hE2 := hF19.obj.cell (i := 0) rfl
        have hE3 := hF19.obj.cell (i := 1) rfl
        have hE4 := hF19.obj.lt
        have hZ := (hF19.set 0 (.bool (f (accAt A' pa) (accAt B' pb)))).set 1 (.slice none 0 0)
        refine wpAnyT_only 12 (by kernel_rfl) (wpOp_of rfl rfl (wp_skipped (by go_simp; first | done | rfl) (andLast rfl ?_)))
        refine wpAnyT_done (by kernel_rfl) ?_ _
        exact hY.out _ _ rfl ⟨S, rfl, hZ⟩
    rintro z1 vs w3 - ⟨S, rfl, hO⟩
    simp [litL, lk]
    have hO2 := hO.al Tryd.zeroCells73 73
    have hg2 := hO2.obj.get
    have hO3 := hO2.setAll (Tryd.zeroCells73.setIfInBounds 0 (.bool true))
    have hO4 := hO3
    rw [zero256] at hO4
    have HC1 := Lib.hid (cuts_any (.slice xa A'.length xc) A' pa w3.heap.size (fun b => b = 0) w _ m mk' _ hO4 (statesAt_le hmk HR1.out.1) (by omega) (by omega) (by omega))
    rw [← zero256] at HC1
    have HC2 := Lib.hid (fun L P w' (h : Own w m w' mk' (.obj w3.heap.size 73 (marr P 256) :: L)) => cuts_any (.slice ya B'.length yc) B' pb w3.heap.size P w w' m mk' L h (statesAt_le hmk HR1.out.2) (by omega) (by omega) (by omega))
    have HO3 := Lib.hid hO3
    have q1 := (hO3.at_obj (g := w.heap.size) (t := 24) (arr := #[.slice xa A'.length xc]) (by simp)).cell (i := 0) rfl
    have q1l := (hO3.at_obj (g := w.heap.size) (t := 24) (arr := #[.slice xa A'.length xc]) (by simp)).lt
    have q3 := (hO3.at_obj (g := P) (t := 69) (arr := #[.int .i64 pa, .int .i64 pb]) (by simp)).cell (i := 0) rfl
    have q3l := (hO3.at_obj (g := P) (t := 69) (arr := #[.int .i64 pa, .int .i64 pb]) (by simp)).lt
    clear hO hO3 hO4 HO2 hO2
    go_wp2_with (refine wpList_store_row rfl 73 (.tmp 13) (.tmp 45) rfl w3.heap.size (Tryd.zeroCells73.setIfInBounds 0 (.bool true)) rfl rfl 73 Tryd.zeroCells73 hg2 (by kernel_rfl) (by simp) (by kernel_rfl) ?_)
    clear hg2
    refine HC1.out.mono ?_
    rintro e w4 ⟨rfl, hO⟩
    have q1 := (hO.at_obj (g := w.heap.size + 1) (t := 24) (arr := #[.slice ya B'.length yc]) (by simp)).cell (i := 0) rfl
    have q1l := (hO.at_obj (g := w.heap.size + 1) (t := 24) (arr := #[.slice ya B'.length yc]) (by simp)).lt
    have q3 := (hO.at_obj (g := P) (t := 69) (arr := #[.int .i64 pa, .int .i64 pb]) (by simp)).cell (i := 1) rfl
    have q3l := (hO.at_obj (g := P) (t := 69) (arr := #[.int .i64 pa, .int .i64 pb]) (by simp)).lt
    have HC3 := Lib.hid (HC2.out _ _ w4 hO)
    clear HO3 HC1 HC2 hO
    go_wp2_with fail
    refine HC3.out.mono ?_
    rintro e w5 ⟨rfl, hO⟩
    clear HC3 q1 q1l q3 q3l
    generalize w3.heap.size = D at *
    obtain ⟨PM, hPM⟩ : ∃ PM : Nat → Prop, PM = fun b => (b = 0 ∨ edsMark (esOf A' pa) b) ∨ edsMark (esOf B' pb) b := ⟨_, rfl⟩
    rw [← hPM] at hO
    have HPM := Lib.hid hPM
    have HO := Lib.hid ((hO.perm (List.Perm.refl _)).nilRow 51 3)
    clear hPM hO
    go_wp2
    refine wp_loop_keep [2, 3, 4, 6, 7, 8, 9, 10, 11, 12, 13, 54] (fun n vs w' => ∃ (c : Nat) (l' : List (Int × Int)) (vl' ve : Value) (es : List Ed), c ≤ 256 ∧ n = 256 - c ∧
      vs = [.func (.func fi) #[] #[], .pointer (some ⟨w.heap.size, 0, none⟩), .pointer (some ⟨w.heap.size + 1, 0, none⟩), .pointer (some ⟨w.heap.size + 2, 0, none⟩), .pointer (some ⟨N + 1, 0, none⟩), .func (.func 56) #[] #[.pointer (some ⟨N + 1, 0, none⟩)], vo, .int .i64 k, .pointer (some ⟨P, 0, none⟩), .pointer (some ⟨S, 0, none⟩), .pointer (some ⟨D, 0, none⟩), .int .i64 c] ∧
      Own w m w' mk' [.row ve 51 3 es.length (edCells es), .obj D 73 (marr PM 256), .obj S 48 #[.bool (f (accAt A' pa) (accAt B' pb)), ve], .obj P 69 #[.int .i64 pa, .int .i64 pb], .row vo 48 2 k xs, .row vl' 69 2 l'.length (pairCells l'), .obj (N + 1) 70 #[vl'], .obj (w.heap.size + 2) 24 #[.slice none 0 0], .obj (w.heap.size + 1) 24 #[.slice ya B'.length yc], .obj w.heap.size 24 #[.slice xa A'.length xc]] ∧
      Cover A' B' (pa, pb) l' es c ∧ ProdInv A' B' f (0, 0) l' out ∧ l'[k]? = some (pa, pb)) ?_ ?_
    · exact ⟨_, 0, l, .slice (some ⟨vlb, 0, none⟩) l.length vlc, .slice none 0 0, [], by omega, rfl, rfl, HO.out, Cover.start _ _ _ _, HP.out.1, HP.out.2.2⟩
    clear HO
    rintro Y z2 n vs w6 hY - ⟨c, l', vl', ve, es, hc, rfl, rfl, hO, hcov, hPI, hlk⟩
    simp [litL, lk]
    obtain ⟨vla2, vlc2, rfl⟩ := row_slice (hO.at_row (v := vl') (t := 69) (size := 2) (n := l'.length) (xs := pairCells l') (by simp))
    obtain ⟨vea, vec, rfl⟩ := row_slice hO.row
    have hpl2 := pair_bound hPI.nodup hPI.rng
    have hok := hcov.ok (by omega)
    have hel := hok.2
    have HC := Lib.hid (And.intro hcov (And.intro hPI (And.intro hlk hok.1)))
    clear hcov hlk hok hPI
    by_cases hlt2 : c < 256
    · have m1 := (hO.at_obj (g := D) (t := 73) (arr := marr PM 256) (by simp)).cell (marr_get hlt2)
      have m2 := (hO.at_obj (g := D) (t := 73) (arr := marr PM 256) (by simp)).lt
      obtain ⟨bm, hbm⟩ : ∃ b, tf (PM c) = b := ⟨_, rfl⟩
      rw [hbm] at m1
      have Hbm := Lib.hid hbm
      clear hbm
      go_upto_if 59 with (fail)
      refine wp_cut_keep [2, 3, 4, 6, 7, 8, 9, 10, 11, 12, 13, 54, 14] (fun vs w' => ∃ (l2 : List (Int × Int)) (vl2 ve2 : Value) (fs : List Ed) (e : Ed), vs = [.func (.func fi) #[] #[], .pointer (some ⟨w.heap.size, 0, none⟩), .pointer (some ⟨w.heap.size + 1, 0, none⟩), .pointer (some ⟨w.heap.size + 2, 0, none⟩), .pointer (some ⟨N + 1, 0, none⟩), .func (.func 56) #[] #[.pointer (some ⟨N + 1, 0, none⟩)], vo, .int .i64 k, .pointer (some ⟨P, 0, none⟩), .pointer (some ⟨S, 0, none⟩), .pointer (some ⟨D, 0, none⟩), .int .i64 c, .int .i64 c] ∧
        Own w m w' mk' [.row ve2 51 3 (fs.length + 1) (edCells (fs ++ [e])), .obj D 73 (marr PM 256), .obj S 48 #[.bool (f (accAt A' pa) (accAt B' pb)), ve2], .obj P 69 #[.int .i64 pa, .int .i64 pb], .row vo 48 2 k xs, .row vl2 69 2 l2.length (pairCells l2), .obj (N + 1) 70 #[vl2], .obj (w.heap.size + 2) 24 #[.slice none 0 0], .obj (w.heap.size + 1) 24 #[.slice ya B'.length yc], .obj w.heap.size 24 #[.slice xa A'.length xc]] ∧
        Cover A' B' (pa, pb) l2 (fs ++ [⟨e.lo, c, e.to⟩]) (c + 1) ∧ ProdInv A' B' f (0, 0) l2 out ∧ l2[k]? = some (pa, pb)) ?_ ?_
      · intro V hV
        cases bm with
        | false =>
          have hnm : ¬ PM c := fun h => by have := Hbm.out; rw [tf_true h] at this; cases this
          have hun : 0 < c ∧ pstep A' B' (pa, pb) c = pstep A' B' (pa, pb) (c - 1) := by
            rw [HPM.out] at hnm
            have h0 : 0 < c := by
              apply Classical.byContradiction
              intro h
              exact hnm (.inl (.inl (by omega)))
            exact ⟨h0, pstep_unmark (p := (pa, pb)) h0 hnm⟩
          have hes : ∃ fs e, es = fs ++ [e] ∧ e.hi + 1 = c := by
            rcases HC.out.1.last with ⟨h, -⟩ | h
            · omega
            · exact h
          obtain ⟨fs, e, rfl, he⟩ := hes
          have hcw := HC.out.1.widen he hlt2 hun.2
          have Hfin := Lib.hid (And.intro hcw hO)
          clear hcw hO hnm hun he
          go_wp2
          refine hV.out _ _ rfl ⟨l', .slice vla2 l'.length vlc2, .slice vea (fs ++ [e]).length vec, fs, e, rfl, ?_, Hfin.out.1, HC.out.2.1, HC.out.2.2.1⟩
          have := Hfin.out.2
          simpa using this
        | true =>
          have hwu : IntKind.u8.wrap (c : Int) = (c : Int) := IntWalk.u8_in _ (by omega)
          have hO := hO.dr
          have HO := Lib.hid hO
          go_wp2
          have hSt : ∀ {w' : World} {L : List Cl.Item}, Own w m w' mk' L → Item.obj w.heap.size 24 #[.slice xa A'.length xc] ∈ L → Item.obj (w.heap.size + 1) 24 #[.slice ya B'.length yc] ∈ L → Item.obj P 69 #[.int .i64 pa, .int .i64 pb] ∈ L → Item.obj S 48 #[.bool (f (accAt A' pa) (accAt B' pb)), .slice vea es.length vec] ∈ L →
              (ObjAt w' w.heap.size 24 #[.slice xa A'.length xc] ∧ ObjAt w' (w.heap.size + 1) 24 #[.slice ya B'.length yc] ∧ ObjAt w' P 69 #[.int .i64 pa, .int .i64 pb] ∧ ObjAt w' S 48 #[.bool (f (accAt A' pa) (accAt B' pb)), .slice vea es.length vec]) :=
            fun h h1 h2 h3 h4 => ⟨h.at_obj h1, h.at_obj h2, h.at_obj h3, h.at_obj h4⟩
          refine wp_region_T (fun w' => ObjAt w' w.heap.size 24 #[.slice xa A'.length xc] ∧ ObjAt w' (w.heap.size + 1) 24 #[.slice ya B'.length yc] ∧ ObjAt w' P 69 #[.int .i64 pa, .int .i64 pb] ∧ ObjAt w' S 48 #[.bool (f (accAt A' pa) (accAt B' pb)), .slice vea es.length vec]) 23 (by kernel_rfl) ?_
          have hS := hSt hO (by simp) (by simp) (by simp) (by simp)
          refine wpAnyT_take 0 rfl (by kernel_rfl) (fun _ _ _ h => h) hS (yields_of rfl fun w' hS' => by have q := hS'.1.cell (i := 0) rfl; have q1 := hS'.2.1.cell (i := 0) rfl; have q2 := hS'.2.2.1.cell (i := 0) rfl; have q3 := hS'.2.2.1.cell (i := 1) rfl; have q4 := hS'.2.2.2.cell (i := 1) rfl; go_simp; rfl) ?_
          refine wpAnyT_take 1 rfl (by kernel_rfl) (fun _ _ _ h => h) hS (yields_of rfl fun w' hS' => by have q := hS'.1.cell (i := 0) rfl; have q1 := hS'.2.1.cell (i := 0) rfl; have q2 := hS'.2.2.1.cell (i := 0) rfl; have q3 := hS'.2.2.1.cell (i := 1) rfl; have q4 := hS'.2.2.2.cell (i := 1) rfl; go_simp; rfl) ?_
          refine wpAnyT_take 2 rfl (by kernel_rfl) (fun _ _ _ h => h) hS (yields_of rfl fun w' hS' => by have q := hS'.1.cell (i := 0) rfl; have q1 := hS'.2.1.cell (i := 0) rfl; have q2 := hS'.2.2.1.cell (i := 0) rfl; have q3 := hS'.2.2.1.cell (i := 1) rfl; have q4 := hS'.2.2.2.cell (i := 1) rfl; go_simp; rfl) ?_
          refine wpAnyT_take 3 rfl (by kernel_rfl) (fun _ _ _ h => h) hS (yields_of rfl fun w' hS' => by have q := hS'.1.cell (i := 0) rfl; have q1 := hS'.2.1.cell (i := 0) rfl; have q2 := hS'.2.2.1.cell (i := 0) rfl; have q3 := hS'.2.2.1.cell (i := 1) rfl; have q4 := hS'.2.2.2.cell (i := 1) rfl; go_simp; rfl) ?_
          refine wpAnyT_take 4 rfl (by kernel_rfl) (fun _ _ _ h => h) hS (yields_of rfl fun w' hS' => by have q := hS'.1.cell (i := 0) rfl; have q1 := hS'.2.1.cell (i := 0) rfl; have q2 := hS'.2.2.1.cell (i := 0) rfl; have q3 := hS'.2.2.1.cell (i := 1) rfl; have q4 := hS'.2.2.2.cell (i := 1) rfl; go_simp; rfl) ?_
          refine wpAnyT_take 5 rfl (by kernel_rfl) (fun _ _ _ h => h) hS (yields_of rfl fun w' hS' => by have q := hS'.1.cell (i := 0) rfl; have q1 := hS'.2.1.cell (i := 0) rfl; have q2 := hS'.2.2.1.cell (i := 0) rfl; have q3 := hS'.2.2.1.cell (i := 1) rfl; have q4 := hS'.2.2.2.cell (i := 1) rfl; go_simp; rfl) ?_
          refine wpAnyT_take 6 rfl (by kernel_rfl) (fun _ _ _ h => h) hS (yields_of rfl fun w' hS' => by have q := hS'.1.cell (i := 0) rfl; have q1 := hS'.2.1.cell (i := 0) rfl; have q2 := hS'.2.2.1.cell (i := 0) rfl; have q3 := hS'.2.2.1.cell (i := 1) rfl; have q4 := hS'.2.2.2.cell (i := 1) rfl; go_simp; rfl) ?_
          refine wpAnyT_take 7 rfl (by kernel_rfl) (fun _ _ _ h => h) hS (yields_of rfl fun w' hS' => by have q := hS'.1.cell (i := 0) rfl; have q1 := hS'.2.1.cell (i := 0) rfl; have q2 := hS'.2.2.1.cell (i := 0) rfl; have q3 := hS'.2.2.1.cell (i := 1) rfl; have q4 := hS'.2.2.2.cell (i := 1) rfl; go_simp; rfl) ?_
          refine wpAnyT_take 8 rfl (by kernel_rfl) (fun _ _ _ h => h) hS (yields_of rfl fun w' hS' => by have q := hS'.1.cell (i := 0) rfl; have q1 := hS'.2.1.cell (i := 0) rfl; have q2 := hS'.2.2.1.cell (i := 0) rfl; have q3 := hS'.2.2.1.cell (i := 1) rfl; have q4 := hS'.2.2.2.cell (i := 1) rfl; go_simp; rfl) ?_
          refine wpAnyT_take 9 rfl (by kernel_rfl) (fun _ _ _ h => h) hS (yields_of rfl fun w' hS' => by have q := hS'.1.cell (i := 0) rfl; have q1 := hS'.2.1.cell (i := 0) rfl; have q2 := hS'.2.2.1.cell (i := 0) rfl; have q3 := hS'.2.2.1.cell (i := 1) rfl; have q4 := hS'.2.2.2.cell (i := 1) rfl; go_simp; rfl) ?_
          refine wpAnyT_take 11 rfl (by kernel_rfl) (fun _ _ _ h => h) hS (yields_of rfl fun w' hS' => by have q := hS'.1.cell (i := 0) rfl; have q1 := hS'.2.1.cell (i := 0) rfl; have q2 := hS'.2.2.1.cell (i := 0) rfl; have q3 := hS'.2.2.1.cell (i := 1) rfl; have q4 := hS'.2.2.2.cell (i := 1) rfl; go_simp; rfl) ?_
          refine wpAnyT_take 12 rfl (by kernel_rfl) (fun _ _ _ h => h) hS (yields_of rfl fun w' hS' => by have q := hS'.1.cell (i := 0) rfl; have q1 := hS'.2.1.cell (i := 0) rfl; have q2 := hS'.2.2.1.cell (i := 0) rfl; have q3 := hS'.2.2.1.cell (i := 1) rfl; have q4 := hS'.2.2.2.cell (i := 1) rfl; go_simp; rfl) ?_
          refine wpAnyT_take 13 rfl (by kernel_rfl) (fun _ _ _ h => h) hS (yields_of rfl fun w' hS' => by have q := hS'.1.cell (i := 0) rfl; have q1 := hS'.2.1.cell (i := 0) rfl; have q2 := hS'.2.2.1.cell (i := 0) rfl; have q3 := hS'.2.2.1.cell (i := 1) rfl; have q4 := hS'.2.2.2.cell (i := 1) rfl; go_simp; rfl) ?_
          refine wpAnyT_take 14 rfl (by kernel_rfl) (fun _ _ _ h => h) hS (yields_of rfl fun w' hS' => by have q := hS'.1.cell (i := 0) rfl; have q1 := hS'.2.1.cell (i := 0) rfl; have q2 := hS'.2.2.1.cell (i := 0) rfl; have q3 := hS'.2.2.1.cell (i := 1) rfl; have q4 := hS'.2.2.2.cell (i := 1) rfl; go_simp; rfl) ?_
          refine wpAnyT_take 15 rfl (by kernel_rfl) (fun _ _ _ h => h) hS (yields_of rfl fun w' hS' => by have q := hS'.1.cell (i := 0) rfl; have q1 := hS'.2.1.cell (i := 0) rfl; have q2 := hS'.2.2.1.cell (i := 0) rfl; have q3 := hS'.2.2.1.cell (i := 1) rfl; have q4 := hS'.2.2.2.cell (i := 1) rfl; go_simp; rfl) ?_
          refine wpAnyT_only 10 (by kernel_rfl) (wpOp_of rfl rfl (wp_enter (by go_simp) (step_any (.slice xa A'.length xc) A' pa c mk _ (Mem.inn_le hmk hO.inn) HR1.out.1 (by omega) (by omega)) ?_))
          rintro e w7 ⟨rfl, hb7⟩
          have hO2 := hO.move hb7
          refine ⟨_, rfl, andS (hSt hO2 (by simp) (by simp) (by simp) (by simp)) fun _ => ?_⟩
          go_simp
          refine wpAnyT_only 16 (by kernel_rfl) (wpOp_of rfl rfl (wp_enter (by go_simp) (step_any (.slice ya B'.length yc) B' pb c mk _ (Mem.inn_le hmk hO2.inn) HR1.out.2 (by omega) (by omega)) ?_))
          rintro e w8 ⟨rfl, hb8⟩
          have hO3 := hO2.move hb8
          refine ⟨_, rfl, andS (hSt hO3 (by simp) (by simp) (by simp) (by simp)) fun _ => ?_⟩
          go_simp
          have hrA := tstep_range HG.out.1.wf pa c
          have hrB := tstep_range HG.out.2.1.wf pb c
          have hps : pstep A' B' (pa, pb) c = (tstep A' pa c, tstep B' pb c) := rfl
          have hpr : (-1 ≤ (pstep A' B' (pa, pb) c).1 ∧ (pstep A' B' (pa, pb) c).1 ≤ A'.length) ∧ (-1 ≤ (pstep A' B' (pa, pb) c).2 ∧ (pstep A' B' (pa, pb) c).2 ≤ B'.length) := by
            rw [hps]; simp only; omega
          have hPI2 := HC.out.2.1.add hpr
          have hpk : ∀ q ∈ l', pairOk q := fun q hq => by
            have := HC.out.2.1.rng q hq
            exact ⟨by omega, by omega, by omega, by omega⟩
          have hgt := pairAdd_get l' (pstep A' B' (pa, pb) c)
          have hpre := pairAdd_pre l' (pstep A' B' (pa, pb) c)
          have hcs := (HC.out.1.mono hpre).seg (h := c) (Nat.le_refl _) hlt2 hgt (fun b h1 h2 => by rw [show b = c by omega])
          have hlk2 : (pairAdd l' (pstep A' B' (pa, pb) c))[k]? = some (pa, pb) := by
            obtain ⟨x, hx⟩ := hpre
            rw [← hx, List.getElem?_append_left (List.getElem?_eq_some_iff.1 HC.out.2.2.1).1]; exact HC.out.2.2.1
          have hpno := pairNo_le l' (pstep A' B' (pa, pb) c)
          refine wpAnyT_only 17 (by kernel_rfl) (wpOp_of rfl rfl (wp_value (by go_simp; first | exact ⟨rfl, rfl⟩ | rfl) (andS (hSt hO3 (by simp) (by simp) (by simp) (by simp)) fun _ => ?_)))
          go_simp
          have hq := (hO3.pull (l₁ := [_, _, _, _, _, _])).pull (l₁ := [_, _, _, _, _, _])
          refine wpAnyT_only 18 (by kernel_rfl) (wpOp_of rfl rfl (wp_enter (by go_simp) (number_any (N + 1) (.slice vla2 l'.length vlc2) l' (pstep A' B' (pa, pb) c) w w8 m mk' _ hq ⟨by omega, by omega, by omega, by omega⟩ hpk (by omega)) ?_))
          rintro e w9 ⟨vl2, rfl, hq2⟩
          have hO4 := (hq2.unpull (l₁ := [_, _, _, _, _, _])).unpull (l₁ := [_, _, _, _, _, _])
          simp only [List.cons_append, List.nil_append] at hO4
          refine ⟨_, rfl, andS (hSt hO4 (by simp) (by simp) (by simp) (by simp)) fun _ => ?_⟩
          generalize pairNo l' (pstep A' B' (pa, pb) c) = t at *
          generalize pairAdd l' (pstep A' B' (pa, pb) c) = l2 at *
          clear hq hq2 hO3 hO2 hb7 hb8
          go_simp
          refine wpAnyT_only 19 (by kernel_rfl) (wpOp_of rfl rfl (wp_value (by go_simp; first | exact ⟨rfl, rfl⟩ | rfl) (andS (hSt hO4 (by simp) (by simp) (by simp) (by simp)) fun _ => ?_)))
          go_simp
          have hO6 := hO4.al #[.int .u8 c, .int .u8 0, .int .i64 t] 51
          refine wpAnyT_only 20 (by kernel_rfl) (wpOp_of rfl rfl (wp_value (by go_simp; first | exact ⟨rfl, rfl⟩ | rfl) (andS (hSt hO6 (by simp) (by simp) (by simp) (by simp)) fun _ => ?_)))
          go_simp
          refine wpAnyT_only 21 (by kernel_rfl) (wpOp_of rfl rfl (wp_append_row tyEdges (.tmp 61) (.tmp 80) rfl (.slice vea es.length vec) es.length (edCells es) rfl hO6.swap.row ⟨w9.heap.size, 0, none⟩ 1 1 [.int .u8 c, .int .u8 0, .int .i64 t] rfl rfl (hO6.obj.news rfl) (by simp [Value.oneCell']) (by unfold maxLen; omega) (by omega) (fun na' nc' w10 hown7 hgrow7 hrow7 => ?_)))
          have hO7 := (hO6.swap.app hown7 hgrow7 hrow7 (Nat.le_refl _)).drop2
          refine andS (hSt hO7 (by simp) (by simp) (by simp) (by simp)) fun hS3 => ?_
          go_simp
          refine wpAnyT_only 22 (by kernel_rfl) (wpOp_of rfl rfl (wp_value (by go_simp; first | exact ⟨rfl, rfl⟩ | rfl) (andS hS3 fun _ => ?_)))
          go_simp
          have f3 := hS3.2.2.2.frozen 1
          have c3 := hS3.2.2.2.cell (i := 1) rfl
          have hO8 := ((hO7.third.set 1 (.slice na' (es.length + 1) nc')).swap).third.swap
          refine wpAnyT_only 23 (by kernel_rfl) (wpOp_of rfl rfl (wp_skipped (by go_simp; first | done | rfl) (andLast rfl ?_)))
          refine wpAnyT_done (by kernel_rfl) ?_ _
          have Hfin := Lib.hid (And.intro hO8 hcs)
          clear hO8 hO7 hO6 hO4 hO hS hS3 f3 c3 hown7 hgrow7 hrow7 hcs
          refine hV.out _ _ rfl ⟨l2, vl2, .slice na' (es.length + 1) nc', es, ⟨c, 0, t⟩, rfl, ?_, Hfin.out.2, hPI2, hlk2⟩
          have := Hfin.out.1
          simpa [edCells_append] using this
      rintro z3 vs w7 - ⟨l2, vl2, ve2, fs, e, rfl, hO, hcov2, hPI2, hlk2⟩
      simp [litL, lk]
      obtain ⟨vea2, vec2, rfl⟩ := row_slice hO.row
      obtain ⟨eb, rfl⟩ := row_some hO.row (by omega)
      have hwu : IntKind.u8.wrap (c : Int) = (c : Int) := IntWalk.u8_in _ (by omega)
      have s1 := hO.third.obj.cell (i := 1) rfl
      have s2 := hO.third.obj.lt
      have y1 := row_cellw hO.row (edCells_get (fs ++ [e]) fs.length (by simp)).2.1
      have y2 := row_frozen hO.row (fs.length * 3 + 1)
      have y3 := (World.ownsRow.lt hO.row _ rfl).2
      have hlt5 : fs.length < fs.length + 1 := by omega
      have hfl : fs.length + 1 ≤ 256 := by have := (hcov2.ok (by have := pair_bound hPI2.nodup hPI2.rng; omega)).2; simpa using this
      have hO6 := hO.setRow (fs.length * 3 + 1) (.int .u8 c)
      rw [edCells_set] at hO6
      have Hfin := Lib.hid (And.intro hO6 (And.intro hcov2 (And.intro hPI2 hlk2)))
      clear hO6 hO hcov2 hPI2 hlk2
      go_wp2
      refine hY.out _ _ _ (by omega) rfl ⟨c + 1, l2, vl2, .slice (some ⟨eb, 0, none⟩) (fs.length + 1) vec2, fs ++ [⟨e.lo, c, e.to⟩], by omega, rfl, rfl, ?_, Hfin.out.2.1, Hfin.out.2.2.1, Hfin.out.2.2.2⟩
      have := Hfin.out.1
      simpa using this
    · obtain rfl : c = 256 := by omega
      have hPIn := HC.out.2.1.push (p := (pa, pb)) (by rw [HP.out.2.1]; exact HC.out.2.2.1) HC.out.1
      have hes := edgesAt_of_row (l := es) (m := mk') hO.row HC.out.2.2.2
      have hmk2 := Mem.le_addv (w := w6) hO.free
      have hrow2 := (hrow.mono hmk2).push (s := ⟨f (accAt A' pa) (accAt B' pb), es⟩) hes
      have hO2 := hO.sealRow
      have s0 := hO2.swap.obj.cell (i := 0) rfl
      have s1 := hO2.swap.obj.cell (i := 1) rfl
      have sl := hO2.swap.obj.lt
      obtain ⟨voa, voc, rfl⟩ := row_slice (hO2.at_row (v := vo) (t := 48) (size := 2) (n := k) (xs := xs) (by simp))
      have hO3 := hO2.al #[.bool (f (accAt A' pa) (accAt B' pb)), .slice vea es.length vec] 48
      have hO4 := hO3.pull (l₁ := [_, _, _, _])
      have hvr := hO4.row
      have hnews := hO3.obj.news rfl
      have Hk := Lib.hid (And.intro hrow2 (And.intro (Mem.le_trans hmk hmk2) hPIn))
      clear hrow2 hes hmk2 hO2 hO hPIn hO3
      generalize mk'.addv w6 (.slice vea es.length vec) = mk2 at *
      go_wp2_with (at_builtin; refine wpList_append_row tyStates rfl (.tmp 94) (.tmp 96) rfl (.slice voa k voc) k xs rfl hvr ⟨w6.heap.size, 0, none⟩ 1 1 [.bool (f (accAt A' pa) (accAt B' pb)), .slice vea es.length vec] rfl rfl hnews (by simp [Value.oneCell']) (by unfold maxLen; omega) (by omega) ?_)
      intro xa' xc' w7 hown7 hgrow7 hrow7
      have hO5 := (hO4.app hown7 hgrow7 hrow7 (by simp)).drop2.drop2.drop2.drop2
      have HO5 := Lib.hid hO5
      clear hown7 hgrow7 hrow7 hO4 hO5 hvr hnews
      go_wp2
      refine hX.out _ _ _ (by omega) rfl ⟨k + 1, l', out ++ [⟨f (accAt A' pa) (accAt B' pb), es⟩], .slice vla2 l'.length vlc2, .slice xa' (k + 1) xc', _, mk2, rfl, rfl, HO5.out, Hk.out.1, Hk.out.2.1, Hk.out.2.2, ?_⟩
      rw [List.length_append, HP.out.2.1]; rfl
  · have hkl2 : k = l.length := by omega
    have hdone := hPI.done hff (by omega)
    obtain ⟨voa, voc, rfl⟩ := row_slice hO.row
    have hst := statesAt_of_row (l := out) (m := mk') (by rw [hol]; exact hO.row) hrow hO.free
    have hO2 := hO.sealRow
    have hml : m.le (mk'.addv wr (.slice voa k voc)) := Mem.le_trans hO.ext.le (Mem.le_addv hO.free)
    have HM := Lib.hid (auMinimal_any (.slice voa k voc) out _ wr hO2.inn (htab.le hml) hst (by omega))
    have HO2 := Lib.hid hO2
    have HD := Lib.hid (And.intro hdone hol)
    clear hO2 hst hml hO hdone hol hob hPI hrow hkl2
    go_wp2_with fail
    refine HM.out.mono ?_
    rintro e w2 ⟨r, C, rfl, hb2, hst, hClen, hmin, hnot⟩
    have hwf := HD.out.1.1
    rw [tf_true hwf]
    obtain ⟨ra, rc, rfl⟩ : ∃ ra rc, r = .slice ra C.length rc := by obtain ⟨x, y, e, -⟩ := hst; exact ⟨x, y, e⟩
    have hO3 := HO2.out.call hb2
    have hO4 := (hO3.pull (l₁ := [_, _])).al #[.slice ra C.length rc] 24
    have g1 := hO4.swap.obj.cell (i := 0) rfl
    have g2 := hO4.swap.obj.frozen 0
    have g3 := hO4.swap.obj.lt
    have hO5 := hO4.swap.set 0 (.slice ra C.length rc)
    have g4 := hO5.obj.cell (i := 0) rfl
    have hfin := statesAt_le hO5.done hst
    have Hk := Lib.hid (And.intro hO5.below (And.intro hfin (And.intro (hmin hwf) hClen)))
    clear hO5 hO4 hO3 hfin hmin hnot hst hClen HO2 hwf
    go_wp2
    refine bodyPost_ret (v := .agg #[.slice ra C.length rc]) (by simp [results, Tryd.results35, go_sem, g4]) rfl ?_
    refine hR.out _ _ ⟨_, C, rfl, Hk.out.1, Hk.out.2.1, ⟨Hk.out.2.2.1.canon, fun x => ?_⟩, ?_⟩
    · rw [Hk.out.2.2.1.lang, HD.out.1.2.2.2.2, HG.out.2.2.1, HG.out.2.2.2]
    · have h1 := Hk.out.2.2.2
      have h2 := HD.out.2
      omega
end Cl
namespace Cl
open Go Go.RowKit Go.Proofs

theorem goodT_is (l : Table) : LangIs (Sem l) (goodT l) := by
  refine ⟨goodT_canon l, fun x => ?_⟩
  unfold goodT Sem
  by_cases h : Canon l
  · simp [tf_true h]
  · simp [tf_false h]; exact accFrom_nil x
theorem sem_nil (x : List UInt8) : Sem [] x = false := by rw [sem_canon canon_nil]; exact accFrom_nil x
theorem goodT_edges (l : Table) : ∀ s ∈ goodT l, s.edges.length ≤ 1000000 := fun s hs => by
  have := wf_len256 (goodT_canon l).wf (goodT_canon l).bytes s hs
  omega

/-- the sizes that products bear -/
structure Fits (A B : Table) : Prop where
  mul : (A.length + 2) * (B.length + 2) ≤ 1000000
  a : A.length ≤ 1000000
  b : B.length ≤ 1000000
theorem Fits.of {A B : Table} {x y : Nat} (hx : A.length ≤ x) (hy : B.length ≤ y) (h : (x + 2) * (y + 2) ≤ 1000000) : Fits A B := by
  have h1 : (A.length + 2) * (B.length + 2) ≤ (x + 2) * (y + 2) := Nat.mul_le_mul (by omega) (by omega)
  have h2 : A.length + 2 ≤ (A.length + 2) * (B.length + 2) := Nat.le_mul_of_pos_right _ (by omega)
  have h3 : B.length + 2 ≤ (A.length + 2) * (B.length + 2) := Nat.le_mul_of_pos_left _ (by omega)
  exact ⟨by omega, by omega, by omega⟩

set_option maxRecDepth 100000 in
set_option maxHeartbeats 2000000 in
theorem langAnd_any (v0 v1 : Value) (A B : Table) (m : Mem) (w : World) (hm : m.inn w) (htab : TabM m) (hA : statesAt m v0 A) (hB : statesAt m v1 B) (hF : Fits A B) :
    Calls Tryd.prog 13 #[.agg #[v0], .agg #[v1]] w fun e w' => ∃ r C, e = .returned (.agg #[r]) ∧ Below w.heap.size w w' ∧ statesAt (m.grow w w') r C ∧
      LangIs (fun x => Sem A x && Sem B x) C ∧ C.length ≤ (A.length + 2) * (B.length + 2) + 1 := by
  have hO := (((Own.start hm).al #[v0] 24).al #[v1] 24).al #[.slice none 0 0] 24
  have hsz1 : (w.alloc (.cells #[v0] 24)).heap.size = w.heap.size + 1 := by simp
  have hsz2 : ((w.alloc (.cells #[v0] 24)).alloc (.cells #[v1] 24)).heap.size = w.heap.size + 2 := by simp
  rw [hsz2, hsz1] at hO
  have HP := Lib.hid (product_any 36 (fun x y => x && y) And1_any rfl (Lib.hid fun x y w => by go_simp) v0 v1 A B m _ hO.inn htab hA hB hF.mul hF.a hF.b)
  have HO := Lib.hid hO
  obtain ⟨va, vc, rfl, a1, a2, a3⟩ := hA
  obtain ⟨vb, vd, rfl, b1, b2, b3⟩ := hB
  unfold maxLen at a2 b2
  clear hO hsz1 hsz2 a3 b3
  refine calls_hide fun R hR => ?_
  by_cases hA0 : A.length = 0 ∨ B.length = 0
  · have hl : LangIs (fun x => Sem A x && Sem B x) [] := lang_nil.congr fun x => by
      rcases hA0 with h | h
      · rw [List.eq_nil_of_length_eq_zero h, sem_nil]; rfl
      · rw [List.eq_nil_of_length_eq_zero h, sem_nil]; cases Sem A x <;> rfl
    have Hl := Lib.hid hl
    by_cases h1 : A.length = 0
    · have hdec : ((A.length : Int) == 0) = true := by simp [h1]
      have g1 := HO.out.obj.cell (i := 0) rfl
      clear hl hA0 h1
      go_enter Tryd.func13, Tryd.ntmps13
      go_wp2
      refine bodyPost_ret (v := .agg #[.slice none 0 0]) (by simp [results, Tryd.results13, go_sem]) rfl ?_
      exact hR.out _ _ ⟨_, [], rfl, HO.out.below, statesAt_nil _, Hl.out, by simp⟩
    · have h2 : B.length = 0 := by omega
      have hdec : ((A.length : Int) == 0) = false := beq_eq_false_iff_ne.2 (by omega)
      have hdec2 : ((B.length : Int) == 0) = true := by simp [h2]
      clear hl hA0 h1 h2
      go_enter Tryd.func13, Tryd.ntmps13
      go_wp2
      refine bodyPost_ret (v := .agg #[.slice none 0 0]) (by simp [results, Tryd.results13, go_sem]) rfl ?_
      exact hR.out _ _ ⟨_, [], rfl, HO.out.below, statesAt_nil _, Hl.out, by simp⟩
  · have hdec : ((A.length : Int) == 0) = false := beq_eq_false_iff_ne.2 (by omega)
    have hdec2 : ((B.length : Int) == 0) = false := beq_eq_false_iff_ne.2 (by omega)
    clear hA0
    go_enter Tryd.func13, Tryd.ntmps13
    go_wp2_with fail
    refine HP.out.mono ?_
    rintro e w1 ⟨r, C, rfl, hb1, hst, hlang, hClen⟩
    have hO1 := HO.out.call hb1
    obtain ⟨ra, rc, rfl⟩ : ∃ ra rc, r = .slice ra C.length rc := by obtain ⟨x, y, e, -⟩ := hst; exact ⟨x, y, e⟩
    have g1 := hO1.obj.cell (i := 0) rfl
    have g2 := hO1.obj.frozen 0
    have g3 := hO1.obj.lt
    have hO2 := hO1.set 0 (.slice ra C.length rc)
    have g4 := hO2.obj.cell (i := 0) rfl
    have Hk := Lib.hid (And.intro hO2.below (And.intro (statesAt_le hO2.done hst) (And.intro hlang hClen)))
    clear hO2 hO1 hst hlang hClen HP HO hb1
    go_wp2
    refine bodyPost_ret (v := .agg #[.slice ra C.length rc]) (by simp [results, Tryd.results13, go_sem, g4]) rfl ?_
    exact hR.out _ _ ⟨_, C, rfl, Hk.out.1, Hk.out.2.1, Hk.out.2.2.1, Hk.out.2.2.2⟩

set_option maxRecDepth 100000 in
set_option maxHeartbeats 2000000 in
theorem langOr_any (v0 v1 : Value) (A B : Table) (m : Mem) (w : World) (hm : m.inn w) (htab : TabM m) (hA : statesAt m v0 A) (hB : statesAt m v1 B) (hF : Fits A B) :
    Calls Tryd.prog 15 #[.agg #[v0], .agg #[v1]] w fun e w' => ∃ r C, e = .returned (.agg #[r]) ∧ Below w.heap.size w w' ∧ statesAt (m.grow w w') r C ∧
      LangIs (fun x => (Sem A x || Sem B x)) C ∧ C.length ≤ (A.length + 2) * (B.length + 2) + 1 := by
  have hO := (((Own.start hm).al #[v0] 24).al #[v1] 24).al #[.slice none 0 0] 24
  have hsz1 : (w.alloc (.cells #[v0] 24)).heap.size = w.heap.size + 1 := by simp
  have hsz2 : ((w.alloc (.cells #[v0] 24)).alloc (.cells #[v1] 24)).heap.size = w.heap.size + 2 := by simp
  rw [hsz2, hsz1] at hO
  have HP := Lib.hid (product_any 40 (fun x y => (x || y)) Or1_any rfl (Lib.hid fun x y w => by go_simp) v0 v1 A B m _ hO.inn htab hA hB hF.mul hF.a hF.b)
  have HGA := Lib.hid (good_any v0 A m _ hO.inn htab hA hF.a)
  have HGB := Lib.hid (good_any v1 B m _ hO.inn htab hB hF.b)
  have HC := Lib.hid (fun l r mk w (h : mk.inn w) (hl : l.length ≤ 1000000) (hst : statesAt mk r (goodT l)) => copied_any r (goodT l) mk w h hst (by have := goodT_len l; omega) (goodT_edges l))
  have HO := Lib.hid hO
  have hFm := hF.mul
  have hFa := hF.a
  have hFb := hF.b
  have hgA := goodT_len A
  have hgB := goodT_len B
  have hmA : A.length + 2 ≤ (A.length + 2) * (B.length + 2) := Nat.le_mul_of_pos_right _ (by omega)
  have hmB : B.length + 2 ≤ (A.length + 2) * (B.length + 2) := Nat.le_mul_of_pos_left _ (by omega)
  obtain ⟨va, vc, rfl, a1, a2, a3⟩ := hA
  obtain ⟨vb, vd, rfl, b1, b2, b3⟩ := hB
  unfold maxLen at a2 b2
  clear hO hsz1 hsz2 a3 b3 hF
  refine calls_hide fun R hR => ?_
  by_cases hA0 : A.length = 0
  · have hl : LangIs (fun x => (Sem A x || Sem B x)) (goodT B) := (goodT_is B).congr fun x => by
      rw [List.eq_nil_of_length_eq_zero hA0, sem_nil]; cases Sem B x <;> rfl
    have Hl := Lib.hid hl
    have hdec : ((A.length : Int) == 0) = true := by simp [hA0]
    clear hl hA0
    go_enter Tryd.func15, Tryd.ntmps15
    go_wp2_with fail
    refine HGB.out.mono ?_
    rintro e w1 ⟨r, rfl, hb1, hst⟩
    have hO1 := HO.out.call hb1
    obtain ⟨ra, rc, rfl⟩ : ∃ ra rc, r = .slice ra (goodT B).length rc := by obtain ⟨x, y, e, -⟩ := hst; exact ⟨x, y, e⟩
    have HC2 := Lib.hid (HC.out B _ _ _ hO1.inn (by omega) hst)
    have HO1 := Lib.hid hO1
    clear hO1 HC HGA HGB HO hb1 hst
    go_wp2_with fail
    refine HC2.out.mono ?_
    rintro e w2 ⟨r, rfl, hb2, hst⟩
    have hO1 := HO1.out.call hb2
    obtain ⟨ra, rc, rfl⟩ : ∃ ra rc, r = .slice ra (goodT B).length rc := by obtain ⟨x, y, e, -⟩ := hst; exact ⟨x, y, e⟩
    have g1 := hO1.obj.cell (i := 0) rfl
    have g2 := hO1.obj.frozen 0
    have g3 := hO1.obj.lt
    have hO2 := hO1.set 0 (.slice ra (goodT B).length rc)
    have g4 := hO2.obj.cell (i := 0) rfl
    have Hk := Lib.hid (And.intro hO2.below (statesAt_le hO2.done hst))
    clear hO2 hO1 hst HP HO1 hb2
    go_wp2
    refine bodyPost_ret (v := .agg #[.slice ra (goodT B).length rc]) (by simp [results, Tryd.results15, go_sem, g4]) rfl ?_
    exact hR.out _ _ ⟨_, goodT B, rfl, Hk.out.1, Hk.out.2, Hl.out, by omega⟩
  · have hdec : ((A.length : Int) == 0) = false := beq_eq_false_iff_ne.2 (by omega)
    by_cases hB0 : B.length = 0
    · have hl : LangIs (fun x => (Sem A x || Sem B x)) (goodT A) := (goodT_is A).congr fun x => by
        rw [List.eq_nil_of_length_eq_zero hB0, sem_nil]; cases Sem A x <;> rfl
      have Hl := Lib.hid hl
      have hdec2 : ((B.length : Int) == 0) = true := by simp [hB0]
      clear hl hA0 hB0
      go_enter Tryd.func15, Tryd.ntmps15
      go_wp2_with fail
      refine HGA.out.mono ?_
      rintro e w1 ⟨r, rfl, hb1, hst⟩
      have hO1 := HO.out.call hb1
      obtain ⟨ra, rc, rfl⟩ : ∃ ra rc, r = .slice ra (goodT A).length rc := by obtain ⟨x, y, e, -⟩ := hst; exact ⟨x, y, e⟩
      have HC2 := Lib.hid (HC.out A _ _ _ hO1.inn (by omega) hst)
      have HO1 := Lib.hid hO1
      clear hO1 HC HGA HGB HO hb1 hst
      go_wp2_with fail
      refine HC2.out.mono ?_
      rintro e w2 ⟨r, rfl, hb2, hst⟩
      have hO1 := HO1.out.call hb2
      obtain ⟨ra, rc, rfl⟩ : ∃ ra rc, r = .slice ra (goodT A).length rc := by obtain ⟨x, y, e, -⟩ := hst; exact ⟨x, y, e⟩
      have g1 := hO1.obj.cell (i := 0) rfl
      have g2 := hO1.obj.frozen 0
      have g3 := hO1.obj.lt
      have hO2 := hO1.set 0 (.slice ra (goodT A).length rc)
      have g4 := hO2.obj.cell (i := 0) rfl
      have Hk := Lib.hid (And.intro hO2.below (statesAt_le hO2.done hst))
      clear hO2 hO1 hst HP HO1 hb2
      go_wp2
      refine bodyPost_ret (v := .agg #[.slice ra (goodT A).length rc]) (by simp [results, Tryd.results15, go_sem, g4]) rfl ?_
      exact hR.out _ _ ⟨_, goodT A, rfl, Hk.out.1, Hk.out.2, Hl.out, by omega⟩
    · have hdec2 : ((B.length : Int) == 0) = false := beq_eq_false_iff_ne.2 (by omega)
      clear hA0 hB0 HC HGA HGB
      go_enter Tryd.func15, Tryd.ntmps15
      go_wp2_with fail
      refine HP.out.mono ?_
      rintro e w1 ⟨r, C, rfl, hb1, hst, hlang, hClen⟩
      have hO1 := HO.out.call hb1
      obtain ⟨ra, rc, rfl⟩ : ∃ ra rc, r = .slice ra C.length rc := by obtain ⟨x, y, e, -⟩ := hst; exact ⟨x, y, e⟩
      have g1 := hO1.obj.cell (i := 0) rfl
      have g2 := hO1.obj.frozen 0
      have g3 := hO1.obj.lt
      have hO2 := hO1.set 0 (.slice ra C.length rc)
      have g4 := hO2.obj.cell (i := 0) rfl
      have Hk := Lib.hid (And.intro hO2.below (And.intro (statesAt_le hO2.done hst) (And.intro hlang hClen)))
      clear hO2 hO1 hst hlang hClen HP HO hb1
      go_wp2
      refine bodyPost_ret (v := .agg #[.slice ra C.length rc]) (by simp [results, Tryd.results15, go_sem, g4]) rfl ?_
      exact hR.out _ _ ⟨_, C, rfl, Hk.out.1, Hk.out.2.1, Hk.out.2.2.1, Hk.out.2.2.2⟩

set_option maxRecDepth 100000 in
set_option maxHeartbeats 2000000 in
theorem langMinus_any (v0 v1 : Value) (A B : Table) (m : Mem) (w : World) (hm : m.inn w) (htab : TabM m) (hA : statesAt m v0 A) (hB : statesAt m v1 B) (hF : Fits A B) :
    Calls Tryd.prog 28 #[.agg #[v0], .agg #[v1]] w fun e w' => ∃ r C, e = .returned (.agg #[r]) ∧ Below w.heap.size w w' ∧ statesAt (m.grow w w') r C ∧
      LangIs (fun x => (Sem A x && !Sem B x)) C ∧ C.length ≤ (A.length + 2) * (B.length + 2) + 1 := by
  have hO := (((Own.start hm).al #[v0] 24).al #[v1] 24).al #[.slice none 0 0] 24
  have hsz1 : (w.alloc (.cells #[v0] 24)).heap.size = w.heap.size + 1 := by simp
  have hsz2 : ((w.alloc (.cells #[v0] 24)).alloc (.cells #[v1] 24)).heap.size = w.heap.size + 2 := by simp
  rw [hsz2, hsz1] at hO
  have HP := Lib.hid (product_any 48 (fun x y => (x && !y)) Minus1_any rfl (Lib.hid fun x y w => by go_simp) v0 v1 A B m _ hO.inn htab hA hB hF.mul hF.a hF.b)
  have HGA := Lib.hid (good_any v0 A m _ hO.inn htab hA hF.a)
  have HGB := Lib.hid (good_any v1 B m _ hO.inn htab hB hF.b)
  have HC := Lib.hid (fun l r mk w (h : mk.inn w) (hl : l.length ≤ 1000000) (hst : statesAt mk r (goodT l)) => copied_any r (goodT l) mk w h hst (by have := goodT_len l; omega) (goodT_edges l))
  have HO := Lib.hid hO
  have hFm := hF.mul
  have hFa := hF.a
  have hFb := hF.b
  have hgA := goodT_len A
  have hgB := goodT_len B
  have hmA : A.length + 2 ≤ (A.length + 2) * (B.length + 2) := Nat.le_mul_of_pos_right _ (by omega)
  have hmB : B.length + 2 ≤ (A.length + 2) * (B.length + 2) := Nat.le_mul_of_pos_left _ (by omega)
  obtain ⟨va, vc, rfl, a1, a2, a3⟩ := hA
  obtain ⟨vb, vd, rfl, b1, b2, b3⟩ := hB
  unfold maxLen at a2 b2
  clear hO hsz1 hsz2 a3 b3 hF
  refine calls_hide fun R hR => ?_
  by_cases hA0 : A.length = 0
  · have hl : LangIs (fun x => (Sem A x && !Sem B x)) [] := lang_nil.congr fun x => by
      rw [List.eq_nil_of_length_eq_zero hA0, sem_nil]; rfl
    have Hl := Lib.hid hl
    have hdec : ((A.length : Int) == 0) = true := by simp [hA0]
    have g1 := HO.out.obj.cell (i := 0) rfl
    clear hl hA0
    go_enter Tryd.func28, Tryd.ntmps28
    go_wp2
    refine bodyPost_ret (v := .agg #[.slice none 0 0]) (by simp [results, Tryd.results28, go_sem]) rfl ?_
    exact hR.out _ _ ⟨_, [], rfl, HO.out.below, statesAt_nil _, Hl.out, by simp⟩
  · have hdec : ((A.length : Int) == 0) = false := beq_eq_false_iff_ne.2 (by omega)
    by_cases hB0 : B.length = 0
    · have hl : LangIs (fun x => (Sem A x && !Sem B x)) (goodT A) := (goodT_is A).congr fun x => by
        rw [List.eq_nil_of_length_eq_zero hB0, sem_nil]; cases Sem A x <;> rfl
      have Hl := Lib.hid hl
      have hdec2 : ((B.length : Int) == 0) = true := by simp [hB0]
      clear hl hA0 hB0
      go_enter Tryd.func28, Tryd.ntmps28
      go_wp2_with fail
      refine HGA.out.mono ?_
      rintro e w1 ⟨r, rfl, hb1, hst⟩
      have hO1 := HO.out.call hb1
      obtain ⟨ra, rc, rfl⟩ : ∃ ra rc, r = .slice ra (goodT A).length rc := by obtain ⟨x, y, e, -⟩ := hst; exact ⟨x, y, e⟩
      have HC2 := Lib.hid (HC.out A _ _ _ hO1.inn (by omega) hst)
      have HO1 := Lib.hid hO1
      clear hO1 HC HGA HGB HO hb1 hst
      go_wp2_with fail
      refine HC2.out.mono ?_
      rintro e w2 ⟨r, rfl, hb2, hst⟩
      have hO1 := HO1.out.call hb2
      obtain ⟨ra, rc, rfl⟩ : ∃ ra rc, r = .slice ra (goodT A).length rc := by obtain ⟨x, y, e, -⟩ := hst; exact ⟨x, y, e⟩
      have g1 := hO1.obj.cell (i := 0) rfl
      have g2 := hO1.obj.frozen 0
      have g3 := hO1.obj.lt
      have hO2 := hO1.set 0 (.slice ra (goodT A).length rc)
      have g4 := hO2.obj.cell (i := 0) rfl
      have Hk := Lib.hid (And.intro hO2.below (statesAt_le hO2.done hst))
      clear hO2 hO1 hst HP HO1 hb2
      go_wp2
      refine bodyPost_ret (v := .agg #[.slice ra (goodT A).length rc]) (by simp [results, Tryd.results28, go_sem, g4]) rfl ?_
      exact hR.out _ _ ⟨_, goodT A, rfl, Hk.out.1, Hk.out.2, Hl.out, by omega⟩
    · have hdec2 : ((B.length : Int) == 0) = false := beq_eq_false_iff_ne.2 (by omega)
      clear hA0 hB0 HC HGA HGB
      go_enter Tryd.func28, Tryd.ntmps28
      go_wp2_with fail
      refine HP.out.mono ?_
      rintro e w1 ⟨r, C, rfl, hb1, hst, hlang, hClen⟩
      have hO1 := HO.out.call hb1
      obtain ⟨ra, rc, rfl⟩ : ∃ ra rc, r = .slice ra C.length rc := by obtain ⟨x, y, e, -⟩ := hst; exact ⟨x, y, e⟩
      have g1 := hO1.obj.cell (i := 0) rfl
      have g2 := hO1.obj.frozen 0
      have g3 := hO1.obj.lt
      have hO2 := hO1.set 0 (.slice ra C.length rc)
      have g4 := hO2.obj.cell (i := 0) rfl
      have Hk := Lib.hid (And.intro hO2.below (And.intro (statesAt_le hO2.done hst) (And.intro hlang hClen)))
      clear hO2 hO1 hst hlang hClen HP HO hb1
      go_wp2
      refine bodyPost_ret (v := .agg #[.slice ra C.length rc]) (by simp [results, Tryd.results28, go_sem, g4]) rfl ?_
      exact hR.out _ _ ⟨_, C, rfl, Hk.out.1, Hk.out.2.1, Hk.out.2.2.1, Hk.out.2.2.2⟩

theorem allT_is : LangIs (fun _ => true) allT := by
  have h0 : ∀ w, accFrom allT 0 w = true := by
    intro w
    induction w with
    | nil => rfl
    | cons b w ih =>
      have hb := b.toNat_lt
      have : tstep allT 0 b.toNat = 0 := by
        show estep [(⟨0, 255, 0⟩ : Ed)] b.toNat = 0
        simp only [estep]
        rw [if_pos ⟨Nat.zero_le _, by omega⟩]
      simp only [accFrom, this, ih]
  have ht : ∀ (k b t : Nat), tstep allT k b = t → t = 0 := by
    intro k b t h
    by_cases hk : k < 1
    · obtain rfl : k = 0 := by omega
      have h1 : estep [(⟨0, 255, 0⟩ : Ed)] b = t := h
      simp only [estep] at h1
      split at h1 <;> omega
    · rw [tstep_out allT k b (by simp [allT]; omega)] at h
      omega
  refine ⟨⟨?_, ?_, ?_, ?_, ?_, ?_, ?_⟩, h0⟩
  · intro s hs
    simp only [allT, List.mem_singleton] at hs
    subst hs
    exact ⟨Nat.zero_le _, by simp, by simp [allT], by simp, trivial⟩
  · intro s hs e he
    simp only [allT, List.mem_singleton] at hs
    subst hs
    simp only [List.mem_singleton] at he
    subst he
    exact ⟨by simp, by simp⟩
  · intro s hs
    simp only [allT, List.mem_singleton] at hs
    subst hs
    trivial
  · intro k hk
    obtain rfl : k = 0 := by simp [allT] at hk; exact hk
    exact ⟨[], h0 []⟩
  · intro i j hi hj _
    simp [allT] at hi hj
    omega
  · intro k b t _ h t' h1 h2
    have := ht k b t h
    omega
  · intro t h1 h2
    simp [allT] at h2
    omega
theorem allT_sem (x : List UInt8) : Sem allT x = true := allT_is.sem x
theorem auAll_any (m : Mem) (w : World) :
    Calls Tryd.prog 47 #[] w fun e w' => ∃ r, e = .returned (.agg #[r]) ∧ Below w.heap.size w w' ∧ statesAt (m.grow w w') r allT := by
  refine (auAll_obj w).mono ?_
  rintro e w' ⟨g1, g2, rfl, hb, h1, h2, h3, o1, o2⟩
  have gc : ∀ {g t arr i v}, w.heap.size ≤ g → ObjAt w' g t arr → arr[i]? = some v → (m.grow w w').cell g i = some v := by
    intro g t arr i v hg ho hv
    unfold Mem.cell Mem.grow
    rw [if_neg (by omega), ho.get]
    exact hv
  refine ⟨_, rfl, hb, some ⟨g2, 0, none⟩, 1, rfl, Nat.le_refl _, by simp [maxLen], fun _ => ⟨g2, 0, rfl, fun i hi => ?_⟩⟩
  obtain rfl : i = 0 := by simp [allT] at hi; exact hi
  refine ⟨gc h2 o2 rfl, _, gc h2 o2 rfl, some ⟨g1, 0, none⟩, 1, rfl, Nat.le_refl _, by simp [maxLen], fun _ => ⟨g1, 0, rfl, fun j hj => ?_⟩⟩
  obtain rfl : j = 0 := by simp [allT] at hj; exact hj
  exact ⟨gc h1 o1 rfl, gc h1 o1 rfl, gc h1 o1 rfl, by simp [allT], by simp [allT], by simp [allT], by simp [allT]⟩
theorem r05All_any (m : Mem) (w : World) :
    Calls Tryd.prog 29 #[] w fun e w' => ∃ r, e = .returned (.agg #[r]) ∧ Below w.heap.size w w' ∧ statesAt (m.grow w w') r allT := by
  refine (r05All_obj w).mono ?_
  rintro e w' ⟨g1, g2, rfl, hb, h1, h2, h3, o1, o2⟩
  have gc : ∀ {g t arr i v}, w.heap.size ≤ g → ObjAt w' g t arr → arr[i]? = some v → (m.grow w w').cell g i = some v := by
    intro g t arr i v hg ho hv
    unfold Mem.cell Mem.grow
    rw [if_neg (by omega), ho.get]
    exact hv
  refine ⟨_, rfl, hb, some ⟨g2, 0, none⟩, 1, rfl, Nat.le_refl _, by simp [maxLen], fun _ => ⟨g2, 0, rfl, fun i hi => ?_⟩⟩
  obtain rfl : i = 0 := by simp [allT] at hi; exact hi
  refine ⟨gc h2 o2 rfl, _, gc h2 o2 rfl, some ⟨g1, 0, none⟩, 1, rfl, Nat.le_refl _, by simp [maxLen], fun _ => ⟨g1, 0, rfl, fun j hj => ?_⟩⟩
  obtain rfl : j = 0 := by simp [allT] at hj; exact hj
  exact ⟨gc h1 o1 rfl, gc h1 o1 rfl, gc h1 o1 rfl, by simp [allT], by simp [allT], by simp [allT], by simp [allT]⟩

set_option maxRecDepth 100000 in
set_option maxHeartbeats 2000000 in
theorem langNot_any (v0 : Value) (A : Table) (m : Mem) (w : World) (hm : m.inn w) (htab : TabM m) (hA : statesAt m v0 A) (hF : A.length ≤ 300000) :
    Calls Tryd.prog 27 #[.agg #[v0]] w fun e w' => ∃ r C, e = .returned (.agg #[r]) ∧ Below w.heap.size w w' ∧ statesAt (m.grow w w') r C ∧
      LangIs (fun x => !Sem A x) C ∧ C.length ≤ 3 * (A.length + 2) + 1 := by
  have hO := ((Own.start hm).al #[v0] 24).al #[.slice none 0 0] 24
  have hsz1 : (w.alloc (.cells #[v0] 24)).heap.size = w.heap.size + 1 := by simp
  rw [hsz1] at hO
  have HO := Lib.hid hO
  have HM := Lib.hid (fun r mk w (h : mk.inn w) (hle : m.le mk) (hst : statesAt mk r allT) => langMinus_any r v0 allT A mk w h (htab.le hle) hst (statesAt_le hle hA) (Fits.of (x := 1) (y := A.length) (Nat.le_refl _) (Nat.le_refl _) (by omega)))
  have hA' := hA
  obtain ⟨va, vc, rfl, -⟩ := hA
  clear hO hsz1
  refine calls_hide fun R hR => ?_
  go_enter Tryd.func27, Tryd.ntmps27
  go_wp2
  refine wp_cut_keep [2] (fun vs w' => ∃ (r : Value) (C : Table) (mk : Mem), vs = [.pointer (some ⟨w.heap.size + 1, 0, none⟩)] ∧ Own w m w' mk [.obj (w.heap.size + 1) 24 #[r], .obj w.heap.size 24 #[.slice va A.length vc]] ∧ statesAt mk r C ∧
    LangIs (fun x => !Sem A x) C ∧ C.length ≤ 3 * (A.length + 2) + 1) ?_ ?_
  · intro X hX
    refine wp_region_T (fun w' => ObjAt w' w.heap.size 24 #[.slice va A.length vc]) 3 (by kernel_rfl) ?_
    have hO := HO.out.dr
    have hS := hO.swap.obj
    refine wpAnyT_take 1 rfl (by kernel_rfl) (fun _ _ _ h => h) hS (yields_of rfl fun w' hS' => by have q := hS'.cell (i := 0) rfl; go_simp; rfl) ?_
    refine wpAnyT_only 0 (by kernel_rfl) (wpOp_of rfl rfl (wp_enter (by go_simp; rfl) (auAll_any m _) ?_))
    rintro e w1 ⟨r, rfl, hb1, hst⟩
    have hO2 := hO.call hb1
    have hle := Mem.le_grow (w := w1) hO.inn
    refine ⟨_, rfl, andS hO2.swap.obj fun _ => ?_⟩
    go_simp
    refine wpAnyT_only 2 (by kernel_rfl) (wpOp_of rfl rfl (wp_enter (by go_simp) (HM.out _ _ _ hO2.inn hle hst) ?_))
    rintro e w2 ⟨r2, C, rfl, hb2, hst2, hlang, hClen⟩
    have hO3 := hO2.call hb2
    refine ⟨_, rfl, andS hO3.swap.obj fun _ => ?_⟩
    obtain ⟨ra, rc, rfl⟩ : ∃ ra rc, r2 = .slice ra C.length rc := by obtain ⟨x, y, e, -⟩ := hst2; exact ⟨x, y, e⟩
    go_simp
    have g1 := hO3.obj.cell (i := 0) rfl
    have g2 := hO3.obj.frozen 0
    refine wpAnyT_only 3 (by kernel_rfl) (wpOp_of rfl rfl (wp_skipped (by go_simp; first | done | rfl) (andLast rfl ?_)))
    refine wpAnyT_done (by kernel_rfl) ?_ _
    refine hX.out _ _ rfl ⟨_, C, _, rfl, hO3.set 0 _, hst2, hlang.congr fun x => ?_, ?_⟩
    · rw [allT_sem]; rfl
    · have : allT.length = 1 := rfl
      rw [this] at hClen
      exact hClen
  rintro z vs w1 - ⟨r, C, mk, rfl, hO, hst, hlang, hClen⟩
  simp [litL, lk]
  obtain ⟨ra, rc, rfl⟩ : ∃ ra rc, r = .slice ra C.length rc := by obtain ⟨x, y, e, -⟩ := hst; exact ⟨x, y, e⟩
  have g4 := hO.obj.cell (i := 0) rfl
  have Hk := Lib.hid (And.intro hO.below (And.intro (statesAt_le hO.done hst) (And.intro hlang hClen)))
  clear hO hst hlang hClen HO HM
  go_wp2
  refine bodyPost_ret (v := .agg #[.slice ra C.length rc]) (by simp [results, Tryd.results27, go_sem, g4]) rfl ?_
  exact hR.out _ _ ⟨_, C, rfl, Hk.out.1, Hk.out.2.1, Hk.out.2.2.1, Hk.out.2.2.2⟩

set_option maxRecDepth 100000 in
set_option maxHeartbeats 2000000 in
theorem langSubset_any (v0 v1 : Value) (A B : Table) (m : Mem) (w : World) (hm : m.inn w) (htab : TabM m) (hA : statesAt m v0 A) (hB : statesAt m v1 B) (hF : Fits A B) :
    Calls Tryd.prog 30 #[.agg #[v0], .agg #[v1]] w fun e w' => e = .returned (.bool (tf (∀ x, (Sem A x && !Sem B x) = false))) ∧ Below w.heap.size w w' := by
  have hO := ((Own.start hm).al #[v0] 24).al #[v1] 24
  have HM := Lib.hid (langMinus_any v0 v1 A B m _ hO.inn htab hA hB hF)
  have HO := Lib.hid hO
  obtain ⟨va, vc, rfl, -⟩ := hA
  obtain ⟨vb, vd, rfl, -⟩ := hB
  clear hO
  refine calls_hide fun R hR => ?_
  go_enter Tryd.func30, Tryd.ntmps30
  go_wp2_with fail
  refine HM.out.mono ?_
  rintro e w1 ⟨r, C, rfl, hb1, hst, hlang, hClen⟩
  obtain ⟨ra, rc, rfl⟩ : ∃ ra rc, r = .slice ra C.length rc := by obtain ⟨x, y, e, -⟩ := hst; exact ⟨x, y, e⟩
  have hO1 := HO.out.call hb1
  have hn := nil_iff hlang
  have hfd : ∀ w : World, (Instr.field 24 (.agg #[.slice ra C.length rc]) 0).run Tryd.prog w = .ok (.slice ra C.length rc) w := fun _ => by kernel_rfl
  have Hk := Lib.hid (And.intro hO1.below hn)
  clear hO1 hst hlang hb1 HM HO hn
  by_cases h0 : C.length = 0
  · have hdec : ((C.length : Int) == 0) = true := by simp [h0]
    have H0 := Lib.hid h0
    clear h0
    go_wp2
    exact hR.out _ _ ⟨ret_bool (by rw [tf_true (Hk.out.2.1 (List.eq_nil_of_length_eq_zero H0.out))]), Hk.out.1⟩
  · have hdec : ((C.length : Int) == 0) = false := beq_eq_false_iff_ne.2 (by omega)
    have H0 := Lib.hid h0
    clear h0
    go_wp2
    exact hR.out _ _ ⟨ret_bool (by rw [tf_false (fun h => H0.out (by rw [Hk.out.2.2 h]; rfl))]), Hk.out.1⟩
end Cl

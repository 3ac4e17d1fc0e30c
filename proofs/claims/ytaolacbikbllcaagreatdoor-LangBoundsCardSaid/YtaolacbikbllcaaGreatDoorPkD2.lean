/- Lemmas for the proofs: WalkCB, WalkCC, Strs, Mat, WalkCD. -/
import Derived.RegionTactic
import Derived.ChangeAlike
import Derived.WalkKit
import Derived.Test.YtaolacbikbllcaaGreatDoorPkA2
import Derived.Test.YtaolacbikbllcaaGreatDoorPkA3
import Derived.Test.YtaolacbikbllcaaGreatDoorPkD1
import Derived.Test.YtaolacbikbllcaaGreatDoorPkA1
import Derived.Test.YtaolacbikbllcaaGreatDoorPkA5
import Derived.Test.YtaolacbikbllcaaGreatDoorPkA6
import Derived.Test.YtaolacbikbllcaaGreatDoorPkA4
import Derived.Test.YtaolacbikbllcaaGreatDoorPkA7
import Derived.Test.YtaolacbikbllcaaGreatDoorPkA8
namespace Cl
open Go Go.RowKit Go.Proofs

theorem tyPairs2 : SliceTy Tryz.prog 75 74 2 16 := ⟨Tryz.underlying75, by omega, by
  obtain ⟨i, h1, h2, h3, h4⟩ := info_parts (P := Tryz.prog) (e := 74) (z := .agg #[.int .i64 0, .int .i64 0]) (size := 2) (bytes := 16) (by kernel_rfl)
  exact ⟨i, _, h1, h2, h3, h4, rfl⟩⟩
def st0 (l : Table) : Int := if l.length = 0 then -1 else 0
theorem st0_lang {l : Table} (x : List UInt8) : accFrom l (st0 l) x = accFrom l 0 x := by
  unfold st0
  split
  · rename_i h
    rw [List.eq_nil_of_length_eq_zero h, accFrom_nil, accFrom_neg (by omega)]
  · rfl
theorem st0_rng (l : Table) : -1 ≤ st0 l ∧ st0 l < l.length := by
  unfold st0
  split <;> omega
theorem want_ff {op : Nat} {f : Bool → Bool → Bool} (h : op = 38 ∧ f = (fun x y => x && y) ∨ op = 124 ∧ f = (fun x y => x || y) ∨ op = 45 ∧ f = (fun x y => x && !y)) : f false false = false := by
  rcases h with ⟨-, rfl⟩ | ⟨-, rfl⟩ | ⟨-, rfl⟩ <;> rfl

theorem firstIdx_pair2 (l : List (Int × Int)) (x : Int × Int) : firstIdx (fun y => y = x) l 0 = if pairNo l x < l.length then ((pairNo l x : Nat) : Int) else -1 := by
  rw [← firstIdx_pair]
  congr 1
  funext y
  exact propext eq_comm
theorem cut_call {w0 w : World} {m mk : Mem} {L : List Cl.Item} {g1 g2 : Nat} {v v' : Value} {A B : Table} {pa pb : Int} {c : Nat}
    (hO : Own w0 m w mk (.obj g2 3 #[.int .i64 pa, .int .i64 pb] :: .obj g1 24 #[v, v'] :: L)) (hA : statesAt mk v A) (hB : statesAt mk v' B)
    (h1 : -1 ≤ pa) (h2 : pa < A.length) (h3 : -1 ≤ pb) (h4 : pb < B.length) (hc : c < 256) (hlA : A.length ≤ 1000000) (hlB : B.length ≤ 1000000) :
    Calls Tryz.prog 63 #[.slice (some ⟨g1, 0, none⟩) 2 2, .slice (some ⟨g2, 0, none⟩) 2 2, .int .i64 c] w fun e w' => e = .returned (.int .i64 (cutTo [A, B] [pa, pb] c 2)) ∧ Below w.heap.size w w' := by
  have l1 := Mem.le_add (w := w) hO.swap.objFree
  have hS1 := hO.swap.sealObj
  have l2 := Mem.le_add (w := w) hS1.objFree
  have hS2 := hS1.sealObj
  have cA : ((mk.add w g1).add w g2).cell g1 0 = some v := Mem.cell_le l2 (Mem.add_cell hO.swap.obj rfl)
  have cB : ((mk.add w g1).add w g2).cell g1 1 = some v' := Mem.cell_le l2 (Mem.add_cell hO.swap.obj rfl)
  have cp : ((mk.add w g1).add w g2).cell g2 0 = some (.int .i64 pa) := Mem.add_cell hO.obj rfl
  have cq : ((mk.add w g1).add w g2).cell g2 1 = some (.int .i64 pb) := Mem.add_cell hO.obj rfl
  have ll := Mem.le_trans l1 l2
  refine Cut_any (.slice (some ⟨g1, 0, none⟩) 2 2) (.slice (some ⟨g2, 0, none⟩) 2 2) [A, B] [pa, pb] c _ w hS2.inn ?_ ?_ rfl ?_ hc
  · refine ⟨_, 2, rfl, Nat.le_refl _, by simp [maxLen], fun _ => ⟨g1, 0, rfl, fun i hi => ?_⟩⟩
    have : i = 0 ∨ i = 1 := by simp at hi; omega
    rcases this with rfl | rfl
    · exact ⟨v, cA, statesAt_le ll hA⟩
    · exact ⟨v', cB, statesAt_le ll hB⟩
  · refine ⟨_, 2, rfl, Nat.le_refl _, by simp [maxLen], fun _ => ⟨g2, 0, rfl, fun i hi => ?_⟩⟩
    have : i = 0 ∨ i = 1 := by simp at hi; omega
    rcases this with rfl | rfl
    · exact ⟨cp, by simp only [List.getElem_cons_zero]; omega, by simp only [List.getElem_cons_zero]; omega⟩
    · exact ⟨cq, by simp only [List.getElem_cons_succ, List.getElem_cons_zero]; omega, by simp only [List.getElem_cons_succ, List.getElem_cons_zero]; omega⟩
  · intro i hi
    have : i = 0 ∨ i = 1 := by simp at hi; omega
    rcases this with rfl | rfl
    · exact ⟨h1, h2⟩
    · exact ⟨h3, h4⟩
set_option maxRecDepth 100000 in
set_option maxHeartbeats 8000000 in
theorem combine_any (op : Nat) (f : Bool → Bool → Bool) (hw : op = 38 ∧ f = (fun x y => x && y) ∨ op = 124 ∧ f = (fun x y => x || y) ∨ op = 45 ∧ f = (fun x y => x && !y))
    (v0 v1 : Value) (A B : Table) (m : Mem) (w : World) (hm : m.inn w) (hA : statesAt m v0 A) (hB : statesAt m v1 B) (hlen : (A.length + 2) * (B.length + 2) ≤ 1000000) (hlA : A.length ≤ 1000000) (hlB : B.length ≤ 1000000) :
    Calls Tryz.prog 35 #[.agg #[v0], .agg #[v1], .int .u8 op] w fun e w' => ∃ r C, e = .returned (.agg #[r]) ∧ Below w.heap.size w w' ∧ statesAt (m.grow w w') r C ∧
      LangIs (fun x => f (Sem A x) (Sem B x)) C ∧ C.length ≤ (A.length + 2) * (B.length + 2) + 1 := by
  have hO := (((Own.start hm).al #[v0] 24).al #[v1] 24).al #[.slice none 0 0] 24
  have hsz1 : (w.alloc (.cells #[v0] 24)).heap.size = w.heap.size + 1 := by simp
  have hsz2 : ((w.alloc (.cells #[v0] 24)).alloc (.cells #[v1] 24)).heap.size = w.heap.size + 1 + 1 := by simp
  rw [hsz2, hsz1] at hO
  have HO := Lib.hid hO
  have HA := Lib.hid hA
  have HB := Lib.hid hB
  have HW := Lib.hid hw
  clear hO hsz1 hsz2 hw hm
  refine calls_hide fun R hR => ?_
  obtain ⟨va, vc, rfl, -⟩ := hA
  obtain ⟨vb, vd, rfl, -⟩ := hB
  go_enter Tryz.func35, Tryz.ntmps35
  go_wp2
  refine wp_cut_keep [2, 6, 7, 8] (fun vs w' => ∃ (g1 g2 : Nat) (mk : Mem) (xa ya : Option Addr) (xc yc : Nat), vs = [.int .u8 op, .pointer (some ⟨w.heap.size + 1 + 1, 0, none⟩), .pointer (some ⟨g1, 0, none⟩), .pointer (some ⟨g2, 0, none⟩)] ∧
    Own w m w' mk [.obj g2 24 #[.slice ya (goodT B).length yc], .obj g1 24 #[.slice xa (goodT A).length xc], .obj (w.heap.size + 1 + 1) 24 #[.slice none 0 0]] ∧ m.le mk ∧
    statesAt mk (.slice xa (goodT A).length xc) (goodT A) ∧ statesAt mk (.slice ya (goodT B).length yc) (goodT B)) ?_ ?_
  · intro X hX
    refine wp_region_facts 6 6 (fun j => [Fact.is (· = .agg #[.slice va A.length vc]), Fact.mem m [1] (TabV (goodT A)), Fact.is (· = .agg #[.slice vb B.length vd]), Fact.mem m [3] (TabV (goodT B)), Fact.obj 4 24 #[.slice none 0 0], Fact.obj 5 24 #[.slice none 0 0]].getD j Fact.any) (by kernel_rfl) (by kernel_rfl) ?_ ?_
    · intro i hi o win a wr ho RA
      have HO2 := HO.out.dr.move RA.below
      have q1 := HO2.swap.obj.cell (i := 0) rfl
      have q2 := HO2.third.obj.cell (i := 0) rfl
      rcases (show i = 0 ∨ i = 1 ∨ i = 2 ∨ i = 3 ∨ i = 4 ∨ i = 5 by omega) with rfl | rfl | rfl | rfl | rfl | rfl
      · have e3 := RA.keep 3 (by kernel_rfl)
        cases ho
        refine wpOp_of rfl rfl (wp_value (by go_simp; first | done | rfl) ⟨_, rfl, Below.refl _ _, rfl⟩)
      · have e20 : a.tmps.getD 20 undef = .agg #[.slice va A.length vc] := RA.dep 0 _ (by kernel_rfl) rfl
        cases ho
        refine wpOp_of rfl rfl (wp_enter (by go_simp; first | done | rfl) (sound_any (.slice va A.length vc) A m wr HO2.inn HA.out hlA) ?_)
        rintro e w' ⟨r, rfl, hb, hst⟩
        exact ⟨_, rfl, _, rfl, hb, tabV_mk HO2.inn hb hst⟩
      · have e4 := RA.keep 4 (by kernel_rfl)
        cases ho
        refine wpOp_of rfl rfl (wp_value (by go_simp; first | done | rfl) ⟨_, rfl, Below.refl _ _, rfl⟩)
      · have e22 : a.tmps.getD 22 undef = .agg #[.slice vb B.length vd] := RA.dep 2 _ (by kernel_rfl) rfl
        cases ho
        refine wpOp_of rfl rfl (wp_enter (by go_simp; first | done | rfl) (sound_any (.slice vb B.length vd) B m wr HO2.inn HB.out hlB) ?_)
        rintro e w' ⟨r, rfl, hb, hst⟩
        exact ⟨_, rfl, _, rfl, hb, tabV_mk HO2.inn hb hst⟩
      · cases ho
        exact wpOp_of rfl rfl (wp_value (by go_simp; first | done | rfl) ⟨_, rfl, below_al (Below.refl _ _) _, obj_mk win⟩)
      · cases ho
        exact wpOp_of rfl rfl (wp_value (by go_simp; first | done | rfl) ⟨_, rfl, below_al (Below.refl _ _) _, obj_mk win⟩)
    · intro win a wr E
      have e2 := E.keep 2 (by kernel_rfl)
      have e6 := E.keep 6 (by kernel_rfl)
      have e7 : (Fact.obj 4 24 #[.slice none 0 0]).holds (a.tmps.getD 7 undef) win wr := E.fact 4 _ (by omega) rfl
      have e8 : (Fact.obj 5 24 #[.slice none 0 0]).holds (a.tmps.getD 8 undef) win wr := E.fact 5 _ (by omega) rfl
      have e21 : (Fact.mem m [1] (TabV (goodT A))).holds (a.tmps.getD 21 undef) win wr := E.fact 1 _ (by omega) rfl
      have e23 : (Fact.mem m [3] (TabV (goodT B))).holds (a.tmps.getD 23 undef) win wr := E.fact 3 _ (by omega) rfl
      obtain ⟨xa, xc, f1, st1⟩ : TabV _ _ _ := e21
      obtain ⟨ya, yc, f2, st2⟩ : TabV _ _ _ := e23
      obtain ⟨p1, n1, o1⟩ : _ ∧ _ ∧ _ := e7
      obtain ⟨p2, n2, o2⟩ : _ ∧ _ ∧ _ := e8
      have g1 := E.rng 4 (by omega)
      have g2 := E.rng 5 (by omega)
      have far : ∀ j, j = 4 ∨ j = 5 → ∀ d ∈ [1, 3], ¬ ((win d).1 ≤ (win j).1 ∧ (win j).1 < (win d).2) := by
        intro j hj d hd
        have hd' : d = 1 ∨ d = 3 := by simpa using hd
        have := E.apart j d (by omega) (by omega) (by omega)
        have : (win j).2 = (win j).1 + 1 := by rcases hj with rfl | rfl <;> assumption
        omega
      have hO1 := (HO.out.dr.drop2.drop2).region E.below win [1, 3] (fun d hd => (E.rng d (by simp at hd; omega)).1)
      have no : ∀ j, j = 4 ∨ j = 5 → m.wins wr win [1, 3] (win j).1 = none := fun j hj =>
        Mem.wins_none (Mem.none_of_ge HO.out.dr.inn (E.rng j (by omega)).1) (far j hj)
      have hL1 := (HO.out.dr.drop2.drop2).blk_lt g1.1
      have hL2 := (HO.out.dr.drop2.drop2).blk_lt g2.1
      have a12 := E.apart 4 5 (by omega) (by omega) (by omega)
      have hge := HO.out.dr.below.size
      have hO2 := hO1.newObj o1 (by omega) (no 4 (by omega)) hL1
      have hO2 := hO2.newObj o2 (by omega) (no 5 (by omega)) (blk_cons (by omega) hL2)
      have st1 := statesAt_le (Mem.wins_le (es := [1, 3]) hO1.inn0 win (by simp)) st1
      have st2 := statesAt_le (Mem.wins_le (es := [1, 3]) hO1.inn0 win (by simp)) st2
      have hle := Mem.le_wins hO1.inn0 win [1, 3]
      have HK := Lib.hid (And.intro hle (And.intro st1 st2))
      generalize m.wins wr win [1, 3] = mk at *
      generalize (win 4).1 = q1 at *
      generalize (win 5).1 = q2 at *
      have HE := Lib.hid E
      clear st1 st2 hle hL1 hL2 no far hO1 a12 g1 g2 o1 o2 n1 n2 hge E
      have b1 := hO2.swap.obj.frozen 0
      have b2 := hO2.swap.obj.cell (i := 0) rfl
      have b3 := hO2.swap.obj.lt
      have hO3 := hO2.swap.set 0 (.slice xa (goodT A).length xc)
      refine wpAny_one 6 (by kernel_rfl) (wpOp_of rfl rfl (wp_skipped (by go_simp; first | done | rfl) ?_))
      clear b1 b2 b3
      have b1 := hO3.swap.obj.frozen 0
      have b2 := hO3.swap.obj.cell (i := 0) rfl
      have b3 := hO3.swap.obj.lt
      have hO4 := hO3.swap.set 0 (.slice ya (goodT B).length yc)
      refine wpAny_one 7 (by kernel_rfl) (wpOp_of rfl rfl (wp_skipped (by go_simp; first | done | rfl) ?_))
      obtain ⟨t, d⟩ := a
      obtain rfl : d = [] := HE.out.defers
      refine wpAny_none (by kernel_rfl) (hX.out _ _ HE.out.size ⟨q1, q2, mk, xa, ya, xc, yc, ?_, hO4, HK.out.1, HK.out.2⟩) _
      simp only [List.map_cons, List.map_nil, e2, e6, p1, p2]
      rfl
  rintro z vs w1 - ⟨G1, G2, mk, xa, ya, xc, yc, rfl, hO, hmk, hr1, hr2⟩
  simp [litL, lk]
  clear HO HA HB
  have hgA := goodT_canon A
  have hgB := goodT_canon B
  have hgAl := goodT_len A
  have hgBl := goodT_len B
  have hsemA : ∀ x, accFrom (goodT A) 0 x = Sem A x := fun x => by
    unfold goodT Sem
    by_cases h : Canon A
    · simp [tf_true h]
    · simp [tf_false h]; exact accFrom_nil x
  have hsemB : ∀ x, accFrom (goodT B) 0 x = Sem B x := fun x => by
    unfold goodT Sem
    by_cases h : Canon B
    · simp [tf_true h]
    · simp [tf_false h]; exact accFrom_nil x
  have HG := Lib.hid (And.intro hgA (And.intro hgB (And.intro hsemA hsemB)))
  clear hgA hgB hsemA hsemB
  have hmul : ((goodT A).length + 2) * ((goodT B).length + 2) ≤ (A.length + 2) * (B.length + 2) := Nat.mul_le_mul (by omega) (by omega)
  generalize goodT A = A' at *
  generalize goodT B = B' at *
  have HO := Lib.hid hO
  have HR1 := Lib.hid (And.intro hr1 hr2)
  clear hO hr1 hr2
  go_wp2
  refine wp_cut_keep [2, 6, 7, 8, 9] (fun vs w' => ∃ (g3 : Nat), vs = [.int .u8 op, .pointer (some ⟨w.heap.size + 1 + 1, 0, none⟩), .pointer (some ⟨G1, 0, none⟩), .pointer (some ⟨G2, 0, none⟩), .slice (some ⟨g3, 0, none⟩) 1 1] ∧
    Own w m w' mk [.obj g3 74 #[.int .i64 (st0 A'), .int .i64 (st0 B')], .obj G2 24 #[.slice ya B'.length yc], .obj G1 24 #[.slice xa A'.length xc], .obj (w.heap.size + 1 + 1) 24 #[.slice none 0 0]]) ?_ ?_
  · intro X hX
    refine wp_region_facts 7 6 (fun j => [Fact.is (· = .agg #[.slice xa A'.length xc]), Fact.is (· = .int .i64 (st0 A')), Fact.is (· = .agg #[.slice ya B'.length yc]), Fact.is (· = .int .i64 (st0 B')), Fact.is (· = .agg #[.int .i64 (st0 A'), .int .i64 (st0 B')]), Fact.sl 5 74 #[.int .i64 (st0 A'), .int .i64 (st0 B')] 1, Fact.sl 5 74 #[.int .i64 (st0 A'), .int .i64 (st0 B')] 1].getD j Fact.any) (by kernel_rfl) (by kernel_rfl) ?_ ?_
    · intro i hi o win a wr ho RA
      have HO2 := HO.out.dr.move RA.below
      have q1 := HO2.obj.cell (i := 0) rfl
      have q2 := HO2.swap.obj.cell (i := 0) rfl
      rcases (show i = 0 ∨ i = 1 ∨ i = 2 ∨ i = 3 ∨ i = 4 ∨ i = 5 ∨ i = 6 by omega) with rfl | rfl | rfl | rfl | rfl | rfl | rfl
      · have e7 := RA.keep 7 (by kernel_rfl)
        cases ho
        refine wpOp_of rfl rfl (wp_value (by go_simp; first | done | rfl) ⟨_, rfl, Below.refl _ _, rfl⟩)
      · have e24 : a.tmps.getD 24 undef = .agg #[.slice xa A'.length xc] := RA.dep 0 _ (by kernel_rfl) rfl
        cases ho
        refine wpOp_of rfl rfl (wp_enter (by go_simp; first | done | rfl) (start_any (.slice xa A'.length xc) A' mk wr HR1.out.1) ?_)
        rintro e w' ⟨rfl, hb⟩
        exact ⟨_, rfl, _, rfl, hb, rfl⟩
      · have e8 := RA.keep 8 (by kernel_rfl)
        cases ho
        refine wpOp_of rfl rfl (wp_value (by go_simp; first | done | rfl) ⟨_, rfl, Below.refl _ _, rfl⟩)
      · have e26 : a.tmps.getD 26 undef = .agg #[.slice ya B'.length yc] := RA.dep 2 _ (by kernel_rfl) rfl
        cases ho
        refine wpOp_of rfl rfl (wp_enter (by go_simp; first | done | rfl) (start_any (.slice ya B'.length yc) B' mk wr HR1.out.2) ?_)
        rintro e w' ⟨rfl, hb⟩
        exact ⟨_, rfl, _, rfl, hb, rfl⟩
      · have e25 : a.tmps.getD 25 undef = .int .i64 (st0 A') := RA.dep 1 _ (by kernel_rfl) rfl
        have e27 : a.tmps.getD 27 undef = .int .i64 (st0 B') := RA.dep 3 _ (by kernel_rfl) rfl
        have f25 := (Array.getD_eq_getD_getElem? (xs := a.tmps) (i := 25) (d := undef)).symm.trans e25
        have f27 := (Array.getD_eq_getD_getElem? (xs := a.tmps) (i := 27) (d := undef)).symm.trans e27
        cases ho
        refine wpOp_of rfl rfl (wp_value (by go_simp; first | done | rfl) ⟨_, rfl, Below.refl _ _, rfl⟩)
      · have e28 : a.tmps.getD 28 undef = .agg #[.int .i64 (st0 A'), .int .i64 (st0 B')] := RA.dep 4 _ (by kernel_rfl) rfl
        have f28 := (Array.getD_eq_getD_getElem? (xs := a.tmps) (i := 28) (d := undef)).symm.trans e28
        cases ho
        exact wpOp_of rfl rfl (wp_value (by go_simp; first | done | rfl) ⟨_, rfl, below_al (Below.refl _ _) _, sl_mk win⟩)
      · have e29 : (Fact.sl 5 74 #[.int .i64 (st0 A'), .int .i64 (st0 B')] 1).holds (a.tmps.getD 29 undef) win wr := RA.dep 5 _ (by kernel_rfl) rfl
        cases ho
        obtain ⟨f1, f2, f3⟩ : _ ∧ _ ∧ _ := e29
        exact wpOp_of rfl rfl (wp_value (by go_simp; first | done | rfl) ⟨_, rfl, Below.refl _ _, (Fact.sl 5 74 #[.int .i64 (st0 A'), .int .i64 (st0 B')] 1).mono _ win _ wr wr (fun d hd => ⟨(Win.put_ne win _ (by simp [Fact.sl] at hd; omega)).symm, (RA.rng d (by simp [Fact.sl] at hd; subst hd; kernel_rfl)).2.2⟩) (Below.refl _ _) ⟨rfl, f2, f3⟩⟩)
    · intro win a wr E
      have e2 := E.keep 2 (by kernel_rfl)
      have e6 := E.keep 6 (by kernel_rfl)
      have e7 := E.keep 7 (by kernel_rfl)
      have e8 := E.keep 8 (by kernel_rfl)
      have e9 : (Fact.sl 5 74 #[.int .i64 (st0 A'), .int .i64 (st0 B')] 1).holds (a.tmps.getD 9 undef) win wr := E.fact 6 _ (by omega) rfl
      obtain ⟨p1, n1, o1⟩ : _ ∧ _ ∧ _ := e9
      have g1 := E.rng 5 (by omega)
      have hO1 := HO.out.dr.move E.below
      have hge := HO.out.dr.below.size
      have hO2 := hO1.newObj o1 (by omega) (Mem.none_of_ge HO.out.dr.inn g1.1) (HO.out.dr.blk_lt g1.1)
      obtain ⟨t, d⟩ := a
      obtain rfl : d = [] := E.defers
      refine wpAny_none (by kernel_rfl) (hX.out _ _ E.size ⟨(win 5).1, ?_, hO2⟩) _
      simp only [List.map_cons, List.map_nil, e2, e6, e7, e8, p1]
      rfl
  rintro z2 vs w2 - ⟨g3, rfl, hO⟩
  simp [litL, lk]
  clear HO
  have hO2 := (hO.asRow2).nilRow 37 2
  have HO2 := Lib.hid (And.intro hO2 (And.intro (prod_start (A := A') (B := B') (op := f) (st := (st0 A', st0 B')) (by have := st0_rng A'; have := st0_rng B'; simp only; omega)) (And.intro (st0_rng A') (st0_rng B'))))
  clear hO hO2
  go_wp2
  refine wp_loop_keep [2, 6, 7, 8, 9, 10, 11] (fun n vs wr => ∃ (k : Nat) (l : List (Int × Int)) (out : Table) (vl vo : Value) (xs : List Value) (mk' : Mem), n = 1000001 - k ∧
    vs = [.int .u8 op, .pointer (some ⟨w.heap.size + 1 + 1, 0, none⟩), .pointer (some ⟨G1, 0, none⟩), .pointer (some ⟨G2, 0, none⟩), vl, vo, .int .i64 k] ∧
    Own w m wr mk' [.row vo 37 2 k xs, .row vl 74 2 l.length (pairCells l), .obj G2 24 #[.slice ya B'.length yc], .obj G1 24 #[.slice xa A'.length xc], .obj (w.heap.size + 1 + 1) 24 #[.slice none 0 0]] ∧
    StRow mk' xs out ∧ mk.le mk' ∧ ProdInv A' B' f (st0 A', st0 B') l out ∧ out.length = k ∧ (∀ q ∈ l, q.1 < A'.length ∧ q.2 < B'.length)) ?_ ?_
  · refine ⟨_, 0, [(st0 A', st0 B')], [], .slice (some ⟨g3, 0, none⟩) 1 1, .slice none 0 0, [], mk, rfl, rfl, HO2.out.1, StRow.nil _, Mem.le_refl _, HO2.out.2.1, rfl, fun q hq => ?_⟩
    simp only [List.mem_singleton] at hq
    subst hq
    exact ⟨HO2.out.2.2.1.2, HO2.out.2.2.2.2⟩
  clear HO2
  rintro X z3 n vs wr hX - ⟨k, l, out, vl, vo, xs, mk', rfl, rfl, hO, hrow, hmk', hPI, hol, hlr⟩
  simp [litL, lk]
  obtain ⟨vla, vlc, rfl⟩ := row_slice hO.swap.row
  have hpl := pair_bound hPI.nodup hPI.rng
  have hkl := hPI.le
  by_cases hlt : k < l.length
  · obtain ⟨vlb, rfl⟩ := row_some hO.swap.row (by omega)
    have hpc := pairCells_get l k hlt
    have r1 := row_cellw hO.swap.row hpc.1
    have r2 := row_cellw hO.swap.row hpc.2
    have rl := (World.ownsRow.lt hO.swap.row _ rfl).2
    have hlk : l[k]? = some l[k] := by simp [hlt]
    have hrng := hPI.rng l[k] (List.getElem_mem hlt)
    have hrn2 := hlr l[k] (List.getElem_mem hlt)
    have HP := Lib.hid (And.intro hPI (And.intro hol (And.intro hlk hlr)))
    generalize l[k] = p at *
    obtain ⟨pa, pb⟩ := p
    simp only at r1 r2 hrng hrn2
    have hO2 := hO.al #[.int .i64 pa, .int .i64 pb] 74
    have HO2 := Lib.hid hO2
    clear hO2 hO hPI hol hlk hpc hlr
    go_wp2
    generalize hW2 : wr.alloc (.cells #[.int .i64 pa, .int .i64 pb] 74) = w2 at *
    generalize wr.heap.size = P at *
    refine wp_cut_keep [2, 6, 7, 8, 9, 10, 11, 12, 13] (fun vs w' => ∃ S : Nat,
      vs = [.int .u8 op, .pointer (some ⟨w.heap.size + 1 + 1, 0, none⟩), .pointer (some ⟨G1, 0, none⟩), .pointer (some ⟨G2, 0, none⟩), .slice (some ⟨vlb, 0, none⟩) l.length vlc, vo, .int .i64 k, .pointer (some ⟨P, 0, none⟩), .pointer (some ⟨S, 0, none⟩)] ∧
      Own w m w' mk' [.obj S 37 #[.bool (f (accAt A' pa) (accAt B' pb)), .slice none 0 0], .obj P 74 #[.int .i64 pa, .int .i64 pb], .row vo 37 2 k xs, .row (.slice (some ⟨vlb, 0, none⟩) l.length vlc) 74 2 l.length (pairCells l), .obj G2 24 #[.slice ya B'.length yc], .obj G1 24 #[.slice xa A'.length xc], .obj (w.heap.size + 1 + 1) 24 #[.slice none 0 0]]) ?_ ?_
    · intro Y hY
      refine wp_region_facts 12 6 (fun j => [Fact.is (· = .int .u8 op), Fact.is (· = .agg #[.slice xa A'.length xc]), Fact.is (· = .pointer (some ⟨P, 0, none⟩)), Fact.is (· = .int .i64 pa), Fact.is (· = .bool (accAt A' pa)), Fact.is (· = .agg #[.slice ya B'.length yc]), Fact.is (· = .pointer (some ⟨P, 1, none⟩)), Fact.is (· = .int .i64 pb), Fact.is (· = .bool (accAt B' pb)), Fact.is (· = .bool (f (accAt A' pa) (accAt B' pb))), Fact.is (· = .agg #[.bool (f (accAt A' pa) (accAt B' pb)), .slice none 0 0]), Fact.obj 11 37 #[.bool false, .slice none 0 0]].getD j Fact.any) (by kernel_rfl) (by kernel_rfl) ?_ ?_
      · intro i hi o win a wr ho RA
        have HO3 := HO2.out.dr.move RA.below
        have q1 := (HO3.at_obj (g := G1) (t := 24) (arr := #[.slice xa A'.length xc]) (by simp)).cell (i := 0) rfl
        have q2 := (HO3.at_obj (g := G2) (t := 24) (arr := #[.slice ya B'.length yc]) (by simp)).cell (i := 0) rfl
        have q3 := HO3.obj.cell (i := 0) rfl
        have q4 := HO3.obj.cell (i := 1) rfl
        have hin := Mem.inn_le hmk' HO3.inn
        rcases (show i = 0 ∨ i = 1 ∨ i = 2 ∨ i = 3 ∨ i = 4 ∨ i = 5 ∨ i = 6 ∨ i = 7 ∨ i = 8 ∨ i = 9 ∨ i = 10 ∨ i = 11 by omega) with rfl | rfl | rfl | rfl | rfl | rfl | rfl | rfl | rfl | rfl | rfl | rfl
        · have e2 := RA.keep 2 (by kernel_rfl)
          cases ho
          refine wpOp_of rfl rfl (wp_value (by go_simp; first | done | rfl) ⟨_, rfl, Below.refl _ _, rfl⟩)
        · have e7 := RA.keep 7 (by kernel_rfl)
          cases ho
          refine wpOp_of rfl rfl (wp_value (by go_simp; first | done | rfl) ⟨_, rfl, Below.refl _ _, rfl⟩)
        · have e12 := RA.keep 12 (by kernel_rfl)
          cases ho
          refine wpOp_of rfl rfl (wp_value (by go_simp; first | done | rfl) ⟨_, rfl, Below.refl _ _, rfl⟩)
        · have e42 : a.tmps.getD 42 undef = .pointer (some ⟨P, 0, none⟩) := RA.dep 2 _ (by kernel_rfl) rfl
          cases ho
          refine wpOp_of rfl rfl (wp_value (by go_simp; first | done | rfl) ⟨_, rfl, Below.refl _ _, rfl⟩)
        · have e41 : a.tmps.getD 41 undef = .agg #[.slice xa A'.length xc] := RA.dep 1 _ (by kernel_rfl) rfl
          have e43 : a.tmps.getD 43 undef = .int .i64 pa := RA.dep 3 _ (by kernel_rfl) rfl
          cases ho
          refine wpOp_of rfl rfl (wp_enter (by go_simp; first | done | rfl) (r06_accepts_any (.slice xa A'.length xc) A' pa mk wr hin HR1.out.1 (by omega) (by omega)) ?_)
          rintro e w' ⟨rfl, hb⟩
          exact ⟨_, rfl, _, rfl, hb, rfl⟩
        · have e8 := RA.keep 8 (by kernel_rfl)
          cases ho
          refine wpOp_of rfl rfl (wp_value (by go_simp; first | done | rfl) ⟨_, rfl, Below.refl _ _, rfl⟩)
        · have e12 := RA.keep 12 (by kernel_rfl)
          cases ho
          refine wpOp_of rfl rfl (wp_value (by go_simp; first | done | rfl) ⟨_, rfl, Below.refl _ _, rfl⟩)
        · have e46 : a.tmps.getD 46 undef = .pointer (some ⟨P, 1, none⟩) := RA.dep 6 _ (by kernel_rfl) rfl
          cases ho
          refine wpOp_of rfl rfl (wp_value (by go_simp; first | done | rfl) ⟨_, rfl, Below.refl _ _, rfl⟩)
        · have e45 : a.tmps.getD 45 undef = .agg #[.slice ya B'.length yc] := RA.dep 5 _ (by kernel_rfl) rfl
          have e47 : a.tmps.getD 47 undef = .int .i64 pb := RA.dep 7 _ (by kernel_rfl) rfl
          cases ho
          refine wpOp_of rfl rfl (wp_enter (by go_simp; first | done | rfl) (r06_accepts_any (.slice ya B'.length yc) B' pb mk wr hin HR1.out.2 (by omega) (by omega)) ?_)
          rintro e w' ⟨rfl, hb⟩
          exact ⟨_, rfl, _, rfl, hb, rfl⟩
        · have e40 : a.tmps.getD 40 undef = .int .u8 op := RA.dep 0 _ (by kernel_rfl) rfl
          have e44 : a.tmps.getD 44 undef = .bool (accAt A' pa) := RA.dep 4 _ (by kernel_rfl) rfl
          have e48 : a.tmps.getD 48 undef = .bool (accAt B' pb) := RA.dep 8 _ (by kernel_rfl) rfl
          cases ho
          refine wpOp_of rfl rfl (wp_enter (by go_simp; first | done | rfl) (want_any op (accAt A' pa) (accAt B' pb) wr f HW.out) ?_)
          rintro e w' ⟨rfl, hb⟩
          exact ⟨_, rfl, _, rfl, hb, rfl⟩
        · have e49 : a.tmps.getD 49 undef = .bool (f (accAt A' pa) (accAt B' pb)) := RA.dep 9 _ (by kernel_rfl) rfl
          have f49 := (Array.getD_eq_getD_getElem? (xs := a.tmps) (i := 49) (d := undef)).symm.trans e49
          cases ho
          refine wpOp_of rfl rfl (wp_value (by go_simp; first | done | rfl) ⟨_, rfl, Below.refl _ _, rfl⟩)
        · cases ho
          exact wpOp_of rfl rfl (wp_value (by go_simp; first | done | rfl) ⟨_, rfl, below_al (Below.refl _ _) _, obj_mk win⟩)
      · intro win a wr E
        have e2 := E.keep 2 (by kernel_rfl)
        have e6 := E.keep 6 (by kernel_rfl)
        have e7 := E.keep 7 (by kernel_rfl)
        have e8 := E.keep 8 (by kernel_rfl)
        have e9 := E.keep 9 (by kernel_rfl)
        have e10 := E.keep 10 (by kernel_rfl)
        have e11 := E.keep 11 (by kernel_rfl)
        have e12 := E.keep 12 (by kernel_rfl)
        have e13 : (Fact.obj 11 37 #[.bool false, .slice none 0 0]).holds (a.tmps.getD 13 undef) win wr := E.fact 11 _ (by omega) rfl
        have e50 : a.tmps.getD 50 undef = .agg #[.bool (f (accAt A' pa) (accAt B' pb)), .slice none 0 0] := E.fact 10 _ (by omega) rfl
        obtain ⟨p1, n1, o1⟩ : _ ∧ _ ∧ _ := e13
        have g1 := E.rng 11 (by omega)
        have hO1 := HO2.out.dr.move E.below
        have hge := HO2.out.dr.below.size
        have hF := hO1.newObj o1 (by omega) (Mem.none_of_ge HO2.out.dr.inn g1.1) (HO2.out.dr.blk_lt g1.1)
        generalize (win 11).1 = S at *
        have HE := Lib.hid E
        clear E g1 hge o1 n1 hO1
        have b0 := hF.obj.frozen 0
        have b1 := hF.obj.frozen 1
        have b2 := hF.obj.cell (i := 0) rfl
        have b3 := hF.obj.cell (i := 1) rfl
        have b4 := hF.obj.lt
        have hZ := (hF.set 0 (.bool (f (accAt A' pa) (accAt B' pb)))).set 1 (.slice none 0 0)
        refine wpAny_one 12 (by kernel_rfl) (wpOp_of rfl rfl (wp_skipped (by go_simp; first | done | rfl) ?_))
        obtain ⟨t, d⟩ := a
        obtain rfl : d = [] := HE.out.defers
        refine wpAny_none (by kernel_rfl) (hY.out _ _ HE.out.size ⟨S, ?_, hZ⟩) _
        simp only [List.map_cons, List.map_nil, e2, e6, e7, e8, e9, e10, e11, e12, p1]
        rfl
    rintro z4 vs w3 - ⟨S, rfl, hO⟩
    simp [litL, lk]
    have HO := Lib.hid (hO.nilRow 46 3)
    clear hO HO2 hW2
    go_wp2
    refine wp_loop_keep [2, 6, 7, 8, 9, 10, 11, 12, 13, 14] (fun n vs w' => ∃ (c : Nat) (l' : List (Int × Int)) (vl' ve : Value) (es : List Ed), c ≤ 256 ∧ n = 256 - c ∧
      vs = [.int .u8 op, .pointer (some ⟨w.heap.size + 1 + 1, 0, none⟩), .pointer (some ⟨G1, 0, none⟩), .pointer (some ⟨G2, 0, none⟩), vl', vo, .int .i64 k, .pointer (some ⟨P, 0, none⟩), .pointer (some ⟨S, 0, none⟩), .int .i64 c] ∧
      Own w m w' mk' [.row ve 46 3 es.length (edCells es), .obj S 37 #[.bool (f (accAt A' pa) (accAt B' pb)), ve], .obj P 74 #[.int .i64 pa, .int .i64 pb], .row vo 37 2 k xs, .row vl' 74 2 l'.length (pairCells l'), .obj G2 24 #[.slice ya B'.length yc], .obj G1 24 #[.slice xa A'.length xc], .obj (w.heap.size + 1 + 1) 24 #[.slice none 0 0]] ∧
      Cover A' B' (pa, pb) l' es c ∧ ProdInv A' B' f (st0 A', st0 B') l' out ∧ l'[k]? = some (pa, pb) ∧ (∀ q ∈ l', q.1 < A'.length ∧ q.2 < B'.length)) ?_ ?_
    · exact ⟨_, 0, l, .slice (some ⟨vlb, 0, none⟩) l.length vlc, .slice none 0 0, [], by omega, rfl, rfl, HO.out, Cover.start _ _ _ _, HP.out.1, HP.out.2.2.1, HP.out.2.2.2⟩
    clear HO
    rintro Y z5 n vs w6 hY - ⟨c, l', vl', ve, es, hc, rfl, rfl, hO, hcov, hPI, hlk, hlr⟩
    simp [litL, lk]
    obtain ⟨vla2, vlc2, rfl⟩ := row_slice (hO.at_row (v := vl') (t := 74) (size := 2) (n := l'.length) (xs := pairCells l') (by simp))
    obtain ⟨vea, vec, rfl⟩ := row_slice hO.row
    have hpl2 := pair_bound hPI.nodup hPI.rng
    have hok := hcov.ok (by omega)
    have hel := hok.2
    have HC := Lib.hid (And.intro hcov (And.intro hPI (And.intro hlk (And.intro hok.1 hlr))))
    clear hcov hlk hok hPI hlr
    by_cases hlt2 : c < 256
    · have hgt := cutTo_gt (Ls := [A', B']) (ps := [pa, pb]) hlt2 2
      have hle := cutTo_le [A', B'] [pa, pb] c 2
      have HQ := Lib.hid (fun b (h1 : c ≤ b) (h2 : b < cutTo [A', B'] [pa, pb] c 2) => cut2_const (A := A') (B := B') (p := (pa, pb)) h1 h2)
      have q1 := (hO.at_obj (g := G1) (t := 24) (arr := #[.slice xa A'.length xc]) (by simp)).cell (i := 0) rfl
      have q1l := (hO.at_obj (g := G1) (t := 24) (arr := #[.slice xa A'.length xc]) (by simp)).lt
      have q2 := (hO.at_obj (g := G2) (t := 24) (arr := #[.slice ya B'.length yc]) (by simp)).cell (i := 0) rfl
      have q2l := (hO.at_obj (g := G2) (t := 24) (arr := #[.slice ya B'.length yc]) (by simp)).lt
      have q3 := (hO.at_obj (g := P) (t := 74) (arr := #[.int .i64 pa, .int .i64 pb]) (by simp)).cell (i := 0) rfl
      have q4 := (hO.at_obj (g := P) (t := 74) (arr := #[.int .i64 pa, .int .i64 pb]) (by simp)).cell (i := 1) rfl
      have q3l := (hO.at_obj (g := P) (t := 74) (arr := #[.int .i64 pa, .int .i64 pb]) (by simp)).lt
      have hO3 := (hO.al #[.slice xa A'.length xc, .slice ya B'.length yc] 24).al #[.int .i64 pa, .int .i64 pb] 3
      have hsz : (w6.alloc (.cells #[.slice xa A'.length xc, .slice ya B'.length yc] 24)).heap.size = w6.heap.size + 1 := by simp
      rw [hsz] at hO3
      have hOm := hO.move (below_al (below_al (Below.refl _ _) (.cells #[.slice xa A'.length xc, .slice ya B'.length yc] 24)) (.cells #[.int .i64 pa, .int .i64 pb] 3))
      have HCut := Lib.hid (cut_call (v := .slice xa A'.length xc) (v' := .slice ya B'.length yc) hO3 (statesAt_le hmk' HR1.out.1) (statesAt_le hmk' HR1.out.2) (by omega) (by omega) (by omega) (by omega) hlt2 (by omega) (by omega))
      have HO := Lib.hid hOm
      clear hO hO3 hsz hOm
      go_wp2_with fail
      refine HCut.out.mono ?_
      rintro e w7 ⟨rfl, hb7⟩
      have HO := Lib.hid (HO.out.move hb7)
      clear HCut hb7 q1 q1l q2 q2l q3 q4 q3l
      generalize cutTo [A', B'] [pa, pb] c 2 = ed at *
      go_wp2
      refine wp_cut_keep [2, 6, 7, 8, 9, 10, 11, 12, 13, 14, 15, 16] (fun vs w' => ∃ Z : Nat, vs = [.int .u8 op, .pointer (some ⟨w.heap.size + 1 + 1, 0, none⟩), .pointer (some ⟨G1, 0, none⟩), .pointer (some ⟨G2, 0, none⟩), .slice vla2 l'.length vlc2, vo, .int .i64 k, .pointer (some ⟨P, 0, none⟩), .pointer (some ⟨S, 0, none⟩), .int .i64 c, .int .i64 ed, .pointer (some ⟨Z, 0, none⟩)] ∧
        Own w m w' mk' [.obj Z 74 #[.int .i64 (tstep A' pa c), .int .i64 (tstep B' pb c)], .row (.slice vea es.length vec) 46 3 es.length (edCells es), .obj S 37 #[.bool (f (accAt A' pa) (accAt B' pb)), .slice vea es.length vec], .obj P 74 #[.int .i64 pa, .int .i64 pb], .row vo 37 2 k xs, .row (.slice vla2 l'.length vlc2) 74 2 l'.length (pairCells l'), .obj G2 24 #[.slice ya B'.length yc], .obj G1 24 #[.slice xa A'.length xc], .obj (w.heap.size + 1 + 1) 24 #[.slice none 0 0]]) ?_ ?_
      · intro V hV
        refine wp_region_facts 12 6 (fun j => [Fact.is (· = .agg #[.slice xa A'.length xc]), Fact.is (· = .pointer (some ⟨P, 0, none⟩)), Fact.is (· = .int .i64 pa), Fact.is (· = .int .i64 c), Fact.is (· = .int .i64 (tstep A' pa c)), Fact.is (· = .agg #[.slice ya B'.length yc]), Fact.is (· = .pointer (some ⟨P, 1, none⟩)), Fact.is (· = .int .i64 pb), Fact.is (· = .int .i64 c), Fact.is (· = .int .i64 (tstep B' pb c)), Fact.is (· = .agg #[.int .i64 (tstep A' pa c), .int .i64 (tstep B' pb c)]), Fact.obj 11 74 #[.int .i64 0, .int .i64 0]].getD j Fact.any) (by kernel_rfl) (by kernel_rfl) ?_ ?_
        · intro i hi o win a wr ho RA
          have HO3 := HO.out.dr.move RA.below
          have q1 := (HO3.at_obj (g := G1) (t := 24) (arr := #[.slice xa A'.length xc]) (by simp)).cell (i := 0) rfl
          have q2 := (HO3.at_obj (g := G2) (t := 24) (arr := #[.slice ya B'.length yc]) (by simp)).cell (i := 0) rfl
          have q3 := (HO3.at_obj (g := P) (t := 74) (arr := #[.int .i64 pa, .int .i64 pb]) (by simp)).cell (i := 0) rfl
          have q4 := (HO3.at_obj (g := P) (t := 74) (arr := #[.int .i64 pa, .int .i64 pb]) (by simp)).cell (i := 1) rfl
          have hin := Mem.inn_le hmk' HO3.inn
          rcases (show i = 0 ∨ i = 1 ∨ i = 2 ∨ i = 3 ∨ i = 4 ∨ i = 5 ∨ i = 6 ∨ i = 7 ∨ i = 8 ∨ i = 9 ∨ i = 10 ∨ i = 11 by omega) with rfl | rfl | rfl | rfl | rfl | rfl | rfl | rfl | rfl | rfl | rfl | rfl
          · have e7 := RA.keep 7 (by kernel_rfl)
            cases ho
            refine wpOp_of rfl rfl (wp_value (by go_simp; first | done | rfl) ⟨_, rfl, Below.refl _ _, rfl⟩)
          · have e12 := RA.keep 12 (by kernel_rfl)
            cases ho
            refine wpOp_of rfl rfl (wp_value (by go_simp; first | done | rfl) ⟨_, rfl, Below.refl _ _, rfl⟩)
          · have e64 : a.tmps.getD 64 undef = .pointer (some ⟨P, 0, none⟩) := RA.dep 1 _ (by kernel_rfl) rfl
            cases ho
            refine wpOp_of rfl rfl (wp_value (by go_simp; first | done | rfl) ⟨_, rfl, Below.refl _ _, rfl⟩)
          · have e14 := RA.keep 14 (by kernel_rfl)
            cases ho
            refine wpOp_of rfl rfl (wp_value (by go_simp; first | done | rfl) ⟨_, rfl, Below.refl _ _, rfl⟩)
          · have e63 : a.tmps.getD 63 undef = .agg #[.slice xa A'.length xc] := RA.dep 0 _ (by kernel_rfl) rfl
            have e65 : a.tmps.getD 65 undef = .int .i64 pa := RA.dep 2 _ (by kernel_rfl) rfl
            have e66 : a.tmps.getD 66 undef = .int .i64 c := RA.dep 3 _ (by kernel_rfl) rfl
            cases ho
            refine wpOp_of rfl rfl (wp_enter (by go_simp; first | done | rfl) (next_any (.slice xa A'.length xc) A' pa c mk wr hin HR1.out.1 (by omega) (by omega)) ?_)
            rintro e w' ⟨rfl, hb⟩
            exact ⟨_, rfl, _, rfl, hb, rfl⟩
          · have e8 := RA.keep 8 (by kernel_rfl)
            cases ho
            refine wpOp_of rfl rfl (wp_value (by go_simp; first | done | rfl) ⟨_, rfl, Below.refl _ _, rfl⟩)
          · have e12 := RA.keep 12 (by kernel_rfl)
            cases ho
            refine wpOp_of rfl rfl (wp_value (by go_simp; first | done | rfl) ⟨_, rfl, Below.refl _ _, rfl⟩)
          · have e69 : a.tmps.getD 69 undef = .pointer (some ⟨P, 1, none⟩) := RA.dep 6 _ (by kernel_rfl) rfl
            cases ho
            refine wpOp_of rfl rfl (wp_value (by go_simp; first | done | rfl) ⟨_, rfl, Below.refl _ _, rfl⟩)
          · have e14 := RA.keep 14 (by kernel_rfl)
            cases ho
            refine wpOp_of rfl rfl (wp_value (by go_simp; first | done | rfl) ⟨_, rfl, Below.refl _ _, rfl⟩)
          · have e68 : a.tmps.getD 68 undef = .agg #[.slice ya B'.length yc] := RA.dep 5 _ (by kernel_rfl) rfl
            have e70 : a.tmps.getD 70 undef = .int .i64 pb := RA.dep 7 _ (by kernel_rfl) rfl
            have e71 : a.tmps.getD 71 undef = .int .i64 c := RA.dep 8 _ (by kernel_rfl) rfl
            cases ho
            refine wpOp_of rfl rfl (wp_enter (by go_simp; first | done | rfl) (next_any (.slice ya B'.length yc) B' pb c mk wr hin HR1.out.2 (by omega) (by omega)) ?_)
            rintro e w' ⟨rfl, hb⟩
            exact ⟨_, rfl, _, rfl, hb, rfl⟩
          · have e67 : a.tmps.getD 67 undef = .int .i64 (tstep A' pa c) := RA.dep 4 _ (by kernel_rfl) rfl
            have e72 : a.tmps.getD 72 undef = .int .i64 (tstep B' pb c) := RA.dep 9 _ (by kernel_rfl) rfl
            have f72 := (Array.getD_eq_getD_getElem? (xs := a.tmps) (i := 72) (d := undef)).symm.trans e72
            have f67 := (Array.getD_eq_getD_getElem? (xs := a.tmps) (i := 67) (d := undef)).symm.trans e67
            cases ho
            refine wpOp_of rfl rfl (wp_value (by go_simp; first | done | rfl) ⟨_, rfl, Below.refl _ _, rfl⟩)
          · cases ho
            exact wpOp_of rfl rfl (wp_value (by go_simp; first | done | rfl) ⟨_, rfl, below_al (Below.refl _ _) _, obj_mk win⟩)
        · intro win a wr E
          have e2 := E.keep 2 (by kernel_rfl)
          have e6 := E.keep 6 (by kernel_rfl)
          have e7 := E.keep 7 (by kernel_rfl)
          have e8 := E.keep 8 (by kernel_rfl)
          have e9 := E.keep 9 (by kernel_rfl)
          have e10 := E.keep 10 (by kernel_rfl)
          have e11 := E.keep 11 (by kernel_rfl)
          have e12 := E.keep 12 (by kernel_rfl)
          have e13 := E.keep 13 (by kernel_rfl)
          have e14 := E.keep 14 (by kernel_rfl)
          have e15 := E.keep 15 (by kernel_rfl)
          have e16 : (Fact.obj 11 74 #[.int .i64 0, .int .i64 0]).holds (a.tmps.getD 16 undef) win wr := E.fact 11 _ (by omega) rfl
          have e73 : a.tmps.getD 73 undef = .agg #[.int .i64 (tstep A' pa c), .int .i64 (tstep B' pb c)] := E.fact 10 _ (by omega) rfl
          obtain ⟨p1, n1, o1⟩ : _ ∧ _ ∧ _ := e16
          have g1 := E.rng 11 (by omega)
          have hO1 := HO.out.dr.move E.below
          have hge := HO.out.dr.below.size
          have hF := hO1.newObj o1 (by omega) (Mem.none_of_ge HO.out.dr.inn g1.1) (HO.out.dr.blk_lt g1.1)
          generalize (win 11).1 = Z at *
          have HE := Lib.hid E
          clear E g1 hge o1 n1 hO1
          have b0 := hF.obj.frozen 0
          have b1 := hF.obj.frozen 1
          have b2 := hF.obj.cell (i := 0) rfl
          have b3 := hF.obj.cell (i := 1) rfl
          have b4 := hF.obj.lt
          have hZ := (hF.set 0 (.int .i64 (tstep A' pa c))).set 1 (.int .i64 (tstep B' pb c))
          refine wpAny_one 12 (by kernel_rfl) (wpOp_of rfl rfl (wp_skipped (by go_simp; first | done | rfl) ?_))
          obtain ⟨t, d⟩ := a
          obtain rfl : d = [] := HE.out.defers
          refine wpAny_none (by kernel_rfl) (hV.out _ _ HE.out.size ⟨Z, ?_, hZ⟩) _
          simp only [List.map_cons, List.map_nil, e2, e6, e7, e8, e9, e10, e11, e12, e13, e14, e15, p1]
          rfl
      rintro z6 vs w8 - ⟨Z, rfl, hO⟩
      simp [litL, lk]
      clear HO
      have hrA := tstep_range HG.out.1.wf pa c
      have hrB := tstep_range HG.out.2.1.wf pb c
      have hps : pstep A' B' (pa, pb) c = (tstep A' pa c, tstep B' pb c) := rfl
      obtain ⟨qa, hqa⟩ : ∃ x, tstep A' pa c = x := ⟨_, rfl⟩
      obtain ⟨qb, hqb⟩ : ∃ x, tstep B' pb c = x := ⟨_, rfl⟩
      rw [hqa, hqb] at hps
      rw [hqa] at hrA
      rw [hqb] at hrB
      rw [hqa, hqb] at hO
      have hPI2 := HC.out.2.1.add (q := (qa, qb)) (by simp only; omega)
      have hpk : ∀ q ∈ l', pairOk q := fun q hq => by
        have := HC.out.2.1.rng q hq
        exact ⟨by omega, by omega, by omega, by omega⟩
      have hgt2 := pairAdd_get l' (qa, qb)
      have hpre := pairAdd_pre l' (qa, qb)
      have hcs := (HC.out.1.mono hpre).seg (h := ed - 1) (t := pairNo l' (qa, qb)) (by omega) (by omega) (by rw [hps]; exact hgt2) (fun b h1 h2 => HQ.out b h1 (by omega))
      have hlk2 : (pairAdd l' (qa, qb))[k]? = some (pa, pb) := by
        obtain ⟨x, hx⟩ := hpre
        rw [← hx, List.getElem?_append_left (List.getElem?_eq_some_iff.1 HC.out.2.2.1).1]; exact HC.out.2.2.1
      have hlr2 : ∀ q ∈ pairAdd l' (qa, qb), q.1 < A'.length ∧ q.2 < B'.length := fun q hq => by
        unfold pairAdd at hq
        split at hq
        · exact HC.out.2.2.2.2 q hq
        · rcases List.mem_append.1 hq with h | h
          · exact HC.out.2.2.2.2 q h
          · simp only [List.mem_singleton] at h
            subst h
            simp only
            omega
      have hpno := pairNo_le l' (qa, qb)
      have HK2 := Lib.hid (And.intro hcs (And.intro hPI2 (And.intro hlk2 hlr2)))
      have hq := hO.pull (l₁ := [_, _, _, _, _])
      have HPl := Lib.hid (place_any (.slice vla2 l'.length vlc2) l' (qa, qb) _ w8 hq.sealRow.inn (pairsAt_of_row hq.row hpk))
      have b0 := hO.obj.cell (i := 0) rfl
      have b1 := hO.obj.cell (i := 1) rfl
      have b2 := hO.obj.lt
      have HO := Lib.hid hO
      clear hO hq hpk hcs hPI2 hlk2 hlr2 hgt2 hpre hrA hrB hps HQ
      go_wp2_with fail
      refine HPl.out.mono ?_
      rintro e w9 ⟨rfl, hb9⟩
      rw [firstIdx_pair2]
      have HO := Lib.hid (HO.out.move hb9)
      clear HPl hb9 b0 b1 b2
      obtain ⟨bq, hbq⟩ : ∃ b, decide (pairNo l' (qa, qb) < l'.length) = b := ⟨_, rfl⟩
      have hto : (if pairNo l' (qa, qb) < l'.length then ((pairNo l' (qa, qb) : Nat) : Int) else -1) = if bq = true then ((pairNo l' (qa, qb) : Nat) : Int) else -1 := by rw [← hbq]; simp
      rw [hto]
      have HBQ := Lib.hid hbq
      clear hto hbq
      obtain ⟨vv, hvv⟩ : ∃ v : Int, (if bq = true then ((pairNo l' (qa, qb) : Nat) : Int) else -1) = v := ⟨_, rfl⟩
      rw [hvv]
      have HVV := Lib.hid hvv
      clear hvv
      go_upto_if 78 with (fail)
      refine wp_cut_keep [2, 6, 7, 8, 9, 10, 11, 12, 13, 14, 15, 17] (fun vs w' => ∃ vl2 : Value, vs = [.int .u8 op, .pointer (some ⟨w.heap.size + 1 + 1, 0, none⟩), .pointer (some ⟨G1, 0, none⟩), .pointer (some ⟨G2, 0, none⟩), vl2, vo, .int .i64 k, .pointer (some ⟨P, 0, none⟩), .pointer (some ⟨S, 0, none⟩), .int .i64 c, .int .i64 ed, .int .i64 (pairNo l' (qa, qb))] ∧
        Own w m w' mk' [.row (.slice vea es.length vec) 46 3 es.length (edCells es), .obj S 37 #[.bool (f (accAt A' pa) (accAt B' pb)), .slice vea es.length vec], .obj P 74 #[.int .i64 pa, .int .i64 pb], .row vo 37 2 k xs, .row vl2 74 2 (pairAdd l' (qa, qb)).length (pairCells (pairAdd l' (qa, qb))), .obj G2 24 #[.slice ya B'.length yc], .obj G1 24 #[.slice xa A'.length xc], .obj (w.heap.size + 1 + 1) 24 #[.slice none 0 0]]) ?_ ?_
      · intro V hV
        cases bq with
        | true =>
          have hvv : ((pairNo l' (qa, qb) : Nat) : Int) = vv := HVV.out
          have hlt3 : pairNo l' (qa, qb) < l'.length := of_decide_eq_true HBQ.out
          have he : pairAdd l' (qa, qb) = l' := by unfold pairAdd; rw [if_pos hlt3]
          have hng : ¬ vv < 0 := by omega
          have hd : decide (vv < 0) = false := decide_eq_false hng
          have HE := Lib.hid (And.intro he hvv)
          clear he hvv
          go_wp2
          refine hV.out _ _ rfl ⟨.slice vla2 l'.length vlc2, ?_, ?_⟩
          · rw [HE.out.2]; rfl
          · rw [HE.out.1]; exact HO.out.tail
        | false =>
          have hvv : -1 = vv := HVV.out
          have hlt3 : ¬ pairNo l' (qa, qb) < l'.length := of_decide_eq_false HBQ.out
          have he : pairAdd l' (qa, qb) = l' ++ [(qa, qb)] := by unfold pairAdd; rw [if_neg hlt3]
          have hn : pairNo l' (qa, qb) = l'.length := by omega
          have hng : vv < 0 := by omega
          have hd : decide (vv < 0) = true := decide_eq_true hng
          have HE := Lib.hid (And.intro he hn)
          have hO2 := HO.out.al #[.int .i64 qa, .int .i64 qb] 74
          have hnews := hO2.obj.news rfl
          have b0 := HO.out.obj.cell (i := 0) rfl
          have b1 := HO.out.obj.cell (i := 1) rfl
          have b2 := HO.out.obj.lt
          have hO3 := hO2.pull (l₁ := [_, _, _, _, _, _])
          have hvr := hO3.row
          have HO3 := Lib.hid hO3
          clear he hn hvv hlt3 hO2 hO3
          go_wp2_with (at_builtin; refine wpList_append_row tyPairs2 rfl (.tmp 81) (.tmp 83) rfl (.slice vla2 l'.length vlc2) l'.length (pairCells l') rfl hvr ⟨w9.heap.size, 0, none⟩ 1 1 [.int .i64 qa, .int .i64 qb] rfl rfl hnews (by simp [Value.oneCell']) (by unfold maxLen; omega) (by omega) ?_)
          intro xa' xc' w10 hown7 hgrow7 hrow7
          have hO5 := ((HO3.out.app hown7 hgrow7 hrow7 (by simp)).unpull (l₁ := [_, _, _, _, _, _])).tail.tail
          have HO5 := Lib.hid hO5
          clear hown7 hgrow7 hrow7 hO5 hvr hnews b0 b1 b2 HO3
          go_wp2
          refine hV.out _ _ rfl ⟨.slice xa' (l'.length + 1) xc', ?_, ?_⟩
          · rw [HE.out.2]; rfl
          · rw [HE.out.1]
            have := HO5.out
            simpa [pairCells_append] using this
      rintro z7 vs w10 - ⟨vl2, rfl, hO⟩
      simp [litL, lk]
      clear HO HVV HBQ
      obtain ⟨vla3, vlc3, rfl⟩ := row_slice (hO.at_row (v := vl2) (t := 74) (size := 2) (n := (pairAdd l' (qa, qb)).length) (xs := pairCells (pairAdd l' (qa, qb))) (by simp))
      generalize pairNo l' (qa, qb) = t at *
      generalize pairAdd l' (qa, qb) = l2 at *
      have hwu : IntKind.u8.wrap (c : Int) = (c : Int) := IntWalk.u8_in _ (by omega)
      have hwv : IntKind.u8.wrap ((ed : Int) - 1) = (ed : Int) - 1 := IntWalk.u8_in _ (by omega)
      have s1 := hO.swap.obj.cell (i := 1) rfl
      have s2 := hO.swap.obj.lt
      have s3 := hO.swap.obj.frozen 1
      have hO2 := hO.al #[.int .u8 c, .int .u8 ((ed : Int) - 1), .int .i64 t] 46
      have hnews := hO2.obj.news rfl
      have hvr := hO2.swap.row
      have HO2 := Lib.hid hO2.swap
      clear hO hO2
      go_wp2_with (at_builtin; refine wpList_append_row tyEdges rfl (.tmp 86) (.tmp 94) rfl (.slice vea es.length vec) es.length (edCells es) rfl hvr ⟨w10.heap.size, 0, none⟩ 1 1 [.int .u8 c, .int .u8 ((ed : Int) - 1), .int .i64 t] rfl rfl hnews (by simp [Value.oneCell']) (by unfold maxLen; omega) (by omega) ?_)
      intro na' nc' w11 hown7 hgrow7 hrow7
      have hO3 := (HO2.out.app hown7 hgrow7 hrow7 (by simp)).drop2
      have s1 := hO3.swap.obj.cell (i := 1) rfl
      have s2 := hO3.swap.obj.lt
      have s3 := hO3.swap.obj.frozen 1
      have hO4 := (hO3.swap.set 1 (.slice na' (es.length + 1) nc')).swap
      have HO4 := Lib.hid hO4
      clear hown7 hgrow7 hrow7 hO3 hO4 hvr hnews HO2
      go_wp2
      have hed : (((ed - 1 : Nat) : Int)) = (ed : Int) - 1 := by omega
      refine hY.out _ _ _ (by omega) rfl ⟨ed, l2, .slice vla3 l2.length vlc3, .slice na' (es.length + 1) nc', es ++ [⟨c, ed - 1, t⟩], by omega, rfl, ?_, ?_, ?_, HK2.out.2.1, HK2.out.2.2.1, HK2.out.2.2.2⟩
      · rfl
      · have := HO4.out
        rw [← hed] at this
        simpa [edCells_append] using this
      · have := HK2.out.1
        rwa [show ed - 1 + 1 = ed by omega] at this
    · obtain rfl : c = 256 := by omega
      have hPIn := HC.out.2.1.push (p := (pa, pb)) (by rw [HP.out.2.1]; exact HC.out.2.2.1) HC.out.1
      have hes := edgesAt_of_row (l := es) (m := mk') hO.row HC.out.2.2.2.1
      have hmk2 := Mem.le_addv (w := w6) hO.free
      have hrow2 := (hrow.mono hmk2).push (s := ⟨(f (accAt A' pa) (accAt B' pb)), es⟩) hes
      have hO2 := hO.sealRow
      have s0 := hO2.obj.cell (i := 0) rfl
      have s1 := hO2.obj.cell (i := 1) rfl
      have sl := hO2.obj.lt
      obtain ⟨voa, voc, rfl⟩ := row_slice (hO2.at_row (v := vo) (t := 37) (size := 2) (n := k) (xs := xs) (by simp))
      have hO3 := hO2.al #[.bool (f (accAt A' pa) (accAt B' pb)), .slice vea es.length vec] 37
      have hO4 := hO3.pull (l₁ := [_, _, _])
      have hvr := hO4.row
      have hnews := hO3.obj.news rfl
      have Hk := Lib.hid (And.intro hrow2 (And.intro (Mem.le_trans hmk' hmk2) (And.intro hPIn HC.out.2.2.2.2)))
      clear hrow2 hes hmk2 hO2 hO hPIn hO3
      generalize mk'.addv w6 (.slice vea es.length vec) = mk2 at *
      go_wp2_with (at_builtin; refine wpList_append_row tyStates rfl (.tmp 98) (.tmp 100) rfl (.slice voa k voc) k xs rfl hvr ⟨w6.heap.size, 0, none⟩ 1 1 [.bool (f (accAt A' pa) (accAt B' pb)), .slice vea es.length vec] rfl rfl hnews (by simp [Value.oneCell']) (by unfold maxLen; omega) (by omega) ?_)
      intro xa' xc' w7 hown7 hgrow7 hrow7
      have hO5 := (hO4.app hown7 hgrow7 hrow7 (by simp)).drop2.drop2.drop2
      have HO5 := Lib.hid hO5
      clear hown7 hgrow7 hrow7 hO4 hO5 hvr hnews
      go_wp2
      refine hX.out _ _ _ (by omega) rfl ⟨k + 1, l', out ++ [⟨(f (accAt A' pa) (accAt B' pb)), es⟩], .slice vla2 l'.length vlc2, .slice xa' (k + 1) xc', _, mk2, rfl, rfl, HO5.out, Hk.out.1, Hk.out.2.1, Hk.out.2.2.1, ?_, Hk.out.2.2.2⟩
      rw [List.length_append, HP.out.2.1]; rfl
  · have hkl2 : k = l.length := by omega
    have hdone := hPI.done (want_ff HW.out) (by omega)
    obtain ⟨voa, voc, rfl⟩ := row_slice hO.row
    have hst := statesAt_of_row (l := out) (m := mk') (by rw [hol]; exact hO.row) hrow hO.free
    have hO2 := hO.sealRow
    have HM := Lib.hid (r05Minimal_any (.slice voa k voc) out _ wr hO2.inn hst (by omega))
    have HO2 := Lib.hid hO2
    have HD := Lib.hid (And.intro hdone hol)
    clear hO2 hst hO hdone hol hPI hrow hkl2 hlr
    go_wp2_with fail
    refine HM.out.mono ?_
    rintro e w2 ⟨r, C, rfl, hb2, hst, hClen, hmin, hnot⟩
    have hwf := HD.out.1.1
    rw [tf_true hwf]
    obtain ⟨ra, rc, rfl⟩ : ∃ ra rc, r = .slice ra C.length rc := by obtain ⟨x, y, e, -⟩ := hst; exact ⟨x, y, e⟩
    have hO3 := HO2.out.call hb2
    have hO4 := (hO3.pull (l₁ := [_, _, _])).al #[.slice ra C.length rc] 24
    have g1 := hO4.swap.obj.cell (i := 0) rfl
    have g2 := hO4.swap.obj.frozen 0
    have g3 := hO4.swap.obj.lt
    have hO5 := hO4.swap.set 0 (.slice ra C.length rc)
    have g4 := hO5.obj.cell (i := 0) rfl
    have hfin := statesAt_le hO5.done hst
    have Hk := Lib.hid (And.intro hO5.below (And.intro hfin (And.intro (hmin hwf) hClen)))
    clear hO5 hO4 hO3 hfin hmin hnot hst hClen HO2 hwf
    go_wp2
    refine bodyPost_ret (v := .agg #[.slice ra C.length rc]) (by simp [results, Tryz.results35, go_sem, g4]) rfl ?_
    refine hR.out _ _ ⟨_, C, rfl, Hk.out.1, Hk.out.2.1, ⟨Hk.out.2.2.1.canon, fun x => ?_⟩, ?_⟩
    · rw [Hk.out.2.2.1.lang, HD.out.1.2.2.2.2]
      rw [st0_lang, st0_lang, HG.out.2.2.1, HG.out.2.2.2]
    · have h1 := Hk.out.2.2.2
      have h2 := HD.out.2
      omega
end Cl
namespace Cl
open Go Go.RowKit Go.Proofs

set_option maxRecDepth 100000 in
set_option maxHeartbeats 2000000 in
theorem r06Minus_any (v0 v1 : Value) (A B : Table) (m : Mem) (w : World) (hm : m.inn w) (hA : statesAt m v0 A) (hB : statesAt m v1 B) (hF : Fits A B) :
    Calls Tryz.prog 13 #[.agg #[v0], .agg #[v1]] w fun e w' => ∃ r C, e = .returned (.agg #[r]) ∧ Below w.heap.size w w' ∧ statesAt (m.grow w w') r C ∧
      LangIs (fun x => Sem A x && !Sem B x) C ∧ C.length ≤ (A.length + 2) * (B.length + 2) + 1 := by
  have hO := (((Own.start hm).al #[v0] 24).al #[v1] 24).al #[.slice none 0 0] 24
  have hsz1 : (w.alloc (.cells #[v0] 24)).heap.size = w.heap.size + 1 := by simp
  have hsz2 : ((w.alloc (.cells #[v0] 24)).alloc (.cells #[v1] 24)).heap.size = w.heap.size + 2 := by simp
  rw [hsz2, hsz1] at hO
  have HP := Lib.hid (combine_any 45 (fun x y => x && !y) (by simp) v0 v1 A B m _ hO.inn hA hB hF.mul hF.a hF.b)
  have HO := Lib.hid hO
  obtain ⟨va, vc, rfl, -⟩ := hA
  obtain ⟨vb, vd, rfl, -⟩ := hB
  clear hO hsz1 hsz2
  refine calls_hide fun R hR => ?_
  go_enter Tryz.func13, Tryz.ntmps13
  go_wp2_with fail
  refine HP.out.mono ?_
  rintro e w1 ⟨r, C, rfl, hb1, hst, hlang, hClen⟩
  have hO1 := HO.out.call hb1
  obtain ⟨ra, rc, rfl⟩ : ∃ ra rc, r = .slice ra C.length rc := by obtain ⟨x, y, e, -⟩ := hst; exact ⟨x, y, e⟩
  have g1 := hO1.obj.cell (i := 0) rfl
  have g2 := hO1.obj.frozen 0
  have g3 := hO1.obj.lt
  have hO2 := hO1.set 0 (.slice ra C.length rc)
  have g4 := hO2.obj.cell (i := 0) rfl
  have Hk := Lib.hid (And.intro hO2.below (And.intro (statesAt_le hO2.done hst) (And.intro hlang hClen)))
  clear hO2 hO1 hst hlang hClen HP HO hb1
  go_wp2
  refine bodyPost_ret (v := .agg #[.slice ra C.length rc]) (by simp [results, Tryz.results13, go_sem, g4]) rfl ?_
  exact hR.out _ _ ⟨_, C, rfl, Hk.out.1, Hk.out.2.1, Hk.out.2.2.1, Hk.out.2.2.2⟩
set_option maxRecDepth 100000 in
set_option maxHeartbeats 2000000 in
theorem r06Not_any (v0 : Value) (A : Table) (m : Mem) (w : World) (hm : m.inn w) (hA : statesAt m v0 A) (hF : A.length ≤ 300000) :
    Calls Tryz.prog 11 #[.agg #[v0]] w fun e w' => ∃ r C, e = .returned (.agg #[r]) ∧ Below w.heap.size w w' ∧ statesAt (m.grow w w') r C ∧
      LangIs (fun x => !Sem A x) C ∧ C.length ≤ 3 * (A.length + 2) + 1 := by
  have hO := ((Own.start hm).al #[v0] 24).al #[.slice none 0 0] 24
  have hsz1 : (w.alloc (.cells #[v0] 24)).heap.size = w.heap.size + 1 := by simp
  rw [hsz1] at hO
  have HO := Lib.hid hO
  have HM := Lib.hid (fun r mk w (h : mk.inn w) (hle : m.le mk) (hst : statesAt mk r allT) => r06Minus_any r v0 allT A mk w h hst (statesAt_le hle hA) (Fits.of (x := 1) (y := A.length) (Nat.le_refl _) (Nat.le_refl _) (by omega)))
  obtain ⟨va, vc, rfl, -⟩ := hA
  clear hO hsz1
  refine calls_hide fun R hR => ?_
  go_enter Tryz.func11, Tryz.ntmps11
  go_wp2
  refine wp_cut_keep [2] (fun vs w' => ∃ (r : Value) (C : Table) (mk : Mem), vs = [.pointer (some ⟨w.heap.size + 1, 0, none⟩)] ∧ Own w m w' mk [.obj (w.heap.size + 1) 24 #[r], .obj w.heap.size 24 #[.slice va A.length vc]] ∧ statesAt mk r C ∧
    LangIs (fun x => !Sem A x) C ∧ C.length ≤ 3 * (A.length + 2) + 1) ?_ ?_
  · intro X hX
    refine wp_region_T (fun w' => ObjAt w' w.heap.size 24 #[.slice va A.length vc]) 3 (by kernel_rfl) ?_
    have hO := HO.out.dr
    have hS := hO.swap.obj
    refine wpAnyT_take 1 rfl (by kernel_rfl) (fun _ _ _ h => h) hS (yields_of rfl fun w' hS' => by have q := hS'.cell (i := 0) rfl; go_simp; rfl) ?_
    refine wpAnyT_only 0 (by kernel_rfl) (wpOp_of rfl rfl (wp_enter (by go_simp; rfl) (r05All_any m _) ?_))
    rintro e w1 ⟨r, rfl, hb1, hst⟩
    have hO2 := hO.call hb1
    have hle := Mem.le_grow (w := w1) hO.inn
    refine ⟨_, rfl, andS hO2.swap.obj fun _ => ?_⟩
    go_simp
    refine wpAnyT_only 2 (by kernel_rfl) (wpOp_of rfl rfl (wp_enter (by go_simp) (HM.out _ _ _ hO2.inn hle hst) ?_))
    rintro e w2 ⟨r2, C, rfl, hb2, hst2, hlang, hClen⟩
    have hO3 := hO2.call hb2
    refine ⟨_, rfl, andS hO3.swap.obj fun _ => ?_⟩
    obtain ⟨ra, rc, rfl⟩ : ∃ ra rc, r2 = .slice ra C.length rc := by obtain ⟨x, y, e, -⟩ := hst2; exact ⟨x, y, e⟩
    go_simp
    have g1 := hO3.obj.cell (i := 0) rfl
    have g2 := hO3.obj.frozen 0
    refine wpAnyT_only 3 (by kernel_rfl) (wpOp_of rfl rfl (wp_skipped (by go_simp; first | done | rfl) (andLast rfl ?_)))
    refine wpAnyT_done (by kernel_rfl) ?_ _
    refine hX.out _ _ rfl ⟨_, C, _, rfl, hO3.set 0 _, hst2, hlang.congr fun x => ?_, ?_⟩
    · rw [allT_sem]; rfl
    · have : allT.length = 1 := rfl
      rw [this] at hClen
      exact hClen
  rintro z vs w1 - ⟨r, C, mk, rfl, hO, hst, hlang, hClen⟩
  simp [litL, lk]
  obtain ⟨ra, rc, rfl⟩ : ∃ ra rc, r = .slice ra C.length rc := by obtain ⟨x, y, e, -⟩ := hst; exact ⟨x, y, e⟩
  have g4 := hO.obj.cell (i := 0) rfl
  have Hk := Lib.hid (And.intro hO.below (And.intro (statesAt_le hO.done hst) (And.intro hlang hClen)))
  clear hO hst hlang hClen HO HM
  go_wp2
  refine bodyPost_ret (v := .agg #[.slice ra C.length rc]) (by simp [results, Tryz.results11, go_sem, g4]) rfl ?_
  exact hR.out _ _ ⟨_, C, rfl, Hk.out.1, Hk.out.2.1, Hk.out.2.2.1, Hk.out.2.2.2⟩
set_option maxRecDepth 100000 in
set_option maxHeartbeats 2000000 in
theorem r06Empty_any (v0 : Value) (A : Table) (m : Mem) (w : World) (hm : m.inn w) (hA : statesAt m v0 A) (hlA : A.length ≤ 1000000) :
    Calls Tryz.prog 36 #[.agg #[v0]] w fun e w' => e = .returned (.bool (tf (∀ x, Sem A x = false))) ∧ Below w.heap.size w w' := by
  have hO := (Own.start hm).al #[v0] 24
  have HM := Lib.hid (sound_any v0 A m _ hO.inn hA hlA)
  have HO := Lib.hid hO
  obtain ⟨va, vc, rfl, -⟩ := hA
  clear hO
  refine calls_hide fun R hR => ?_
  go_enter Tryz.func36, Tryz.ntmps36
  go_wp2_with fail
  refine HM.out.mono ?_
  rintro e w1 ⟨r, rfl, hb1, hst⟩
  have hn := nil_iff (goodT_is A)
  generalize goodT A = C at *
  obtain ⟨ra, rc, rfl⟩ : ∃ ra rc, r = .slice ra C.length rc := by obtain ⟨x, y, e, -⟩ := hst; exact ⟨x, y, e⟩
  have hO1 := HO.out.call hb1
  have hfd : ∀ w : World, (Instr.field 24 (.agg #[.slice ra C.length rc]) 0).run Tryz.prog w = .ok (.slice ra C.length rc) w := fun _ => by kernel_rfl
  have Hk := Lib.hid (And.intro hO1.below hn)
  clear hO1 hst hb1 HM HO hn
  by_cases h0 : C.length = 0
  · have hdec : ((C.length : Int) == 0) = true := by simp [h0]
    have H0 := Lib.hid h0
    clear h0
    go_wp2
    exact hR.out _ _ ⟨ret_bool (by rw [tf_true (Hk.out.2.1 (List.eq_nil_of_length_eq_zero H0.out))]), Hk.out.1⟩
  · have hdec : ((C.length : Int) == 0) = false := beq_eq_false_iff_ne.2 (by omega)
    have H0 := Lib.hid h0
    clear h0
    go_wp2
    exact hR.out _ _ ⟨ret_bool (by rw [tf_false (fun h => H0.out (by rw [Hk.out.2.2 h]; rfl))]), Hk.out.1⟩
set_option maxRecDepth 100000 in
set_option maxHeartbeats 2000000 in
theorem r06Subset_any (v0 v1 : Value) (A B : Table) (m : Mem) (w : World) (hm : m.inn w) (hA : statesAt m v0 A) (hB : statesAt m v1 B) (hF : Fits A B) (hs : (A.length + 2) * (B.length + 2) ≤ 900000) :
    Calls Tryz.prog 15 #[.agg #[v0], .agg #[v1]] w fun e w' => e = .returned (.bool (tf (∀ x, (Sem A x && !Sem B x) = false))) ∧ Below w.heap.size w w' := by
  have hO := ((Own.start hm).al #[v0] 24).al #[v1] 24
  have HM := Lib.hid (r06Minus_any v0 v1 A B m _ hO.inn hA hB hF)
  have HO := Lib.hid hO
  obtain ⟨va, vc, rfl, -⟩ := hA
  obtain ⟨vb, vd, rfl, -⟩ := hB
  clear hO
  refine calls_hide fun R hR => ?_
  go_enter Tryz.func15, Tryz.ntmps15
  go_wp2_with fail
  refine HM.out.mono ?_
  rintro e w1 ⟨r, C, rfl, hb1, hst, hlang, hClen⟩
  have hO1 := HO.out.call hb1
  have HE := Lib.hid (r06Empty_any r C _ w1 hO1.inn hst (by omega))
  have hs : (∀ x, Sem C x = false) ↔ ∀ x, (Sem A x && !Sem B x) = false := by
    constructor
    · intro h x; rw [← hlang.sem x]; exact h x
    · intro h x; rw [hlang.sem x]; exact h x
  obtain ⟨ra, rc, rfl⟩ : ∃ ra rc, r = .slice ra C.length rc := by obtain ⟨x, y, e, -⟩ := hst; exact ⟨x, y, e⟩
  have Hk := Lib.hid (And.intro hO1 hs)
  clear hO1 hst hlang hb1 HM HO hs
  go_wp2_with fail
  refine HE.out.mono ?_
  rintro e w2 ⟨rfl, hb2⟩
  rw [tf_congr Hk.out.2]
  generalize tf (∀ x, (Sem A x && !Sem B x) = false) = bb at *
  have Hb := Lib.hid (Hk.out.1.call hb2).below
  clear Hk HE hb2
  go_wp2
  exact hR.out _ _ ⟨rfl, Hb.out⟩
end Cl
namespace Cl
open Go Go.RowKit

/-- an append whose source is whatever slice, nil or empty too -/
theorem run_append_any2 {P : Program} {t e : TypeId} {size bytes : Nat} (S : SliceTy P t e size bytes) (w : World) (ty : TypeId) (v : Value) (n : Nat) (xs : List Value) (hown : w.ownsRow 0 e size v n xs)
    (ad : Option Addr) (m c : Nat) (news : List Value) (hl : news.length = m * size) (hnews : 0 < m → ∃ a, ad = some a ∧ ∀ j u, news[j]? = some u → w.cell? (a.add j) = some u) (h1 : ∀ u ∈ news, u.oneCell' = true)
    (h63 : n + m ≤ maxLen) (hbytes : (n + m) * bytes ≤ 140737488355328) :
    ∃ v' w', (Builtin.append_ #[t, t] ty #[v, .slice ad m c]).run P w = .ok v' w' ∧ w'.ownsRow 0 e size v' (n + m) (xs ++ news) ∧ w.grownBy w' v.ownBlock ∧
      (∀ k, v'.ownBlock = some k → v.ownBlock = some k ∨ w.heap.size ≤ k) := by
  cases ad with
  | some a =>
    refine run_append_row S w ty v n xs hown a m c news hl ?_ h1 h63 hbytes
    rcases Nat.eq_zero_or_pos m with h | h
    · subst h
      have : news = [] := List.eq_nil_of_length_eq_zero (by rw [hl, Nat.zero_mul])
      subst this
      intro j u hj
      simp at hj
    · obtain ⟨a', e, h2⟩ := hnews h
      cases e
      exact h2
  | none =>
    have hm : m = 0 := by
      rcases Nat.eq_zero_or_pos m with h | h
      · exact h
      · obtain ⟨a', e, -⟩ := hnews h
        cases e
    subst hm
    have : news = [] := List.eq_nil_of_length_eq_zero (by rw [hl, Nat.zero_mul])
    subst this
    obtain ⟨i, z, hi, hz, hsize, hby, hzs⟩ := S.info
    refine ⟨v, w, ?_, by simpa using hown, World.grownBy.refl w _, fun k hk => .inl hk⟩
    rcases hown.2 with ⟨rfl, rfl⟩ | ⟨g, cap, cur, rfl, -, -, hnc, -⟩
    · simp [Builtin.append_, run_underlying S.ht, Go.sizeOf, Go.typeInfo, hi, Builtin.lenOf, Builtin.firstCells]
    · simp [Builtin.append_, run_underlying S.ht, Go.sizeOf, Go.typeInfo, hi, Builtin.lenOf, Builtin.firstCells, hnc, storeCells]
theorem wpList_append_any2 {P : Program} {t e : TypeId} {size bytes : Nat} (S : SliceTy P t e size bytes) {w : World} {ops : Array Oper} {rest : List Oper} {o : Oper} {a : Act} {Q : Exit → Act → World → Prop} (hgd : o.guard = none) (s x : Operand)
    (ho : o.op = .call { callee := .builtin .append, args := #[s, x], argTypes := #[t, t] })
    (v : Value) (n : Nat) (xs : List Value) (hs : a.eval s = v) (hown : w.ownsRow 0 e size v n xs)
    (ad : Option Addr) (m c : Nat) (news : List Value) (hx : a.eval x = .slice ad m c) (hl : news.length = m * size) (hnews : 0 < m → ∃ a, ad = some a ∧ ∀ j u, news[j]? = some u → w.cell? (a.add j) = some u) (h1 : ∀ u ∈ news, u.oneCell' = true)
    (h63 : n + m ≤ maxLen) (hbytes : (n + m) * bytes ≤ 140737488355328)
    (h : ∀ va vc w', w'.ownsRow 0 e size (.slice va (n + m) vc) (n + m) (xs ++ news) → w.grownBy w' v.ownBlock → (∀ k, (Value.slice va (n + m) vc).ownBlock = some k → v.ownBlock = some k ∨ w.heap.size ≤ k) → wpList P ops Q rest (a.put o.dst (.slice va (n + m) vc)) w') : wpList P ops Q (o :: rest) a w := by
  refine wpList_plain hgd fun _ hK => ?_
  obtain ⟨v', w', hr, h2, h3, h4⟩ := run_append_any2 S w o.type v n xs hown ad m c news hl hnews h1 h63 hbytes
  obtain ⟨va, vc, rfl⟩ := row_slice h2
  unfold Oper.wp execOp
  simp only [ho, resolve, invoke, builtin, Sem.run_bind, Sem.run_pure, Result.andThen_ok, List.map_toArray, List.map_cons, List.map_nil, hs, hx, hr]
  exact hK _ _ (h va vc w' h2 h3 h4)
/-- what such a source holds -/
theorem strs_news {m : Mem} {w : World} (hm : m.inn w) {ad : Option Addr} {c : Nat} {l : List ByteArray} (h : strsAt m (.slice ad l.length c) l) :
    0 < l.length → ∃ a, ad = some a ∧ ∀ j u, (l.map Value.string)[j]? = some u → w.cell? (a.add j) = some u := fun hp => by
  obtain ⟨a', c', e, -, -, h4⟩ := h
  cases e
  obtain ⟨b, off, rfl, h5⟩ := h4 (fun e => by rw [e] at hp; cases hp)
  refine ⟨_, rfl, fun j u hj => ?_⟩
  rw [Addr.add_lit]
  have hlt : j < l.length := by
    have := (List.getElem?_eq_some_iff.1 hj).1
    simpa using this
  have := Mem.cell_w hm (h5 j hlt).1
  rw [this]
  simp [hlt] at hj
  rw [hj]
end Cl
namespace Cl
open Go Go.RowKit

theorem set_split {α : Type} {l : List α} {s : Nat} (h : s < l.length) (x : α) : l.set s x = l.take s ++ x :: l.drop (s + 1) := by
  rw [List.set_eq_take_append_cons_drop, if_pos h]
theorem own_split {α : Type} {l : List α} {s : Nat} (h : s < l.length) : l = l.take s ++ l[s] :: l.drop (s + 1) := by
  rw [← List.drop_eq_getElem_cons h, List.take_append_drop]
section
variable {w0 w w' : World} {m mk : Mem} {L : List Item}
theorem Own.toFront {l : List Item} {s : Nat} (hs : s < l.length) (h : Own w0 m w mk (l ++ L)) : Own w0 m w mk (l[s] :: (l.take s ++ (l.drop (s + 1) ++ L))) := by
  refine h.perm ?_
  have e : l ++ L = l.take s ++ l[s] :: (l.drop (s + 1) ++ L) := by
    rw [← List.cons_append, ← List.append_assoc, ← own_split hs]
  rw [e]
  exact List.perm_middle.symm
/-- one of many items turns -/
theorem Own.setAt {l : List Item} {s : Nat} {it : Item} (hs : s < l.length) (h : Own w0 m w mk (l ++ L)) (hstep : ∀ L', Own w0 m w mk (l[s] :: L') → Own w0 m w' mk (it :: L')) : Own w0 m w' mk (l.set s it ++ L) := by
  have h1 := hstep _ (h.toFront hs)
  refine h1.perm ?_
  rw [set_split hs, List.append_assoc, List.cons_append]
  exact List.perm_middle
end

theorem Own.fore {w0 w : World} {m mk : Mem} {l₁ l₂ : List Item} {a : Item} (h : Own w0 m w mk (l₁ ++ a :: l₂)) : Own w0 m w mk (a :: (l₁ ++ l₂)) := h.perm List.perm_middle.symm
theorem Own.unfore {w0 w : World} {m mk : Mem} {l₁ l₂ : List Item} {a : Item} (h : Own w0 m w mk (a :: (l₁ ++ l₂))) : Own w0 m w mk (l₁ ++ a :: l₂) := h.perm List.perm_middle
theorem grow_cell {m : Mem} {w w' : World} {g i : Nat} {v : Value} (hg : w.heap.size ≤ g) (h : w'.cell? ⟨g, i, none⟩ = some v) : (m.grow w w').cell g i = some v := by
  unfold World.cell? at h
  unfold Mem.cell Mem.grow
  rw [if_neg (by omega)]
  split at h
  · rename_i hb
    rw [hb]
    simpa using h
  · cases h
def brow (b : Nat → Nat → Bool) (M s : Nat) : List Value := (List.range (M + 1)).map fun n => .bool (b s n)
def rsl (g : Nat → Nat) (M s : Nat) : Value := .slice (some ⟨g s, 0, none⟩) (M + 1) (M + 1)
def ritem (t : TypeId) (g : Nat → Nat) (b : Nat → Nat → Bool) (M s : Nat) : Item := .row (rsl g M s) t 1 (M + 1) (brow b M s)
def ritems (t : TypeId) (g : Nat → Nat) (b : Nat → Nat → Bool) (M N : Nat) : List Item := (List.range N).map (ritem t g b M)
def bset (b : Nat → Nat → Bool) (s n : Nat) (x : Bool) : Nat → Nat → Bool := fun s' n' => if s' = s ∧ n' = n then x else b s' n'
theorem brow_get (b : Nat → Nat → Bool) {M s n : Nat} (h : n ≤ M) : (brow b M s)[n]? = some (.bool (b s n)) := by
  have : n < M + 1 := by omega
  simp [brow, this]
theorem brow_set (b : Nat → Nat → Bool) {M s n : Nat} (x : Bool) : (brow b M s).set n (.bool x) = brow (bset b s n x) M s := by
  apply List.ext_getElem?
  intro i
  rw [List.getElem?_set]
  by_cases e : n = i
  · subst e
    by_cases h : n < M + 1
    · simp [brow, bset, h]
    · simp [brow, h]
  · rw [if_neg e]
    simp only [brow, List.getElem?_map, bset]
    by_cases h : i < M + 1
    · have : ¬ i = n := fun x => e x.symm
      simp [h, this]
    · simp [h]
theorem brow_congr {b b' : Nat → Nat → Bool} {M s : Nat} (h : ∀ n, n ≤ M → b s n = b' s n) : brow b M s = brow b' M s := by
  unfold brow
  apply List.map_congr_left
  intro n hn
  rw [h n (by have := List.mem_range.1 hn; omega)]
theorem ritems_congr {t : TypeId} {g g' : Nat → Nat} {b b' : Nat → Nat → Bool} {M N : Nat} (hg : ∀ s, s < N → g s = g' s) (h : ∀ s n, s < N → n ≤ M → b s n = b' s n) : ritems t g b M N = ritems t g' b' M N := by
  unfold ritems
  apply List.map_congr_left
  intro s hs
  have hs := List.mem_range.1 hs
  unfold ritem rsl
  rw [hg s hs, brow_congr fun n hn => h s n hs hn]
theorem ritems_len (t : TypeId) (g : Nat → Nat) (b : Nat → Nat → Bool) (M N : Nat) : (ritems t g b M N).length = N := by simp [ritems]
theorem ritems_at {t : TypeId} {g : Nat → Nat} {b : Nat → Nat → Bool} {M N s : Nat} (h : s < (ritems t g b M N).length) : (ritems t g b M N)[s] = ritem t g b M s := by simp [ritems]
theorem ritems_set {t : TypeId} {g : Nat → Nat} {b : Nat → Nat → Bool} {M N s n : Nat} (x : Bool) : (ritems t g b M N).set s (ritem t g (bset b s n x) M s) = ritems t g (bset b s n x) M N := by
  apply List.ext_getElem?
  intro i
  rw [List.getElem?_set]
  by_cases e : s = i
  · subst e
    rw [ritems_len]
    by_cases h : s < N
    · simp [ritems, h]
    · simp [ritems, h]
  · rw [if_neg e]
    by_cases h : i < N
    · simp only [ritems, List.getElem?_map, List.getElem?_range h, Option.map_some, Option.some.injEq]
      unfold ritem
      rw [brow_congr fun n' _ => ?_]
      have : ¬ i = s := fun x => e x.symm
      simp [bset, this]
    · simp [ritems, h]
theorem ritems_succ (t : TypeId) (g : Nat → Nat) (b : Nat → Nat → Bool) (M N : Nat) : ritems t g b M (N + 1) = ritems t g b M N ++ [ritem t g b M N] := by simp [ritems, List.range_succ]

section
variable {w0 w w' : World} {m mk : Mem} {L : List Item} {t : TypeId} {g : Nat → Nat} {b : Nat → Nat → Bool} {M N : Nat}
theorem Own.matRow {s : Nat} (h : Own w0 m w mk (ritems t g b M N ++ L)) (hs : s < N) : w.ownsRow 0 t 1 (rsl g M s) (M + 1) (brow b M s) := by
  have := h.toFront (s := s) (by rw [ritems_len]; exact hs)
  rw [ritems_at] at this
  exact this.row
theorem Own.matCell {s n : Nat} (h : Own w0 m w mk (ritems t g b M N ++ L)) (hs : s < N) (hn : n ≤ M) : w.cell? ⟨g s, n, none⟩ = some (.bool (b s n)) := row_cellw (h.matRow hs) (brow_get b hn)
theorem Own.matFrozen {s : Nat} (h : Own w0 m w mk (ritems t g b M N ++ L)) (hs : s < N) (n : Nat) : w.frozen? ⟨g s, n, none⟩ = false := row_frozen (h.matRow hs) n
theorem Own.matLt {s : Nat} (h : Own w0 m w mk (ritems t g b M N ++ L)) (hs : s < N) : g s < w.heap.size := (World.ownsRow.lt (h.matRow hs) _ rfl).2
theorem Own.matNew {s : Nat} (h : Own w0 m w mk (ritems t g b M N ++ L)) (hs : s < N) : w0.heap.size ≤ g s := by
  have := h.toFront (s := s) (by rw [ritems_len]; exact hs)
  rw [ritems_at] at this
  exact (this.fresh _ (List.mem_cons_self ..) (g s) rfl).1
theorem Own.matSet {s n : Nat} (h : Own w0 m w mk (ritems t g b M N ++ L)) (hs : s < N) (x : Bool) : Own w0 m (w.setCell ⟨g s, n, none⟩ (.bool x)) mk (ritems t g (bset b s n x) M N ++ L) := by
  rw [← ritems_set x]
  refine h.setAt (by rw [ritems_len]; exact hs) fun L' hL => ?_
  rw [ritems_at] at hL
  have := Own.setRow (g := g s) (n := M + 1) (cap := M + 1) (xs := brow b M s) hL n (.bool x)
  rw [brow_set] at this
  exact this
/-- a row more -/
theorem Own.matPush {k : Nat} (h : Own w0 m w mk (ritem t g b M k :: (ritems t g b M k ++ L))) : Own w0 m w mk (ritems t g b M (k + 1) ++ L) := by
  rw [ritems_succ, List.append_assoc]
  exact h.perm List.perm_middle
end
/-- the row of the rows: k of them are there -/
def outer (g : Nat → Nat) (M k N : Nat) : List Value := (List.range N).map fun s => if s < k then rsl g M s else .slice none 0 0
theorem outer_get {g : Nat → Nat} {M k N s : Nat} (h : s < N) : (outer g M k N)[s]? = some (if s < k then rsl g M s else .slice none 0 0) := by simp [outer, h]
theorem outer_set {g : Nat → Nat} {M k N : Nat} (x : Nat) : (outer g M k N).set k (.slice (some ⟨x, 0, none⟩) (M + 1) (M + 1)) = outer (fun s => if s = k then x else g s) M (k + 1) N := by
  apply List.ext_getElem?
  intro i
  rw [List.getElem?_set]
  by_cases h : i < N
  · rw [outer_get h, outer_get h]
    have hl : (outer g M k N).length = N := by simp [outer]
    by_cases e : k = i
    · subst e
      simp [hl, h, rsl]
    · rw [if_neg e]
      have e' : ¬ i = k := fun x => e x.symm
      by_cases h1 : i < k
      · simp [h1, e', rsl, show i < k + 1 by omega]
      · simp [h1, show ¬ i < k + 1 by omega]
  · have hl : (outer g M k N).length = N := by simp [outer]
    have hl2 : (outer (fun s => if s = k then x else g s) M (k + 1) N).length = N := by simp [outer]
    have e1 : (outer g M k N)[i]? = none := List.getElem?_eq_none (by omega)
    have e2 : (outer (fun s => if s = k then x else g s) M (k + 1) N)[i]? = none := List.getElem?_eq_none (by omega)
    rw [e1, e2, hl]
    by_cases e : k = i
    · rw [if_pos e, if_neg (by omega)]
    · rw [if_neg e]
end Cl
namespace Cl
open Go Go.RowKit Go.Proofs

theorem mkBoolss : MakeTy Tryz.prog 85 57 24 (.slice none 0 0) := ⟨Tryz.underlying85, by kernel_rfl, rfl⟩

/-- the table, as rows of memory -/
def canTab (A : Table) (M : Nat) : List (List Bool) := (List.range A.length).map fun s => (List.range (M + 1)).map fun n => cb A s n

set_option maxRecDepth 100000 in
set_option maxHeartbeats 8000000 in
theorem r06can_any (v : Value) (A : Table) (M : Nat) (m : Mem) (w : World) (hm : m.inn w) (hA : statesAt m v A) (hw : WF A) (hb : Bytes A) (hM : M ≤ 1000000) (hl : A.length ≤ 100000) :
    Calls Tryz.prog 86 #[.agg #[v], .int .i64 M] w fun e w' => ∃ r, e = .returned r ∧ Below w.heap.size w w' ∧ boolssAt (m.grow w w') r (canTab A M) := by
  have hO := (Own.start hm).al #[v] 24
  have HO := Lib.hid hO
  obtain ⟨va, vc, rfl, a1, a2, a3⟩ := hA
  unfold maxLen at a2
  have HA := Lib.hid a3
  have HW := Lib.hid (And.intro hw hb)
  clear hO a3 hw hb
  refine calls_hide fun R hR => ?_
  have b0 := HO.out.obj.cell (i := 0) rfl
  go_enter Tryz.func86, Tryz.ntmps86
  go_wp2_with (refine wpList_make_row mkBoolss rfl (.tmp 12) (.tmp 12) rfl A.length rfl rfl (by omega) (by unfold maxLen; omega) ?_)
  intro w1 hown hgr
  have hO1 := HO.out.make (by simpa using hown) hgr
  have hsz : (w.alloc (.cells #[.slice va A.length vc] 24)).heap.size = w.heap.size + 1 := by simp
  rw [hsz] at hO1
  have ho0 : List.replicate A.length (Value.slice none 0 0) = outer (fun _ => 0) M 0 A.length := by
    apply List.ext_getElem <;> simp [outer]
  rw [ho0] at hO1
  have HO1 := Lib.hid hO1
  clear hown hgr hO1 hsz ho0 b0 HO
  generalize w.heap.size + 1 = OB at *
  have hb0 := HO1.out.swap.obj.cell (i := 0) rfl
  have hb1 := HO1.out.swap.obj.lt
  go_wp2
  refine wp_loop_keep [1, 2, 5, 6] (fun n vs w2 => ∃ (k : Nat) (g : Nat → Nat), k ≤ A.length ∧ n = A.length - k ∧ vs = [.int .i64 M, .pointer (some ⟨w.heap.size, 0, none⟩), .slice (some ⟨OB, 0, none⟩) A.length A.length, .int .i64 k] ∧
    Own w m w2 m (ritems 4 g (f1 A) M k ++ [.row (.slice (some ⟨OB, 0, none⟩) A.length A.length) 57 1 A.length (outer g M k A.length), .obj w.heap.size 24 #[.slice va A.length vc]])) ?_ ?_
  · exact ⟨_, 0, fun _ => 0, Nat.zero_le _, rfl, rfl, HO1.out⟩
  clear HO1 hb0 hb1
  rintro X z n vs w2 hX - ⟨k, g, hk, rfl, rfl, hO⟩
  simp [litL, lk]
  have hbox := hO.at_obj (g := w.heap.size) (t := 24) (arr := #[.slice va A.length vc]) (by simp)
  have c1 := hbox.cell (i := 0) rfl
  have c2 := hbox.lt
  by_cases hlt : k < A.length
  · obtain ⟨tb, toff, rfl, h4⟩ := HA.out (by intro h; simp [h] at hlt)
    obtain ⟨e1, -⟩ := h4 k hlt
    have hc0 := cb_zero hlt
    rw [← hc0] at e1
    obtain ⟨ac, hac⟩ : ∃ x, cb A k 0 = x := ⟨_, rfl⟩
    rw [hac] at e1
    have HAC := Lib.hid hac
    have d1 := Mem.cell_w hO.inn e1
    have d2 := Mem.cell_lt hO.inn e1
    have HO := Lib.hid hO
    clear hO hc0 hac h4 hbox
    go_wp2_with (refine wpList_make_row mkBools rfl (.tmp 24) (.tmp 24) rfl (M + 1) rfl rfl (by omega) (by unfold maxLen; omega) ?_)
    intro w3 hown hgr
    have hO2 := HO.out.make hown hgr
    generalize w2.heap.size = G at *
    have hP := hO2.fore (l₁ := .row (.slice (some ⟨G, 0, none⟩) (M + 1) (M + 1)) 4 1 (M + 1) (List.replicate (M + 1) (.bool false)) :: ritems 4 g (f1 A) M k) (a := .row (.slice (some ⟨OB, 0, none⟩) A.length A.length) 57 1 A.length (outer g M k A.length))
    have x1 := row_cellw hP.row (outer_get (g := g) (M := M) (k := k) hlt)
    have x2 := row_frozen hP.row k
    have x3 := (World.ownsRow.lt hP.row _ rfl).2
    have hQ := (hP.setRow k (.slice (some ⟨G, 0, none⟩) (M + 1) (M + 1))).unfore (l₁ := .row (.slice (some ⟨G, 0, none⟩) (M + 1) (M + 1)) 4 1 (M + 1) (List.replicate (M + 1) (.bool false)) :: ritems 4 g (f1 A) M k)
    rw [outer_set] at hQ
    have hnk : ¬ k < k := Nat.lt_irrefl k
    simp only [hnk, if_false] at x1
    have HQ := Lib.hid hQ
    clear hown hgr hO2 hP hQ HO c1 c2 d1 d2
    go_wp2
    generalize w3.setCell ⟨OB, k, none⟩ (.slice (some ⟨G, 0, none⟩) (M + 1) (M + 1)) = w4 at *
    clear x1 x2 x3
    have hR2 := HQ.out.fore (l₁ := .row (.slice (some ⟨G, 0, none⟩) (M + 1) (M + 1)) 4 1 (M + 1) (List.replicate (M + 1) (.bool false)) :: ritems 4 g (f1 A) M k)
    have x1 := row_cellw hR2.row (outer_get (g := fun s => if s = k then G else g s) (M := M) (k := k + 1) hlt)
    have hkk : k < k + 1 := Nat.lt_succ_self k
    simp only [hkk, if_true, rsl] at x1
    have x2 := HQ.out.row
    have x3 := row_cellw x2 (j := 0) (u := .bool false) (by simp)
    have x4 := row_frozen x2 0
    have x5 := (World.ownsRow.lt x2 _ rfl).2
    have hbox := HQ.out.at_obj (g := w.heap.size) (t := 24) (arr := #[.slice (some ⟨tb, toff, none⟩) A.length vc]) (by simp)
    have c1 := hbox.cell (i := 0) rfl
    have d1 := Mem.cell_w HQ.out.inn e1
    clear hR2 x2 hbox
    refine wp_cut_keep [1, 2, 5, 6] (fun vs w' => vs = [.int .i64 M, .pointer (some ⟨w.heap.size, 0, none⟩), .slice (some ⟨OB, 0, none⟩) A.length A.length, .int .i64 k] ∧ w' = (w4.setCell ⟨G, 0, none⟩ (.bool ac)).drew) ?_ ?_
    · intro Y hY
      go_region
      all_goals exact hY.out _ _ rfl ⟨rfl, rfl⟩
    rintro z1 vs w5 - ⟨rfl, rfl⟩
    simp [litL, lk]
    have hF := (HQ.out.setRow 0 (.bool ac)).dr
    have hrow : (List.replicate (M + 1) (Value.bool false)).set 0 (.bool ac) = brow (f1 A) M k := by
      apply List.ext_getElem?
      intro i
      rw [List.getElem?_set]
      by_cases h : 0 = i
      · subst h
        rw [if_pos rfl, brow_get _ (Nat.zero_le _), if_pos (by simp)]
        simp [f1, HAC.out]
      · rw [if_neg h]
        by_cases h2 : i ≤ M
        · rw [brow_get _ h2]
          have h0 : ¬ i = 0 := fun x => h x.symm
          have h3 : i < M + 1 := by omega
          simp [f1, h0, h3]
        · rw [List.getElem?_eq_none (by simp; omega), List.getElem?_eq_none (by simp [brow]; omega)]
    rw [hrow] at hF
    have hcg : ritems 4 g (f1 A) M k = ritems 4 (fun s => if s = k then G else g s) (f1 A) M k := ritems_congr (fun s hs => by show g s = if s = k then G else g s; rw [if_neg (by omega)]) (fun _ _ _ _ => rfl)
    rw [hcg] at hF
    have hF2 : Own w m (w4.setCell ⟨G, 0, none⟩ (.bool ac)).drew m (ritem 4 (fun s => if s = k then G else g s) (f1 A) M k :: (ritems 4 (fun s => if s = k then G else g s) (f1 A) M k ++ [.row (.slice (some ⟨OB, 0, none⟩) A.length A.length) 57 1 A.length (outer (fun s => if s = k then G else g s) M (k + 1) A.length), .obj w.heap.size 24 #[.slice (some ⟨tb, toff, none⟩) A.length vc]])) := by
      have e : ritem 4 (fun s => if s = k then G else g s) (f1 A) M k = .row (.slice (some ⟨G, 0, none⟩) (M + 1) (M + 1)) 4 1 (M + 1) (brow (f1 A) M k) := by simp [ritem, rsl]
      rw [e]
      exact hF
    have HF := Lib.hid hF2.matPush
    clear hF hF2 hrow hcg HQ x1 x3 x4 x5 c1 d1 HAC
    go_wp2
    exact hX.out _ _ _ (by omega) rfl ⟨k + 1, fun s => if s = k then G else g s, by omega, rfl, rfl, HF.out⟩
  · obtain rfl : k = A.length := by omega
    have hO2 : Own w m w2 m (ritems 4 g (f2 A 1) M A.length ++ [.row (.slice (some ⟨OB, 0, none⟩) A.length A.length) 57 1 A.length (outer g M A.length A.length), .obj w.heap.size 24 #[.slice va A.length vc]]) := by
      rw [← ritems_congr (fun _ _ => rfl) (fun s n _ _ => f1_f2 A s n)]
      exact hO
    have HO := Lib.hid hO2
    clear hO hO2 hk
    go_wp2
    refine wp_loop_keep [1, 2, 5, 7] (fun n vs w3 => ∃ j : Nat, j ≤ M ∧ n = M - j ∧ vs = [.int .i64 M, .pointer (some ⟨w.heap.size, 0, none⟩), .slice (some ⟨OB, 0, none⟩) A.length A.length, .int .i64 ((j + 1 : Nat) : Int)] ∧
      Own w m w3 m (ritems 4 g (f2 A (j + 1)) M A.length ++ [.row (.slice (some ⟨OB, 0, none⟩) A.length A.length) 57 1 A.length (outer g M A.length A.length), .obj w.heap.size 24 #[.slice va A.length vc]])) ?_ ?_
    · exact ⟨_, 0, Nat.zero_le _, rfl, rfl, HO.out⟩
    clear HO c1 c2 hbox
    rintro X1 z1 n1 vs1 w3 hX1 - ⟨j, hj, rfl, rfl, hO⟩
    simp [litL, lk]
    by_cases hltj : j < M
    · have hd : decide ((j : Int) + 1 ≤ (M : Int)) = true := decide_eq_true (by omega)
      have hO2 : Own w m w3 m (ritems 4 g (f3 A (j + 1) 0) M A.length ++ [.row (.slice (some ⟨OB, 0, none⟩) A.length A.length) 57 1 A.length (outer g M A.length A.length), .obj w.heap.size 24 #[.slice va A.length vc]]) := by
        rw [← ritems_congr (fun _ _ => rfl) (fun s n _ _ => f2_f3 A (j + 1) s n)]
        exact hO
      have HO := Lib.hid hO2
      clear hO hO2
      go_wp2
      refine wp_loop_keep [1, 2, 5, 7, 8] (fun n vs w4 => ∃ t : Nat, t ≤ A.length ∧ n = A.length - t ∧ vs = [.int .i64 M, .pointer (some ⟨w.heap.size, 0, none⟩), .slice (some ⟨OB, 0, none⟩) A.length A.length, .int .i64 ((j + 1 : Nat) : Int), .int .i64 t] ∧
        Own w m w4 m (ritems 4 g (f3 A (j + 1) t) M A.length ++ [.row (.slice (some ⟨OB, 0, none⟩) A.length A.length) 57 1 A.length (outer g M A.length A.length), .obj w.heap.size 24 #[.slice va A.length vc]])) ?_ ?_
      · exact ⟨_, 0, Nat.zero_le _, rfl, rfl, HO.out⟩
      clear HO
      rintro X2 z2 n2 vs2 w4 hX2 - ⟨t, ht, rfl, rfl, hO⟩
      simp [litL, lk]
      have hbox := hO.at_obj (g := w.heap.size) (t := 24) (arr := #[.slice va A.length vc]) (by simp)
      have c1 := hbox.cell (i := 0) rfl
      have c2 := hbox.lt
      clear hbox
      by_cases hltt : t < A.length
      · obtain ⟨tb, toff, rfl, h4⟩ := HA.out (by intro h; simp [h] at hltt)
        obtain ⟨-, ve, g2, ea, ec, rfl, g4, g5, g6⟩ := h4 t hltt
        unfold maxLen at g5
        have hf3 := fun s n => f4_f3 HW.out.1 HW.out.2 (k := j + 1) (by omega) hltt s n
        have hwe := wfEdges_sep (HW.out.1 _ (List.getElem_mem hltt))
        have hO2 : Own w m w4 m (ritems 4 g (f4 A (j + 1) t ((A[t]).edges.take 0)) M A.length ++ [.row (.slice (some ⟨OB, 0, none⟩) A.length A.length) 57 1 A.length (outer g M A.length A.length), .obj w.heap.size 24 #[.slice (some ⟨tb, toff, none⟩) A.length vc]]) := by
          rw [← ritems_congr (fun _ _ => rfl) (fun s n _ _ => (show f3 A (j + 1) t s n = f4 A (j + 1) t ((A[t]).edges.take 0) s n from f3_f4 A (j + 1) t s n))]
          exact hO
        have HO := Lib.hid (And.intro hO2 (And.intro hf3 hwe))
        have HG6 := Lib.hid g6
        clear hO hO2 hf3 hwe h4 g6
        generalize (A[t]).edges = es at *
        go_wp2
        refine wp_loop_keep [1, 2, 5, 7, 8, 9] (fun n vs w5 => ∃ i : Nat, i ≤ es.length ∧ n = es.length - i ∧ vs = [.int .i64 M, .pointer (some ⟨w.heap.size, 0, none⟩), .slice (some ⟨OB, 0, none⟩) A.length A.length, .int .i64 ((j + 1 : Nat) : Int), .int .i64 t, .int .i64 i] ∧
          Own w m w5 m (ritems 4 g (f4 A (j + 1) t (es.take i)) M A.length ++ [.row (.slice (some ⟨OB, 0, none⟩) A.length A.length) 57 1 A.length (outer g M A.length A.length), .obj w.heap.size 24 #[.slice (some ⟨tb, toff, none⟩) A.length vc]])) ?_ ?_
        · exact ⟨_, 0, Nat.zero_le _, rfl, rfl, HO.out.1⟩
        have HF3 := Lib.hid HO.out.2
        clear HO c1 c2
        rintro X3 z3 n3 vs3 w5 hX3 - ⟨i, hi, rfl, rfl, hO⟩
        simp [litL, lk]
        have hbox := hO.at_obj (g := w.heap.size) (t := 24) (arr := #[.slice (some ⟨tb, toff, none⟩) A.length vc]) (by simp)
        have c1 := hbox.cell (i := 0) rfl
        have c2 := hbox.lt
        have d1 := Mem.cell_w hO.inn g2
        have d2 := Mem.cell_lt hO.inn g2
        clear hbox
        by_cases hlti : i < es.length
        · obtain ⟨eb, eo, rfl, h10⟩ := HG6.out (by intro h; simp [h] at hlti)
          obtain ⟨-, -, e3, -⟩ := h10 i hlti
          have hsep := HF3.out.2 es[i] (List.getElem_mem hlti)
          have hstep := fun s n => f4_step A (j + 1) t (es.take i) es[i] s n
          rw [← List.take_succ_eq_append_getElem hlti] at hstep
          obtain ⟨to, hto⟩ := Int.eq_ofNat_of_zero_le hsep.2.2.1
          have htl : to < A.length := by have := hsep.2.2.2; omega
          have hton : (es[i]).to.toNat = to := by rw [hto]; rfl
          rw [hton] at hstep
          rw [hto] at e3
          have d3 := Mem.cell_w hO.inn e3
          have d4 := Mem.cell_lt hO.inn e3
          have hP := hO.fore (l₁ := ritems 4 g (f4 A (j + 1) t (es.take i)) M A.length)
          have x1 := row_cellw hP.row (outer_get (g := g) (M := M) (k := A.length) htl)
          have x2 := row_cellw hP.row (outer_get (g := g) (M := M) (k := A.length) hltt)
          simp only [htl, hltt, if_true, rsl] at x1 x2
          have x3 := (World.ownsRow.lt hP.row _ rfl).2
          have y1 := hO.matCell htl (n := j) (by omega)
          rw [f4_low (Nat.lt_succ_self j)] at y1
          have y2 := hO.matLt htl
          have y3 := hO.matCell hltt (n := j + 1) (by omega)
          have y4 := hO.matLt hltt
          have y5 := hO.matFrozen hltt (j + 1)
          obtain ⟨bc, hbc⟩ : ∃ x, cb A to j = x := ⟨_, rfl⟩
          rw [hbc] at y1
          have HS := Lib.hid (And.intro hstep (And.intro hbc hO))
          clear hstep hbc hsep hto hton hP h10 hO
          cases bc with
          | false =>
            have hO2 : Own w m w5 m (ritems 4 g (f4 A (j + 1) t (es.take (i + 1))) M A.length ++ [.row (.slice (some ⟨OB, 0, none⟩) A.length A.length) 57 1 A.length (outer g M A.length A.length), .obj w.heap.size 24 #[.slice (some ⟨tb, toff, none⟩) A.length vc]]) := by
              rw [← ritems_congr (fun _ _ => rfl) (fun s n _ _ => (show f4 A (j + 1) t (es.take i) s n = f4 A (j + 1) t (es.take (i + 1)) s n by
                rw [HS.out.1 s n, Nat.add_sub_cancel, HS.out.2.1, Bool.or_false]
                split <;> rfl))]
              exact HS.out.2.2
            have HO2 := Lib.hid hO2
            clear hO2
            go_wp2
            exact hX3.out _ _ _ (by omega) rfl ⟨i + 1, by omega, rfl, rfl, HO2.out⟩
          | true =>
            have hO2 : Own w m (w5.setCell ⟨g t, j + 1, none⟩ (.bool true)) m (ritems 4 g (f4 A (j + 1) t (es.take (i + 1))) M A.length ++ [.row (.slice (some ⟨OB, 0, none⟩) A.length A.length) 57 1 A.length (outer g M A.length A.length), .obj w.heap.size 24 #[.slice (some ⟨tb, toff, none⟩) A.length vc]]) := by
              rw [← ritems_congr (g := g) (b := bset (f4 A (j + 1) t (es.take i)) t (j + 1) true) (fun _ _ => rfl) (fun s n _ _ => (show _ = f4 A (j + 1) t (es.take (i + 1)) s n by
                rw [HS.out.1 s n, Nat.add_sub_cancel, HS.out.2.1, Bool.or_true]
                rfl))]
              exact HS.out.2.2.matSet hltt true
            have HO2 := Lib.hid hO2
            clear hO2
            go_wp2
            exact hX3.out _ _ _ (by omega) rfl ⟨i + 1, by omega, rfl, rfl, HO2.out⟩
        · obtain rfl : i = es.length := by omega
          have hO2 : Own w m w5 m (ritems 4 g (f3 A (j + 1) (t + 1)) M A.length ++ [.row (.slice (some ⟨OB, 0, none⟩) A.length A.length) 57 1 A.length (outer g M A.length A.length), .obj w.heap.size 24 #[.slice (some ⟨tb, toff, none⟩) A.length vc]]) := by
            rw [← ritems_congr (fun _ _ => rfl) (fun s n _ _ => (show f4 A (j + 1) t (es.take es.length) s n = f3 A (j + 1) (t + 1) s n by
              rw [List.take_length]; exact HF3.out.1 s n))]
            exact hO
          have HO2 := Lib.hid hO2
          clear hO2 hO hi
          go_wp2
          exact hX2.out _ _ _ (by omega) rfl ⟨t + 1, by omega, rfl, rfl, HO2.out⟩
      · obtain rfl : t = A.length := by omega
        have hO2 : Own w m w4 m (ritems 4 g (f2 A (j + 1 + 1)) M A.length ++ [.row (.slice (some ⟨OB, 0, none⟩) A.length A.length) 57 1 A.length (outer g M A.length A.length), .obj w.heap.size 24 #[.slice va A.length vc]]) := by
          rw [← ritems_congr (fun _ _ => rfl) (fun s n hs _ => f3_f2 A (j + 1) s n hs)]
          exact hO
        have HO2 := Lib.hid hO2
        clear hO2 hO ht
        go_wp2
        refine hX1.out _ _ _ (by omega) rfl ⟨j + 1, by omega, rfl, rfl, HO2.out⟩
    · obtain rfl : j = M := by omega
      have hd : decide ((j : Int) + 1 ≤ (j : Int)) = false := decide_eq_false (by omega)
      have HO := Lib.hid hO
      clear hO hj
      go_wp2
      refine hR.out _ _ ⟨_, rfl, HO.out.below, ?_⟩
      have hP := HO.out.fore (l₁ := ritems 4 g (f2 A (j + 1)) j A.length)
      have hOB := (hP.fresh _ (List.mem_cons_self ..) OB rfl).1
      have hlen : (canTab A j).length = A.length := by simp [canTab]
      rw [← hlen]
      refine ⟨_, _, rfl, Nat.le_refl _, by rw [hlen]; unfold maxLen; omega, fun _ => ⟨OB, 0, rfl, fun s hs => ?_⟩⟩
      rw [hlen] at hs
      rw [Nat.zero_add]
      have h1 := row_cellw hP.row (outer_get (g := g) (M := j) (k := A.length) hs)
      rw [if_pos hs] at h1
      refine ⟨rsl g j s, grow_cell hOB h1, ?_⟩
      have e : (canTab A j)[s]'(by rw [hlen]; exact hs) = (List.range (j + 1)).map fun n => cb A s n := by simp [canTab]
      rw [e]
      have hl2 : ((List.range (j + 1)).map fun n => cb A s n).length = j + 1 := by simp
      have hgs := HO.out.matNew hs
      refine ⟨some ⟨g s, 0, none⟩, j + 1, by rw [hl2]; rfl, by omega, by unfold maxLen; omega, fun _ => ⟨g s, 0, rfl, fun n hn => ?_⟩⟩
      rw [hl2] at hn
      rw [Nat.zero_add]
      have h2 := HO.out.matCell hs (n := n) (by omega)
      rw [f2_at hn] at h2
      have e2 : ((List.range (j + 1)).map fun n => cb A s n)[n]'(by rw [hl2]; exact hn) = cb A s n := by simp
      rw [e2]
      exact grow_cell hgs h2
end Cl

/- LangOrders. For every input the law returns true, and each argument reads afterwards as it did before. Conditions: those of the row, none of ours. -/
import Derived.RegionTactic
import Derived.ChangeAlike
import Derived.Test.YtaolacbikbllcaaDoorPkA2
import Derived.Test.YtaolacbikbllcaaDoorPkA3
import Derived.Test.YtaolacbikbllcaaDoorPkB1
import Derived.Test.YtaolacbikbllcaaDoorPkA1
import Derived.Test.YtaolacbikbllcaaDoorPkA6
import Derived.Test.YtaolacbikbllcaaDoorPkA7
import Derived.Test.YtaolacbikbllcaaDoorPkA8
import Derived.Test.YtaolacbikbllcaaDoorPkC1
import Derived.Test.YtaolacbikbllcaaDoorPkC2
namespace Cl
open Go Go.RowKit Go.Proofs

theorem mul8 {X Y : Table} (h : X.length ≤ 8) (h' : Y.length ≤ 8) : (X.length + 2) * (Y.length + 2) ≤ 300000 := Nat.le_trans (Nat.mul_le_mul (Nat.add_le_add_right h 2) (Nat.add_le_add_right h' 2)) (by decide)
theorem cmp_three {f g : List UInt8 → Bool} {c : Int} (h : CmpIs f g c) : c = -1 ∨ c = 0 ∨ c = 1 := by have := h.range; omega
set_option maxRecDepth 100000 in
set_option maxHeartbeats 16000000 in
theorem LangOrders_any (u0 u1 u2 : Value) (A B C : Table) (m : Mem) (w : World) (hm : m.inn w) (htab : TabM m) (hA : statesAt m u0 A) (hB : statesAt m u1 B) (hC : statesAt m u2 C)
    (haw : ∀ w, m.inn w → Calls Tryd.prog 11 #[] w fun e w' => e = .returned (.bool true) ∧ Below w.heap.size w w') :
    Calls Tryd.prog 8 #[.agg #[u0], .agg #[u1], .agg #[u2]] w fun e w' => e = .returned (.bool true) ∧ Below w.heap.size w w' := by
  have hO := (((Own.start hm).al #[u0] 24).al #[u1] 24).al #[u2] 24
  have hsz0 : (w.alloc (.cells #[u0] 24)).heap.size = w.heap.size + 1 := by simp
  have hsz1 : ((w.alloc (.cells #[u0] 24)).alloc (.cells #[u1] 24)).heap.size = w.heap.size + 1 + 1 := by simp
  rw [hsz1, hsz0] at hO
  have HO := Lib.hid hO
  have HA := Lib.hid hA
  have HB := Lib.hid hB
  have HC := Lib.hid hC
  have HT := Lib.hid htab
  have HW := Lib.hid haw
  have HM := Lib.hid hm
  clear hO hsz0 hsz1 htab haw hm
  refine calls_hide fun R hR => ?_
  obtain ⟨vaa, vac, rfl, -⟩ := hA
  obtain ⟨vba, vbc, rfl, -⟩ := hB
  obtain ⟨vca, vcc, rfl, -⟩ := hC
  go_enter Tryd.func8, Tryd.ntmps8
  go_upto_region 1 with (fail)
  refine wp_cut_keep [3, 4, 5, 37] (fun vs w' => ∃ c : Bool, vs = [.pointer (some ⟨w.heap.size, 0, none⟩), .pointer (some ⟨w.heap.size + 1, 0, none⟩), .pointer (some ⟨w.heap.size + 1 + 1, 0, none⟩), .bool c] ∧
    Own w m w' m [.obj (w.heap.size + 1 + 1) 24 #[.slice vca C.length vcc], .obj (w.heap.size + 1) 24 #[.slice vba B.length vbc], .obj w.heap.size 24 #[.slice vaa A.length vac]] ∧ (c = false → SmallT A ∧ SmallT B ∧ SmallT C ∧ Canon A ∧ Canon B ∧ Canon C)) ?_ ?_
  · intro X hX
    have c1 := HO.out.third.obj.cell (i := 0) rfl
    have HB := Lib.hid (fun wr (hi : m.inn wr) => Small_any (.slice vaa A.length vac) A m wr hi HA.out)
    go_wp2_with fail
    refine (HB.out _ HO.out.inn).mono ?_
    rintro e w3 ⟨rfl, hb⟩
    have HO := Lib.hid (HO.out.move hb)
    clear HB hb c1
    by_cases h : SmallT A
    case neg =>
      rw [tf_false h]
      clear h
      go_wp2
      exact hX.out _ _ rfl ⟨true, rfl, HO.out, fun h => by cases h⟩
    rw [tf_true h]
    have HSA := Lib.hid h
    clear h
    have c1 := HO.out.swap.obj.cell (i := 0) rfl
    have HB := Lib.hid (fun wr (hi : m.inn wr) => Small_any (.slice vba B.length vbc) B m wr hi HB.out)
    go_wp2_with fail
    refine (HB.out _ HO.out.inn).mono ?_
    rintro e w4 ⟨rfl, hb⟩
    have HO := Lib.hid (HO.out.move hb)
    clear HB hb c1
    by_cases h : SmallT B
    case neg =>
      rw [tf_false h]
      clear h
      go_wp2
      exact hX.out _ _ rfl ⟨true, rfl, HO.out, fun h => by cases h⟩
    rw [tf_true h]
    have HSB := Lib.hid h
    clear h
    have c1 := HO.out.obj.cell (i := 0) rfl
    have HB := Lib.hid (fun wr (hi : m.inn wr) => Small_any (.slice vca C.length vcc) C m wr hi HC.out)
    go_wp2_with fail
    refine (HB.out _ HO.out.inn).mono ?_
    rintro e w5 ⟨rfl, hb⟩
    have HO := Lib.hid (HO.out.move hb)
    clear HB hb c1
    by_cases h : SmallT C
    case neg =>
      rw [tf_false h]
      clear h
      go_wp2
      exact hX.out _ _ rfl ⟨true, rfl, HO.out, fun h => by cases h⟩
    rw [tf_true h]
    have HSC := Lib.hid h
    clear h
    have c1 := HO.out.third.obj.cell (i := 0) rfl
    have HB := Lib.hid (fun wr (hi : m.inn wr) => r05Valid_any (.slice vaa A.length vac) A m wr hi HA.out (by have := HSA.out.2; omega))
    go_wp2_with fail
    refine (HB.out _ HO.out.inn).mono ?_
    rintro e w6 ⟨rfl, hb⟩
    have HO := Lib.hid (HO.out.move hb)
    clear HB hb c1
    by_cases h : Canon A
    case neg =>
      rw [tf_false h]
      clear h
      go_wp2
      exact hX.out _ _ rfl ⟨true, rfl, HO.out, fun h => by cases h⟩
    rw [tf_true h]
    have HCA := Lib.hid h
    clear h
    have c1 := HO.out.swap.obj.cell (i := 0) rfl
    have HB := Lib.hid (fun wr (hi : m.inn wr) => r05Valid_any (.slice vba B.length vbc) B m wr hi HB.out (by have := HSB.out.2; omega))
    go_wp2_with fail
    refine (HB.out _ HO.out.inn).mono ?_
    rintro e w7 ⟨rfl, hb⟩
    have HO := Lib.hid (HO.out.move hb)
    clear HB hb c1
    by_cases h : Canon B
    case neg =>
      rw [tf_false h]
      clear h
      go_wp2
      exact hX.out _ _ rfl ⟨true, rfl, HO.out, fun h => by cases h⟩
    rw [tf_true h]
    have HCB := Lib.hid h
    clear h
    have c1 := HO.out.obj.cell (i := 0) rfl
    have HB := Lib.hid (fun wr (hi : m.inn wr) => r05Valid_any (.slice vca C.length vcc) C m wr hi HC.out (by have := HSC.out.2; omega))
    go_wp2_with fail
    refine (HB.out _ HO.out.inn).mono ?_
    rintro e w8 ⟨rfl, hb⟩
    have HO := Lib.hid (HO.out.move hb)
    clear HB hb c1
    by_cases h : Canon C
    case neg =>
      rw [tf_false h]
      clear h
      go_wp2
      exact hX.out _ _ rfl ⟨true, rfl, HO.out, fun h => by cases h⟩
    rw [tf_true h]
    have HCC := Lib.hid h
    clear h
    go_wp2
    exact hX.out _ _ rfl ⟨false, rfl, HO.out, fun _ => ⟨HSA.out, HSB.out, HSC.out, HCA.out, HCB.out, HCC.out⟩⟩
  rintro z vs w1 - ⟨c, rfl, hO, hc⟩
  simp [litL, lk]
  clear HO
  cases c with
  | true =>
    have HO := Lib.hid hO
    clear hO hc
    go_wp2_with fail
    refine (HW.out _ HO.out.inn).mono ?_
    rintro e w2 ⟨rfl, hb⟩
    have HO := Lib.hid (HO.out.move hb)
    clear hb
    go_wp2
    exact hR.out _ _ ⟨rfl, HO.out.below⟩
  | false =>
    obtain ⟨hsA, hsB, hsC, hcA, hcB, hcC⟩ := hc rfl
    have HO := Lib.hid hO
    clear hO hc
    go_wp2
    refine wp_cut_keep [3, 4, 5, 7, 8, 9] (fun vs w' => ∃ x y z : Int, vs = [.pointer (some ⟨w.heap.size, 0, none⟩), .pointer (some ⟨w.heap.size + 1, 0, none⟩), .pointer (some ⟨w.heap.size + 1 + 1, 0, none⟩), .int .i64 x, .int .i64 y, .int .i64 z] ∧ Own w m w' m [.obj (w.heap.size + 1 + 1) 24 #[.slice vca C.length vcc], .obj (w.heap.size + 1) 24 #[.slice vba B.length vbc], .obj w.heap.size 24 #[.slice vaa A.length vac]] ∧ CmpIs (Sem A) (Sem B) x ∧ CmpIs (Sem B) (Sem C) y ∧ CmpIs (Sem A) (Sem C) z) ?_ ?_
    · intro X hX
      refine wp_region_facts 12 5 (fun j => [Fact.is (· = .agg #[.slice vaa A.length vac]), Fact.is (· = .agg #[.slice vba B.length vbc]), Fact.is (fun v => ∃ c : Int, v = .int .i64 c ∧ CmpIs (Sem A) (Sem B) c), Fact.is (· = .agg #[.slice vba B.length vbc]), Fact.is (· = .agg #[.slice vca C.length vcc]), Fact.is (fun v => ∃ c : Int, v = .int .i64 c ∧ CmpIs (Sem B) (Sem C) c), Fact.is (· = .agg #[.slice vaa A.length vac]), Fact.is (· = .agg #[.slice vca C.length vcc]), Fact.is (fun v => ∃ c : Int, v = .int .i64 c ∧ CmpIs (Sem A) (Sem C) c), Fact.is (fun v => ∃ c : Int, v = .int .i64 c ∧ CmpIs (Sem A) (Sem B) c), Fact.is (fun v => ∃ c : Int, v = .int .i64 c ∧ CmpIs (Sem B) (Sem C) c), Fact.is (fun v => ∃ c : Int, v = .int .i64 c ∧ CmpIs (Sem A) (Sem C) c)].getD j Fact.any) (by kernel_rfl) (by kernel_rfl) ?_ ?_
      · intro i hi o win a wr ho RA
        have HO2 := HO.out.dr.move RA.below
        have q1 := HO2.obj.cell (i := 0) rfl
        have q2 := HO2.swap.obj.cell (i := 0) rfl
        have q3 := HO2.third.obj.cell (i := 0) rfl
        rcases (show i = 0 ∨ i = 1 ∨ i = 2 ∨ i = 3 ∨ i = 4 ∨ i = 5 ∨ i = 6 ∨ i = 7 ∨ i = 8 ∨ i = 9 ∨ i = 10 ∨ i = 11 by omega) with rfl | rfl | rfl | rfl | rfl | rfl | rfl | rfl | rfl | rfl | rfl | rfl
        · have e3 := RA.keep 3 (by kernel_rfl)
          cases ho
          refine wpOp_of rfl rfl (wp_value (by go_simp; first | done | rfl) ⟨_, rfl, Below.refl _ _, rfl⟩)
        · have e4 := RA.keep 4 (by kernel_rfl)
          cases ho
          refine wpOp_of rfl rfl (wp_value (by go_simp; first | done | rfl) ⟨_, rfl, Below.refl _ _, rfl⟩)
        · have e39 : a.tmps.getD 39 undef = .agg #[.slice vaa A.length vac] := RA.dep 0 _ (by kernel_rfl) rfl
          have e40 : a.tmps.getD 40 undef = .agg #[.slice vba B.length vbc] := RA.dep 1 _ (by kernel_rfl) rfl
          cases ho
          refine wpOp_of rfl rfl (wp_enter (by go_simp; first | done | rfl) (langCompare_any (.slice vaa A.length vac) (.slice vba B.length vbc) A B m wr HO2.inn HT.out HA.out HB.out (mul8 hsA.2 hsB.2)) ?_)
          rintro e w' ⟨c, rfl, hb, hl⟩
          exact ⟨_, rfl, _, rfl, hb, c, rfl, hl⟩
        · have e4 := RA.keep 4 (by kernel_rfl)
          cases ho
          refine wpOp_of rfl rfl (wp_value (by go_simp; first | done | rfl) ⟨_, rfl, Below.refl _ _, rfl⟩)
        · have e5 := RA.keep 5 (by kernel_rfl)
          cases ho
          refine wpOp_of rfl rfl (wp_value (by go_simp; first | done | rfl) ⟨_, rfl, Below.refl _ _, rfl⟩)
        · have e42 : a.tmps.getD 42 undef = .agg #[.slice vba B.length vbc] := RA.dep 3 _ (by kernel_rfl) rfl
          have e43 : a.tmps.getD 43 undef = .agg #[.slice vca C.length vcc] := RA.dep 4 _ (by kernel_rfl) rfl
          cases ho
          refine wpOp_of rfl rfl (wp_enter (by go_simp; first | done | rfl) (langCompare_any (.slice vba B.length vbc) (.slice vca C.length vcc) B C m wr HO2.inn HT.out HB.out HC.out (mul8 hsB.2 hsC.2)) ?_)
          rintro e w' ⟨c, rfl, hb, hl⟩
          exact ⟨_, rfl, _, rfl, hb, c, rfl, hl⟩
        · have e3 := RA.keep 3 (by kernel_rfl)
          cases ho
          refine wpOp_of rfl rfl (wp_value (by go_simp; first | done | rfl) ⟨_, rfl, Below.refl _ _, rfl⟩)
        · have e5 := RA.keep 5 (by kernel_rfl)
          cases ho
          refine wpOp_of rfl rfl (wp_value (by go_simp; first | done | rfl) ⟨_, rfl, Below.refl _ _, rfl⟩)
        · have e45 : a.tmps.getD 45 undef = .agg #[.slice vaa A.length vac] := RA.dep 6 _ (by kernel_rfl) rfl
          have e46 : a.tmps.getD 46 undef = .agg #[.slice vca C.length vcc] := RA.dep 7 _ (by kernel_rfl) rfl
          cases ho
          refine wpOp_of rfl rfl (wp_enter (by go_simp; first | done | rfl) (langCompare_any (.slice vaa A.length vac) (.slice vca C.length vcc) A C m wr HO2.inn HT.out HA.out HC.out (mul8 hsA.2 hsC.2)) ?_)
          rintro e w' ⟨c, rfl, hb, hl⟩
          exact ⟨_, rfl, _, rfl, hb, c, rfl, hl⟩
        · have e41 : (Fact.is (fun v => ∃ c : Int, v = .int .i64 c ∧ CmpIs (Sem A) (Sem B) c)).holds (a.tmps.getD 41 undef) win wr := RA.dep 2 _ (by kernel_rfl) rfl
          cases ho
          obtain ⟨c, e41, hl⟩ : ∃ c : Int, _ = Value.int .i64 c ∧ _ := e41
          exact wpOp_of rfl rfl (wp_value (by go_simp; first | done | rfl) ⟨_, rfl, Below.refl _ _, c, rfl, hl⟩)
        · have e44 : (Fact.is (fun v => ∃ c : Int, v = .int .i64 c ∧ CmpIs (Sem B) (Sem C) c)).holds (a.tmps.getD 44 undef) win wr := RA.dep 5 _ (by kernel_rfl) rfl
          cases ho
          obtain ⟨c, e44, hl⟩ : ∃ c : Int, _ = Value.int .i64 c ∧ _ := e44
          exact wpOp_of rfl rfl (wp_value (by go_simp; first | done | rfl) ⟨_, rfl, Below.refl _ _, c, rfl, hl⟩)
        · have e47 : (Fact.is (fun v => ∃ c : Int, v = .int .i64 c ∧ CmpIs (Sem A) (Sem C) c)).holds (a.tmps.getD 47 undef) win wr := RA.dep 8 _ (by kernel_rfl) rfl
          cases ho
          obtain ⟨c, e47, hl⟩ : ∃ c : Int, _ = Value.int .i64 c ∧ _ := e47
          exact wpOp_of rfl rfl (wp_value (by go_simp; first | done | rfl) ⟨_, rfl, Below.refl _ _, c, rfl, hl⟩)
      · intro win a wr E
        have e3 := E.keep 3 (by kernel_rfl)
        have e4 := E.keep 4 (by kernel_rfl)
        have e5 := E.keep 5 (by kernel_rfl)
        have e7 : (Fact.is (fun v => ∃ c : Int, v = .int .i64 c ∧ CmpIs (Sem A) (Sem B) c)).holds (a.tmps.getD 7 undef) win wr := E.fact 9 _ (by omega) rfl
        have e8 : (Fact.is (fun v => ∃ c : Int, v = .int .i64 c ∧ CmpIs (Sem B) (Sem C) c)).holds (a.tmps.getD 8 undef) win wr := E.fact 10 _ (by omega) rfl
        have e9 : (Fact.is (fun v => ∃ c : Int, v = .int .i64 c ∧ CmpIs (Sem A) (Sem C) c)).holds (a.tmps.getD 9 undef) win wr := E.fact 11 _ (by omega) rfl
        obtain ⟨x, e7, hx⟩ : ∃ c : Int, _ = Value.int .i64 c ∧ _ := e7
        obtain ⟨y, e8, hy⟩ : ∃ c : Int, _ = Value.int .i64 c ∧ _ := e8
        obtain ⟨z, e9, hz⟩ : ∃ c : Int, _ = Value.int .i64 c ∧ _ := e9
        obtain ⟨t, d⟩ := a
        obtain rfl : d = [] := E.defers
        refine wpAny_none (by kernel_rfl) (hX.out _ _ E.size ⟨x, y, z, ?_, HO.out.dr.move E.below, hx, hy, hz⟩) _
        simp only [List.map_cons, List.map_nil, e3, e4, e5, e7, e8, e9]
        rfl
    rintro z' vs w2 - ⟨x, y, z, rfl, hO, hx, hy, hz⟩
    simp [litL, lk]
    clear HO
    have HX := Lib.hid (And.intro hx (And.intro hy hz))
    have HO := Lib.hid hO
    have HSC := Lib.hid (And.intro hsA (And.intro hsB (And.intro hcA hcB)))
    have hAB : tf (A = B) = decide (x = 0) := by
      rw [Bool.eq_iff_iff, tf_iff, decide_eq_true_eq, hx.zero, lang_eq_iff (lang_of_sem hcA) (lang_of_sem hcB)]
    have HAB := Lib.hid hAB
    have h3 := cmp_three hx
    clear hO hx hy hz hsA hsB hsC hcA hcB hcC hAB
    rcases h3 with rfl | rfl | rfl
    all_goals
      have c1 := HO.out.third.obj.cell (i := 0) rfl
      have c2 := HO.out.swap.obj.cell (i := 0) rfl
      have HB2 := Lib.hid (fun wr (hi : m.inn wr) => langCompare_any (.slice vba B.length vbc) (.slice vaa A.length vac) B A m wr hi HT.out HB.out HA.out (mul8 HSC.out.2.1.2 HSC.out.1.2))
      go_wp2_with fail
      refine (HB2.out _ HO.out.inn).mono ?_
      rintro e w3 ⟨c, rfl, hb, hl⟩
      obtain rfl := cmp_unique hl HX.out.1.swap
      have HO := Lib.hid (HO.out.move hb)
      clear HB2 hb c1 c2 hl
      have c1 := HO.out.third.obj.cell (i := 0) rfl
      have c2 := HO.out.swap.obj.cell (i := 0) rfl
      have HB2 := Lib.hid (fun wr (hi : m.inn wr) => r05Same_any (.slice vaa A.length vac) (.slice vba B.length vbc) A B m wr hi HA.out HB.out)
      go_wp2_with fail
      refine (HB2.out _ HO.out.inn).mono ?_
      rintro e w4 ⟨rfl, hb⟩
      rw [HAB.out]
      have HO := Lib.hid (HO.out.move hb)
      clear HB2 hb c1 c2
      have c1 := HO.out.third.obj.cell (i := 0) rfl
      have HB2 := Lib.hid (fun wr (hi : m.inn wr) => langCompare_any (.slice vaa A.length vac) (.slice vaa A.length vac) A A m wr hi HT.out HA.out HA.out (mul8 HSC.out.1.2 HSC.out.1.2))
      go_wp2_with fail
      refine (HB2.out _ HO.out.inn).mono ?_
      rintro e w5 ⟨c, rfl, hb, hl⟩
      obtain rfl := cmp_unique hl (CmpIs.refl _)
      have HO := Lib.hid (HO.out.move hb)
      clear HB2 hb c1 hl
      have h3 := cmp_three HX.out.2.1
      have h4 := cmp_three HX.out.2.2
      have h5 := fun h h' => cmp_trans HX.out.1 HX.out.2.1 HX.out.2.2 h h'
      rcases h3 with rfl | rfl | rfl <;> rcases h4 with rfl | rfl | rfl
      all_goals
        first
          | (exfalso; have := h5 (by decide) (by decide); omega)
          | (clear h5
             go_wp2_with fail
             refine (HW.out _ HO.out.inn).mono ?_
             rintro e w3 ⟨rfl, hb⟩
             have HO := Lib.hid (HO.out.move hb)
             clear hb
             go_wp2
             exact hR.out _ _ ⟨rfl, HO.out.below⟩)
end Cl
namespace Go.Proofs.YtaolacbikbllcaaDoor.langOrders
open Go Go.RowKit Go.Proofs Go.ChangeShapes Go.WideShapes Go.ChangeAt Cl

set_option maxRecDepth 100000 in
theorem contract (H : Type) (enc : TypeId × Value → H) (W : World) (base : Nat) (args : Array Value) (ds gs : List (DataW H)) (before : List MemPlace)
    (hval0 : ∀ (j : Nat) t v, Tryd.f8.params[j]? = some t → args[j]? = some v → Value.okWide Tryd.prog W .any base t v)
    (hW : DataW.Whole enc Tryd.prog Tryd.f8.params.toList Rows.langOrdersSpec.vars false W args.toList ds gs before) (hL : laidMetH Tryd.prog seatLaid W) :
    Calls Tryd.prog 8 args W fun e W' => ∃ v, e = .returned v ∧ Rows.langOrdersSpec.post enc Tryd.prog Tryd.f8 false true false false W args v W' := by
  have hval := hval0
  have hW' := hW
  obtain ⟨p, q, hA0, hV, rfl, hfz, hnd⟩ := hW
  have hA : DataW.TrodAll enc Tryd.prog W 0 (fun _ => true) true Tryd.f8.params.toList args.toList ds p := hA0
  rw [Tryd.params8] at hA hval
  obtain ⟨v0, v1, v2, d0, d1, d2, p0, p1, p2, rfl, rfl, rfl, h0, h1, h2⟩ := trodAll_three hA
  obtain ⟨rfl, rfl⟩ := trodVars_none hV
  obtain ⟨u0, A0, rfl, hT0⟩ := lang_open (hval 0 _ _ rfl rfl) h0
  obtain ⟨u1, A1, rfl, hT1⟩ := lang_open (hval 1 _ _ rfl rfl) h1
  obtain ⟨u2, A2, rfl, hT2⟩ := lang_open (hval 2 _ _ rfl rfl) h2
  refine (LangOrders_any u0 u1 u2 A0 A1 A2 (Mem.of W) W (Mem.of_inn W) (seat_tab hL) hT0 hT1 hT2 (fun w hw => awake_any (Mem.of W) w hw (seat_tab hL))).mono fun e W' ⟨he, hb⟩ => ?_
  subst he
  exact ⟨_, rfl, law_post rfl (by kernel_rfl) (by kernel_rfl) rfl hW' hb⟩

theorem laid_met (os : Os) : laidMet Tryd.prog Rows.langOrdersRow.laid ((laidWorld os).forCall (fun _ _ => 0) ⟨#[], #[.agg #[.slice none 0 0], .agg #[.slice none 0 0], .agg #[.slice none 0 0]], []⟩).memory :=
  laidMet_of_run' 8 (by kernel_rfl) (by kernel_rfl)
theorem reads (os : Os) {H : Type} (enc : TypeId × Value → H) : ∃ places, DataW.whole enc Tryd.prog ((laidWorld os).forCall (fun _ _ => 0) ⟨#[], #[.agg #[.slice none 0 0], .agg #[.slice none 0 0], .agg #[.slice none 0 0]], []⟩).memory Tryd.f8.params.toList Rows.langOrdersSpec.vars false #[Value.agg #[.slice none 0 0], Value.agg #[.slice none 0 0], Value.agg #[.slice none 0 0]].toList 8 = some ([.agg [.nil], .agg [.nil], .agg [.nil]], [], places) :=
  ⟨[], by kernel_rfl⟩

set_option maxRecDepth 100000 in
theorem lifted (os : Os) (started : os.Started) (H : Type) (enc : TypeId × Value → H) (F : Stop.Interp) :
    ReturnsInHanded {} Tryd.checked os 8 .any ((OpenSpec.ofChange Rows.langOrdersSpec).preRow enc Tryd.prog Tryd.f8 Rows.langOrdersRow.domain false Rows.langOrdersRow.laid) (((OpenSpec.ofChange Rows.langOrdersSpec).at F).post enc Tryd.prog Tryd.f8 false true false false) := by
  obtain ⟨places, hx⟩ := reads os enc
  refine returnsInHanded_of_row (C := Tryd.checked) (s := OpenSpec.ofChange Rows.langOrdersSpec) seat_own started (by kernel_rfl) Tryd.func8
    (witness_row_at (enc := enc) (C := Tryd.checked) false (laidWorld os) #[.agg #[.slice none 0 0], .agg #[.slice none 0 0], .agg #[.slice none 0 0]] rfl (by kernel_rfl) (by kernel_rfl) (by kernel_rfl)
      (OpenSpec.preRow_of_cond 8 hx (by kernel_rfl) (fun k hk => by cases hk) (by kernel_rfl) (laid_met os))) ?_
  intro W base args ds gs before hval hW _ _ _ hL _ _
  exact contract H enc W base args ds gs before hval hW hL

theorem said : Rows.LangOrdersSaid :=
  OpenClaim.holds_of_cond 8 Tryd.f8 rfl rfl rfl rfl rfl rfl rfl ⟨rfl, rfl, rfl, rfl, rfl⟩ rfl rfl rfl rfl rfl (by kernel_rfl) Tryd.func8 (by kernel_rfl)
    (of_decide_eq_true (by kernel_rfl)) (by unfold Func.isWrapper; first | (rw [if_pos (by decide +kernel)]; kernel_rfl) | (rw [if_neg (by decide +kernel)]; exact ⟨rfl, rfl⟩))
    (fun os started H enc _ F => by rw [OpenClaim.pre_eq_preRow]; exact lifted os started H enc F)

theorem plain (f : FuncId) (fn : Func) (hf : Tryd.pinned.checked.prog.funcNamed "configlang/configlanglaw06.LangOrders" = some f) (hfn : Tryd.pinned.checked.prog.funcs[f]? = some fn) :
    false = Tryd.pinned.checked.prog.looks [] ∧ ∀ (j : Nat) t, fn.params[j]? = some t → Tryd.pinned.checked.prog.wantsStandIn t = false := by
  obtain rfl : f = 8 := Option.some.inj ((show Tryd.prog.funcNamed "configlang/configlanglaw06.LangOrders" = some 8 by kernel_rfl).symm.trans hf) |>.symm
  obtain rfl : fn = Tryd.f8 := (Option.some.inj (Tryd.func8.symm.trans hfn)).symm
  refine ⟨by kernel_rfl, fun j t ht => ?_⟩
  have hall : Tryd.f8.params.all (fun t => !Tryd.prog.wantsStandIn t) = true := by kernel_rfl
  have := Array.all_eq_true_iff_forall_mem.1 hall t (Array.mem_of_getElem? ht)
  show Tryd.prog.wantsStandIn t = false
  simpa using this

theorem langOrders_holds : Rows.LangOrdersCardSaid :=
  Claim7.holds_tied_plain_at .later [] _ _ _ _ said (fun _ h => by cases h) (by kernel_rfl) (fun _ h => by cases h) langOrders_row_tie rfl ⟨rfl, rfl⟩ (by kernel_rfl) rfl plain (by kernel_rfl)
end Go.Proofs.YtaolacbikbllcaaDoor.langOrders

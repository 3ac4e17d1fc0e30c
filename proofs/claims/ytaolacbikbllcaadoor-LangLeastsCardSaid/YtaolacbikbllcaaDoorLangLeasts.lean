/- LangLeasts. For every input the law returns true, and each argument reads afterwards as it did before. Conditions: those of the row, none of ours. -/
import Derived.RegionTactic
import Derived.ChangeAlike
import Derived.Test.YtaolacbikbllcaaDoorPkA2
import Derived.Test.YtaolacbikbllcaaDoorPkA3
import Derived.Test.YtaolacbikbllcaaDoorPkB1
import Derived.Test.YtaolacbikbllcaaDoorPkA1
import Derived.Test.YtaolacbikbllcaaDoorPkA6
import Derived.Test.YtaolacbikbllcaaDoorPkA7
import Derived.Test.YtaolacbikbllcaaDoorPkA8
import Derived.Test.YtaolacbikbllcaaDoorPkA10
import Derived.Test.YtaolacbikbllcaaDoorPkD1
import Derived.Test.YtaolacbikbllcaaDoorPkC2
namespace Cl
open Go Go.RowKit Go.Proofs

set_option maxRecDepth 100000 in
set_option maxHeartbeats 16000000 in
theorem LangLeasts_any (u0 : Value) (A : Table) (m : Mem) (w : World) (hm : m.inn w) (htab : TabM m) (hA : statesAt m u0 A)
    (haw : ∀ w, m.inn w → Calls Tryd.prog 11 #[] w fun e w' => e = .returned (.bool true) ∧ Below w.heap.size w w') :
    Calls Tryd.prog 5 #[.agg #[u0]] w fun e w' => e = .returned (.bool true) ∧ Below w.heap.size w w' := by
  have hO := (Own.start hm).al #[u0] 24
  have HO := Lib.hid hO
  have HA := Lib.hid hA
  have HT := Lib.hid htab
  have HW := Lib.hid haw
  have HM := Lib.hid hm
  clear hO  htab haw hm
  refine calls_hide fun R hR => ?_
  obtain ⟨vaa, vac, rfl, -⟩ := hA
  go_enter Tryd.func5, Tryd.ntmps5
  go_upto_region 1 with (fail)
  refine wp_cut_keep [1, 13] (fun vs w' => ∃ c : Bool, vs = [.pointer (some ⟨w.heap.size, 0, none⟩), .bool c] ∧
    Own w m w' m [.obj w.heap.size 24 #[.slice vaa A.length vac]] ∧ (c = false → SmallT A)) ?_ ?_
  · intro X hX
    have c1 := HO.out.obj.cell (i := 0) rfl
    have HB := Lib.hid (fun wr (hi : m.inn wr) => Small_any (.slice vaa A.length vac) A m wr hi HA.out)
    go_wp2_with fail
    refine (HB.out _ HO.out.inn).mono ?_
    rintro e w3 ⟨rfl, hb⟩
    have HO := Lib.hid (HO.out.move hb)
    clear HB hb c1
    by_cases h : SmallT A
    case neg =>
      rw [tf_false h]
      clear h
      go_wp2
      exact hX.out _ _ rfl ⟨true, rfl, HO.out, fun h => by cases h⟩
    rw [tf_true h]
    have HSA := Lib.hid h
    clear h
    go_wp2
    exact hX.out _ _ rfl ⟨false, rfl, HO.out, fun _ => HSA.out⟩
  rintro z vs w1 - ⟨c, rfl, hO, hc⟩
  simp [litL, lk]
  clear HO
  cases c with
  | true =>
    have HO := Lib.hid hO
    clear hO hc
    go_wp2_with fail
    refine (HW.out _ HO.out.inn).mono ?_
    rintro e w2 ⟨rfl, hb⟩
    have HO := Lib.hid (HO.out.move hb)
    clear hb
    go_wp2
    exact hR.out _ _ ⟨rfl, HO.out.below⟩
  | false =>
    have hsA := hc rfl
    have HO := Lib.hid hO
    clear hO hc
    have hlA := hsA.2
    have c1 := HO.out.obj.cell (i := 0) rfl
    have HB := Lib.hid (fun wr (hi : m.inn wr) => langLeast_any (.slice vaa A.length vac) A m wr hi HT.out HA.out (by omega))
    go_wp2_with fail
    refine (HB.out _ HO.out.inn).mono ?_
    rintro e w3 ⟨o0, rfl, hb, hl⟩
    obtain ⟨t0, b0, hv⟩ : ∃ t b, optV o0 = .tuple #[.string t, .bool b] := ⟨_, _, rfl⟩
    rw [hv]
    have HV0 := Lib.hid (And.intro hv hl)
    have HO := Lib.hid (HO.out.move hb)
    clear HB hb c1 hv hl
    have c1 := HO.out.obj.cell (i := 0) rfl
    have HB := Lib.hid (fun wr (hi : m.inn wr) => r06Least_any (.slice vaa A.length vac) A m wr hi HA.out (by omega))
    go_wp2_with fail
    refine (HB.out _ HO.out.inn).mono ?_
    rintro e w4 ⟨o, rfl, hb, hl⟩
    obtain rfl := least_unique HV0.out.2 hl
    rw [HV0.out.1]
    have HO := Lib.hid (HO.out.move hb)
    clear HB hb c1 hl
    have c1 := HO.out.obj.cell (i := 0) rfl
    have HB := Lib.hid (fun wr (hi : m.inn wr) => langSingle_any (.slice vaa A.length vac) A m wr hi HT.out HA.out (by omega))
    go_wp2_with fail
    refine (HB.out _ HO.out.inn).mono ?_
    rintro e w5 ⟨o1, rfl, hb, hl⟩
    obtain ⟨t1, b1, hv⟩ : ∃ t b, optV o1 = .tuple #[.string t, .bool b] := ⟨_, _, rfl⟩
    rw [hv]
    have HV1 := Lib.hid (And.intro hv hl)
    have HO := Lib.hid (HO.out.move hb)
    clear HB hb c1 hv hl
    have c1 := HO.out.obj.cell (i := 0) rfl
    have HB := Lib.hid (fun wr (hi : m.inn wr) => r06Single_any (.slice vaa A.length vac) A m wr hi HA.out (by omega))
    go_wp2_with fail
    refine (HB.out _ HO.out.inn).mono ?_
    rintro e w6 ⟨o, rfl, hb, hl⟩
    obtain rfl := sing_unique HV1.out.2 hl
    rw [HV1.out.1]
    have HO := Lib.hid (HO.out.move hb)
    clear HB hb c1 hl
    obtain ⟨bb, hbb⟩ : ∃ b, tf (FinSet (Sem A)) = b := ⟨_, rfl⟩
    have HBB := Lib.hid hbb
    clear hbb HV0 HV1
    go_wp2
    refine wp_cut_keep [2] (fun vs w' => vs = [.bool true] ∧ Own w m w' m [.obj w.heap.size 24 #[.slice vaa A.length vac]]) ?_ ?_
    · intro X hX
      refine wp_region_facts 29 40 (fun j => [Fact.is (· = .string t0), Fact.is (· = .string t0), Fact.is (· = .bool true), Fact.is (· = .bool true), Fact.is (· = .bool b0), Fact.is (· = .bool b0), Fact.is (· = .bool true), Fact.is (· = .bool true), Fact.is (· = .bool true), Fact.is (· = .string t1), Fact.is (· = .string t1), Fact.is (· = .bool true), Fact.is (· = .bool true), Fact.is (· = .bool true), Fact.is (· = .bool b1), Fact.is (· = .bool b1), Fact.is (· = .bool true), Fact.is (· = .bool true), Fact.is (· = .bool true), Fact.is (· = .agg #[.slice vaa A.length vac]), Fact.is (· = .bool bb), Fact.is (· = .agg #[.slice vaa A.length vac]), Fact.is (· = .bool bb), Fact.is (· = .bool true), Fact.is (· = .bool true), Fact.is (· = .bool true), Fact.is (· = .bool true), Fact.is (· = .bool true), Fact.is (· = .bool true)].getD j Fact.any) (by kernel_rfl) (by kernel_rfl) ?_ ?_
      · intro i hi o win a wr ho RA
        have HO2 := HO.out.dr.move RA.below
        have q0 := HO2.obj.cell (i := 0) rfl
        rcases (show i = 0 ∨ i = 1 ∨ i = 2 ∨ i = 3 ∨ i = 4 ∨ i = 5 ∨ i = 6 ∨ i = 7 ∨ i = 8 ∨ i = 9 ∨ i = 10 ∨ i = 11 ∨ i = 12 ∨ i = 13 ∨ i = 14 ∨ i = 15 ∨ i = 16 ∨ i = 17 ∨ i = 18 ∨ i = 19 ∨ i = 20 ∨ i = 21 ∨ i = 22 ∨ i = 23 ∨ i = 24 ∨ i = 25 ∨ i = 26 ∨ i = 27 ∨ i = 28 by omega) with rfl | rfl | rfl | rfl | rfl | rfl | rfl | rfl | rfl | rfl | rfl | rfl | rfl | rfl | rfl | rfl | rfl | rfl | rfl | rfl | rfl | rfl | rfl | rfl | rfl | rfl | rfl | rfl | rfl
        · have e3 := RA.keep 3 (by kernel_rfl)
          cases ho
          refine wpOp_of rfl rfl (wp_value (by go_simp; first | done | rfl) ⟨_, rfl, Below.refl _ _, rfl⟩)
        · have e5 := RA.keep 5 (by kernel_rfl)
          cases ho
          refine wpOp_of rfl rfl (wp_value (by go_simp; first | done | rfl) ⟨_, rfl, Below.refl _ _, rfl⟩)
        · have e35 : a.tmps.getD 35 undef = .string t0 := RA.dep 0 _ (by kernel_rfl) rfl
          have e36 : a.tmps.getD 36 undef = .string t0 := RA.dep 1 _ (by kernel_rfl) rfl
          cases ho
          refine wpOp_of rfl rfl (wp_value (by go_simp; first | done | rfl) ⟨_, rfl, Below.refl _ _, rfl⟩)
        · have e37 : a.tmps.getD 37 undef = .bool true := RA.dep 2 _ (by kernel_rfl) rfl
          cases ho
          refine wpOp_of rfl rfl (wp_value (by go_simp; first | done | rfl) ⟨_, rfl, Below.refl _ _, rfl⟩)
        · have e4 := RA.keep 4 (by kernel_rfl)
          have e38 : a.tmps.getD 38 undef = .bool true := RA.dep 3 _ (by kernel_rfl) rfl
          cases ho
          refine wpOp_of2 rfl (wanted_yes rfl rfl e38) (wp_value (by go_simp; first | done | rfl) ⟨_, rfl, Below.refl _ _, rfl⟩)
        · have e6 := RA.keep 6 (by kernel_rfl)
          have e38 : a.tmps.getD 38 undef = .bool true := RA.dep 3 _ (by kernel_rfl) rfl
          cases ho
          refine wpOp_of2 rfl (wanted_yes rfl rfl e38) (wp_value (by go_simp; first | done | rfl) ⟨_, rfl, Below.refl _ _, rfl⟩)
        · have e39 : a.tmps.getD 39 undef = .bool b0 := RA.dep 4 _ (by kernel_rfl) rfl
          have e40 : a.tmps.getD 40 undef = .bool b0 := RA.dep 5 _ (by kernel_rfl) rfl
          have e38 : a.tmps.getD 38 undef = .bool true := RA.dep 3 _ (by kernel_rfl) rfl
          cases ho
          refine wpOp_of2 rfl (wanted_yes rfl rfl e38) (wp_value (by go_simp; first | done | rfl) ⟨_, rfl, Below.refl _ _, rfl⟩)
        · have e38 : a.tmps.getD 38 undef = .bool true := RA.dep 3 _ (by kernel_rfl) rfl
          have e41 : a.tmps.getD 41 undef = .bool true := RA.dep 6 _ (by kernel_rfl) rfl
          cases ho
          refine wpOp_of rfl rfl (wp_value (by go_simp; first | done | rfl) ⟨_, rfl, Below.refl _ _, rfl⟩)
        · have e42 : a.tmps.getD 42 undef = .bool true := RA.dep 7 _ (by kernel_rfl) rfl
          cases ho
          refine wpOp_of rfl rfl (wp_value (by go_simp; first | done | rfl) ⟨_, rfl, Below.refl _ _, rfl⟩)
        · have e7 := RA.keep 7 (by kernel_rfl)
          have e43 : a.tmps.getD 43 undef = .bool true := RA.dep 8 _ (by kernel_rfl) rfl
          cases ho
          refine wpOp_of2 rfl (wanted_yes rfl rfl e43) (wp_value (by go_simp; first | done | rfl) ⟨_, rfl, Below.refl _ _, rfl⟩)
        · have e9 := RA.keep 9 (by kernel_rfl)
          have e43 : a.tmps.getD 43 undef = .bool true := RA.dep 8 _ (by kernel_rfl) rfl
          cases ho
          refine wpOp_of2 rfl (wanted_yes rfl rfl e43) (wp_value (by go_simp; first | done | rfl) ⟨_, rfl, Below.refl _ _, rfl⟩)
        · have e44 : a.tmps.getD 44 undef = .string t1 := RA.dep 9 _ (by kernel_rfl) rfl
          have e45 : a.tmps.getD 45 undef = .string t1 := RA.dep 10 _ (by kernel_rfl) rfl
          have e43 : a.tmps.getD 43 undef = .bool true := RA.dep 8 _ (by kernel_rfl) rfl
          cases ho
          refine wpOp_of2 rfl (wanted_yes rfl rfl e43) (wp_value (by go_simp; first | done | rfl) ⟨_, rfl, Below.refl _ _, rfl⟩)
        · have e43 : a.tmps.getD 43 undef = .bool true := RA.dep 8 _ (by kernel_rfl) rfl
          have e46 : a.tmps.getD 46 undef = .bool true := RA.dep 11 _ (by kernel_rfl) rfl
          cases ho
          refine wpOp_of rfl rfl (wp_value (by go_simp; first | done | rfl) ⟨_, rfl, Below.refl _ _, rfl⟩)
        · have e47 : a.tmps.getD 47 undef = .bool true := RA.dep 12 _ (by kernel_rfl) rfl
          cases ho
          refine wpOp_of rfl rfl (wp_value (by go_simp; first | done | rfl) ⟨_, rfl, Below.refl _ _, rfl⟩)
        · have e8 := RA.keep 8 (by kernel_rfl)
          have e48 : a.tmps.getD 48 undef = .bool true := RA.dep 13 _ (by kernel_rfl) rfl
          cases ho
          refine wpOp_of2 rfl (wanted_yes rfl rfl e48) (wp_value (by go_simp; first | done | rfl) ⟨_, rfl, Below.refl _ _, rfl⟩)
        · have e10 := RA.keep 10 (by kernel_rfl)
          have e48 : a.tmps.getD 48 undef = .bool true := RA.dep 13 _ (by kernel_rfl) rfl
          cases ho
          refine wpOp_of2 rfl (wanted_yes rfl rfl e48) (wp_value (by go_simp; first | done | rfl) ⟨_, rfl, Below.refl _ _, rfl⟩)
        · have e49 : a.tmps.getD 49 undef = .bool b1 := RA.dep 14 _ (by kernel_rfl) rfl
          have e50 : a.tmps.getD 50 undef = .bool b1 := RA.dep 15 _ (by kernel_rfl) rfl
          have e48 : a.tmps.getD 48 undef = .bool true := RA.dep 13 _ (by kernel_rfl) rfl
          cases ho
          refine wpOp_of2 rfl (wanted_yes rfl rfl e48) (wp_value (by go_simp; first | done | rfl) ⟨_, rfl, Below.refl _ _, rfl⟩)
        · have e48 : a.tmps.getD 48 undef = .bool true := RA.dep 13 _ (by kernel_rfl) rfl
          have e51 : a.tmps.getD 51 undef = .bool true := RA.dep 16 _ (by kernel_rfl) rfl
          cases ho
          refine wpOp_of rfl rfl (wp_value (by go_simp; first | done | rfl) ⟨_, rfl, Below.refl _ _, rfl⟩)
        · have e52 : a.tmps.getD 52 undef = .bool true := RA.dep 17 _ (by kernel_rfl) rfl
          cases ho
          refine wpOp_of rfl rfl (wp_value (by go_simp; first | done | rfl) ⟨_, rfl, Below.refl _ _, rfl⟩)
        · have e1 := RA.keep 1 (by kernel_rfl)
          have e53 : a.tmps.getD 53 undef = .bool true := RA.dep 18 _ (by kernel_rfl) rfl
          cases ho
          refine wpOp_of2 rfl (wanted_yes rfl rfl e53) (wp_value (by go_simp; first | done | rfl) ⟨_, rfl, Below.refl _ _, rfl⟩)
        · have e54 : a.tmps.getD 54 undef = .agg #[.slice vaa A.length vac] := RA.dep 19 _ (by kernel_rfl) rfl
          have e53 : a.tmps.getD 53 undef = .bool true := RA.dep 18 _ (by kernel_rfl) rfl
          cases ho
          refine wpOp_of2 rfl (wanted_yes rfl rfl e53) (wp_enter (by go_simp; first | done | rfl) (langFinite_any (.slice vaa A.length vac) A m wr HO2.inn HT.out HA.out (by omega)) ?_)
          rintro e w' ⟨rfl, hb⟩
          exact ⟨_, rfl, _, rfl, hb, congrArg Value.bool HBB.out⟩
        · have e1 := RA.keep 1 (by kernel_rfl)
          have e53 : a.tmps.getD 53 undef = .bool true := RA.dep 18 _ (by kernel_rfl) rfl
          cases ho
          refine wpOp_of2 rfl (wanted_yes rfl rfl e53) (wp_value (by go_simp; first | done | rfl) ⟨_, rfl, Below.refl _ _, rfl⟩)
        · have e56 : a.tmps.getD 56 undef = .agg #[.slice vaa A.length vac] := RA.dep 21 _ (by kernel_rfl) rfl
          have e53 : a.tmps.getD 53 undef = .bool true := RA.dep 18 _ (by kernel_rfl) rfl
          cases ho
          refine wpOp_of2 rfl (wanted_yes rfl rfl e53) (wp_enter (by go_simp; first | done | rfl) (r06Finite_any (.slice vaa A.length vac) A m wr HO2.inn HA.out (by omega)) ?_)
          rintro e w' ⟨rfl, hb⟩
          exact ⟨_, rfl, _, rfl, hb, congrArg Value.bool HBB.out⟩
        · have e55 : a.tmps.getD 55 undef = .bool bb := RA.dep 20 _ (by kernel_rfl) rfl
          have e57 : a.tmps.getD 57 undef = .bool bb := RA.dep 22 _ (by kernel_rfl) rfl
          have e53 : a.tmps.getD 53 undef = .bool true := RA.dep 18 _ (by kernel_rfl) rfl
          cases ho
          refine wpOp_of2 rfl (wanted_yes rfl rfl e53) (wp_value (by go_simp; first | done | rfl) ⟨_, rfl, Below.refl _ _, rfl⟩)
        · have e53 : a.tmps.getD 53 undef = .bool true := RA.dep 18 _ (by kernel_rfl) rfl
          have e58 : a.tmps.getD 58 undef = .bool true := RA.dep 23 _ (by kernel_rfl) rfl
          cases ho
          refine wpOp_of rfl rfl (wp_value (by go_simp; first | done | rfl) ⟨_, rfl, Below.refl _ _, rfl⟩)
        · have e59 : a.tmps.getD 59 undef = .bool true := RA.dep 24 _ (by kernel_rfl) rfl
          cases ho
          refine wpOp_of rfl rfl (wp_value (by go_simp; first | done | rfl) ⟨_, rfl, Below.refl _ _, rfl⟩)
        · have e60 : a.tmps.getD 60 undef = .bool true := RA.dep 25 _ (by kernel_rfl) rfl
          cases ho
          refine wpOp_of2 rfl (wanted_yes rfl rfl e60) (wp_enter (by go_simp; first | done | rfl) (HW.out wr HO2.inn) ?_)
          rintro e w' ⟨rfl, hb⟩
          exact ⟨_, rfl, _, rfl, hb, rfl⟩
        · have e60 : a.tmps.getD 60 undef = .bool true := RA.dep 25 _ (by kernel_rfl) rfl
          have e61 : a.tmps.getD 61 undef = .bool true := RA.dep 26 _ (by kernel_rfl) rfl
          cases ho
          refine wpOp_of rfl rfl (wp_value (by go_simp; first | done | rfl) ⟨_, rfl, Below.refl _ _, rfl⟩)
        · have e62 : a.tmps.getD 62 undef = .bool true := RA.dep 27 _ (by kernel_rfl) rfl
          cases ho
          refine wpOp_of rfl rfl (wp_value (by go_simp; first | done | rfl) ⟨_, rfl, Below.refl _ _, rfl⟩)
      · intro win a wr E
        have e2 : a.tmps.getD 2 undef = .bool true := E.fact 28 _ (by omega) rfl
        obtain ⟨t, d⟩ := a
        obtain rfl : d = [] := E.defers
        refine wpAny_none (by kernel_rfl) (hX.out _ _ E.size ⟨?_, HO.out.dr.move E.below⟩) _
        simp only [List.map_cons, List.map_nil, e2]
    rintro z' vs w2 - ⟨rfl, hO⟩
    simp [litL, lk]
    have HO := Lib.hid hO
    clear hO
    go_wp2
    exact hR.out _ _ ⟨rfl, HO.out.below⟩
end Cl
namespace Go.Proofs.YtaolacbikbllcaaDoor.langLeasts
open Go Go.RowKit Go.Proofs Go.ChangeShapes Go.WideShapes Go.ChangeAt Cl

set_option maxRecDepth 100000 in
theorem contract (H : Type) (enc : TypeId × Value → H) (W : World) (base : Nat) (args : Array Value) (ds gs : List (DataW H)) (before : List MemPlace)
    (hval0 : ∀ (j : Nat) t v, Tryd.f5.params[j]? = some t → args[j]? = some v → Value.okWide Tryd.prog W .any base t v)
    (hW : DataW.Whole enc Tryd.prog Tryd.f5.params.toList Rows.langLeastsSpec.vars false W args.toList ds gs before) (hL : laidMetH Tryd.prog seatLaid W) :
    Calls Tryd.prog 5 args W fun e W' => ∃ v, e = .returned v ∧ Rows.langLeastsSpec.post enc Tryd.prog Tryd.f5 false true false false W args v W' := by
  have hval := hval0
  have hW' := hW
  obtain ⟨p, q, hA0, hV, rfl, hfz, hnd⟩ := hW
  have hA : DataW.TrodAll enc Tryd.prog W 0 (fun _ => true) true Tryd.f5.params.toList args.toList ds p := hA0
  rw [Tryd.params5] at hA hval
  obtain ⟨v0, d0, rfl, rfl, h0⟩ := trodAll_one hA
  obtain ⟨rfl, rfl⟩ := trodVars_none hV
  obtain ⟨u0, A0, rfl, hT0⟩ := lang_open (hval 0 _ _ rfl rfl) h0
  refine (LangLeasts_any u0 A0 (Mem.of W) W (Mem.of_inn W) (seat_tab hL) hT0 (fun w hw => awake_any (Mem.of W) w hw (seat_tab hL))).mono fun e W' ⟨he, hb⟩ => ?_
  subst he
  exact ⟨_, rfl, law_post rfl (by kernel_rfl) (by kernel_rfl) rfl hW' hb⟩

theorem laid_met (os : Os) : laidMet Tryd.prog Rows.langLeastsRow.laid ((laidWorld os).forCall (fun _ _ => 0) ⟨#[], #[.agg #[.slice none 0 0]], []⟩).memory :=
  laidMet_of_run' 8 (by kernel_rfl) (by kernel_rfl)
theorem reads (os : Os) {H : Type} (enc : TypeId × Value → H) : ∃ places, DataW.whole enc Tryd.prog ((laidWorld os).forCall (fun _ _ => 0) ⟨#[], #[.agg #[.slice none 0 0]], []⟩).memory Tryd.f5.params.toList Rows.langLeastsSpec.vars false #[Value.agg #[.slice none 0 0]].toList 8 = some ([.agg [.nil]], [], places) :=
  ⟨[], by kernel_rfl⟩

set_option maxRecDepth 100000 in
theorem lifted (os : Os) (started : os.Started) (H : Type) (enc : TypeId × Value → H) (F : Stop.Interp) :
    ReturnsInHanded {} Tryd.checked os 5 .any ((OpenSpec.ofChange Rows.langLeastsSpec).preRow enc Tryd.prog Tryd.f5 Rows.langLeastsRow.domain false Rows.langLeastsRow.laid) (((OpenSpec.ofChange Rows.langLeastsSpec).at F).post enc Tryd.prog Tryd.f5 false true false false) := by
  obtain ⟨places, hx⟩ := reads os enc
  refine returnsInHanded_of_row (C := Tryd.checked) (s := OpenSpec.ofChange Rows.langLeastsSpec) seat_own started (by kernel_rfl) Tryd.func5
    (witness_row_at (enc := enc) (C := Tryd.checked) false (laidWorld os) #[.agg #[.slice none 0 0]] rfl (by kernel_rfl) (by kernel_rfl) (by kernel_rfl)
      (OpenSpec.preRow_of_cond 8 hx (by kernel_rfl) (fun k hk => by cases hk) (by kernel_rfl) (laid_met os))) ?_
  intro W base args ds gs before hval hW _ _ _ hL _ _
  exact contract H enc W base args ds gs before hval hW hL

theorem said : Rows.LangLeastsSaid :=
  OpenClaim.holds_of_cond 5 Tryd.f5 rfl rfl rfl rfl rfl rfl rfl ⟨rfl, rfl, rfl, rfl, rfl⟩ rfl rfl rfl rfl rfl (by kernel_rfl) Tryd.func5 (by kernel_rfl)
    (of_decide_eq_true (by kernel_rfl)) (by unfold Func.isWrapper; first | (rw [if_pos (by decide +kernel)]; kernel_rfl) | (rw [if_neg (by decide +kernel)]; exact ⟨rfl, rfl⟩))
    (fun os started H enc _ F => by rw [OpenClaim.pre_eq_preRow]; exact lifted os started H enc F)

theorem plain (f : FuncId) (fn : Func) (hf : Tryd.pinned.checked.prog.funcNamed "configlang/configlanglaw06.LangLeasts" = some f) (hfn : Tryd.pinned.checked.prog.funcs[f]? = some fn) :
    false = Tryd.pinned.checked.prog.looks [] ∧ ∀ (j : Nat) t, fn.params[j]? = some t → Tryd.pinned.checked.prog.wantsStandIn t = false := by
  obtain rfl : f = 5 := Option.some.inj ((show Tryd.prog.funcNamed "configlang/configlanglaw06.LangLeasts" = some 5 by kernel_rfl).symm.trans hf) |>.symm
  obtain rfl : fn = Tryd.f5 := (Option.some.inj (Tryd.func5.symm.trans hfn)).symm
  refine ⟨by kernel_rfl, fun j t ht => ?_⟩
  have hall : Tryd.f5.params.all (fun t => !Tryd.prog.wantsStandIn t) = true := by kernel_rfl
  have := Array.all_eq_true_iff_forall_mem.1 hall t (Array.mem_of_getElem? ht)
  show Tryd.prog.wantsStandIn t = false
  simpa using this

theorem langLeasts_holds : Rows.LangLeastsCardSaid :=
  Claim7.holds_tied_plain_at .later [] _ _ _ _ said (fun _ h => by cases h) (by kernel_rfl) (fun _ h => by cases h) langLeasts_row_tie rfl ⟨rfl, rfl⟩ (by kernel_rfl) rfl plain (by kernel_rfl)
end Go.Proofs.YtaolacbikbllcaaDoor.langLeasts

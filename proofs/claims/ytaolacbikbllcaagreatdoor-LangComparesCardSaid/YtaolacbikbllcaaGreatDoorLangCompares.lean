/- LangCompares. For every input the law returns true, and each argument reads afterwards as it did before. Conditions: those of the row, none of ours. -/
import Derived.RegionTactic
import Derived.ChangeAlike
import Derived.Test.YtaolacbikbllcaaGreatDoorPkA2
import Derived.Test.YtaolacbikbllcaaGreatDoorPkA3
import Derived.Test.YtaolacbikbllcaaGreatDoorPkD1
import Derived.Test.YtaolacbikbllcaaGreatDoorPkA1
import Derived.Test.YtaolacbikbllcaaGreatDoorPkA6
import Derived.Test.YtaolacbikbllcaaGreatDoorPkA7
import Derived.Test.YtaolacbikbllcaaGreatDoorPkA8
import Derived.Test.YtaolacbikbllcaaGreatDoorPkC1
import Derived.Test.YtaolacbikbllcaaGreatDoorPkD3
import Derived.Test.YtaolacbikbllcaaGreatDoorPkC2
namespace Cl
open Go Go.RowKit Go.Proofs

set_option maxRecDepth 100000 in
set_option maxHeartbeats 16000000 in
theorem LangCompares_any (u0 u1 : Value) (A B : Table) (m : Mem) (w : World) (hm : m.inn w) (htab : TabM m) (hA : statesAt m u0 A) (hB : statesAt m u1 B)
    (haw : ∀ w, m.inn w → Calls Tryz.prog 8 #[] w fun e w' => e = .returned (.bool true) ∧ Below w.heap.size w w') :
    Calls Tryz.prog 6 #[.agg #[u0], .agg #[u1]] w fun e w' => e = .returned (.bool true) ∧ Below w.heap.size w w' := by
  have hO := ((Own.start hm).al #[u0] 24).al #[u1] 24
  have hsz0 : (w.alloc (.cells #[u0] 24)).heap.size = w.heap.size + 1 := by simp
  rw [hsz0] at hO
  have HO := Lib.hid hO
  have HA := Lib.hid hA
  have HB := Lib.hid hB
  have HT := Lib.hid htab
  have HW := Lib.hid haw
  have HM := Lib.hid hm
  clear hO hsz0 htab haw hm
  refine calls_hide fun R hR => ?_
  obtain ⟨vaa, vac, rfl, -⟩ := hA
  obtain ⟨vba, vbc, rfl, -⟩ := hB
  go_enter Tryz.func6, Tryz.ntmps6
  go_upto_region 1 with (fail)
  refine wp_cut_keep [2, 3, 12] (fun vs w' => ∃ c : Bool, vs = [.pointer (some ⟨w.heap.size, 0, none⟩), .pointer (some ⟨w.heap.size + 1, 0, none⟩), .bool c] ∧
    Own w m w' m [.obj (w.heap.size + 1) 24 #[.slice vba B.length vbc], .obj w.heap.size 24 #[.slice vaa A.length vac]] ∧ (c = false → SmallT A ∧ SmallT B)) ?_ ?_
  · intro X hX
    have c1 := HO.out.swap.obj.cell (i := 0) rfl
    have HB := Lib.hid (fun wr (hi : m.inn wr) => Small_any (.slice vaa A.length vac) A m wr hi HA.out)
    go_wp2_with fail
    refine (HB.out _ HO.out.inn).mono ?_
    rintro e w3 ⟨rfl, hb⟩
    have HO := Lib.hid (HO.out.move hb)
    clear HB hb c1
    by_cases h : SmallT A
    case neg =>
      rw [tf_false h]
      clear h
      go_wp2
      exact hX.out _ _ rfl ⟨true, rfl, HO.out, fun h => by cases h⟩
    rw [tf_true h]
    have HSA := Lib.hid h
    clear h
    have c1 := HO.out.obj.cell (i := 0) rfl
    have HB := Lib.hid (fun wr (hi : m.inn wr) => Small_any (.slice vba B.length vbc) B m wr hi HB.out)
    go_wp2_with fail
    refine (HB.out _ HO.out.inn).mono ?_
    rintro e w4 ⟨rfl, hb⟩
    have HO := Lib.hid (HO.out.move hb)
    clear HB hb c1
    by_cases h : SmallT B
    case neg =>
      rw [tf_false h]
      clear h
      go_wp2
      exact hX.out _ _ rfl ⟨true, rfl, HO.out, fun h => by cases h⟩
    rw [tf_true h]
    have HSB := Lib.hid h
    clear h
    go_wp2
    exact hX.out _ _ rfl ⟨false, rfl, HO.out, fun _ => ⟨HSA.out, HSB.out⟩⟩
  rintro z vs w1 - ⟨c, rfl, hO, hc⟩
  simp [litL, lk]
  clear HO
  cases c with
  | true =>
    have HO := Lib.hid hO
    clear hO hc
    go_wp2_with fail
    refine (HW.out _ HO.out.inn).mono ?_
    rintro e w2 ⟨rfl, hb⟩
    have HO := Lib.hid (HO.out.move hb)
    clear hb
    go_wp2
    exact hR.out _ _ ⟨rfl, HO.out.below⟩
  | false =>
    obtain ⟨hsA, hsB⟩ := hc rfl
    have HO := Lib.hid hO
    clear hO hc
    have hF : Fits A B := Fits.of hsA.2 hsB.2 (by decide)
    have hn1 : (A.length + 2) * (B.length + 2) ≤ 10 * 10 := Nat.mul_le_mul (by have := hsA.2; omega) (by have := hsB.2; omega)
    have hlA := hsA.2
    have hlB := hsB.2
    go_wp2
    refine wp_cut_keep [4] (fun vs w' => vs = [.bool true] ∧ Own w m w' m [.obj (w.heap.size + 1) 24 #[.slice vba B.length vbc], .obj w.heap.size 24 #[.slice vaa A.length vac]]) ?_ ?_
    · intro X hX
      refine wp_region_facts 11 5 (fun j => [Fact.is (· = .agg #[.slice vaa A.length vac]), Fact.is (· = .agg #[.slice vba B.length vbc]), Fact.is (fun v => ∃ c : Int, v = .int .i64 c ∧ CmpIs (Sem A) (Sem B) c), Fact.is (· = .agg #[.slice vaa A.length vac]), Fact.is (· = .agg #[.slice vba B.length vbc]), Fact.is (fun v => ∃ c : Int, v = .int .i64 c ∧ CmpIs (Sem A) (Sem B) c), Fact.is (· = .bool true), Fact.is (· = .bool true), Fact.is (· = .bool true), Fact.is (· = .bool true), Fact.is (· = .bool true)].getD j Fact.any) (by kernel_rfl) (by kernel_rfl) ?_ ?_
      · intro i hi o win a wr ho RA
        have HO2 := HO.out.dr.move RA.below
        have q0 := HO2.obj.cell (i := 0) rfl
        have q1 := HO2.swap.obj.cell (i := 0) rfl
        rcases (show i = 0 ∨ i = 1 ∨ i = 2 ∨ i = 3 ∨ i = 4 ∨ i = 5 ∨ i = 6 ∨ i = 7 ∨ i = 8 ∨ i = 9 ∨ i = 10 by omega) with rfl | rfl | rfl | rfl | rfl | rfl | rfl | rfl | rfl | rfl | rfl
        · have e2 := RA.keep 2 (by kernel_rfl)
          cases ho
          refine wpOp_of rfl rfl (wp_value (by go_simp; first | done | rfl) ⟨_, rfl, Below.refl _ _, rfl⟩)
        · have e3 := RA.keep 3 (by kernel_rfl)
          cases ho
          refine wpOp_of rfl rfl (wp_value (by go_simp; first | done | rfl) ⟨_, rfl, Below.refl _ _, rfl⟩)
        · have e14 : a.tmps.getD 14 undef = .agg #[.slice vaa A.length vac] := RA.dep 0 _ (by kernel_rfl) rfl
          have e15 : a.tmps.getD 15 undef = .agg #[.slice vba B.length vbc] := RA.dep 1 _ (by kernel_rfl) rfl
          cases ho
          refine wpOp_of rfl rfl (wp_enter (by go_simp; first | done | rfl) (langCompare_any (.slice vaa A.length vac) (.slice vba B.length vbc) A B m wr HO2.inn HT.out HA.out HB.out (by omega)) ?_)
          rintro e w' ⟨c, rfl, hb, hl⟩
          exact ⟨_, rfl, _, rfl, hb, c, rfl, hl⟩
        · have e2 := RA.keep 2 (by kernel_rfl)
          cases ho
          refine wpOp_of rfl rfl (wp_value (by go_simp; first | done | rfl) ⟨_, rfl, Below.refl _ _, rfl⟩)
        · have e3 := RA.keep 3 (by kernel_rfl)
          cases ho
          refine wpOp_of rfl rfl (wp_value (by go_simp; first | done | rfl) ⟨_, rfl, Below.refl _ _, rfl⟩)
        · have e17 : a.tmps.getD 17 undef = .agg #[.slice vaa A.length vac] := RA.dep 3 _ (by kernel_rfl) rfl
          have e18 : a.tmps.getD 18 undef = .agg #[.slice vba B.length vbc] := RA.dep 4 _ (by kernel_rfl) rfl
          cases ho
          refine wpOp_of rfl rfl (wp_enter (by go_simp; first | done | rfl) (r06Compare_any (.slice vaa A.length vac) (.slice vba B.length vbc) A B m wr HO2.inn HA.out HB.out (by omega)) ?_)
          rintro e w' ⟨c, rfl, hb, hl⟩
          exact ⟨_, rfl, _, rfl, hb, c, rfl, hl⟩
        · have e16 : (Fact.is (fun v => ∃ c : Int, v = .int .i64 c ∧ CmpIs (Sem A) (Sem B) c)).holds (a.tmps.getD 16 undef) win wr := RA.dep 2 _ (by kernel_rfl) rfl
          have e19 : (Fact.is (fun v => ∃ c : Int, v = .int .i64 c ∧ CmpIs (Sem A) (Sem B) c)).holds (a.tmps.getD 19 undef) win wr := RA.dep 5 _ (by kernel_rfl) rfl
          cases ho
          obtain ⟨c1, e16, h1⟩ : ∃ c : Int, _ = Value.int .i64 c ∧ _ := e16
          obtain ⟨c2, e19, h2⟩ : ∃ c : Int, _ = Value.int .i64 c ∧ _ := e19
          obtain rfl := cmp_unique h1 h2
          exact wpOp_of rfl rfl (wp_value (by go_simp; first | done | rfl) ⟨_, rfl, Below.refl _ _, rfl⟩)
        · have e20 : a.tmps.getD 20 undef = .bool true := RA.dep 6 _ (by kernel_rfl) rfl
          cases ho
          refine wpOp_of rfl rfl (wp_value (by go_simp; first | done | rfl) ⟨_, rfl, Below.refl _ _, rfl⟩)
        · have e21 : a.tmps.getD 21 undef = .bool true := RA.dep 7 _ (by kernel_rfl) rfl
          cases ho
          refine wpOp_of2 rfl (wanted_yes rfl rfl e21) (wp_enter (by go_simp; first | done | rfl) (HW.out wr HO2.inn) ?_)
          rintro e w' ⟨rfl, hb⟩
          exact ⟨_, rfl, _, rfl, hb, rfl⟩
        · have e21 : a.tmps.getD 21 undef = .bool true := RA.dep 7 _ (by kernel_rfl) rfl
          have e22 : a.tmps.getD 22 undef = .bool true := RA.dep 8 _ (by kernel_rfl) rfl
          cases ho
          refine wpOp_of rfl rfl (wp_value (by go_simp; first | done | rfl) ⟨_, rfl, Below.refl _ _, rfl⟩)
        · have e23 : a.tmps.getD 23 undef = .bool true := RA.dep 9 _ (by kernel_rfl) rfl
          cases ho
          refine wpOp_of rfl rfl (wp_value (by go_simp; first | done | rfl) ⟨_, rfl, Below.refl _ _, rfl⟩)
      · intro win a wr E
        have e4 : a.tmps.getD 4 undef = .bool true := E.fact 10 _ (by omega) rfl
        obtain ⟨t, d⟩ := a
        obtain rfl : d = [] := E.defers
        refine wpAny_none (by kernel_rfl) (hX.out _ _ E.size ⟨?_, HO.out.dr.move E.below⟩) _
        simp only [List.map_cons, List.map_nil, e4]
    rintro z' vs w2 - ⟨rfl, hO⟩
    simp [litL, lk]
    have HO := Lib.hid hO
    clear hO
    go_wp2
    exact hR.out _ _ ⟨rfl, HO.out.below⟩
end Cl
namespace Go.Proofs.YtaolacbikbllcaaGreatDoor.langCompares
open Go Go.RowKit Go.Proofs Go.ChangeShapes Go.WideShapes Go.ChangeAt Cl

set_option maxRecDepth 100000 in
theorem contract (H : Type) (enc : TypeId × Value → H) (W : World) (base : Nat) (args : Array Value) (ds gs : List (DataW H)) (before : List MemPlace)
    (hval0 : ∀ (j : Nat) t v, Tryz.f6.params[j]? = some t → args[j]? = some v → Value.okWide Tryz.prog W .any base t v)
    (hW : DataW.Whole enc Tryz.prog Tryz.f6.params.toList Rows.langComparesSpec.vars false W args.toList ds gs before) (hL : laidMetH Tryz.prog seatLaid W) :
    Calls Tryz.prog 6 args W fun e W' => ∃ v, e = .returned v ∧ Rows.langComparesSpec.post enc Tryz.prog Tryz.f6 false true false false W args v W' := by
  have hval := hval0
  have hW' := hW
  obtain ⟨p, q, hA0, hV, rfl, hfz, hnd⟩ := hW
  have hA : DataW.TrodAll enc Tryz.prog W 0 (fun _ => true) true Tryz.f6.params.toList args.toList ds p := hA0
  rw [Tryz.params6] at hA hval
  obtain ⟨v0, v1, d0, d1, p0, p1, rfl, rfl, rfl, h0, h1⟩ := trodAll_two hA
  obtain ⟨rfl, rfl⟩ := trodVars_none hV
  obtain ⟨u0, A0, rfl, hT0⟩ := lang_open (hval 0 _ _ rfl rfl) h0
  obtain ⟨u1, A1, rfl, hT1⟩ := lang_open (hval 1 _ _ rfl rfl) h1
  refine (LangCompares_any u0 u1 A0 A1 (Mem.of W) W (Mem.of_inn W) (seat_tab hL) hT0 hT1 (fun w hw => awake_any (Mem.of W) w hw (seat_tab hL))).mono fun e W' ⟨he, hb⟩ => ?_
  subst he
  exact ⟨_, rfl, law_post rfl (by kernel_rfl) (by kernel_rfl) rfl hW' hb⟩

theorem laid_met (os : Os) : laidMet Tryz.prog Rows.langComparesRow.laid ((laidWorld os).forCall (fun _ _ => 0) ⟨#[], #[.agg #[.slice none 0 0], .agg #[.slice none 0 0]], []⟩).memory :=
  laidMet_of_run' 8 (by kernel_rfl) (by kernel_rfl)
theorem reads (os : Os) {H : Type} (enc : TypeId × Value → H) : ∃ places, DataW.whole enc Tryz.prog ((laidWorld os).forCall (fun _ _ => 0) ⟨#[], #[.agg #[.slice none 0 0], .agg #[.slice none 0 0]], []⟩).memory Tryz.f6.params.toList Rows.langComparesSpec.vars false #[Value.agg #[.slice none 0 0], Value.agg #[.slice none 0 0]].toList 8 = some ([.agg [.nil], .agg [.nil]], [], places) :=
  ⟨[], by kernel_rfl⟩

set_option maxRecDepth 100000 in
theorem lifted (os : Os) (started : os.Started) (H : Type) (enc : TypeId × Value → H) (F : Stop.Interp) :
    ReturnsInHanded {} Tryz.checked os 6 .any ((OpenSpec.ofChange Rows.langComparesSpec).preRow enc Tryz.prog Tryz.f6 Rows.langComparesRow.domain false Rows.langComparesRow.laid) (((OpenSpec.ofChange Rows.langComparesSpec).at F).post enc Tryz.prog Tryz.f6 false true false false) := by
  obtain ⟨places, hx⟩ := reads os enc
  refine returnsInHanded_of_row (C := Tryz.checked) (s := OpenSpec.ofChange Rows.langComparesSpec) seat_own started (by kernel_rfl) Tryz.func6
    (witness_row_at (enc := enc) (C := Tryz.checked) false (laidWorld os) #[.agg #[.slice none 0 0], .agg #[.slice none 0 0]] rfl (by kernel_rfl) (by kernel_rfl) (by kernel_rfl)
      (OpenSpec.preRow_of_cond 8 hx (by kernel_rfl) (fun k hk => by cases hk) (by kernel_rfl) (laid_met os))) ?_
  intro W base args ds gs before hval hW _ _ _ hL _ _
  exact contract H enc W base args ds gs before hval hW hL

theorem said : Rows.LangComparesSaid :=
  OpenClaim.holds_of_cond 6 Tryz.f6 rfl rfl rfl rfl rfl rfl rfl ⟨rfl, rfl, rfl, rfl, rfl⟩ rfl rfl rfl rfl rfl (by kernel_rfl) Tryz.func6 (by kernel_rfl)
    (of_decide_eq_true (by kernel_rfl)) (by unfold Func.isWrapper; first | (rw [if_pos (by decide +kernel)]; kernel_rfl) | (rw [if_neg (by decide +kernel)]; exact ⟨rfl, rfl⟩))
    (fun os started H enc _ F => by rw [OpenClaim.pre_eq_preRow]; exact lifted os started H enc F)

theorem plain (f : FuncId) (fn : Func) (hf : Tryz.pinned.checked.prog.funcNamed "configlang/configlanglaw06.LangCompares" = some f) (hfn : Tryz.pinned.checked.prog.funcs[f]? = some fn) :
    false = Tryz.pinned.checked.prog.looks [] ∧ ∀ (j : Nat) t, fn.params[j]? = some t → Tryz.pinned.checked.prog.wantsStandIn t = false := by
  obtain rfl : f = 6 := Option.some.inj ((show Tryz.prog.funcNamed "configlang/configlanglaw06.LangCompares" = some 6 by kernel_rfl).symm.trans hf) |>.symm
  obtain rfl : fn = Tryz.f6 := (Option.some.inj (Tryz.func6.symm.trans hfn)).symm
  refine ⟨by kernel_rfl, fun j t ht => ?_⟩
  have hall : Tryz.f6.params.all (fun t => !Tryz.prog.wantsStandIn t) = true := by kernel_rfl
  have := Array.all_eq_true_iff_forall_mem.1 hall t (Array.mem_of_getElem? ht)
  show Tryz.prog.wantsStandIn t = false
  simpa using this

theorem langCompares_holds : Rows.LangComparesCardSaid :=
  Claim7.holds_tied_plain_at .later [] _ _ _ _ said (fun _ h => by cases h) (by kernel_rfl) (fun _ h => by cases h) langCompares_row_tie rfl ⟨rfl, rfl⟩ (by kernel_rfl) rfl plain (by kernel_rfl)
end Go.Proofs.YtaolacbikbllcaaGreatDoor.langCompares

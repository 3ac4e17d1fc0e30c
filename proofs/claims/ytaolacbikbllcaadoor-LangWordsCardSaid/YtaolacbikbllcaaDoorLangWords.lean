/- LangWords. For every input the law returns true, and each argument reads afterwards as it did before. Conditions: those of the row, none of ours. -/
import Derived.RegionTactic
import Derived.ChangeAlike
import Derived.Test.YtaolacbikbllcaaDoorPkA2
import Derived.Test.YtaolacbikbllcaaDoorPkA3
import Derived.Test.YtaolacbikbllcaaDoorPkB1
import Derived.Test.YtaolacbikbllcaaDoorPkA1
import Derived.Test.YtaolacbikbllcaaDoorPkA6
import Derived.Test.YtaolacbikbllcaaDoorPkA7
import Derived.Test.YtaolacbikbllcaaDoorPkA8
import Derived.Test.YtaolacbikbllcaaDoorPkA10
import Derived.Test.YtaolacbikbllcaaDoorPkD1
import Derived.Test.YtaolacbikbllcaaDoorPkA5
import Derived.Test.YtaolacbikbllcaaDoorPkC2
namespace Cl
open Go Go.RowKit Go.Proofs

def WordsV (f : List UInt8 → Bool) (k : Nat) (M : Mem) (v : Value) : Prop := ∃ ws, strsAt M v (List.map bstr ws) ∧ IsFirst f k ws
theorem wordsV_mk {m : Mem} {w w' : World} {win : Win} {i : Nat} {f : List UInt8 → Bool} {k : Nat} {r : Value} {ws : List (List UInt8)} (hm : m.inn w) (hb : Below w.heap.size w w') (hst : strsAt (m.grow w w') r (List.map bstr ws)) (hl : IsFirst f k ws) :
    WordsV f k (m.wins w' (win.put i (w.heap.size, w'.heap.size)) [i]) r := ⟨ws, strsAt_le (Mem.grow_wins0 hm win i hb) hst, hl⟩

set_option maxRecDepth 100000 in
set_option maxHeartbeats 16000000 in
theorem LangWords_any (u0 : Value) (A : Table) (n : Int) (m : Mem) (w : World) (hm : m.inn w) (htab : TabM m) (hA : statesAt m u0 A) (hn : -9223372036854775808 ≤ n ∧ n ≤ 9223372036854775807)
    (haw : ∀ w, m.inn w → Calls Tryd.prog 11 #[] w fun e w' => e = .returned (.bool true) ∧ Below w.heap.size w w') :
    Calls Tryd.prog 4 #[.agg #[u0], .int .i64 n] w fun e w' => e = .returned (.bool true) ∧ Below w.heap.size w w' := by
  have hO := (Own.start hm).al #[u0] 24
  have HO := Lib.hid hO
  have HA := Lib.hid hA
  have HT := Lib.hid htab
  have HW := Lib.hid haw
  have HM := Lib.hid hm
  clear hO  htab haw hm
  refine calls_hide fun R hR => ?_
  obtain ⟨vaa, vac, rfl, -⟩ := hA
  go_enter Tryd.func4, Tryd.ntmps4
  go_upto_region 1 with (fail)
  refine wp_cut_keep [1, 2, 11] (fun vs w' => ∃ c : Bool, vs = [.int .i64 n, .pointer (some ⟨w.heap.size, 0, none⟩), .bool c] ∧
    Own w m w' m [.obj w.heap.size 24 #[.slice vaa A.length vac]] ∧ (c = false → SmallT A ∧ n ≤ 40)) ?_ ?_
  · intro X hX
    have c1 := HO.out.obj.cell (i := 0) rfl
    have HB := Lib.hid (fun wr (hi : m.inn wr) => Small_any (.slice vaa A.length vac) A m wr hi HA.out)
    go_wp2_with fail
    refine (HB.out _ HO.out.inn).mono ?_
    rintro e w3 ⟨rfl, hb⟩
    have HO := Lib.hid (HO.out.move hb)
    clear HB hb c1
    by_cases h : SmallT A
    case neg =>
      rw [tf_false h]
      clear h
      go_wp2
      exact hX.out _ _ rfl ⟨true, rfl, HO.out, fun h => by cases h⟩
    rw [tf_true h]
    have HSA := Lib.hid h
    clear h
    by_cases h : n ≤ 40
    case neg =>
      have hd : decide (40 < n) = true := by simp; omega
      clear h
      go_wp2
      exact hX.out _ _ rfl ⟨true, rfl, HO.out, fun h => by cases h⟩
    have hdn : decide (40 < n) = false := by simp; omega
    have HKn := Lib.hid h
    clear h
    go_wp2
    exact hX.out _ _ rfl ⟨false, rfl, HO.out, fun _ => ⟨HSA.out, HKn.out⟩⟩
  rintro z vs w1 - ⟨c, rfl, hO, hc⟩
  simp [litL, lk]
  clear HO
  cases c with
  | true =>
    have HO := Lib.hid hO
    clear hO hc
    go_wp2_with fail
    refine (HW.out _ HO.out.inn).mono ?_
    rintro e w2 ⟨rfl, hb⟩
    have HO := Lib.hid (HO.out.move hb)
    clear hb
    go_wp2
    exact hR.out _ _ ⟨rfl, HO.out.below⟩
  | false =>
    obtain ⟨hsA, hkn⟩ := hc rfl
    have HO := Lib.hid hO
    clear hO hc
    have hlA := hsA.2
    have hw1 : want1 n ≤ 40 := by unfold want1; omega
    have hk1 : (want1 n + 1) * (A.length + 1) ≤ 41 * 9 := Nat.mul_le_mul (by omega) (by omega)
    have hk2 : (A.length + 1) * (want1 n + 1) ≤ 9 * 41 := Nat.mul_le_mul (by omega) (by omega)
    go_wp2
    refine wp_cut_keep [4] (fun vs w' => vs = [.bool true] ∧ Own w m w' m [.obj w.heap.size 24 #[.slice vaa A.length vac]]) ?_ ?_
    · intro X hX
      refine wp_region_facts 11 5 (fun j => [Fact.is (· = .agg #[.slice vaa A.length vac]), Fact.is (· = .int .i64 n), Fact.mem m [2] (WordsV (Sem A) (want1 n)), Fact.is (· = .agg #[.slice vaa A.length vac]), Fact.is (· = .int .i64 n), Fact.mem m [5] (WordsV (Sem A) (want1 n)), Fact.is (· = .bool true), Fact.is (· = .bool true), Fact.is (· = .bool true), Fact.is (· = .bool true), Fact.is (· = .bool true)].getD j Fact.any) (by kernel_rfl) (by kernel_rfl) ?_ ?_
      · intro i hi o win a wr ho RA
        have HO2 := HO.out.dr.move RA.below
        have q0 := HO2.obj.cell (i := 0) rfl
        rcases (show i = 0 ∨ i = 1 ∨ i = 2 ∨ i = 3 ∨ i = 4 ∨ i = 5 ∨ i = 6 ∨ i = 7 ∨ i = 8 ∨ i = 9 ∨ i = 10 by omega) with rfl | rfl | rfl | rfl | rfl | rfl | rfl | rfl | rfl | rfl | rfl
        · have e2 := RA.keep 2 (by kernel_rfl)
          cases ho
          refine wpOp_of rfl rfl (wp_value (by go_simp; first | done | rfl) ⟨_, rfl, Below.refl _ _, rfl⟩)
        · have e1 := RA.keep 1 (by kernel_rfl)
          cases ho
          refine wpOp_of rfl rfl (wp_value (by go_simp; first | done | rfl) ⟨_, rfl, Below.refl _ _, rfl⟩)
        · have e13 : a.tmps.getD 13 undef = .agg #[.slice vaa A.length vac] := RA.dep 0 _ (by kernel_rfl) rfl
          have e14 : a.tmps.getD 14 undef = .int .i64 n := RA.dep 1 _ (by kernel_rfl) rfl
          cases ho
          refine wpOp_of rfl rfl (wp_enter (by go_simp; first | done | rfl) (langWords_any (.slice vaa A.length vac) A n m wr HO2.inn HT.out HA.out hn.1 hn.2 (by omega)) ?_)
          rintro e w' ⟨r, ws, rfl, hb, hst, hl⟩
          exact ⟨_, rfl, _, rfl, hb, wordsV_mk HO2.inn hb hst hl⟩
        · have e2 := RA.keep 2 (by kernel_rfl)
          cases ho
          refine wpOp_of rfl rfl (wp_value (by go_simp; first | done | rfl) ⟨_, rfl, Below.refl _ _, rfl⟩)
        · have e1 := RA.keep 1 (by kernel_rfl)
          cases ho
          refine wpOp_of rfl rfl (wp_value (by go_simp; first | done | rfl) ⟨_, rfl, Below.refl _ _, rfl⟩)
        · have e16 : a.tmps.getD 16 undef = .agg #[.slice vaa A.length vac] := RA.dep 3 _ (by kernel_rfl) rfl
          have e17 : a.tmps.getD 17 undef = .int .i64 n := RA.dep 4 _ (by kernel_rfl) rfl
          cases ho
          refine wpOp_of rfl rfl (wp_enter (by go_simp; first | done | rfl) (r06Words_any (.slice vaa A.length vac) A n m wr HO2.inn HA.out hn.1 hn.2 (by omega) (by omega)) ?_)
          rintro e w' ⟨r, ws, rfl, hb, hst, hl⟩
          exact ⟨_, rfl, _, rfl, hb, wordsV_mk HO2.inn hb hst hl⟩
        · have e15 : (Fact.mem m [2] (WordsV (Sem A) (want1 n))).holds (a.tmps.getD 15 undef) win wr := RA.dep 2 _ (by kernel_rfl) rfl
          have e18 : (Fact.mem m [5] (WordsV (Sem A) (want1 n))).holds (a.tmps.getD 18 undef) win wr := RA.dep 5 _ (by kernel_rfl) rfl
          cases ho
          obtain ⟨x1, s1, l1⟩ : WordsV _ _ _ _ := e15
          obtain ⟨x2, s2, l2⟩ : WordsV _ _ _ _ := e18
          obtain rfl := first_unique l1 l2
          have s1 := strsAt_le (Mem.wins_le (es := [2, 5]) HO2.inn win (by simp)) s1
          have s2 := strsAt_le (Mem.wins_le (es := [2, 5]) HO2.inn win (by simp)) s2
          refine wpOp_of rfl rfl (wp_enter (by go_simp; first | done | rfl) (Texts_any _ _ (List.map bstr x1) (List.map bstr x1) _ wr (Mem.wins_inn HO2.inn win [2, 5]) s1 s2) ?_)
          rintro e w' ⟨rfl, hb⟩
          exact ⟨_, rfl, _, rfl, hb, congrArg Value.bool (tf_true rfl)⟩
        · have e19 : a.tmps.getD 19 undef = .bool true := RA.dep 6 _ (by kernel_rfl) rfl
          cases ho
          refine wpOp_of rfl rfl (wp_value (by go_simp; first | done | rfl) ⟨_, rfl, Below.refl _ _, rfl⟩)
        · have e20 : a.tmps.getD 20 undef = .bool true := RA.dep 7 _ (by kernel_rfl) rfl
          cases ho
          refine wpOp_of2 rfl (wanted_yes rfl rfl e20) (wp_enter (by go_simp; first | done | rfl) (HW.out wr HO2.inn) ?_)
          rintro e w' ⟨rfl, hb⟩
          exact ⟨_, rfl, _, rfl, hb, rfl⟩
        · have e20 : a.tmps.getD 20 undef = .bool true := RA.dep 7 _ (by kernel_rfl) rfl
          have e21 : a.tmps.getD 21 undef = .bool true := RA.dep 8 _ (by kernel_rfl) rfl
          cases ho
          refine wpOp_of rfl rfl (wp_value (by go_simp; first | done | rfl) ⟨_, rfl, Below.refl _ _, rfl⟩)
        · have e22 : a.tmps.getD 22 undef = .bool true := RA.dep 9 _ (by kernel_rfl) rfl
          cases ho
          refine wpOp_of rfl rfl (wp_value (by go_simp; first | done | rfl) ⟨_, rfl, Below.refl _ _, rfl⟩)
      · intro win a wr E
        have e4 : a.tmps.getD 4 undef = .bool true := E.fact 10 _ (by omega) rfl
        obtain ⟨t, d⟩ := a
        obtain rfl : d = [] := E.defers
        refine wpAny_none (by kernel_rfl) (hX.out _ _ E.size ⟨?_, HO.out.dr.move E.below⟩) _
        simp only [List.map_cons, List.map_nil, e4]
    rintro z' vs w2 - ⟨rfl, hO⟩
    simp [litL, lk]
    have HO := Lib.hid hO
    clear hO
    go_wp2
    exact hR.out _ _ ⟨rfl, HO.out.below⟩
end Cl
namespace Go.Proofs.YtaolacbikbllcaaDoor.langWords
open Go Go.RowKit Go.Proofs Go.ChangeShapes Go.WideShapes Go.ChangeAt Cl

set_option maxRecDepth 100000 in
theorem contract (H : Type) (enc : TypeId × Value → H) (W : World) (base : Nat) (args : Array Value) (ds gs : List (DataW H)) (before : List MemPlace)
    (hval0 : ∀ (j : Nat) t v, Tryd.f4.params[j]? = some t → args[j]? = some v → Value.okWide Tryd.prog W .any base t v)
    (hW : DataW.Whole enc Tryd.prog Tryd.f4.params.toList Rows.langWordsSpec.vars false W args.toList ds gs before) (hL : laidMetH Tryd.prog seatLaid W) :
    Calls Tryd.prog 4 args W fun e W' => ∃ v, e = .returned v ∧ Rows.langWordsSpec.post enc Tryd.prog Tryd.f4 false true false false W args v W' := by
  have hval := hval0
  have hW' := hW
  obtain ⟨p, q, hA0, hV, rfl, hfz, hnd⟩ := hW
  have hA : DataW.TrodAll enc Tryd.prog W 0 (fun _ => true) true Tryd.f4.params.toList args.toList ds p := hA0
  rw [Tryd.params4] at hA hval
  obtain ⟨v0, v1, d0, d1, p0, p1, rfl, rfl, rfl, h0, h1⟩ := trodAll_two hA
  obtain ⟨rfl, rfl⟩ := trodVars_none hV
  obtain ⟨u0, A0, rfl, hT0⟩ := lang_open (hval 0 _ _ rfl rfl) h0
  obtain ⟨n1, rfl, -, -, hn1'⟩ := open_int Tryd.underlying3 (hval 1 _ _ rfl rfl) h1
  have hn1 : -9223372036854775808 ≤ n1 ∧ n1 ≤ 9223372036854775807 := by have h := hn1'; simp only [Lit.wf, Bool.and_eq_true, decide_eq_true_eq] at h; exact h
  refine (LangWords_any u0 A0 n1 (Mem.of W) W (Mem.of_inn W) (seat_tab hL) hT0 hn1 (fun w hw => awake_any (Mem.of W) w hw (seat_tab hL))).mono fun e W' ⟨he, hb⟩ => ?_
  subst he
  exact ⟨_, rfl, law_post rfl (by kernel_rfl) (by kernel_rfl) rfl hW' hb⟩

theorem laid_met (os : Os) : laidMet Tryd.prog Rows.langWordsRow.laid ((laidWorld os).forCall (fun _ _ => 0) ⟨#[], #[.agg #[.slice none 0 0], .int .i64 0], []⟩).memory :=
  laidMet_of_run' 8 (by kernel_rfl) (by kernel_rfl)
theorem reads (os : Os) {H : Type} (enc : TypeId × Value → H) : ∃ places, DataW.whole enc Tryd.prog ((laidWorld os).forCall (fun _ _ => 0) ⟨#[], #[.agg #[.slice none 0 0], .int .i64 0], []⟩).memory Tryd.f4.params.toList Rows.langWordsSpec.vars false #[Value.agg #[.slice none 0 0], Value.int .i64 0].toList 8 = some ([.agg [.nil], .lit (.int .i64 0)], [], places) :=
  ⟨[], by kernel_rfl⟩

set_option maxRecDepth 100000 in
theorem lifted (os : Os) (started : os.Started) (H : Type) (enc : TypeId × Value → H) (F : Stop.Interp) :
    ReturnsInHanded {} Tryd.checked os 4 .any ((OpenSpec.ofChange Rows.langWordsSpec).preRow enc Tryd.prog Tryd.f4 Rows.langWordsRow.domain false Rows.langWordsRow.laid) (((OpenSpec.ofChange Rows.langWordsSpec).at F).post enc Tryd.prog Tryd.f4 false true false false) := by
  obtain ⟨places, hx⟩ := reads os enc
  refine returnsInHanded_of_row (C := Tryd.checked) (s := OpenSpec.ofChange Rows.langWordsSpec) seat_own started (by kernel_rfl) Tryd.func4
    (witness_row_at (enc := enc) (C := Tryd.checked) false (laidWorld os) #[.agg #[.slice none 0 0], .int .i64 0] rfl (by kernel_rfl) (by kernel_rfl) (by kernel_rfl)
      (OpenSpec.preRow_of_cond 8 hx (by kernel_rfl) (fun k hk => by cases hk) (by kernel_rfl) (laid_met os))) ?_
  intro W base args ds gs before hval hW _ _ _ hL _ _
  exact contract H enc W base args ds gs before hval hW hL

theorem said : Rows.LangWordsSaid :=
  OpenClaim.holds_of_cond 4 Tryd.f4 rfl rfl rfl rfl rfl rfl rfl ⟨rfl, rfl, rfl, rfl, rfl⟩ rfl rfl rfl rfl rfl (by kernel_rfl) Tryd.func4 (by kernel_rfl)
    (of_decide_eq_true (by kernel_rfl)) (by unfold Func.isWrapper; first | (rw [if_pos (by decide +kernel)]; kernel_rfl) | (rw [if_neg (by decide +kernel)]; exact ⟨rfl, rfl⟩))
    (fun os started H enc _ F => by rw [OpenClaim.pre_eq_preRow]; exact lifted os started H enc F)

theorem plain (f : FuncId) (fn : Func) (hf : Tryd.pinned.checked.prog.funcNamed "configlang/configlanglaw06.LangWords" = some f) (hfn : Tryd.pinned.checked.prog.funcs[f]? = some fn) :
    false = Tryd.pinned.checked.prog.looks [] ∧ ∀ (j : Nat) t, fn.params[j]? = some t → Tryd.pinned.checked.prog.wantsStandIn t = false := by
  obtain rfl : f = 4 := Option.some.inj ((show Tryd.prog.funcNamed "configlang/configlanglaw06.LangWords" = some 4 by kernel_rfl).symm.trans hf) |>.symm
  obtain rfl : fn = Tryd.f4 := (Option.some.inj (Tryd.func4.symm.trans hfn)).symm
  refine ⟨by kernel_rfl, fun j t ht => ?_⟩
  have hall : Tryd.f4.params.all (fun t => !Tryd.prog.wantsStandIn t) = true := by kernel_rfl
  have := Array.all_eq_true_iff_forall_mem.1 hall t (Array.mem_of_getElem? ht)
  show Tryd.prog.wantsStandIn t = false
  simpa using this

theorem langWords_holds : Rows.LangWordsCardSaid :=
  Claim7.holds_tied_plain_at .later [] _ _ _ _ said (fun _ h => by cases h) (by kernel_rfl) (fun _ h => by cases h) langWords_row_tie rfl ⟨rfl, rfl⟩ (by kernel_rfl) rfl plain (by kernel_rfl)
end Go.Proofs.YtaolacbikbllcaaDoor.langWords

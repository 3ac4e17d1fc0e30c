/- LangBounds. For every input the law returns true, and each argument reads afterwards as it did before. Conditions: those of the row, none of ours. -/
import Derived.RegionTactic
import Derived.ChangeAlike
import Derived.Test.YtaolacbikbllcaaGreatDoorPkA2
import Derived.Test.YtaolacbikbllcaaGreatDoorPkA3
import Derived.Test.YtaolacbikbllcaaGreatDoorPkA1
import Derived.Test.YtaolacbikbllcaaGreatDoorPkA6
import Derived.Test.YtaolacbikbllcaaGreatDoorPkA7
import Derived.Test.YtaolacbikbllcaaGreatDoorPkC1
import Derived.Test.YtaolacbikbllcaaGreatDoorPkD3
import Derived.Test.YtaolacbikbllcaaGreatDoorPkD1
import Derived.Test.YtaolacbikbllcaaGreatDoorPkC2
namespace Cl
open Go Go.RowKit Go.Proofs

set_option maxRecDepth 100000 in
set_option maxHeartbeats 8000000 in
theorem LangBounds_any (op s : ByteArray) (m : Mem) (w : World) (hm : m.inn w) (htab : TabM m) (hop0 : op.size ≤ maxLen) (hs0 : s.size ≤ maxLen)
    (haw : ∀ w, m.inn w → Calls Tryz.prog 8 #[] w fun e w' => e = .returned (.bool true) ∧ Below w.heap.size w w') :
    Calls Tryz.prog 5 #[.string op, .string s] w fun e w' => e = .returned (.bool true) ∧ Below w.heap.size w w' := by
  have HO := Lib.hid (Own.start hm)
  have HT := Lib.hid htab
  have HW := Lib.hid haw
  clear htab haw hm
  refine calls_hide fun R hR => ?_
  unfold maxLen at hop0 hs0
  go_enter Tryz.func5, Tryz.ntmps5
  go_upto_region 1 with (fail)
  refine wp_cut_keep [0, 1, 16] (fun vs w' => ∃ c : Bool, vs = [.string op, .string s, .bool c] ∧ Own w m w' m [] ∧ (c = false → op.size ≤ 20 ∧ s.size ≤ 12)) ?_ ?_
  · intro X hX
    by_cases h : s.size ≤ 12
    case neg =>
      have hd : decide (12 < (s.size : Int)) = true := by simp; omega
      clear h
      go_wp2
      exact hX.out _ _ rfl ⟨true, rfl, HO.out, fun h => by cases h⟩
    have hds : decide (12 < (s.size : Int)) = false := by simp; omega
    have H1 := Lib.hid h
    clear h
    by_cases h : op.size ≤ 20
    case neg =>
      have hd : decide (20 < (op.size : Int)) = true := by simp; omega
      clear h
      go_wp2
      exact hX.out _ _ rfl ⟨true, rfl, HO.out, fun h => by cases h⟩
    have hdo : decide (20 < (op.size : Int)) = false := by simp; omega
    have H2 := Lib.hid h
    clear h
    go_wp2
    exact hX.out _ _ rfl ⟨false, rfl, HO.out, fun _ => ⟨H2.out, H1.out⟩⟩
  rintro z vs w1 - ⟨c, rfl, hO, hc⟩
  simp [litL, lk]
  clear HO
  cases c with
  | true =>
    have HO := Lib.hid hO
    clear hO hc
    go_wp2_with fail
    refine (HW.out _ HO.out.inn).mono ?_
    rintro e w2 ⟨rfl, hb⟩
    have HO := Lib.hid (HO.out.move hb)
    clear hb
    go_wp2
    exact hR.out _ _ ⟨rfl, HO.out.below⟩
  | false =>
    obtain ⟨h1, h2⟩ := hc rfl
    have HO := Lib.hid hO
    clear hO hc
    have HL := Lib.hid (fun mr wr (hi : mr.inn wr) (hle : m.le mr) => langBound_any op s mr wr hi (HT.out.le hle) (by omega) (by omega))
    have HQ := Lib.hid (fun mr wr (hi : mr.inn wr) => r06Bound_any op s mr wr hi (by omega) (by omega))
    generalize boundF op.toList s.data.toList = bf at HL HQ
    obtain ⟨ec, hec⟩ : ∃ c : Int, (if bf.isSome then 0 else 8 : Int) = c := ⟨_, rfl⟩
    rw [hec] at HL HQ
    clear hec h1 h2
    go_wp2_with fail
    refine (HL.out m _ HO.out.inn (Mem.le_refl _)).mono ?_
    rintro e w3 ⟨r, C1, rfl, hb, s1, l1, n1, -⟩
    obtain ⟨x1, y1, rfl⟩ : ∃ x y, r = .slice x C1.length y := by obtain ⟨x, y, e, -⟩ := s1; exact ⟨x, y, e⟩
    have hO := HO.out.call hb
    have hle := Mem.le_grow (w := w3) HO.out.inn
    generalize m.grow w1 w3 = m3 at *
    clear HO hb
    have HO := Lib.hid (hO.al #[.slice x1 C1.length y1] 24)
    have HK := Lib.hid (And.intro hle (And.intro s1 (And.intro l1 n1)))
    clear hO hle s1 l1 n1 HL
    go_wp2_with fail
    refine (HQ.out m3 _ HO.out.inn).mono ?_
    rintro e w4 ⟨r, C2, rfl, hb, s2, l2, n2, -⟩
    obtain ⟨x2, y2, rfl⟩ : ∃ x y, r = .slice x C2.length y := by obtain ⟨x, y, e, -⟩ := s2; exact ⟨x, y, e⟩
    have hO := HO.out.call hb
    have hle := Mem.le_grow (w := w4) HO.out.inn
    generalize m3.grow _ w4 = m4 at *
    clear HO hb HQ
    have hC : C1 = C2 := by
      cases bf with
      | none => rw [HK.out.2.2.2 rfl, n2 rfl]
      | some f => exact lang_unique (HK.out.2.2.1 f rfl) (l2 f rfl)
    subst hC
    have s1 := statesAt_le hle HK.out.2.1
    have hle := Mem.le_trans HK.out.1 hle
    have hO := hO.al #[.slice x2 C1.length y2] 24
    have HS := Lib.hid (fun wr (hi : m4.inn wr) => r05Same_any (.slice x1 C1.length y1) (.slice x2 C1.length y2) C1 C1 m4 wr hi s1 s2)
    have c1 := hO.obj.cell (i := 0) rfl
    have c2 := hO.swap.obj.cell (i := 0) rfl
    have HO := Lib.hid hO
    have HE := Lib.hid hle
    clear hO hle s1 s2 l2 n2 HK
    have hee : (ec == ec) = true := by simp
    go_wp2_with fail
    refine (HS.out _ HO.out.inn).mono ?_
    rintro e w5 ⟨rfl, hb⟩
    rw [tf_true True.intro]
    have HO := Lib.hid (HO.out.move hb)
    clear HS hb c1 c2
    go_wp2_with fail
    refine (HW.out _ (Mem.inn_le HE.out HO.out.inn)).mono ?_
    rintro e w6 ⟨rfl, hb⟩
    have HO := Lib.hid (HO.out.move hb)
    clear hb
    go_wp2
    exact hR.out _ _ ⟨rfl, HO.out.below⟩
end Cl
namespace Go.Proofs.YtaolacbikbllcaaGreatDoor.langBounds
open Go Go.RowKit Go.Proofs Go.ChangeShapes Go.WideShapes Go.ChangeAt Cl

set_option maxRecDepth 100000 in
theorem contract (H : Type) (enc : TypeId × Value → H) (W : World) (base : Nat) (args : Array Value) (ds gs : List (DataW H)) (before : List MemPlace)
    (hval0 : ∀ (j : Nat) t v, Tryz.f5.params[j]? = some t → args[j]? = some v → Value.okWide Tryz.prog W .any base t v)
    (hW : DataW.Whole enc Tryz.prog Tryz.f5.params.toList Rows.langBoundsSpec.vars false W args.toList ds gs before) (hL : laidMetH Tryz.prog seatLaid W) :
    Calls Tryz.prog 5 args W fun e W' => ∃ v, e = .returned v ∧ Rows.langBoundsSpec.post enc Tryz.prog Tryz.f5 false true false false W args v W' := by
  have hval := hval0
  have hW' := hW
  obtain ⟨p, q, hA0, hV, rfl, hfz, hnd⟩ := hW
  have hA : DataW.TrodAll enc Tryz.prog W 0 (fun _ => true) true Tryz.f5.params.toList args.toList ds p := hA0
  rw [Tryz.params5] at hA hval
  obtain ⟨v0, v1, d0, d1, p0, p1, rfl, rfl, rfl, h0, h1⟩ := trodAll_two hA
  obtain ⟨rfl, rfl⟩ := trodVars_none hV
  obtain ⟨s0, rfl, -, -, hs0⟩ := string_open (hval 0 _ _ rfl rfl) h0
  obtain ⟨s1, rfl, -, -, hs1⟩ := string_open (hval 1 _ _ rfl rfl) h1
  refine (LangBounds_any s0 s1 (Mem.of W) W (Mem.of_inn W) (seat_tab hL) hs0 hs1 (fun w hw => awake_any (Mem.of W) w hw (seat_tab hL))).mono fun e W' ⟨he, hb⟩ => ?_
  subst he
  exact ⟨_, rfl, law_post rfl (by kernel_rfl) (by kernel_rfl) rfl hW' hb⟩

theorem laid_met (os : Os) : laidMet Tryz.prog Rows.langBoundsRow.laid ((laidWorld os).forCall (fun _ _ => 0) ⟨#[], #[.string ⟨#[]⟩, .string ⟨#[]⟩], []⟩).memory :=
  laidMet_of_run' 8 (by kernel_rfl) (by kernel_rfl)
theorem reads (os : Os) {H : Type} (enc : TypeId × Value → H) : ∃ places, DataW.whole enc Tryz.prog ((laidWorld os).forCall (fun _ _ => 0) ⟨#[], #[.string ⟨#[]⟩, .string ⟨#[]⟩], []⟩).memory Tryz.f5.params.toList Rows.langBoundsSpec.vars false #[Value.string ⟨#[]⟩, Value.string ⟨#[]⟩].toList 8 = some ([.lit (.string []), .lit (.string [])], [], places) :=
  ⟨[], by kernel_rfl⟩

set_option maxRecDepth 100000 in
theorem lifted (os : Os) (started : os.Started) (H : Type) (enc : TypeId × Value → H) (F : Stop.Interp) :
    ReturnsInHanded {} Tryz.checked os 5 .any ((OpenSpec.ofChange Rows.langBoundsSpec).preRow enc Tryz.prog Tryz.f5 Rows.langBoundsRow.domain false Rows.langBoundsRow.laid) (((OpenSpec.ofChange Rows.langBoundsSpec).at F).post enc Tryz.prog Tryz.f5 false true false false) := by
  obtain ⟨places, hx⟩ := reads os enc
  refine returnsInHanded_of_row (C := Tryz.checked) (s := OpenSpec.ofChange Rows.langBoundsSpec) seat_own started (by kernel_rfl) Tryz.func5
    (witness_row_at (enc := enc) (C := Tryz.checked) false (laidWorld os) #[.string ⟨#[]⟩, .string ⟨#[]⟩] rfl (by kernel_rfl) (by kernel_rfl) (by kernel_rfl)
      (OpenSpec.preRow_of_cond 8 hx (by kernel_rfl) (fun k hk => by cases hk) (by kernel_rfl) (laid_met os))) ?_
  intro W base args ds gs before hval hW _ _ _ hL _ _
  exact contract H enc W base args ds gs before hval hW hL

theorem said : Rows.LangBoundsSaid :=
  OpenClaim.holds_of_cond 5 Tryz.f5 rfl rfl rfl rfl rfl rfl rfl ⟨rfl, rfl, rfl, rfl, rfl⟩ rfl rfl rfl rfl rfl (by kernel_rfl) Tryz.func5 (by kernel_rfl)
    (of_decide_eq_true (by kernel_rfl)) (by unfold Func.isWrapper; first | (rw [if_pos (by decide +kernel)]; kernel_rfl) | (rw [if_neg (by decide +kernel)]; exact ⟨rfl, rfl⟩))
    (fun os started H enc _ F => by rw [OpenClaim.pre_eq_preRow]; exact lifted os started H enc F)

theorem plain (f : FuncId) (fn : Func) (hf : Tryz.pinned.checked.prog.funcNamed "configlang/configlanglaw06.LangBounds" = some f) (hfn : Tryz.pinned.checked.prog.funcs[f]? = some fn) :
    false = Tryz.pinned.checked.prog.looks [] ∧ ∀ (j : Nat) t, fn.params[j]? = some t → Tryz.pinned.checked.prog.wantsStandIn t = false := by
  obtain rfl : f = 5 := Option.some.inj ((show Tryz.prog.funcNamed "configlang/configlanglaw06.LangBounds" = some 5 by kernel_rfl).symm.trans hf) |>.symm
  obtain rfl : fn = Tryz.f5 := (Option.some.inj (Tryz.func5.symm.trans hfn)).symm
  refine ⟨by kernel_rfl, fun j t ht => ?_⟩
  have hall : Tryz.f5.params.all (fun t => !Tryz.prog.wantsStandIn t) = true := by kernel_rfl
  have := Array.all_eq_true_iff_forall_mem.1 hall t (Array.mem_of_getElem? ht)
  show Tryz.prog.wantsStandIn t = false
  simpa using this

theorem langBounds_holds : Rows.LangBoundsCardSaid :=
  Claim7.holds_tied_plain_at .later [] _ _ _ _ said (fun _ h => by cases h) (by kernel_rfl) (fun _ h => by cases h) langBounds_row_tie rfl ⟨rfl, rfl⟩ (by kernel_rfl) rfl plain (by kernel_rfl)
end Go.Proofs.YtaolacbikbllcaaGreatDoor.langBounds

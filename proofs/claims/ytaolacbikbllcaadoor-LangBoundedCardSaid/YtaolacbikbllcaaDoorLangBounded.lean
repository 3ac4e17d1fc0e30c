/- LangBounded. For every input the law returns true, and each argument reads afterwards as it did before. Conditions: those of the row, none of ours. -/
import Derived.RegionTactic
import Derived.ChangeAlike
import Derived.Test.YtaolacbikbllcaaDoorPkA2
import Derived.Test.YtaolacbikbllcaaDoorPkA3
import Derived.Test.YtaolacbikbllcaaDoorPkB1
import Derived.Test.YtaolacbikbllcaaDoorPkA1
import Derived.Test.YtaolacbikbllcaaDoorPkA7
import Derived.Test.YtaolacbikbllcaaDoorPkC1
import Derived.Test.YtaolacbikbllcaaDoorPkC2
namespace Cl
open Go Go.RowKit Go.Proofs

theorem below_less : ∀ v s : List UInt8, belowB false v s = Op.bytesLess v s
  | [], [] => rfl
  | _ :: _, [] => rfl
  | [], _ :: _ => rfl
  | t :: v, c :: s => by
    have ih := below_less v s
    simp only [belowB, Op.bytesLess, ih]
    by_cases h : t = c
    · subst h; simp
    · simp [h]
theorem below_leq : ∀ v s : List UInt8, belowB true v s = (Op.bytesLess v s || v == s)
  | [], [] => rfl
  | _ :: _, [] => rfl
  | [], _ :: _ => rfl
  | t :: v, c :: s => by
    have ih := below_leq v s
    simp only [belowB, Op.bytesLess, ih]
    by_cases h : t = c
    · subst h; simp
    · have e : (t == c) = false := beq_eq_false_iff_ne.2 h
      simp [h, e]
noncomputable def opsA : Array Value := #[Value.string ⟨#[60]⟩, .string ⟨#[60, 61]⟩, .string ⟨#[62]⟩, .string ⟨#[62, 61]⟩, .string ⟨#[61, 61]⟩, .string ⟨#[33, 61]⟩]
noncomputable def wantsA (s t : ByteArray) : Array Value := #[Value.bool (Op.bytesLess t.toList s.toList), .bool (Op.bytesLess t.toList s.toList || t.toList == s.toList), .bool (!Op.bytesLess t.toList s.toList && !t.toList == s.toList), .bool (!Op.bytesLess t.toList s.toList), .bool (t.toList == s.toList), .bool (!t.toList == s.toList)]
/-- the six operators and what each says -/
theorem bound_six (s t : ByteArray) (k : Nat) (hk : k < 6) : ∃ (op : ByteArray) (f : List UInt8 → Bool),
    opsA[k]? = some (.string op) ∧ (wantsA s t)[k]? = some (.bool (f t.data.toList)) ∧ boundF op.toList s.data.toList = some f ∧ op.size ≤ 1000 := by
  have hb : (t.toList == s.toList) = decide (t.data.toList = s.data.toList) := by
    rw [ByteArray.toList_eq, ByteArray.toList_eq]
    by_cases h : t.data.toList = s.data.toList
    · rw [decide_eq_true h]; exact beq_iff_eq.2 h
    · rw [decide_eq_false h]; exact beq_eq_false_iff_ne.2 h
  have hl : Op.bytesLess t.toList s.toList = belowB false t.data.toList s.data.toList := by rw [ByteArray.toList_eq, ByteArray.toList_eq, below_less]
  have hl2 : (Op.bytesLess t.toList s.toList || t.toList == s.toList) = belowB true t.data.toList s.data.toList := by rw [ByteArray.toList_eq, ByteArray.toList_eq, below_leq]
  have hg : (!Op.bytesLess t.toList s.toList && !t.toList == s.toList) = !belowB true t.data.toList s.data.toList := by rw [← hl2, Bool.not_or]
  unfold wantsA opsA
  rw [hg, hl2, hl, hb]
  rcases (show k = 0 ∨ k = 1 ∨ k = 2 ∨ k = 3 ∨ k = 4 ∨ k = 5 by omega) with rfl | rfl | rfl | rfl | rfl | rfl
  · exact ⟨⟨#[60]⟩, (belowB false · s.data.toList), rfl, rfl, by rw [ByteArray.toList_eq]; simp [boundF], by decide⟩
  · exact ⟨⟨#[60, 61]⟩, (belowB true · s.data.toList), rfl, rfl, by rw [ByteArray.toList_eq]; simp [boundF], by decide⟩
  · exact ⟨⟨#[62]⟩, (fun v => !belowB true v s.data.toList), rfl, rfl, by rw [ByteArray.toList_eq]; simp [boundF], by decide⟩
  · exact ⟨⟨#[62, 61]⟩, (fun v => !belowB false v s.data.toList), rfl, rfl, by rw [ByteArray.toList_eq]; simp [boundF], by decide⟩
  · exact ⟨⟨#[61, 61]⟩, (fun v => decide (v = s.data.toList)), rfl, rfl, by rw [ByteArray.toList_eq]; simp [boundF], by decide⟩
  · exact ⟨⟨#[33, 61]⟩, (fun v => !decide (v = s.data.toList)), rfl, rfl, by rw [ByteArray.toList_eq]; simp [boundF], by decide⟩

set_option maxRecDepth 100000 in
set_option maxHeartbeats 8000000 in
theorem LangBounded_any (s t : ByteArray) (m : Mem) (w : World) (hm : m.inn w) (htab : TabM m) (hs : s.size ≤ maxLen) (ht : t.size ≤ maxLen)
    (haw : ∀ w, m.inn w → Calls Tryd.prog 11 #[] w fun e w' => e = .returned (.bool true) ∧ Below w.heap.size w w') :
    Calls Tryd.prog 9 #[.string s, .string t] w fun e w' => e = .returned (.bool true) ∧ Below w.heap.size w w' := by
  have HO := Lib.hid (Own.start hm)
  have HT := Lib.hid htab
  have HW := Lib.hid haw
  have ht' := ht
  clear htab haw hm
  refine calls_hide fun R hR => ?_
  unfold maxLen at hs ht
  go_enter Tryd.func9, Tryd.ntmps9
  go_upto_region 1 with (fail)
  refine wp_cut_keep [0, 1, 17] (fun vs w' => ∃ c : Bool, vs = [.string s, .string t, .bool c] ∧ Own w m w' m [] ∧ (c = false → s.size ≤ 12 ∧ t.size ≤ 12)) ?_ ?_
  · intro X hX
    by_cases h : s.size ≤ 12
    case neg =>
      have hd : decide (12 < (s.size : Int)) = true := by simp; omega
      clear h
      go_wp2
      exact hX.out _ _ rfl ⟨true, rfl, HO.out, fun h => by cases h⟩
    have hds : decide (12 < (s.size : Int)) = false := by simp; omega
    have H1 := Lib.hid h
    clear h
    by_cases h : t.size ≤ 12
    case neg =>
      have hd : decide (12 < (t.size : Int)) = true := by simp; omega
      clear h
      go_wp2
      exact hX.out _ _ rfl ⟨true, rfl, HO.out, fun h => by cases h⟩
    have hdo : decide (12 < (t.size : Int)) = false := by simp; omega
    have H2 := Lib.hid h
    clear h
    go_wp2
    exact hX.out _ _ rfl ⟨false, rfl, HO.out, fun _ => ⟨H1.out, H2.out⟩⟩
  rintro z vs w1 - ⟨c, rfl, hO, hc⟩
  simp [litL, lk]
  clear HO
  cases c with
  | true =>
    have HO := Lib.hid hO
    clear hO hc
    go_wp2_with fail
    refine (HW.out _ HO.out.inn).mono ?_
    rintro e w2 ⟨rfl, hb⟩
    have HO := Lib.hid (HO.out.move hb)
    clear hb
    go_wp2
    exact hR.out _ _ ⟨rfl, HO.out.below⟩
  | false =>
    obtain ⟨h1, h2⟩ := hc rfl
    have HO := Lib.hid hO
    have H12 := Lib.hid (And.intro h1 h2)
    clear hO hc h1 h2
    go_upto_region 4 with (fail)
    refine wp_cut_keep [0, 1, 5, 6] (fun vs w' => ∃ g1 g2 : Nat, vs = [.string s, .string t, .slice (some ⟨g1, 0, none⟩) 6 6, .slice (some ⟨g2, 0, none⟩) 6 6] ∧
      Own w m w' m [.obj g2 4 (wantsA s t), .obj g1 9 opsA]) ?_ ?_
    · intro X hX
      go_wp2
      have hO := (HO.out.al opsA 9).al (wantsA s t) 4
      have hsz : (w1.alloc (.cells opsA 9)).heap.size = w1.heap.size + 1 := by simp
      rw [hsz] at hO
      exact hX.out _ _ rfl ⟨_, _, rfl, hO⟩
    clear HO
    rintro z vs w2 - ⟨g1, g2, rfl, hO⟩
    simp [litL, lk]
    go_wp2
    refine wp_loop_keep [0, 1, 5, 6, 7] (fun n vs wr => ∃ (k : Nat) (mk : Mem), k ≤ 6 ∧ n = 6 - k ∧ vs = [.string s, .string t, .slice (some ⟨g1, 0, none⟩) 6 6, .slice (some ⟨g2, 0, none⟩) 6 6, .int .i64 k] ∧
      Own w m wr mk [.obj g2 4 (wantsA s t), .obj g1 9 opsA] ∧ m.le mk) ?_ ?_
    · exact ⟨_, 0, m, by omega, rfl, rfl, hO, Mem.le_refl _⟩
    clear hO
    rintro X z n vs wr hX - ⟨k, mk, hk, rfl, rfl, hO, hmk⟩
    simp [litL, lk]
    by_cases h : k < 6
    case neg =>
      obtain rfl : k = 6 := by omega
      have HO := Lib.hid hO
      have HE := Lib.hid hmk
      clear hO hmk h hk
      go_wp2_with fail
      refine (HW.out _ (Mem.inn_le HE.out HO.out.inn)).mono ?_
      rintro e w3 ⟨rfl, hb⟩
      have HO := Lib.hid (HO.out.move hb)
      clear hb
      go_wp2
      exact hR.out _ _ ⟨rfl, HO.out.below⟩
    obtain ⟨op, f, e1, e2, hbf, hop⟩ := bound_six s t k h
    have c1 := hO.swap.obj.cell (i := k) e1
    have hd : decide ((k : Int) < 6) = true := by simp; omega
    have hn0 : ¬ (k : Int) < 0 := by omega
    have hn6 : ¬ 6 ≤ (k : Int) := by omega
    have HO := Lib.hid hO
    have HE := Lib.hid hmk
    have HB := Lib.hid (langBound_any op s mk wr hO.inn (HT.out.le hmk) hop (by have := H12.out.1; omega))
    have H2 := Lib.hid (And.intro e2 hbf)
    have HK := Lib.hid (And.intro h hk)
    clear hO hmk e1 e2 hbf h hk hop
    go_wp2_with fail
    refine HB.out.mono ?_
    rintro e w3 ⟨r, C, rfl, hb, st, hl, -, hlen⟩
    have hl := hl f H2.out.2
    rw [H2.out.2]
    obtain ⟨x, y, rfl⟩ : ∃ x y, r = .slice x C.length y := by obtain ⟨x, y, e, -⟩ := st; exact ⟨x, y, e⟩
    have hO := (HO.out.call hb).al #[.slice x C.length y] 24
    have hle := Mem.le_trans HE.out (Mem.le_grow (w := w3) HO.out.inn)
    generalize mk.grow wr w3 = mk at *
    clear HO HB HE c1 hb
    have hv : tf (Canon C) = true := tf_true hl.canon
    have ha : (tf (WF C) && accFrom C 0 t.data.toList) = f t.data.toList := by rw [tf_true hl.canon.wf, hl.lang]; rfl
    have e2 := H2.out.1
    clear H2
    generalize f t.data.toList = b at *
    have HO := Lib.hid hO
    have HE := Lib.hid hle
    have HC := Lib.hid (And.intro st (And.intro hlen (And.intro hv (And.intro ha e2))))
    clear hO hle st hl hlen hv ha e2 hd hn0 hn6
    go_wp2
    refine wp_cut_keep [0, 1, 5, 6, 7, 70] (fun vs w' => vs = [.string s, .string t, .slice (some ⟨g1, 0, none⟩) 6 6, .slice (some ⟨g2, 0, none⟩) 6 6, .int .i64 k, .bool false] ∧
      Own w m w' mk [.obj w3.heap.size 24 #[.slice x C.length y], .obj g2 4 (wantsA s t), .obj g1 9 opsA]) ?_ ?_
    · intro X hX
      refine wp_region_facts 17 20 (fun j => [Fact.is (· = .int .i64 0), Fact.is (· = .bool false), Fact.is (· = .bool false), Fact.is (· = .agg #[.slice x C.length y]), Fact.is (· = .bool true), Fact.is (· = .bool false), Fact.is (· = .bool false), Fact.is (· = .bool false), Fact.is (· = .agg #[.slice x C.length y]), Fact.is (· = .string t), Fact.is (· = .bool b), Fact.is (· = .slice (some ⟨g2, 0, none⟩) 6 6), Fact.is (· = .int .i64 k), Fact.is (· = .pointer (some ⟨g2, k, none⟩)), Fact.is (· = .bool b), Fact.is (· = .bool false), Fact.is (· = .bool false)].getD j Fact.any) (by kernel_rfl) (by kernel_rfl) ?_ ?_
      · intro i hi o win a wr ho RA
        have HO2 := HO.out.dr.move RA.below
        have q1 := HO2.obj.cell (i := 0) rfl
        have q2 := HO2.swap.obj.cell (i := k) HC.out.2.2.2.2
        have hk6 := HK.out.1
        have hn0 : ¬ (k : Int) < 0 := by omega
        have hn6 : ¬ 6 ≤ (k : Int) := by omega
        have hd : decide ((k : Int) < 6) = true := by simp; omega
        rcases (show i = 0 ∨ i = 1 ∨ i = 2 ∨ i = 3 ∨ i = 4 ∨ i = 5 ∨ i = 6 ∨ i = 7 ∨ i = 8 ∨ i = 9 ∨ i = 10 ∨ i = 11 ∨ i = 12 ∨ i = 13 ∨ i = 14 ∨ i = 15 ∨ i = 16 by omega) with rfl | rfl | rfl | rfl | rfl | rfl | rfl | rfl | rfl | rfl | rfl | rfl | rfl | rfl | rfl | rfl | rfl
        · have e9 := RA.keep 9 (by kernel_rfl)
          cases ho
          refine wpOp_of rfl rfl (wp_value (by go_simp; first | done | rfl) ⟨_, rfl, Below.refl _ _, rfl⟩)
        · have e54 : a.tmps.getD 54 undef = .int .i64 0 := RA.dep 0 _ (by kernel_rfl) rfl
          cases ho
          refine wpOp_of rfl rfl (wp_value (by go_simp; first | done | rfl) ⟨_, rfl, Below.refl _ _, rfl⟩)
        · have e55 : a.tmps.getD 55 undef = .bool false := RA.dep 1 _ (by kernel_rfl) rfl
          cases ho
          refine wpOp_of rfl rfl (wp_value (by go_simp; first | done | rfl) ⟨_, rfl, Below.refl _ _, rfl⟩)
        · have e8 := RA.keep 8 (by kernel_rfl)
          have e56 : a.tmps.getD 56 undef = .bool false := RA.dep 2 _ (by kernel_rfl) rfl
          cases ho
          refine wpOp_of2 rfl (wanted_yes rfl rfl e56) (wp_value (by go_simp; first | done | rfl) ⟨_, rfl, Below.refl _ _, rfl⟩)
        · have e57 : a.tmps.getD 57 undef = .agg #[.slice x C.length y] := RA.dep 3 _ (by kernel_rfl) rfl
          have e56 : a.tmps.getD 56 undef = .bool false := RA.dep 2 _ (by kernel_rfl) rfl
          cases ho
          refine wpOp_of2 rfl (wanted_yes rfl rfl e56) (wp_enter (by go_simp; first | done | rfl) (r05Valid_any (.slice x C.length y) C mk wr HO2.inn HC.out.1 (by have := HC.out.2.1; omega)) ?_)
          rintro e w' ⟨rfl, hb⟩
          exact ⟨_, rfl, _, rfl, hb, congrArg Value.bool HC.out.2.2.1⟩
        · have e58 : a.tmps.getD 58 undef = .bool true := RA.dep 4 _ (by kernel_rfl) rfl
          have e56 : a.tmps.getD 56 undef = .bool false := RA.dep 2 _ (by kernel_rfl) rfl
          cases ho
          refine wpOp_of2 rfl (wanted_yes rfl rfl e56) (wp_value (by go_simp; first | done | rfl) ⟨_, rfl, Below.refl _ _, rfl⟩)
        · have e56 : a.tmps.getD 56 undef = .bool false := RA.dep 2 _ (by kernel_rfl) rfl
          have e59 : a.tmps.getD 59 undef = .bool false := RA.dep 5 _ (by kernel_rfl) rfl
          cases ho
          refine wpOp_of rfl rfl (wp_value (by go_simp; first | done | rfl) ⟨_, rfl, Below.refl _ _, rfl⟩)
        · have e60 : a.tmps.getD 60 undef = .bool false := RA.dep 6 _ (by kernel_rfl) rfl
          cases ho
          refine wpOp_of rfl rfl (wp_value (by go_simp; first | done | rfl) ⟨_, rfl, Below.refl _ _, rfl⟩)
        · have e8 := RA.keep 8 (by kernel_rfl)
          have e61 : a.tmps.getD 61 undef = .bool false := RA.dep 7 _ (by kernel_rfl) rfl
          cases ho
          refine wpOp_of2 rfl (wanted_yes rfl rfl e61) (wp_value (by go_simp; first | done | rfl) ⟨_, rfl, Below.refl _ _, rfl⟩)
        · have e1 := RA.keep 1 (by kernel_rfl)
          have e61 : a.tmps.getD 61 undef = .bool false := RA.dep 7 _ (by kernel_rfl) rfl
          cases ho
          refine wpOp_of2 rfl (wanted_yes rfl rfl e61) (wp_value (by go_simp; first | done | rfl) ⟨_, rfl, Below.refl _ _, rfl⟩)
        · have e62 : a.tmps.getD 62 undef = .agg #[.slice x C.length y] := RA.dep 8 _ (by kernel_rfl) rfl
          have e63 : a.tmps.getD 63 undef = .string t := RA.dep 9 _ (by kernel_rfl) rfl
          have e61 : a.tmps.getD 61 undef = .bool false := RA.dep 7 _ (by kernel_rfl) rfl
          cases ho
          refine wpOp_of2 rfl (wanted_yes rfl rfl e61) (wp_enter (by go_simp; first | done | rfl) (r05Accepts_any (.slice x C.length y) C t mk wr HO2.inn HC.out.1 ht') ?_)
          rintro e w' ⟨rfl, hb⟩
          exact ⟨_, rfl, _, rfl, hb, congrArg Value.bool HC.out.2.2.2.1⟩
        · have e6 := RA.keep 6 (by kernel_rfl)
          have e61 : a.tmps.getD 61 undef = .bool false := RA.dep 7 _ (by kernel_rfl) rfl
          cases ho
          refine wpOp_of2 rfl (wanted_yes rfl rfl e61) (wp_value (by go_simp; first | done | rfl) ⟨_, rfl, Below.refl _ _, rfl⟩)
        · have e7 := RA.keep 7 (by kernel_rfl)
          have e61 : a.tmps.getD 61 undef = .bool false := RA.dep 7 _ (by kernel_rfl) rfl
          cases ho
          refine wpOp_of2 rfl (wanted_yes rfl rfl e61) (wp_value (by go_simp; first | done | rfl) ⟨_, rfl, Below.refl _ _, rfl⟩)
        · have e65 : a.tmps.getD 65 undef = .slice (some ⟨g2, 0, none⟩) 6 6 := RA.dep 11 _ (by kernel_rfl) rfl
          have e66 : a.tmps.getD 66 undef = .int .i64 k := RA.dep 12 _ (by kernel_rfl) rfl
          have e61 : a.tmps.getD 61 undef = .bool false := RA.dep 7 _ (by kernel_rfl) rfl
          cases ho
          refine wpOp_of2 rfl (wanted_yes rfl rfl e61) (wp_value (by go_simp; first | done | rfl) ⟨_, rfl, Below.refl _ _, rfl⟩)
        · have e67 : a.tmps.getD 67 undef = .pointer (some ⟨g2, k, none⟩) := RA.dep 13 _ (by kernel_rfl) rfl
          have e61 : a.tmps.getD 61 undef = .bool false := RA.dep 7 _ (by kernel_rfl) rfl
          cases ho
          refine wpOp_of2 rfl (wanted_yes rfl rfl e61) (wp_value (by go_simp; first | done | rfl) ⟨_, rfl, Below.refl _ _, rfl⟩)
        · have e64 : a.tmps.getD 64 undef = .bool b := RA.dep 10 _ (by kernel_rfl) rfl
          have e68 : a.tmps.getD 68 undef = .bool b := RA.dep 14 _ (by kernel_rfl) rfl
          have e61 : a.tmps.getD 61 undef = .bool false := RA.dep 7 _ (by kernel_rfl) rfl
          cases ho
          refine wpOp_of2 rfl (wanted_yes rfl rfl e61) (wp_value (by go_simp; first | done | rfl) ⟨_, rfl, Below.refl _ _, rfl⟩)
        · have e61 : a.tmps.getD 61 undef = .bool false := RA.dep 7 _ (by kernel_rfl) rfl
          have e69 : a.tmps.getD 69 undef = .bool false := RA.dep 15 _ (by kernel_rfl) rfl
          cases ho
          refine wpOp_of rfl rfl (wp_value (by go_simp; first | done | rfl) ⟨_, rfl, Below.refl _ _, rfl⟩)
      · intro win a wr E
        have e0 := E.keep 0 (by kernel_rfl)
        have e1 := E.keep 1 (by kernel_rfl)
        have e5 := E.keep 5 (by kernel_rfl)
        have e6 := E.keep 6 (by kernel_rfl)
        have e7 := E.keep 7 (by kernel_rfl)
        have e70 : a.tmps.getD 70 undef = .bool false := E.fact 16 _ (by omega) rfl
        obtain ⟨t', d⟩ := a
        obtain rfl : d = [] := E.defers
        refine wpAny_none (by kernel_rfl) (hX.out _ _ E.size ⟨?_, HO.out.dr.move E.below⟩) _
        simp only [List.map_cons, List.map_nil, e0, e1, e5, e6, e7, e70]
        rfl
    rintro z' vs w4 - ⟨rfl, hO⟩
    simp [litL, lk]
    clear HO HC
    have HO := Lib.hid hO.tail
    clear hO
    have hw : wrap64 ((k : Int) + 1) = ((k + 1 : Nat) : Int) := by
      have := HK.out.1
      unfold wrap64
      omega
    go_wp2
    refine hX.out _ _ _ (by have := HK.out.1; omega) rfl ⟨k + 1, mk, by have := HK.out.1; omega, rfl, ?_, HO.out, HE.out⟩
    simp only [List.map_cons, List.map_nil, ← hw]
    rfl
end Cl
namespace Go.Proofs.YtaolacbikbllcaaDoor.langBounded
open Go Go.RowKit Go.Proofs Go.ChangeShapes Go.WideShapes Go.ChangeAt Cl

set_option maxRecDepth 100000 in
theorem contract (H : Type) (enc : TypeId × Value → H) (W : World) (base : Nat) (args : Array Value) (ds gs : List (DataW H)) (before : List MemPlace)
    (hval0 : ∀ (j : Nat) t v, Tryd.f9.params[j]? = some t → args[j]? = some v → Value.okWide Tryd.prog W .any base t v)
    (hW : DataW.Whole enc Tryd.prog Tryd.f9.params.toList Rows.langBoundedSpec.vars false W args.toList ds gs before) (hL : laidMetH Tryd.prog seatLaid W) :
    Calls Tryd.prog 9 args W fun e W' => ∃ v, e = .returned v ∧ Rows.langBoundedSpec.post enc Tryd.prog Tryd.f9 false true false false W args v W' := by
  have hval := hval0
  have hW' := hW
  obtain ⟨p, q, hA0, hV, rfl, hfz, hnd⟩ := hW
  have hA : DataW.TrodAll enc Tryd.prog W 0 (fun _ => true) true Tryd.f9.params.toList args.toList ds p := hA0
  rw [Tryd.params9] at hA hval
  obtain ⟨v0, v1, d0, d1, p0, p1, rfl, rfl, rfl, h0, h1⟩ := trodAll_two hA
  obtain ⟨rfl, rfl⟩ := trodVars_none hV
  obtain ⟨s0, rfl, -, -, hs0⟩ := string_open (hval 0 _ _ rfl rfl) h0
  obtain ⟨s1, rfl, -, -, hs1⟩ := string_open (hval 1 _ _ rfl rfl) h1
  refine (LangBounded_any s0 s1 (Mem.of W) W (Mem.of_inn W) (seat_tab hL) hs0 hs1 (fun w hw => awake_any (Mem.of W) w hw (seat_tab hL))).mono fun e W' ⟨he, hb⟩ => ?_
  subst he
  exact ⟨_, rfl, law_post rfl (by kernel_rfl) (by kernel_rfl) rfl hW' hb⟩

theorem laid_met (os : Os) : laidMet Tryd.prog Rows.langBoundedRow.laid ((laidWorld os).forCall (fun _ _ => 0) ⟨#[], #[.string ⟨#[]⟩, .string ⟨#[]⟩], []⟩).memory :=
  laidMet_of_run' 8 (by kernel_rfl) (by kernel_rfl)
theorem reads (os : Os) {H : Type} (enc : TypeId × Value → H) : ∃ places, DataW.whole enc Tryd.prog ((laidWorld os).forCall (fun _ _ => 0) ⟨#[], #[.string ⟨#[]⟩, .string ⟨#[]⟩], []⟩).memory Tryd.f9.params.toList Rows.langBoundedSpec.vars false #[Value.string ⟨#[]⟩, Value.string ⟨#[]⟩].toList 8 = some ([.lit (.string []), .lit (.string [])], [], places) :=
  ⟨[], by kernel_rfl⟩

set_option maxRecDepth 100000 in
theorem lifted (os : Os) (started : os.Started) (H : Type) (enc : TypeId × Value → H) (F : Stop.Interp) :
    ReturnsInHanded {} Tryd.checked os 9 .any ((OpenSpec.ofChange Rows.langBoundedSpec).preRow enc Tryd.prog Tryd.f9 Rows.langBoundedRow.domain false Rows.langBoundedRow.laid) (((OpenSpec.ofChange Rows.langBoundedSpec).at F).post enc Tryd.prog Tryd.f9 false true false false) := by
  obtain ⟨places, hx⟩ := reads os enc
  refine returnsInHanded_of_row (C := Tryd.checked) (s := OpenSpec.ofChange Rows.langBoundedSpec) seat_own started (by kernel_rfl) Tryd.func9
    (witness_row_at (enc := enc) (C := Tryd.checked) false (laidWorld os) #[.string ⟨#[]⟩, .string ⟨#[]⟩] rfl (by kernel_rfl) (by kernel_rfl) (by kernel_rfl)
      (OpenSpec.preRow_of_cond 8 hx (by kernel_rfl) (fun k hk => by cases hk) (by kernel_rfl) (laid_met os))) ?_
  intro W base args ds gs before hval hW _ _ _ hL _ _
  exact contract H enc W base args ds gs before hval hW hL

theorem said : Rows.LangBoundedSaid :=
  OpenClaim.holds_of_cond 9 Tryd.f9 rfl rfl rfl rfl rfl rfl rfl ⟨rfl, rfl, rfl, rfl, rfl⟩ rfl rfl rfl rfl rfl (by kernel_rfl) Tryd.func9 (by kernel_rfl)
    (of_decide_eq_true (by kernel_rfl)) (by unfold Func.isWrapper; first | (rw [if_pos (by decide +kernel)]; kernel_rfl) | (rw [if_neg (by decide +kernel)]; exact ⟨rfl, rfl⟩))
    (fun os started H enc _ F => by rw [OpenClaim.pre_eq_preRow]; exact lifted os started H enc F)

theorem plain (f : FuncId) (fn : Func) (hf : Tryd.pinned.checked.prog.funcNamed "configlang/configlanglaw06.LangBounded" = some f) (hfn : Tryd.pinned.checked.prog.funcs[f]? = some fn) :
    false = Tryd.pinned.checked.prog.looks [] ∧ ∀ (j : Nat) t, fn.params[j]? = some t → Tryd.pinned.checked.prog.wantsStandIn t = false := by
  obtain rfl : f = 9 := Option.some.inj ((show Tryd.prog.funcNamed "configlang/configlanglaw06.LangBounded" = some 9 by kernel_rfl).symm.trans hf) |>.symm
  obtain rfl : fn = Tryd.f9 := (Option.some.inj (Tryd.func9.symm.trans hfn)).symm
  refine ⟨by kernel_rfl, fun j t ht => ?_⟩
  have hall : Tryd.f9.params.all (fun t => !Tryd.prog.wantsStandIn t) = true := by kernel_rfl
  have := Array.all_eq_true_iff_forall_mem.1 hall t (Array.mem_of_getElem? ht)
  show Tryd.prog.wantsStandIn t = false
  simpa using this

theorem langBounded_holds : Rows.LangBoundedCardSaid :=
  Claim7.holds_tied_plain_at .later [] _ _ _ _ said (fun _ h => by cases h) (by kernel_rfl) (fun _ h => by cases h) langBounded_row_tie rfl ⟨rfl, rfl⟩ (by kernel_rfl) rfl plain (by kernel_rfl)
end Go.Proofs.YtaolacbikbllcaaDoor.langBounded

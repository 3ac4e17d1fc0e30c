/- Lemmas for the proofs: WalkBM, WalkBN, WalkBO, WalkBK, WalkBL. -/
import Derived.RegionTactic
import Derived.ChangeAlike
import Derived.Test.YtaolacbikbllcaaDoorPkA2
import Derived.Test.YtaolacbikbllcaaDoorPkA3
import Derived.Test.YtaolacbikbllcaaDoorPkA1
import Derived.Test.YtaolacbikbllcaaDoorPkA9
import Derived.Test.YtaolacbikbllcaaDoorPkA8
import Derived.Test.YtaolacbikbllcaaDoorPkA10
import Derived.Test.YtaolacbikbllcaaDoorPkA6
import Derived.Test.YtaolacbikbllcaaDoorPkA5
import Derived.Test.YtaolacbikbllcaaDoorPkA4
import Derived.Test.YtaolacbikbllcaaDoorPkA7
namespace Cl
open Go Go.RowKit Go.Proofs

theorem bl_irrefl : ∀ x : List UInt8, Op.bytesLess x x = false
  | [] => rfl
  | a :: x => by simp [Op.bytesLess, bl_irrefl x]
theorem bl_lex : ∀ x y : List UInt8, x.length = y.length → (Op.bytesLess x y = true ↔ lex x y)
  | [], [], _ => by simp [Op.bytesLess, lex]
  | [], _ :: _, h => by simp at h
  | _ :: _, [], h => by simp at h
  | a :: x, b :: y, h => by
    have ih := bl_lex x y (by simpa using h)
    simp [Op.bytesLess, lex, ih]

def cmpS (x y : List UInt8) : Int := if Op.bytesLess x y then -1 else if x = y then 0 else 1

theorem isNaN_str (s : ByteArray) (w : World) : Calls Tryd.prog 81 #[.string s] w fun e w' => e = .returned (.bool false) ∧ w' = w := by
  refine calls_hide fun R hR => ?_
  go_enter Tryd.func81, Tryd.ntmps81
  go_wp2
  exact hR.out _ _ ⟨rfl, rfl⟩
theorem cmpStr_any (s t : ByteArray) (w : World) : Calls Tryd.prog 53 #[.string s, .string t] w fun e w' => e = .returned (.int .i64 (cmpS s.data.toList t.data.toList)) ∧ w' = w := by
  rw [← ByteArray.toList_eq s, ← ByteArray.toList_eq t]
  refine calls_hide fun R hR => ?_
  go_enter Tryd.func53, Tryd.ntmps53
  go_wp2_with ((go_at_call 81); refine (isNaN_str _ _).mono ?_; rintro e w' ⟨rfl, rfl⟩)
  · have h : Op.bytesLess s.toList t.toList = true := by assumption
    exact hR.out _ _ ⟨by simp [cmpS, h], rfl⟩
  · have h : Op.bytesLess s.toList t.toList = false := by assumption
    have h2 : (!s.toList == t.toList) = true := by assumption
    have h2 : ¬ s.toList = t.toList := by simpa using h2
    exact hR.out _ _ ⟨by simp [cmpS, h, h2], rfl⟩
  · have h : Op.bytesLess s.toList t.toList = false := by assumption
    have h2 : (!s.toList == t.toList) = false := by assumption
    have h2 : s.toList = t.toList := by simpa using h2
    exact hR.out _ _ ⟨by rw [h2] at h ⊢; simp [cmpS, h], rfl⟩
end Cl
namespace Cl
open Go Go.RowKit Go.Proofs

/-- the order of two least words that may not be there -/
def cmpO : Option (List UInt8) → Option (List UInt8) → Int
  | none, none => 0
  | some _, none => -1
  | none, some _ => 1
  | some x, some y => if Lib.compareInt x.length y.length = 0 then cmpS x y else Lib.compareInt x.length y.length

theorem cmpO_is {f g : List UInt8 → Bool} {a b : Option (List UInt8)} (h : IsLeast (fun w => f w && !g w) a) (k : IsLeast (fun w => g w && !f w) b) : CmpIs f g (cmpO a b) := by
  have q := cmp_of_least h k
  cases a with
  | none =>
    cases b with
    | none => exact q
    | some y => exact q
  | some x =>
    cases b with
    | none => exact q
    | some y =>
      obtain ⟨hne, h1, h2⟩ := q
      show CmpIs f g (if Lib.compareInt x.length y.length = 0 then cmpS x y else Lib.compareInt x.length y.length)
      have hc : Lib.compareInt x.length y.length = if x.length < y.length then -1 else if x.length > y.length then 1 else 0 := by
        unfold Lib.compareInt
        by_cases p1 : x.length < y.length
        · rw [if_pos (by omega), if_pos p1]
        · rw [if_neg (by omega), if_neg p1]
          by_cases p2 : x.length > y.length
          · rw [if_pos (by omega), if_pos p2]
          · rw [if_neg (by omega), if_neg p2]
      rw [hc]
      by_cases p1 : x.length < y.length
      · rw [if_pos p1, if_neg (by omega)]
        exact h1 (.inl p1)
      · rw [if_neg p1]
        by_cases p2 : x.length > y.length
        · rw [if_pos p2, if_neg (by omega)]
          exact h2 (.inl p2)
        · rw [if_neg p2, if_pos rfl]
          have he : x.length = y.length := by omega
          unfold cmpS
          by_cases p3 : Op.bytesLess x y = true
          · rw [if_pos p3]
            exact h1 (.inr ⟨he, (bl_lex x y he).1 p3⟩)
          · rw [if_neg p3, if_neg hne]
            rcases slt_total x y with t | t | t
            · rcases t with t | ⟨-, t⟩
              · omega
              · exact absurd ((bl_lex x y he).2 t) p3
            · exact absurd t hne
            · exact h2 t

theorem orInt2 (g : Nat) (t : TypeId) (x y : Int) (w : World) (h : ObjAt w g t #[.int .i64 x, .int .i64 y]) :
    Calls Tryd.prog 51 #[.slice (some ⟨g, 0, none⟩) 2 2] w fun e w' => e = .returned (.int .i64 (if x = 0 then y else x)) ∧ w' = w := by
  have c0 := h.cell (i := 0) rfl
  have c1 := h.cell (i := 1) rfl
  have l1 := h.lt
  refine calls_hide fun R hR => ?_
  go_enter Tryd.func51, Tryd.ntmps51
  go_wp2
  refine wp_loop_keep [3, 6, 7, 8] (fun n vs wr => ∃ k : Nat, k ≤ 2 ∧ n = 2 - k ∧ vs = [.int .i64 0, .slice (some ⟨g, 0, none⟩) 2 2, .int .i64 2, .int .i64 k] ∧ wr = w ∧ (1 ≤ k → x = 0) ∧ (2 ≤ k → y = 0)) ?_ ?_
  · exact ⟨_, 0, by omega, rfl, rfl, rfl, by omega, by omega⟩
  rintro X z n vs wr hX - ⟨k, hk, rfl, rfl, rfl, h1, h2⟩
  simp [litL, lk]
  have hk : k = 0 ∨ k = 1 ∨ k = 2 := by omega
  rcases hk with rfl | rfl | rfl
  · clear h1 h2
    by_cases e : x = 0
    · have hd : (x != 0) = false := by simp [e]
      have E := Lib.hid e
      clear e
      go_wp2
      refine hX.out _ _ _ (by omega) rfl ⟨1, by omega, rfl, rfl, rfl, fun _ => E.out, by omega⟩
    · have hd : (x != 0) = true := by simp [e]
      have E := Lib.hid e
      clear e
      go_wp2
      exact hR.out _ _ ⟨by rw [if_neg E.out]; rfl, rfl⟩
  · have H1 := Lib.hid (h1 (by omega))
    clear h1 h2
    by_cases e : y = 0
    · have hd : (y != 0) = false := by simp [e]
      have E := Lib.hid e
      clear e
      go_wp2
      refine hX.out _ _ _ (by omega) rfl ⟨2, by omega, rfl, rfl, rfl, fun _ => H1.out, fun _ => E.out⟩
    · have hd : (y != 0) = true := by simp [e]
      have E := Lib.hid e
      clear e
      go_wp2
      exact hR.out _ _ ⟨by rw [if_pos H1.out]; rfl, rfl⟩
  · have H1 := Lib.hid (And.intro (h1 (by omega)) (h2 (by omega)))
    clear h1 h2
    go_wp2
    exact hR.out _ _ ⟨by rw [if_pos H1.out.1, H1.out.2]; rfl, rfl⟩
end Cl
namespace Cl
open Go Go.RowKit Go.Proofs

theorem goodT_sem (A : Table) (x : List UInt8) : Sem (goodT A) x = Sem A x := by
  rw [sem_canon (goodT_canon A)]
  exact (goodT_is A).2 x
theorem optV_none : optV none = .tuple #[.string ⟨#[]⟩, .bool false] := rfl
theorem optV_some (x : List UInt8) : optV (some x) = .tuple #[.string (bstr x), .bool true] := rfl

set_option maxRecDepth 100000 in
set_option maxHeartbeats 4000000 in
theorem langCompare_any (v0 v1 : Value) (A B : Table) (m : Mem) (w : World) (hm : m.inn w) (htab : TabM m) (hA : statesAt m v0 A) (hB : statesAt m v1 B) (hlen : (A.length + 2) * (B.length + 2) ≤ 300000) :
    Calls Tryd.prog 32 #[.agg #[v0], .agg #[v1]] w fun e w' => ∃ c, e = .returned (.int .i64 c) ∧ Below w.heap.size w w' ∧ CmpIs (Sem A) (Sem B) c := by
  have hF := Fits.of (A := A) (B := B) (Nat.le_refl _) (Nat.le_refl _) (by omega)
  have hO := ((Own.start hm).al #[v0] 24).al #[v1] 24
  have hsz1 : (w.alloc (.cells #[v0] 24)).heap.size = w.heap.size + 1 := by simp
  rw [hsz1] at hO
  have HO := Lib.hid hO
  have HA := Lib.hid (fun w (hw : m.inn w) => good_any v0 A m w hw htab hA hF.a)
  have HB := Lib.hid (fun mk w (hw : mk.inn w) (hle : m.le mk) => good_any v1 B mk w hw (htab.le hle) (statesAt_le hle hB) hF.b)
  clear hO hsz1
  refine calls_hide fun R hR => ?_
  obtain ⟨va, vc, rfl, -⟩ := hA
  obtain ⟨vb, vd, rfl, -⟩ := hB
  go_enter Tryd.func32, Tryd.ntmps32
  go_wp2
  refine wp_cut_keep [2, 3] (fun vs w' => ∃ (r1 r2 : Value) (mk : Mem), vs = [.pointer (some ⟨w.heap.size, 0, none⟩), .pointer (some ⟨w.heap.size + 1, 0, none⟩)] ∧
    Own w m w' mk [.obj (w.heap.size + 1) 24 #[r2], .obj w.heap.size 24 #[r1]] ∧ m.le mk ∧ statesAt mk r1 (goodT A) ∧ statesAt mk r2 (goodT B)) ?_ ?_
  · intro X hX
    refine wp_region_D (fun j w' => (j ≠ 4 → j ≠ 5 → ObjAt w' w.heap.size 24 #[.slice va A.length vc]) ∧ (j ≠ 5 → ObjAt w' (w.heap.size + 1) 24 #[.slice vb B.length vd])) (by kernel_rfl) ?_
    have hO := HO.out.dr
    refine wpAnyD_take 0 (fun w' => ObjAt w' w.heap.size 24 #[.slice va A.length vc]) rfl (by kernel_rfl) (fun _ _ _ h => h) (fun j w' hj hd => hd.1 (by rintro rfl; exact waits_no (by kernel_rfl) hj) (by rintro rfl; exact waits_no (by kernel_rfl) hj)) hO.swap.obj (yields_of rfl fun w' hS' => by have q := hS'.cell (i := 0) rfl; go_simp; rfl) ?_
    refine wpAnyD_take 2 (fun w' => ObjAt w' (w.heap.size + 1) 24 #[.slice vb B.length vd]) rfl (by kernel_rfl) (fun _ _ _ h => h) (fun j w' hj hd => hd.2 (by rintro rfl; exact waits_no (by kernel_rfl) hj)) hO.obj (yields_of rfl fun w' hS' => by have q := hS'.cell (i := 0) rfl; go_simp; rfl) ?_
    refine wpAnyD_only 1 (by kernel_rfl) (wpOp_of rfl rfl (wp_enter (by go_simp) (HA.out _ hO.inn) ?_))
    rintro e w1 ⟨r1, rfl, hb1, hr1⟩
    have hO2 := hO.call hb1
    have hle := Mem.le_grow (w := w1) hO.inn
    refine ⟨_, rfl, .inr ⟨fun _ _ => hO2.swap.obj, fun _ => hO2.obj⟩, ?_⟩
    go_simp
    refine wpAnyD_only 3 (by kernel_rfl) (wpOp_of rfl rfl (wp_enter (by go_simp) (HB.out _ _ hO2.inn hle) ?_))
    rintro e w2 ⟨r2, rfl, hb2, hr2⟩
    have hO3 := hO2.call hb2
    have hle2 := Mem.le_grow (w := w2) hO2.inn
    refine ⟨_, rfl, .inr ⟨fun _ _ => hO3.swap.obj, fun _ => hO3.obj⟩, ?_⟩
    obtain ⟨xa, xc, rfl⟩ : ∃ xa xc, r1 = .slice xa (goodT A).length xc := by obtain ⟨x, y, e, -⟩ := hr1; exact ⟨x, y, e⟩
    obtain ⟨ya, yc, rfl⟩ : ∃ xa xc, r2 = .slice xa (goodT B).length xc := by obtain ⟨x, y, e, -⟩ := hr2; exact ⟨x, y, e⟩
    go_simp
    have f1 := hO3.swap.obj.frozen 0
    have c1 := hO3.swap.obj.cell (i := 0) rfl
    have hO4 := hO3.swap.set 0 (.slice xa (goodT A).length xc)
    have f3 := hO4.swap.obj.frozen 0
    have c3 := hO4.swap.obj.cell (i := 0) rfl
    have hO6 := hO4.swap.set 0 (.slice ya (goodT B).length yc)
    refine wpAnyD_only 4 (by kernel_rfl) (wpOp_of rfl rfl (wp_skipped (by go_simp; first | done | rfl) ⟨.inr ⟨fun h => absurd rfl h, fun _ => hO4.swap.obj⟩, ?_⟩))
    refine wpAnyD_only 5 (by kernel_rfl) (wpOp_of rfl rfl (wp_skipped (by go_simp; first | done | rfl) ⟨.inr ⟨fun _ h => absurd rfl h, fun h => absurd rfl h⟩, ?_⟩))
    refine wpAnyD_done (by kernel_rfl) ?_ _
    exact hX.out _ _ rfl ⟨_, _, _, rfl, hO6, Mem.le_trans hle hle2, statesAt_le hle2 hr1, hr2⟩
  rintro z vs w1 - ⟨r1, r2, mk, rfl, hO, hmk, hr1, hr2⟩
  simp [litL, lk]
  clear HO HA HB
  have hgAl := goodT_len A
  have hgBl := goodT_len B
  have hmul : ((goodT A).length + 2) * ((goodT B).length + 2) ≤ (A.length + 2) * (B.length + 2) := Nat.mul_le_mul (by omega) (by omega)
  have hmul2 : ((goodT B).length + 2) * ((goodT A).length + 2) ≤ 300000 := by rw [Nat.mul_comm]; omega
  have hsA := goodT_sem A
  have hsB := goodT_sem B
  have HF := Lib.hid (And.intro (Fits.of (A := goodT A) (B := goodT B) (Nat.le_refl _) (Nat.le_refl _) (by omega)) (And.intro (Fits.of (A := goodT B) (B := goodT A) (Nat.le_refl _) (Nat.le_refl _) (by omega)) (And.intro hsA (And.intro hsB (And.intro (show ((goodT A).length + 2) * ((goodT B).length + 2) ≤ 300000 by omega) hmul2)))))
  clear hgAl hgBl hmul hmul2 hsA hsB hF hlen
  generalize goodT A = A' at *
  generalize goodT B = B' at *
  have g1 := hO.obj.cell (i := 0) rfl
  have g2 := hO.swap.obj.cell (i := 0) rfl
  have HM := Lib.hid (langMinus_any r1 r2 A' B' mk _ hO.inn (htab.le hmk) hr1 hr2 HF.out.1)
  have HO := Lib.hid (And.intro hO (And.intro hr1 (And.intro hr2 hmk)))
  clear hO hr1 hr2 hmk
  go_wp2_with fail
  refine HM.out.mono ?_
  rintro e w2 ⟨d1, D1, rfl, hb2, hd1, hl1, hlen1⟩
  clear HM g1 g2
  have hO2 := HO.out.1.call hb2
  have hle2 := Mem.le_grow (w := w2) HO.out.1.inn
  have HL := Lib.hid (langLeast_any d1 D1 _ _ hO2.inn (htab.le (Mem.le_trans HO.out.2.2.2 hle2)) hd1 (by have := HF.out.2.2.2.2.1; omega))
  have HO2 := Lib.hid (And.intro hO2 (And.intro (statesAt_le hle2 HO.out.2.1) (And.intro (statesAt_le hle2 HO.out.2.2.1) (Mem.le_trans HO.out.2.2.2 hle2))))
  have Hl1 := Lib.hid hl1
  clear hO2 hle2 hb2 HO hd1 hl1 hlen1
  go_wp2_with fail
  refine HL.out.mono ?_
  rintro e w3 ⟨o1, rfl, hb3, hle1⟩
  have hO3 := HO2.out.1.call hb3
  have hq := Mem.le_grow (w := w3) HO2.out.1.inn
  have hO3 := Lib.hid (And.intro hO3 (And.intro (statesAt_le hq HO2.out.2.1) (And.intro (statesAt_le hq HO2.out.2.2.1) (Mem.le_trans HO2.out.2.2.2 hq))))
  have Hl1' := Lib.hid (show IsLeast (fun x => Sem A x && !Sem B x) o1 by
    have e : Sem D1 = fun x => Sem A x && !Sem B x := by
      funext x
      rw [Hl1.out.sem x, HF.out.2.2.1 x, HF.out.2.2.2.1 x]
    rw [← e]; exact hle1)
  clear hle1 Hl1 HL HO2 hb3 hq D1
  generalize hmm : (mk.grow w1 w2).grow w2 w3 = mk3 at *
  clear hmm
  have g1 := hO3.out.1.obj.cell (i := 0) rfl
  have g2 := hO3.out.1.swap.obj.cell (i := 0) rfl
  have HM := Lib.hid (langMinus_any r2 r1 B' A' mk3 _ hO3.out.1.inn (htab.le hO3.out.2.2.2) hO3.out.2.2.1 hO3.out.2.1 HF.out.2.1)
  obtain ⟨s1, b1, e1⟩ : ∃ s1 b1, optV o1 = .tuple #[.string s1, .bool b1] := ⟨_, _, rfl⟩
  have E1 := Lib.hid e1
  rw [e1]
  clear e1
  go_wp2_with fail
  refine HM.out.mono ?_
  rintro e w4 ⟨d2, D2, rfl, hb4, hd2, hl2, hlen2⟩
  clear HM g1 g2
  have hO4 := hO3.out.1.call hb4
  have hle4 := Mem.le_grow (w := w4) hO3.out.1.inn
  have HL := Lib.hid (langLeast_any d2 D2 _ _ hO4.inn (htab.le (Mem.le_trans hO3.out.2.2.2 hle4)) hd2 (by have := HF.out.2.2.2.2.2; omega))
  have HO4 := Lib.hid hO4
  have Hl2 := Lib.hid hl2
  clear hO4 hle4 hb4 hO3 hd2 hl2 hlen2
  go_wp2_with fail
  refine HL.out.mono ?_
  rintro e w5 ⟨o2, rfl, hb5, hle2⟩
  have hO5 := HO4.out.call hb5
  have Hl2' := Lib.hid (show IsLeast (fun x => Sem B x && !Sem A x) o2 by
    have e : Sem D2 = fun x => Sem B x && !Sem A x := by
      funext x
      rw [Hl2.out.sem x, HF.out.2.2.2.1 x, HF.out.2.2.1 x]
    rw [← e]; exact hle2)
  have HC := Lib.hid (cmpO_is Hl1'.out Hl2'.out)
  have HO5 := Lib.hid hO5
  clear hle2 Hl2 HL HO4 hb5 hO5 D2 HF Hl1' Hl2' htab
  have E1 := E1.out
  cases o1 with
  | none =>
    rw [optV_none] at E1
    cases E1
    cases o2 with
    | none =>
      rw [optV_none]
      go_wp2
      exact hR.out _ _ ⟨_, rfl, HO5.out.below, HC.out⟩
    | some y =>
      rw [optV_some]
      go_wp2
      exact hR.out _ _ ⟨_, rfl, HO5.out.below, HC.out⟩
  | some x =>
    rw [optV_some] at E1
    cases E1
    cases o2 with
    | none =>
      rw [optV_none]
      go_wp2
      exact hR.out _ _ ⟨_, rfl, HO5.out.below, HC.out⟩
    | some y =>
      rw [optV_some]
      go_wp2_with first | ((go_at_call 52); refine (Tryd.cmp_Compare_int _ _ _).mono ?_; rintro e w' ⟨rfl, rfl⟩) | ((go_at_call 53); refine (cmpStr_any _ _ _).mono ?_; rintro e w' ⟨rfl, rfl⟩)
      have hO6 := HO5.out.al #[.int .i64 (Lib.compareInt (bstr x).size (bstr y).size), .int .i64 (cmpS (bstr x).data.toList (bstr y).data.toList)] 3
      refine (orInt2 _ _ _ _ _ hO6.obj).mono ?_
      rintro e w7 ⟨rfl, rfl⟩
      have H6 := Lib.hid hO6.below
      have HC2 : Hid (CmpIs (Sem A) (Sem B) (if Lib.compareInt (bstr x).size (bstr y).size = 0 then cmpS (bstr x).data.toList (bstr y).data.toList else Lib.compareInt (bstr x).size (bstr y).size)) := HC
      clear hO6 HC
      generalize (if Lib.compareInt (bstr x).size (bstr y).size = 0 then cmpS (bstr x).data.toList (bstr y).data.toList else Lib.compareInt (bstr x).size (bstr y).size) = c at *
      generalize w'.alloc (.cells #[.int .i64 (Lib.compareInt (bstr x).size (bstr y).size), .int .i64 (cmpS (bstr x).data.toList (bstr y).data.toList)] 3) = w8 at *
      go_wp2
      exact hR.out _ _ ⟨_, rfl, H6.out, HC2.out⟩
end Cl
namespace Cl
open Go Go.RowKit Go.Proofs

/-- the edges of a state of 'below' -/
def belowE (n c : Nat) : List Ed := if 0 < c then [⟨0, c - 1, (n : Int) + 1⟩] else []
theorem belowT_take {s : List UInt8} {self : Bool} {i : Nat} (h : i < s.length) : (belowT s self).take (i + 1) = (belowT s self).take i ++ [⟨true, belowE s.length (s[i]).toNat ++ [⟨(s[i]).toNat, (s[i]).toNat, (i : Int) + 1⟩]⟩] := by
  have h1 := belowT_at (self := self) h
  have hl : i < (belowT s self).length := by rw [belowT_len]; omega
  rw [List.take_succ_eq_append_getElem hl]
  congr 1
  rw [List.getElem?_eq_getElem hl] at h1
  rw [Option.some.inj h1]
  rfl
theorem belowT_end2 (s : List UInt8) (self : Bool) : belowT s self = (belowT s self).take s.length ++ [⟨self, []⟩] ++ [⟨true, [⟨0, 255, (s.length : Int) + 1⟩]⟩] := by
  unfold belowT
  rw [List.take_left' (by simp)]
  simp

theorem Own.adopt {w0 w w' : World} {m mk : Mem} {L : List Cl.Item} {g : Nat} {t : TypeId} {arr : Array Value} (h : Own w0 m w mk L) (hb : Below w.heap.size w w') (hg : w.heap.size ≤ g) (ho : ObjAt w' g t arr) : Own w0 m w' mk (.obj g t arr :: L) :=
  (h.move hb).cons ho (fun k hk => by simp only [Item.blk, Option.some.injEq] at hk; subst hk; exact ⟨Nat.le_trans h.below.size hg, Mem.none_of_ge h.inn hg⟩)
    (fun b hb' k h1 h2 => by simp only [Item.blk, Option.some.injEq] at h1; subst h1; have := Item.lt (h.ok b hb') h2; omega)

set_option maxRecDepth 100000 in
set_option maxHeartbeats 4000000 in
theorem langBelow_any (s : ByteArray) (self : Bool) (m : Mem) (w : World) (hm : m.inn w) (htab : TabM m) (hs : s.size ≤ 1000) :
    Calls Tryd.prog 54 #[.string s, .bool self] w fun e w' => ∃ r C, e = .returned (.agg #[r]) ∧ Below w.heap.size w w' ∧ statesAt (m.grow w w') r C ∧
      LangIs (fun v => belowB self v s.data.toList) C ∧ C.length ≤ s.size + 3 := by
  have hO := ((Own.start hm).al #[.slice none 0 0] 24).nilRow 48 2
  have HO := Lib.hid hO
  clear hO
  refine calls_hide fun R hR => ?_
  go_enter Tryd.func54, Tryd.ntmps54
  go_wp2
  refine wp_loop_keep [0, 1, 4, 5, 6, 15, 16] (fun n vs wr => ∃ (k : Nat) (vo : Value) (xs : List Value) (mk : Mem), k ≤ s.size ∧ n = s.size - k ∧ vs = [.string s, .bool self, .pointer (some ⟨w.heap.size, 0, none⟩), vo, .int .i64 ((s.size : Int) + 1), .int .i64 s.size, .int .i64 k] ∧
    Own w m wr mk [.row vo 48 2 k xs, .obj w.heap.size 24 #[.slice none 0 0]] ∧ StRow mk xs ((belowT s.data.toList self).take k)) ?_ ?_
  · exact ⟨_, 0, .slice none 0 0, [], m, Nat.zero_le _, rfl, rfl, HO.out, StRow.nil m⟩
  clear HO
  rintro X z n vs wr hX - ⟨k, vo, xs, mk, hk, rfl, rfl, hO, hrow⟩
  simp [litL, lk]
  obtain ⟨voa, voc, rfl⟩ := row_slice hO.row
  by_cases hlt : k < s.size
  · have hc := (s[k]).toNat_lt
    have htk : (belowT s.data.toList self).take (k + 1) = (belowT s.data.toList self).take k ++ [⟨true, belowE s.size (s[k]'hlt).toNat ++ [⟨(s[k]'hlt).toNat, (s[k]'hlt).toNat, (k : Int) + 1⟩]⟩] := by
      have hsl : s.data.toList.length = s.size := by simp
      have h1 := belowT_take (s := s.data.toList) (self := self) (i := k) (by rw [hsl]; exact hlt)
      have h2 : belowE s.data.toList.length = belowE s.size := by rw [hsl]
      rw [h2] at h1
      exact h1
    have Htk := Lib.hid htk
    have HR := Lib.hid hrow
    clear htk hrow
    have hO2 := (hO.al #[.bool true, .slice none 0 0] 48).nilRow 51 3
    have HO2 := Lib.hid hO2
    clear hO hO2
    have hw1 : IntKind.i64.wrap ((k : Int) + 1) = (k : Int) + 1 := IntWalk.i64_in _ (by omega)
    have hw2 : 0 < (s[k]).toNat → IntKind.u8.wrap (((s[k]).toNat : Int) - 1) = (((s[k]).toNat - 1 : Nat) : Int) := fun h => by rw [IntWalk.u8_in _ (by omega)]; omega
    have Hw2 := Lib.hid hw2
    clear hw2
    go_upto_if 23 with (fail)
    generalize wr.heap.size = S at *
    generalize wr.alloc (.cells #[.bool true, .slice none 0 0] 48) = w2 at *
    refine wp_cut_keep [0, 1, 4, 5, 6, 15, 16, 7, 8] (fun vs w' => ∃ ve : Value, vs = [.string s, .bool self, .pointer (some ⟨w.heap.size, 0, none⟩), .slice voa k voc, .int .i64 ((s.size : Int) + 1), .int .i64 s.size, .int .i64 k, .int .i64 k, .pointer (some ⟨S, 0, none⟩)] ∧
      Own w m w' mk [.row ve 51 3 (belowE s.size (s[k]).toNat).length (edCells (belowE s.size (s[k]).toNat)), .obj S 48 #[.bool true, ve], .row (.slice voa k voc) 48 2 k xs, .obj w.heap.size 24 #[.slice none 0 0]]) ?_ ?_
    · intro V hV
      by_cases hpos : 0 < (s[k]).toNat
      · have hbe : belowE s.size (s[k]).toNat = [⟨0, (s[k]).toNat - 1, (s.size : Int) + 1⟩] := by unfold belowE; rw [if_pos hpos]
        have Hbe := Lib.hid hbe
        have hdec : decide (0 < (s[k]).toNat) = true := decide_eq_true hpos
        have hdec2 : decide ((0 : Int) < ((s[k]).toNat : Int)) = true := decide_eq_true (by omega)
        have hw3 := Hw2.out hpos
        have hO := HO2.out.dr
        clear hbe
        go_wp2
        refine wp_region_T (fun w' => ObjAt w' S 48 #[.bool true, .slice none 0 0]) 11 (by kernel_rfl) ?_
        have hS := hO.swap.obj
        refine wpAnyT_take 0 rfl (by kernel_rfl) (fun _ _ _ h => h) hS (yields_of rfl fun w' hS' => by have q := hS'.cell (i := 1) rfl; go_simp; rfl) ?_
        refine wpAnyT_take 1 rfl (by kernel_rfl) (fun _ _ _ h => h) hS (yields_of rfl fun w' hS' => by have q := hS'.cell (i := 1) rfl; go_simp; rfl) ?_
        refine wpAnyT_take 2 rfl (by kernel_rfl) (fun _ _ _ h => h) hS (yields_of rfl fun w' hS' => by have q := hS'.cell (i := 1) rfl; go_simp; rfl) ?_
        refine wpAnyT_take 3 rfl (by kernel_rfl) (fun _ _ _ h => h) hS (yields_of rfl fun w' hS' => by have q := hS'.cell (i := 1) rfl; go_simp; rfl) ?_
        refine wpAnyT_take 4 rfl (by kernel_rfl) (fun _ _ _ h => h) hS (yields_of rfl fun w' hS' => by have q := hS'.cell (i := 1) rfl; go_simp; rfl) ?_
        refine wpAnyT_take 5 rfl (by kernel_rfl) (fun _ _ _ h => h) hS (yields_of rfl fun w' hS' => by have q := hS'.cell (i := 1) rfl; go_simp; rfl) ?_
        refine wpAnyT_take 6 rfl (by kernel_rfl) (fun _ _ _ h => h) hS (yields_of rfl fun w' hS' => by have q := hS'.cell (i := 1) rfl; go_simp; rfl) ?_
        refine wpAnyT_only 7 (by kernel_rfl) (wpOp_of rfl rfl (wp_value (by go_simp; first | done | exact ⟨rfl, rfl⟩ | rfl) (andS hS fun _ => ?_)))
        go_simp
        have hO6 := hO.al #[.int .u8 0, .int .u8 ((s[k]).toNat - 1 : Nat), .int .i64 ((s.size : Int) + 1)] 51
        refine wpAnyT_only 8 (by kernel_rfl) (wpOp_of rfl rfl (wp_value (by go_simp; first | done | exact ⟨rfl, rfl⟩ | rfl) (andS hO6.third.obj fun _ => ?_)))
        go_simp
        refine wpAnyT_only 9 (by kernel_rfl) (wpOp_of rfl rfl (wp_append_row tyEdges (.tmp 25) (.tmp 32) rfl (.slice none 0 0) 0 [] rfl hO6.swap.row ⟨w2.heap.size, 0, none⟩ 1 1 [.int .u8 0, .int .u8 ((s[k]).toNat - 1 : Nat), .int .i64 ((s.size : Int) + 1)] rfl rfl (hO6.obj.news rfl) (by simp [Value.oneCell']) (by unfold maxLen; omega) (by omega) (fun na' nc' w7 hown7 hgrow7 hrow7 => ?_)))
        have hO7 := (hO6.swap.app hown7 hgrow7 hrow7 (Nat.le_refl _)).drop2
        refine andS hO7.swap.obj fun hS3 => ?_
        go_simp
        refine wpAnyT_only 10 (by kernel_rfl) (wpOp_of rfl rfl (wp_value (by go_simp; first | done | exact ⟨rfl, rfl⟩ | rfl) (andS hS3 fun _ => ?_)))
        go_simp
        have f3 := hS3.frozen 1
        have c3 := hS3.cell (i := 1) rfl
        refine wpAnyT_only 11 (by kernel_rfl) (wpOp_of rfl rfl (wp_skipped (by go_simp; first | done | rfl) (andLast rfl ?_)))
        refine wpAnyT_done (by kernel_rfl) ?_ _
        have hO8 := (hO7.swap.set 1 (.slice na' (0 + 1) nc')).swap
        refine hV.out _ _ rfl ⟨.slice na' (0 + 1) nc', rfl, ?_⟩
        rw [Hbe.out]
        exact hO8
      · have hbe : belowE s.size (s[k]).toNat = [] := by unfold belowE; rw [if_neg hpos]
        have Hbe := Lib.hid hbe
        have hdec : decide (0 < (s[k]).toNat) = false := decide_eq_false hpos
        have hdec2 : decide ((0 : Int) < ((s[k]).toNat : Int)) = false := decide_eq_false (by omega)
        clear hbe
        go_wp2
        refine hV.out _ _ rfl ⟨.slice none 0 0, rfl, ?_⟩
        rw [Hbe.out]
        exact HO2.out
    rintro z3 vs w3 - ⟨ve, rfl, hO⟩
    simp [litL, lk]
    clear HO2
    obtain ⟨vea, vec, rfl⟩ := row_slice hO.row
    have hel : (belowE s.size (s[k]).toNat).length ≤ 1 := by unfold belowE; split <;> simp
    have hok : ∀ e ∈ belowE s.size (s[k]).toNat ++ [⟨(s[k]).toNat, (s[k]).toNat, (k : Int) + 1⟩], edOk e := fun e he => by
      rcases List.mem_append.1 he with h1 | h1
      · unfold belowE at h1
        split at h1
        · rw [List.mem_singleton.1 h1]; exact ⟨by show 0 < 256; omega, by show (s[k]).toNat - 1 < 256; omega, by show _ ≤ (s.size : Int) + 1; omega, by show (s.size : Int) + 1 ≤ _; omega⟩
        · simp at h1
      · rw [List.mem_singleton.1 h1]; exact ⟨hc, hc, by show _ ≤ (k : Int) + 1; omega, by show (k : Int) + 1 ≤ _; omega⟩
    have Hok := Lib.hid hok
    clear hok
    generalize belowE s.size (s[k]).toNat = es at *
    have hO := hO.dr
    go_wp2
    refine wp_cut_keep [0, 1, 4, 5, 6, 15, 16, 8] (fun vs w' => ∃ ve : Value, vs = [.string s, .bool self, .pointer (some ⟨w.heap.size, 0, none⟩), .slice voa k voc, .int .i64 ((s.size : Int) + 1), .int .i64 s.size, .int .i64 k, .pointer (some ⟨S, 0, none⟩)] ∧
      Own w m w' mk [.row ve 51 3 (es.length + 1) (edCells (es ++ [⟨(s[k]).toNat, (s[k]).toNat, (k : Int) + 1⟩])), .obj S 48 #[.bool true, ve], .row (.slice voa k voc) 48 2 k xs, .obj w.heap.size 24 #[.slice none 0 0]]) ?_ ?_
    · intro V hV
      refine wp_region_T (fun w' => ObjAt w' S 48 #[.bool true, .slice vea es.length vec]) 14 (by kernel_rfl) ?_
      have hS := hO.swap.obj
      refine wpAnyT_take 0 rfl (by kernel_rfl) (fun _ _ _ h => h) hS (yields_of rfl fun w' hS' => by have q := hS'.cell (i := 1) rfl; go_simp; rfl) ?_
      refine wpAnyT_take 1 rfl (by kernel_rfl) (fun _ _ _ h => h) hS (yields_of rfl fun w' hS' => by have q := hS'.cell (i := 1) rfl; go_simp; rfl) ?_
      refine wpAnyT_take 2 rfl (by kernel_rfl) (fun _ _ _ h => h) hS (yields_of rfl fun w' hS' => by have q := hS'.cell (i := 1) rfl; go_simp; rfl) ?_
      refine wpAnyT_take 3 rfl (by kernel_rfl) (fun _ _ _ h => h) hS (yields_of rfl fun w' hS' => by have q := hS'.cell (i := 1) rfl; go_simp; rfl) ?_
      refine wpAnyT_take 4 rfl (by kernel_rfl) (fun _ _ _ h => h) hS (yields_of rfl fun w' hS' => by have q := hS'.cell (i := 1) rfl; go_simp; rfl) ?_
      refine wpAnyT_take 5 rfl (by kernel_rfl) (fun _ _ _ h => h) hS (yields_of rfl fun w' hS' => by have q := hS'.cell (i := 1) rfl; go_simp; rfl) ?_
      refine wpAnyT_take 6 rfl (by kernel_rfl) (fun _ _ _ h => h) hS (yields_of rfl fun w' hS' => by have q := hS'.cell (i := 1) rfl; go_simp; rfl) ?_
      refine wpAnyT_take 7 rfl (by kernel_rfl) (fun _ _ _ h => h) hS (yields_of rfl fun w' hS' => by have q := hS'.cell (i := 1) rfl; go_simp; rfl) ?_
      refine wpAnyT_take 8 rfl (by kernel_rfl) (fun _ _ _ h => h) hS (yields_of rfl fun w' hS' => by have q := hS'.cell (i := 1) rfl; go_simp; rfl) ?_
      refine wpAnyT_take 9 rfl (by kernel_rfl) (fun _ _ _ h => h) hS (yields_of rfl fun w' hS' => by have q := hS'.cell (i := 1) rfl; go_simp; rfl) ?_
      refine wpAnyT_only 10 (by kernel_rfl) (wpOp_of rfl rfl (wp_value (by go_simp; first | done | exact ⟨rfl, rfl⟩ | rfl) (andS hS fun _ => ?_)))
      go_simp
      have hO6 := hO.al #[.int .u8 (s[k]).toNat, .int .u8 (s[k]).toNat, .int .i64 ((k : Int) + 1)] 51
      refine wpAnyT_only 11 (by kernel_rfl) (wpOp_of rfl rfl (wp_value (by go_simp; first | done | exact ⟨rfl, rfl⟩ | rfl) (andS hO6.third.obj fun _ => ?_)))
      go_simp
      refine wpAnyT_only 12 (by kernel_rfl) (wpOp_of rfl rfl (wp_append_row tyEdges (.tmp 36) (.tmp 46) rfl (.slice vea es.length vec) es.length (edCells es) rfl hO6.swap.row ⟨w3.heap.size, 0, none⟩ 1 1 [.int .u8 (s[k]).toNat, .int .u8 (s[k]).toNat, .int .i64 ((k : Int) + 1)] rfl rfl (hO6.obj.news rfl) (by simp [Value.oneCell']) (by unfold maxLen; omega) (by omega) (fun na' nc' w7 hown7 hgrow7 hrow7 => ?_)))
      have hO7 := (hO6.swap.app hown7 hgrow7 hrow7 (Nat.le_refl _)).drop2
      refine andS hO7.swap.obj fun hS3 => ?_
      go_simp
      refine wpAnyT_only 13 (by kernel_rfl) (wpOp_of rfl rfl (wp_value (by go_simp; first | done | exact ⟨rfl, rfl⟩ | rfl) (andS hS3 fun _ => ?_)))
      go_simp
      have f3 := hS3.frozen 1
      have c3 := hS3.cell (i := 1) rfl
      refine wpAnyT_only 14 (by kernel_rfl) (wpOp_of rfl rfl (wp_skipped (by go_simp; first | done | rfl) (andLast rfl ?_)))
      refine wpAnyT_done (by kernel_rfl) ?_ _
      have hO8 := (hO7.swap.set 1 (.slice na' (es.length + 1) nc')).swap
      refine hV.out _ _ rfl ⟨.slice na' (es.length + 1) nc', rfl, ?_⟩
      rw [edCells_append]
      exact hO8
    rintro z4 vs w4 - ⟨ve, rfl, hO⟩
    simp [litL, lk]
    obtain ⟨vea2, vec2, rfl⟩ := row_slice hO.row
    have hes := edgesAt_of_row (l := es ++ [⟨(s[k]).toNat, (s[k]).toNat, (k : Int) + 1⟩]) (m := mk) (by rw [List.length_append]; exact hO.row) Hok.out
    have hmk2 := Mem.le_addv (w := w4) hO.free
    have hrow2 := (HR.out.mono hmk2).push (s := ⟨true, es ++ [⟨(s[k]).toNat, (s[k]).toNat, (k : Int) + 1⟩]⟩) hes
    have hO2 := hO.sealRow
    have s0 := hO2.obj.cell (i := 0) rfl
    have s1 := hO2.obj.cell (i := 1) rfl
    have sl := hO2.obj.lt
    have hO3 := hO2.al #[.bool true, .slice vea2 (es.length + 1) vec2] 48
    have Hk := Lib.hid hrow2
    clear hrow2 hes hmk2
    generalize mk.addv w4 (.slice vea2 (es.length + 1) vec2) = mk2 at *
    have hnews := hO3.obj.news rfl
    clear hO hO2
    go_wp2_with (at_builtin; refine wpList_append_row tyStates rfl (.tmp 49) (.tmp 51) rfl (.slice voa k voc) k xs rfl hO3.third.row ⟨w4.heap.size, 0, none⟩ 1 1 [.bool true, .slice vea2 (es.length + 1) vec2] rfl rfl hnews (by simp [Value.oneCell']) (by unfold maxLen; omega) (by omega) ?_)
    intro va vc w7 hown7 hgrow7 hrow7
    have hO4 := (hO3.third.app hown7 hgrow7 hrow7 (by simp)).drop2.drop2
    have HO4 := Lib.hid hO4
    clear hown7 hgrow7 hrow7 hO3 hnews hO4
    go_wp2
    refine hX.out _ _ _ (by omega) rfl ⟨k + 1, .slice va (k + 1) vc, _, mk2, by omega, rfl, rfl, HO4.out, ?_⟩
    rw [Htk.out]
    exact Hk.out
  · obtain rfl : k = s.size := by omega
    have hsl : s.data.toList.length = s.size := by simp
    have he2 := belowT_end2 s.data.toList self
    rw [hsl] at he2
    have hwfb := belowT_wf s.data.toList self
    have hbl := below_lang s.data.toList self
    have hbn := belowT_len s.data.toList self
    rw [hsl] at hbn
    have HB := Lib.hid (And.intro he2 (And.intro hwfb (And.intro hbl hbn)))
    have HR := Lib.hid hrow
    have HO := Lib.hid hO
    clear he2 hwfb hbl hbn hsl hrow hO
    go_wp2_with fail
    refine (auAll_obj wr).mono ?_
    rintro e w1 ⟨g1, g2, rfl, hb1, q1, q2, q3, o1, o2⟩
    have hO1 := HO.out.adopt hb1 q1 o1
    have hfd : ∀ w : World, (Instr.field 24 (.agg #[.slice (some ⟨g2, 0, none⟩) 1 1]) 0).run Tryd.prog w = .ok (.slice (some ⟨g2, 0, none⟩) 1 1) w := fun _ => by kernel_rfl
    have c0 := o2.cell (i := 0) rfl
    have c1 := o2.cell (i := 1) rfl
    have cl := o2.lt
    have hO2 := hO1.al #[.bool self, .slice none 0 0, .bool true, .slice (some ⟨g1, 0, none⟩) 1 1] 48
    have hnews := hO2.obj.news rfl
    have hxl := (hO1.swap.row).1
    have hw1 : IntKind.i64.wrap ((s.size : Int) + 1) = (s.size : Int) + 1 := IntWalk.i64_in _ (by omega)
    clear hO1 HO hb1 q1 q2 q3 o1 o2
    go_wp2_with (at_builtin; refine wpList_append_row tyStates rfl (.tmp 54) (.tmp 61) rfl (.slice voa s.size voc) s.size xs rfl hO2.third.row ⟨w1.heap.size, 0, none⟩ 2 2 [.bool self, .slice none 0 0, .bool true, .slice (some ⟨g1, 0, none⟩) 1 1] rfl rfl hnews (by simp [Value.oneCell']) (by unfold maxLen; omega) (by omega) ?_)
    intro va vc w7 hown7 hgrow7 hrow7
    have hO3 := (hO2.third.app hown7 hgrow7 hrow7 (by simp)).drop2
    obtain ⟨vb, rfl⟩ := row_some hO3.row (by omega)
    have r1 := row_cellw (j := (s.size + 1) * 2 + 1) (u := .slice (some ⟨g1, 0, none⟩) 1 1) hO3.row (by
      rw [List.getElem?_append_right (by omega), show (s.size + 1) * 2 + 1 - xs.length = 3 by omega]; rfl)
    have r2 := (World.ownsRow.lt hO3.row _ rfl).2
    have e1 := hO3.swap.obj.cell (i := 2) rfl
    have e2 := hO3.swap.obj.frozen 2
    have e3 := hO3.swap.obj.lt
    have hO4 := (hO3.swap.set 2 (.int .i64 ((s.size : Int) + 1)))
    have hed := oneEdge (mk := mk) (lo := 0) (hi := 255) (to := (s.size : Int) + 1) hO4.obj ⟨by show 0 < 256; omega, by show 255 < 256; omega, by show _ ≤ (s.size : Int) + 1; omega, by show (s.size : Int) + 1 ≤ _; omega⟩
    have hmk2 := Mem.le_add (w := w7.setCell ⟨g1, 2, none⟩ (.int .i64 ((s.size : Int) + 1))) hO4.objFree
    have hO5 := hO4.sealObj
    have hrow5 := ((HR.out.mono hmk2).push (s := ⟨self, []⟩) (noEdges _)).push (s := ⟨true, [⟨0, 255, (s.size : Int) + 1⟩]⟩) hed
    rw [← HB.out.1] at hrow5
    have hst := statesAt_of_row (l := belowT s.data.toList self) (m := mk.add (w7.setCell ⟨g1, 2, none⟩ (.int .i64 ((s.size : Int) + 1))) g1) (by rw [HB.out.2.2.2]; simpa using hO5.row) (by simpa using hrow5) hO5.free
    have hO6 := hO5.sealRow
    have hml : m.le _ := hO6.ext.le
    have HM := Lib.hid (auMinimal_any _ (belowT s.data.toList self) _ _ hO6.inn (htab.le hml) hst (by rw [HB.out.2.2.2]; omega))
    have HO6 := Lib.hid hO6
    have hi1 : ((s.size : Int) + 1) < ((s.size : Int) + 2) := by omega
    have hi2 : s.size + 1 < s.size + 2 := by omega
    clear hO6 hml hst hrow5 hO5 hmk2 hed hO4 hO3 hO2 hown7 hgrow7 hrow7 hnews hxl c0 c1 cl hfd
    go_wp2_with fail
    refine HM.out.mono ?_
    rintro e w2 ⟨r, C, rfl, hb2, hst, hClen, hmin, hnot⟩
    have hwf := HB.out.2.1.1
    rw [tf_true hwf]
    obtain ⟨ra, rc, rfl⟩ : ∃ ra rc, r = .slice ra C.length rc := by obtain ⟨x, y, e, -⟩ := hst; exact ⟨x, y, e⟩
    have hO7 := (HO6.out.call hb2).al #[.slice ra C.length rc] 24
    have g1' := hO7.swap.obj.cell (i := 0) rfl
    have g2' := hO7.swap.obj.frozen 0
    have g3' := hO7.swap.obj.lt
    have hO8 := hO7.swap.set 0 (.slice ra C.length rc)
    have g4' := hO8.obj.cell (i := 0) rfl
    have hfin := statesAt_le hO8.done hst
    have Hk := Lib.hid (And.intro hO8.below (And.intro hfin (And.intro (hmin hwf) hClen)))
    clear hO8 hO7 hfin hmin hnot hst hClen HO6 hwf HM
    go_wp2
    refine bodyPost_ret (v := .agg #[.slice ra C.length rc]) (by simp [results, Tryd.results54, go_sem, g4']) rfl ?_
    refine hR.out _ _ ⟨_, C, rfl, Hk.out.1, Hk.out.2.1, ⟨Hk.out.2.2.1.canon, fun x => ?_⟩, ?_⟩
    · rw [Hk.out.2.2.1.lang]
      have := HB.out.2.2.1 x 0 (Nat.zero_le _)
      rw [List.drop_zero] at this
      exact this
    · have h1 := Hk.out.2.2.2
      have h2 := HB.out.2.2.2
      omega
end Cl
namespace Cl
open Go Go.RowKit Go.Proofs

theorem wordT_eq (s : ByteArray) : wordT s.data.toList s.size ++ [⟨true, []⟩] = wordL s.data.toList := by
  unfold wordT wordL
  simp

set_option maxRecDepth 100000 in
set_option maxHeartbeats 4000000 in
theorem langBound_any (op s : ByteArray) (m : Mem) (w : World) (hm : m.inn w) (htab : TabM m) (_ : op.size ≤ 1000) (hs : s.size ≤ 1000) :
    Calls Tryd.prog 33 #[.string op, .string s] w fun e w' => ∃ r C, e = .returned (.tuple #[.agg #[r], .int .i64 (if (boundF op.toList s.data.toList).isSome then 0 else 8)]) ∧ Below w.heap.size w w' ∧ statesAt (m.grow w w') r C ∧
      (∀ f, boundF op.toList s.data.toList = some f → LangIs f C) ∧ (boundF op.toList s.data.toList = none → C = []) ∧ C.length ≤ 10000 := by
  have hO := (Own.start hm).al #[.slice none 0 0] 24
  have HO := Lib.hid hO
  have HB := Lib.hid (fun self => langBelow_any s self m _ hO.inn htab hs)
  have HW := Lib.hid (auWord_any s m _ hO.inn hs)
  clear hO
  refine calls_hide fun R hR => ?_
  go_enter Tryd.func33, Tryd.ntmps33
  have hnc : ∀ x : ByteArray, Hid (x = x) := fun x => Lib.hid rfl
  clear hnc
  go_wp2_with fail
  · -- way 0
    have h0 : (op.toList == [60]) = true := by assumption
    have hf : boundF op.toList s.data.toList = some (belowB false · s.data.toList) := by simp [boundF, beq_iff_eq.1 h0]
    refine (HB.out false).mono ?_
    rintro e w1 ⟨r, C, rfl, hb1, hst, hlang, hClen⟩
    have hO1 := HO.out.call hb1
    obtain ⟨ra, rc, rfl⟩ : ∃ ra rc, r = .slice ra C.length rc := by obtain ⟨x, y, e, -⟩ := hst; exact ⟨x, y, e⟩
    clear h0 hb1
    have g1 := hO1.obj.cell (i := 0) rfl
    have g2 := hO1.obj.frozen 0
    have g3 := hO1.obj.lt
    have hO2 := hO1.set 0 (.slice ra C.length rc)
    have g4 := hO2.obj.cell (i := 0) rfl
    have Hk := Lib.hid (And.intro hO2.below (And.intro (statesAt_le hO2.done hst) (And.intro hlang (And.intro hClen hf))))
    clear hO2 hO1 hst hlang hClen hf
    go_wp2
    refine bodyPost_ret (v := .tuple #[.agg #[.slice ra C.length rc], .int .i64 0]) (by simp [results, Tryd.results33, go_sem, g4]) rfl ?_
    refine hR.out _ _ ⟨_, C, by rw [Hk.out.2.2.2.2]; rfl, Hk.out.1, Hk.out.2.1, fun f h => ?_, fun h => ?_, ?_⟩
    · rw [Hk.out.2.2.2.2] at h; cases h; exact Hk.out.2.2.1
    · rw [Hk.out.2.2.2.2] at h; cases h
    · have := Hk.out.2.2.2.1; omega
  · -- way 1
    have h0 : (op.toList == [60]) = false := by assumption
    have h1 : (op.toList == [60, 61]) = true := by assumption
    have hf : boundF op.toList s.data.toList = some (belowB true · s.data.toList) := by simp [boundF, beq_iff_eq.1 h1]
    refine (HB.out true).mono ?_
    rintro e w1 ⟨r, C, rfl, hb1, hst, hlang, hClen⟩
    have hO1 := HO.out.call hb1
    obtain ⟨ra, rc, rfl⟩ : ∃ ra rc, r = .slice ra C.length rc := by obtain ⟨x, y, e, -⟩ := hst; exact ⟨x, y, e⟩
    clear h0 h1 hb1
    have g1 := hO1.obj.cell (i := 0) rfl
    have g2 := hO1.obj.frozen 0
    have g3 := hO1.obj.lt
    have hO2 := hO1.set 0 (.slice ra C.length rc)
    have g4 := hO2.obj.cell (i := 0) rfl
    have Hk := Lib.hid (And.intro hO2.below (And.intro (statesAt_le hO2.done hst) (And.intro hlang (And.intro hClen hf))))
    clear hO2 hO1 hst hlang hClen hf
    go_wp2
    refine bodyPost_ret (v := .tuple #[.agg #[.slice ra C.length rc], .int .i64 0]) (by simp [results, Tryd.results33, go_sem, g4]) rfl ?_
    refine hR.out _ _ ⟨_, C, by rw [Hk.out.2.2.2.2]; rfl, Hk.out.1, Hk.out.2.1, fun f h => ?_, fun h => ?_, ?_⟩
    · rw [Hk.out.2.2.2.2] at h; cases h; exact Hk.out.2.2.1
    · rw [Hk.out.2.2.2.2] at h; cases h
    · have := Hk.out.2.2.2.1; omega
  · -- way 2
    have h0 : (op.toList == [60]) = false := by assumption
    have h1 : (op.toList == [60, 61]) = false := by assumption
    have h2 : (op.toList == [62]) = true := by assumption
    have hf : boundF op.toList s.data.toList = some fun v => !belowB true v s.data.toList := by simp [boundF, beq_iff_eq.1 h2]
    refine (HB.out true).mono ?_
    rintro e w1 ⟨r, C, rfl, hb1, hst, hlang, hClen⟩
    have hO1 := HO.out.call hb1
    obtain ⟨ra, rc, rfl⟩ : ∃ ra rc, r = .slice ra C.length rc := by obtain ⟨x, y, e, -⟩ := hst; exact ⟨x, y, e⟩
    have HN := Lib.hid (langNot_any (.slice ra C.length rc) C _ w1 hO1.inn (htab.le hO1.ext.le) hst (by omega))
    have Hf := Lib.hid (And.intro hf (And.intro hlang hClen))
    have HO1 := Lib.hid hO1
    clear hf hlang hClen hst hO1 hb1 h0 h1 h2
    go_wp2_with fail
    refine HN.out.mono ?_
    rintro e w2 ⟨r2, C2, rfl, hb2, hst, hlang2, hClen2⟩
    have hO1 := HO1.out.call hb2
    have hf := Hf.out.1
    have hlang := hlang2.congr fun x => by rw [Hf.out.2.1.sem x]
    have hClen : C2.length ≤ 3 * (s.size + 5) + 1 := by have := Hf.out.2.2; omega
    clear hlang2 hClen2 HN Hf HO1 hb2
    generalize C2 = C at *
    obtain ⟨ra, rc, rfl⟩ : ∃ ra rc, r2 = .slice ra C.length rc := by obtain ⟨x, y, e, -⟩ := hst; exact ⟨x, y, e⟩
    have g1 := hO1.obj.cell (i := 0) rfl
    have g2 := hO1.obj.frozen 0
    have g3 := hO1.obj.lt
    have hO2 := hO1.set 0 (.slice ra C.length rc)
    have g4 := hO2.obj.cell (i := 0) rfl
    have Hk := Lib.hid (And.intro hO2.below (And.intro (statesAt_le hO2.done hst) (And.intro hlang (And.intro hClen hf))))
    clear hO2 hO1 hst hlang hClen hf
    go_wp2
    refine bodyPost_ret (v := .tuple #[.agg #[.slice ra C.length rc], .int .i64 0]) (by simp [results, Tryd.results33, go_sem, g4]) rfl ?_
    refine hR.out _ _ ⟨_, C, by rw [Hk.out.2.2.2.2]; rfl, Hk.out.1, Hk.out.2.1, fun f h => ?_, fun h => ?_, ?_⟩
    · rw [Hk.out.2.2.2.2] at h; cases h; exact Hk.out.2.2.1
    · rw [Hk.out.2.2.2.2] at h; cases h
    · have := Hk.out.2.2.2.1; omega
  · -- way 3
    have h0 : (op.toList == [60]) = false := by assumption
    have h1 : (op.toList == [60, 61]) = false := by assumption
    have h2 : (op.toList == [62]) = false := by assumption
    have h3 : (op.toList == [62, 61]) = true := by assumption
    have hf : boundF op.toList s.data.toList = some fun v => !belowB false v s.data.toList := by simp [boundF, beq_iff_eq.1 h3]
    refine (HB.out false).mono ?_
    rintro e w1 ⟨r, C, rfl, hb1, hst, hlang, hClen⟩
    have hO1 := HO.out.call hb1
    obtain ⟨ra, rc, rfl⟩ : ∃ ra rc, r = .slice ra C.length rc := by obtain ⟨x, y, e, -⟩ := hst; exact ⟨x, y, e⟩
    have HN := Lib.hid (langNot_any (.slice ra C.length rc) C _ w1 hO1.inn (htab.le hO1.ext.le) hst (by omega))
    have Hf := Lib.hid (And.intro hf (And.intro hlang hClen))
    have HO1 := Lib.hid hO1
    clear hf hlang hClen hst hO1 hb1 h0 h1 h2 h3
    go_wp2_with fail
    refine HN.out.mono ?_
    rintro e w2 ⟨r2, C2, rfl, hb2, hst, hlang2, hClen2⟩
    have hO1 := HO1.out.call hb2
    have hf := Hf.out.1
    have hlang := hlang2.congr fun x => by rw [Hf.out.2.1.sem x]
    have hClen : C2.length ≤ 3 * (s.size + 5) + 1 := by have := Hf.out.2.2; omega
    clear hlang2 hClen2 HN Hf HO1 hb2
    generalize C2 = C at *
    obtain ⟨ra, rc, rfl⟩ : ∃ ra rc, r2 = .slice ra C.length rc := by obtain ⟨x, y, e, -⟩ := hst; exact ⟨x, y, e⟩
    have g1 := hO1.obj.cell (i := 0) rfl
    have g2 := hO1.obj.frozen 0
    have g3 := hO1.obj.lt
    have hO2 := hO1.set 0 (.slice ra C.length rc)
    have g4 := hO2.obj.cell (i := 0) rfl
    have Hk := Lib.hid (And.intro hO2.below (And.intro (statesAt_le hO2.done hst) (And.intro hlang (And.intro hClen hf))))
    clear hO2 hO1 hst hlang hClen hf
    go_wp2
    refine bodyPost_ret (v := .tuple #[.agg #[.slice ra C.length rc], .int .i64 0]) (by simp [results, Tryd.results33, go_sem, g4]) rfl ?_
    refine hR.out _ _ ⟨_, C, by rw [Hk.out.2.2.2.2]; rfl, Hk.out.1, Hk.out.2.1, fun f h => ?_, fun h => ?_, ?_⟩
    · rw [Hk.out.2.2.2.2] at h; cases h; exact Hk.out.2.2.1
    · rw [Hk.out.2.2.2.2] at h; cases h
    · have := Hk.out.2.2.2.1; omega
  · -- way 4
    have h0 : (op.toList == [60]) = false := by assumption
    have h1 : (op.toList == [60, 61]) = false := by assumption
    have h2 : (op.toList == [62]) = false := by assumption
    have h3 : (op.toList == [62, 61]) = false := by assumption
    have h4 : (op.toList == [61, 61]) = true := by assumption
    have hf : boundF op.toList s.data.toList = some fun v => decide (v = s.data.toList) := by simp [boundF, beq_iff_eq.1 h4]
    refine HW.out.mono ?_
    rintro e w1 ⟨r, rfl, hb1, hst⟩
    rw [wordT_eq] at hst
    have hlang := word_is s.data.toList
    have hClen : (wordL s.data.toList).length ≤ s.size + 3 := by rw [wordL_len]; simp
    obtain ⟨C, hCC⟩ : ∃ C, wordL s.data.toList = C := ⟨_, rfl⟩
    rw [hCC] at hst hlang hClen
    have hO1 := HO.out.call hb1
    obtain ⟨ra, rc, rfl⟩ : ∃ ra rc, r = .slice ra C.length rc := by obtain ⟨x, y, e, -⟩ := hst; exact ⟨x, y, e⟩
    clear h0 h1 h2 h3 h4 hCC hb1
    have g1 := hO1.obj.cell (i := 0) rfl
    have g2 := hO1.obj.frozen 0
    have g3 := hO1.obj.lt
    have hO2 := hO1.set 0 (.slice ra C.length rc)
    have g4 := hO2.obj.cell (i := 0) rfl
    have Hk := Lib.hid (And.intro hO2.below (And.intro (statesAt_le hO2.done hst) (And.intro hlang (And.intro hClen hf))))
    clear hO2 hO1 hst hlang hClen hf
    go_wp2
    refine bodyPost_ret (v := .tuple #[.agg #[.slice ra C.length rc], .int .i64 0]) (by simp [results, Tryd.results33, go_sem, g4]) rfl ?_
    refine hR.out _ _ ⟨_, C, by rw [Hk.out.2.2.2.2]; rfl, Hk.out.1, Hk.out.2.1, fun f h => ?_, fun h => ?_, ?_⟩
    · rw [Hk.out.2.2.2.2] at h; cases h; exact Hk.out.2.2.1
    · rw [Hk.out.2.2.2.2] at h; cases h
    · have := Hk.out.2.2.2.1; omega
  · -- way 5
    have h0 : (op.toList == [60]) = false := by assumption
    have h1 : (op.toList == [60, 61]) = false := by assumption
    have h2 : (op.toList == [62]) = false := by assumption
    have h3 : (op.toList == [62, 61]) = false := by assumption
    have h4 : (op.toList == [61, 61]) = false := by assumption
    have h5 : (op.toList == [33, 61]) = true := by assumption
    have hf : boundF op.toList s.data.toList = some fun v => !decide (v = s.data.toList) := by simp [boundF, beq_iff_eq.1 h5]
    refine HW.out.mono ?_
    rintro e w1 ⟨r, rfl, hb1, hst⟩
    rw [wordT_eq] at hst
    have hlang := word_is s.data.toList
    have hClen : (wordL s.data.toList).length ≤ s.size + 3 := by rw [wordL_len]; simp
    obtain ⟨C, hCC⟩ : ∃ C, wordL s.data.toList = C := ⟨_, rfl⟩
    rw [hCC] at hst hlang hClen
    have hO1 := HO.out.call hb1
    obtain ⟨ra, rc, rfl⟩ : ∃ ra rc, r = .slice ra C.length rc := by obtain ⟨x, y, e, -⟩ := hst; exact ⟨x, y, e⟩
    have HN := Lib.hid (langNot_any (.slice ra C.length rc) C _ w1 hO1.inn (htab.le hO1.ext.le) hst (by omega))
    have Hf := Lib.hid (And.intro hf (And.intro hlang hClen))
    have HO1 := Lib.hid hO1
    clear hf hlang hClen hst hO1 hb1 h0 h1 h2 h3 h4 h5 hCC
    go_wp2_with fail
    refine HN.out.mono ?_
    rintro e w2 ⟨r2, C2, rfl, hb2, hst, hlang2, hClen2⟩
    have hO1 := HO1.out.call hb2
    have hf := Hf.out.1
    have hlang := hlang2.congr fun x => by rw [Hf.out.2.1.sem x]
    have hClen : C2.length ≤ 3 * (s.size + 5) + 1 := by have := Hf.out.2.2; omega
    clear hlang2 hClen2 HN Hf HO1 hb2
    generalize C2 = C at *
    obtain ⟨ra, rc, rfl⟩ : ∃ ra rc, r2 = .slice ra C.length rc := by obtain ⟨x, y, e, -⟩ := hst; exact ⟨x, y, e⟩
    have g1 := hO1.obj.cell (i := 0) rfl
    have g2 := hO1.obj.frozen 0
    have g3 := hO1.obj.lt
    have hO2 := hO1.set 0 (.slice ra C.length rc)
    have g4 := hO2.obj.cell (i := 0) rfl
    have Hk := Lib.hid (And.intro hO2.below (And.intro (statesAt_le hO2.done hst) (And.intro hlang (And.intro hClen hf))))
    clear hO2 hO1 hst hlang hClen hf
    go_wp2
    refine bodyPost_ret (v := .tuple #[.agg #[.slice ra C.length rc], .int .i64 0]) (by simp [results, Tryd.results33, go_sem, g4]) rfl ?_
    refine hR.out _ _ ⟨_, C, by rw [Hk.out.2.2.2.2]; rfl, Hk.out.1, Hk.out.2.1, fun f h => ?_, fun h => ?_, ?_⟩
    · rw [Hk.out.2.2.2.2] at h; cases h; exact Hk.out.2.2.1
    · rw [Hk.out.2.2.2.2] at h; cases h
    · have := Hk.out.2.2.2.1; omega
  · -- way 6
    have h0 : (op.toList == [60]) = false := by assumption
    have h1 : (op.toList == [60, 61]) = false := by assumption
    have h2 : (op.toList == [62]) = false := by assumption
    have h3 : (op.toList == [62, 61]) = false := by assumption
    have h4 : (op.toList == [61, 61]) = false := by assumption
    have h5 : (op.toList == [33, 61]) = false := by assumption
    have hf : boundF op.toList s.data.toList = none := by simp [boundF, beq_eq_false_iff_ne.1 h0, beq_eq_false_iff_ne.1 h1, beq_eq_false_iff_ne.1 h2, beq_eq_false_iff_ne.1 h3, beq_eq_false_iff_ne.1 h4, beq_eq_false_iff_ne.1 h5]
    have Hf := Lib.hid hf
    clear h0 h1 h2 h3 h4 h5 hf
    go_wp2
    refine bodyPost_ret (v := .tuple #[.agg #[.slice none 0 0], .int .i64 8]) (by simp [results, Tryd.results33, go_sem]) rfl ?_
    refine hR.out _ _ ⟨_, [], by rw [Hf.out]; rfl, HO.out.below, statesAt_nil _, fun f h => ?_, fun _ => rfl, by simp⟩
    rw [Hf.out] at h; cases h
end Cl

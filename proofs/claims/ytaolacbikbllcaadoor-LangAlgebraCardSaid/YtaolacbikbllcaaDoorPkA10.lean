/- Lemmas for the proofs: WalkBG, Range2, WalkBH, WalkBI, WalkBJ. -/
import Derived.Laws.EntriesVeiled
import Derived.Test.YtaolacbikbllcaaDoorPkA2
import Derived.Test.YtaolacbikbllcaaDoorPkA6
import Derived.Test.YtaolacbikbllcaaDoorPkA9
import Derived.Test.YtaolacbikbllcaaDoorPkA1
import Derived.Test.YtaolacbikbllcaaDoorPkA5
import Derived.Test.YtaolacbikbllcaaDoorPkA3
import Derived.Test.YtaolacbikbllcaaDoorPkA4
import Derived.Test.YtaolacbikbllcaaDoorPkA8
namespace Cl
open Go Go.RowKit Go.Proofs

theorem tyBoolss : SliceTy Tryd.prog 57 41 1 24 := ⟨Tryd.underlying57, by omega, by
  obtain ⟨i, h1, h2, h3, h4⟩ := info_parts (P := Tryd.prog) (e := 41) (z := .slice none 0 0) (size := 1) (bytes := 24) (by kernel_rfl)
  exact ⟨i, _, h1, h2, h3, h4, rfl⟩⟩
/-- the rows of the table: which states have words of each length -/
def CanRow (T : Table) (mk : Mem) (xs : List Value) (n : Nat) : Prop := xs.length = n ∧ ∀ i, i < n → ∃ u, xs[i]? = some u ∧ boolsAt mk u (canN T i)
theorem CanRow.mono {T : Table} {mk mk' : Mem} {xs : List Value} {n : Nat} (h : CanRow T mk xs n) (hl : mk.le mk') : CanRow T mk' xs n :=
  ⟨h.1, fun i hi => let ⟨u, h1, h2⟩ := h.2 i hi; ⟨u, h1, boolsAt_le hl h2⟩⟩
theorem CanRow.push {T : Table} {mk : Mem} {xs : List Value} {n : Nat} (h : CanRow T mk xs n) {u : Value} (hu : boolsAt mk u (canN T n)) : CanRow T mk (xs ++ [u]) (n + 1) := by
  refine ⟨by rw [List.length_append, h.1]; rfl, fun i hi => ?_⟩
  by_cases e : i < n
  · obtain ⟨v, h1, h2⟩ := h.2 i e
    exact ⟨v, by rw [List.getElem?_append_left (by rw [h.1]; exact e)]; exact h1, h2⟩
  · obtain rfl : i = n := by omega
    exact ⟨u, by rw [List.getElem?_append_right (by rw [h.1]; exact Nat.le_refl _), h.1]; simp, hu⟩

theorem row_cap {w : World} {t : TypeId} {size n c g : Nat} {xs : List Value} (h : w.ownsRow 0 t size (.slice (some ⟨g, 0, none⟩) n c) n xs) : n ≤ c ∧ c ≤ maxLen := by
  rcases h.2 with ⟨h, -⟩ | ⟨g', cap, cur, h, -, -, hnc, hcm, -⟩
  · cases h
  · injection h with h1 h2 h3; subst h3; exact ⟨hnc, hcm⟩

set_option maxRecDepth 100000 in
set_option maxHeartbeats 8000000 in
theorem words1_any {T : Table} {l ga : Nat} {w0 : World} {m mk : Mem} {B Bx : List (List UInt8) → List Item → Prop} {va : Value} {L1 : List Item} {W : World} (hC : Canon T) (K : Nat) (hK : (K + 1) * (T.length + 1) ≤ 1000000)
    (hY : YieldOK Tryd.prog l (fun x : List UInt8 => #[Value.string ⟨x.toArray⟩]) w0 m mk B Bx) (ca : mk.cell ga 0 = some va) (htab : statesAt mk va T) (hBK : ∀ pre Lt, B pre Lt → pre.length < K) (hB : B [] L1) (hO : Own w0 m W mk L1) :
    Calls Tryd.prog 70 #[.func (.yield l) #[] #[], .pointer (some ⟨ga, 0, none⟩)] W
      (SeqEnd w0 m mk B Bx (fun xs => ∃ n, xs = enum T 0 n ∧ ∀ y, accFrom T 0 y = true → y.length < n) (fun xs => ∃ n, xs <+: enum T 0 n ∧ xs ≠ [])) := by
  have hKT : K * T.length + K + T.length + 1 ≤ 1000000 := by
    have : (K + 1) * (T.length + 1) = K * T.length + K + T.length + 1 := by rw [Nat.add_mul, Nat.mul_add]; omega
    omega
  generalize hKL : K * T.length = KT at *
  have HKL := Lib.hid hKL
  have hta := htab
  obtain ⟨aa, ac, rfl, a1, a2, a3⟩ := htab
  have ha := Mem.cell_w hO.inn ca
  have hal := Mem.cell_lt hO.inn ca
  have HX := Lib.hid (And.intro hta (And.intro hY (And.intro hBK (And.intro hC ca))))
  have HO := Lib.hid (And.intro hO hB)
  unfold maxLen at a2
  refine calls_hide fun R hR => ?_
  clear hO hB hta hY hBK hC hKL ca
  go_enter Tryd.func70, Tryd.ntmps70
  go_wp2
  refine wp_loop_keep [0, 1, 3, 4, 9, 10] (fun q vs W1 => ∃ (k : Nat) (vf : Value), k ≤ T.length ∧ q = T.length - k ∧ vs = [.func (.yield l) #[] #[], .pointer (some ⟨ga, 0, none⟩), .slice none 0 0, vf, .int .i64 T.length, .int .i64 k] ∧
    Own w0 m W1 mk (.row vf 4 1 k (((T.take k).map (·.accept)).map Value.bool) :: L1)) ?_ ?_
  · exact ⟨_, 0, .slice none 0 0, Nat.zero_le _, rfl, rfl, HO.out.1.nilRow _ _⟩
  clear ha hal
  rintro X z q vs W1 hX - ⟨k, vf, hk, rfl, rfl, hO⟩
  simp [litL, lk]
  obtain ⟨vfa, vfc, rfl⟩ := row_slice hO.row
  have ha := Mem.cell_w hO.inn HX.out.2.2.2.2
  have hal := Mem.cell_lt hO.inn HX.out.2.2.2.2
  by_cases hlt : k < T.length
  · obtain ⟨b, off, rfl, a4⟩ := a3 (by intro h; simp [h] at hlt)
    have s1w := Mem.cell_w hO.inn (a4 k hlt).1
    have s1l := Mem.cell_lt hO.inn (a4 k hlt).1
    have htk : (T.take (k + 1)).map (·.accept) = (T.take k).map (·.accept) ++ [(T[k]).accept] := by rw [List.take_succ_eq_append_getElem hlt, List.map_append]; rfl
    have Htk := Lib.hid htk
    generalize (T[k]).accept = y at *
    have hO2 := hO.al #[.bool y] 4
    have hnews := hO2.obj.news rfl
    clear htk hO a4
    go_wp2_with (at_builtin; refine wpList_append_row tyBools rfl (.tmp 13) (.tmp 20) rfl (.slice vfa k vfc) k _ rfl hO2.swap.row ⟨W1.heap.size, 0, none⟩ 1 1 [.bool y] rfl rfl hnews (by simp [Value.oneCell']) (by unfold maxLen; omega) (by omega) ?_)
    intro va' vc' w7 hown7 hgrow7 hrow7
    have hO3 := (hO2.swap.app hown7 hgrow7 hrow7 (by simp)).drop2
    have HO3 := Lib.hid hO3
    clear hO3 hO2 hown7 hgrow7 hrow7 hnews
    go_wp2
    refine hX.out _ _ _ (by omega) rfl ⟨k + 1, .slice va' (k + 1) vc', by omega, rfl, rfl, ?_⟩
    rw [Htk.out, List.map_append]
    have := HO3.out
    simpa using this
  · obtain rfl : k = T.length := by omega
    rw [List.take_length, ← canN_zero] at hO
    have hb0 := boolsAt_of_row (l := canN T 0) (m := mk) (by rw [canN_len]; exact hO.row)
    have hle0 := Mem.le_addv (w := W1) hO.free
    have hO1 := hO.sealRow
    generalize mk.addv W1 (.slice vfa T.length vfc) = mk1 at *
    have hO2 := ((hO1.nilRow 41 1).al #[.slice vfa T.length vfc] 41)
    have hnews := hO2.obj.news rfl
    have Hb := Lib.hid (And.intro hb0 hle0)
    clear hO hO1 hb0 hle0
    go_wp2_with (at_builtin; refine wpList_append_row tyBoolss rfl (.tmp 23) (.tmp 25) rfl (.slice none 0 0) 0 [] rfl hO2.swap.row ⟨W1.heap.size, 0, none⟩ 1 1 [.slice vfa T.length vfc] rfl rfl hnews (by simp [Value.oneCell']) (by unfold maxLen; omega) (by omega) ?_)
    intro va' vc' w7 hown7 hgrow7 hrow7
    have hO3 := (hO2.swap.app hown7 hgrow7 hrow7 (by simp)).drop2
    have HO3 := Lib.hid hO3
    clear hO3 hO2 hown7 hgrow7 hrow7 hnews
    go_wp2
    refine wp_loop_keep [0, 1, 3, 6] (fun q vs W2 => ∃ (n rn : Nat) (vt : Value) (xs : List Value) (mk2 : Mem) (Lt : List Item), q = KT + 1 - n ∧ (n = 0 ∧ rn = 1 ∨ 0 < n ∧ rn = n ∧ n ≤ KT) ∧
      vs = [.func (.yield l) #[] #[], .pointer (some ⟨ga, 0, none⟩), vt, .int .i64 n] ∧
      mk.le mk2 ∧ B (enum T 0 n) Lt ∧ Own w0 m W2 mk2 (.row vt 41 1 rn xs :: Lt) ∧ CanRow T mk2 xs rn) ?_ ?_
    · refine ⟨_, 0, 1, .slice va' 1 vc', [.slice vfa T.length vfc], mk1, L1, rfl, .inl ⟨rfl, rfl⟩, rfl, Hb.out.2, HO.out.2, by simpa using HO3.out, ?_⟩
      exact CanRow.push (n := 0) (xs := []) ⟨rfl, fun i hi => by omega⟩ Hb.out.1
    clear HO3 ha hal
    rintro Y z2 q vs W2 hY2 - ⟨n, rn, vt, xs, mk2, Lt, rfl, hrn, rfl, hle2, hB2, hO2, hCR⟩
    simp [litL, lk]
    obtain ⟨vta, vtc, rfl⟩ := row_slice hO2.row
    have hrn1 : 0 < rn := by omega
    obtain ⟨tb, rfl⟩ := row_some hO2.row hrn1
    have ha := Mem.cell_w hO2.inn (Mem.cell_le hle2 HX.out.2.2.2.2)
    have hal := Mem.cell_lt hO2.inn (Mem.cell_le hle2 HX.out.2.2.2.2)
    have hnK : n ≤ KT := by omega
    by_cases hT : 0 < T.length
    · have hd1 : decide (0 < T.length) = true := decide_eq_true hT
      -- the table has a row for n
      have HQ := Lib.hid (And.intro hO2 (And.intro hB2 (And.intro hle2 hCR)))
      clear hO2 hB2 hle2 hCR
      go_upto_if 34 with (fail)
      refine wp_cut_keep [0, 1, 3, 6] (fun vs w' => ∃ (vt2 : Value) (xs2 : List Value) (mk3 : Mem), vs = [.func (.yield l) #[] #[], .pointer (some ⟨ga, 0, none⟩), vt2, .int .i64 n] ∧
        mk.le mk3 ∧ Own w0 m w' mk3 (.row vt2 41 1 (n + 1) xs2 :: Lt) ∧ CanRow T mk3 xs2 (n + 1)) ?_ ?_
      · intro V hV
        rcases hrn with ⟨rfl, rfl⟩ | ⟨hn0, rfl, -⟩
        · go_wp2
          exact hV.out _ _ rfl ⟨.slice (some ⟨tb, 0, none⟩) 1 vtc, xs, mk2, rfl, HQ.out.2.2.1, HQ.out.1, HQ.out.2.2.2⟩
        · have hd2 : decide (0 < rn) = true := decide_eq_true hn0
          have hd3 : decide ((0 : Int) < (rn : Int)) = true := decide_eq_true (by omega)
          obtain ⟨n1, rfl⟩ : ∃ n1, rn = n1 + 1 := ⟨rn - 1, by omega⟩
          have hw1 : IntKind.i64.wrap (((n1 + 1 : Nat) : Int) - 1) = (n1 : Int) := by rw [IntWalk.i64_in _ (by omega)]; omega
          have hw2 : IntKind.i64.wrap ((n1 : Int) + 1 - 1) = (n1 : Int) := by rw [IntWalk.i64_in _ (by omega)]; omega
          have hw3 : IntKind.i64.wrap (n1 : Int) = (n1 : Int) := IntWalk.i64_in _ (by omega)
          have hn1 : n1 < n1 + 1 := by omega
          have hn2 : (n1 : Int) < (n1 : Int) + 1 := by omega
          obtain ⟨u, hu1, hu2⟩ := HQ.out.2.2.2.2 n1 hn1
          have hO := HQ.out.1.dr
          go_wp2
          refine wp_region_D (fun j w' => j ≠ 9 → j ≠ 10 → (mk2.inn w' ∧ w'.cell? ⟨tb, n1, none⟩ = some u ∧ tb < w'.heap.size)) (by kernel_rfl) ?_
          have hS : mk2.inn W2.drew ∧ W2.drew.cell? ⟨tb, n1, none⟩ = some u ∧ tb < W2.drew.heap.size := ⟨hO.inn, row_cellw hO.row hu1, (World.ownsRow.lt hO.row _ rfl).2⟩
          have hca := Mem.cell_le HQ.out.2.2.1 HX.out.2.2.2.2
          refine wpAnyD_takeT 0 12 (fun w' => mk2.inn w' ∧ w'.cell? ⟨tb, n1, none⟩ = some u ∧ tb < w'.heap.size) rfl (by kernel_rfl) (fun _ _ _ h => h) (fun j w' hj hd => hd (by rintro rfl; exact waitsT_no (by kernel_rfl) hj) (by rintro rfl; exact waitsT_no (by kernel_rfl) hj)) hS (yields_of rfl fun w' hS' => by have q := hS'.2.1; have q1 := hS'.2.2; have q2 := Mem.cell_w hS'.1 hca; have q3 := Mem.cell_lt hS'.1 hca; go_simp; rfl) ?_
          refine wpAnyD_takeT 1 12 (fun w' => mk2.inn w' ∧ w'.cell? ⟨tb, n1, none⟩ = some u ∧ tb < w'.heap.size) rfl (by kernel_rfl) (fun _ _ _ h => h) (fun j w' hj hd => hd (by rintro rfl; exact waitsT_no (by kernel_rfl) hj) (by rintro rfl; exact waitsT_no (by kernel_rfl) hj)) hS (yields_of rfl fun w' hS' => by have q := hS'.2.1; have q1 := hS'.2.2; have q2 := Mem.cell_w hS'.1 hca; have q3 := Mem.cell_lt hS'.1 hca; go_simp; rfl) ?_
          refine wpAnyD_takeT 2 12 (fun w' => mk2.inn w' ∧ w'.cell? ⟨tb, n1, none⟩ = some u ∧ tb < w'.heap.size) rfl (by kernel_rfl) (fun _ _ _ h => h) (fun j w' hj hd => hd (by rintro rfl; exact waitsT_no (by kernel_rfl) hj) (by rintro rfl; exact waitsT_no (by kernel_rfl) hj)) hS (yields_of rfl fun w' hS' => by have q := hS'.2.1; have q1 := hS'.2.2; have q2 := Mem.cell_w hS'.1 hca; have q3 := Mem.cell_lt hS'.1 hca; go_simp; rfl) ?_
          refine wpAnyD_takeT 3 12 (fun w' => mk2.inn w' ∧ w'.cell? ⟨tb, n1, none⟩ = some u ∧ tb < w'.heap.size) rfl (by kernel_rfl) (fun _ _ _ h => h) (fun j w' hj hd => hd (by rintro rfl; exact waitsT_no (by kernel_rfl) hj) (by rintro rfl; exact waitsT_no (by kernel_rfl) hj)) hS (yields_of rfl fun w' hS' => by have q := hS'.2.1; have q1 := hS'.2.2; have q2 := Mem.cell_w hS'.1 hca; have q3 := Mem.cell_lt hS'.1 hca; go_simp; rfl) ?_
          refine wpAnyD_takeT 4 12 (fun w' => mk2.inn w' ∧ w'.cell? ⟨tb, n1, none⟩ = some u ∧ tb < w'.heap.size) rfl (by kernel_rfl) (fun _ _ _ h => h) (fun j w' hj hd => hd (by rintro rfl; exact waitsT_no (by kernel_rfl) hj) (by rintro rfl; exact waitsT_no (by kernel_rfl) hj)) hS (yields_of rfl fun w' hS' => by have q := hS'.2.1; have q1 := hS'.2.2; have q2 := Mem.cell_w hS'.1 hca; have q3 := Mem.cell_lt hS'.1 hca; go_simp; rfl) ?_
          refine wpAnyD_takeT 5 12 (fun w' => mk2.inn w' ∧ w'.cell? ⟨tb, n1, none⟩ = some u ∧ tb < w'.heap.size) rfl (by kernel_rfl) (fun _ _ _ h => h) (fun j w' hj hd => hd (by rintro rfl; exact waitsT_no (by kernel_rfl) hj) (by rintro rfl; exact waitsT_no (by kernel_rfl) hj)) hS (yields_of rfl fun w' hS' => by have q := hS'.2.1; have q1 := hS'.2.2; have q2 := Mem.cell_w hS'.1 hca; have q3 := Mem.cell_lt hS'.1 hca; go_simp; rfl) ?_
          refine wpAnyD_takeT 6 12 (fun w' => mk2.inn w' ∧ w'.cell? ⟨tb, n1, none⟩ = some u ∧ tb < w'.heap.size) rfl (by kernel_rfl) (fun _ _ _ h => h) (fun j w' hj hd => hd (by rintro rfl; exact waitsT_no (by kernel_rfl) hj) (by rintro rfl; exact waitsT_no (by kernel_rfl) hj)) hS (yields_of rfl fun w' hS' => by have q := hS'.2.1; have q1 := hS'.2.2; have q2 := Mem.cell_w hS'.1 hca; have q3 := Mem.cell_lt hS'.1 hca; go_simp; rfl) ?_
          have hlT := canN_len T n1
          have hcs := canN_succ HX.out.2.2.2.1.wf HX.out.2.2.2.1.bytes n1
          have hcall := can_any (.slice aa T.length ac) u T (canN T n1) mk2 _ hO.inn (statesAt_le HQ.out.2.2.1 HX.out.1) hu2 HX.out.2.2.2.1.wf (by omega) hlT
          refine wpAnyD_only 7 (by kernel_rfl) (wpOp_of rfl rfl (wp_enter (by go_simp; first | done | rfl) hcall ?_))
          rintro e' w3 ⟨r, rfl, hb3, hr3⟩
          rw [show T.map (canF (canN T n1)) = canN T (n1 + 1) from hcs.symm] at hr3
          have hO3 := hO.call hb3
          have hle3 := Mem.le_grow (w := w3) hO.inn
          clear hcs hlT
          obtain ⟨rra, rrc, rfl⟩ : ∃ xa xc, r = .slice xa (canN T (n1 + 1)).length xc := by obtain ⟨x, y, e, -⟩ := hr3; exact ⟨x, y, e⟩
          refine ⟨_, rfl, .inr fun _ _ => ⟨Mem.inn_le hle3 hO3.inn, row_cellw hO3.row hu1, (World.ownsRow.lt hO3.row _ rfl).2⟩, ?_⟩
          go_simp
          have hO4 := hO3.al #[.slice rra (canN T (n1 + 1)).length rrc] 41
          refine wpAnyD_only 8 (by kernel_rfl) (wpOp_of rfl rfl (wp_value (by go_simp; first | done | exact ⟨rfl, rfl⟩ | rfl) ⟨.inr fun _ _ => ⟨Mem.inn_le hle3 hO4.inn, row_cellw hO4.swap.row hu1, (World.ownsRow.lt hO4.swap.row _ rfl).2⟩, ?_⟩))
          go_simp
          refine wpAnyD_only 9 (by kernel_rfl) (wpOp_of rfl rfl (wp_append_row tyBoolss (.tmp 35) (.tmp 43) rfl (.slice (some ⟨tb, 0, none⟩) (n1 + 1) vtc) (n1 + 1) xs rfl hO4.swap.row ⟨w3.heap.size, 0, none⟩ 1 1 [.slice rra (canN T (n1 + 1)).length rrc] rfl rfl (hO4.obj.news rfl) (by simp [Value.oneCell']) (by unfold maxLen; omega) (by omega) (fun na' nc' w7 hown7 hgrow7 hrow7 => ?_)))
          have hO5 := (hO4.swap.app hown7 hgrow7 hrow7 (Nat.le_refl _)).drop2
          refine ⟨.inr fun h => absurd rfl h, ?_⟩
          go_simp
          refine wpAnyD_only 10 (by kernel_rfl) (wpOp_of rfl rfl (wp_value (by go_simp; first | done | exact ⟨rfl, rfl⟩ | rfl) ⟨.inl rfl, ?_⟩))
          refine wpAnyD_done (by kernel_rfl) ?_ _
          exact hV.out _ _ rfl ⟨.slice na' (n1 + 1 + 1) nc', xs ++ [.slice rra (canN T (n1 + 1)).length rrc], mk2.grow W2.drew w3, rfl, Mem.le_trans HQ.out.2.2.1 hle3, hO5, (HQ.out.2.2.2.mono hle3).push hr3⟩
      rintro z3 vs w3 - ⟨vt2, xs2, mk3, rfl, hle3, hO3, hCR3⟩
      simp [litL, lk]
      have hB2 := HQ.out.2.1
      have hdone := fun h => enum_done HX.out.2.2.2.1.wf HX.out.2.2.2.1.bytes (n := n) h
      have hES := enum_succ T 0 n
      have hbnd := fun (hn : KT < n + 1) (h : (enum T 0 (n + 1)).length < K) => canN_bound HX.out.2.2.2.1 (n := n + 1) h (by rw [HKL.out]; exact hn)
      obtain ⟨vta2, vtc2, rfl⟩ := row_slice hO3.row
      obtain ⟨tb2, rfl⟩ := row_some hO3.row (by omega)
      obtain ⟨u, hu1, hu2⟩ := hCR3.2 n (by omega)
      have HS := Lib.hid (And.intro hO3 (And.intro hCR3 (And.intro hle3 (And.intro hdone (And.intro hES hbnd)))))
      have HU := Lib.hid (And.intro hu1 hu2)
      have HB2 := Lib.hid hB2
      have hlT := canN_len T n
      obtain ⟨ua, uc, rfl, u2, u3, u4⟩ := hu2
      obtain ⟨ub, uo, rfl, u5⟩ := u4 (by intro h; rw [h] at hlT; simp at hlT; omega)
      have hall : (∀ b ∈ canN T n, b = false) ↔ ¬ (true ∈ canN T n) := by
        constructor
        · intro h hm
          have := h true hm
          cases this
        · intro h b hb
          cases b with
          | false => rfl
          | true => exact absurd hb h
      have Hall := Lib.hid hall
      have hcap := row_cap hO3.row
      have hcap1 := hcap.1
      have hcap2 := hcap.2
      unfold maxLen at hcap2
      clear hall hcap
      clear hO3 hCR3 hle3 hdone hES hbnd hu1 HQ hB2 ha hal hlT u4 u5
      go_wp2
      refine wp_cut_keep [0, 1, 3, 6, 65] (fun vs w' => ∃ (bb : Bool) (mk4 : Mem) (Lt4 : List Item), vs = [.func (.yield l) #[] #[], .pointer (some ⟨ga, 0, none⟩), .slice (some ⟨tb2, 0, none⟩) (n + 1) vtc2, .int .i64 n, .bool bb] ∧ mk.le mk4 ∧
        (bb = false → B (enum T 0 (n + 1)) Lt4 ∧ Own w0 m w' mk4 (.row (.slice (some ⟨tb2, 0, none⟩) (n + 1) vtc2) 41 1 (n + 1) xs2 :: Lt4) ∧ true ∈ canN T n ∧ CanRow T mk4 xs2 (n + 1)) ∧
        (bb = true → (B (enum T 0 n) Lt4 ∧ Own w0 m w' mk4 Lt4 ∧ ∀ b ∈ canN T n, b = false) ∨ ∃ q, q ≠ [] ∧ q <+: wex T n 0 ∧ Bx (enum T 0 n ++ q) Lt4 ∧ Own w0 m w' mk4 Lt4)) ?_ ?_
      · intro V hV
        have hO := HS.out.1.dr
        have hca := Mem.cell_le HS.out.2.2.1 HX.out.2.2.2.2
        have hw1 : IntKind.i64.wrap ((n : Int) + 1) = (n : Int) + 1 := IntWalk.i64_in _ (by omega)
        have hn1 : (n : Int) < (n : Int) + 1 := by omega
        have hn2 : n < n + 1 := by omega
        have hb1 : (0 : Int) ≤ (n : Int) + 1 := by omega
        have hb2 : (n : Int) + 1 ≤ (vtc2 : Int) := by omega
        have HCt := Lib.hid (fun w' (h : mk3.inn w') => Contains_bool_any (.slice (some ⟨ub, uo, none⟩) (canN T n).length uc) (canN T n) true mk3 w' h HU.out.2)
        refine wp_region_D (fun j w' => j ≠ 18 → j ≠ 19 → j ≠ 20 → (mk3.inn w' ∧ w'.cell? ⟨tb2, n, none⟩ = some (.slice (some ⟨ub, uo, none⟩) (canN T n).length uc) ∧ tb2 < w'.heap.size)) (by kernel_rfl) ?_
        have hS : mk3.inn w3.drew ∧ w3.drew.cell? ⟨tb2, n, none⟩ = some (.slice (some ⟨ub, uo, none⟩) (canN T n).length uc) ∧ tb2 < w3.drew.heap.size := ⟨hO.inn, row_cellw hO.row HU.out.1, (World.ownsRow.lt hO.row _ rfl).2⟩
        refine wpAnyD_takeT 0 6 (fun w' => mk3.inn w' ∧ w'.cell? ⟨tb2, n, none⟩ = some (.slice (some ⟨ub, uo, none⟩) (canN T n).length uc) ∧ tb2 < w'.heap.size) rfl (by kernel_rfl) (fun _ _ _ h => h) (fun j w' hj hd => hd (by rintro rfl; exact waitsT_no (by kernel_rfl) hj) (by rintro rfl; exact waitsT_no (by kernel_rfl) hj) (by rintro rfl; exact waitsT_no (by kernel_rfl) hj)) hS (yields_of rfl fun w' hS' => by have q := hS'.2.1; have q1 := hS'.2.2; go_simp; rfl) ?_
        refine wpAnyD_takeT 1 6 (fun w' => mk3.inn w' ∧ w'.cell? ⟨tb2, n, none⟩ = some (.slice (some ⟨ub, uo, none⟩) (canN T n).length uc) ∧ tb2 < w'.heap.size) rfl (by kernel_rfl) (fun _ _ _ h => h) (fun j w' hj hd => hd (by rintro rfl; exact waitsT_no (by kernel_rfl) hj) (by rintro rfl; exact waitsT_no (by kernel_rfl) hj) (by rintro rfl; exact waitsT_no (by kernel_rfl) hj)) hS (yields_of rfl fun w' hS' => by have q := hS'.2.1; have q1 := hS'.2.2; go_simp; rfl) ?_
        refine wpAnyD_takeT 2 6 (fun w' => mk3.inn w' ∧ w'.cell? ⟨tb2, n, none⟩ = some (.slice (some ⟨ub, uo, none⟩) (canN T n).length uc) ∧ tb2 < w'.heap.size) rfl (by kernel_rfl) (fun _ _ _ h => h) (fun j w' hj hd => hd (by rintro rfl; exact waitsT_no (by kernel_rfl) hj) (by rintro rfl; exact waitsT_no (by kernel_rfl) hj) (by rintro rfl; exact waitsT_no (by kernel_rfl) hj)) hS (yields_of rfl fun w' hS' => by have q := hS'.2.1; have q1 := hS'.2.2; go_simp; rfl) ?_
        refine wpAnyD_takeT 3 6 (fun w' => mk3.inn w' ∧ w'.cell? ⟨tb2, n, none⟩ = some (.slice (some ⟨ub, uo, none⟩) (canN T n).length uc) ∧ tb2 < w'.heap.size) rfl (by kernel_rfl) (fun _ _ _ h => h) (fun j w' hj hd => hd (by rintro rfl; exact waitsT_no (by kernel_rfl) hj) (by rintro rfl; exact waitsT_no (by kernel_rfl) hj) (by rintro rfl; exact waitsT_no (by kernel_rfl) hj)) hS (yields_of rfl fun w' hS' => by have q := hS'.2.1; have q1 := hS'.2.2; go_simp; rfl) ?_
        refine wpAnyD_only 4 (by kernel_rfl) (wpOp_of rfl rfl (wp_enter (by go_simp; first | done | rfl) (HCt.out _ hO.inn) ?_))
        rintro e' w4 ⟨rfl, hb4⟩
        have hO4 := hO.move hb4
        have hS4 : mk3.inn w4 ∧ w4.cell? ⟨tb2, n, none⟩ = some (.slice (some ⟨ub, uo, none⟩) (canN T n).length uc) ∧ tb2 < w4.heap.size := ⟨hO4.inn, row_cellw hO4.row HU.out.1, (World.ownsRow.lt hO4.row _ rfl).2⟩
        refine ⟨_, rfl, .inr fun _ _ _ => hS4, ?_⟩
        by_cases hmem : true ∈ canN T n
        · rw [tf_true hmem]
          go_simp
          refine wpAnyD_takeT 5 6 (fun w' => mk3.inn w' ∧ w'.cell? ⟨tb2, n, none⟩ = some (.slice (some ⟨ub, uo, none⟩) (canN T n).length uc) ∧ tb2 < w'.heap.size) rfl (by kernel_rfl) (fun _ _ _ h => h) (fun j w' hj hd => hd (by rintro rfl; exact waitsT_no (by kernel_rfl) hj) (by rintro rfl; exact waitsT_no (by kernel_rfl) hj) (by rintro rfl; exact waitsT_no (by kernel_rfl) hj)) hS4 (yields_of rfl fun w' hS' => by have q := hS'.2.1; have q1 := hS'.2.2; have q2 := Mem.cell_w hS'.1 hca; have q3 := Mem.cell_lt hS'.1 hca; go_simp; rfl) ?_
          refine wpAnyD_takeT 6 6 (fun w' => mk3.inn w' ∧ w'.cell? ⟨tb2, n, none⟩ = some (.slice (some ⟨ub, uo, none⟩) (canN T n).length uc) ∧ tb2 < w'.heap.size) rfl (by kernel_rfl) (fun _ _ _ h => h) (fun j w' hj hd => hd (by rintro rfl; exact waitsT_no (by kernel_rfl) hj) (by rintro rfl; exact waitsT_no (by kernel_rfl) hj) (by rintro rfl; exact waitsT_no (by kernel_rfl) hj)) hS4 (yields_of rfl fun w' hS' => by have q := hS'.2.1; have q1 := hS'.2.2; have q2 := Mem.cell_w hS'.1 hca; have q3 := Mem.cell_lt hS'.1 hca; go_simp; rfl) ?_
          go_simp
          refine wpAnyD_takeT 7 6 (fun w' => mk3.inn w' ∧ w'.cell? ⟨tb2, n, none⟩ = some (.slice (some ⟨ub, uo, none⟩) (canN T n).length uc) ∧ tb2 < w'.heap.size) rfl (by kernel_rfl) (fun _ _ _ h => h) (fun j w' hj hd => hd (by rintro rfl; exact waitsT_no (by kernel_rfl) hj) (by rintro rfl; exact waitsT_no (by kernel_rfl) hj) (by rintro rfl; exact waitsT_no (by kernel_rfl) hj)) hS4 (yields_of rfl fun w' hS' => by have q := hS'.2.1; have q1 := hS'.2.2; have q2 := Mem.cell_w hS'.1 hca; have q3 := Mem.cell_lt hS'.1 hca; go_simp; rfl) ?_
          go_simp
          refine wpAnyD_takeT 8 6 (fun w' => mk3.inn w' ∧ w'.cell? ⟨tb2, n, none⟩ = some (.slice (some ⟨ub, uo, none⟩) (canN T n).length uc) ∧ tb2 < w'.heap.size) rfl (by kernel_rfl) (fun _ _ _ h => h) (fun j w' hj hd => hd (by rintro rfl; exact waitsT_no (by kernel_rfl) hj) (by rintro rfl; exact waitsT_no (by kernel_rfl) hj) (by rintro rfl; exact waitsT_no (by kernel_rfl) hj)) hS4 (yields_of rfl fun w' hS' => by have q := hS'.2.1; have q1 := hS'.2.2; have q2 := Mem.cell_w hS'.1 hca; have q3 := Mem.cell_lt hS'.1 hca; go_simp; rfl) ?_
          go_simp
          refine wpAnyD_takeT 9 6 (fun w' => mk3.inn w' ∧ w'.cell? ⟨tb2, n, none⟩ = some (.slice (some ⟨ub, uo, none⟩) (canN T n).length uc) ∧ tb2 < w'.heap.size) rfl (by kernel_rfl) (fun _ _ _ h => h) (fun j w' hj hd => hd (by rintro rfl; exact waitsT_no (by kernel_rfl) hj) (by rintro rfl; exact waitsT_no (by kernel_rfl) hj) (by rintro rfl; exact waitsT_no (by kernel_rfl) hj)) hS4 (yields_of rfl fun w' hS' => by have q := hS'.2.1; have q1 := hS'.2.2; have q2 := Mem.cell_w hS'.1 hca; have q3 := Mem.cell_lt hS'.1 hca; go_simp; rfl) ?_
          go_simp
          refine wpAnyD_takeT 10 6 (fun w' => mk3.inn w' ∧ w'.cell? ⟨tb2, n, none⟩ = some (.slice (some ⟨ub, uo, none⟩) (canN T n).length uc) ∧ tb2 < w'.heap.size) rfl (by kernel_rfl) (fun _ _ _ h => h) (fun j w' hj hd => hd (by rintro rfl; exact waitsT_no (by kernel_rfl) hj) (by rintro rfl; exact waitsT_no (by kernel_rfl) hj) (by rintro rfl; exact waitsT_no (by kernel_rfl) hj)) hS4 (yields_of rfl fun w' hS' => by have q := hS'.2.1; have q1 := hS'.2.2; have q2 := Mem.cell_w hS'.1 hca; have q3 := Mem.cell_lt hS'.1 hca; go_simp; rfl) ?_
          go_simp
          refine wpAnyD_takeT 11 6 (fun w' => mk3.inn w' ∧ w'.cell? ⟨tb2, n, none⟩ = some (.slice (some ⟨ub, uo, none⟩) (canN T n).length uc) ∧ tb2 < w'.heap.size) rfl (by kernel_rfl) (fun _ _ _ h => h) (fun j w' hj hd => hd (by rintro rfl; exact waitsT_no (by kernel_rfl) hj) (by rintro rfl; exact waitsT_no (by kernel_rfl) hj) (by rintro rfl; exact waitsT_no (by kernel_rfl) hj)) hS4 (yields_of rfl fun w' hS' => by have q := hS'.2.1; have q1 := hS'.2.2; have q2 := Mem.cell_w hS'.1 hca; have q3 := Mem.cell_lt hS'.1 hca; go_simp; rfl) ?_
          go_simp
          refine wpAnyD_takeT 12 6 (fun w' => mk3.inn w' ∧ w'.cell? ⟨tb2, n, none⟩ = some (.slice (some ⟨ub, uo, none⟩) (canN T n).length uc) ∧ tb2 < w'.heap.size) rfl (by kernel_rfl) (fun _ _ _ h => h) (fun j w' hj hd => hd (by rintro rfl; exact waitsT_no (by kernel_rfl) hj) (by rintro rfl; exact waitsT_no (by kernel_rfl) hj) (by rintro rfl; exact waitsT_no (by kernel_rfl) hj)) hS4 (yields_of rfl fun w' hS' => by have q := hS'.2.1; have q1 := hS'.2.2; have q2 := Mem.cell_w hS'.1 hca; have q3 := Mem.cell_lt hS'.1 hca; go_simp; rfl) ?_
          go_simp
          refine wpAnyD_takeT 13 6 (fun w' => mk3.inn w' ∧ w'.cell? ⟨tb2, n, none⟩ = some (.slice (some ⟨ub, uo, none⟩) (canN T n).length uc) ∧ tb2 < w'.heap.size) rfl (by kernel_rfl) (fun _ _ _ h => h) (fun j w' hj hd => hd (by rintro rfl; exact waitsT_no (by kernel_rfl) hj) (by rintro rfl; exact waitsT_no (by kernel_rfl) hj) (by rintro rfl; exact waitsT_no (by kernel_rfl) hj)) hS4 (yields_of rfl fun w' hS' => by have q := hS'.2.1; have q1 := hS'.2.2; have q2 := Mem.cell_w hS'.1 hca; have q3 := Mem.cell_lt hS'.1 hca; go_simp; rfl) ?_
          go_simp
          refine wpAnyD_takeT 14 6 (fun w' => mk3.inn w' ∧ w'.cell? ⟨tb2, n, none⟩ = some (.slice (some ⟨ub, uo, none⟩) (canN T n).length uc) ∧ tb2 < w'.heap.size) rfl (by kernel_rfl) (fun _ _ _ h => h) (fun j w' hj hd => hd (by rintro rfl; exact waitsT_no (by kernel_rfl) hj) (by rintro rfl; exact waitsT_no (by kernel_rfl) hj) (by rintro rfl; exact waitsT_no (by kernel_rfl) hj)) hS4 (yields_of rfl fun w' hS' => by have q := hS'.2.1; have q1 := hS'.2.2; have q2 := Mem.cell_w hS'.1 hca; have q3 := Mem.cell_lt hS'.1 hca; go_simp; rfl) ?_
          go_simp
          refine wpAnyD_takeT 15 6 (fun w' => mk3.inn w' ∧ w'.cell? ⟨tb2, n, none⟩ = some (.slice (some ⟨ub, uo, none⟩) (canN T n).length uc) ∧ tb2 < w'.heap.size) rfl (by kernel_rfl) (fun _ _ _ h => h) (fun j w' hj hd => hd (by rintro rfl; exact waitsT_no (by kernel_rfl) hj) (by rintro rfl; exact waitsT_no (by kernel_rfl) hj) (by rintro rfl; exact waitsT_no (by kernel_rfl) hj)) hS4 (yields_of rfl fun w' hS' => by have q := hS'.2.1; have q1 := hS'.2.2; have q2 := Mem.cell_w hS'.1 hca; have q3 := Mem.cell_lt hS'.1 hca; go_simp; rfl) ?_
          go_simp
          refine wpAnyD_takeT 16 6 (fun w' => mk3.inn w' ∧ w'.cell? ⟨tb2, n, none⟩ = some (.slice (some ⟨ub, uo, none⟩) (canN T n).length uc) ∧ tb2 < w'.heap.size) rfl (by kernel_rfl) (fun _ _ _ h => h) (fun j w' hj hd => hd (by rintro rfl; exact waitsT_no (by kernel_rfl) hj) (by rintro rfl; exact waitsT_no (by kernel_rfl) hj) (by rintro rfl; exact waitsT_no (by kernel_rfl) hj)) hS4 (yields_of rfl fun w' hS' => by have q := hS'.2.1; have q1 := hS'.2.2; have q2 := Mem.cell_w hS'.1 hca; have q3 := Mem.cell_lt hS'.1 hca; go_simp; rfl) ?_
          go_simp
          refine wpAnyD_takeT 17 6 (fun w' => mk3.inn w' ∧ w'.cell? ⟨tb2, n, none⟩ = some (.slice (some ⟨ub, uo, none⟩) (canN T n).length uc) ∧ tb2 < w'.heap.size) rfl (by kernel_rfl) (fun _ _ _ h => h) (fun j w' hj hd => hd (by rintro rfl; exact waitsT_no (by kernel_rfl) hj) (by rintro rfl; exact waitsT_no (by kernel_rfl) hj) (by rintro rfl; exact waitsT_no (by kernel_rfl) hj)) hS4 (yields_of rfl fun w' hS' => by have q := hS'.2.1; have q1 := hS'.2.2; have q2 := Mem.cell_w hS'.1 hca; have q3 := Mem.cell_lt hS'.1 hca; go_simp; rfl) ?_
          go_simp
          have hT0 := hT
          have hsome := some_any (T := T) (l := l) (w0 := w0) (m := m) (mk0 := mk3) (B := B) (Bx := Bx) (Lr := [.row (.slice (some ⟨tb2, 0, none⟩) (n + 1) vtc2) 41 1 (n + 1) xs2]) (tb := tb2) (n := n) (ctab := vtc2) (clast := 1) (ntab := n + 1) (va := .slice aa T.length ac) HX.out.2.2.2.1.wf HX.out.2.2.2.1.bytes
            (fun pre x W' mk' Lt' Lr' h1 h2 h3 => HX.out.2.1 pre x W' mk' Lt' Lr' h1 h2 (Mem.le_trans HS.out.2.2.1 h3)) (statesAt_le HS.out.2.2.1 HX.out.1) hT0 (by unfold maxLen; omega) (by omega) (by omega) (by unfold maxLen; omega)
            (fun W' mk' Lt' h i hi => by
              obtain ⟨u', h1, h2⟩ := HS.out.2.1.2 i hi
              exact ⟨u', row_cellw (h.at_row (v := .slice (some ⟨tb2, 0, none⟩) (n + 1) vtc2) (t := 41) (size := 1) (n := n + 1) (xs := xs2) (by simp)) h1, h2⟩)
            (enum T 0 n) mk3 w4 Lt (Mem.le_refl _) HB2.out (hO4.perm (List.perm_append_singleton _ _))
          refine wpAnyD_only 18 (by kernel_rfl) (wpOp_of2 rfl rfl (wp_enter (by go_simp; first | done | rfl) hsome ?_))
          rintro e' w5 (⟨rfl, mk5, Lt5, k1, k2, k3⟩ | ⟨rfl, qq, mk5, Lt5, k0, k1, k2, k3, k4⟩)
          · refine ⟨_, rfl, .inr fun h => absurd rfl h, ?_⟩
            go_simp
            refine wpAnyD_only 19 (by kernel_rfl) (wpOp_of2 rfl rfl (wp_value (by go_simp; first | done | exact ⟨rfl, rfl⟩ | rfl) ⟨.inl rfl, ?_⟩))
            go_simp
            refine wpAnyD_only 20 (by kernel_rfl) (wpOp_of rfl rfl (wp_value (by go_simp; first | done | exact ⟨rfl, rfl⟩ | rfl) ⟨.inl rfl, ?_⟩))
            refine wpAnyD_done (by kernel_rfl) ?_ _
            refine hV.out _ _ rfl ⟨false, mk5, Lt5, rfl, Mem.le_trans HS.out.2.2.1 k3, fun _ => ⟨?_, k2.perm (List.perm_append_singleton _ _).symm, hmem, HS.out.2.1.mono k3⟩, fun h => by cases h⟩
            rw [HS.out.2.2.2.2.1]; exact k1
          · refine ⟨_, rfl, .inr fun h => absurd rfl h, ?_⟩
            go_simp
            refine wpAnyD_only 19 (by kernel_rfl) (wpOp_of2 rfl rfl (wp_value (by go_simp; first | done | exact ⟨rfl, rfl⟩ | rfl) ⟨.inl rfl, ?_⟩))
            go_simp
            refine wpAnyD_only 20 (by kernel_rfl) (wpOp_of rfl rfl (wp_value (by go_simp; first | done | exact ⟨rfl, rfl⟩ | rfl) ⟨.inl rfl, ?_⟩))
            refine wpAnyD_done (by kernel_rfl) ?_ _
            exact hV.out _ _ rfl ⟨true, mk5, Lt5, rfl, Mem.le_trans HS.out.2.2.1 k4, (fun h => by cases h), fun _ => .inr ⟨qq, k0, k1, k2, (k3.perm (List.perm_append_singleton _ _).symm).tail⟩⟩
        · rw [tf_false hmem]
          go_simp
          refine wpAnyD_takeT 5 6 (fun w' => mk3.inn w' ∧ w'.cell? ⟨tb2, n, none⟩ = some (.slice (some ⟨ub, uo, none⟩) (canN T n).length uc) ∧ tb2 < w'.heap.size) rfl (by kernel_rfl) (fun _ _ _ h => h) (fun j w' hj hd => hd (by rintro rfl; exact waitsT_no (by kernel_rfl) hj) (by rintro rfl; exact waitsT_no (by kernel_rfl) hj) (by rintro rfl; exact waitsT_no (by kernel_rfl) hj)) hS4 (yields_of rfl fun w' hS' => by go_simp; rfl) ?_
          refine wpAnyD_takeT 6 6 (fun w' => mk3.inn w' ∧ w'.cell? ⟨tb2, n, none⟩ = some (.slice (some ⟨ub, uo, none⟩) (canN T n).length uc) ∧ tb2 < w'.heap.size) rfl (by kernel_rfl) (fun _ _ _ h => h) (fun j w' hj hd => hd (by rintro rfl; exact waitsT_no (by kernel_rfl) hj) (by rintro rfl; exact waitsT_no (by kernel_rfl) hj) (by rintro rfl; exact waitsT_no (by kernel_rfl) hj)) hS4 (yields_of rfl fun w' hS' => by go_simp; rfl) ?_
          go_simp
          refine wpAnyD_takeT 7 6 (fun w' => mk3.inn w' ∧ w'.cell? ⟨tb2, n, none⟩ = some (.slice (some ⟨ub, uo, none⟩) (canN T n).length uc) ∧ tb2 < w'.heap.size) rfl (by kernel_rfl) (fun _ _ _ h => h) (fun j w' hj hd => hd (by rintro rfl; exact waitsT_no (by kernel_rfl) hj) (by rintro rfl; exact waitsT_no (by kernel_rfl) hj) (by rintro rfl; exact waitsT_no (by kernel_rfl) hj)) hS4 (.inr ⟨rfl, rfl⟩) ?_
          go_simp
          refine wpAnyD_takeT 8 6 (fun w' => mk3.inn w' ∧ w'.cell? ⟨tb2, n, none⟩ = some (.slice (some ⟨ub, uo, none⟩) (canN T n).length uc) ∧ tb2 < w'.heap.size) rfl (by kernel_rfl) (fun _ _ _ h => h) (fun j w' hj hd => hd (by rintro rfl; exact waitsT_no (by kernel_rfl) hj) (by rintro rfl; exact waitsT_no (by kernel_rfl) hj) (by rintro rfl; exact waitsT_no (by kernel_rfl) hj)) hS4 (.inr ⟨rfl, rfl⟩) ?_
          go_simp
          refine wpAnyD_takeT 9 6 (fun w' => mk3.inn w' ∧ w'.cell? ⟨tb2, n, none⟩ = some (.slice (some ⟨ub, uo, none⟩) (canN T n).length uc) ∧ tb2 < w'.heap.size) rfl (by kernel_rfl) (fun _ _ _ h => h) (fun j w' hj hd => hd (by rintro rfl; exact waitsT_no (by kernel_rfl) hj) (by rintro rfl; exact waitsT_no (by kernel_rfl) hj) (by rintro rfl; exact waitsT_no (by kernel_rfl) hj)) hS4 (.inr ⟨rfl, rfl⟩) ?_
          go_simp
          refine wpAnyD_takeT 10 6 (fun w' => mk3.inn w' ∧ w'.cell? ⟨tb2, n, none⟩ = some (.slice (some ⟨ub, uo, none⟩) (canN T n).length uc) ∧ tb2 < w'.heap.size) rfl (by kernel_rfl) (fun _ _ _ h => h) (fun j w' hj hd => hd (by rintro rfl; exact waitsT_no (by kernel_rfl) hj) (by rintro rfl; exact waitsT_no (by kernel_rfl) hj) (by rintro rfl; exact waitsT_no (by kernel_rfl) hj)) hS4 (.inr ⟨rfl, rfl⟩) ?_
          go_simp
          refine wpAnyD_takeT 11 6 (fun w' => mk3.inn w' ∧ w'.cell? ⟨tb2, n, none⟩ = some (.slice (some ⟨ub, uo, none⟩) (canN T n).length uc) ∧ tb2 < w'.heap.size) rfl (by kernel_rfl) (fun _ _ _ h => h) (fun j w' hj hd => hd (by rintro rfl; exact waitsT_no (by kernel_rfl) hj) (by rintro rfl; exact waitsT_no (by kernel_rfl) hj) (by rintro rfl; exact waitsT_no (by kernel_rfl) hj)) hS4 (.inr ⟨rfl, rfl⟩) ?_
          go_simp
          refine wpAnyD_takeT 12 6 (fun w' => mk3.inn w' ∧ w'.cell? ⟨tb2, n, none⟩ = some (.slice (some ⟨ub, uo, none⟩) (canN T n).length uc) ∧ tb2 < w'.heap.size) rfl (by kernel_rfl) (fun _ _ _ h => h) (fun j w' hj hd => hd (by rintro rfl; exact waitsT_no (by kernel_rfl) hj) (by rintro rfl; exact waitsT_no (by kernel_rfl) hj) (by rintro rfl; exact waitsT_no (by kernel_rfl) hj)) hS4 (.inr ⟨rfl, rfl⟩) ?_
          go_simp
          refine wpAnyD_takeT 13 6 (fun w' => mk3.inn w' ∧ w'.cell? ⟨tb2, n, none⟩ = some (.slice (some ⟨ub, uo, none⟩) (canN T n).length uc) ∧ tb2 < w'.heap.size) rfl (by kernel_rfl) (fun _ _ _ h => h) (fun j w' hj hd => hd (by rintro rfl; exact waitsT_no (by kernel_rfl) hj) (by rintro rfl; exact waitsT_no (by kernel_rfl) hj) (by rintro rfl; exact waitsT_no (by kernel_rfl) hj)) hS4 (.inr ⟨rfl, rfl⟩) ?_
          go_simp
          refine wpAnyD_takeT 14 6 (fun w' => mk3.inn w' ∧ w'.cell? ⟨tb2, n, none⟩ = some (.slice (some ⟨ub, uo, none⟩) (canN T n).length uc) ∧ tb2 < w'.heap.size) rfl (by kernel_rfl) (fun _ _ _ h => h) (fun j w' hj hd => hd (by rintro rfl; exact waitsT_no (by kernel_rfl) hj) (by rintro rfl; exact waitsT_no (by kernel_rfl) hj) (by rintro rfl; exact waitsT_no (by kernel_rfl) hj)) hS4 (.inr ⟨rfl, rfl⟩) ?_
          go_simp
          refine wpAnyD_takeT 15 6 (fun w' => mk3.inn w' ∧ w'.cell? ⟨tb2, n, none⟩ = some (.slice (some ⟨ub, uo, none⟩) (canN T n).length uc) ∧ tb2 < w'.heap.size) rfl (by kernel_rfl) (fun _ _ _ h => h) (fun j w' hj hd => hd (by rintro rfl; exact waitsT_no (by kernel_rfl) hj) (by rintro rfl; exact waitsT_no (by kernel_rfl) hj) (by rintro rfl; exact waitsT_no (by kernel_rfl) hj)) hS4 (.inr ⟨rfl, rfl⟩) ?_
          go_simp
          refine wpAnyD_takeT 16 6 (fun w' => mk3.inn w' ∧ w'.cell? ⟨tb2, n, none⟩ = some (.slice (some ⟨ub, uo, none⟩) (canN T n).length uc) ∧ tb2 < w'.heap.size) rfl (by kernel_rfl) (fun _ _ _ h => h) (fun j w' hj hd => hd (by rintro rfl; exact waitsT_no (by kernel_rfl) hj) (by rintro rfl; exact waitsT_no (by kernel_rfl) hj) (by rintro rfl; exact waitsT_no (by kernel_rfl) hj)) hS4 (.inr ⟨rfl, rfl⟩) ?_
          go_simp
          refine wpAnyD_takeT 17 6 (fun w' => mk3.inn w' ∧ w'.cell? ⟨tb2, n, none⟩ = some (.slice (some ⟨ub, uo, none⟩) (canN T n).length uc) ∧ tb2 < w'.heap.size) rfl (by kernel_rfl) (fun _ _ _ h => h) (fun j w' hj hd => hd (by rintro rfl; exact waitsT_no (by kernel_rfl) hj) (by rintro rfl; exact waitsT_no (by kernel_rfl) hj) (by rintro rfl; exact waitsT_no (by kernel_rfl) hj)) hS4 (.inr ⟨rfl, rfl⟩) ?_
          go_simp
          refine wpAnyD_only 18 (by kernel_rfl) (wpOp_no rfl rfl ⟨.inl rfl, ?_⟩)
          go_simp
          refine wpAnyD_only 19 (by kernel_rfl) (wpOp_no rfl rfl ⟨.inl rfl, ?_⟩)
          go_simp
          refine wpAnyD_only 20 (by kernel_rfl) (wpOp_of rfl rfl (wp_value (by go_simp; first | done | exact ⟨rfl, rfl⟩ | rfl) ⟨.inl rfl, ?_⟩))
          refine wpAnyD_done (by kernel_rfl) ?_ _
          exact hV.out _ _ rfl ⟨true, mk3, Lt, rfl, HS.out.2.2.1, (fun h => by cases h), fun _ => .inl ⟨HB2.out, hO4.tail, Hall.out.2 hmem⟩⟩
      rintro z5 vs w5 - ⟨bb, mk4, Lt4, rfl, hle4, hf, ht⟩
      simp [litL, lk]
      cases bb with
      | true =>
        have Hq := Lib.hid (And.intro (ht rfl) hle4)
        clear ht hf hle4
        go_wp2
        refine bodyPost_ret (v := .tuple #[]) (by simp [results, Tryd.results70, go_sem]) rfl ?_
        refine hR.out _ _ ⟨⟨_, rfl⟩, ?_⟩
        rcases Hq.out.1 with ⟨h1, h2, h3⟩ | ⟨qq, h1, h2, h3, h4⟩
        · exact .inl ⟨_, mk4, Lt4, ⟨n, rfl, HS.out.2.2.2.1 h3⟩, h1, h2, Hq.out.2⟩
        · refine .inr ⟨_, mk4, Lt4, ⟨n + 1, ?_, fun h => h1 (List.append_eq_nil_iff.1 h).2⟩, h3, h4, Hq.out.2⟩
          rw [HS.out.2.2.2.2.1]
          exact (List.prefix_append_right_inj _).2 h2
      | false =>
        obtain ⟨h1, h2, h3, h4⟩ := hf rfl
        have hKL : n + 1 ≤ KT := by
          apply Classical.byContradiction
          intro hn
          have := HS.out.2.2.2.2.2 (by omega) (HX.out.2.2.1 _ _ h1)
          rw [Nat.add_sub_cancel] at this
          rw [this] at h3
          have := List.eq_of_mem_replicate h3
          cases this
        have Hq := Lib.hid (And.intro h1 (And.intro h2 (And.intro hle4 h4)))
        clear ht hf hle4 h1 h2 h3 h4
        go_wp2
        exact hY2.out _ _ _ (by omega) rfl ⟨n + 1, n + 1, .slice (some ⟨tb2, 0, none⟩) (n + 1) vtc2, xs2, mk4, Lt4, rfl, .inr ⟨by omega, rfl, hKL⟩, rfl, Hq.out.2.2.1, Hq.out.1, Hq.out.2.1, Hq.out.2.2.2⟩
    · have hd1 : decide (0 < T.length) = false := decide_eq_false hT
      have hT0 : T = [] := List.eq_nil_of_length_eq_zero (by omega)
      have hacc : ∀ y, accFrom T 0 y = true → y.length < n := fun y hy => by rw [hT0, accFrom_nil] at hy; cases hy
      have Hq := Lib.hid (And.intro hacc (And.intro hO2.tail (And.intro hB2 hle2)))
      clear hacc hO2 hB2 hle2 hT0 hCR
      go_wp2
      refine bodyPost_ret (v := .tuple #[]) (by simp [results, Tryd.results70, go_sem]) rfl ?_
      exact hR.out _ _ ⟨⟨_, rfl⟩, .inl ⟨_, mk2, Lt, ⟨n, rfl, Hq.out.1⟩, Hq.out.2.2.1, Hq.out.2.1, Hq.out.2.2.2⟩⟩
end Cl
namespace Cl
open Go Go.RowKit

theorem wp_rangeOwn2 {α : Type} {P : Program} {g : Operand} {ps : Array Tmp} {assign body : Code} {Q : Exit → Act → World → Prop} {a : Act} {w : World} {gf : Nat} {lb : Array Value}
    (hg : a.eval g = .func (.func gf) #[] lb) (eg : ∀ args w, (callFunc gf args).run P w = .ok (.enter gf args) w) {encs : α → Array Value} (hps : ∀ x, (encs x).size = ps.size)
    {w0 : World} {m mk : Mem} {L0 : List Item} (hO : Own w0 m w mk L0) (I : List α → List Item → Prop) (Ix : Code → List α → List Item → Prop) (S Sp : List α → Prop) (h0 : I [] L0)
    (hseq : ∀ (l : Nat) (W1 : World) (L1 : List Item) (B Bx : List α → List Item → Prop), B [] L1 → (∀ pre Lt, B pre Lt → ∃ L, I pre L) → Own w0 m W1 mk L1 → YieldOK P l encs w0 m mk B Bx →
      Calls P gf (#[.func (.yield l) #[] #[]] ++ lb) W1 (SeqEnd w0 m mk B Bx S Sp))
    (a₁ : α → Act)
    (hassign : ∀ (l : Nat) (x : α) (W : World) (K : Act → World → Prop), K (a₁ x) W →
      assign.wpIn (Fence.wide.inRound l) 0 P (Exit.then K (fun _ _ _ => False)) { tmps := (ps.zip (encs x)).foldl (fun t (p, v) => t.setIfInBounds p v) a.tmps, defers := [] } W)
    (hbody : ∀ (l : Nat) (pre : List α) (x : α) (W : World) (mk1 : Mem) (Lt Lr : List Item), I pre Lt → Own w0 m W mk1 (Lt ++ Lr) → mk.le mk1 →
      body.wpIn (Fence.wide.inRound l) 0 P (RoundEnd w0 m mk1 Lr I Ix (pre ++ [x])) (a₁ x) W)
    (hdone : ∀ (D : Nat) (xs : List α) (W : World) (mk1 : Mem) (L : List Item), S xs → I xs L → Own w0 m W mk1 (.blob D (.deferred (some [])) :: L) → mk.le mk1 → Q .normal { a with defers := { target := .collected D, args := #[] } :: a.defers } W)
    (hstop : ∀ (D : Nat) (c : Code) (xs : List α) (W : World) (mk1 : Mem) (L : List Item), Sp xs → Ix c xs L → Own w0 m W mk1 (.blob D (.deferred (some [])) :: L) → mk.le mk1 →
      c.wpIn Fence.wide 0 P Q { a with defers := { target := .collected D, args := #[] } :: a.defers } W) :
    (Code.rangeFunc g ps assign body).wpIn Fence.wide 0 P Q a w := by
  refine wpIn_rangeFunc ?_
  intro fn _
  obtain ⟨rec, hrec⟩ : ∃ rec : LoopState → Option Code → Loop, rec = fun st pe => { state := st, pending := pe, fn, tmps := a.tmps, params := ps, assign, body, defers := w.heap.size } := ⟨_, rfl⟩
  have hO1 := (hO.alBlob (.deferred (some []))).alBlob (.loop (rec .ready none))
  have hsz : (w.alloc (.deferred (some []))).heap.size = w.heap.size + 1 := by simp
  rw [hsz] at hO1
  have hent := run_enterLoop_outer (P := P) (w := w) fn a.tmps ps assign body
  have hre : (Obj.loop { state := .ready, pending := none, fn, tmps := a.tmps, params := ps, assign, body, defers := w.heap.size }) = .loop (rec .ready none) := by rw [hrec]
  rw [hre] at hent
  generalize (w.alloc (.deferred (some []))).alloc (.loop (rec .ready none)) = W1 at *
  generalize w.heap.size = D at *
  have hround : YieldOK P (D + 1) encs w0 m mk (fun pre Lt => ∃ L, I pre L ∧ Lt = .blob (D + 1) (.loop (rec .ready none)) :: .blob D (.deferred (some [])) :: L)
      (fun pre Lt => ∃ c L, Ix c pre L ∧ Lt = .blob (D + 1) (.loop (rec .done (some c))) :: .blob D (.deferred (some [])) :: L) := by
    rintro pre x W mk1 Lt Lr ⟨L, hI, rfl⟩ hOw hle
    have hl := hOw.blob
    have hy := run_yield (P := P) (args := encs x) hl (by rw [hrec]; exact hps x)
    rw [hrec] at hy
    refine ⟨fn, _, assign, body, hy, roundIn_of_wpIn trivial (hassign _ x W _ ⟨_, run_beginRound hl (by rw [hrec]), ?_⟩)⟩
    have hO2 := hOw.setBlob (o' := .loop { rec .ready none with state := .busy }) (World.putObj_heap_same (Array.getElem?_eq_some_iff.1 hl).1) (grownBy_putObj' _ _ _)
    have hO3 := hO2.perm (perm_two _ _ L Lr)
    refine wpIn_mono (hbody _ pre x _ mk1 L _ hI hO3 hle) ?_
    have fin : ∀ (jump : Option Code) (W3 : World) (mk2 : Mem) (L2 : List Item), Own w0 m W3 mk2 (L2 ++ (.blob (D + 1) (.loop { rec .ready none with state := .busy }) :: .blob D (.deferred (some [])) :: Lr)) →
        ∃ W4, (Instr.endRound (D + 1) jump).run P W3 = .ok (.bool jump.isNone) W4 ∧ Own w0 m W4 mk2 (.blob (D + 1) (.loop (rec (if jump.isNone then .ready else .done) jump)) :: .blob D (.deferred (some [])) :: (L2 ++ Lr)) := by
      intro jump W3 mk2 L2 h3
      have h4 := h3.perm (perm_two _ _ L2 Lr).symm
      have hl3 := h4.blob
      have hr := run_endRound (P := P) jump hl3
      refine ⟨_, hr, ?_⟩
      have := h4.setBlob (o' := .loop { rec .ready none with state := if jump.isNone then .ready else .done, pending := jump }) (World.putObj_heap_same (Array.getElem?_eq_some_iff.1 hl3).1) (grownBy_putObj' _ _ _)
      rw [hrec] at this ⊢
      exact this
    rintro e a3 W3 hp
    cases e with
    | normal =>
      obtain ⟨mk2, L2, hi, ho, hm⟩ := hp
      obtain ⟨W4, hr, ho4⟩ := fin none W3 mk2 L2 ho
      exact ⟨_, _, hr, .inl ⟨rfl, mk2, _, ⟨L2, hi, rfl⟩, ho4, hm⟩⟩
    | ret =>
      obtain ⟨mk2, L2, hi, ho, hm⟩ := hp
      obtain ⟨W4, hr, ho4⟩ := fin (some .ret) W3 mk2 L2 ho
      exact ⟨_, _, hr, .inr ⟨rfl, mk2, _, ⟨.ret, L2, hi, rfl⟩, ho4, hm⟩⟩
    | exit id =>
      obtain ⟨mk2, L2, hi, ho, hm⟩ := hp
      obtain ⟨W4, hr, ho4⟩ := fin (some (.exit id)) W3 mk2 L2 ho
      exact ⟨_, _, hr, .inr ⟨rfl, mk2, _, ⟨.exit id, L2, hi, rfl⟩, ho4, hm⟩⟩
    | goto t =>
      obtain ⟨mk2, L2, hi, ho, hm⟩ := hp
      obtain ⟨W4, hr, ho4⟩ := fin (some (.goto t)) W3 mk2 L2 ho
      exact ⟨_, _, hr, .inr ⟨rfl, mk2, _, ⟨.goto t, L2, hi, rfl⟩, ho4, hm⟩⟩
    | panic ch => exact hp.elim
    | outgrown => exact hp.elim
  refine ⟨D + 1, [{ target := .collected D, args := #[] }], W1, { target := .fn (.func gf) lb, args := #[.func (.yield (D + 1)) #[] #[]] }, W1, gf,
    #[.func (.yield (D + 1)) #[] #[]] ++ lb, W1, hent, ?_, fun _ _ => trivial, ?_, fun h => absurd h (by simp [Fence.wide]), ?_⟩
  · simp only [resolve, hg]
    simp [go_sem]
  · simp [invoke, go_sem, eg]
  · refine callsIn_wide.2 ((hseq (D + 1) W1 _ _ _ ⟨L0, h0, rfl⟩ (fun _ _ h => h.elim fun L hL => ⟨L, hL.1⟩) hO1 hround).mono ?_)
    rintro e W3 ⟨⟨v, rfl⟩, hend⟩
    rcases hend with ⟨xs, mk2, Lt, hS, ⟨L, hI, rfl⟩, ho, hm⟩ | ⟨xs, mk2, Lt, hS, ⟨c, L, hI, rfl⟩, ho, hm⟩
    · have hl3 := ho.blob
      have hO4 := ho.setBlob (o' := .loop { rec .ready none with state := .exhausted }) (World.putObj_heap_same (Array.getElem?_eq_some_iff.1 hl3).1) (grownBy_putObj' _ _ _)
      refine ⟨none, _, ?_, hdone D xs _ mk2 L hS hI hO4.tail hm⟩
      have := run_endLoop (P := P) hl3 (by rw [hrec]; simp)
      rw [this, hrec]
    · have hl3 := ho.blob
      have hO4 := ho.setBlob (o' := .loop { rec .done (some c) with state := .exhausted }) (World.putObj_heap_same (Array.getElem?_eq_some_iff.1 hl3).1) (grownBy_putObj' _ _ _)
      refine ⟨some c, _, ?_, hstop D c xs _ mk2 L hS hI hO4.tail hm⟩
      have := run_endLoop (P := P) hl3 (by rw [hrec]; simp)
      rw [this, hrec]
end Cl
namespace Cl
open Go Go.RowKit Go.Proofs
attribute [local go_sem] Oper.semAt_some

def bstr (x : List UInt8) : ByteArray := ⟨x.toArray⟩
theorem tyStrs : SliceTy Tryd.prog 30 9 1 16 := ⟨Tryd.underlying30, by omega, by
  obtain ⟨i, h1, h2, h3, h4⟩ := info_parts (P := Tryd.prog) (e := 9) (z := .string ⟨#[]⟩) (size := 1) (bytes := 16) (by kernel_rfl)
  exact ⟨i, _, h1, h2, h3, h4, rfl⟩⟩
theorem strsAt_of_row {w : World} {t : TypeId} {v : Value} {l : List ByteArray} {m : Mem} (hown : w.ownsRow 0 t 1 v l.length (l.map Value.string)) (hk : ∀ x ∈ l, x.size ≤ maxLen) : strsAt (m.addv w v) v l :=
  slice1_of_row hown fun g hg i h => ⟨row_cell hown hg m (by simp [h]), hk _ (List.getElem_mem h)⟩
theorem words_fn (v : Value) (w : World) : Calls Tryd.prog 41 #[.agg #[v]] w fun e w' => e = .returned (.func (.func 70) #[] #[.pointer (some ⟨w.heap.size, 0, none⟩)]) ∧ w' = w.alloc (.cells #[v] 24) := by
  refine calls_hide fun R hR => ?_
  go_enter Tryd.func41, Tryd.ntmps41
  go_wp2
  exact hR.out _ _ ⟨rfl, rfl⟩
theorem enters_words1 : ∀ args w, (callFunc 70 args).run Tryd.prog w = .ok (.enter 70 args) w := enters_of Tryd.func70 (by kernel_rfl) rfl
/-- how many words are asked for -/
def want1 (n : Int) : Nat := (min n 1000).toNat
theorem want1_pos {n : Int} (h : 1 ≤ n) : 1 ≤ want1 n ∧ ((want1 n : Nat) : Int) = min n 1000 ∧ want1 n ≤ 1000 := by unfold want1; omega
theorem first_zero (f : List UInt8 → Bool) : IsFirst f 0 [] := ⟨.nil, fun x hx => by simp at hx, by simp, fun y _ _ => ⟨rfl, fun x hx => by simp at hx⟩⟩
/-- the words that were collected are the first ones -/
theorem first_of_seq {T : Table} {K : Nat} {xs : List (List UInt8)} (h : (∃ n, xs = enum T 0 n ∧ (∀ y, accFrom T 0 y = true → y.length < n) ∧ xs.length < K) ∨ (∃ n, xs <+: enum T 0 n ∧ xs.length = K)) : IsFirst (accFrom T 0) K xs := by
  rcases h with ⟨n, rfl, h1, h2⟩ | ⟨n, h1, h2⟩
  · have := first_enum (l := T) (s := 0) (L := n) (k := K) (.inr h1)
    rwa [List.take_of_length_le (by omega)] at this
  · have h3 : xs = (enum T 0 n).take K := by
      rw [← h2]
      exact List.prefix_iff_eq_take.1 h1
    have := first_enum (l := T) (s := 0) (L := n) (k := K) (.inl (by rw [← h2]; exact h1.length_le))
    rwa [← h3] at this

theorem first_size {T : Table} {K : Nat} {xs : List (List UInt8)} (h : IsFirst (accFrom T 0) K xs) (hK : (K + 1) * (T.length + 1) ≤ 1000000) : ∀ z ∈ xs, z.length ≤ 1000000 := by
  intro z hz
  rw [first_unique h (first_most (l := T) (s := 0) (k := K) (L := K * T.length) (Nat.le_refl _))] at hz
  have h1 := ((mem_enum T 0 _ z).1 (List.mem_of_mem_take hz)).1
  have : K * T.length ≤ (K + 1) * (T.length + 1) := Nat.mul_le_mul (by omega) (by omega)
  omega
theorem wpListIn_append_row {F : Fence} {d : Nat} {P : Program} {t e : TypeId} {size bytes : Nat} (S : SliceTy P t e size bytes) {w : World} {ops : Array Oper} {rest : List Oper} {o : Oper} {a : Act} {Q : Exit → Act → World → Prop} (hgd : o.guard = none) (s x : Operand)
    (ho : o.op = .call { callee := .builtin .append, args := #[s, x], argTypes := #[t, t] })
    (v : Value) (n : Nat) (xs : List Value) (hs : a.eval s = v) (hown : w.ownsRow 0 e size v n xs)
    (ad : Addr) (m c : Nat) (news : List Value) (hx : a.eval x = .slice (some ad) m c) (hl : news.length = m * size) (hnews : ∀ j u, news[j]? = some u → w.cell? (ad.add j) = some u) (h1 : ∀ u ∈ news, u.oneCell' = true)
    (h63 : n + m ≤ maxLen) (hbytes : (n + m) * bytes ≤ 140737488355328)
    (h : ∀ va vc w', w'.ownsRow 0 e size (.slice va (n + m) vc) (n + m) (xs ++ news) → w.grownBy w' v.ownBlock → (∀ k, (Value.slice va (n + m) vc).ownBlock = some k → v.ownBlock = some k ∨ w.heap.size ≤ k) → wpListIn F d P ops Q rest (a.put o.dst (.slice va (n + m) vc)) w') : wpListIn F d P ops Q (o :: rest) a w := by
  refine wpListIn_plain hgd fun K hK => ?_
  obtain ⟨v', w', hr, h2, h3, h4⟩ := run_append_row S w o.type v n xs hown ad m c news hl hnews h1 h63 hbytes
  obtain ⟨va, vc, rfl⟩ := row_slice h2
  refine ⟨?_, ?_⟩
  · simp [Oper.about, ho, resolve, Target.leads, Sem.run_pure]
  · rw [Oper.semAt_plain F _ _ (by rw [ho]; intro c hc'; cases hc')]
    simp [execOp, ho, resolve, invoke, builtin, hs, hx, hr, Result.andThen]
    exact hK _ _ (h va vc w' h2 h3 h4)
def strV (x : List UInt8) : Value := .string ⟨x.toArray⟩

set_option maxRecDepth 100000 in
set_option maxHeartbeats 4000000 in
theorem langWords_any (v0 : Value) (A : Table) (n : Int) (m : Mem) (w : World) (hm : m.inn w) (htab : TabM m) (hA : statesAt m v0 A) (hn1 : -9223372036854775808 ≤ n) (hn2 : n ≤ 9223372036854775807) (hlen : (want1 n + 1) * (A.length + 1) ≤ 1000000) :
    Calls Tryd.prog 18 #[.agg #[v0], .int .i64 n] w fun e w' => ∃ r ws, e = .returned r ∧ Below w.heap.size w w' ∧ strsAt (m.grow w w') r (ws.map bstr) ∧ IsFirst (Sem A) (want1 n) ws := by
  have hlA : A.length ≤ 1000000 := by
    have : A.length + 1 ≤ (want1 n + 1) * (A.length + 1) := Nat.le_mul_of_pos_left _ (by omega)
    omega
  have hO := (((Own.start hm).al #[v0] 24).al #[.int .i64 n] 3).al #[.slice none 0 0] 30
  have hsz1 : (w.alloc (.cells #[v0] 24)).heap.size = w.heap.size + 1 := by simp
  have hsz2 : ((w.alloc (.cells #[v0] 24)).alloc (.cells #[.int .i64 n] 3)).heap.size = w.heap.size + 1 + 1 := by simp
  rw [hsz2, hsz1] at hO
  have HG := Lib.hid (good_any v0 A m _ hO.inn htab hA hlA)
  have HO := Lib.hid hO
  obtain ⟨va, vc, rfl, -⟩ := hA
  clear hO hsz1 hsz2
  refine calls_hide fun R hR => ?_
  by_cases hn : n < 1
  · have hk0 : want1 n = 0 := by unfold want1; omega
    have Hk0 := Lib.hid hk0
    have hdec : decide (n < 1) = true := decide_eq_true hn
    clear hk0
    go_enter Tryd.func18, Tryd.ntmps18
    go_wp2
    refine hR.out _ _ ⟨_, [], rfl, HO.out.below, ⟨none, 0, rfl, Nat.le_refl _, by simp [maxLen], fun h => absurd rfl h⟩, ?_⟩
    rw [Hk0.out]; exact first_zero _
  · have hdec : decide (n < 1) = false := decide_eq_false hn
    refine (callsIn_wide (n := 0)).1 ?_
    refine callsIn_of_wp_marks Tryd.func18 rfl trivial ?_
    simp only [Tryd.ntmps18, List.size_toArray, List.length_cons, List.length_nil, Nat.reduceAdd, Nat.reduceSub, Array.replicate_succ, Array.replicate_zero, List.push_toArray, List.append_toArray, List.nil_append, List.cons_append]
    refine wpIn_wide.2 ?_
    go_wp2_with fail
    refine HG.out.mono ?_
    rintro e w1 ⟨r, rfl, hb1, hst⟩
    have hO1 := HO.out.call hb1
    obtain ⟨ra, rc, rfl⟩ : ∃ ra rc, r = .slice ra (goodT A).length rc := by obtain ⟨x, y, e, -⟩ := hst; exact ⟨x, y, e⟩
    have HO1 := Lib.hid (And.intro hO1 hst)
    clear HO HG hb1 hst hO1
    go_wp2_with fail
    refine (words_fn (.slice ra (goodT A).length rc) w1).mono ?_
    rintro e w2 ⟨rfl, rfl⟩
    have hO2 := HO1.out.1.al #[.slice ra (goodT A).length rc] 24
    have hst := HO1.out.2
    obtain ⟨m1, hO3, l1, c1⟩ := hO2.seal1
    obtain ⟨m2, hO4, l2, c2⟩ := hO3.swap.seal1
    have hO5 := hO4.swap.tail.nilRow 9 1
    have hO6 := hO5
    have hst2 := statesAt_le (Mem.le_trans l1 l2) hst
    have c1' := Mem.cell_le l2 c1
    have HS := Lib.hid (And.intro hO5 (And.intro hst2 (And.intro c1' c2)))
    clear hO2 hst hO3 hO4 hO5 hO6 hst2 c1 c2 c1' l1 l2 HO1 m1
    have hwp := want1_pos (n := n) (by omega)
    have hgl := goodT_len A
    have hgis := goodT_is A
    have hmul : (want1 n + 1) * ((goodT A).length + 1) ≤ 1000000 := Nat.le_trans (Nat.mul_le_mul_left _ (by omega)) hlen
    have HW := Lib.hid (And.intro hwp (And.intro hgis hmul))
    have hw1 := hwp.1
    have hw3 := hwp.2.2
    clear hwp hgis hmul hgl
    go_wp2
    refine (wpIn_wide (n := 0)).1 ?_
    refine wp_rangeOwn2 (gf := 70) (lb := #[.pointer (some ⟨w1.heap.size, 0, none⟩)]) rfl enters_words1 (encs := fun x : List UInt8 => #[Value.string ⟨x.toArray⟩]) (fun _ => rfl) HS.out.1
      (fun pre L => (∃ v, L = [.row v 9 1 pre.length (pre.map strV), .obj (w.heap.size + 1 + 1) 30 #[v]]) ∧ pre.length < want1 n)
      (fun c pre L => c = .exit 0 ∧ (∃ v, L = [.row v 9 1 pre.length (pre.map strV), .obj (w.heap.size + 1 + 1) 30 #[v]]) ∧ pre.length = want1 n)
      (fun xs => ∃ n, xs = enum (goodT A) 0 n ∧ ∀ y, accFrom (goodT A) 0 y = true → y.length < n) (fun xs => ∃ n, xs <+: enum (goodT A) 0 n ∧ xs ≠ []) ⟨⟨_, rfl⟩, by simp; omega⟩ ?seq
      (fun x => { tmps := #[.agg #[.slice va A.length vc], .int .i64 n, .pointer (some ⟨w.heap.size, 0, none⟩), .pointer (some ⟨w.heap.size + 1, 0, none⟩), .slice none 0 0, .pointer (some ⟨w.heap.size + 1 + 1, 0, none⟩), .string ⟨x.toArray⟩, .int .i64 n, .bool false, undef, .agg #[.slice va A.length vc], .agg #[.slice ra (goodT A).length rc], .func (.func 70) #[] #[.pointer (some ⟨w1.heap.size, 0, none⟩)], .string ⟨x.toArray⟩, undef, undef, undef, undef, undef, undef, undef, undef, undef, undef], defers := [] }) ?assign ?body ?done ?stop
    case seq =>
      intro l W1 L1 B Bx hB hBI hOw hY
      exact words1_any HW.out.2.1.canon (want1 n) HW.out.2.2 hY HS.out.2.2.1 HS.out.2.1 (fun pre Lt h => (hBI pre Lt h).elim fun L hL => hL.2) hB hOw
    case assign =>
      intro l x W K hK
      gi_wp2
      exact hK
    case body =>
      rintro l pre x W mk1 Lt Lr ⟨⟨v, rfl⟩, hlt⟩ hOw hle
      simp only [List.cons_append, List.nil_append] at hOw
      obtain ⟨xa, xc, rfl⟩ := row_slice hOw.row
      have o1 := hOw.swap.obj.cell (i := 0) rfl
      have o2 := hOw.swap.obj.lt
      have o3 := hOw.swap.obj.frozen 0
      have n1 := Mem.cell_w hOw.inn (Mem.cell_le hle HS.out.2.2.2)
      have n2 := Mem.cell_lt hOw.inn (Mem.cell_le hle HS.out.2.2.2)
      have hO2 := hOw.al #[.string ⟨x.toArray⟩] 9
      have hnews := hO2.obj.news rfl
      have Hlt := Lib.hid hlt
      clear hOw
      gi_wp2_with (gi_at_builtin; refine wpListIn_append_row tyStrs rfl (.tmp 14) (.tmp 16) rfl (.slice xa pre.length xc) pre.length (pre.map strV) rfl hO2.swap.row ⟨W.heap.size, 0, none⟩ 1 1 [.string ⟨x.toArray⟩] rfl rfl hnews (by simp [Value.oneCell']) (by unfold maxLen; omega) (by omega) ?_)
      intro ya yc w5 hown5 hgrow5 hrow5
      have hO3 := (hO2.swap.app hown5 hgrow5 hrow5 (by simp)).drop2
      have o1 := hO3.swap.obj.cell (i := 0) rfl
      have o2 := hO3.swap.obj.lt
      have o3 := hO3.swap.obj.frozen 0
      have n1 := Mem.cell_w hO3.inn (Mem.cell_le hle HS.out.2.2.2)
      have n2 := Mem.cell_lt hO3.inn (Mem.cell_le hle HS.out.2.2.2)
      have hO4 := (hO3.swap.set 0 (.slice ya (pre.length + 1) yc)).swap
      have HO4 := Lib.hid hO4
      clear hO4 hO3 hO2 hown5 hgrow5 hrow5 hnews
      have Hend := Lib.hid (show ∀ xs, xs = pre ++ [x] → ([Item.row (.slice ya (pre.length + 1) yc) 9 1 (pre.length + 1) (pre.map strV ++ [.string ⟨x.toArray⟩]), Item.obj (w.heap.size + 1 + 1) 30 #[.slice ya (pre.length + 1) yc]] : List Item) = [Item.row (.slice ya (pre.length + 1) yc) 9 1 xs.length (xs.map strV), Item.obj (w.heap.size + 1 + 1) 30 #[.slice ya (pre.length + 1) yc]] from fun xs h => by
        subst h; simp [strV])
      have hne : w.heap.size + 1 ≠ w.heap.size + 1 + 1 := by omega
      gi_wp2
      all_goals unfold RoundEnd
      all_goals dsimp only
      all_goals first
        | (have ht : ((pre.length : Int) + 1 == min n 1000) = true := by assumption
           refine ⟨mk1, _, ⟨rfl, ⟨_, Hend.out _ rfl⟩, ?_⟩, HO4.out, Mem.le_refl _⟩
           have h1 := HW.out.1.2.1
           have h2 := beq_iff_eq.1 ht
           simp only [List.length_append, List.length_cons, List.length_nil]
           omega)
        | (have ht : ((pre.length : Int) + 1 == min n 1000) = false := by assumption
           refine ⟨mk1, _, ⟨⟨_, Hend.out _ rfl⟩, ?_⟩, HO4.out, Mem.le_refl _⟩
           have h1 := HW.out.1.2.1
           have h2 := beq_eq_false_iff_ne.1 ht
           have h3 := Hlt.out
           simp only [List.length_append, List.length_cons, List.length_nil]
           omega)
    case done =>
      rintro D xs W mk1 L ⟨nn, hxs, hfin⟩ ⟨⟨v, rfl⟩, hlt⟩ hOw hle
      obtain ⟨xa, xc, rfl⟩ := row_slice hOw.swap.row
      have o1 := hOw.third.obj.cell (i := 0) rfl
      have o2 := hOw.third.obj.lt
      have hfirst := first_of_seq (.inl ⟨nn, hxs, hfin, hlt⟩)
      have hres : IsFirst (Sem A) (want1 n) xs := hfirst.congr fun y => HW.out.2.1.lang y
      have hsz : ∀ z ∈ xs, (bstr z).size ≤ maxLen := fun z hz => by
        have := first_size hfirst HW.out.2.2 z hz
        simp [bstr, ByteArray.size, maxLen]; omega
      clear hxs hfin hlt hfirst
      have hbl := hOw.blob
      have hO2 := hOw.swap
      have hst := strsAt_of_row (l := xs.map bstr) (m := mk1) (t := 9) (v := .slice xa xs.length xc) (w := W) (by
        rw [List.length_map, List.map_map]; exact hO2.row) (fun y hy => by
        obtain ⟨z, hz, rfl⟩ := List.mem_map.1 hy
        exact hsz z hz)
      rw [show (Mem.addv mk1 W (.slice xa xs.length xc)) = Mem.addv mk1 W (.slice xa xs.length xc) from rfl] at hst
      have hO3 := hO2.sealRow
      have hO4 := hO3.setBlob (o' := .deferred none) (World.putObj_heap_same (Array.getElem?_eq_some_iff.1 hbl).1) (grownBy_putObj' _ _ _)
      have hfin2 := strsAt_le hO4.done hst
      have Hk := Lib.hid (And.intro hO4.below (And.intro hfin2 hres))
      clear hO4 hO3 hO2 hOw hst hfin2
      gi_wp2
      go_wp2
      refine ⟨by simp, .inl ⟨_, _, rfl, run_takeDeferred hbl, ?_⟩⟩
      exact ⟨.slice xa xs.length xc, by simp [results, Tryd.results18, go_sem], hR.out _ _ ⟨_, xs, rfl, Hk.out.1, Hk.out.2.1, Hk.out.2.2⟩⟩
    case stop =>
      rintro D c xs W mk1 L ⟨nn, hpre, hne⟩ ⟨rfl, ⟨v, rfl⟩, hlt⟩ hOw hle
      obtain ⟨xa, xc, rfl⟩ := row_slice hOw.swap.row
      have o1 := hOw.third.obj.cell (i := 0) rfl
      have o2 := hOw.third.obj.lt
      have hfirst := first_of_seq (.inr ⟨nn, hpre, hlt⟩)
      have hres : IsFirst (Sem A) (want1 n) xs := hfirst.congr fun y => HW.out.2.1.lang y
      have hsz : ∀ z ∈ xs, (bstr z).size ≤ maxLen := fun z hz => by
        have := first_size hfirst HW.out.2.2 z hz
        simp [bstr, ByteArray.size, maxLen]; omega
      clear hpre hne hlt hfirst
      have hbl := hOw.blob
      have hO2 := hOw.swap
      have hst := strsAt_of_row (l := xs.map bstr) (m := mk1) (t := 9) (v := .slice xa xs.length xc) (w := W) (by
        rw [List.length_map, List.map_map]; exact hO2.row) (fun y hy => by
        obtain ⟨z, hz, rfl⟩ := List.mem_map.1 hy
        exact hsz z hz)
      rw [show (Mem.addv mk1 W (.slice xa xs.length xc)) = Mem.addv mk1 W (.slice xa xs.length xc) from rfl] at hst
      have hO3 := hO2.sealRow
      have hO4 := hO3.setBlob (o' := .deferred none) (World.putObj_heap_same (Array.getElem?_eq_some_iff.1 hbl).1) (grownBy_putObj' _ _ _)
      have hfin2 := strsAt_le hO4.done hst
      have Hk := Lib.hid (And.intro hO4.below (And.intro hfin2 hres))
      clear hO4 hO3 hO2 hOw hst hfin2
      gi_wp2
      go_wp2
      refine ⟨by simp, .inl ⟨_, _, rfl, run_takeDeferred hbl, ?_⟩⟩
      exact ⟨.slice xa xs.length xc, by simp [results, Tryd.results18, go_sem], hR.out _ _ ⟨_, xs, rfl, Hk.out.1, Hk.out.2.1, Hk.out.2.2⟩⟩
end Cl
namespace Cl
open Go Go.RowKit Go.Proofs

/-- the only word -/
def SingIs (f : List UInt8 → Bool) : Option (List UInt8) → Prop
  | some x => f x = true ∧ ∀ y, f y = true → y = x
  | none => ¬ ∃ x, f x = true ∧ ∀ y, f y = true → y = x
theorem sing_first {f : List UInt8 → Bool} {ws : List (List UInt8)} (h : IsFirst f 2 ws) : SingIs f (if ws.length = 1 then ws.head? else none) := by
  match ws, h with
  | [], h =>
    rintro ⟨x, h1, -⟩
    have := (h.rest x h1 (by simp)).1
    simp at this
  | [x], h =>
    refine ⟨h.mem x (by simp), fun y hy => ?_⟩
    apply Classical.byContradiction
    intro hn
    have := (h.rest y hy (by simpa using hn)).1
    simp at this
  | x :: y :: r, h =>
    simp only [List.length_cons]
    rw [if_neg (by omega)]
    rintro ⟨z, h1, h2⟩
    have hx := h2 x (h.mem x (by simp))
    have hy := h2 y (h.mem y (by simp))
    have := (List.pairwise_cons.1 h.sorted).1 y (by simp)
    rw [hx, hy] at this
    exact slt_irrefl _ this
theorem sing_unique {f : List UInt8 → Bool} {a b : Option (List UInt8)} (h : SingIs f a) (k : SingIs f b) : a = b := by
  cases a with
  | none =>
    cases b with
    | none => rfl
    | some y => exact absurd ⟨y, k.1, k.2⟩ h
  | some x =>
    cases b with
    | none => exact absurd ⟨x, h.1, h.2⟩ k
    | some y => rw [k.2 x h.1]
theorem SingIs.congr {f g : List UInt8 → Bool} {a : Option (List UInt8)} (h : SingIs f a) (e : ∀ w, f w = g w) : SingIs g a := by
  have : f = g := funext e
  rw [← this]; exact h
/-- a string and whether it is there -/
def optV (o : Option (List UInt8)) : Value := .tuple #[.string (match o with | some x => bstr x | none => ⟨#[]⟩), .bool o.isSome]

set_option maxRecDepth 100000 in
set_option maxHeartbeats 1000000 in
theorem langLeast_any (v0 : Value) (A : Table) (m : Mem) (w : World) (hm : m.inn w) (htab : TabM m) (hA : statesAt m v0 A) (hlen : A.length ≤ 400000) :
    Calls Tryd.prog 20 #[.agg #[v0]] w fun e w' => ∃ o, e = .returned (optV o) ∧ Below w.heap.size w w' ∧ IsLeast (Sem A) o := by
  have hO := (Own.start hm).al #[v0] 24
  have HW := Lib.hid (langWords_any v0 A 1 m _ hO.inn htab hA (by omega) (by omega) (by have : want1 1 = 1 := rfl; rw [this]; omega))
  have HO := Lib.hid hO
  clear hO
  refine calls_hide fun R hR => ?_
  go_enter Tryd.func20, Tryd.ntmps20
  go_wp2_with fail
  refine HW.out.mono ?_
  rintro e w1 ⟨r, ws, rfl, hb1, hst, hfirst⟩
  have hO1 := HO.out.call hb1
  have hl := least_first hfirst
  cases ws with
  | nil =>
    obtain ⟨ra, rc, rfl, r2, r3, r4⟩ := hst
    have Hk := Lib.hid (And.intro hO1.below hl)
    clear hO1 hl hfirst HW HO hb1 r4
    go_wp2
    exact hR.out _ _ ⟨none, rfl, Hk.out.1, Hk.out.2⟩
  | cons x ws =>
    obtain ⟨ra, rc, rfl, r2, r3, r4⟩ := hst
    obtain ⟨rb, ro, rfl, r5⟩ := r4 (by simp)
    have z := (r5 0 (by simp)).1
    rw [Nat.add_zero] at z
    have z1 := Mem.cell_w hO1.inn z
    have z2 := Mem.cell_lt hO1.inn z
    simp only [List.map_cons, List.getElem_cons_zero] at z1
    have hw0 : 0 < (List.map bstr (x :: ws)).length := by simp
    have hdec : (((List.map bstr (x :: ws)).length : Int) == 0) = false := beq_eq_false_iff_ne.2 (by omega)
    have Hk := Lib.hid (And.intro hO1.below hl)
    clear hO1 hl hfirst HW HO hb1 r4 r5 z
    generalize (List.map bstr (x :: ws)).length = N at *
    go_wp2
    exact hR.out _ _ ⟨some x, rfl, Hk.out.1, Hk.out.2⟩

set_option maxRecDepth 100000 in
set_option maxHeartbeats 1000000 in
theorem langSingle_any (v0 : Value) (A : Table) (m : Mem) (w : World) (hm : m.inn w) (htab : TabM m) (hA : statesAt m v0 A) (hlen : A.length ≤ 300000) :
    Calls Tryd.prog 22 #[.agg #[v0]] w fun e w' => ∃ o, e = .returned (optV o) ∧ Below w.heap.size w w' ∧ SingIs (Sem A) o := by
  have hO := (Own.start hm).al #[v0] 24
  have HW := Lib.hid (langWords_any v0 A 2 m _ hO.inn htab hA (by omega) (by omega) (by have : want1 2 = 2 := rfl; rw [this]; omega))
  have HO := Lib.hid hO
  clear hO
  refine calls_hide fun R hR => ?_
  go_enter Tryd.func22, Tryd.ntmps22
  go_wp2_with fail
  refine HW.out.mono ?_
  rintro e w1 ⟨r, ws, rfl, hb1, hst, hfirst⟩
  have hO1 := HO.out.call hb1
  have hl := sing_first hfirst
  obtain ⟨ra, rc, rfl, r2, r3, r4⟩ := hst
  by_cases h1 : ws.length = 1
  · rw [if_pos h1] at hl
    cases ws with
    | nil => simp at h1
    | cons x ws =>
      obtain ⟨rb, ro, rfl, r5⟩ := r4 (by simp)
      have z := (r5 0 (by simp)).1
      rw [Nat.add_zero] at z
      have z1 := Mem.cell_w hO1.inn z
      have z2 := Mem.cell_lt hO1.inn z
      simp only [List.map_cons, List.getElem_cons_zero] at z1
      have hN : (List.map bstr (x :: ws)).length = 1 := by simpa using h1
      rw [hN] at r2
      have Hk := Lib.hid (And.intro hO1.below hl)
      rw [hN]
      clear hO1 hl hfirst HW HO hb1 r4 r5 z h1 hN
      go_wp2
      exact hR.out _ _ ⟨some x, rfl, Hk.out.1, Hk.out.2⟩
  · rw [if_neg h1] at hl
    have hN : ((List.map bstr ws).length : Int) ≠ 1 := by simp; omega
    have hdec : (((List.map bstr ws).length : Int) != 1) = true := bne_iff_ne.2 hN
    have Hk := Lib.hid (And.intro hO1.below hl)
    clear hO1 hl hfirst HW HO hb1 r4 h1 hN
    generalize (List.map bstr ws).length = N at *
    go_wp2
    exact hR.out _ _ ⟨none, rfl, Hk.out.1, Hk.out.2⟩
end Cl
namespace Cl
open Go Go.RowKit Go.Proofs

theorem rep_set (k N : Nat) (h : k < N) : (List.replicate k true ++ List.replicate (N - k) false).set k true = List.replicate (k + 1) true ++ List.replicate (N - (k + 1)) false := by
  rw [show N - k = (N - (k + 1)) + 1 by omega, List.replicate_succ, set_mid _ _ _ _ (by simp), List.replicate_succ' (n := k), List.append_assoc]
  rfl

set_option maxRecDepth 100000 in
set_option maxHeartbeats 4000000 in
theorem langFinite_any (v0 : Value) (A : Table) (m : Mem) (w : World) (hm : m.inn w) (htab : TabM m) (hA : statesAt m v0 A) (hlen : A.length ≤ 1000000) :
    Calls Tryd.prog 24 #[.agg #[v0]] w fun e w' => e = .returned (.bool (tf (FinSet (Sem A)))) ∧ Below w.heap.size w w' := by
  have hO := (Own.start hm).al #[v0] 24
  have HG := Lib.hid (good_any v0 A m _ hO.inn htab hA hlen)
  have HO := Lib.hid hO
  obtain ⟨va, vc, rfl, -⟩ := hA
  clear hO
  have hgl := goodT_len A
  have hgis := goodT_is A
  have hsem : FinSet (Sem A) ↔ FinSet (accFrom (goodT A) 0) := by
    have : Sem A = accFrom (goodT A) 0 := funext fun x => (hgis.lang x).symm
    rw [this]
  rw [tf_congr hsem]
  have HC := Lib.hid hgis.canon
  clear hgis hsem
  refine calls_hide fun R hR => ?_
  generalize goodT A = T at *
  go_enter Tryd.func24, Tryd.ntmps24
  go_wp2_with fail
  refine HG.out.mono ?_
  rintro e w1 ⟨r, rfl, hb1, hst⟩
  have hO1 := HO.out.call hb1
  obtain ⟨ra, rc, rfl, r2, r3, r4⟩ := hst
  unfold maxLen at r3
  have g1 := hO1.obj.cell (i := 0) rfl
  have g2 := hO1.obj.frozen 0
  have g3 := hO1.obj.lt
  have hO2 := hO1.set 0 (.slice ra T.length rc)
  have g4 := hO2.obj.cell (i := 0) rfl
  have HO2 := Lib.hid hO2
  generalize hmk : m.grow (w.alloc (.cells #[.slice va A.length vc] 24)) w1 = mk at *
  clear hO1 hO2 HO HG hb1 hmk
  go_wp2_with (refine wpList_make_row mkBools rfl (.tmp 14) (.tmp 14) rfl T.length rfl rfl (by omega) (by unfold maxLen; omega) ?_)
  intro w5 hown hgrow
  have hO3 := HO2.out.make (n := T.length) (cap := T.length) (t := 4) (size := 1) (xs := List.replicate T.length (Value.bool false)) (by simpa using hown) hgrow
  rw [show (w1.setCell ⟨w.heap.size, 0, none⟩ (.slice ra T.length rc)).heap.size = w1.heap.size by simp] at hO3
  rw [show List.replicate T.length (Value.bool false) = (List.replicate 0 true ++ List.replicate (T.length - 0) false).map Value.bool by simp] at hO3
  generalize w1.heap.size = B at *
  have HO3 := Lib.hid hO3
  clear hown hgrow HO2 hO3 g1 g2 g3 g4
  go_wp2
  refine wp_loop_keep [1, 3, 17, 18] (fun n vs wr => ∃ (k : Nat), k ≤ T.length ∧ n = T.length - k ∧ vs = [.pointer (some ⟨w.heap.size, 0, none⟩), .slice (some ⟨B, 0, none⟩) T.length T.length, .int .i64 T.length, .int .i64 k] ∧
    Own w m wr mk [.row (.slice (some ⟨B, 0, none⟩) T.length T.length) 4 1 T.length ((List.replicate k true ++ List.replicate (T.length - k) false).map Value.bool), .obj w.heap.size 24 #[.slice ra T.length rc]]) ?_ ?_
  · exact ⟨_, 0, Nat.zero_le _, rfl, rfl, HO3.out⟩
  clear HO3
  rintro X z n vs wr hX - ⟨k, hk, rfl, rfl, hO⟩
  simp [litL, lk]
  by_cases hlt : k < T.length
  · have r1 := row_cellw (j := k) (u := .bool false) hO.row (by
      rw [List.getElem?_map, show T.length - k = (T.length - (k + 1)) + 1 by omega, List.replicate_succ, get_mid _ _ _ (by simp)]; rfl)
    have r2' := row_frozen hO.row k
    have r3' := (World.ownsRow.lt hO.row _ rfl).2
    have hO2 := hO.setRow k (.bool true)
    rw [← List.map_set, rep_set k _ hlt] at hO2
    have HO2 := Lib.hid hO2
    clear hO hO2
    go_wp2
    exact hX.out _ _ _ (by omega) rfl ⟨k + 1, by omega, rfl, rfl, HO2.out⟩
  · obtain rfl : k = T.length := by omega
    rw [Nat.sub_self, List.replicate_zero, List.append_nil] at hO
    have hf := finv_start T
    generalize List.replicate T.length true = lf0 at *
    have HO := Lib.hid (And.intro hO hf)
    clear hO hf
    go_wp2
    refine wp_loop_keep [1, 3, 5] (fun n vs wr => ∃ (lf : List Bool) (ag : Bool), n = lf.count true + (if ag then 1 else 0) ∧ vs = [.pointer (some ⟨w.heap.size, 0, none⟩), .slice (some ⟨B, 0, none⟩) T.length T.length, .bool ag] ∧
      Own w m wr mk [.row (.slice (some ⟨B, 0, none⟩) T.length T.length) 4 1 T.length (lf.map Value.bool), .obj w.heap.size 24 #[.slice ra T.length rc]] ∧ FInv T lf ∧ (ag = false → NoEnd T lf T.length)) ?_ ?_
    · exact ⟨_, lf0, true, rfl, rfl, HO.out.1, HO.out.2, fun h => by cases h⟩
    clear HO
    rintro Y z2 n vs w2 hY - ⟨lf, ag, rfl, rfl, hO, hFI, hNE⟩
    simp [litL, lk]
    cases ag with
    | true =>
      have HFI := Lib.hid hFI
      have HO := Lib.hid hO
      clear hO hFI hNE
      go_wp2
      refine wp_loop_keep [1, 3, 5, 27, 28] (fun n vs w3 => ∃ (k : Nat) (l2 : List Bool) (ag : Bool), k ≤ T.length ∧ n = T.length - k ∧ vs = [.pointer (some ⟨w.heap.size, 0, none⟩), .slice (some ⟨B, 0, none⟩) T.length T.length, .bool ag, .int .i64 T.length, .int .i64 k] ∧
        Own w m w3 mk [.row (.slice (some ⟨B, 0, none⟩) T.length T.length) 4 1 T.length (l2.map Value.bool), .obj w.heap.size 24 #[.slice ra T.length rc]] ∧ FInv T l2 ∧ (ag = false → l2 = lf ∧ NoEnd T lf k) ∧ (ag = true → l2.count true < lf.count true)) ?_ ?_
      · exact ⟨_, 0, lf, false, Nat.zero_le _, rfl, rfl, HO.out, HFI.out, fun _ => ⟨rfl, fun s hs => by omega⟩, fun h => by cases h⟩
      clear HO
      rintro Z z3 n vs w3 hZ - ⟨k, l2, ag, hk, rfl, rfl, hO, hF2, hag0, hag1⟩
      simp [litL, lk]
      by_cases hlt : k < T.length
      · have hl2 := hF2.1
        have hkl : k < l2.length := by omega
        have hl2a : T.length ≤ l2.length := by omega
        have hl2b : l2.length ≤ T.length := by omega
        obtain ⟨cur, hcur⟩ : ∃ cur, l2[k] = cur := ⟨_, rfl⟩
        have hck : l2[k]? = some cur := by rw [List.getElem?_eq_getElem hkl, hcur]
        have r1 := row_cellw (j := k) (u := .bool cur) hO.row (by rw [List.getElem?_map, hck]; rfl)
        have r2' := row_frozen hO.row k
        have r3' := (World.ownsRow.lt hO.row _ rfl).2
        have Hst := Lib.hid (And.intro hO (And.intro hF2 (And.intro hag0 (And.intro hag1 (And.intro hck hl2)))))
        clear hO hF2 hag0 hag1 hcur hck hl2
        cases cur with
        | false =>
          go_wp2
          refine hZ.out _ _ _ (by omega) rfl ⟨k + 1, l2, ag, by omega, rfl, rfl, Hst.out.1, Hst.out.2.1, fun h => ⟨(Hst.out.2.2.1 h).1, ?_⟩, Hst.out.2.2.2.1⟩
          intro s hs hsl hx
          by_cases e : s = k
          · subst e
            have h1 := Hst.out.2.2.2.2.1
            rw [(Hst.out.2.2.1 h).1] at h1
            rw [h1] at hx; cases hx
          · exact (Hst.out.2.2.1 h).2 s (by omega) hsl hx
        | true =>
          obtain ⟨tb, to', rfl, r5⟩ := r4 (by intro h; simp [h] at hlt)
          obtain ⟨-, ve, s2, ea, ec, rfl, g4, g5, g6⟩ := r5 k hlt
          have s2w := Mem.cell_w Hst.out.1.inn s2
          have s2l := Mem.cell_lt Hst.out.1.inn s2
          have a1 := Hst.out.1.swap.obj.cell (i := 0) rfl
          have a2 := Hst.out.1.swap.obj.lt
          have hlh := wfEdges_lohi (HC.out.wf T[k] (List.getElem_mem hlt))
          have HL := Lib.hid (fun (h : ∀ e ∈ (T[k]).edges, l2[e.to.toNat]? = some false) => finv_set Hst.out.2.1 hlt HC.out.wf h)
          have HN := Lib.hid (show ∀ e : List Ed, e = (T[k]).edges → ∀ s hs, s = k → (T[s]'hs).edges = e from fun e he s hs h => by subst h; exact he.symm)
          unfold maxLen at g5
          generalize hes : (T[k]).edges = es at *
          have Hes := Lib.hid hes
          clear hes s2 r5
          go_wp2
          refine wp_loop_keep [1, 3, 5, 6, 7, 27, 28, 41, 42, 43] (fun n vs w4 => ∃ (j : Nat) (en : Bool), j ≤ es.length ∧ n = es.length - j ∧ vs = [.pointer (some ⟨w.heap.size, 0, none⟩), .slice (some ⟨B, 0, none⟩) T.length T.length, .bool ag, .int .i64 k, .bool en, .int .i64 T.length, .int .i64 k, .slice ea es.length ec, .int .i64 es.length, .int .i64 j] ∧
            Own w m w4 mk [.row (.slice (some ⟨B, 0, none⟩) T.length T.length) 4 1 T.length (l2.map Value.bool), .obj w.heap.size 24 #[.slice (some ⟨tb, to', none⟩) T.length rc]] ∧ (en = true ↔ ∀ e ∈ es.take j, l2[e.to.toNat]? = some false)) ?_ ?_
          · exact ⟨_, 0, true, Nat.zero_le _, rfl, rfl, Hst.out.1, by simp⟩
          clear s2w s2l a1 a2 r1 r2' r3'
          rintro V z4 n vs w4 hV - ⟨j, en, hj, rfl, rfl, hO, hen⟩
          simp [litL, lk]
          have hb1 := (World.ownsRow.lt hO.row _ rfl).2
          by_cases hlt2 : j < es.length
          · obtain ⟨eb, eo, rfl, g7⟩ := g6 (by intro h; simp [h] at hlt2)
            obtain ⟨e1, e2, e3, e4, e5, -⟩ := g7 j hlt2
            have e1w := Mem.cell_w hO.inn e1
            have e2w := Mem.cell_w hO.inn e2
            have e3w := Mem.cell_w hO.inn e3
            have el := Mem.cell_lt hO.inn e1
            have hte := hlh es[j] (List.getElem_mem hlt2)
            obtain ⟨t, ht⟩ := Int.eq_ofNat_of_zero_le hte.2.1
            have htl : t < l2.length := by omega
            have hall : (∀ e ∈ es.take (j + 1), l2[e.to.toNat]? = some false) ↔ (∀ e ∈ es.take j, l2[e.to.toNat]? = some false) ∧ l2[t]? = some false := by
              rw [List.take_succ_eq_append_getElem hlt2]
              constructor
              · intro h
                refine ⟨fun e he => h e (List.mem_append_left _ he), ?_⟩
                have := h es[j] (List.mem_append_right _ (List.mem_singleton.2 rfl))
                rwa [ht, Int.toNat_natCast] at this
              · rintro ⟨h1, h2⟩ e he
                rcases List.mem_append.1 he with h3 | h3
                · exact h1 e h3
                · rw [List.mem_singleton.1 h3, ht, Int.toNat_natCast]; exact h2
            obtain ⟨y, hy⟩ : ∃ y, l2[t] = y := ⟨_, rfl⟩
            have hty : l2[t]? = some y := by rw [List.getElem?_eq_getElem htl, hy]
            have q1 := row_cellw (j := t) (u := .bool y) hO.row (by rw [List.getElem?_map, hty]; rfl)
            rw [ht] at e3w
            rw [hty] at hall
            have Hq := Lib.hid (And.intro hall (And.intro hen (hO.al' (.cells #[.int .u8 (es[j]).lo, .int .u8 (es[j]).hi, .int .i64 t] 51))))
            generalize es[j] = e at *
            have htT : t < T.length := by omega
            clear hall hen hO hy hty ht e1 e2 e3
            cases en with
            | true =>
              cases y with
              | true =>
                go_wp2
                refine hV.out _ _ _ (by omega) rfl ⟨j + 1, false, by omega, rfl, rfl, Hq.out.2.2, ?_⟩
                rw [Hq.out.1]; simp
              | false =>
                go_wp2
                refine hV.out _ _ _ (by omega) rfl ⟨j + 1, true, by omega, rfl, rfl, Hq.out.2.2, ?_⟩
                rw [Hq.out.1, ← Hq.out.2.1]; simp
            | false =>
              go_wp2
              refine hV.out _ _ _ (by omega) rfl ⟨j + 1, false, by omega, rfl, rfl, Hq.out.2.2, ?_⟩
              rw [Hq.out.1, ← Hq.out.2.1]; simp
          · obtain rfl : j = es.length := by omega
            rw [List.take_length] at hen
            have q1 := row_cellw (j := k) (u := .bool true) hO.row (by rw [List.getElem?_map, Hst.out.2.2.2.2.1]; rfl)
            have q2 := row_frozen hO.row k
            cases en with
            | true =>
              have hO2 := hO.setRow k (.bool false)
              rw [← List.map_set] at hO2
              have hall := hen.1 rfl
              have Hq := Lib.hid (And.intro hO2 hall)
              clear hO2 hall hen hO
              go_wp2
              refine hZ.out _ _ _ (by omega) rfl ⟨k + 1, l2.set k false, true, by omega, rfl, rfl, Hq.out.1, HL.out Hq.out.2, (fun h => by cases h), fun _ => ?_⟩
              have h1 := count_set_lt Hst.out.2.2.2.2.1
              cases ag with
              | true => have := Hst.out.2.2.2.1 rfl; omega
              | false => rw [(Hst.out.2.2.1 rfl).1] at h1 ⊢; exact h1
            | false =>
              have Hq := Lib.hid (And.intro hO hen)
              clear hO hen
              go_wp2
              refine hZ.out _ _ _ (by omega) rfl ⟨k + 1, l2, ag, by omega, rfl, rfl, Hq.out.1, Hst.out.2.1, fun h => ⟨(Hst.out.2.2.1 h).1, ?_⟩, Hst.out.2.2.2.1⟩
              intro s hs hsl hx
              by_cases e : s = k
              · rw [HN.out es rfl s hsl e]
                have hne : ¬ (∀ e ∈ es, l2[e.to.toNat]? = some false) := fun h => by have := Hq.out.2.2 h; cases this
                apply Classical.byContradiction
                intro hc
                apply hne
                intro x hx'
                have h5 := hlh x hx'
                have h6 : x.to.toNat < l2.length := by omega
                cases hb : l2[x.to.toNat]? with
                | none => rw [List.getElem?_eq_getElem h6] at hb; cases hb
                | some b =>
                  cases b with
                  | false => rfl
                  | true => exact absurd ⟨x, hx', by rw [← (Hst.out.2.2.1 h).1]; exact hb⟩ hc
              · exact (Hst.out.2.2.1 h).2 s (by omega) hsl hx
      · obtain rfl : k = T.length := by omega
        have Hq := Lib.hid (And.intro hO (And.intro hF2 (And.intro hag0 hag1)))
        clear hO hF2 hag0 hag1
        go_wp2
        refine hY.out _ _ _ ?_ rfl ⟨l2, ag, rfl, rfl, Hq.out.1, Hq.out.2.1, fun h => ?_⟩
        · cases ag with
          | true => have := Hq.out.2.2.2 rfl; simp; omega
          | false => rw [(Hq.out.2.2.1 rfl).1]; simp
        · rw [(Hq.out.2.2.1 h).1]; exact (Hq.out.2.2.1 h).2
    | false =>
      have hfl := fin_left HC.out hFI (hNE rfl)
      have hbs := boolsAt_of_row (l := lf) (m := mk) (by rw [hFI.1]; exact hO.row)
      have hO2 := hO.sealRow
      have hct := Contains_bool_any _ lf true _ w2 hO2.inn hbs
      have Hq := Lib.hid (And.intro hfl (And.intro hct hO2))
      clear hfl hbs hO2 hct hO hFI hNE
      go_wp2_with fail
      refine Hq.out.2.1.mono ?_
      rintro e w5 ⟨rfl, hb5⟩
      have hO5 := (Hq.out.2.2.move hb5).below
      by_cases hmem : true ∈ lf
      · rw [tf_true hmem]
        have Hm := Lib.hid hmem
        clear hmem
        go_wp2
        exact hR.out _ _ ⟨ret_bool (by rw [tf_false (fun h => Hq.out.1.1 h Hm.out)]), hO5⟩
      · rw [tf_false hmem]
        have Hm := Lib.hid hmem
        clear hmem
        go_wp2
        exact hR.out _ _ ⟨ret_bool (by rw [tf_true (Hq.out.1.2 Hm.out)]), hO5⟩
end Cl

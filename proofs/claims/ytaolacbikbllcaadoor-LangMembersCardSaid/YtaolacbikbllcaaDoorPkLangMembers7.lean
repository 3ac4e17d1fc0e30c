/- Lemmas for the proof, part 7: WalkBG, Range2, WalkBH, WalkBI, WalkBJ, WalkBK, WalkBL, WalkBM, WalkBN, WalkBO. -/
import Derived.Laws.EntriesVeiled
import Derived.RegionTactic
import Derived.ChangeAlike
import Derived.Test.YtaolacbikbllcaaDoorPkLangMembers1
import Derived.Test.YtaolacbikbllcaaDoorPkLangMembers4
import Derived.Test.YtaolacbikbllcaaDoorPkLangMembers6
import Derived.Test.YtaolacbikbllcaaDoorPkLangMembers2
import Derived.Test.YtaolacbikbllcaaDoorPkLangMembers3
import Derived.Test.YtaolacbikbllcaaDoorPkLangMembers5
namespace Cl
open Go Go.RowKit Go.Proofs

theorem tyBoolss : SliceTy Tryd.prog 57 41 1 24 := ⟨Tryd.underlying57, by omega, by
  obtain ⟨i, h1, h2, h3, h4⟩ := info_parts (P := Tryd.prog) (e := 41) (z := .slice none 0 0) (size := 1) (bytes := 24) (by kernel_rfl)
  exact ⟨i, _, h1, h2, h3, h4, rfl⟩⟩
/-- the rows of the table: which states have words of each length -/
def CanRow (T : Table) (mk : Mem) (xs : List Value) (n : Nat) : Prop := xs.length = n ∧ ∀ i, i < n → ∃ u, xs[i]? = some u ∧ boolsAt mk u (canN T i)
theorem CanRow.mono {T : Table} {mk mk' : Mem} {xs : List Value} {n : Nat} (h : CanRow T mk xs n) (hl : mk.le mk') : CanRow T mk' xs n :=
  ⟨h.1, fun i hi => let ⟨u, h1, h2⟩ := h.2 i hi; ⟨u, h1, boolsAt_le hl h2⟩⟩
theorem CanRow.push {T : Table} {mk : Mem} {xs : List Value} {n : Nat} (h : CanRow T mk xs n) {u : Value} (hu : boolsAt mk u (canN T n)) : CanRow T mk (xs ++ [u]) (n + 1) := by
  refine ⟨by rw [List.length_append, h.1]; rfl, fun i hi => ?_⟩
  by_cases e : i < n
  · obtain ⟨v, h1, h2⟩ := h.2 i e
    exact ⟨v, by rw [List.getElem?_append_left (by rw [h.1]; exact e)]; exact h1, h2⟩
  · obtain rfl : i = n := by omega
    exact ⟨u, by rw [List.getElem?_append_right (by rw [h.1]; exact Nat.le_refl _), h.1]; simp, hu⟩

theorem row_cap {w : World} {t : TypeId} {size n c g : Nat} {xs : List Value} (h : w.ownsRow 0 t size (.slice (some ⟨g, 0, none⟩) n c) n xs) : n ≤ c ∧ c ≤ maxLen := by
  rcases h.2 with ⟨h, -⟩ | ⟨g', cap, cur, h, -, -, hnc, hcm, -⟩
  · cases h
  · injection h with h1 h2 h3; subst h3; exact ⟨hnc, hcm⟩

set_option maxRecDepth 100000 in
set_option maxHeartbeats 8000000 in
theorem words1_any {T : Table} {l ga : Nat} {w0 : World} {m mk : Mem} {B Bx : List (List UInt8) → List Item → Prop} {va : Value} {L1 : List Item} {W : World} (hC : Canon T) (K : Nat) (hK : (K + 1) * (T.length + 1) ≤ 1000000)
    (hY : YieldOK Tryd.prog l (fun x : List UInt8 => #[Value.string ⟨x.toArray⟩]) w0 m mk B Bx) (ca : mk.cell ga 0 = some va) (htab : statesAt mk va T) (hBK : ∀ pre Lt, B pre Lt → pre.length < K) (hB : B [] L1) (hO : Own w0 m W mk L1) :
    Calls Tryd.prog 70 #[.func (.yield l) #[] #[], .pointer (some ⟨ga, 0, none⟩)] W
      (SeqEnd w0 m mk B Bx (fun xs => ∃ n, xs = enum T 0 n ∧ ∀ y, accFrom T 0 y = true → y.length < n) (fun xs => ∃ n, xs <+: enum T 0 n ∧ xs ≠ [])) := by
  have hKT : K * T.length + K + T.length + 1 ≤ 1000000 := by
    have : (K + 1) * (T.length + 1) = K * T.length + K + T.length + 1 := by rw [Nat.add_mul, Nat.mul_add]; omega
    omega
  generalize hKL : K * T.length = KT at *
  have HKL := Lib.hid hKL
  have hta := htab
  obtain ⟨aa, ac, rfl, a1, a2, a3⟩ := htab
  have ha := Mem.cell_w hO.inn ca
  have hal := Mem.cell_lt hO.inn ca
  have HX := Lib.hid (And.intro hta (And.intro hY (And.intro hBK (And.intro hC ca))))
  have HO := Lib.hid (And.intro hO hB)
  unfold maxLen at a2
  refine calls_hide fun R hR => ?_
  clear hO hB hta hY hBK hC hKL ca
  go_enter Tryd.func70, Tryd.ntmps70
  go_wp2
  refine wp_loop_keep [0, 1, 3, 4, 9, 10] (fun q vs W1 => ∃ (k : Nat) (vf : Value), k ≤ T.length ∧ q = T.length - k ∧ vs = [.func (.yield l) #[] #[], .pointer (some ⟨ga, 0, none⟩), .slice none 0 0, vf, .int .i64 T.length, .int .i64 k] ∧
    Own w0 m W1 mk (.row vf 4 1 k (((T.take k).map (·.accept)).map Value.bool) :: L1)) ?_ ?_
  · exact ⟨_, 0, .slice none 0 0, Nat.zero_le _, rfl, rfl, HO.out.1.nilRow _ _⟩
  clear ha hal
  rintro X z q vs W1 hX - ⟨k, vf, hk, rfl, rfl, hO⟩
  simp [litL, lk]
  obtain ⟨vfa, vfc, rfl⟩ := row_slice hO.row
  have ha := Mem.cell_w hO.inn HX.out.2.2.2.2
  have hal := Mem.cell_lt hO.inn HX.out.2.2.2.2
  by_cases hlt : k < T.length
  · obtain ⟨b, off, rfl, a4⟩ := a3 (by intro h; simp [h] at hlt)
    have s1w := Mem.cell_w hO.inn (a4 k hlt).1
    have s1l := Mem.cell_lt hO.inn (a4 k hlt).1
    have htk : (T.take (k + 1)).map (·.accept) = (T.take k).map (·.accept) ++ [(T[k]).accept] := by rw [List.take_succ_eq_append_getElem hlt, List.map_append]; rfl
    have Htk := Lib.hid htk
    generalize (T[k]).accept = y at *
    have hO2 := hO.al #[.bool y] 4
    have hnews := hO2.obj.news rfl
    clear htk hO a4
    go_wp2_with (at_builtin; refine wpList_append_row tyBools rfl (.tmp 13) (.tmp 20) rfl (.slice vfa k vfc) k _ rfl hO2.swap.row ⟨W1.heap.size, 0, none⟩ 1 1 [.bool y] rfl rfl hnews (by simp [Value.oneCell']) (by unfold maxLen; omega) (by omega) ?_)
    intro va' vc' w7 hown7 hgrow7 hrow7
    have hO3 := (hO2.swap.app hown7 hgrow7 hrow7 (by simp)).drop2
    have HO3 := Lib.hid hO3
    clear hO3 hO2 hown7 hgrow7 hrow7 hnews
    go_wp2
    refine hX.out _ _ _ (by omega) rfl ⟨k + 1, .slice va' (k + 1) vc', by omega, rfl, rfl, ?_⟩
    rw [Htk.out, List.map_append]
    have := HO3.out
    simpa using this
  · obtain rfl : k = T.length := by omega
    rw [List.take_length, ← canN_zero] at hO
    have hb0 := boolsAt_of_row (l := canN T 0) (m := mk) (by rw [canN_len]; exact hO.row)
    have hle0 := Mem.le_addv (w := W1) hO.free
    have hO1 := hO.sealRow
    generalize mk.addv W1 (.slice vfa T.length vfc) = mk1 at *
    have hO2 := ((hO1.nilRow 41 1).al #[.slice vfa T.length vfc] 41)
    have hnews := hO2.obj.news rfl
    have Hb := Lib.hid (And.intro hb0 hle0)
    clear hO hO1 hb0 hle0
    go_wp2_with (at_builtin; refine wpList_append_row tyBoolss rfl (.tmp 23) (.tmp 25) rfl (.slice none 0 0) 0 [] rfl hO2.swap.row ⟨W1.heap.size, 0, none⟩ 1 1 [.slice vfa T.length vfc] rfl rfl hnews (by simp [Value.oneCell']) (by unfold maxLen; omega) (by omega) ?_)
    intro va' vc' w7 hown7 hgrow7 hrow7
    have hO3 := (hO2.swap.app hown7 hgrow7 hrow7 (by simp)).drop2
    have HO3 := Lib.hid hO3
    clear hO3 hO2 hown7 hgrow7 hrow7 hnews
    go_wp2
    refine wp_loop_keep [0, 1, 3, 6] (fun q vs W2 => ∃ (n rn : Nat) (vt : Value) (xs : List Value) (mk2 : Mem) (Lt : List Item), q = KT + 1 - n ∧ (n = 0 ∧ rn = 1 ∨ 0 < n ∧ rn = n ∧ n ≤ KT) ∧
      vs = [.func (.yield l) #[] #[], .pointer (some ⟨ga, 0, none⟩), vt, .int .i64 n] ∧
      mk.le mk2 ∧ B (enum T 0 n) Lt ∧ Own w0 m W2 mk2 (.row vt 41 1 rn xs :: Lt) ∧ CanRow T mk2 xs rn) ?_ ?_
    · refine ⟨_, 0, 1, .slice va' 1 vc', [.slice vfa T.length vfc], mk1, L1, rfl, .inl ⟨rfl, rfl⟩, rfl, Hb.out.2, HO.out.2, by simpa using HO3.out, ?_⟩
      exact CanRow.push (n := 0) (xs := []) ⟨rfl, fun i hi => by omega⟩ Hb.out.1
    clear HO3 ha hal
    rintro Y z2 q vs W2 hY2 - ⟨n, rn, vt, xs, mk2, Lt, rfl, hrn, rfl, hle2, hB2, hO2, hCR⟩
    simp [litL, lk]
    obtain ⟨vta, vtc, rfl⟩ := row_slice hO2.row
    have hrn1 : 0 < rn := by omega
    obtain ⟨tb, rfl⟩ := row_some hO2.row hrn1
    have ha := Mem.cell_w hO2.inn (Mem.cell_le hle2 HX.out.2.2.2.2)
    have hal := Mem.cell_lt hO2.inn (Mem.cell_le hle2 HX.out.2.2.2.2)
    have hnK : n ≤ KT := by omega
    by_cases hT : 0 < T.length
    · have hd1 : decide (0 < T.length) = true := decide_eq_true hT
      -- the table has a row for n
      have HQ := Lib.hid (And.intro hO2 (And.intro hB2 (And.intro hle2 hCR)))
      clear hO2 hB2 hle2 hCR
      go_upto_if 34 with (fail)
      refine wp_cut_keep [0, 1, 3, 6] (fun vs w' => ∃ (vt2 : Value) (xs2 : List Value) (mk3 : Mem), vs = [.func (.yield l) #[] #[], .pointer (some ⟨ga, 0, none⟩), vt2, .int .i64 n] ∧
        mk.le mk3 ∧ Own w0 m w' mk3 (.row vt2 41 1 (n + 1) xs2 :: Lt) ∧ CanRow T mk3 xs2 (n + 1)) ?_ ?_
      · intro V hV
        rcases hrn with ⟨rfl, rfl⟩ | ⟨hn0, rfl, -⟩
        · go_wp2
          exact hV.out _ _ rfl ⟨.slice (some ⟨tb, 0, none⟩) 1 vtc, xs, mk2, rfl, HQ.out.2.2.1, HQ.out.1, HQ.out.2.2.2⟩
        · have hd2 : decide (0 < rn) = true := decide_eq_true hn0
          have hd3 : decide ((0 : Int) < (rn : Int)) = true := decide_eq_true (by omega)
          obtain ⟨n1, rfl⟩ : ∃ n1, rn = n1 + 1 := ⟨rn - 1, by omega⟩
          have hw1 : IntKind.i64.wrap (((n1 + 1 : Nat) : Int) - 1) = (n1 : Int) := by rw [IntWalk.i64_in _ (by omega)]; omega
          have hw2 : IntKind.i64.wrap ((n1 : Int) + 1 - 1) = (n1 : Int) := by rw [IntWalk.i64_in _ (by omega)]; omega
          have hw3 : IntKind.i64.wrap (n1 : Int) = (n1 : Int) := IntWalk.i64_in _ (by omega)
          have hn1 : n1 < n1 + 1 := by omega
          have hn2 : (n1 : Int) < (n1 : Int) + 1 := by omega
          obtain ⟨u, hu1, hu2⟩ := HQ.out.2.2.2.2 n1 hn1
          have hO := HQ.out.1.dr
          go_wp2
          refine wp_region_D (fun j w' => j ≠ 9 → j ≠ 10 → (mk2.inn w' ∧ w'.cell? ⟨tb, n1, none⟩ = some u ∧ tb < w'.heap.size)) (by kernel_rfl) ?_
          have hS : mk2.inn W2.drew ∧ W2.drew.cell? ⟨tb, n1, none⟩ = some u ∧ tb < W2.drew.heap.size := ⟨hO.inn, row_cellw hO.row hu1, (World.ownsRow.lt hO.row _ rfl).2⟩
          have hca := Mem.cell_le HQ.out.2.2.1 HX.out.2.2.2.2
          refine wpAnyD_takeT 0 12 (fun w' => mk2.inn w' ∧ w'.cell? ⟨tb, n1, none⟩ = some u ∧ tb < w'.heap.size) rfl (by kernel_rfl) (fun _ _ _ h => h) (fun j w' hj hd => hd (by rintro rfl; exact waitsT_no (by kernel_rfl) hj) (by rintro rfl; exact waitsT_no (by kernel_rfl) hj)) hS (yields_of rfl fun w' hS' => by have q := hS'.2.1; have q1 := hS'.2.2; have q2 := Mem.cell_w hS'.1 hca; have q3 := Mem.cell_lt hS'.1 hca; go_simp; rfl) ?_
          refine wpAnyD_takeT 1 12 (fun w' => mk2.inn w' ∧ w'.cell? ⟨tb, n1, none⟩ = some u ∧ tb < w'.heap.size) rfl (by kernel_rfl) (fun _ _ _ h => h) (fun j w' hj hd => hd (by rintro rfl; exact waitsT_no (by kernel_rfl) hj) (by rintro rfl; exact waitsT_no (by kernel_rfl) hj)) hS (yields_of rfl fun w' hS' => by have q := hS'.2.1; have q1 := hS'.2.2; have q2 := Mem.cell_w hS'.1 hca; have q3 := Mem.cell_lt hS'.1 hca; go_simp; rfl) ?_
          refine wpAnyD_takeT 2 12 (fun w' => mk2.inn w' ∧ w'.cell? ⟨tb, n1, none⟩ = some u ∧ tb < w'.heap.size) rfl (by kernel_rfl) (fun _ _ _ h => h) (fun j w' hj hd => hd (by rintro rfl; exact waitsT_no (by kernel_rfl) hj) (by rintro rfl; exact waitsT_no (by kernel_rfl) hj)) hS (yields_of rfl fun w' hS' => by have q := hS'.2.1; have q1 := hS'.2.2; have q2 := Mem.cell_w hS'.1 hca; have q3 := Mem.cell_lt hS'.1 hca; go_simp; rfl) ?_
          refine wpAnyD_takeT 3 12 (fun w' => mk2.inn w' ∧ w'.cell? ⟨tb, n1, none⟩ = some u ∧ tb < w'.heap.size) rfl (by kernel_rfl) (fun _ _ _ h => h) (fun j w' hj hd => hd (by rintro rfl; exact waitsT_no (by kernel_rfl) hj) (by rintro rfl; exact waitsT_no (by kernel_rfl) hj)) hS (yields_of rfl fun w' hS' => by have q := hS'.2.1; have q1 := hS'.2.2; have q2 := Mem.cell_w hS'.1 hca; have q3 := Mem.cell_lt hS'.1 hca; go_simp; rfl) ?_
          refine wpAnyD_takeT 4 12 (fun w' => mk2.inn w' ∧ w'.cell? ⟨tb, n1, none⟩ = some u ∧ tb < w'.heap.size) rfl (by kernel_rfl) (fun _ _ _ h => h) (fun j w' hj hd => hd (by rintro rfl; exact waitsT_no (by kernel_rfl) hj) (by rintro rfl; exact waitsT_no (by kernel_rfl) hj)) hS (yields_of rfl fun w' hS' => by have q := hS'.2.1; have q1 := hS'.2.2; have q2 := Mem.cell_w hS'.1 hca; have q3 := Mem.cell_lt hS'.1 hca; go_simp; rfl) ?_
          refine wpAnyD_takeT 5 12 (fun w' => mk2.inn w' ∧ w'.cell? ⟨tb, n1, none⟩ = some u ∧ tb < w'.heap.size) rfl (by kernel_rfl) (fun _ _ _ h => h) (fun j w' hj hd => hd (by rintro rfl; exact waitsT_no (by kernel_rfl) hj) (by rintro rfl; exact waitsT_no (by kernel_rfl) hj)) hS (yields_of rfl fun w' hS' => by have q := hS'.2.1; have q1 := hS'.2.2; have q2 := Mem.cell_w hS'.1 hca; have q3 := Mem.cell_lt hS'.1 hca; go_simp; rfl) ?_
          refine wpAnyD_takeT 6 12 (fun w' => mk2.inn w' ∧ w'.cell? ⟨tb, n1, none⟩ = some u ∧ tb < w'.heap.size) rfl (by kernel_rfl) (fun _ _ _ h => h) (fun j w' hj hd => hd (by rintro rfl; exact waitsT_no (by kernel_rfl) hj) (by rintro rfl; exact waitsT_no (by kernel_rfl) hj)) hS (yields_of rfl fun w' hS' => by have q := hS'.2.1; have q1 := hS'.2.2; have q2 := Mem.cell_w hS'.1 hca; have q3 := Mem.cell_lt hS'.1 hca; go_simp; rfl) ?_
          have hlT := canN_len T n1
          have hcs := canN_succ HX.out.2.2.2.1.wf HX.out.2.2.2.1.bytes n1
          have hcall := can_any (.slice aa T.length ac) u T (canN T n1) mk2 _ hO.inn (statesAt_le HQ.out.2.2.1 HX.out.1) hu2 HX.out.2.2.2.1.wf (by omega) hlT
          refine wpAnyD_only 7 (by kernel_rfl) (wpOp_of rfl rfl (wp_enter (by go_simp; first | done | rfl) hcall ?_))
          rintro e' w3 ⟨r, rfl, hb3, hr3⟩
          rw [show T.map (canF (canN T n1)) = canN T (n1 + 1) from hcs.symm] at hr3
          have hO3 := hO.call hb3
          have hle3 := Mem.le_grow (w := w3) hO.inn
          clear hcs hlT
          obtain ⟨rra, rrc, rfl⟩ : ∃ xa xc, r = .slice xa (canN T (n1 + 1)).length xc := by obtain ⟨x, y, e, -⟩ := hr3; exact ⟨x, y, e⟩
          refine ⟨_, rfl, .inr fun _ _ => ⟨Mem.inn_le hle3 hO3.inn, row_cellw hO3.row hu1, (World.ownsRow.lt hO3.row _ rfl).2⟩, ?_⟩
          go_simp
          have hO4 := hO3.al #[.slice rra (canN T (n1 + 1)).length rrc] 41
          refine wpAnyD_only 8 (by kernel_rfl) (wpOp_of rfl rfl (wp_value (by go_simp; first | done | exact ⟨rfl, rfl⟩ | rfl) ⟨.inr fun _ _ => ⟨Mem.inn_le hle3 hO4.inn, row_cellw hO4.swap.row hu1, (World.ownsRow.lt hO4.swap.row _ rfl).2⟩, ?_⟩))
          go_simp
          refine wpAnyD_only 9 (by kernel_rfl) (wpOp_of rfl rfl (wp_append_row tyBoolss (.tmp 35) (.tmp 43) rfl (.slice (some ⟨tb, 0, none⟩) (n1 + 1) vtc) (n1 + 1) xs rfl hO4.swap.row ⟨w3.heap.size, 0, none⟩ 1 1 [.slice rra (canN T (n1 + 1)).length rrc] rfl rfl (hO4.obj.news rfl) (by simp [Value.oneCell']) (by unfold maxLen; omega) (by omega) (fun na' nc' w7 hown7 hgrow7 hrow7 => ?_)))
          have hO5 := (hO4.swap.app hown7 hgrow7 hrow7 (Nat.le_refl _)).drop2
          refine ⟨.inr fun h => absurd rfl h, ?_⟩
          go_simp
          refine wpAnyD_only 10 (by kernel_rfl) (wpOp_of rfl rfl (wp_value (by go_simp; first | done | exact ⟨rfl, rfl⟩ | rfl) ⟨.inl rfl, ?_⟩))
          refine wpAnyD_done (by kernel_rfl) ?_ _
          exact hV.out _ _ rfl ⟨.slice na' (n1 + 1 + 1) nc', xs ++ [.slice rra (canN T (n1 + 1)).length rrc], mk2.grow W2.drew w3, rfl, Mem.le_trans HQ.out.2.2.1 hle3, hO5, (HQ.out.2.2.2.mono hle3).push hr3⟩
      rintro z3 vs w3 - ⟨vt2, xs2, mk3, rfl, hle3, hO3, hCR3⟩
      simp [litL, lk]
      have hB2 := HQ.out.2.1
      have hdone := fun h => enum_done HX.out.2.2.2.1.wf HX.out.2.2.2.1.bytes (n := n) h
      have hES := enum_succ T 0 n
      have hbnd := fun (hn : KT < n + 1) (h : (enum T 0 (n + 1)).length < K) => canN_bound HX.out.2.2.2.1 (n := n + 1) h (by rw [HKL.out]; exact hn)
      obtain ⟨vta2, vtc2, rfl⟩ := row_slice hO3.row
      obtain ⟨tb2, rfl⟩ := row_some hO3.row (by omega)
      obtain ⟨u, hu1, hu2⟩ := hCR3.2 n (by omega)
      have HS := Lib.hid (And.intro hO3 (And.intro hCR3 (And.intro hle3 (And.intro hdone (And.intro hES hbnd)))))
      have HU := Lib.hid (And.intro hu1 hu2)
      have HB2 := Lib.hid hB2
      have hlT := canN_len T n
      obtain ⟨ua, uc, rfl, u2, u3, u4⟩ := hu2
      obtain ⟨ub, uo, rfl, u5⟩ := u4 (by intro h; rw [h] at hlT; simp at hlT; omega)
      have hall : (∀ b ∈ canN T n, b = false) ↔ ¬ (true ∈ canN T n) := by
        constructor
        · intro h hm
          have := h true hm
          cases this
        · intro h b hb
          cases b with
          | false => rfl
          | true => exact absurd hb h
      have Hall := Lib.hid hall
      have hcap := row_cap hO3.row
      have hcap1 := hcap.1
      have hcap2 := hcap.2
      unfold maxLen at hcap2
      clear hall hcap
      clear hO3 hCR3 hle3 hdone hES hbnd hu1 HQ hB2 ha hal hlT u4 u5
      go_wp2
      refine wp_cut_keep [0, 1, 3, 6, 65] (fun vs w' => ∃ (bb : Bool) (mk4 : Mem) (Lt4 : List Item), vs = [.func (.yield l) #[] #[], .pointer (some ⟨ga, 0, none⟩), .slice (some ⟨tb2, 0, none⟩) (n + 1) vtc2, .int .i64 n, .bool bb] ∧ mk.le mk4 ∧
        (bb = false → B (enum T 0 (n + 1)) Lt4 ∧ Own w0 m w' mk4 (.row (.slice (some ⟨tb2, 0, none⟩) (n + 1) vtc2) 41 1 (n + 1) xs2 :: Lt4) ∧ true ∈ canN T n ∧ CanRow T mk4 xs2 (n + 1)) ∧
        (bb = true → (B (enum T 0 n) Lt4 ∧ Own w0 m w' mk4 Lt4 ∧ ∀ b ∈ canN T n, b = false) ∨ ∃ q, q ≠ [] ∧ q <+: wex T n 0 ∧ Bx (enum T 0 n ++ q) Lt4 ∧ Own w0 m w' mk4 Lt4)) ?_ ?_
      · intro V hV
        have hO := HS.out.1.dr
        have hca := Mem.cell_le HS.out.2.2.1 HX.out.2.2.2.2
        have hw1 : IntKind.i64.wrap ((n : Int) + 1) = (n : Int) + 1 := IntWalk.i64_in _ (by omega)
        have hn1 : (n : Int) < (n : Int) + 1 := by omega
        have hn2 : n < n + 1 := by omega
        have hb1 : (0 : Int) ≤ (n : Int) + 1 := by omega
        have hb2 : (n : Int) + 1 ≤ (vtc2 : Int) := by omega
        have HCt := Lib.hid (fun w' (h : mk3.inn w') => Contains_bool_any (.slice (some ⟨ub, uo, none⟩) (canN T n).length uc) (canN T n) true mk3 w' h HU.out.2)
        refine wp_region_D (fun j w' => j ≠ 18 → j ≠ 19 → j ≠ 20 → (mk3.inn w' ∧ w'.cell? ⟨tb2, n, none⟩ = some (.slice (some ⟨ub, uo, none⟩) (canN T n).length uc) ∧ tb2 < w'.heap.size)) (by kernel_rfl) ?_
        have hS : mk3.inn w3.drew ∧ w3.drew.cell? ⟨tb2, n, none⟩ = some (.slice (some ⟨ub, uo, none⟩) (canN T n).length uc) ∧ tb2 < w3.drew.heap.size := ⟨hO.inn, row_cellw hO.row HU.out.1, (World.ownsRow.lt hO.row _ rfl).2⟩
        refine wpAnyD_takeT 0 6 (fun w' => mk3.inn w' ∧ w'.cell? ⟨tb2, n, none⟩ = some (.slice (some ⟨ub, uo, none⟩) (canN T n).length uc) ∧ tb2 < w'.heap.size) rfl (by kernel_rfl) (fun _ _ _ h => h) (fun j w' hj hd => hd (by rintro rfl; exact waitsT_no (by kernel_rfl) hj) (by rintro rfl; exact waitsT_no (by kernel_rfl) hj) (by rintro rfl; exact waitsT_no (by kernel_rfl) hj)) hS (yields_of rfl fun w' hS' => by have q := hS'.2.1; have q1 := hS'.2.2; go_simp; rfl) ?_
        refine wpAnyD_takeT 1 6 (fun w' => mk3.inn w' ∧ w'.cell? ⟨tb2, n, none⟩ = some (.slice (some ⟨ub, uo, none⟩) (canN T n).length uc) ∧ tb2 < w'.heap.size) rfl (by kernel_rfl) (fun _ _ _ h => h) (fun j w' hj hd => hd (by rintro rfl; exact waitsT_no (by kernel_rfl) hj) (by rintro rfl; exact waitsT_no (by kernel_rfl) hj) (by rintro rfl; exact waitsT_no (by kernel_rfl) hj)) hS (yields_of rfl fun w' hS' => by have q := hS'.2.1; have q1 := hS'.2.2; go_simp; rfl) ?_
        refine wpAnyD_takeT 2 6 (fun w' => mk3.inn w' ∧ w'.cell? ⟨tb2, n, none⟩ = some (.slice (some ⟨ub, uo, none⟩) (canN T n).length uc) ∧ tb2 < w'.heap.size) rfl (by kernel_rfl) (fun _ _ _ h => h) (fun j w' hj hd => hd (by rintro rfl; exact waitsT_no (by kernel_rfl) hj) (by rintro rfl; exact waitsT_no (by kernel_rfl) hj) (by rintro rfl; exact waitsT_no (by kernel_rfl) hj)) hS (yields_of rfl fun w' hS' => by have q := hS'.2.1; have q1 := hS'.2.2; go_simp; rfl) ?_
        refine wpAnyD_takeT 3 6 (fun w' => mk3.inn w' ∧ w'.cell? ⟨tb2, n, none⟩ = some (.slice (some ⟨ub, uo, none⟩) (canN T n).length uc) ∧ tb2 < w'.heap.size) rfl (by kernel_rfl) (fun _ _ _ h => h) (fun j w' hj hd => hd (by rintro rfl; exact waitsT_no (by kernel_rfl) hj) (by rintro rfl; exact waitsT_no (by kernel_rfl) hj) (by rintro rfl; exact waitsT_no (by kernel_rfl) hj)) hS (yields_of rfl fun w' hS' => by have q := hS'.2.1; have q1 := hS'.2.2; go_simp; rfl) ?_
        refine wpAnyD_only 4 (by kernel_rfl) (wpOp_of rfl rfl (wp_enter (by go_simp; first | done | rfl) (HCt.out _ hO.inn) ?_))
        rintro e' w4 ⟨rfl, hb4⟩
        have hO4 := hO.move hb4
        have hS4 : mk3.inn w4 ∧ w4.cell? ⟨tb2, n, none⟩ = some (.slice (some ⟨ub, uo, none⟩) (canN T n).length uc) ∧ tb2 < w4.heap.size := ⟨hO4.inn, row_cellw hO4.row HU.out.1, (World.ownsRow.lt hO4.row _ rfl).2⟩
        refine ⟨_, rfl, .inr fun _ _ _ => hS4, ?_⟩
        by_cases hmem : true ∈ canN T n
        · rw [tf_true hmem]
          go_simp
          refine wpAnyD_takeT 5 6 (fun w' => mk3.inn w' ∧ w'.cell? ⟨tb2, n, none⟩ = some (.slice (some ⟨ub, uo, none⟩) (canN T n).length uc) ∧ tb2 < w'.heap.size) rfl (by kernel_rfl) (fun _ _ _ h => h) (fun j w' hj hd => hd (by rintro rfl; exact waitsT_no (by kernel_rfl) hj) (by rintro rfl; exact waitsT_no (by kernel_rfl) hj) (by rintro rfl; exact waitsT_no (by kernel_rfl) hj)) hS4 (yields_of rfl fun w' hS' => by have q := hS'.2.1; have q1 := hS'.2.2; have q2 := Mem.cell_w hS'.1 hca; have q3 := Mem.cell_lt hS'.1 hca; go_simp; rfl) ?_
          refine wpAnyD_takeT 6 6 (fun w' => mk3.inn w' ∧ w'.cell? ⟨tb2, n, none⟩ = some (.slice (some ⟨ub, uo, none⟩) (canN T n).length uc) ∧ tb2 < w'.heap.size) rfl (by kernel_rfl) (fun _ _ _ h => h) (fun j w' hj hd => hd (by rintro rfl; exact waitsT_no (by kernel_rfl) hj) (by rintro rfl; exact waitsT_no (by kernel_rfl) hj) (by rintro rfl; exact waitsT_no (by kernel_rfl) hj)) hS4 (yields_of rfl fun w' hS' => by have q := hS'.2.1; have q1 := hS'.2.2; have q2 := Mem.cell_w hS'.1 hca; have q3 := Mem.cell_lt hS'.1 hca; go_simp; rfl) ?_
          go_simp
          refine wpAnyD_takeT 7 6 (fun w' => mk3.inn w' ∧ w'.cell? ⟨tb2, n, none⟩ = some (.slice (some ⟨ub, uo, none⟩) (canN T n).length uc) ∧ tb2 < w'.heap.size) rfl (by kernel_rfl) (fun _ _ _ h => h) (fun j w' hj hd => hd (by rintro rfl; exact waitsT_no (by kernel_rfl) hj) (by rintro rfl; exact waitsT_no (by kernel_rfl) hj) (by rintro rfl; exact waitsT_no (by kernel_rfl) hj)) hS4 (yields_of rfl fun w' hS' => by have q := hS'.2.1; have q1 := hS'.2.2; have q2 := Mem.cell_w hS'.1 hca; have q3 := Mem.cell_lt hS'.1 hca; go_simp; rfl) ?_
          go_simp
          refine wpAnyD_takeT 8 6 (fun w' => mk3.inn w' ∧ w'.cell? ⟨tb2, n, none⟩ = some (.slice (some ⟨ub, uo, none⟩) (canN T n).length uc) ∧ tb2 < w'.heap.size) rfl (by kernel_rfl) (fun _ _ _ h => h) (fun j w' hj hd => hd (by rintro rfl; exact waitsT_no (by kernel_rfl) hj) (by rintro rfl; exact waitsT_no (by kernel_rfl) hj) (by rintro rfl; exact waitsT_no (by kernel_rfl) hj)) hS4 (yields_of rfl fun w' hS' => by have q := hS'.2.1; have q1 := hS'.2.2; have q2 := Mem.cell_w hS'.1 hca; have q3 := Mem.cell_lt hS'.1 hca; go_simp; rfl) ?_
          go_simp
          refine wpAnyD_takeT 9 6 (fun w' => mk3.inn w' ∧ w'.cell? ⟨tb2, n, none⟩ = some (.slice (some ⟨ub, uo, none⟩) (canN T n).length uc) ∧ tb2 < w'.heap.size) rfl (by kernel_rfl) (fun _ _ _ h => h) (fun j w' hj hd => hd (by rintro rfl; exact waitsT_no (by kernel_rfl) hj) (by rintro rfl; exact waitsT_no (by kernel_rfl) hj) (by rintro rfl; exact waitsT_no (by kernel_rfl) hj)) hS4 (yields_of rfl fun w' hS' => by have q := hS'.2.1; have q1 := hS'.2.2; have q2 := Mem.cell_w hS'.1 hca; have q3 := Mem.cell_lt hS'.1 hca; go_simp; rfl) ?_
          go_simp
          refine wpAnyD_takeT 10 6 (fun w' => mk3.inn w' ∧ w'.cell? ⟨tb2, n, none⟩ = some (.slice (some ⟨ub, uo, none⟩) (canN T n).length uc) ∧ tb2 < w'.heap.size) rfl (by kernel_rfl) (fun _ _ _ h => h) (fun j w' hj hd => hd (by rintro rfl; exact waitsT_no (by kernel_rfl) hj) (by rintro rfl; exact waitsT_no (by kernel_rfl) hj) (by rintro rfl; exact waitsT_no (by kernel_rfl) hj)) hS4 (yields_of rfl fun w' hS' => by have q := hS'.2.1; have q1 := hS'.2.2; have q2 := Mem.cell_w hS'.1 hca; have q3 := Mem.cell_lt hS'.1 hca; go_simp; rfl) ?_
          go_simp
          refine wpAnyD_takeT 11 6 (fun w' => mk3.inn w' ∧ w'.cell? ⟨tb2, n, none⟩ = some (.slice (some ⟨ub, uo, none⟩) (canN T n).length uc) ∧ tb2 < w'.heap.size) rfl (by kernel_rfl) (fun _ _ _ h => h) (fun j w' hj hd => hd (by rintro rfl; exact waitsT_no (by kernel_rfl) hj) (by rintro rfl; exact waitsT_no (by kernel_rfl) hj) (by rintro rfl; exact waitsT_no (by kernel_rfl) hj)) hS4 (yields_of rfl fun w' hS' => by have q := hS'.2.1; have q1 := hS'.2.2; have q2 := Mem.cell_w hS'.1 hca; have q3 := Mem.cell_lt hS'.1 hca; go_simp; rfl) ?_
          go_simp
          refine wpAnyD_takeT 12 6 (fun w' => mk3.inn w' ∧ w'.cell? ⟨tb2, n, none⟩ = some (.slice (some ⟨ub, uo, none⟩) (canN T n).length uc) ∧ tb2 < w'.heap.size) rfl (by kernel_rfl) (fun _ _ _ h => h) (fun j w' hj hd => hd (by rintro rfl; exact waitsT_no (by kernel_rfl) hj) (by rintro rfl; exact waitsT_no (by kernel_rfl) hj) (by rintro rfl; exact waitsT_no (by kernel_rfl) hj)) hS4 (yields_of rfl fun w' hS' => by have q := hS'.2.1; have q1 := hS'.2.2; have q2 := Mem.cell_w hS'.1 hca; have q3 := Mem.cell_lt hS'.1 hca; go_simp; rfl) ?_
          go_simp
          refine wpAnyD_takeT 13 6 (fun w' => mk3.inn w' ∧ w'.cell? ⟨tb2, n, none⟩ = some (.slice (some ⟨ub, uo, none⟩) (canN T n).length uc) ∧ tb2 < w'.heap.size) rfl (by kernel_rfl) (fun _ _ _ h => h) (fun j w' hj hd => hd (by rintro rfl; exact waitsT_no (by kernel_rfl) hj) (by rintro rfl; exact waitsT_no (by kernel_rfl) hj) (by rintro rfl; exact waitsT_no (by kernel_rfl) hj)) hS4 (yields_of rfl fun w' hS' => by have q := hS'.2.1; have q1 := hS'.2.2; have q2 := Mem.cell_w hS'.1 hca; have q3 := Mem.cell_lt hS'.1 hca; go_simp; rfl) ?_
          go_simp
          refine wpAnyD_takeT 14 6 (fun w' => mk3.inn w' ∧ w'.cell? ⟨tb2, n, none⟩ = some (.slice (some ⟨ub, uo, none⟩) (canN T n).length uc) ∧ tb2 < w'.heap.size) rfl (by kernel_rfl) (fun _ _ _ h => h) (fun j w' hj hd => hd (by rintro rfl; exact waitsT_no (by kernel_rfl) hj) (by rintro rfl; exact waitsT_no (by kernel_rfl) hj) (by rintro rfl; exact waitsT_no (by kernel_rfl) hj)) hS4 (yields_of rfl fun w' hS' => by have q := hS'.2.1; have q1 := hS'.2.2; have q2 := Mem.cell_w hS'.1 hca; have q3 := Mem.cell_lt hS'.1 hca; go_simp; rfl) ?_
          go_simp
          refine wpAnyD_takeT 15 6 (fun w' => mk3.inn w' ∧ w'.cell? ⟨tb2, n, none⟩ = some (.slice (some ⟨ub, uo, none⟩) (canN T n).length uc) ∧ tb2 < w'.heap.size) rfl (by kernel_rfl) (fun _ _ _ h => h) (fun j w' hj hd => hd (by rintro rfl; exact waitsT_no (by kernel_rfl) hj) (by rintro rfl; exact waitsT_no (by kernel_rfl) hj) (by rintro rfl; exact waitsT_no (by kernel_rfl) hj)) hS4 (yields_of rfl fun w' hS' => by have q := hS'.2.1; have q1 := hS'.2.2; have q2 := Mem.cell_w hS'.1 hca; have q3 := Mem.cell_lt hS'.1 hca; go_simp; rfl) ?_
          go_simp
          refine wpAnyD_takeT 16 6 (fun w' => mk3.inn w' ∧ w'.cell? ⟨tb2, n, none⟩ = some (.slice (some ⟨ub, uo, none⟩) (canN T n).length uc) ∧ tb2 < w'.heap.size) rfl (by kernel_rfl) (fun _ _ _ h => h) (fun j w' hj hd => hd (by rintro rfl; exact waitsT_no (by kernel_rfl) hj) (by rintro rfl; exact waitsT_no (by kernel_rfl) hj) (by rintro rfl; exact waitsT_no (by kernel_rfl) hj)) hS4 (yields_of rfl fun w' hS' => by have q := hS'.2.1; have q1 := hS'.2.2; have q2 := Mem.cell_w hS'.1 hca; have q3 := Mem.cell_lt hS'.1 hca; go_simp; rfl) ?_
          go_simp
          refine wpAnyD_takeT 17 6 (fun w' => mk3.inn w' ∧ w'.cell? ⟨tb2, n, none⟩ = some (.slice (some ⟨ub, uo, none⟩) (canN T n).length uc) ∧ tb2 < w'.heap.size) rfl (by kernel_rfl) (fun _ _ _ h => h) (fun j w' hj hd => hd (by rintro rfl; exact waitsT_no (by kernel_rfl) hj) (by rintro rfl; exact waitsT_no (by kernel_rfl) hj) (by rintro rfl; exact waitsT_no (by kernel_rfl) hj)) hS4 (yields_of rfl fun w' hS' => by have q := hS'.2.1; have q1 := hS'.2.2; have q2 := Mem.cell_w hS'.1 hca; have q3 := Mem.cell_lt hS'.1 hca; go_simp; rfl) ?_
          go_simp
          have hT0 := hT
          have hsome := some_any (T := T) (l := l) (w0 := w0) (m := m) (mk0 := mk3) (B := B) (Bx := Bx) (Lr := [.row (.slice (some ⟨tb2, 0, none⟩) (n + 1) vtc2) 41 1 (n + 1) xs2]) (tb := tb2) (n := n) (ctab := vtc2) (clast := 1) (ntab := n + 1) (va := .slice aa T.length ac) HX.out.2.2.2.1.wf HX.out.2.2.2.1.bytes
            (fun pre x W' mk' Lt' Lr' h1 h2 h3 => HX.out.2.1 pre x W' mk' Lt' Lr' h1 h2 (Mem.le_trans HS.out.2.2.1 h3)) (statesAt_le HS.out.2.2.1 HX.out.1) hT0 (by unfold maxLen; omega) (by omega) (by omega) (by unfold maxLen; omega)
            (fun W' mk' Lt' h i hi => by
              obtain ⟨u', h1, h2⟩ := HS.out.2.1.2 i hi
              exact ⟨u', row_cellw (h.at_row (v := .slice (some ⟨tb2, 0, none⟩) (n + 1) vtc2) (t := 41) (size := 1) (n := n + 1) (xs := xs2) (by simp)) h1, h2⟩)
            (enum T 0 n) mk3 w4 Lt (Mem.le_refl _) HB2.out (hO4.perm (List.perm_append_singleton _ _))
          refine wpAnyD_only 18 (by kernel_rfl) (wpOp_of2 rfl rfl (wp_enter (by go_simp; first | done | rfl) hsome ?_))
          rintro e' w5 (⟨rfl, mk5, Lt5, k1, k2, k3⟩ | ⟨rfl, qq, mk5, Lt5, k0, k1, k2, k3, k4⟩)
          · refine ⟨_, rfl, .inr fun h => absurd rfl h, ?_⟩
            go_simp
            refine wpAnyD_only 19 (by kernel_rfl) (wpOp_of2 rfl rfl (wp_value (by go_simp; first | done | exact ⟨rfl, rfl⟩ | rfl) ⟨.inl rfl, ?_⟩))
            go_simp
            refine wpAnyD_only 20 (by kernel_rfl) (wpOp_of rfl rfl (wp_value (by go_simp; first | done | exact ⟨rfl, rfl⟩ | rfl) ⟨.inl rfl, ?_⟩))
            refine wpAnyD_done (by kernel_rfl) ?_ _
            refine hV.out _ _ rfl ⟨false, mk5, Lt5, rfl, Mem.le_trans HS.out.2.2.1 k3, fun _ => ⟨?_, k2.perm (List.perm_append_singleton _ _).symm, hmem, HS.out.2.1.mono k3⟩, fun h => by cases h⟩
            rw [HS.out.2.2.2.2.1]; exact k1
          · refine ⟨_, rfl, .inr fun h => absurd rfl h, ?_⟩
            go_simp
            refine wpAnyD_only 19 (by kernel_rfl) (wpOp_of2 rfl rfl (wp_value (by go_simp; first | done | exact ⟨rfl, rfl⟩ | rfl) ⟨.inl rfl, ?_⟩))
            go_simp
            refine wpAnyD_only 20 (by kernel_rfl) (wpOp_of rfl rfl (wp_value (by go_simp; first | done | exact ⟨rfl, rfl⟩ | rfl) ⟨.inl rfl, ?_⟩))
            refine wpAnyD_done (by kernel_rfl) ?_ _
            exact hV.out _ _ rfl ⟨true, mk5, Lt5, rfl, Mem.le_trans HS.out.2.2.1 k4, (fun h => by cases h), fun _ => .inr ⟨qq, k0, k1, k2, (k3.perm (List.perm_append_singleton _ _).symm).tail⟩⟩
        · rw [tf_false hmem]
          go_simp
          refine wpAnyD_takeT 5 6 (fun w' => mk3.inn w' ∧ w'.cell? ⟨tb2, n, none⟩ = some (.slice (some ⟨ub, uo, none⟩) (canN T n).length uc) ∧ tb2 < w'.heap.size) rfl (by kernel_rfl) (fun _ _ _ h => h) (fun j w' hj hd => hd (by rintro rfl; exact waitsT_no (by kernel_rfl) hj) (by rintro rfl; exact waitsT_no (by kernel_rfl) hj) (by rintro rfl; exact waitsT_no (by kernel_rfl) hj)) hS4 (yields_of rfl fun w' hS' => by go_simp; rfl) ?_
          refine wpAnyD_takeT 6 6 (fun w' => mk3.inn w' ∧ w'.cell? ⟨tb2, n, none⟩ = some (.slice (some ⟨ub, uo, none⟩) (canN T n).length uc) ∧ tb2 < w'.heap.size) rfl (by kernel_rfl) (fun _ _ _ h => h) (fun j w' hj hd => hd (by rintro rfl; exact waitsT_no (by kernel_rfl) hj) (by rintro rfl; exact waitsT_no (by kernel_rfl) hj) (by rintro rfl; exact waitsT_no (by kernel_rfl) hj)) hS4 (yields_of rfl fun w' hS' => by go_simp; rfl) ?_
          go_simp
          refine wpAnyD_takeT 7 6 (fun w' => mk3.inn w' ∧ w'.cell? ⟨tb2, n, none⟩ = some (.slice (some ⟨ub, uo, none⟩) (canN T n).length uc) ∧ tb2 < w'.heap.size) rfl (by kernel_rfl) (fun _ _ _ h => h) (fun j w' hj hd => hd (by rintro rfl; exact waitsT_no (by kernel_rfl) hj) (by rintro rfl; exact waitsT_no (by kernel_rfl) hj) (by rintro rfl; exact waitsT_no (by kernel_rfl) hj)) hS4 (.inr ⟨rfl, rfl⟩) ?_
          go_simp
          refine wpAnyD_takeT 8 6 (fun w' => mk3.inn w' ∧ w'.cell? ⟨tb2, n, none⟩ = some (.slice (some ⟨ub, uo, none⟩) (canN T n).length uc) ∧ tb2 < w'.heap.size) rfl (by kernel_rfl) (fun _ _ _ h => h) (fun j w' hj hd => hd (by rintro rfl; exact waitsT_no (by kernel_rfl) hj) (by rintro rfl; exact waitsT_no (by kernel_rfl) hj) (by rintro rfl; exact waitsT_no (by kernel_rfl) hj)) hS4 (.inr ⟨rfl, rfl⟩) ?_
          go_simp
          refine wpAnyD_takeT 9 6 (fun w' => mk3.inn w' ∧ w'.cell? ⟨tb2, n, none⟩ = some (.slice (some ⟨ub, uo, none⟩) (canN T n).length uc) ∧ tb2 < w'.heap.size) rfl (by kernel_rfl) (fun _ _ _ h => h) (fun j w' hj hd => hd (by rintro rfl; exact waitsT_no (by kernel_rfl) hj) (by rintro rfl; exact waitsT_no (by kernel_rfl) hj) (by rintro rfl; exact waitsT_no (by kernel_rfl) hj)) hS4 (.inr ⟨rfl, rfl⟩) ?_
          go_simp
          refine wpAnyD_takeT 10 6 (fun w' => mk3.inn w' ∧ w'.cell? ⟨tb2, n, none⟩ = some (.slice (some ⟨ub, uo, none⟩) (canN T n).length uc) ∧ tb2 < w'.heap.size) rfl (by kernel_rfl) (fun _ _ _ h => h) (fun j w' hj hd => hd (by rintro rfl; exact waitsT_no (by kernel_rfl) hj) (by rintro rfl; exact waitsT_no (by kernel_rfl) hj) (by rintro rfl; exact waitsT_no (by kernel_rfl) hj)) hS4 (.inr ⟨rfl, rfl⟩) ?_
          go_simp
          refine wpAnyD_takeT 11 6 (fun w' => mk3.inn w' ∧ w'.cell? ⟨tb2, n, none⟩ = some (.slice (some ⟨ub, uo, none⟩) (canN T n).length uc) ∧ tb2 < w'.heap.size) rfl (by kernel_rfl) (fun _ _ _ h => h) (fun j w' hj hd => hd (by rintro rfl; exact waitsT_no (by kernel_rfl) hj) (by rintro rfl; exact waitsT_no (by kernel_rfl) hj) (by rintro rfl; exact waitsT_no (by kernel_rfl) hj)) hS4 (.inr ⟨rfl, rfl⟩) ?_
          go_simp
          refine wpAnyD_takeT 12 6 (fun w' => mk3.inn w' ∧ w'.cell? ⟨tb2, n, none⟩ = some (.slice (some ⟨ub, uo, none⟩) (canN T n).length uc) ∧ tb2 < w'.heap.size) rfl (by kernel_rfl) (fun _ _ _ h => h) (fun j w' hj hd => hd (by rintro rfl; exact waitsT_no (by kernel_rfl) hj) (by rintro rfl; exact waitsT_no (by kernel_rfl) hj) (by rintro rfl; exact waitsT_no (by kernel_rfl) hj)) hS4 (.inr ⟨rfl, rfl⟩) ?_
          go_simp
          refine wpAnyD_takeT 13 6 (fun w' => mk3.inn w' ∧ w'.cell? ⟨tb2, n, none⟩ = some (.slice (some ⟨ub, uo, none⟩) (canN T n).length uc) ∧ tb2 < w'.heap.size) rfl (by kernel_rfl) (fun _ _ _ h => h) (fun j w' hj hd => hd (by rintro rfl; exact waitsT_no (by kernel_rfl) hj) (by rintro rfl; exact waitsT_no (by kernel_rfl) hj) (by rintro rfl; exact waitsT_no (by kernel_rfl) hj)) hS4 (.inr ⟨rfl, rfl⟩) ?_
          go_simp
          refine wpAnyD_takeT 14 6 (fun w' => mk3.inn w' ∧ w'.cell? ⟨tb2, n, none⟩ = some (.slice (some ⟨ub, uo, none⟩) (canN T n).length uc) ∧ tb2 < w'.heap.size) rfl (by kernel_rfl) (fun _ _ _ h => h) (fun j w' hj hd => hd (by rintro rfl; exact waitsT_no (by kernel_rfl) hj) (by rintro rfl; exact waitsT_no (by kernel_rfl) hj) (by rintro rfl; exact waitsT_no (by kernel_rfl) hj)) hS4 (.inr ⟨rfl, rfl⟩) ?_
          go_simp
          refine wpAnyD_takeT 15 6 (fun w' => mk3.inn w' ∧ w'.cell? ⟨tb2, n, none⟩ = some (.slice (some ⟨ub, uo, none⟩) (canN T n).length uc) ∧ tb2 < w'.heap.size) rfl (by kernel_rfl) (fun _ _ _ h => h) (fun j w' hj hd => hd (by rintro rfl; exact waitsT_no (by kernel_rfl) hj) (by rintro rfl; exact waitsT_no (by kernel_rfl) hj) (by rintro rfl; exact waitsT_no (by kernel_rfl) hj)) hS4 (.inr ⟨rfl, rfl⟩) ?_
          go_simp
          refine wpAnyD_takeT 16 6 (fun w' => mk3.inn w' ∧ w'.cell? ⟨tb2, n, none⟩ = some (.slice (some ⟨ub, uo, none⟩) (canN T n).length uc) ∧ tb2 < w'.heap.size) rfl (by kernel_rfl) (fun _ _ _ h => h) (fun j w' hj hd => hd (by rintro rfl; exact waitsT_no (by kernel_rfl) hj) (by rintro rfl; exact waitsT_no (by kernel_rfl) hj) (by rintro rfl; exact waitsT_no (by kernel_rfl) hj)) hS4 (.inr ⟨rfl, rfl⟩) ?_
          go_simp
          refine wpAnyD_takeT 17 6 (fun w' => mk3.inn w' ∧ w'.cell? ⟨tb2, n, none⟩ = some (.slice (some ⟨ub, uo, none⟩) (canN T n).length uc) ∧ tb2 < w'.heap.size) rfl (by kernel_rfl) (fun _ _ _ h => h) (fun j w' hj hd => hd (by rintro rfl; exact waitsT_no (by kernel_rfl) hj) (by rintro rfl; exact waitsT_no (by kernel_rfl) hj) (by rintro rfl; exact waitsT_no (by kernel_rfl) hj)) hS4 (.inr ⟨rfl, rfl⟩) ?_
          go_simp
          refine wpAnyD_only 18 (by kernel_rfl) (wpOp_no rfl rfl ⟨.inl rfl, ?_⟩)
          go_simp
          refine wpAnyD_only 19 (by kernel_rfl) (wpOp_no rfl rfl ⟨.inl rfl, ?_⟩)
          go_simp
          refine wpAnyD_only 20 (by kernel_rfl) (wpOp_of rfl rfl (wp_value (by go_simp; first | done | exact ⟨rfl, rfl⟩ | rfl) ⟨.inl rfl, ?_⟩))
          refine wpAnyD_done (by kernel_rfl) ?_ _
          exact hV.out _ _ rfl ⟨true, mk3, Lt, rfl, HS.out.2.2.1, (fun h => by cases h), fun _ => .inl ⟨HB2.out, hO4.tail, Hall.out.2 hmem⟩⟩
      rintro z5 vs w5 - ⟨bb, mk4, Lt4, rfl, hle4, hf, ht⟩
      simp [litL, lk]
      cases bb with
      | true =>
        have Hq := Lib.hid (And.intro (ht rfl) hle4)
        clear ht hf hle4
        go_wp2
        refine bodyPost_ret (v := .tuple #[]) (by simp [results, Tryd.results70, go_sem]) rfl ?_
        refine hR.out _ _ ⟨⟨_, rfl⟩, ?_⟩
        rcases Hq.out.1 with ⟨h1, h2, h3⟩ | ⟨qq, h1, h2, h3, h4⟩
        · exact .inl ⟨_, mk4, Lt4, ⟨n, rfl, HS.out.2.2.2.1 h3⟩, h1, h2, Hq.out.2⟩
        · refine .inr ⟨_, mk4, Lt4, ⟨n + 1, ?_, fun h => h1 (List.append_eq_nil_iff.1 h).2⟩, h3, h4, Hq.out.2⟩
          rw [HS.out.2.2.2.2.1]
          exact (List.prefix_append_right_inj _).2 h2
      | false =>
        obtain ⟨h1, h2, h3, h4⟩ := hf rfl
        have hKL : n + 1 ≤ KT := by
          apply Classical.byContradiction
          intro hn
          have := HS.out.2.2.2.2.2 (by omega) (HX.out.2.2.1 _ _ h1)
          rw [Nat.add_sub_cancel] at this
          rw [this] at h3
          have := List.eq_of_mem_replicate h3
          cases this
        have Hq := Lib.hid (And.intro h1 (And.intro h2 (And.intro hle4 h4)))
        clear ht hf hle4 h1 h2 h3 h4
        go_wp2
        exact hY2.out _ _ _ (by omega) rfl ⟨n + 1, n + 1, .slice (some ⟨tb2, 0, none⟩) (n + 1) vtc2, xs2, mk4, Lt4, rfl, .inr ⟨by omega, rfl, hKL⟩, rfl, Hq.out.2.2.1, Hq.out.1, Hq.out.2.1, Hq.out.2.2.2⟩
    · have hd1 : decide (0 < T.length) = false := decide_eq_false hT
      have hT0 : T = [] := List.eq_nil_of_length_eq_zero (by omega)
      have hacc : ∀ y, accFrom T 0 y = true → y.length < n := fun y hy => by rw [hT0, accFrom_nil] at hy; cases hy
      have Hq := Lib.hid (And.intro hacc (And.intro hO2.tail (And.intro hB2 hle2)))
      clear hacc hO2 hB2 hle2 hT0 hCR
      go_wp2
      refine bodyPost_ret (v := .tuple #[]) (by simp [results, Tryd.results70, go_sem]) rfl ?_
      exact hR.out _ _ ⟨⟨_, rfl⟩, .inl ⟨_, mk2, Lt, ⟨n, rfl, Hq.out.1⟩, Hq.out.2.2.1, Hq.out.2.1, Hq.out.2.2.2⟩⟩
end Cl
/- The same law; the iterator is told of the body's word. -/
namespace Cl
open Go Go.RowKit

theorem wp_rangeOwn2 {α : Type} {P : Program} {g : Operand} {ps : Array Tmp} {assign body : Code} {Q : Exit → Act → World → Prop} {a : Act} {w : World} {gf : Nat} {lb : Array Value}
    (hg : a.eval g = .func (.func gf) #[] lb) (eg : ∀ args w, (callFunc gf args).run P w = .ok (.enter gf args) w) {encs : α → Array Value} (hps : ∀ x, (encs x).size = ps.size)
    {w0 : World} {m mk : Mem} {L0 : List Item} (hO : Own w0 m w mk L0) (I : List α → List Item → Prop) (Ix : Code → List α → List Item → Prop) (S Sp : List α → Prop) (h0 : I [] L0)
    (hseq : ∀ (l : Nat) (W1 : World) (L1 : List Item) (B Bx : List α → List Item → Prop), B [] L1 → (∀ pre Lt, B pre Lt → ∃ L, I pre L) → Own w0 m W1 mk L1 → YieldOK P l encs w0 m mk B Bx →
      Calls P gf (#[.func (.yield l) #[] #[]] ++ lb) W1 (SeqEnd w0 m mk B Bx S Sp))
    (a₁ : α → Act)
    (hassign : ∀ (l : Nat) (x : α) (W : World) (K : Act → World → Prop), K (a₁ x) W →
      assign.wpIn (Fence.wide.inRound l) 0 P (Exit.then K (fun _ _ _ => False)) { tmps := (ps.zip (encs x)).foldl (fun t (p, v) => t.setIfInBounds p v) a.tmps, defers := [] } W)
    (hbody : ∀ (l : Nat) (pre : List α) (x : α) (W : World) (mk1 : Mem) (Lt Lr : List Item), I pre Lt → Own w0 m W mk1 (Lt ++ Lr) → mk.le mk1 →
      body.wpIn (Fence.wide.inRound l) 0 P (RoundEnd w0 m mk1 Lr I Ix (pre ++ [x])) (a₁ x) W)
    (hdone : ∀ (D : Nat) (xs : List α) (W : World) (mk1 : Mem) (L : List Item), S xs → I xs L → Own w0 m W mk1 (.blob D (.deferred (some [])) :: L) → mk.le mk1 → Q .normal { a with defers := { target := .collected D, args := #[] } :: a.defers } W)
    (hstop : ∀ (D : Nat) (c : Code) (xs : List α) (W : World) (mk1 : Mem) (L : List Item), Sp xs → Ix c xs L → Own w0 m W mk1 (.blob D (.deferred (some [])) :: L) → mk.le mk1 →
      c.wpIn Fence.wide 0 P Q { a with defers := { target := .collected D, args := #[] } :: a.defers } W) :
    (Code.rangeFunc g ps assign body).wpIn Fence.wide 0 P Q a w := by
  refine wpIn_rangeFunc ?_
  intro fn _
  obtain ⟨rec, hrec⟩ : ∃ rec : LoopState → Option Code → Loop, rec = fun st pe => { state := st, pending := pe, fn, tmps := a.tmps, params := ps, assign, body, defers := w.heap.size } := ⟨_, rfl⟩
  have hO1 := (hO.alBlob (.deferred (some []))).alBlob (.loop (rec .ready none))
  have hsz : (w.alloc (.deferred (some []))).heap.size = w.heap.size + 1 := by simp
  rw [hsz] at hO1
  have hent := run_enterLoop_outer (P := P) (w := w) fn a.tmps ps assign body
  have hre : (Obj.loop { state := .ready, pending := none, fn, tmps := a.tmps, params := ps, assign, body, defers := w.heap.size }) = .loop (rec .ready none) := by rw [hrec]
  rw [hre] at hent
  generalize (w.alloc (.deferred (some []))).alloc (.loop (rec .ready none)) = W1 at *
  generalize w.heap.size = D at *
  have hround : YieldOK P (D + 1) encs w0 m mk (fun pre Lt => ∃ L, I pre L ∧ Lt = .blob (D + 1) (.loop (rec .ready none)) :: .blob D (.deferred (some [])) :: L)
      (fun pre Lt => ∃ c L, Ix c pre L ∧ Lt = .blob (D + 1) (.loop (rec .done (some c))) :: .blob D (.deferred (some [])) :: L) := by
    rintro pre x W mk1 Lt Lr ⟨L, hI, rfl⟩ hOw hle
    have hl := hOw.blob
    have hy := run_yield (P := P) (args := encs x) hl (by rw [hrec]; exact hps x)
    rw [hrec] at hy
    refine ⟨fn, _, assign, body, hy, roundIn_of_wpIn trivial (hassign _ x W _ ⟨_, run_beginRound hl (by rw [hrec]), ?_⟩)⟩
    have hO2 := hOw.setBlob (o' := .loop { rec .ready none with state := .busy }) (World.putObj_heap_same (Array.getElem?_eq_some_iff.1 hl).1) (grownBy_putObj' _ _ _)
    have hO3 := hO2.perm (perm_two _ _ L Lr)
    refine wpIn_mono (hbody _ pre x _ mk1 L _ hI hO3 hle) ?_
    have fin : ∀ (jump : Option Code) (W3 : World) (mk2 : Mem) (L2 : List Item), Own w0 m W3 mk2 (L2 ++ (.blob (D + 1) (.loop { rec .ready none with state := .busy }) :: .blob D (.deferred (some [])) :: Lr)) →
        ∃ W4, (Instr.endRound (D + 1) jump).run P W3 = .ok (.bool jump.isNone) W4 ∧ Own w0 m W4 mk2 (.blob (D + 1) (.loop (rec (if jump.isNone then .ready else .done) jump)) :: .blob D (.deferred (some [])) :: (L2 ++ Lr)) := by
      intro jump W3 mk2 L2 h3
      have h4 := h3.perm (perm_two _ _ L2 Lr).symm
      have hl3 := h4.blob
      have hr := run_endRound (P := P) jump hl3
      refine ⟨_, hr, ?_⟩
      have := h4.setBlob (o' := .loop { rec .ready none with state := if jump.isNone then .ready else .done, pending := jump }) (World.putObj_heap_same (Array.getElem?_eq_some_iff.1 hl3).1) (grownBy_putObj' _ _ _)
      rw [hrec] at this ⊢
      exact this
    rintro e a3 W3 hp
    cases e with
    | normal =>
      obtain ⟨mk2, L2, hi, ho, hm⟩ := hp
      obtain ⟨W4, hr, ho4⟩ := fin none W3 mk2 L2 ho
      exact ⟨_, _, hr, .inl ⟨rfl, mk2, _, ⟨L2, hi, rfl⟩, ho4, hm⟩⟩
    | ret =>
      obtain ⟨mk2, L2, hi, ho, hm⟩ := hp
      obtain ⟨W4, hr, ho4⟩ := fin (some .ret) W3 mk2 L2 ho
      exact ⟨_, _, hr, .inr ⟨rfl, mk2, _, ⟨.ret, L2, hi, rfl⟩, ho4, hm⟩⟩
    | exit id =>
      obtain ⟨mk2, L2, hi, ho, hm⟩ := hp
      obtain ⟨W4, hr, ho4⟩ := fin (some (.exit id)) W3 mk2 L2 ho
      exact ⟨_, _, hr, .inr ⟨rfl, mk2, _, ⟨.exit id, L2, hi, rfl⟩, ho4, hm⟩⟩
    | goto t =>
      obtain ⟨mk2, L2, hi, ho, hm⟩ := hp
      obtain ⟨W4, hr, ho4⟩ := fin (some (.goto t)) W3 mk2 L2 ho
      exact ⟨_, _, hr, .inr ⟨rfl, mk2, _, ⟨.goto t, L2, hi, rfl⟩, ho4, hm⟩⟩
    | panic ch => exact hp.elim
    | outgrown => exact hp.elim
  refine ⟨D + 1, [{ target := .collected D, args := #[] }], W1, { target := .fn (.func gf) lb, args := #[.func (.yield (D + 1)) #[] #[]] }, W1, gf,
    #[.func (.yield (D + 1)) #[] #[]] ++ lb, W1, hent, ?_, fun _ _ => trivial, ?_, fun h => absurd h (by simp [Fence.wide]), ?_⟩
  · simp only [resolve, hg]
    simp [go_sem]
  · simp [invoke, go_sem, eg]
  · refine callsIn_wide.2 ((hseq (D + 1) W1 _ _ _ ⟨L0, h0, rfl⟩ (fun _ _ h => h.elim fun L hL => ⟨L, hL.1⟩) hO1 hround).mono ?_)
    rintro e W3 ⟨⟨v, rfl⟩, hend⟩
    rcases hend with ⟨xs, mk2, Lt, hS, ⟨L, hI, rfl⟩, ho, hm⟩ | ⟨xs, mk2, Lt, hS, ⟨c, L, hI, rfl⟩, ho, hm⟩
    · have hl3 := ho.blob
      have hO4 := ho.setBlob (o' := .loop { rec .ready none with state := .exhausted }) (World.putObj_heap_same (Array.getElem?_eq_some_iff.1 hl3).1) (grownBy_putObj' _ _ _)
      refine ⟨none, _, ?_, hdone D xs _ mk2 L hS hI hO4.tail hm⟩
      have := run_endLoop (P := P) hl3 (by rw [hrec]; simp)
      rw [this, hrec]
    · have hl3 := ho.blob
      have hO4 := ho.setBlob (o' := .loop { rec .done (some c) with state := .exhausted }) (World.putObj_heap_same (Array.getElem?_eq_some_iff.1 hl3).1) (grownBy_putObj' _ _ _)
      refine ⟨some c, _, ?_, hstop D c xs _ mk2 L hS hI hO4.tail hm⟩
      have := run_endLoop (P := P) hl3 (by rw [hrec]; simp)
      rw [this, hrec]
end Cl
namespace Cl
open Go Go.RowKit Go.Proofs
attribute [local go_sem] Oper.semAt_some

def bstr (x : List UInt8) : ByteArray := ⟨x.toArray⟩
theorem tyStrs : SliceTy Tryd.prog 30 9 1 16 := ⟨Tryd.underlying30, by omega, by
  obtain ⟨i, h1, h2, h3, h4⟩ := info_parts (P := Tryd.prog) (e := 9) (z := .string ⟨#[]⟩) (size := 1) (bytes := 16) (by kernel_rfl)
  exact ⟨i, _, h1, h2, h3, h4, rfl⟩⟩
theorem strsAt_of_row {w : World} {t : TypeId} {v : Value} {l : List ByteArray} {m : Mem} (hown : w.ownsRow 0 t 1 v l.length (l.map Value.string)) (hk : ∀ x ∈ l, x.size ≤ maxLen) : strsAt (m.addv w v) v l :=
  slice1_of_row hown fun g hg i h => ⟨row_cell hown hg m (by simp [h]), hk _ (List.getElem_mem h)⟩
theorem words_fn (v : Value) (w : World) : Calls Tryd.prog 41 #[.agg #[v]] w fun e w' => e = .returned (.func (.func 70) #[] #[.pointer (some ⟨w.heap.size, 0, none⟩)]) ∧ w' = w.alloc (.cells #[v] 24) := by
  refine calls_hide fun R hR => ?_
  go_enter Tryd.func41, Tryd.ntmps41
  go_wp2
  exact hR.out _ _ ⟨rfl, rfl⟩
theorem enters_words1 : ∀ args w, (callFunc 70 args).run Tryd.prog w = .ok (.enter 70 args) w := enters_of Tryd.func70 (by kernel_rfl) rfl
/-- how many words are asked for -/
def want1 (n : Int) : Nat := (min n 1000).toNat
theorem want1_pos {n : Int} (h : 1 ≤ n) : 1 ≤ want1 n ∧ ((want1 n : Nat) : Int) = min n 1000 ∧ want1 n ≤ 1000 := by unfold want1; omega
theorem first_zero (f : List UInt8 → Bool) : IsFirst f 0 [] := ⟨.nil, fun x hx => by simp at hx, by simp, fun y _ _ => ⟨rfl, fun x hx => by simp at hx⟩⟩
/-- the words that were collected are the first ones -/
theorem first_of_seq {T : Table} {K : Nat} {xs : List (List UInt8)} (h : (∃ n, xs = enum T 0 n ∧ (∀ y, accFrom T 0 y = true → y.length < n) ∧ xs.length < K) ∨ (∃ n, xs <+: enum T 0 n ∧ xs.length = K)) : IsFirst (accFrom T 0) K xs := by
  rcases h with ⟨n, rfl, h1, h2⟩ | ⟨n, h1, h2⟩
  · have := first_enum (l := T) (s := 0) (L := n) (k := K) (.inr h1)
    rwa [List.take_of_length_le (by omega)] at this
  · have h3 : xs = (enum T 0 n).take K := by
      rw [← h2]
      exact List.prefix_iff_eq_take.1 h1
    have := first_enum (l := T) (s := 0) (L := n) (k := K) (.inl (by rw [← h2]; exact h1.length_le))
    rwa [← h3] at this

theorem first_size {T : Table} {K : Nat} {xs : List (List UInt8)} (h : IsFirst (accFrom T 0) K xs) (hK : (K + 1) * (T.length + 1) ≤ 1000000) : ∀ z ∈ xs, z.length ≤ 1000000 := by
  intro z hz
  rw [first_unique h (first_most (l := T) (s := 0) (k := K) (L := K * T.length) (Nat.le_refl _))] at hz
  have h1 := ((mem_enum T 0 _ z).1 (List.mem_of_mem_take hz)).1
  have : K * T.length ≤ (K + 1) * (T.length + 1) := Nat.mul_le_mul (by omega) (by omega)
  omega
theorem wpListIn_append_row {F : Fence} {d : Nat} {P : Program} {t e : TypeId} {size bytes : Nat} (S : SliceTy P t e size bytes) {w : World} {ops : Array Oper} {rest : List Oper} {o : Oper} {a : Act} {Q : Exit → Act → World → Prop} (hgd : o.guard = none) (s x : Operand)
    (ho : o.op = .call { callee := .builtin .append, args := #[s, x], argTypes := #[t, t] })
    (v : Value) (n : Nat) (xs : List Value) (hs : a.eval s = v) (hown : w.ownsRow 0 e size v n xs)
    (ad : Addr) (m c : Nat) (news : List Value) (hx : a.eval x = .slice (some ad) m c) (hl : news.length = m * size) (hnews : ∀ j u, news[j]? = some u → w.cell? (ad.add j) = some u) (h1 : ∀ u ∈ news, u.oneCell' = true)
    (h63 : n + m ≤ maxLen) (hbytes : (n + m) * bytes ≤ 140737488355328)
    (h : ∀ va vc w', w'.ownsRow 0 e size (.slice va (n + m) vc) (n + m) (xs ++ news) → w.grownBy w' v.ownBlock → (∀ k, (Value.slice va (n + m) vc).ownBlock = some k → v.ownBlock = some k ∨ w.heap.size ≤ k) → wpListIn F d P ops Q rest (a.put o.dst (.slice va (n + m) vc)) w') : wpListIn F d P ops Q (o :: rest) a w := by
  refine wpListIn_plain hgd fun K hK => ?_
  obtain ⟨v', w', hr, h2, h3, h4⟩ := run_append_row S w o.type v n xs hown ad m c news hl hnews h1 h63 hbytes
  obtain ⟨va, vc, rfl⟩ := row_slice h2
  refine ⟨?_, ?_⟩
  · simp [Oper.about, ho, resolve, Target.leads, Sem.run_pure]
  · rw [Oper.semAt_plain F _ _ (by rw [ho]; intro c hc'; cases hc')]
    simp [execOp, ho, resolve, invoke, builtin, hs, hx, hr, Result.andThen]
    exact hK _ _ (h va vc w' h2 h3 h4)
def strV (x : List UInt8) : Value := .string ⟨x.toArray⟩

set_option maxRecDepth 100000 in
set_option maxHeartbeats 4000000 in
theorem langWords_any (v0 : Value) (A : Table) (n : Int) (m : Mem) (w : World) (hm : m.inn w) (htab : TabM m) (hA : statesAt m v0 A) (hn1 : -9223372036854775808 ≤ n) (hn2 : n ≤ 9223372036854775807) (hlen : (want1 n + 1) * (A.length + 1) ≤ 1000000) :
    Calls Tryd.prog 18 #[.agg #[v0], .int .i64 n] w fun e w' => ∃ r ws, e = .returned r ∧ Below w.heap.size w w' ∧ strsAt (m.grow w w') r (ws.map bstr) ∧ IsFirst (Sem A) (want1 n) ws := by
  have hlA : A.length ≤ 1000000 := by
    have : A.length + 1 ≤ (want1 n + 1) * (A.length + 1) := Nat.le_mul_of_pos_left _ (by omega)
    omega
  have hO := (((Own.start hm).al #[v0] 24).al #[.int .i64 n] 3).al #[.slice none 0 0] 30
  have hsz1 : (w.alloc (.cells #[v0] 24)).heap.size = w.heap.size + 1 := by simp
  have hsz2 : ((w.alloc (.cells #[v0] 24)).alloc (.cells #[.int .i64 n] 3)).heap.size = w.heap.size + 1 + 1 := by simp
  rw [hsz2, hsz1] at hO
  have HG := Lib.hid (good_any v0 A m _ hO.inn htab hA hlA)
  have HO := Lib.hid hO
  obtain ⟨va, vc, rfl, -⟩ := hA
  clear hO hsz1 hsz2
  refine calls_hide fun R hR => ?_
  by_cases hn : n < 1
  · have hk0 : want1 n = 0 := by unfold want1; omega
    have Hk0 := Lib.hid hk0
    have hdec : decide (n < 1) = true := decide_eq_true hn
    clear hk0
    go_enter Tryd.func18, Tryd.ntmps18
    go_wp2
    refine hR.out _ _ ⟨_, [], rfl, HO.out.below, ⟨none, 0, rfl, Nat.le_refl _, by simp [maxLen], fun h => absurd rfl h⟩, ?_⟩
    rw [Hk0.out]; exact first_zero _
  · have hdec : decide (n < 1) = false := decide_eq_false hn
    refine (callsIn_wide (n := 0)).1 ?_
    refine callsIn_of_wp_marks Tryd.func18 rfl trivial ?_
    simp only [Tryd.ntmps18, List.size_toArray, List.length_cons, List.length_nil, Nat.reduceAdd, Nat.reduceSub, Array.replicate_succ, Array.replicate_zero, List.push_toArray, List.append_toArray, List.nil_append, List.cons_append]
    refine wpIn_wide.2 ?_
    go_wp2_with fail
    refine HG.out.mono ?_
    rintro e w1 ⟨r, rfl, hb1, hst⟩
    have hO1 := HO.out.call hb1
    obtain ⟨ra, rc, rfl⟩ : ∃ ra rc, r = .slice ra (goodT A).length rc := by obtain ⟨x, y, e, -⟩ := hst; exact ⟨x, y, e⟩
    have HO1 := Lib.hid (And.intro hO1 hst)
    clear HO HG hb1 hst hO1
    go_wp2_with fail
    refine (words_fn (.slice ra (goodT A).length rc) w1).mono ?_
    rintro e w2 ⟨rfl, rfl⟩
    have hO2 := HO1.out.1.al #[.slice ra (goodT A).length rc] 24
    have hst := HO1.out.2
    obtain ⟨m1, hO3, l1, c1⟩ := hO2.seal1
    obtain ⟨m2, hO4, l2, c2⟩ := hO3.swap.seal1
    have hO5 := hO4.swap.tail.nilRow 9 1
    have hO6 := hO5
    have hst2 := statesAt_le (Mem.le_trans l1 l2) hst
    have c1' := Mem.cell_le l2 c1
    have HS := Lib.hid (And.intro hO5 (And.intro hst2 (And.intro c1' c2)))
    clear hO2 hst hO3 hO4 hO5 hO6 hst2 c1 c2 c1' l1 l2 HO1 m1
    have hwp := want1_pos (n := n) (by omega)
    have hgl := goodT_len A
    have hgis := goodT_is A
    have hmul : (want1 n + 1) * ((goodT A).length + 1) ≤ 1000000 := Nat.le_trans (Nat.mul_le_mul_left _ (by omega)) hlen
    have HW := Lib.hid (And.intro hwp (And.intro hgis hmul))
    have hw1 := hwp.1
    have hw3 := hwp.2.2
    clear hwp hgis hmul hgl
    go_wp2
    refine (wpIn_wide (n := 0)).1 ?_
    refine wp_rangeOwn2 (gf := 70) (lb := #[.pointer (some ⟨w1.heap.size, 0, none⟩)]) rfl enters_words1 (encs := fun x : List UInt8 => #[Value.string ⟨x.toArray⟩]) (fun _ => rfl) HS.out.1
      (fun pre L => (∃ v, L = [.row v 9 1 pre.length (pre.map strV), .obj (w.heap.size + 1 + 1) 30 #[v]]) ∧ pre.length < want1 n)
      (fun c pre L => c = .exit 0 ∧ (∃ v, L = [.row v 9 1 pre.length (pre.map strV), .obj (w.heap.size + 1 + 1) 30 #[v]]) ∧ pre.length = want1 n)
      (fun xs => ∃ n, xs = enum (goodT A) 0 n ∧ ∀ y, accFrom (goodT A) 0 y = true → y.length < n) (fun xs => ∃ n, xs <+: enum (goodT A) 0 n ∧ xs ≠ []) ⟨⟨_, rfl⟩, by simp; omega⟩ ?seq
      (fun x => { tmps := #[.agg #[.slice va A.length vc], .int .i64 n, .pointer (some ⟨w.heap.size, 0, none⟩), .pointer (some ⟨w.heap.size + 1, 0, none⟩), .slice none 0 0, .pointer (some ⟨w.heap.size + 1 + 1, 0, none⟩), .string ⟨x.toArray⟩, .int .i64 n, .bool false, undef, .agg #[.slice va A.length vc], .agg #[.slice ra (goodT A).length rc], .func (.func 70) #[] #[.pointer (some ⟨w1.heap.size, 0, none⟩)], .string ⟨x.toArray⟩, undef, undef, undef, undef, undef, undef, undef, undef, undef, undef], defers := [] }) ?assign ?body ?done ?stop
    case seq =>
      intro l W1 L1 B Bx hB hBI hOw hY
      exact words1_any HW.out.2.1.canon (want1 n) HW.out.2.2 hY HS.out.2.2.1 HS.out.2.1 (fun pre Lt h => (hBI pre Lt h).elim fun L hL => hL.2) hB hOw
    case assign =>
      intro l x W K hK
      gi_wp2
      exact hK
    case body =>
      rintro l pre x W mk1 Lt Lr ⟨⟨v, rfl⟩, hlt⟩ hOw hle
      simp only [List.cons_append, List.nil_append] at hOw
      obtain ⟨xa, xc, rfl⟩ := row_slice hOw.row
      have o1 := hOw.swap.obj.cell (i := 0) rfl
      have o2 := hOw.swap.obj.lt
      have o3 := hOw.swap.obj.frozen 0
      have n1 := Mem.cell_w hOw.inn (Mem.cell_le hle HS.out.2.2.2)
      have n2 := Mem.cell_lt hOw.inn (Mem.cell_le hle HS.out.2.2.2)
      have hO2 := hOw.al #[.string ⟨x.toArray⟩] 9
      have hnews := hO2.obj.news rfl
      have Hlt := Lib.hid hlt
      clear hOw
      gi_wp2_with (gi_at_builtin; refine wpListIn_append_row tyStrs rfl (.tmp 14) (.tmp 16) rfl (.slice xa pre.length xc) pre.length (pre.map strV) rfl hO2.swap.row ⟨W.heap.size, 0, none⟩ 1 1 [.string ⟨x.toArray⟩] rfl rfl hnews (by simp [Value.oneCell']) (by unfold maxLen; omega) (by omega) ?_)
      intro ya yc w5 hown5 hgrow5 hrow5
      have hO3 := (hO2.swap.app hown5 hgrow5 hrow5 (by simp)).drop2
      have o1 := hO3.swap.obj.cell (i := 0) rfl
      have o2 := hO3.swap.obj.lt
      have o3 := hO3.swap.obj.frozen 0
      have n1 := Mem.cell_w hO3.inn (Mem.cell_le hle HS.out.2.2.2)
      have n2 := Mem.cell_lt hO3.inn (Mem.cell_le hle HS.out.2.2.2)
      have hO4 := (hO3.swap.set 0 (.slice ya (pre.length + 1) yc)).swap
      have HO4 := Lib.hid hO4
      clear hO4 hO3 hO2 hown5 hgrow5 hrow5 hnews
      have Hend := Lib.hid (show ∀ xs, xs = pre ++ [x] → ([Item.row (.slice ya (pre.length + 1) yc) 9 1 (pre.length + 1) (pre.map strV ++ [.string ⟨x.toArray⟩]), Item.obj (w.heap.size + 1 + 1) 30 #[.slice ya (pre.length + 1) yc]] : List Item) = [Item.row (.slice ya (pre.length + 1) yc) 9 1 xs.length (xs.map strV), Item.obj (w.heap.size + 1 + 1) 30 #[.slice ya (pre.length + 1) yc]] from fun xs h => by
        subst h; simp [strV])
      have hne : w.heap.size + 1 ≠ w.heap.size + 1 + 1 := by omega
      gi_wp2
      all_goals unfold RoundEnd
      all_goals dsimp only
      all_goals first
        | (have ht : ((pre.length : Int) + 1 == min n 1000) = true := by assumption
           refine ⟨mk1, _, ⟨rfl, ⟨_, Hend.out _ rfl⟩, ?_⟩, HO4.out, Mem.le_refl _⟩
           have h1 := HW.out.1.2.1
           have h2 := beq_iff_eq.1 ht
           simp only [List.length_append, List.length_cons, List.length_nil]
           omega)
        | (have ht : ((pre.length : Int) + 1 == min n 1000) = false := by assumption
           refine ⟨mk1, _, ⟨⟨_, Hend.out _ rfl⟩, ?_⟩, HO4.out, Mem.le_refl _⟩
           have h1 := HW.out.1.2.1
           have h2 := beq_eq_false_iff_ne.1 ht
           have h3 := Hlt.out
           simp only [List.length_append, List.length_cons, List.length_nil]
           omega)
    case done =>
      rintro D xs W mk1 L ⟨nn, hxs, hfin⟩ ⟨⟨v, rfl⟩, hlt⟩ hOw hle
      obtain ⟨xa, xc, rfl⟩ := row_slice hOw.swap.row
      have o1 := hOw.third.obj.cell (i := 0) rfl
      have o2 := hOw.third.obj.lt
      have hfirst := first_of_seq (.inl ⟨nn, hxs, hfin, hlt⟩)
      have hres : IsFirst (Sem A) (want1 n) xs := hfirst.congr fun y => HW.out.2.1.lang y
      have hsz : ∀ z ∈ xs, (bstr z).size ≤ maxLen := fun z hz => by
        have := first_size hfirst HW.out.2.2 z hz
        simp [bstr, ByteArray.size, maxLen]; omega
      clear hxs hfin hlt hfirst
      have hbl := hOw.blob
      have hO2 := hOw.swap
      have hst := strsAt_of_row (l := xs.map bstr) (m := mk1) (t := 9) (v := .slice xa xs.length xc) (w := W) (by
        rw [List.length_map, List.map_map]; exact hO2.row) (fun y hy => by
        obtain ⟨z, hz, rfl⟩ := List.mem_map.1 hy
        exact hsz z hz)
      rw [show (Mem.addv mk1 W (.slice xa xs.length xc)) = Mem.addv mk1 W (.slice xa xs.length xc) from rfl] at hst
      have hO3 := hO2.sealRow
      have hO4 := hO3.setBlob (o' := .deferred none) (World.putObj_heap_same (Array.getElem?_eq_some_iff.1 hbl).1) (grownBy_putObj' _ _ _)
      have hfin2 := strsAt_le hO4.done hst
      have Hk := Lib.hid (And.intro hO4.below (And.intro hfin2 hres))
      clear hO4 hO3 hO2 hOw hst hfin2
      gi_wp2
      go_wp2
      refine ⟨by simp, .inl ⟨_, _, rfl, run_takeDeferred hbl, ?_⟩⟩
      exact ⟨.slice xa xs.length xc, by simp [results, Tryd.results18, go_sem], hR.out _ _ ⟨_, xs, rfl, Hk.out.1, Hk.out.2.1, Hk.out.2.2⟩⟩
    case stop =>
      rintro D c xs W mk1 L ⟨nn, hpre, hne⟩ ⟨rfl, ⟨v, rfl⟩, hlt⟩ hOw hle
      obtain ⟨xa, xc, rfl⟩ := row_slice hOw.swap.row
      have o1 := hOw.third.obj.cell (i := 0) rfl
      have o2 := hOw.third.obj.lt
      have hfirst := first_of_seq (.inr ⟨nn, hpre, hlt⟩)
      have hres : IsFirst (Sem A) (want1 n) xs := hfirst.congr fun y => HW.out.2.1.lang y
      have hsz : ∀ z ∈ xs, (bstr z).size ≤ maxLen := fun z hz => by
        have := first_size hfirst HW.out.2.2 z hz
        simp [bstr, ByteArray.size, maxLen]; omega
      clear hpre hne hlt hfirst
      have hbl := hOw.blob
      have hO2 := hOw.swap
      have hst := strsAt_of_row (l := xs.map bstr) (m := mk1) (t := 9) (v := .slice xa xs.length xc) (w := W) (by
        rw [List.length_map, List.map_map]; exact hO2.row) (fun y hy => by
        obtain ⟨z, hz, rfl⟩ := List.mem_map.1 hy
        exact hsz z hz)
      rw [show (Mem.addv mk1 W (.slice xa xs.length xc)) = Mem.addv mk1 W (.slice xa xs.length xc) from rfl] at hst
      have hO3 := hO2.sealRow
      have hO4 := hO3.setBlob (o' := .deferred none) (World.putObj_heap_same (Array.getElem?_eq_some_iff.1 hbl).1) (grownBy_putObj' _ _ _)
      have hfin2 := strsAt_le hO4.done hst
      have Hk := Lib.hid (And.intro hO4.below (And.intro hfin2 hres))
      clear hO4 hO3 hO2 hOw hst hfin2
      gi_wp2
      go_wp2
      refine ⟨by simp, .inl ⟨_, _, rfl, run_takeDeferred hbl, ?_⟩⟩
      exact ⟨.slice xa xs.length xc, by simp [results, Tryd.results18, go_sem], hR.out _ _ ⟨_, xs, rfl, Hk.out.1, Hk.out.2.1, Hk.out.2.2⟩⟩
end Cl
namespace Cl
open Go Go.RowKit Go.Proofs

/-- the only word -/
def SingIs (f : List UInt8 → Bool) : Option (List UInt8) → Prop
  | some x => f x = true ∧ ∀ y, f y = true → y = x
  | none => ¬ ∃ x, f x = true ∧ ∀ y, f y = true → y = x
theorem sing_first {f : List UInt8 → Bool} {ws : List (List UInt8)} (h : IsFirst f 2 ws) : SingIs f (if ws.length = 1 then ws.head? else none) := by
  match ws, h with
  | [], h =>
    rintro ⟨x, h1, -⟩
    have := (h.rest x h1 (by simp)).1
    simp at this
  | [x], h =>
    refine ⟨h.mem x (by simp), fun y hy => ?_⟩
    apply Classical.byContradiction
    intro hn
    have := (h.rest y hy (by simpa using hn)).1
    simp at this
  | x :: y :: r, h =>
    simp only [List.length_cons]
    rw [if_neg (by omega)]
    rintro ⟨z, h1, h2⟩
    have hx := h2 x (h.mem x (by simp))
    have hy := h2 y (h.mem y (by simp))
    have := (List.pairwise_cons.1 h.sorted).1 y (by simp)
    rw [hx, hy] at this
    exact slt_irrefl _ this
theorem sing_unique {f : List UInt8 → Bool} {a b : Option (List UInt8)} (h : SingIs f a) (k : SingIs f b) : a = b := by
  cases a with
  | none =>
    cases b with
    | none => rfl
    | some y => exact absurd ⟨y, k.1, k.2⟩ h
  | some x =>
    cases b with
    | none => exact absurd ⟨x, h.1, h.2⟩ k
    | some y => rw [k.2 x h.1]
theorem SingIs.congr {f g : List UInt8 → Bool} {a : Option (List UInt8)} (h : SingIs f a) (e : ∀ w, f w = g w) : SingIs g a := by
  have : f = g := funext e
  rw [← this]; exact h
/-- a string and whether it is there -/
def optV (o : Option (List UInt8)) : Value := .tuple #[.string (match o with | some x => bstr x | none => ⟨#[]⟩), .bool o.isSome]

set_option maxRecDepth 100000 in
set_option maxHeartbeats 1000000 in
theorem langLeast_any (v0 : Value) (A : Table) (m : Mem) (w : World) (hm : m.inn w) (htab : TabM m) (hA : statesAt m v0 A) (hlen : A.length ≤ 400000) :
    Calls Tryd.prog 20 #[.agg #[v0]] w fun e w' => ∃ o, e = .returned (optV o) ∧ Below w.heap.size w w' ∧ IsLeast (Sem A) o := by
  have hO := (Own.start hm).al #[v0] 24
  have HW := Lib.hid (langWords_any v0 A 1 m _ hO.inn htab hA (by omega) (by omega) (by have : want1 1 = 1 := rfl; rw [this]; omega))
  have HO := Lib.hid hO
  clear hO
  refine calls_hide fun R hR => ?_
  go_enter Tryd.func20, Tryd.ntmps20
  go_wp2_with fail
  refine HW.out.mono ?_
  rintro e w1 ⟨r, ws, rfl, hb1, hst, hfirst⟩
  have hO1 := HO.out.call hb1
  have hl := least_first hfirst
  cases ws with
  | nil =>
    obtain ⟨ra, rc, rfl, r2, r3, r4⟩ := hst
    have Hk := Lib.hid (And.intro hO1.below hl)
    clear hO1 hl hfirst HW HO hb1 r4
    go_wp2
    exact hR.out _ _ ⟨none, rfl, Hk.out.1, Hk.out.2⟩
  | cons x ws =>
    obtain ⟨ra, rc, rfl, r2, r3, r4⟩ := hst
    obtain ⟨rb, ro, rfl, r5⟩ := r4 (by simp)
    have z := (r5 0 (by simp)).1
    rw [Nat.add_zero] at z
    have z1 := Mem.cell_w hO1.inn z
    have z2 := Mem.cell_lt hO1.inn z
    simp only [List.map_cons, List.getElem_cons_zero] at z1
    have hw0 : 0 < (List.map bstr (x :: ws)).length := by simp
    have hdec : (((List.map bstr (x :: ws)).length : Int) == 0) = false := beq_eq_false_iff_ne.2 (by omega)
    have Hk := Lib.hid (And.intro hO1.below hl)
    clear hO1 hl hfirst HW HO hb1 r4 r5 z
    generalize (List.map bstr (x :: ws)).length = N at *
    go_wp2
    exact hR.out _ _ ⟨some x, rfl, Hk.out.1, Hk.out.2⟩

set_option maxRecDepth 100000 in
set_option maxHeartbeats 1000000 in
theorem langSingle_any (v0 : Value) (A : Table) (m : Mem) (w : World) (hm : m.inn w) (htab : TabM m) (hA : statesAt m v0 A) (hlen : A.length ≤ 300000) :
    Calls Tryd.prog 22 #[.agg #[v0]] w fun e w' => ∃ o, e = .returned (optV o) ∧ Below w.heap.size w w' ∧ SingIs (Sem A) o := by
  have hO := (Own.start hm).al #[v0] 24
  have HW := Lib.hid (langWords_any v0 A 2 m _ hO.inn htab hA (by omega) (by omega) (by have : want1 2 = 2 := rfl; rw [this]; omega))
  have HO := Lib.hid hO
  clear hO
  refine calls_hide fun R hR => ?_
  go_enter Tryd.func22, Tryd.ntmps22
  go_wp2_with fail
  refine HW.out.mono ?_
  rintro e w1 ⟨r, ws, rfl, hb1, hst, hfirst⟩
  have hO1 := HO.out.call hb1
  have hl := sing_first hfirst
  obtain ⟨ra, rc, rfl, r2, r3, r4⟩ := hst
  by_cases h1 : ws.length = 1
  · rw [if_pos h1] at hl
    cases ws with
    | nil => simp at h1
    | cons x ws =>
      obtain ⟨rb, ro, rfl, r5⟩ := r4 (by simp)
      have z := (r5 0 (by simp)).1
      rw [Nat.add_zero] at z
      have z1 := Mem.cell_w hO1.inn z
      have z2 := Mem.cell_lt hO1.inn z
      simp only [List.map_cons, List.getElem_cons_zero] at z1
      have hN : (List.map bstr (x :: ws)).length = 1 := by simpa using h1
      rw [hN] at r2
      have Hk := Lib.hid (And.intro hO1.below hl)
      rw [hN]
      clear hO1 hl hfirst HW HO hb1 r4 r5 z h1 hN
      go_wp2
      exact hR.out _ _ ⟨some x, rfl, Hk.out.1, Hk.out.2⟩
  · rw [if_neg h1] at hl
    have hN : ((List.map bstr ws).length : Int) ≠ 1 := by simp; omega
    have hdec : (((List.map bstr ws).length : Int) != 1) = true := bne_iff_ne.2 hN
    have Hk := Lib.hid (And.intro hO1.below hl)
    clear hO1 hl hfirst HW HO hb1 r4 h1 hN
    generalize (List.map bstr ws).length = N at *
    go_wp2
    exact hR.out _ _ ⟨none, rfl, Hk.out.1, Hk.out.2⟩
end Cl
namespace Cl
open Go Go.RowKit Go.Proofs

theorem rep_set (k N : Nat) (h : k < N) : (List.replicate k true ++ List.replicate (N - k) false).set k true = List.replicate (k + 1) true ++ List.replicate (N - (k + 1)) false := by
  rw [show N - k = (N - (k + 1)) + 1 by omega, List.replicate_succ, set_mid _ _ _ _ (by simp), List.replicate_succ' (n := k), List.append_assoc]
  rfl

set_option maxRecDepth 100000 in
set_option maxHeartbeats 4000000 in
theorem langFinite_any (v0 : Value) (A : Table) (m : Mem) (w : World) (hm : m.inn w) (htab : TabM m) (hA : statesAt m v0 A) (hlen : A.length ≤ 1000000) :
    Calls Tryd.prog 24 #[.agg #[v0]] w fun e w' => e = .returned (.bool (tf (FinSet (Sem A)))) ∧ Below w.heap.size w w' := by
  have hO := (Own.start hm).al #[v0] 24
  have HG := Lib.hid (good_any v0 A m _ hO.inn htab hA hlen)
  have HO := Lib.hid hO
  obtain ⟨va, vc, rfl, -⟩ := hA
  clear hO
  have hgl := goodT_len A
  have hgis := goodT_is A
  have hsem : FinSet (Sem A) ↔ FinSet (accFrom (goodT A) 0) := by
    have : Sem A = accFrom (goodT A) 0 := funext fun x => (hgis.lang x).symm
    rw [this]
  rw [tf_congr hsem]
  have HC := Lib.hid hgis.canon
  clear hgis hsem
  refine calls_hide fun R hR => ?_
  generalize goodT A = T at *
  go_enter Tryd.func24, Tryd.ntmps24
  go_wp2_with fail
  refine HG.out.mono ?_
  rintro e w1 ⟨r, rfl, hb1, hst⟩
  have hO1 := HO.out.call hb1
  obtain ⟨ra, rc, rfl, r2, r3, r4⟩ := hst
  unfold maxLen at r3
  have g1 := hO1.obj.cell (i := 0) rfl
  have g2 := hO1.obj.frozen 0
  have g3 := hO1.obj.lt
  have hO2 := hO1.set 0 (.slice ra T.length rc)
  have g4 := hO2.obj.cell (i := 0) rfl
  have HO2 := Lib.hid hO2
  generalize hmk : m.grow (w.alloc (.cells #[.slice va A.length vc] 24)) w1 = mk at *
  clear hO1 hO2 HO HG hb1 hmk
  go_wp2_with (refine wpList_make_row mkBools rfl (.tmp 14) (.tmp 14) rfl T.length rfl rfl (by omega) (by unfold maxLen; omega) ?_)
  intro w5 hown hgrow
  have hO3 := HO2.out.make (n := T.length) (cap := T.length) (t := 4) (size := 1) (xs := List.replicate T.length (Value.bool false)) (by simpa using hown) hgrow
  rw [show (w1.setCell ⟨w.heap.size, 0, none⟩ (.slice ra T.length rc)).heap.size = w1.heap.size by simp] at hO3
  rw [show List.replicate T.length (Value.bool false) = (List.replicate 0 true ++ List.replicate (T.length - 0) false).map Value.bool by simp] at hO3
  generalize w1.heap.size = B at *
  have HO3 := Lib.hid hO3
  clear hown hgrow HO2 hO3 g1 g2 g3 g4
  go_wp2
  refine wp_loop_keep [1, 3, 17, 18] (fun n vs wr => ∃ (k : Nat), k ≤ T.length ∧ n = T.length - k ∧ vs = [.pointer (some ⟨w.heap.size, 0, none⟩), .slice (some ⟨B, 0, none⟩) T.length T.length, .int .i64 T.length, .int .i64 k] ∧
    Own w m wr mk [.row (.slice (some ⟨B, 0, none⟩) T.length T.length) 4 1 T.length ((List.replicate k true ++ List.replicate (T.length - k) false).map Value.bool), .obj w.heap.size 24 #[.slice ra T.length rc]]) ?_ ?_
  · exact ⟨_, 0, Nat.zero_le _, rfl, rfl, HO3.out⟩
  clear HO3
  rintro X z n vs wr hX - ⟨k, hk, rfl, rfl, hO⟩
  simp [litL, lk]
  by_cases hlt : k < T.length
  · have r1 := row_cellw (j := k) (u := .bool false) hO.row (by
      rw [List.getElem?_map, show T.length - k = (T.length - (k + 1)) + 1 by omega, List.replicate_succ, get_mid _ _ _ (by simp)]; rfl)
    have r2' := row_frozen hO.row k
    have r3' := (World.ownsRow.lt hO.row _ rfl).2
    have hO2 := hO.setRow k (.bool true)
    rw [← List.map_set, rep_set k _ hlt] at hO2
    have HO2 := Lib.hid hO2
    clear hO hO2
    go_wp2
    exact hX.out _ _ _ (by omega) rfl ⟨k + 1, by omega, rfl, rfl, HO2.out⟩
  · obtain rfl : k = T.length := by omega
    rw [Nat.sub_self, List.replicate_zero, List.append_nil] at hO
    have hf := finv_start T
    generalize List.replicate T.length true = lf0 at *
    have HO := Lib.hid (And.intro hO hf)
    clear hO hf
    go_wp2
    refine wp_loop_keep [1, 3, 5] (fun n vs wr => ∃ (lf : List Bool) (ag : Bool), n = lf.count true + (if ag then 1 else 0) ∧ vs = [.pointer (some ⟨w.heap.size, 0, none⟩), .slice (some ⟨B, 0, none⟩) T.length T.length, .bool ag] ∧
      Own w m wr mk [.row (.slice (some ⟨B, 0, none⟩) T.length T.length) 4 1 T.length (lf.map Value.bool), .obj w.heap.size 24 #[.slice ra T.length rc]] ∧ FInv T lf ∧ (ag = false → NoEnd T lf T.length)) ?_ ?_
    · exact ⟨_, lf0, true, rfl, rfl, HO.out.1, HO.out.2, fun h => by cases h⟩
    clear HO
    rintro Y z2 n vs w2 hY - ⟨lf, ag, rfl, rfl, hO, hFI, hNE⟩
    simp [litL, lk]
    cases ag with
    | true =>
      have HFI := Lib.hid hFI
      have HO := Lib.hid hO
      clear hO hFI hNE
      go_wp2
      refine wp_loop_keep [1, 3, 5, 27, 28] (fun n vs w3 => ∃ (k : Nat) (l2 : List Bool) (ag : Bool), k ≤ T.length ∧ n = T.length - k ∧ vs = [.pointer (some ⟨w.heap.size, 0, none⟩), .slice (some ⟨B, 0, none⟩) T.length T.length, .bool ag, .int .i64 T.length, .int .i64 k] ∧
        Own w m w3 mk [.row (.slice (some ⟨B, 0, none⟩) T.length T.length) 4 1 T.length (l2.map Value.bool), .obj w.heap.size 24 #[.slice ra T.length rc]] ∧ FInv T l2 ∧ (ag = false → l2 = lf ∧ NoEnd T lf k) ∧ (ag = true → l2.count true < lf.count true)) ?_ ?_
      · exact ⟨_, 0, lf, false, Nat.zero_le _, rfl, rfl, HO.out, HFI.out, fun _ => ⟨rfl, fun s hs => by omega⟩, fun h => by cases h⟩
      clear HO
      rintro Z z3 n vs w3 hZ - ⟨k, l2, ag, hk, rfl, rfl, hO, hF2, hag0, hag1⟩
      simp [litL, lk]
      by_cases hlt : k < T.length
      · have hl2 := hF2.1
        have hkl : k < l2.length := by omega
        have hl2a : T.length ≤ l2.length := by omega
        have hl2b : l2.length ≤ T.length := by omega
        obtain ⟨cur, hcur⟩ : ∃ cur, l2[k] = cur := ⟨_, rfl⟩
        have hck : l2[k]? = some cur := by rw [List.getElem?_eq_getElem hkl, hcur]
        have r1 := row_cellw (j := k) (u := .bool cur) hO.row (by rw [List.getElem?_map, hck]; rfl)
        have r2' := row_frozen hO.row k
        have r3' := (World.ownsRow.lt hO.row _ rfl).2
        have Hst := Lib.hid (And.intro hO (And.intro hF2 (And.intro hag0 (And.intro hag1 (And.intro hck hl2)))))
        clear hO hF2 hag0 hag1 hcur hck hl2
        cases cur with
        | false =>
          go_wp2
          refine hZ.out _ _ _ (by omega) rfl ⟨k + 1, l2, ag, by omega, rfl, rfl, Hst.out.1, Hst.out.2.1, fun h => ⟨(Hst.out.2.2.1 h).1, ?_⟩, Hst.out.2.2.2.1⟩
          intro s hs hsl hx
          by_cases e : s = k
          · subst e
            have h1 := Hst.out.2.2.2.2.1
            rw [(Hst.out.2.2.1 h).1] at h1
            rw [h1] at hx; cases hx
          · exact (Hst.out.2.2.1 h).2 s (by omega) hsl hx
        | true =>
          obtain ⟨tb, to', rfl, r5⟩ := r4 (by intro h; simp [h] at hlt)
          obtain ⟨-, ve, s2, ea, ec, rfl, g4, g5, g6⟩ := r5 k hlt
          have s2w := Mem.cell_w Hst.out.1.inn s2
          have s2l := Mem.cell_lt Hst.out.1.inn s2
          have a1 := Hst.out.1.swap.obj.cell (i := 0) rfl
          have a2 := Hst.out.1.swap.obj.lt
          have hlh := wfEdges_lohi (HC.out.wf T[k] (List.getElem_mem hlt))
          have HL := Lib.hid (fun (h : ∀ e ∈ (T[k]).edges, l2[e.to.toNat]? = some false) => finv_set Hst.out.2.1 hlt HC.out.wf h)
          have HN := Lib.hid (show ∀ e : List Ed, e = (T[k]).edges → ∀ s hs, s = k → (T[s]'hs).edges = e from fun e he s hs h => by subst h; exact he.symm)
          unfold maxLen at g5
          generalize hes : (T[k]).edges = es at *
          have Hes := Lib.hid hes
          clear hes s2 r5
          go_wp2
          refine wp_loop_keep [1, 3, 5, 6, 7, 27, 28, 41, 42, 43] (fun n vs w4 => ∃ (j : Nat) (en : Bool), j ≤ es.length ∧ n = es.length - j ∧ vs = [.pointer (some ⟨w.heap.size, 0, none⟩), .slice (some ⟨B, 0, none⟩) T.length T.length, .bool ag, .int .i64 k, .bool en, .int .i64 T.length, .int .i64 k, .slice ea es.length ec, .int .i64 es.length, .int .i64 j] ∧
            Own w m w4 mk [.row (.slice (some ⟨B, 0, none⟩) T.length T.length) 4 1 T.length (l2.map Value.bool), .obj w.heap.size 24 #[.slice (some ⟨tb, to', none⟩) T.length rc]] ∧ (en = true ↔ ∀ e ∈ es.take j, l2[e.to.toNat]? = some false)) ?_ ?_
          · exact ⟨_, 0, true, Nat.zero_le _, rfl, rfl, Hst.out.1, by simp⟩
          clear s2w s2l a1 a2 r1 r2' r3'
          rintro V z4 n vs w4 hV - ⟨j, en, hj, rfl, rfl, hO, hen⟩
          simp [litL, lk]
          have hb1 := (World.ownsRow.lt hO.row _ rfl).2
          by_cases hlt2 : j < es.length
          · obtain ⟨eb, eo, rfl, g7⟩ := g6 (by intro h; simp [h] at hlt2)
            obtain ⟨e1, e2, e3, e4, e5, -⟩ := g7 j hlt2
            have e1w := Mem.cell_w hO.inn e1
            have e2w := Mem.cell_w hO.inn e2
            have e3w := Mem.cell_w hO.inn e3
            have el := Mem.cell_lt hO.inn e1
            have hte := hlh es[j] (List.getElem_mem hlt2)
            obtain ⟨t, ht⟩ := Int.eq_ofNat_of_zero_le hte.2.1
            have htl : t < l2.length := by omega
            have hall : (∀ e ∈ es.take (j + 1), l2[e.to.toNat]? = some false) ↔ (∀ e ∈ es.take j, l2[e.to.toNat]? = some false) ∧ l2[t]? = some false := by
              rw [List.take_succ_eq_append_getElem hlt2]
              constructor
              · intro h
                refine ⟨fun e he => h e (List.mem_append_left _ he), ?_⟩
                have := h es[j] (List.mem_append_right _ (List.mem_singleton.2 rfl))
                rwa [ht, Int.toNat_natCast] at this
              · rintro ⟨h1, h2⟩ e he
                rcases List.mem_append.1 he with h3 | h3
                · exact h1 e h3
                · rw [List.mem_singleton.1 h3, ht, Int.toNat_natCast]; exact h2
            obtain ⟨y, hy⟩ : ∃ y, l2[t] = y := ⟨_, rfl⟩
            have hty : l2[t]? = some y := by rw [List.getElem?_eq_getElem htl, hy]
            have q1 := row_cellw (j := t) (u := .bool y) hO.row (by rw [List.getElem?_map, hty]; rfl)
            rw [ht] at e3w
            rw [hty] at hall
            have Hq := Lib.hid (And.intro hall (And.intro hen (hO.al' (.cells #[.int .u8 (es[j]).lo, .int .u8 (es[j]).hi, .int .i64 t] 51))))
            generalize es[j] = e at *
            have htT : t < T.length := by omega
            clear hall hen hO hy hty ht e1 e2 e3
            cases en with
            | true =>
              cases y with
              | true =>
                go_wp2
                refine hV.out _ _ _ (by omega) rfl ⟨j + 1, false, by omega, rfl, rfl, Hq.out.2.2, ?_⟩
                rw [Hq.out.1]; simp
              | false =>
                go_wp2
                refine hV.out _ _ _ (by omega) rfl ⟨j + 1, true, by omega, rfl, rfl, Hq.out.2.2, ?_⟩
                rw [Hq.out.1, ← Hq.out.2.1]; simp
            | false =>
              go_wp2
              refine hV.out _ _ _ (by omega) rfl ⟨j + 1, false, by omega, rfl, rfl, Hq.out.2.2, ?_⟩
              rw [Hq.out.1, ← Hq.out.2.1]; simp
          · obtain rfl : j = es.length := by omega
            rw [List.take_length] at hen
            have q1 := row_cellw (j := k) (u := .bool true) hO.row (by rw [List.getElem?_map, Hst.out.2.2.2.2.1]; rfl)
            have q2 := row_frozen hO.row k
            cases en with
            | true =>
              have hO2 := hO.setRow k (.bool false)
              rw [← List.map_set] at hO2
              have hall := hen.1 rfl
              have Hq := Lib.hid (And.intro hO2 hall)
              clear hO2 hall hen hO
              go_wp2
              refine hZ.out _ _ _ (by omega) rfl ⟨k + 1, l2.set k false, true, by omega, rfl, rfl, Hq.out.1, HL.out Hq.out.2, (fun h => by cases h), fun _ => ?_⟩
              have h1 := count_set_lt Hst.out.2.2.2.2.1
              cases ag with
              | true => have := Hst.out.2.2.2.1 rfl; omega
              | false => rw [(Hst.out.2.2.1 rfl).1] at h1 ⊢; exact h1
            | false =>
              have Hq := Lib.hid (And.intro hO hen)
              clear hO hen
              go_wp2
              refine hZ.out _ _ _ (by omega) rfl ⟨k + 1, l2, ag, by omega, rfl, rfl, Hq.out.1, Hst.out.2.1, fun h => ⟨(Hst.out.2.2.1 h).1, ?_⟩, Hst.out.2.2.2.1⟩
              intro s hs hsl hx
              by_cases e : s = k
              · rw [HN.out es rfl s hsl e]
                have hne : ¬ (∀ e ∈ es, l2[e.to.toNat]? = some false) := fun h => by have := Hq.out.2.2 h; cases this
                apply Classical.byContradiction
                intro hc
                apply hne
                intro x hx'
                have h5 := hlh x hx'
                have h6 : x.to.toNat < l2.length := by omega
                cases hb : l2[x.to.toNat]? with
                | none => rw [List.getElem?_eq_getElem h6] at hb; cases hb
                | some b =>
                  cases b with
                  | false => rfl
                  | true => exact absurd ⟨x, hx', by rw [← (Hst.out.2.2.1 h).1]; exact hb⟩ hc
              · exact (Hst.out.2.2.1 h).2 s (by omega) hsl hx
      · obtain rfl : k = T.length := by omega
        have Hq := Lib.hid (And.intro hO (And.intro hF2 (And.intro hag0 hag1)))
        clear hO hF2 hag0 hag1
        go_wp2
        refine hY.out _ _ _ ?_ rfl ⟨l2, ag, rfl, rfl, Hq.out.1, Hq.out.2.1, fun h => ?_⟩
        · cases ag with
          | true => have := Hq.out.2.2.2 rfl; simp; omega
          | false => rw [(Hq.out.2.2.1 rfl).1]; simp
        · rw [(Hq.out.2.2.1 h).1]; exact (Hq.out.2.2.1 h).2
    | false =>
      have hfl := fin_left HC.out hFI (hNE rfl)
      have hbs := boolsAt_of_row (l := lf) (m := mk) (by rw [hFI.1]; exact hO.row)
      have hO2 := hO.sealRow
      have hct := Contains_bool_any _ lf true _ w2 hO2.inn hbs
      have Hq := Lib.hid (And.intro hfl (And.intro hct hO2))
      clear hfl hbs hO2 hct hO hFI hNE
      go_wp2_with fail
      refine Hq.out.2.1.mono ?_
      rintro e w5 ⟨rfl, hb5⟩
      have hO5 := (Hq.out.2.2.move hb5).below
      by_cases hmem : true ∈ lf
      · rw [tf_true hmem]
        have Hm := Lib.hid hmem
        clear hmem
        go_wp2
        exact hR.out _ _ ⟨ret_bool (by rw [tf_false (fun h => Hq.out.1.1 h Hm.out)]), hO5⟩
      · rw [tf_false hmem]
        have Hm := Lib.hid hmem
        clear hmem
        go_wp2
        exact hR.out _ _ ⟨ret_bool (by rw [tf_true (Hq.out.1.2 Hm.out)]), hO5⟩
end Cl
namespace Cl
open Go Go.RowKit Go.Proofs

/-- the edges of a state of 'below' -/
def belowE (n c : Nat) : List Ed := if 0 < c then [⟨0, c - 1, (n : Int) + 1⟩] else []
theorem belowT_take {s : List UInt8} {self : Bool} {i : Nat} (h : i < s.length) : (belowT s self).take (i + 1) = (belowT s self).take i ++ [⟨true, belowE s.length (s[i]).toNat ++ [⟨(s[i]).toNat, (s[i]).toNat, (i : Int) + 1⟩]⟩] := by
  have h1 := belowT_at (self := self) h
  have hl : i < (belowT s self).length := by rw [belowT_len]; omega
  rw [List.take_succ_eq_append_getElem hl]
  congr 1
  rw [List.getElem?_eq_getElem hl] at h1
  rw [Option.some.inj h1]
  rfl
theorem belowT_end2 (s : List UInt8) (self : Bool) : belowT s self = (belowT s self).take s.length ++ [⟨self, []⟩] ++ [⟨true, [⟨0, 255, (s.length : Int) + 1⟩]⟩] := by
  unfold belowT
  rw [List.take_left' (by simp)]
  simp

theorem Own.adopt {w0 w w' : World} {m mk : Mem} {L : List Cl.Item} {g : Nat} {t : TypeId} {arr : Array Value} (h : Own w0 m w mk L) (hb : Below w.heap.size w w') (hg : w.heap.size ≤ g) (ho : ObjAt w' g t arr) : Own w0 m w' mk (.obj g t arr :: L) :=
  (h.move hb).cons ho (fun k hk => by simp only [Item.blk, Option.some.injEq] at hk; subst hk; exact ⟨Nat.le_trans h.below.size hg, Mem.none_of_ge h.inn hg⟩)
    (fun b hb' k h1 h2 => by simp only [Item.blk, Option.some.injEq] at h1; subst h1; have := Item.lt (h.ok b hb') h2; omega)

set_option maxRecDepth 100000 in
set_option maxHeartbeats 4000000 in
theorem langBelow_any (s : ByteArray) (self : Bool) (m : Mem) (w : World) (hm : m.inn w) (htab : TabM m) (hs : s.size ≤ 1000) :
    Calls Tryd.prog 54 #[.string s, .bool self] w fun e w' => ∃ r C, e = .returned (.agg #[r]) ∧ Below w.heap.size w w' ∧ statesAt (m.grow w w') r C ∧
      LangIs (fun v => belowB self v s.data.toList) C ∧ C.length ≤ s.size + 3 := by
  have hO := ((Own.start hm).al #[.slice none 0 0] 24).nilRow 48 2
  have HO := Lib.hid hO
  clear hO
  refine calls_hide fun R hR => ?_
  go_enter Tryd.func54, Tryd.ntmps54
  go_wp2
  refine wp_loop_keep [0, 1, 4, 5, 6, 15, 16] (fun n vs wr => ∃ (k : Nat) (vo : Value) (xs : List Value) (mk : Mem), k ≤ s.size ∧ n = s.size - k ∧ vs = [.string s, .bool self, .pointer (some ⟨w.heap.size, 0, none⟩), vo, .int .i64 ((s.size : Int) + 1), .int .i64 s.size, .int .i64 k] ∧
    Own w m wr mk [.row vo 48 2 k xs, .obj w.heap.size 24 #[.slice none 0 0]] ∧ StRow mk xs ((belowT s.data.toList self).take k)) ?_ ?_
  · exact ⟨_, 0, .slice none 0 0, [], m, Nat.zero_le _, rfl, rfl, HO.out, StRow.nil m⟩
  clear HO
  rintro X z n vs wr hX - ⟨k, vo, xs, mk, hk, rfl, rfl, hO, hrow⟩
  simp [litL, lk]
  obtain ⟨voa, voc, rfl⟩ := row_slice hO.row
  by_cases hlt : k < s.size
  · have hc := (s[k]).toNat_lt
    have htk : (belowT s.data.toList self).take (k + 1) = (belowT s.data.toList self).take k ++ [⟨true, belowE s.size (s[k]'hlt).toNat ++ [⟨(s[k]'hlt).toNat, (s[k]'hlt).toNat, (k : Int) + 1⟩]⟩] := by
      have hsl : s.data.toList.length = s.size := by simp
      have h1 := belowT_take (s := s.data.toList) (self := self) (i := k) (by rw [hsl]; exact hlt)
      have h2 : belowE s.data.toList.length = belowE s.size := by rw [hsl]
      rw [h2] at h1
      exact h1
    have Htk := Lib.hid htk
    have HR := Lib.hid hrow
    clear htk hrow
    have hO2 := (hO.al #[.bool true, .slice none 0 0] 48).nilRow 51 3
    have HO2 := Lib.hid hO2
    clear hO hO2
    have hw1 : IntKind.i64.wrap ((k : Int) + 1) = (k : Int) + 1 := IntWalk.i64_in _ (by omega)
    have hw2 : 0 < (s[k]).toNat → IntKind.u8.wrap (((s[k]).toNat : Int) - 1) = (((s[k]).toNat - 1 : Nat) : Int) := fun h => by rw [IntWalk.u8_in _ (by omega)]; omega
    have Hw2 := Lib.hid hw2
    clear hw2
    go_upto_if 23 with (fail)
    generalize wr.heap.size = S at *
    generalize wr.alloc (.cells #[.bool true, .slice none 0 0] 48) = w2 at *
    refine wp_cut_keep [0, 1, 4, 5, 6, 15, 16, 7, 8] (fun vs w' => ∃ ve : Value, vs = [.string s, .bool self, .pointer (some ⟨w.heap.size, 0, none⟩), .slice voa k voc, .int .i64 ((s.size : Int) + 1), .int .i64 s.size, .int .i64 k, .int .i64 k, .pointer (some ⟨S, 0, none⟩)] ∧
      Own w m w' mk [.row ve 51 3 (belowE s.size (s[k]).toNat).length (edCells (belowE s.size (s[k]).toNat)), .obj S 48 #[.bool true, ve], .row (.slice voa k voc) 48 2 k xs, .obj w.heap.size 24 #[.slice none 0 0]]) ?_ ?_
    · intro V hV
      by_cases hpos : 0 < (s[k]).toNat
      · have hbe : belowE s.size (s[k]).toNat = [⟨0, (s[k]).toNat - 1, (s.size : Int) + 1⟩] := by unfold belowE; rw [if_pos hpos]
        have Hbe := Lib.hid hbe
        have hdec : decide (0 < (s[k]).toNat) = true := decide_eq_true hpos
        have hdec2 : decide ((0 : Int) < ((s[k]).toNat : Int)) = true := decide_eq_true (by omega)
        have hw3 := Hw2.out hpos
        have hO := HO2.out.dr
        clear hbe
        go_wp2
        refine wp_region_T (fun w' => ObjAt w' S 48 #[.bool true, .slice none 0 0]) 11 (by kernel_rfl) ?_
        have hS := hO.swap.obj
        refine wpAnyT_take 0 rfl (by kernel_rfl) (fun _ _ _ h => h) hS (yields_of rfl fun w' hS' => by have q := hS'.cell (i := 1) rfl; go_simp; rfl) ?_
        refine wpAnyT_take 1 rfl (by kernel_rfl) (fun _ _ _ h => h) hS (yields_of rfl fun w' hS' => by have q := hS'.cell (i := 1) rfl; go_simp; rfl) ?_
        refine wpAnyT_take 2 rfl (by kernel_rfl) (fun _ _ _ h => h) hS (yields_of rfl fun w' hS' => by have q := hS'.cell (i := 1) rfl; go_simp; rfl) ?_
        refine wpAnyT_take 3 rfl (by kernel_rfl) (fun _ _ _ h => h) hS (yields_of rfl fun w' hS' => by have q := hS'.cell (i := 1) rfl; go_simp; rfl) ?_
        refine wpAnyT_take 4 rfl (by kernel_rfl) (fun _ _ _ h => h) hS (yields_of rfl fun w' hS' => by have q := hS'.cell (i := 1) rfl; go_simp; rfl) ?_
        refine wpAnyT_take 5 rfl (by kernel_rfl) (fun _ _ _ h => h) hS (yields_of rfl fun w' hS' => by have q := hS'.cell (i := 1) rfl; go_simp; rfl) ?_
        refine wpAnyT_take 6 rfl (by kernel_rfl) (fun _ _ _ h => h) hS (yields_of rfl fun w' hS' => by have q := hS'.cell (i := 1) rfl; go_simp; rfl) ?_
        refine wpAnyT_only 7 (by kernel_rfl) (wpOp_of rfl rfl (wp_value (by go_simp; first | done | exact ⟨rfl, rfl⟩ | rfl) (andS hS fun _ => ?_)))
        go_simp
        have hO6 := hO.al #[.int .u8 0, .int .u8 ((s[k]).toNat - 1 : Nat), .int .i64 ((s.size : Int) + 1)] 51
        refine wpAnyT_only 8 (by kernel_rfl) (wpOp_of rfl rfl (wp_value (by go_simp; first | done | exact ⟨rfl, rfl⟩ | rfl) (andS hO6.third.obj fun _ => ?_)))
        go_simp
        refine wpAnyT_only 9 (by kernel_rfl) (wpOp_of rfl rfl (wp_append_row tyEdges (.tmp 25) (.tmp 32) rfl (.slice none 0 0) 0 [] rfl hO6.swap.row ⟨w2.heap.size, 0, none⟩ 1 1 [.int .u8 0, .int .u8 ((s[k]).toNat - 1 : Nat), .int .i64 ((s.size : Int) + 1)] rfl rfl (hO6.obj.news rfl) (by simp [Value.oneCell']) (by unfold maxLen; omega) (by omega) (fun na' nc' w7 hown7 hgrow7 hrow7 => ?_)))
        have hO7 := (hO6.swap.app hown7 hgrow7 hrow7 (Nat.le_refl _)).drop2
        refine andS hO7.swap.obj fun hS3 => ?_
        go_simp
        refine wpAnyT_only 10 (by kernel_rfl) (wpOp_of rfl rfl (wp_value (by go_simp; first | done | exact ⟨rfl, rfl⟩ | rfl) (andS hS3 fun _ => ?_)))
        go_simp
        have f3 := hS3.frozen 1
        have c3 := hS3.cell (i := 1) rfl
        refine wpAnyT_only 11 (by kernel_rfl) (wpOp_of rfl rfl (wp_skipped (by go_simp; first | done | rfl) (andLast rfl ?_)))
        refine wpAnyT_done (by kernel_rfl) ?_ _
        have hO8 := (hO7.swap.set 1 (.slice na' (0 + 1) nc')).swap
        refine hV.out _ _ rfl ⟨.slice na' (0 + 1) nc', rfl, ?_⟩
        rw [Hbe.out]
        exact hO8
      · have hbe : belowE s.size (s[k]).toNat = [] := by unfold belowE; rw [if_neg hpos]
        have Hbe := Lib.hid hbe
        have hdec : decide (0 < (s[k]).toNat) = false := decide_eq_false hpos
        have hdec2 : decide ((0 : Int) < ((s[k]).toNat : Int)) = false := decide_eq_false (by omega)
        clear hbe
        go_wp2
        refine hV.out _ _ rfl ⟨.slice none 0 0, rfl, ?_⟩
        rw [Hbe.out]
        exact HO2.out
    rintro z3 vs w3 - ⟨ve, rfl, hO⟩
    simp [litL, lk]
    clear HO2
    obtain ⟨vea, vec, rfl⟩ := row_slice hO.row
    have hel : (belowE s.size (s[k]).toNat).length ≤ 1 := by unfold belowE; split <;> simp
    have hok : ∀ e ∈ belowE s.size (s[k]).toNat ++ [⟨(s[k]).toNat, (s[k]).toNat, (k : Int) + 1⟩], edOk e := fun e he => by
      rcases List.mem_append.1 he with h1 | h1
      · unfold belowE at h1
        split at h1
        · rw [List.mem_singleton.1 h1]; exact ⟨by show 0 < 256; omega, by show (s[k]).toNat - 1 < 256; omega, by show _ ≤ (s.size : Int) + 1; omega, by show (s.size : Int) + 1 ≤ _; omega⟩
        · simp at h1
      · rw [List.mem_singleton.1 h1]; exact ⟨hc, hc, by show _ ≤ (k : Int) + 1; omega, by show (k : Int) + 1 ≤ _; omega⟩
    have Hok := Lib.hid hok
    clear hok
    generalize belowE s.size (s[k]).toNat = es at *
    have hO := hO.dr
    go_wp2
    refine wp_cut_keep [0, 1, 4, 5, 6, 15, 16, 8] (fun vs w' => ∃ ve : Value, vs = [.string s, .bool self, .pointer (some ⟨w.heap.size, 0, none⟩), .slice voa k voc, .int .i64 ((s.size : Int) + 1), .int .i64 s.size, .int .i64 k, .pointer (some ⟨S, 0, none⟩)] ∧
      Own w m w' mk [.row ve 51 3 (es.length + 1) (edCells (es ++ [⟨(s[k]).toNat, (s[k]).toNat, (k : Int) + 1⟩])), .obj S 48 #[.bool true, ve], .row (.slice voa k voc) 48 2 k xs, .obj w.heap.size 24 #[.slice none 0 0]]) ?_ ?_
    · intro V hV
      refine wp_region_T (fun w' => ObjAt w' S 48 #[.bool true, .slice vea es.length vec]) 14 (by kernel_rfl) ?_
      have hS := hO.swap.obj
      refine wpAnyT_take 0 rfl (by kernel_rfl) (fun _ _ _ h => h) hS (yields_of rfl fun w' hS' => by have q := hS'.cell (i := 1) rfl; go_simp; rfl) ?_
      refine wpAnyT_take 1 rfl (by kernel_rfl) (fun _ _ _ h => h) hS (yields_of rfl fun w' hS' => by have q := hS'.cell (i := 1) rfl; go_simp; rfl) ?_
      refine wpAnyT_take 2 rfl (by kernel_rfl) (fun _ _ _ h => h) hS (yields_of rfl fun w' hS' => by have q := hS'.cell (i := 1) rfl; go_simp; rfl) ?_
      refine wpAnyT_take 3 rfl (by kernel_rfl) (fun _ _ _ h => h) hS (yields_of rfl fun w' hS' => by have q := hS'.cell (i := 1) rfl; go_simp; rfl) ?_
      refine wpAnyT_take 4 rfl (by kernel_rfl) (fun _ _ _ h => h) hS (yields_of rfl fun w' hS' => by have q := hS'.cell (i := 1) rfl; go_simp; rfl) ?_
      refine wpAnyT_take 5 rfl (by kernel_rfl) (fun _ _ _ h => h) hS (yields_of rfl fun w' hS' => by have q := hS'.cell (i := 1) rfl; go_simp; rfl) ?_
      refine wpAnyT_take 6 rfl (by kernel_rfl) (fun _ _ _ h => h) hS (yields_of rfl fun w' hS' => by have q := hS'.cell (i := 1) rfl; go_simp; rfl) ?_
      refine wpAnyT_take 7 rfl (by kernel_rfl) (fun _ _ _ h => h) hS (yields_of rfl fun w' hS' => by have q := hS'.cell (i := 1) rfl; go_simp; rfl) ?_
      refine wpAnyT_take 8 rfl (by kernel_rfl) (fun _ _ _ h => h) hS (yields_of rfl fun w' hS' => by have q := hS'.cell (i := 1) rfl; go_simp; rfl) ?_
      refine wpAnyT_take 9 rfl (by kernel_rfl) (fun _ _ _ h => h) hS (yields_of rfl fun w' hS' => by have q := hS'.cell (i := 1) rfl; go_simp; rfl) ?_
      refine wpAnyT_only 10 (by kernel_rfl) (wpOp_of rfl rfl (wp_value (by go_simp; first | done | exact ⟨rfl, rfl⟩ | rfl) (andS hS fun _ => ?_)))
      go_simp
      have hO6 := hO.al #[.int .u8 (s[k]).toNat, .int .u8 (s[k]).toNat, .int .i64 ((k : Int) + 1)] 51
      refine wpAnyT_only 11 (by kernel_rfl) (wpOp_of rfl rfl (wp_value (by go_simp; first | done | exact ⟨rfl, rfl⟩ | rfl) (andS hO6.third.obj fun _ => ?_)))
      go_simp
      refine wpAnyT_only 12 (by kernel_rfl) (wpOp_of rfl rfl (wp_append_row tyEdges (.tmp 36) (.tmp 46) rfl (.slice vea es.length vec) es.length (edCells es) rfl hO6.swap.row ⟨w3.heap.size, 0, none⟩ 1 1 [.int .u8 (s[k]).toNat, .int .u8 (s[k]).toNat, .int .i64 ((k : Int) + 1)] rfl rfl (hO6.obj.news rfl) (by simp [Value.oneCell']) (by unfold maxLen; omega) (by omega) (fun na' nc' w7 hown7 hgrow7 hrow7 => ?_)))
      have hO7 := (hO6.swap.app hown7 hgrow7 hrow7 (Nat.le_refl _)).drop2
      refine andS hO7.swap.obj fun hS3 => ?_
      go_simp
      refine wpAnyT_only 13 (by kernel_rfl) (wpOp_of rfl rfl (wp_value (by go_simp; first | done | exact ⟨rfl, rfl⟩ | rfl) (andS hS3 fun _ => ?_)))
      go_simp
      have f3 := hS3.frozen 1
      have c3 := hS3.cell (i := 1) rfl
      refine wpAnyT_only 14 (by kernel_rfl) (wpOp_of rfl rfl (wp_skipped (by go_simp; first | done | rfl) (andLast rfl ?_)))
      refine wpAnyT_done (by kernel_rfl) ?_ _
      have hO8 := (hO7.swap.set 1 (.slice na' (es.length + 1) nc')).swap
      refine hV.out _ _ rfl ⟨.slice na' (es.length + 1) nc', rfl, ?_⟩
      rw [edCells_append]
      exact hO8
    rintro z4 vs w4 - ⟨ve, rfl, hO⟩
    simp [litL, lk]
    obtain ⟨vea2, vec2, rfl⟩ := row_slice hO.row
    have hes := edgesAt_of_row (l := es ++ [⟨(s[k]).toNat, (s[k]).toNat, (k : Int) + 1⟩]) (m := mk) (by rw [List.length_append]; exact hO.row) Hok.out
    have hmk2 := Mem.le_addv (w := w4) hO.free
    have hrow2 := (HR.out.mono hmk2).push (s := ⟨true, es ++ [⟨(s[k]).toNat, (s[k]).toNat, (k : Int) + 1⟩]⟩) hes
    have hO2 := hO.sealRow
    have s0 := hO2.obj.cell (i := 0) rfl
    have s1 := hO2.obj.cell (i := 1) rfl
    have sl := hO2.obj.lt
    have hO3 := hO2.al #[.bool true, .slice vea2 (es.length + 1) vec2] 48
    have Hk := Lib.hid hrow2
    clear hrow2 hes hmk2
    generalize mk.addv w4 (.slice vea2 (es.length + 1) vec2) = mk2 at *
    have hnews := hO3.obj.news rfl
    clear hO hO2
    go_wp2_with (at_builtin; refine wpList_append_row tyStates rfl (.tmp 49) (.tmp 51) rfl (.slice voa k voc) k xs rfl hO3.third.row ⟨w4.heap.size, 0, none⟩ 1 1 [.bool true, .slice vea2 (es.length + 1) vec2] rfl rfl hnews (by simp [Value.oneCell']) (by unfold maxLen; omega) (by omega) ?_)
    intro va vc w7 hown7 hgrow7 hrow7
    have hO4 := (hO3.third.app hown7 hgrow7 hrow7 (by simp)).drop2.drop2
    have HO4 := Lib.hid hO4
    clear hown7 hgrow7 hrow7 hO3 hnews hO4
    go_wp2
    refine hX.out _ _ _ (by omega) rfl ⟨k + 1, .slice va (k + 1) vc, _, mk2, by omega, rfl, rfl, HO4.out, ?_⟩
    rw [Htk.out]
    exact Hk.out
  · obtain rfl : k = s.size := by omega
    have hsl : s.data.toList.length = s.size := by simp
    have he2 := belowT_end2 s.data.toList self
    rw [hsl] at he2
    have hwfb := belowT_wf s.data.toList self
    have hbl := below_lang s.data.toList self
    have hbn := belowT_len s.data.toList self
    rw [hsl] at hbn
    have HB := Lib.hid (And.intro he2 (And.intro hwfb (And.intro hbl hbn)))
    have HR := Lib.hid hrow
    have HO := Lib.hid hO
    clear he2 hwfb hbl hbn hsl hrow hO
    go_wp2_with fail
    refine (auAll_obj wr).mono ?_
    rintro e w1 ⟨g1, g2, rfl, hb1, q1, q2, q3, o1, o2⟩
    have hO1 := HO.out.adopt hb1 q1 o1
    have hfd : ∀ w : World, (Instr.field 24 (.agg #[.slice (some ⟨g2, 0, none⟩) 1 1]) 0).run Tryd.prog w = .ok (.slice (some ⟨g2, 0, none⟩) 1 1) w := fun _ => by kernel_rfl
    have c0 := o2.cell (i := 0) rfl
    have c1 := o2.cell (i := 1) rfl
    have cl := o2.lt
    have hO2 := hO1.al #[.bool self, .slice none 0 0, .bool true, .slice (some ⟨g1, 0, none⟩) 1 1] 48
    have hnews := hO2.obj.news rfl
    have hxl := (hO1.swap.row).1
    have hw1 : IntKind.i64.wrap ((s.size : Int) + 1) = (s.size : Int) + 1 := IntWalk.i64_in _ (by omega)
    clear hO1 HO hb1 q1 q2 q3 o1 o2
    go_wp2_with (at_builtin; refine wpList_append_row tyStates rfl (.tmp 54) (.tmp 61) rfl (.slice voa s.size voc) s.size xs rfl hO2.third.row ⟨w1.heap.size, 0, none⟩ 2 2 [.bool self, .slice none 0 0, .bool true, .slice (some ⟨g1, 0, none⟩) 1 1] rfl rfl hnews (by simp [Value.oneCell']) (by unfold maxLen; omega) (by omega) ?_)
    intro va vc w7 hown7 hgrow7 hrow7
    have hO3 := (hO2.third.app hown7 hgrow7 hrow7 (by simp)).drop2
    obtain ⟨vb, rfl⟩ := row_some hO3.row (by omega)
    have r1 := row_cellw (j := (s.size + 1) * 2 + 1) (u := .slice (some ⟨g1, 0, none⟩) 1 1) hO3.row (by
      rw [List.getElem?_append_right (by omega), show (s.size + 1) * 2 + 1 - xs.length = 3 by omega]; rfl)
    have r2 := (World.ownsRow.lt hO3.row _ rfl).2
    have e1 := hO3.swap.obj.cell (i := 2) rfl
    have e2 := hO3.swap.obj.frozen 2
    have e3 := hO3.swap.obj.lt
    have hO4 := (hO3.swap.set 2 (.int .i64 ((s.size : Int) + 1)))
    have hed := oneEdge (mk := mk) (lo := 0) (hi := 255) (to := (s.size : Int) + 1) hO4.obj ⟨by show 0 < 256; omega, by show 255 < 256; omega, by show _ ≤ (s.size : Int) + 1; omega, by show (s.size : Int) + 1 ≤ _; omega⟩
    have hmk2 := Mem.le_add (w := w7.setCell ⟨g1, 2, none⟩ (.int .i64 ((s.size : Int) + 1))) hO4.objFree
    have hO5 := hO4.sealObj
    have hrow5 := ((HR.out.mono hmk2).push (s := ⟨self, []⟩) (noEdges _)).push (s := ⟨true, [⟨0, 255, (s.size : Int) + 1⟩]⟩) hed
    rw [← HB.out.1] at hrow5
    have hst := statesAt_of_row (l := belowT s.data.toList self) (m := mk.add (w7.setCell ⟨g1, 2, none⟩ (.int .i64 ((s.size : Int) + 1))) g1) (by rw [HB.out.2.2.2]; simpa using hO5.row) (by simpa using hrow5) hO5.free
    have hO6 := hO5.sealRow
    have hml : m.le _ := hO6.ext.le
    have HM := Lib.hid (auMinimal_any _ (belowT s.data.toList self) _ _ hO6.inn (htab.le hml) hst (by rw [HB.out.2.2.2]; omega))
    have HO6 := Lib.hid hO6
    have hi1 : ((s.size : Int) + 1) < ((s.size : Int) + 2) := by omega
    have hi2 : s.size + 1 < s.size + 2 := by omega
    clear hO6 hml hst hrow5 hO5 hmk2 hed hO4 hO3 hO2 hown7 hgrow7 hrow7 hnews hxl c0 c1 cl hfd
    go_wp2_with fail
    refine HM.out.mono ?_
    rintro e w2 ⟨r, C, rfl, hb2, hst, hClen, hmin, hnot⟩
    have hwf := HB.out.2.1.1
    rw [tf_true hwf]
    obtain ⟨ra, rc, rfl⟩ : ∃ ra rc, r = .slice ra C.length rc := by obtain ⟨x, y, e, -⟩ := hst; exact ⟨x, y, e⟩
    have hO7 := (HO6.out.call hb2).al #[.slice ra C.length rc] 24
    have g1' := hO7.swap.obj.cell (i := 0) rfl
    have g2' := hO7.swap.obj.frozen 0
    have g3' := hO7.swap.obj.lt
    have hO8 := hO7.swap.set 0 (.slice ra C.length rc)
    have g4' := hO8.obj.cell (i := 0) rfl
    have hfin := statesAt_le hO8.done hst
    have Hk := Lib.hid (And.intro hO8.below (And.intro hfin (And.intro (hmin hwf) hClen)))
    clear hO8 hO7 hfin hmin hnot hst hClen HO6 hwf HM
    go_wp2
    refine bodyPost_ret (v := .agg #[.slice ra C.length rc]) (by simp [results, Tryd.results54, go_sem, g4']) rfl ?_
    refine hR.out _ _ ⟨_, C, rfl, Hk.out.1, Hk.out.2.1, ⟨Hk.out.2.2.1.canon, fun x => ?_⟩, ?_⟩
    · rw [Hk.out.2.2.1.lang]
      have := HB.out.2.2.1 x 0 (Nat.zero_le _)
      rw [List.drop_zero] at this
      exact this
    · have h1 := Hk.out.2.2.2
      have h2 := HB.out.2.2.2
      omega
end Cl
namespace Cl
open Go Go.RowKit Go.Proofs

theorem wordT_eq (s : ByteArray) : wordT s.data.toList s.size ++ [⟨true, []⟩] = wordL s.data.toList := by
  unfold wordT wordL
  simp

set_option maxRecDepth 100000 in
set_option maxHeartbeats 4000000 in
theorem langBound_any (op s : ByteArray) (m : Mem) (w : World) (hm : m.inn w) (htab : TabM m) (hop : op.size ≤ 1000) (hs : s.size ≤ 1000) :
    Calls Tryd.prog 33 #[.string op, .string s] w fun e w' => ∃ r C, e = .returned (.tuple #[.agg #[r], .int .i64 (if (boundF op.toList s.data.toList).isSome then 0 else 8)]) ∧ Below w.heap.size w w' ∧ statesAt (m.grow w w') r C ∧
      (∀ f, boundF op.toList s.data.toList = some f → LangIs f C) ∧ (boundF op.toList s.data.toList = none → C = []) ∧ C.length ≤ 10000 := by
  have hO := (Own.start hm).al #[.slice none 0 0] 24
  have HO := Lib.hid hO
  have HB := Lib.hid (fun self => langBelow_any s self m _ hO.inn htab hs)
  have HW := Lib.hid (auWord_any s m _ hO.inn hs)
  clear hO
  refine calls_hide fun R hR => ?_
  go_enter Tryd.func33, Tryd.ntmps33
  have hnc : ∀ x : ByteArray, Hid (x = x) := fun x => Lib.hid rfl
  clear hnc
  go_wp2_with fail
  · -- way 0
    have h0 : (op.toList == [60]) = true := by assumption
    have hf : boundF op.toList s.data.toList = some (belowB false · s.data.toList) := by simp [boundF, beq_iff_eq.1 h0]
    refine (HB.out false).mono ?_
    rintro e w1 ⟨r, C, rfl, hb1, hst, hlang, hClen⟩
    have hO1 := HO.out.call hb1
    obtain ⟨ra, rc, rfl⟩ : ∃ ra rc, r = .slice ra C.length rc := by obtain ⟨x, y, e, -⟩ := hst; exact ⟨x, y, e⟩
    clear h0 hb1
    have g1 := hO1.obj.cell (i := 0) rfl
    have g2 := hO1.obj.frozen 0
    have g3 := hO1.obj.lt
    have hO2 := hO1.set 0 (.slice ra C.length rc)
    have g4 := hO2.obj.cell (i := 0) rfl
    have Hk := Lib.hid (And.intro hO2.below (And.intro (statesAt_le hO2.done hst) (And.intro hlang (And.intro hClen hf))))
    clear hO2 hO1 hst hlang hClen hf
    go_wp2
    refine bodyPost_ret (v := .tuple #[.agg #[.slice ra C.length rc], .int .i64 0]) (by simp [results, Tryd.results33, go_sem, g4]) rfl ?_
    refine hR.out _ _ ⟨_, C, by rw [Hk.out.2.2.2.2]; rfl, Hk.out.1, Hk.out.2.1, fun f h => ?_, fun h => ?_, ?_⟩
    · rw [Hk.out.2.2.2.2] at h; cases h; exact Hk.out.2.2.1
    · rw [Hk.out.2.2.2.2] at h; cases h
    · have := Hk.out.2.2.2.1; omega
  · -- way 1
    have h0 : (op.toList == [60]) = false := by assumption
    have h1 : (op.toList == [60, 61]) = true := by assumption
    have hf : boundF op.toList s.data.toList = some (belowB true · s.data.toList) := by simp [boundF, beq_eq_false_iff_ne.1 h0, beq_iff_eq.1 h1]
    refine (HB.out true).mono ?_
    rintro e w1 ⟨r, C, rfl, hb1, hst, hlang, hClen⟩
    have hO1 := HO.out.call hb1
    obtain ⟨ra, rc, rfl⟩ : ∃ ra rc, r = .slice ra C.length rc := by obtain ⟨x, y, e, -⟩ := hst; exact ⟨x, y, e⟩
    clear h0 h1 hb1
    have g1 := hO1.obj.cell (i := 0) rfl
    have g2 := hO1.obj.frozen 0
    have g3 := hO1.obj.lt
    have hO2 := hO1.set 0 (.slice ra C.length rc)
    have g4 := hO2.obj.cell (i := 0) rfl
    have Hk := Lib.hid (And.intro hO2.below (And.intro (statesAt_le hO2.done hst) (And.intro hlang (And.intro hClen hf))))
    clear hO2 hO1 hst hlang hClen hf
    go_wp2
    refine bodyPost_ret (v := .tuple #[.agg #[.slice ra C.length rc], .int .i64 0]) (by simp [results, Tryd.results33, go_sem, g4]) rfl ?_
    refine hR.out _ _ ⟨_, C, by rw [Hk.out.2.2.2.2]; rfl, Hk.out.1, Hk.out.2.1, fun f h => ?_, fun h => ?_, ?_⟩
    · rw [Hk.out.2.2.2.2] at h; cases h; exact Hk.out.2.2.1
    · rw [Hk.out.2.2.2.2] at h; cases h
    · have := Hk.out.2.2.2.1; omega
  · -- way 2
    have h0 : (op.toList == [60]) = false := by assumption
    have h1 : (op.toList == [60, 61]) = false := by assumption
    have h2 : (op.toList == [62]) = true := by assumption
    have hf : boundF op.toList s.data.toList = some fun v => !belowB true v s.data.toList := by simp [boundF, beq_eq_false_iff_ne.1 h0, beq_eq_false_iff_ne.1 h1, beq_iff_eq.1 h2]
    refine (HB.out true).mono ?_
    rintro e w1 ⟨r, C, rfl, hb1, hst, hlang, hClen⟩
    have hO1 := HO.out.call hb1
    obtain ⟨ra, rc, rfl⟩ : ∃ ra rc, r = .slice ra C.length rc := by obtain ⟨x, y, e, -⟩ := hst; exact ⟨x, y, e⟩
    have HN := Lib.hid (langNot_any (.slice ra C.length rc) C _ w1 hO1.inn (htab.le hO1.ext.le) hst (by omega))
    have Hf := Lib.hid (And.intro hf (And.intro hlang hClen))
    have HO1 := Lib.hid hO1
    clear hf hlang hClen hst hO1 hb1 h0 h1 h2
    go_wp2_with fail
    refine HN.out.mono ?_
    rintro e w2 ⟨r2, C2, rfl, hb2, hst, hlang2, hClen2⟩
    have hO1 := HO1.out.call hb2
    have hf := Hf.out.1
    have hlang := hlang2.congr fun x => by rw [Hf.out.2.1.sem x]
    have hClen : C2.length ≤ 3 * (s.size + 5) + 1 := by have := Hf.out.2.2; omega
    clear hlang2 hClen2 HN Hf HO1 hb2
    generalize C2 = C at *
    obtain ⟨ra, rc, rfl⟩ : ∃ ra rc, r2 = .slice ra C.length rc := by obtain ⟨x, y, e, -⟩ := hst; exact ⟨x, y, e⟩
    have g1 := hO1.obj.cell (i := 0) rfl
    have g2 := hO1.obj.frozen 0
    have g3 := hO1.obj.lt
    have hO2 := hO1.set 0 (.slice ra C.length rc)
    have g4 := hO2.obj.cell (i := 0) rfl
    have Hk := Lib.hid (And.intro hO2.below (And.intro (statesAt_le hO2.done hst) (And.intro hlang (And.intro hClen hf))))
    clear hO2 hO1 hst hlang hClen hf
    go_wp2
    refine bodyPost_ret (v := .tuple #[.agg #[.slice ra C.length rc], .int .i64 0]) (by simp [results, Tryd.results33, go_sem, g4]) rfl ?_
    refine hR.out _ _ ⟨_, C, by rw [Hk.out.2.2.2.2]; rfl, Hk.out.1, Hk.out.2.1, fun f h => ?_, fun h => ?_, ?_⟩
    · rw [Hk.out.2.2.2.2] at h; cases h; exact Hk.out.2.2.1
    · rw [Hk.out.2.2.2.2] at h; cases h
    · have := Hk.out.2.2.2.1; omega
  · -- way 3
    have h0 : (op.toList == [60]) = false := by assumption
    have h1 : (op.toList == [60, 61]) = false := by assumption
    have h2 : (op.toList == [62]) = false := by assumption
    have h3 : (op.toList == [62, 61]) = true := by assumption
    have hf : boundF op.toList s.data.toList = some fun v => !belowB false v s.data.toList := by simp [boundF, beq_eq_false_iff_ne.1 h0, beq_eq_false_iff_ne.1 h1, beq_eq_false_iff_ne.1 h2, beq_iff_eq.1 h3]
    refine (HB.out false).mono ?_
    rintro e w1 ⟨r, C, rfl, hb1, hst, hlang, hClen⟩
    have hO1 := HO.out.call hb1
    obtain ⟨ra, rc, rfl⟩ : ∃ ra rc, r = .slice ra C.length rc := by obtain ⟨x, y, e, -⟩ := hst; exact ⟨x, y, e⟩
    have HN := Lib.hid (langNot_any (.slice ra C.length rc) C _ w1 hO1.inn (htab.le hO1.ext.le) hst (by omega))
    have Hf := Lib.hid (And.intro hf (And.intro hlang hClen))
    have HO1 := Lib.hid hO1
    clear hf hlang hClen hst hO1 hb1 h0 h1 h2 h3
    go_wp2_with fail
    refine HN.out.mono ?_
    rintro e w2 ⟨r2, C2, rfl, hb2, hst, hlang2, hClen2⟩
    have hO1 := HO1.out.call hb2
    have hf := Hf.out.1
    have hlang := hlang2.congr fun x => by rw [Hf.out.2.1.sem x]
    have hClen : C2.length ≤ 3 * (s.size + 5) + 1 := by have := Hf.out.2.2; omega
    clear hlang2 hClen2 HN Hf HO1 hb2
    generalize C2 = C at *
    obtain ⟨ra, rc, rfl⟩ : ∃ ra rc, r2 = .slice ra C.length rc := by obtain ⟨x, y, e, -⟩ := hst; exact ⟨x, y, e⟩
    have g1 := hO1.obj.cell (i := 0) rfl
    have g2 := hO1.obj.frozen 0
    have g3 := hO1.obj.lt
    have hO2 := hO1.set 0 (.slice ra C.length rc)
    have g4 := hO2.obj.cell (i := 0) rfl
    have Hk := Lib.hid (And.intro hO2.below (And.intro (statesAt_le hO2.done hst) (And.intro hlang (And.intro hClen hf))))
    clear hO2 hO1 hst hlang hClen hf
    go_wp2
    refine bodyPost_ret (v := .tuple #[.agg #[.slice ra C.length rc], .int .i64 0]) (by simp [results, Tryd.results33, go_sem, g4]) rfl ?_
    refine hR.out _ _ ⟨_, C, by rw [Hk.out.2.2.2.2]; rfl, Hk.out.1, Hk.out.2.1, fun f h => ?_, fun h => ?_, ?_⟩
    · rw [Hk.out.2.2.2.2] at h; cases h; exact Hk.out.2.2.1
    · rw [Hk.out.2.2.2.2] at h; cases h
    · have := Hk.out.2.2.2.1; omega
  · -- way 4
    have h0 : (op.toList == [60]) = false := by assumption
    have h1 : (op.toList == [60, 61]) = false := by assumption
    have h2 : (op.toList == [62]) = false := by assumption
    have h3 : (op.toList == [62, 61]) = false := by assumption
    have h4 : (op.toList == [61, 61]) = true := by assumption
    have hf : boundF op.toList s.data.toList = some fun v => decide (v = s.data.toList) := by simp [boundF, beq_eq_false_iff_ne.1 h0, beq_eq_false_iff_ne.1 h1, beq_eq_false_iff_ne.1 h2, beq_eq_false_iff_ne.1 h3, beq_iff_eq.1 h4]
    refine HW.out.mono ?_
    rintro e w1 ⟨r, rfl, hb1, hst⟩
    rw [wordT_eq] at hst
    have hlang := word_is s.data.toList
    have hClen : (wordL s.data.toList).length ≤ s.size + 3 := by rw [wordL_len]; simp
    obtain ⟨C, hCC⟩ : ∃ C, wordL s.data.toList = C := ⟨_, rfl⟩
    rw [hCC] at hst hlang hClen
    have hO1 := HO.out.call hb1
    obtain ⟨ra, rc, rfl⟩ : ∃ ra rc, r = .slice ra C.length rc := by obtain ⟨x, y, e, -⟩ := hst; exact ⟨x, y, e⟩
    clear h0 h1 h2 h3 h4 hCC hb1
    have g1 := hO1.obj.cell (i := 0) rfl
    have g2 := hO1.obj.frozen 0
    have g3 := hO1.obj.lt
    have hO2 := hO1.set 0 (.slice ra C.length rc)
    have g4 := hO2.obj.cell (i := 0) rfl
    have Hk := Lib.hid (And.intro hO2.below (And.intro (statesAt_le hO2.done hst) (And.intro hlang (And.intro hClen hf))))
    clear hO2 hO1 hst hlang hClen hf
    go_wp2
    refine bodyPost_ret (v := .tuple #[.agg #[.slice ra C.length rc], .int .i64 0]) (by simp [results, Tryd.results33, go_sem, g4]) rfl ?_
    refine hR.out _ _ ⟨_, C, by rw [Hk.out.2.2.2.2]; rfl, Hk.out.1, Hk.out.2.1, fun f h => ?_, fun h => ?_, ?_⟩
    · rw [Hk.out.2.2.2.2] at h; cases h; exact Hk.out.2.2.1
    · rw [Hk.out.2.2.2.2] at h; cases h
    · have := Hk.out.2.2.2.1; omega
  · -- way 5
    have h0 : (op.toList == [60]) = false := by assumption
    have h1 : (op.toList == [60, 61]) = false := by assumption
    have h2 : (op.toList == [62]) = false := by assumption
    have h3 : (op.toList == [62, 61]) = false := by assumption
    have h4 : (op.toList == [61, 61]) = false := by assumption
    have h5 : (op.toList == [33, 61]) = true := by assumption
    have hf : boundF op.toList s.data.toList = some fun v => !decide (v = s.data.toList) := by simp [boundF, beq_eq_false_iff_ne.1 h0, beq_eq_false_iff_ne.1 h1, beq_eq_false_iff_ne.1 h2, beq_eq_false_iff_ne.1 h3, beq_eq_false_iff_ne.1 h4, beq_iff_eq.1 h5]
    refine HW.out.mono ?_
    rintro e w1 ⟨r, rfl, hb1, hst⟩
    rw [wordT_eq] at hst
    have hlang := word_is s.data.toList
    have hClen : (wordL s.data.toList).length ≤ s.size + 3 := by rw [wordL_len]; simp
    obtain ⟨C, hCC⟩ : ∃ C, wordL s.data.toList = C := ⟨_, rfl⟩
    rw [hCC] at hst hlang hClen
    have hO1 := HO.out.call hb1
    obtain ⟨ra, rc, rfl⟩ : ∃ ra rc, r = .slice ra C.length rc := by obtain ⟨x, y, e, -⟩ := hst; exact ⟨x, y, e⟩
    have HN := Lib.hid (langNot_any (.slice ra C.length rc) C _ w1 hO1.inn (htab.le hO1.ext.le) hst (by omega))
    have Hf := Lib.hid (And.intro hf (And.intro hlang hClen))
    have HO1 := Lib.hid hO1
    clear hf hlang hClen hst hO1 hb1 h0 h1 h2 h3 h4 h5 hCC
    go_wp2_with fail
    refine HN.out.mono ?_
    rintro e w2 ⟨r2, C2, rfl, hb2, hst, hlang2, hClen2⟩
    have hO1 := HO1.out.call hb2
    have hf := Hf.out.1
    have hlang := hlang2.congr fun x => by rw [Hf.out.2.1.sem x]
    have hClen : C2.length ≤ 3 * (s.size + 5) + 1 := by have := Hf.out.2.2; omega
    clear hlang2 hClen2 HN Hf HO1 hb2
    generalize C2 = C at *
    obtain ⟨ra, rc, rfl⟩ : ∃ ra rc, r2 = .slice ra C.length rc := by obtain ⟨x, y, e, -⟩ := hst; exact ⟨x, y, e⟩
    have g1 := hO1.obj.cell (i := 0) rfl
    have g2 := hO1.obj.frozen 0
    have g3 := hO1.obj.lt
    have hO2 := hO1.set 0 (.slice ra C.length rc)
    have g4 := hO2.obj.cell (i := 0) rfl
    have Hk := Lib.hid (And.intro hO2.below (And.intro (statesAt_le hO2.done hst) (And.intro hlang (And.intro hClen hf))))
    clear hO2 hO1 hst hlang hClen hf
    go_wp2
    refine bodyPost_ret (v := .tuple #[.agg #[.slice ra C.length rc], .int .i64 0]) (by simp [results, Tryd.results33, go_sem, g4]) rfl ?_
    refine hR.out _ _ ⟨_, C, by rw [Hk.out.2.2.2.2]; rfl, Hk.out.1, Hk.out.2.1, fun f h => ?_, fun h => ?_, ?_⟩
    · rw [Hk.out.2.2.2.2] at h; cases h; exact Hk.out.2.2.1
    · rw [Hk.out.2.2.2.2] at h; cases h
    · have := Hk.out.2.2.2.1; omega
  · -- way 6
    have h0 : (op.toList == [60]) = false := by assumption
    have h1 : (op.toList == [60, 61]) = false := by assumption
    have h2 : (op.toList == [62]) = false := by assumption
    have h3 : (op.toList == [62, 61]) = false := by assumption
    have h4 : (op.toList == [61, 61]) = false := by assumption
    have h5 : (op.toList == [33, 61]) = false := by assumption
    have hf : boundF op.toList s.data.toList = none := by simp [boundF, beq_eq_false_iff_ne.1 h0, beq_eq_false_iff_ne.1 h1, beq_eq_false_iff_ne.1 h2, beq_eq_false_iff_ne.1 h3, beq_eq_false_iff_ne.1 h4, beq_eq_false_iff_ne.1 h5]
    have Hf := Lib.hid hf
    clear h0 h1 h2 h3 h4 h5 hf
    go_wp2
    refine bodyPost_ret (v := .tuple #[.agg #[.slice none 0 0], .int .i64 8]) (by simp [results, Tryd.results33, go_sem]) rfl ?_
    refine hR.out _ _ ⟨_, [], by rw [Hf.out]; rfl, HO.out.below, statesAt_nil _, fun f h => ?_, fun _ => rfl, by simp⟩
    rw [Hf.out] at h; cases h
end Cl
namespace Cl
open Go Go.RowKit Go.Proofs

theorem bl_irrefl : ∀ x : List UInt8, Op.bytesLess x x = false
  | [] => rfl
  | a :: x => by simp [Op.bytesLess, bl_irrefl x]
theorem bl_lex : ∀ x y : List UInt8, x.length = y.length → (Op.bytesLess x y = true ↔ lex x y)
  | [], [], _ => by simp [Op.bytesLess, lex]
  | [], _ :: _, h => by simp at h
  | _ :: _, [], h => by simp at h
  | a :: x, b :: y, h => by
    have ih := bl_lex x y (by simpa using h)
    simp [Op.bytesLess, lex, ih]

def cmpS (x y : List UInt8) : Int := if Op.bytesLess x y then -1 else if x = y then 0 else 1

theorem isNaN_str (s : ByteArray) (w : World) : Calls Tryd.prog 81 #[.string s] w fun e w' => e = .returned (.bool false) ∧ w' = w := by
  refine calls_hide fun R hR => ?_
  go_enter Tryd.func81, Tryd.ntmps81
  go_wp2
  exact hR.out _ _ ⟨rfl, rfl⟩
theorem cmpStr_any (s t : ByteArray) (w : World) : Calls Tryd.prog 53 #[.string s, .string t] w fun e w' => e = .returned (.int .i64 (cmpS s.data.toList t.data.toList)) ∧ w' = w := by
  rw [← ByteArray.toList_eq s, ← ByteArray.toList_eq t]
  refine calls_hide fun R hR => ?_
  go_enter Tryd.func53, Tryd.ntmps53
  go_wp2_with ((go_at_call 81); refine (isNaN_str _ _).mono ?_; rintro e w' ⟨rfl, rfl⟩)
  · have h : Op.bytesLess s.toList t.toList = true := by assumption
    exact hR.out _ _ ⟨by simp [cmpS, h], rfl⟩
  · have h : Op.bytesLess s.toList t.toList = false := by assumption
    have h2 : (!s.toList == t.toList) = true := by assumption
    have h2 : ¬ s.toList = t.toList := by simpa using h2
    exact hR.out _ _ ⟨by simp [cmpS, h, h2], rfl⟩
  · have h : Op.bytesLess s.toList t.toList = false := by assumption
    have h2 : (!s.toList == t.toList) = false := by assumption
    have h2 : s.toList = t.toList := by simpa using h2
    exact hR.out _ _ ⟨by rw [h2] at h ⊢; simp [cmpS, h], rfl⟩
end Cl
namespace Cl
open Go Go.RowKit Go.Proofs

/-- the order of two least words that may not be there -/
def cmpO : Option (List UInt8) → Option (List UInt8) → Int
  | none, none => 0
  | some _, none => -1
  | none, some _ => 1
  | some x, some y => if Lib.compareInt x.length y.length = 0 then cmpS x y else Lib.compareInt x.length y.length

theorem cmpO_is {f g : List UInt8 → Bool} {a b : Option (List UInt8)} (h : IsLeast (fun w => f w && !g w) a) (k : IsLeast (fun w => g w && !f w) b) : CmpIs f g (cmpO a b) := by
  have q := cmp_of_least h k
  cases a with
  | none =>
    cases b with
    | none => exact q
    | some y => exact q
  | some x =>
    cases b with
    | none => exact q
    | some y =>
      obtain ⟨hne, h1, h2⟩ := q
      show CmpIs f g (if Lib.compareInt x.length y.length = 0 then cmpS x y else Lib.compareInt x.length y.length)
      have hc : Lib.compareInt x.length y.length = if x.length < y.length then -1 else if x.length > y.length then 1 else 0 := by
        unfold Lib.compareInt
        by_cases p1 : x.length < y.length
        · rw [if_pos (by omega), if_pos p1]
        · rw [if_neg (by omega), if_neg p1]
          by_cases p2 : x.length > y.length
          · rw [if_pos (by omega), if_pos p2]
          · rw [if_neg (by omega), if_neg p2]
      rw [hc]
      by_cases p1 : x.length < y.length
      · rw [if_pos p1, if_neg (by omega)]
        exact h1 (.inl p1)
      · rw [if_neg p1]
        by_cases p2 : x.length > y.length
        · rw [if_pos p2, if_neg (by omega)]
          exact h2 (.inl p2)
        · rw [if_neg p2, if_pos rfl]
          have he : x.length = y.length := by omega
          unfold cmpS
          by_cases p3 : Op.bytesLess x y = true
          · rw [if_pos p3]
            exact h1 (.inr ⟨he, (bl_lex x y he).1 p3⟩)
          · rw [if_neg p3, if_neg hne]
            rcases slt_total x y with t | t | t
            · rcases t with t | ⟨-, t⟩
              · omega
              · exact absurd ((bl_lex x y he).2 t) p3
            · exact absurd t hne
            · exact h2 t

theorem orInt2 (g : Nat) (t : TypeId) (x y : Int) (w : World) (h : ObjAt w g t #[.int .i64 x, .int .i64 y]) :
    Calls Tryd.prog 51 #[.slice (some ⟨g, 0, none⟩) 2 2] w fun e w' => e = .returned (.int .i64 (if x = 0 then y else x)) ∧ w' = w := by
  have c0 := h.cell (i := 0) rfl
  have c1 := h.cell (i := 1) rfl
  have l1 := h.lt
  refine calls_hide fun R hR => ?_
  go_enter Tryd.func51, Tryd.ntmps51
  go_wp2
  refine wp_loop_keep [3, 6, 7, 8] (fun n vs wr => ∃ k : Nat, k ≤ 2 ∧ n = 2 - k ∧ vs = [.int .i64 0, .slice (some ⟨g, 0, none⟩) 2 2, .int .i64 2, .int .i64 k] ∧ wr = w ∧ (1 ≤ k → x = 0) ∧ (2 ≤ k → y = 0)) ?_ ?_
  · exact ⟨_, 0, by omega, rfl, rfl, rfl, by omega, by omega⟩
  rintro X z n vs wr hX - ⟨k, hk, rfl, rfl, rfl, h1, h2⟩
  simp [litL, lk]
  have hk : k = 0 ∨ k = 1 ∨ k = 2 := by omega
  rcases hk with rfl | rfl | rfl
  · clear h1 h2
    by_cases e : x = 0
    · have hd : (x != 0) = false := by simp [e]
      have E := Lib.hid e
      clear e
      go_wp2
      refine hX.out _ _ _ (by omega) rfl ⟨1, by omega, rfl, rfl, rfl, fun _ => E.out, by omega⟩
    · have hd : (x != 0) = true := by simp [e]
      have E := Lib.hid e
      clear e
      go_wp2
      exact hR.out _ _ ⟨by rw [if_neg E.out]; rfl, rfl⟩
  · have H1 := Lib.hid (h1 (by omega))
    clear h1 h2
    by_cases e : y = 0
    · have hd : (y != 0) = false := by simp [e]
      have E := Lib.hid e
      clear e
      go_wp2
      refine hX.out _ _ _ (by omega) rfl ⟨2, by omega, rfl, rfl, rfl, fun _ => H1.out, fun _ => E.out⟩
    · have hd : (y != 0) = true := by simp [e]
      have E := Lib.hid e
      clear e
      go_wp2
      exact hR.out _ _ ⟨by rw [if_pos H1.out]; rfl, rfl⟩
  · have H1 := Lib.hid (And.intro (h1 (by omega)) (h2 (by omega)))
    clear h1 h2
    go_wp2
    exact hR.out _ _ ⟨by rw [if_pos H1.out.1, H1.out.2]; rfl, rfl⟩
end Cl
namespace Cl
open Go Go.RowKit Go.Proofs

theorem goodT_sem (A : Table) (x : List UInt8) : Sem (goodT A) x = Sem A x := by
  rw [sem_canon (goodT_canon A)]
  exact (goodT_is A).2 x
theorem optV_none : optV none = .tuple #[.string ⟨#[]⟩, .bool false] := rfl
theorem optV_some (x : List UInt8) : optV (some x) = .tuple #[.string (bstr x), .bool true] := rfl

set_option maxRecDepth 100000 in
set_option maxHeartbeats 4000000 in
theorem langCompare_any (v0 v1 : Value) (A B : Table) (m : Mem) (w : World) (hm : m.inn w) (htab : TabM m) (hA : statesAt m v0 A) (hB : statesAt m v1 B) (hlen : (A.length + 2) * (B.length + 2) ≤ 300000) :
    Calls Tryd.prog 32 #[.agg #[v0], .agg #[v1]] w fun e w' => ∃ c, e = .returned (.int .i64 c) ∧ Below w.heap.size w w' ∧ CmpIs (Sem A) (Sem B) c := by
  have hF := Fits.of (A := A) (B := B) (Nat.le_refl _) (Nat.le_refl _) (by omega)
  have hO := ((Own.start hm).al #[v0] 24).al #[v1] 24
  have hsz1 : (w.alloc (.cells #[v0] 24)).heap.size = w.heap.size + 1 := by simp
  rw [hsz1] at hO
  have HO := Lib.hid hO
  have HA := Lib.hid (fun w (hw : m.inn w) => good_any v0 A m w hw htab hA hF.a)
  have HB := Lib.hid (fun mk w (hw : mk.inn w) (hle : m.le mk) => good_any v1 B mk w hw (htab.le hle) (statesAt_le hle hB) hF.b)
  clear hO hsz1
  refine calls_hide fun R hR => ?_
  obtain ⟨va, vc, rfl, -⟩ := hA
  obtain ⟨vb, vd, rfl, -⟩ := hB
  go_enter Tryd.func32, Tryd.ntmps32
  go_wp2
  refine wp_cut_keep [2, 3] (fun vs w' => ∃ (r1 r2 : Value) (mk : Mem), vs = [.pointer (some ⟨w.heap.size, 0, none⟩), .pointer (some ⟨w.heap.size + 1, 0, none⟩)] ∧
    Own w m w' mk [.obj (w.heap.size + 1) 24 #[r2], .obj w.heap.size 24 #[r1]] ∧ m.le mk ∧ statesAt mk r1 (goodT A) ∧ statesAt mk r2 (goodT B)) ?_ ?_
  · intro X hX
    refine wp_region_D (fun j w' => (j ≠ 4 → j ≠ 5 → ObjAt w' w.heap.size 24 #[.slice va A.length vc]) ∧ (j ≠ 5 → ObjAt w' (w.heap.size + 1) 24 #[.slice vb B.length vd])) (by kernel_rfl) ?_
    have hO := HO.out.dr
    refine wpAnyD_take 0 (fun w' => ObjAt w' w.heap.size 24 #[.slice va A.length vc]) rfl (by kernel_rfl) (fun _ _ _ h => h) (fun j w' hj hd => hd.1 (by rintro rfl; exact waits_no (by kernel_rfl) hj) (by rintro rfl; exact waits_no (by kernel_rfl) hj)) hO.swap.obj (yields_of rfl fun w' hS' => by have q := hS'.cell (i := 0) rfl; go_simp; rfl) ?_
    refine wpAnyD_take 2 (fun w' => ObjAt w' (w.heap.size + 1) 24 #[.slice vb B.length vd]) rfl (by kernel_rfl) (fun _ _ _ h => h) (fun j w' hj hd => hd.2 (by rintro rfl; exact waits_no (by kernel_rfl) hj)) hO.obj (yields_of rfl fun w' hS' => by have q := hS'.cell (i := 0) rfl; go_simp; rfl) ?_
    refine wpAnyD_only 1 (by kernel_rfl) (wpOp_of rfl rfl (wp_enter (by go_simp) (HA.out _ hO.inn) ?_))
    rintro e w1 ⟨r1, rfl, hb1, hr1⟩
    have hO2 := hO.call hb1
    have hle := Mem.le_grow (w := w1) hO.inn
    refine ⟨_, rfl, .inr ⟨fun _ _ => hO2.swap.obj, fun _ => hO2.obj⟩, ?_⟩
    go_simp
    refine wpAnyD_only 3 (by kernel_rfl) (wpOp_of rfl rfl (wp_enter (by go_simp) (HB.out _ _ hO2.inn hle) ?_))
    rintro e w2 ⟨r2, rfl, hb2, hr2⟩
    have hO3 := hO2.call hb2
    have hle2 := Mem.le_grow (w := w2) hO2.inn
    refine ⟨_, rfl, .inr ⟨fun _ _ => hO3.swap.obj, fun _ => hO3.obj⟩, ?_⟩
    obtain ⟨xa, xc, rfl⟩ : ∃ xa xc, r1 = .slice xa (goodT A).length xc := by obtain ⟨x, y, e, -⟩ := hr1; exact ⟨x, y, e⟩
    obtain ⟨ya, yc, rfl⟩ : ∃ xa xc, r2 = .slice xa (goodT B).length xc := by obtain ⟨x, y, e, -⟩ := hr2; exact ⟨x, y, e⟩
    go_simp
    have f1 := hO3.swap.obj.frozen 0
    have c1 := hO3.swap.obj.cell (i := 0) rfl
    have hO4 := hO3.swap.set 0 (.slice xa (goodT A).length xc)
    have f3 := hO4.swap.obj.frozen 0
    have c3 := hO4.swap.obj.cell (i := 0) rfl
    have hO6 := hO4.swap.set 0 (.slice ya (goodT B).length yc)
    refine wpAnyD_only 4 (by kernel_rfl) (wpOp_of rfl rfl (wp_skipped (by go_simp; first | done | rfl) ⟨.inr ⟨fun h => absurd rfl h, fun _ => hO4.swap.obj⟩, ?_⟩))
    refine wpAnyD_only 5 (by kernel_rfl) (wpOp_of rfl rfl (wp_skipped (by go_simp; first | done | rfl) ⟨.inr ⟨fun _ h => absurd rfl h, fun h => absurd rfl h⟩, ?_⟩))
    refine wpAnyD_done (by kernel_rfl) ?_ _
    exact hX.out _ _ rfl ⟨_, _, _, rfl, hO6, Mem.le_trans hle hle2, statesAt_le hle2 hr1, hr2⟩
  rintro z vs w1 - ⟨r1, r2, mk, rfl, hO, hmk, hr1, hr2⟩
  simp [litL, lk]
  clear HO HA HB
  have hgAl := goodT_len A
  have hgBl := goodT_len B
  have hmul : ((goodT A).length + 2) * ((goodT B).length + 2) ≤ (A.length + 2) * (B.length + 2) := Nat.mul_le_mul (by omega) (by omega)
  have hmul2 : ((goodT B).length + 2) * ((goodT A).length + 2) ≤ 300000 := by rw [Nat.mul_comm]; omega
  have hsA := goodT_sem A
  have hsB := goodT_sem B
  have HF := Lib.hid (And.intro (Fits.of (A := goodT A) (B := goodT B) (Nat.le_refl _) (Nat.le_refl _) (by omega)) (And.intro (Fits.of (A := goodT B) (B := goodT A) (Nat.le_refl _) (Nat.le_refl _) (by omega)) (And.intro hsA (And.intro hsB (And.intro (show ((goodT A).length + 2) * ((goodT B).length + 2) ≤ 300000 by omega) hmul2)))))
  clear hgAl hgBl hmul hmul2 hsA hsB hF hlen
  generalize goodT A = A' at *
  generalize goodT B = B' at *
  have g1 := hO.obj.cell (i := 0) rfl
  have g2 := hO.swap.obj.cell (i := 0) rfl
  have HM := Lib.hid (langMinus_any r1 r2 A' B' mk _ hO.inn (htab.le hmk) hr1 hr2 HF.out.1)
  have HO := Lib.hid (And.intro hO (And.intro hr1 (And.intro hr2 hmk)))
  clear hO hr1 hr2 hmk
  go_wp2_with fail
  refine HM.out.mono ?_
  rintro e w2 ⟨d1, D1, rfl, hb2, hd1, hl1, hlen1⟩
  clear HM g1 g2
  have hO2 := HO.out.1.call hb2
  have hle2 := Mem.le_grow (w := w2) HO.out.1.inn
  have HL := Lib.hid (langLeast_any d1 D1 _ _ hO2.inn (htab.le (Mem.le_trans HO.out.2.2.2 hle2)) hd1 (by have := HF.out.2.2.2.2.1; omega))
  have HO2 := Lib.hid (And.intro hO2 (And.intro (statesAt_le hle2 HO.out.2.1) (And.intro (statesAt_le hle2 HO.out.2.2.1) (Mem.le_trans HO.out.2.2.2 hle2))))
  have Hl1 := Lib.hid hl1
  clear hO2 hle2 hb2 HO hd1 hl1 hlen1
  go_wp2_with fail
  refine HL.out.mono ?_
  rintro e w3 ⟨o1, rfl, hb3, hle1⟩
  have hO3 := HO2.out.1.call hb3
  have hq := Mem.le_grow (w := w3) HO2.out.1.inn
  have hO3 := Lib.hid (And.intro hO3 (And.intro (statesAt_le hq HO2.out.2.1) (And.intro (statesAt_le hq HO2.out.2.2.1) (Mem.le_trans HO2.out.2.2.2 hq))))
  have Hl1' := Lib.hid (show IsLeast (fun x => Sem A x && !Sem B x) o1 by
    have e : Sem D1 = fun x => Sem A x && !Sem B x := by
      funext x
      rw [Hl1.out.sem x, HF.out.2.2.1 x, HF.out.2.2.2.1 x]
    rw [← e]; exact hle1)
  clear hle1 Hl1 HL HO2 hb3 hq D1
  generalize hmm : (mk.grow w1 w2).grow w2 w3 = mk3 at *
  clear hmm
  have g1 := hO3.out.1.obj.cell (i := 0) rfl
  have g2 := hO3.out.1.swap.obj.cell (i := 0) rfl
  have HM := Lib.hid (langMinus_any r2 r1 B' A' mk3 _ hO3.out.1.inn (htab.le hO3.out.2.2.2) hO3.out.2.2.1 hO3.out.2.1 HF.out.2.1)
  obtain ⟨s1, b1, e1⟩ : ∃ s1 b1, optV o1 = .tuple #[.string s1, .bool b1] := ⟨_, _, rfl⟩
  have E1 := Lib.hid e1
  rw [e1]
  clear e1
  go_wp2_with fail
  refine HM.out.mono ?_
  rintro e w4 ⟨d2, D2, rfl, hb4, hd2, hl2, hlen2⟩
  clear HM g1 g2
  have hO4 := hO3.out.1.call hb4
  have hle4 := Mem.le_grow (w := w4) hO3.out.1.inn
  have HL := Lib.hid (langLeast_any d2 D2 _ _ hO4.inn (htab.le (Mem.le_trans hO3.out.2.2.2 hle4)) hd2 (by have := HF.out.2.2.2.2.2; omega))
  have HO4 := Lib.hid hO4
  have Hl2 := Lib.hid hl2
  clear hO4 hle4 hb4 hO3 hd2 hl2 hlen2
  go_wp2_with fail
  refine HL.out.mono ?_
  rintro e w5 ⟨o2, rfl, hb5, hle2⟩
  have hO5 := HO4.out.call hb5
  have Hl2' := Lib.hid (show IsLeast (fun x => Sem B x && !Sem A x) o2 by
    have e : Sem D2 = fun x => Sem B x && !Sem A x := by
      funext x
      rw [Hl2.out.sem x, HF.out.2.2.2.1 x, HF.out.2.2.1 x]
    rw [← e]; exact hle2)
  have HC := Lib.hid (cmpO_is Hl1'.out Hl2'.out)
  have HO5 := Lib.hid hO5
  clear hle2 Hl2 HL HO4 hb5 hO5 D2 HF Hl1' Hl2' htab
  have E1 := E1.out
  cases o1 with
  | none =>
    rw [optV_none] at E1
    cases E1
    cases o2 with
    | none =>
      rw [optV_none]
      go_wp2
      exact hR.out _ _ ⟨_, rfl, HO5.out.below, HC.out⟩
    | some y =>
      rw [optV_some]
      go_wp2
      exact hR.out _ _ ⟨_, rfl, HO5.out.below, HC.out⟩
  | some x =>
    rw [optV_some] at E1
    cases E1
    cases o2 with
    | none =>
      rw [optV_none]
      go_wp2
      exact hR.out _ _ ⟨_, rfl, HO5.out.below, HC.out⟩
    | some y =>
      rw [optV_some]
      go_wp2_with first | ((go_at_call 52); refine (Tryd.cmp_Compare_int _ _ _).mono ?_; rintro e w' ⟨rfl, rfl⟩) | ((go_at_call 53); refine (cmpStr_any _ _ _).mono ?_; rintro e w' ⟨rfl, rfl⟩)
      have hO6 := HO5.out.al #[.int .i64 (Lib.compareInt (bstr x).size (bstr y).size), .int .i64 (cmpS (bstr x).data.toList (bstr y).data.toList)] 3
      refine (orInt2 _ _ _ _ _ hO6.obj).mono ?_
      rintro e w7 ⟨rfl, rfl⟩
      have H6 := Lib.hid hO6.below
      have HC2 : Hid (CmpIs (Sem A) (Sem B) (if Lib.compareInt (bstr x).size (bstr y).size = 0 then cmpS (bstr x).data.toList (bstr y).data.toList else Lib.compareInt (bstr x).size (bstr y).size)) := HC
      clear hO6 HC
      generalize (if Lib.compareInt (bstr x).size (bstr y).size = 0 then cmpS (bstr x).data.toList (bstr y).data.toList else Lib.compareInt (bstr x).size (bstr y).size) = c at *
      generalize w'.alloc (.cells #[.int .i64 (Lib.compareInt (bstr x).size (bstr y).size), .int .i64 (cmpS (bstr x).data.toList (bstr y).data.toList)] 3) = w8 at *
      go_wp2
      exact hR.out _ _ ⟨_, rfl, H6.out, HC2.out⟩
end Cl

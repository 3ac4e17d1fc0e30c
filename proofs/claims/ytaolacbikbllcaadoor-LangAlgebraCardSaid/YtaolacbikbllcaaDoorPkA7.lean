/- Lemmas for the proofs: WalkV, WalkW, WalkY, WalkF, WalkH. -/
import Derived.Test.YtaolacbikbllcaaDoorPkA2
import Derived.Test.YtaolacbikbllcaaDoorPkA1
import Derived.Test.YtaolacbikbllcaaDoorPkA5
import Derived.Test.YtaolacbikbllcaaDoorPkA3
import Derived.Test.YtaolacbikbllcaaDoorPkA4
import Derived.Test.YtaolacbikbllcaaDoorPkA6
namespace Cl
open Go Go.RowKit Go.Proofs

/-- the first i + 1 numbers of a signature -/
def sigP (cls : List Int) (ta : Nat → Nat → Int) (s i : Nat) : List Int := cls.getD s 0 :: (List.range i).map fun i => clsOf cls (ta s i)
theorem sigP_succ (cls : List Int) (ta : Nat → Nat → Int) (s i : Nat) : sigP cls ta s (i + 1) = sigP cls ta s i ++ [clsOf cls (ta s i)] := by
  unfold sigP
  rw [List.range_succ, List.map_append]; rfl
theorem sigP_len (cls : List Int) (ta : Nat → Nat → Int) (s i : Nat) : (sigP cls ta s i).length = i + 1 := by simp [sigP]
theorem firstIdx_find (l : List (List Int)) (x : List Int) : firstIdx (fun y => y = x) l 0 = if l.findIdx (· == x) < l.length then ((l.findIdx (· == x) : Nat) : Int) else -1 := by
  rcases firstIdx_spec (fun y => y = x) l 0 with ⟨h1, h2⟩ | ⟨i, h1, h2, h3, h4⟩
  · rw [h1, if_neg]
    intro h
    obtain ⟨y, hy, hp⟩ := List.findIdx_lt_length.1 h
    exact h2 y hy (by simpa using hp)
  · have : l.findIdx (· == x) = i := by
      rw [List.findIdx_eq h1]
      exact ⟨by simpa using h3, fun j hj => by simpa using h4 j (by omega) hj⟩
    rw [h2, this, if_pos h1]
    simp
theorem clsOf_range {cls : List Int} {n : Nat} (_ : cls.length = n) (hr : ∀ s, s < n → 0 ≤ cls.getD s 0 ∧ cls.getD s 0 ≤ n) {x : Int} (hx : -1 ≤ x ∧ x < n) : -1 ≤ clsOf cls x ∧ clsOf cls x ≤ n := by
  unfold clsOf
  split
  · omega
  · have := hr x.toNat (by omega); omega

set_option maxRecDepth 100000 in
set_option maxHeartbeats 8000000 in
theorem classes_any (v0 v1 : Value) (l : Table) (cuts : List Int) (lo hi : Nat → Nat) (m : Mem) (w : World) (hm : m.inn w) (hl : statesAt m v0 l) (hc : intsAt m v1 cuts) (hwf : WF l) (hlen : l.length ≤ 1000000) (hpos : 1 ≤ l.length)
    (H : TaHyp l l.length lo hi cuts.length (fun s i => tstep l s (lo i))) (hlo : ∀ i, (h : i < cuts.length) → cuts[i] = lo i) (hclen : cuts.length ≤ 256) :
    Calls Tryd.prog 78 #[v0, v1] w fun e w' => ∃ r cls, e = .returned r ∧ Below w.heap.size w w' ∧ intsAt (m.grow w w') r cls ∧ ClsOk l l.length cls := by
  have hl0 := hl
  obtain ⟨a, c, rfl, h1, h2, h3⟩ := hl
  obtain ⟨ca, cc, rfl, c1, c2, c3⟩ := hc
  unfold maxLen at h2 c2
  obtain ⟨b, off, rfl, h4⟩ := h3 (by intro h; simp [h] at hpos)
  clear h3
  refine calls_hide fun R hR => ?_
  go_enter Tryd.func78, Tryd.ntmps78
  go_wp2_with (refine wpList_make_row mkInts rfl (.tmp 18) (.tmp 18) rfl l.length rfl rfl (by omega) (by unfold maxLen; omega) ?_)
  intro w1 hown1 hgrow1
  have hO := ((Own.start hm).make hown1 hgrow1)
  rw [fillRow_zero] at hO
  clear hown1 hgrow1
  generalize w.heap.size = B at hO ⊢
  go_wp2
  refine wp_loop_keep [0, 1, 5, 20, 21, 22] (fun n vs wr => ∃ k : Nat, k ≤ l.length ∧ n = l.length - k ∧ vs = [.slice (some ⟨b, off, none⟩) l.length c, .slice ca cuts.length cc, .slice (some ⟨B, 0, none⟩) l.length l.length, .slice (some ⟨b, off, none⟩) l.length c, .int .i64 l.length, .int .i64 k] ∧
    Own w m wr m [.row (.slice (some ⟨B, 0, none⟩) l.length l.length) 3 1 l.length (fillRow (((l.take k).map (·.accept)).map b2i) (l.length - k))]) ?_ ?_
  · exact ⟨_, 0, Nat.zero_le _, rfl, rfl, by simpa using hO⟩
  clear hO
  rintro X z n vs wr hX - ⟨k, hk, rfl, rfl, hO⟩
  simp [litL, lk]
  by_cases hlt : k < l.length
  · obtain ⟨g1, ve, g2, ea, ec, rfl, g4, g5, g6⟩ := h4 k hlt
    have g1w := Mem.cell_w hO.inn g1
    have g2w := Mem.cell_w hO.inn g2
    have hgl := Mem.cell_lt hO.inn g1
    have hst := fillRow_b2i (acc := l.map (·.accept)) (k := k) (N := l.length) (by simpa using hlt) (by simp)
    rw [← List.map_take, ← List.map_take, List.getElem_map] at hst
    have r1 := row_cellw (j := k) (u := .int .i64 0) hO.row (fillRow_get (by simp; omega) (by omega))
    have r2 := row_frozen hO.row k
    have r3 := (World.ownsRow.lt hO.row _ rfl).2
    have hO2 := hO.setRow k (.int .i64 1)
    have HS := Lib.hid (And.intro hst (And.intro hO hO2))
    clear hst hO hO2
    cases hb : (l[k]).accept with
    | true =>
      rw [hb] at g1w HS
      go_wp2
      refine hX.out _ _ _ (by omega) rfl ⟨k + 1, by omega, rfl, rfl, ?_⟩
      rw [HS.out.1]
      exact HS.out.2.2.al' _
    | false =>
      rw [hb] at g1w HS
      go_wp2
      refine hX.out _ _ _ (by omega) rfl ⟨k + 1, by omega, rfl, rfl, ?_⟩
      rw [HS.out.1, show Value.int .i64 (b2i false) = .int .i64 0 from rfl]
      have : ∀ {xs : List Value}, xs[k]? = some (.int .i64 0) → xs.set k (.int .i64 0) = xs := fun {xs} h => by
        obtain ⟨h1, h2⟩ := List.getElem?_eq_some_iff.1 h
        rw [← h2, List.set_getElem_self]
      rw [this (fillRow_get (by simp; omega) (by omega))]
      exact HS.out.2.1.al' _
  · obtain rfl : k = l.length := by omega
    rw [List.take_length, Nat.sub_self, fillRow_all] at hO
    have hstart : RefInv l l.length ((l.map (·.accept)).map b2i) 0 := ref_start hpos (by simp) fun s hs => by
      rw [accAt_nat l s hs]
      simp [hs, b2i]
    have hin := intsAt_of_row (l := (l.map (·.accept)).map b2i) (m := m) (by simpa using hO.row) (fun x hx => by
      obtain ⟨b, -, rfl⟩ := List.mem_map.1 hx
      unfold b2i; split <;> omega)
    have hO4 := hO.sealRow
    have hle := Mem.le_addv (w := wr) hO.free
    generalize m.addv wr (.slice (some ⟨B, 0, none⟩) l.length l.length) = mk1 at *
    generalize Value.slice (some ⟨B, 0, none⟩) l.length l.length = vk at *
    generalize (l.map (·.accept)).map b2i = cls0 at *
    have Hk := Lib.hid (And.intro hstart (And.intro hin (And.intro hO4 hle)))
    clear hstart hin hO4 hle hO
    go_wp2
    refine wp_loop_keep [0, 1, 5, 8, 34, 35] (fun n vs wr => ∃ (r many : Nat) (cls : List Int) (vk : Value) (mk' : Mem), n = l.length - r ∧ r ≤ l.length ∧ r ≤ many ∧ many ≤ l.length ∧
      vs = [.slice (some ⟨b, off, none⟩) l.length c, .slice ca cuts.length cc, vk, .int .i64 many, .int .i64 l.length, .int .i64 r] ∧
      RefInv l l.length cls many ∧ intsAt mk' vk cls ∧ Own w m wr mk' [] ∧ m.le mk') ?_ ?_
    · exact ⟨_, 0, 0, cls0, vk, mk1, rfl, Nat.zero_le _, Nat.zero_le _, Nat.zero_le _, rfl, Hk.out.1, Hk.out.2.1, Hk.out.2.2.1, Hk.out.2.2.2⟩
    clear Hk
    rintro Y z n vs wr2 hY - ⟨r, many, cls, vk, mk1, rfl, hr, hrm, hmany, rfl, hri, hin, hO, hle⟩
    simp [litL, lk]
    have hclen2 := hri.len
    have hrng := hri.rng
    have hin0 := hin
    obtain ⟨ka, kc, rfl, k1, k2, k3⟩ := hin
    have hkpos : 0 < cls.length := by omega
    obtain ⟨kb, ko, rfl, k4⟩ := k3 (by intro h; simp [h] at hkpos)
    unfold maxLen at k2
    have HRI := Lib.hid (And.intro hri (And.intro hclen2 hrng))
    have hcl1 : l.length ≤ cls.length := by omega
    have hcl2 : cls.length ≤ l.length := by omega
    clear hri hclen2 hrng
    by_cases hlt2 : r < l.length
    · go_wp2_with (refine wpList_make_row mkInts rfl (.tmp 38) (.tmp 38) rfl l.length rfl rfl (by omega) (by unfold maxLen; omega) ?_)
      intro w3 hown3 hgrow3
      have hO2 := (hO.make hown3 hgrow3).nilRow 83 1
      rw [fillRow_zero] at hO2
      have HO2 := Lib.hid hO2
      clear hO2 hO hown3 hgrow3
      generalize wr2.heap.size = M at *
      go_wp2
      refine wp_loop_keep [0, 1, 5, 8, 34, 35, 9, 10, 41, 42] (fun n vs w4 => ∃ (s : Nat) (vs' : Value) (xs : List Value) (mk : Mem), s ≤ l.length ∧ n = l.length - s ∧
        vs = [.slice (some ⟨b, off, none⟩) l.length c, .slice ca cuts.length cc, .slice (some ⟨kb, ko, none⟩) cls.length kc, .int .i64 many, .int .i64 l.length, .int .i64 r, vs', .slice (some ⟨M, 0, none⟩) l.length l.length, .int .i64 l.length, .int .i64 s] ∧
        Own w m w4 mk [.row vs' 83 1 (numTo (sig cls (fun s i => tstep l s (lo i)) cuts.length) s).1.length xs, .row (.slice (some ⟨M, 0, none⟩) l.length l.length) 3 1 l.length (fillRow (numTo (sig cls (fun s i => tstep l s (lo i)) cuts.length) s).2 (l.length - s))] ∧
        IssRow mk xs (numTo (sig cls (fun s i => tstep l s (lo i)) cuts.length) s).1 ∧ mk1.le mk) ?_ ?_
      · exact ⟨_, 0, .slice none 0 0, [], _, Nat.zero_le _, rfl, rfl, HO2.out, IssRow.nil _, Mem.le_refl _⟩
      clear HO2
      rintro Z z3 n vs w4 hZ - ⟨s, vs', xs, mk, hs, rfl, rfl, hO, hrow, hmk⟩
      simp [litL, lk]
      have hnum := num_inv (sig cls (fun s i => tstep l s (lo i)) cuts.length) s
      have hsn := numTo_succ (sig cls (fun s i => tstep l s (lo i)) cuts.length) s
      obtain ⟨vsa, vsc, rfl⟩ := row_slice hO.row
      by_cases hlt3 : s < l.length
      · have hO' := hO
        have d1 := k4 s (by omega)
        have hcs : cls.getD s 0 = cls[s]'(by omega) := by simp [show s < cls.length by omega]
        have d1w := Mem.cell_w hO.inn (Mem.cell_le hmk d1.1)
        have d1l := Mem.cell_lt hO.inn (Mem.cell_le hmk d1.1)
        have hcsr := (HRI.out.2.2 s hlt3)
        rw [← hcs] at d1w
        have hO2 := (hO.al #[.int .i64 (cls.getD s 0)] 3).asRow
        have HO2 := Lib.hid hO2
        clear hO2 hO hO' hcs
        generalize hN : w4.heap.size = N at *
        go_wp2
        refine wp_loop_keep [0, 1, 5, 8, 34, 35, 9, 10, 41, 42, 11, 12, 50, 51, 52] (fun n vs w5 => ∃ (i : Nat) (vr : Value), i ≤ cuts.length ∧ n = cuts.length - i ∧
          vs = [.slice (some ⟨b, off, none⟩) l.length c, .slice ca cuts.length cc, .slice (some ⟨kb, ko, none⟩) cls.length kc, .int .i64 many, .int .i64 l.length, .int .i64 r, .slice vsa (numTo (sig cls (fun s i => tstep l s (lo i)) cuts.length) s).1.length vsc, .slice (some ⟨M, 0, none⟩) l.length l.length, .int .i64 l.length, .int .i64 s, .int .i64 s, vr, .slice ca cuts.length cc, .int .i64 cuts.length, .int .i64 i] ∧
          Own w m w5 mk [.row vr 3 1 (i + 1) ((sigP cls (fun s i => tstep l s (lo i)) s i).map (Value.int .i64)), .row (.slice vsa (numTo (sig cls (fun s i => tstep l s (lo i)) cuts.length) s).1.length vsc) 83 1 (numTo (sig cls (fun s i => tstep l s (lo i)) cuts.length) s).1.length xs, .row (.slice (some ⟨M, 0, none⟩) l.length l.length) 3 1 l.length (fillRow (numTo (sig cls (fun s i => tstep l s (lo i)) cuts.length) s).2 (l.length - s))]) ?_ ?_
        · exact ⟨_, 0, .slice (some ⟨N, 0, none⟩) 1 1, Nat.zero_le _, rfl, rfl, HO2.out⟩
        clear HO2 d1w
        rintro V z4 n vs w5 hV - ⟨i, vr, hi1, rfl, rfl, hO⟩
        simp [litL, lk]
        obtain ⟨vra, vrc, rfl⟩ := row_slice hO.row
        by_cases hlt4 : i < cuts.length
        · obtain ⟨cb, co, rfl, c4⟩ := c3 (by intro h; simp [h] at hlt4)
          have q1 := c4 i hlt4
          rw [hlo i hlt4] at q1
          have hmr := Mem.inn_le hO.ext.le hO.inn
          have q1w := Mem.cell_w hmr q1.1
          have hle5 := H.iv.le i hlt4
          have hcall := Step_any (.slice (some ⟨b, off, none⟩) l.length c) l s (lo i) m _ hmr hl0 (by omega) (by omega)
          have hsg := sigP_succ cls (fun s i => tstep l s (lo i)) s i
          have hwu : IntKind.u8.wrap (lo i : Int) = (lo i : Int) := IntWalk.u8_in _ (by omega)
          rcases tstep_range hwf s (lo i) with ht | ⟨ht1, ht2⟩
          · have hcl3 : clsOf cls (tstep l s (lo i)) = -1 := by rw [ht]; rfl
            rw [ht] at hcall
            rw [hcl3] at hsg
            have HS := Lib.hid (And.intro hcall hsg)
            clear hcall hsg ht hcl3
            go_wp2_with fail
            refine HS.out.1.mono ?_
            rintro e w6 ⟨rfl, hb6⟩
            have hO3 := (hO.move hb6).al #[.int .i64 (-1)] 3
            have hnews := hO3.obj.news rfl
            have hb6s := hb6.size
            clear hO hb6
            go_wp2_with (at_builtin; refine wpList_append_row tyInts rfl (.tmp 67) (.tmp 69) rfl (.slice vra (i + 1) vrc) (i + 1) _ rfl hO3.swap.row ⟨w6.heap.size, 0, none⟩ 1 1 [.int .i64 (-1)] rfl rfl hnews (by simp [Value.oneCell']) (by unfold maxLen; omega) (by omega) ?_)
            intro va vc w7 hown7 hgrow7 hrow7
            have hO4 := (hO3.swap.app hown7 hgrow7 hrow7 (by simp)).drop2
            have HO4 := Lib.hid hO4
            clear hown7 hgrow7 hrow7 hO3 hnews hO4
            go_wp2
            refine hV.out _ _ _ (by omega) rfl ⟨i + 1, .slice va (i + 1 + 1) vc, by omega, rfl, rfl, ?_⟩
            rw [HS.out.2, List.map_append]
            exact HO4.out
          · obtain ⟨tn, htn⟩ := Int.eq_ofNat_of_zero_le ht1
            rw [htn] at hcall ht2
            have htl : tn < cls.length := by omega
            have hcl3 : clsOf cls (tstep l s (lo i)) = cls[tn] := by
              rw [htn]; unfold clsOf; rw [if_neg (by omega)]; simp [htl]
            rw [hcl3] at hsg
            have k5 := k4 tn htl
            generalize cls[tn] = y at *
            have HS := Lib.hid (And.intro hcall hsg)
            clear hcall hsg ht1 hcl3 htn
            go_wp2_with fail
            refine HS.out.1.mono ?_
            rintro e w6 ⟨rfl, hb6⟩
            have hOm := hO.move hb6
            have k5w := Mem.cell_w hOm.inn (Mem.cell_le hmk k5.1)
            have k5l := Mem.cell_lt hOm.inn (Mem.cell_le hmk k5.1)
            have hO3 := hOm.al #[.int .i64 y] 3
            have hnews := hO3.obj.news rfl
            have hb6s := hb6.size
            clear hO hb6 hOm
            go_wp2_with (at_builtin; refine wpList_append_row tyInts rfl (.tmp 67) (.tmp 69) rfl (.slice vra (i + 1) vrc) (i + 1) _ rfl hO3.swap.row ⟨w6.heap.size, 0, none⟩ 1 1 [.int .i64 y] rfl rfl hnews (by simp [Value.oneCell']) (by unfold maxLen; omega) (by omega) ?_)
            intro va vc w7 hown7 hgrow7 hrow7
            have hO4 := (hO3.swap.app hown7 hgrow7 hrow7 (by simp)).drop2
            have HO4 := Lib.hid hO4
            clear hown7 hgrow7 hrow7 hO3 hnews hO4
            go_wp2
            refine hV.out _ _ _ (by omega) rfl ⟨i + 1, .slice va (i + 1 + 1) vc, by omega, rfl, rfl, ?_⟩
            rw [HS.out.2, List.map_append]
            exact HO4.out
        · obtain rfl : i = cuts.length := by omega
          have esg : sigP cls (fun s i => tstep l s (lo i)) s cuts.length = sig cls (fun s i => tstep l s (lo i)) cuts.length s := rfl
          rw [esg] at hO
          have hsl : (sig cls (fun s i => tstep l s (lo i)) cuts.length s).length = cuts.length + 1 := by simp [sig]
          have hsr : ∀ x ∈ sig cls (fun s i => tstep l s (lo i)) cuts.length s, -9223372036854775808 ≤ x ∧ x ≤ 9223372036854775807 := by
            intro x hx
            unfold sig at hx
            rcases List.mem_cons.1 hx with rfl | hx
            · omega
            · obtain ⟨j, hj, rfl⟩ := List.mem_map.1 hx
              have := clsOf_range HRI.out.2.1 HRI.out.2.2 (H.rng s j hlt3 (List.mem_range.1 hj))
              simp only at this ⊢
              omega
          have hs1 := hO.swap.sealRow
          have hiss := intssAt_of_row hO.swap.row hrow hO.swap.free
          have hs2 := hs1.sealRow
          have hint := intsAt_of_row (m := mk.addv w5 (.slice vsa (numTo (sig cls (fun s i => tstep l s (lo i)) cuts.length) s).1.length vsc)) (l := sig cls (fun s i => tstep l s (lo i)) cuts.length s) (by rw [hsl]; exact hO.row) hsr
          have hfind := find_any _ _ _ _ _ w5 hs2.inn (intssAt_le (Mem.le_addv hs1.free) hiss) hint
          rw [firstIdx_find] at hfind
          have hint2 := intsAt_of_row (m := mk) (l := sig cls (fun s i => tstep l s (lo i)) cuts.length s) (by rw [hsl]; exact hO.row) hsr
          have hle6 := hnum.le
          have hl6 := hnum.len
          have hfl : (numTo (sig cls (fun s i => tstep l s (lo i)) cuts.length) s).1.findIdx (· == sig cls (fun s i => tstep l s (lo i)) cuts.length s) ≤ (numTo (sig cls (fun s i => tstep l s (lo i)) cuts.length) s).1.length := List.findIdx_le_length
          clear hs1 hiss hs2 hint esg hnum
          generalize sig cls (fun s i => tstep l s (lo i)) cuts.length s = x at *
          generalize numTo (sig cls (fun s i => tstep l s (lo i)) cuts.length) s = rr at *
          obtain ⟨sn, nxl⟩ := rr
          simp only at *
          by_cases hf : sn.findIdx (· == x) < sn.length
          · rw [if_pos hf] at hfind
            rw [if_pos hf] at hsn
            generalize sn.findIdx (· == x) = idx at *
            have HF := Lib.hid (And.intro hfind (And.intro hsn hl6))
            clear hfind hsn hl6 hsl
            go_wp2_with fail
            refine HF.out.1.mono ?_
            rintro e w6 ⟨rfl, hb6⟩
            have hO4 := (hO.move hb6).tail.swap
            have r1 := row_cellw (j := s) (u := .int .i64 0) hO4.row (fillRow_get HF.out.2.2 (by omega))
            have r2 := row_frozen hO4.row s
            have r3 := (World.ownsRow.lt hO4.row _ rfl).2
            have hO5 := hO4.setRow s (.int .i64 idx)
            rw [fillRow_set HF.out.2.2 (by omega)] at hO5
            have HO5 := Lib.hid hO5.swap
            clear hO5 hO4 hO hb6
            go_wp2
            refine hZ.out _ _ _ (by omega) rfl ⟨s + 1, .slice vsa sn.length vsc, xs, mk, by omega, rfl, ?_, ?_, ?_, hmk⟩
            · rw [List.map]; rfl
            · rw [HF.out.2.1]; exact HO5.out
            · rw [HF.out.2.1]; exact hrow
          · rw [if_neg hf] at hfind
            rw [if_neg hf] at hsn
            have hidx : sn.findIdx (· == x) = sn.length := by omega
            rw [hidx] at hsn
            have hmk2 := Mem.le_addv (w := w5) hO.free
            have hrow2 := (hrow.mono hmk2).push hint2
            have hOs := hO.sealRow
            have HF := Lib.hid (And.intro hfind (And.intro hsn (And.intro hl6 (And.intro hrow2 (Mem.le_trans hmk hmk2)))))
            clear hfind hsn hl6 hsl hidx hf hfl hrow2 hmk2 hint2 hO
            generalize mk.addv w5 (.slice vra (cuts.length + 1) vrc) = mk2 at *
            go_wp2_with fail
            refine HF.out.1.mono ?_
            rintro e w6 ⟨rfl, hb6⟩
            have hO4 := (hOs.move hb6).al #[.slice vra (cuts.length + 1) vrc] 83
            have hnews := hO4.obj.news rfl
            clear hOs hb6
            go_wp2_with (at_builtin; refine wpList_append_row tyIntss rfl (.tmp 79) (.tmp 81) rfl (.slice vsa sn.length vsc) sn.length xs rfl hO4.swap.row ⟨w6.heap.size, 0, none⟩ 1 1 [.slice vra (cuts.length + 1) vrc] rfl rfl hnews (by simp [Value.oneCell']) (by unfold maxLen; omega) (by omega) ?_)
            intro va vc w7 hown7 hgrow7 hrow7
            have hO5 := (hO4.swap.app hown7 hgrow7 hrow7 (by simp)).drop2.swap
            clear hown7 hgrow7 hrow7 hO4 hnews
            have r1 := row_cellw (j := s) (u := .int .i64 0) hO5.row (fillRow_get HF.out.2.2.1 (by omega))
            have r2 := row_frozen hO5.row s
            have r3 := (World.ownsRow.lt hO5.row _ rfl).2
            have hO6 := hO5.setRow s (.int .i64 sn.length)
            rw [fillRow_set HF.out.2.2.1 (by omega)] at hO6
            have HO6 := Lib.hid hO6.swap
            clear hO6 hO5
            go_wp2
            refine hZ.out _ _ _ (by omega) rfl ⟨s + 1, .slice va (sn.length + 1) vc, xs ++ [.slice vra (cuts.length + 1) vrc], mk2, by omega, rfl, ?_, ?_, ?_, HF.out.2.2.2.2⟩
            · rfl
            · rw [HF.out.2.1]
              show Own w m _ mk2 [.row _ _ _ (sn ++ [x]).length _, .row _ _ _ _ _]
              rw [show (sn ++ [x]).length = sn.length + 1 by simp]
              exact HO6.out
            · rw [HF.out.2.1]; exact HF.out.2.2.2.1
      · obtain rfl : s = l.length := by omega
        rw [Nat.sub_self, fillRow_all] at hO
        have hrd := ref_round H hpos HRI.out.1
        generalize numTo (sig cls (fun s i => tstep l s (lo i)) cuts.length) l.length = rr at *
        obtain ⟨sn, nxl⟩ := rr
        simp only at hO hrd hnum hrow
        have hin2 := intsAt_of_row (l := nxl) (m := mk) (by rw [hnum.len]; exact hO.swap.row) (fun y hy => by
          obtain ⟨i, hi, rfl⟩ := List.mem_iff_getElem.1 hy
          have := hnum.rng (s := i) (by rw [← hnum.len]; exact hi)
          simp only [List.getD_eq_getElem?_getD, hi, List.getElem?_eq_getElem, Option.getD_some] at this
          have := hnum.le
          simp only at this
          omega)
        have hle2 := Mem.le_addv (w := w4) hO.swap.free
        have hO5 := hO.swap.sealRow.tail
        have hnl := hnum.len
        generalize mk.addv w4 (.slice (some ⟨M, 0, none⟩) l.length l.length) = mk2 at *
        have Hk := Lib.hid (And.intro hin2 (And.intro (Mem.le_trans (Mem.le_trans hle hmk) hle2) (And.intro hO5 (And.intro hrd hnl))))
        have hs1 := hrd.2.1
        have hs2 := hrd.2.2.1
        clear hin2 hle2 hO5 hO hrd hnum hsn hnl
        by_cases hstop : sn.length = many
        · have hdec : ((sn.length : Int) == (many : Int)) = true := by simp [hstop]
          have HT := Lib.hid hstop
          clear hstop
          go_wp2
          refine hR.out _ _ ⟨_, nxl, rfl, Hk.out.2.2.1.below, ?_, Hk.out.2.2.2.1.2.2.2.2 HT.out⟩
          have := intsAt_le Hk.out.2.2.1.done Hk.out.1
          exact this
        · have hdec : ((sn.length : Int) == (many : Int)) = false := by simp; omega
          go_wp2
          exact hY.out _ _ _ (by omega) rfl ⟨r + 1, sn.length, nxl, .slice (some ⟨M, 0, none⟩) l.length l.length, mk2, rfl, by omega, by omega, hs2, rfl, Hk.out.2.2.2.1.1, Hk.out.1, Hk.out.2.2.1, Hk.out.2.1⟩
    · obtain rfl : r = l.length := by omega
      have hfull := ref_full HRI.out.1 hrm hpos
      have Hk := Lib.hid (And.intro hfull (And.intro hO.below (intsAt_le hO.done hin0)))
      clear hfull hin0 hO
      go_wp2
      exact hR.out _ _ ⟨_, cls, rfl, Hk.out.2.1, Hk.out.2.2, Hk.out.1⟩
end Cl
namespace Cl
open Go Go.RowKit Go.Proofs

/-- the numbering of a trimmed table: the loop of the reference's Minimal -/
theorem numHyp_cuts (T : Table) : ∀ i, (h : i < (cutsTo T 256).length) → (cutsTo T 256)[i] = (loOf (cutList (pOf T)) i : Nat) := (cutHyp_of T).lo
structure NumHyp (T : Table) (cuts : List Int) (cls : List Int) (lo hi : Nat → Nat) : Prop where
  wf : WF T
  by_ : Bytes T
  ta : TaHyp T T.length lo hi cuts.length (fun s i => tstep T s (lo i))
  bfs : BfsHyp T T.length (fun s => cls.getD s 0) (dlT T lo) lo hi (fun s => accAt T s) cuts.length
  cut : CutHyp cuts lo hi
  cls : ClsOk T T.length cls
  len : T.length ≤ 1000000
  pos : 1 ≤ T.length
  clen : cuts.length ≤ 256

theorem numHyp_of {R : Table} (hw : WF R) (hb : Bytes R) {lv : Nat → Bool} (hlv : ∀ s : Nat, s < R.length → (lv s = true ↔ Lv R s)) (hlen : R.length ≤ 1000000) (hpos : 1 ≤ R.length) (h0 : Lv R 0) {cls : List Int}
    (hc : ClsOk (trimT R lv) (trimT R lv).length cls) : NumHyp (trimT R lv) (cutsTo (trimT R lv) 256) cls (loOf (cutList (pOf (trimT R lv)))) (hiOf (cutList (pOf (trimT R lv)))) := by
  have hl : (trimT R lv).length = R.length := by simp [trimT]
  have hwT := trim_wf hw lv
  have ht := trim_live hw hlv
  have h0T : Lv (trimT R lv) 0 := by obtain ⟨w, hx⟩ := h0; exact ⟨w, by rw [trim_lang hw hlv]; exact hx⟩
  refine ⟨hwT, trim_bytes hb lv, ?_, ?_, cutHyp_of _, hc, by omega, by omega, cutsTo_le _ 256⟩
  · rw [cuts_len]; exact ta_trimmed hwT (marks_of _) ht
  · rw [cuts_len]
    exact bfs_trimmed hwT (marks_of _) ht hc (ac := fun s => accAt (trimT R lv) s) (fun s _ => rfl) h0T (by omega)
theorem numHyp_ta {R : Table} (hw : WF R) {lv : Nat → Bool} (hlv : ∀ s : Nat, s < R.length → (lv s = true ↔ Lv R s)) :
    TaHyp (trimT R lv) (trimT R lv).length (loOf (cutList (pOf (trimT R lv)))) (hiOf (cutList (pOf (trimT R lv)))) (cutsTo (trimT R lv) 256).length (fun s i => tstep (trimT R lv) s (loOf (cutList (pOf (trimT R lv))) i)) := by
  rw [cuts_len]; exact ta_trimmed (trim_wf hw lv) (marks_of _) (trim_live hw hlv)

set_option maxRecDepth 100000 in
set_option maxHeartbeats 8000000 in
theorem r05Minimal_any (v0 : Value) (l : Table) (m : Mem) (w : World) (hm : m.inn w) (hl : statesAt m v0 l) (hlen : l.length ≤ 1000000) :
    Calls Tryd.prog 46 #[v0] w fun e w' => ∃ r C, e = .returned (.tuple #[.agg #[r], .int .i64 (if tf (WF l) = true then 0 else 11)]) ∧ Below w.heap.size w w' ∧ statesAt (m.grow w w') r C ∧ C.length ≤ l.length + 1 ∧
      (WF l → MinIs l C) ∧ (¬ WF l → C = []) := by
  have hl0 := hl
  have hby := bytes_of hl
  obtain ⟨a, c, rfl, h1, h2, h3⟩ := hl
  unfold maxLen at h2
  have HW := Lib.hid (fun w (hw : m.inn w) => Wellformed_any (.slice a l.length c) l m w hw hl0)
  refine calls_hide fun R hR => ?_
  have hO := (Own.start hm).al #[.slice none 0 0] 24
  have HO := Lib.hid hO
  clear hO
  go_enter Tryd.func46, Tryd.ntmps46
  go_wp2_with fail
  refine (HW.out _ (Mem.inn_le HO.out.ext.le HO.out.inn)).mono ?_
  rintro e w1 ⟨rfl, hb1⟩
  have hO1 := HO.out.move hb1
  have g1 := hO1.obj.cell (i := 0) rfl
  have g2 := hO1.obj.frozen 0
  have g3 := hO1.obj.lt
  clear HO hb1
  by_cases hwf : WF l
  · rw [tf_true hwf]
    by_cases h0 : l.length = 0
    · have hln : l = [] := List.eq_nil_of_length_eq_zero h0
      have hO2 := hO1.set 0 (.slice none 0 0)
      have g4 := hO2.obj.cell (i := 0) rfl
      have Hk := Lib.hid (And.intro hO2 hln)
      have hdec : ((l.length : Int) == 0) = true := by simp [h0]
      clear hO1 hO2 hln h0
      go_wp2
      refine bodyPost_ret (v := .tuple #[.agg #[.slice none 0 0], .int .i64 0]) (by simp [results, Tryd.results46, go_sem, g1]) rfl ?_
      refine hR.out _ _ ⟨_, [], by rw [tf_true hwf]; rfl, Hk.out.1.below, statesAt_nil _, by simp, fun _ => ⟨canon_nil, fun x => ?_⟩, fun _ => rfl⟩
      rw [Hk.out.2]
    · have hdec : ((l.length : Int) == 0) = false := beq_eq_false_iff_ne.2 (by omega)
      have HA := Lib.hid (alive_any (.slice a l.length c) l m w1 (Mem.inn_le hO1.ext.le hO1.inn) hl0 hwf hlen)
      have HO1 := Lib.hid hO1
      clear hO1
      go_wp2_with fail
      refine HA.out.mono ?_
      rintro e w2 ⟨rv, lv0, rfl, hb2, hr2, hlv0, hiff0⟩
      have hO2 := HO1.out.call hb2
      have hle2 := Mem.le_grow (w := w2) (Mem.inn_le HO1.out.ext.le HO1.out.inn)
      obtain ⟨la, lc, rfl, l1, l2, l3⟩ := hr2
      have hlv1 : l.length ≤ lv0.length := by omega
      clear hlv0
      obtain ⟨lb, lo', rfl, l4⟩ := l3 (by intro h; simp [h] at hlv1; simp [hlv1] at h0)
      have z0 := l4 0 (by omega)
      rw [Nat.add_zero] at z0
      have z1 : w2.cell? ⟨lb, lo', none⟩ = some (.bool lv0[0]) := Mem.cell_w (Mem.grow_inn (Mem.inn_le HO1.out.ext.le HO1.out.inn) hb2) z0
      have hb0 : bt lv0 0 = lv0[0] := bt_get (by omega)
      have HF := Lib.hid (And.intro (hiff0 0 (by omega)) hb0)
      have g1 := hO2.obj.cell (i := 0) rfl
      have g2 := hO2.obj.frozen 0
      have g3 := hO2.obj.lt
      clear hb0 hiff0 HA HO1
      have hlvp : 0 < lv0.length := by omega
      generalize lv0[0] = b0 at *
      cases b0 with
      | false =>
        have hO3 := hO2.set 0 (.slice none 0 0)
        have g4 := hO3.obj.cell (i := 0) rfl
        have Hk := Lib.hid hO3
        clear hO2 hO3
        go_wp2
        refine bodyPost_ret (v := .tuple #[.agg #[.slice none 0 0], .int .i64 0]) (by simp [results, Tryd.results46, go_sem, g1]) rfl ?_
        refine hR.out _ _ ⟨_, [], by rw [tf_true hwf]; rfl, Hk.out.below, statesAt_nil _, by simp, fun _ => ⟨canon_nil, fun x => ?_⟩, fun h => absurd hwf h⟩
        rw [accFrom_nil]
        cases hx : accFrom l 0 x with
        | false => rfl
        | true =>
          have := HF.out.1.2 ⟨x, hx⟩
          rw [HF.out.2] at this; cases this
      | true =>
        have hm2 := hO2.inn
        have HRe := Lib.hid (reached_any (.slice a l.length c) l _ w2 hm2 (statesAt_le hO2.ext.le hl0) hwf hlen (by omega) (fun s hs => by have := wf_len256 hwf hby s hs; omega))
        have HO2 := Lib.hid hO2
        clear hO2 hm2
        go_wp2_with fail
        refine HRe.out.mono ?_
        rintro e w3 ⟨r3, o, rfl, hb3, hst3, hri⟩
        have hO3 := HO2.out.call hb3
        obtain ⟨q1, q2, q3, q4⟩ := reach_all hwf hby hri
        have hoN := nodup_len hri.nodup hri.lt
        have hRp : 1 ≤ (reachT l o o.length).length := by
          have hf := hri.first
          rw [q3]
          cases o with
          | nil => simp at hf
          | cons _ _ => simp
        have hlvR : Lv (reachT l o o.length) 0 := by
          obtain ⟨x, hx⟩ := HF.out.1.1 HF.out.2
          exact ⟨x, by rw [q4]; exact hx⟩
        have HTr := Lib.hid (trimmed_any r3 (reachT l o o.length) _ w3 hO3.inn hst3 q1 (by omega) (fun s hs => by have := wf_len256 q1 q2 s hs; omega))
        have HO3 := Lib.hid hO3
        have HR0 := Lib.hid (And.intro q4 hlvR)
        have hRl : (reachT l o o.length).length ≤ l.length := by omega
        obtain ⟨r3a, r3c, rfl⟩ : ∃ ra rc, r3 = .slice ra (reachT l o o.length).length rc := by obtain ⟨x, y, e, -⟩ := hst3; exact ⟨x, y, e⟩
        clear hO3 HRe HO2 hst3 hb3 q3 q4 hlvR hri hoN
        generalize reachT l o o.length = R at *
        go_wp2_with fail
        refine HTr.out.mono ?_
        rintro e w4 ⟨r4, lv, rfl, hb4, hst4, hlv⟩
        have hO4 := HO3.out.call hb4
        have hTl : (trimT R lv).length = R.length := by simp [trimT]
        have hTw := trim_wf q1 lv
        have HSt := Lib.hid (Starts_any r4 (trimT R lv) _ w4 hO4.inn hst4 hTw)
        obtain ⟨r4a, r4c, rfl⟩ : ∃ ra rc, r4 = .slice ra (trimT R lv).length rc := by obtain ⟨x, y, e, -⟩ := hst4; exact ⟨x, y, e⟩
        have HO4 := Lib.hid (And.intro hO4 (And.intro hst4 (And.intro hTw (And.intro hlv (And.intro q1 q2)))))
        have hTl2 : (trimT R lv).length ≤ R.length := by omega
        have hTl3 : R.length ≤ (trimT R lv).length := by omega
        clear hO4 HO3 HTr hst4 hb4 hTl hTw hlv q1 q2
        go_wp2_with fail
        refine HSt.out.mono ?_
        rintro e w5 ⟨r5, rfl, hb5, hst5⟩
        have hO5 := HO4.out.1.call hb5
        have hTw := HO4.out.2.2.1
        have hlv := HO4.out.2.2.2.1
        have q1 := HO4.out.2.2.2.2.1
        have q2 := HO4.out.2.2.2.2.2
        have hle5 := Mem.le_grow (w := w5) HO4.out.1.inn
        have HCl := Lib.hid (classes_any _ r5 (trimT R lv) (cutsTo (trimT R lv) 256) _ _ _ w5 hO5.inn (statesAt_le hle5 HO4.out.2.1) hst5 hTw (by omega) (by omega) (numHyp_ta q1 hlv) (numHyp_cuts (trimT R lv)) (cutsTo_le _ 256))
        have HN0 := Lib.hid (fun cls (hc : ClsOk (trimT R lv) (trimT R lv).length cls) => numHyp_of q1 q2 hlv (by omega) hRp HR0.out.2 hc)
        have HL := Lib.hid (fun x => trim_lang q1 hlv x 0)
        have hst4 := statesAt_le hle5 HO4.out.2.1
        obtain ⟨r5a, r5c, rfl⟩ : ∃ ra rc, r5 = .slice ra (cutsTo (trimT R lv) 256).length rc := by obtain ⟨x, y, e, -⟩ := hst5; exact ⟨x, y, e⟩
        have HO5 := Lib.hid (And.intro hO5 (And.intro hst4 hst5))
        have hTl4 : (trimT R lv).length ≤ l.length := by omega
        have hTl5 : 1 ≤ (trimT R lv).length := by omega
        have HR0 := Lib.hid HR0
        clear hO5 HO4 HSt hst4 hst5 hb5 hle5 hTw hlv q1 q2 hTl2 hTl3
        generalize trimT R lv = T at *
        generalize loOf (cutList (pOf T)) = lo at *
        generalize hiOf (cutList (pOf T)) = hi at *
        generalize cutsTo T 256 = cuts at *
        go_wp2_with fail
        refine HCl.out.mono ?_
        rintro e w6 ⟨r6, cls, rfl, hb6, hst6, hcls⟩
        have hO6 := HO5.out.1.call hb6
        have hle6 := Mem.le_grow (w := w6) HO5.out.1.inn
        have hN := HN0.out cls hcls
        have hT6 := statesAt_le hle6 HO5.out.2.1
        have hc6 := intsAt_le hle6 HO5.out.2.2
        have HN := Lib.hid hN
        have hclen := hN.clen
        obtain ⟨r6a, r6c, rfl⟩ : ∃ ra rc, r6 = .slice ra cls.length rc := by obtain ⟨x, y, e, -⟩ := hst6; exact ⟨x, y, e⟩
        have hO7 := (((hO6.al #[.int .i64 0] 3).asRow).al #[.slice none 0 0] 24).nilRow 48 2
        have hsz : (w6.alloc (.cells #[.int .i64 0] 3)).heap.size = w6.heap.size + 1 := by simp
        rw [hsz] at hO7
        have HO7 := Lib.hid hO7
        have hTl4 := hN.len
        have hcll := hcls.len
        obtain ⟨cf, hcf⟩ : ∃ cf : Nat → Int, cf = fun s => cls.getD s 0 := ⟨_, rfl⟩
        obtain ⟨dl, hdl⟩ : ∃ dl : Nat → Nat → Option Nat, dl = dlT T lo := ⟨_, rfl⟩
        obtain ⟨ah, hah⟩ : ∃ ah : Nat → Bool, ah = fun (s : Nat) => accAt T (s : Int) := ⟨_, rfl⟩
        have HB : Hid (BfsHyp T T.length cf dl lo hi ah cuts.length) := Lib.hid (by rw [hcf, hdl, hah]; exact hN.bfs)
        have HI := Lib.hid (fun k hk => bfs_inv (cf := cf) (ac := ah) HB.out.iv HB.out.pos (fun s i t h1 h2 h3 => (HB.out.some s i t h1 h2 h3).1) k hk)
        have Hfun := Lib.hid (And.intro hcf (And.intro hdl hah))
        have Hdat := Lib.hid (And.intro hT6 (And.intro hc6 hst6))
        obtain ⟨_, _, e4, t2, t3, t4⟩ := hT6
        injection e4 with e4a e4b e4c
        subst e4a; subst e4c
        obtain ⟨_, _, e5, u2, u3, u4⟩ := hc6
        injection e5 with e5a e5b e5c
        subst e5a; subst e5c
        obtain ⟨_, _, e6, v2, v3, v4⟩ := hst6
        injection e6 with e6a e6b e6c
        subst e6a; subst e6c
        obtain ⟨tb, to', rfl, t5⟩ := t4 (by intro h; simp [h] at hTl5)
        have hclsp : 1 ≤ cls.length := by omega
        obtain ⟨kb, ko, rfl, v5⟩ := v4 (by intro h; simp [h] at hclsp)
        unfold maxLen at t3 u3 v3
        have hcl1 : T.length ≤ cls.length := by omega
        have hcl2 : cls.length ≤ T.length := by omega
        generalize hmk0 : Mem.grow _ w5 w6 = mk0 at *
        generalize hB6 : w6.heap.size = B6 at *
        clear hcf hdl hah HCl HO5 HN0 hb6 hle6 hN hO7 hO6 hsz hcls hmk0 e4b e5b e6b t4 v4 hcll
        go_wp2
        refine wp_loop_keep [2, 4, 5, 6, 7, 8, 9] (fun n vs wr => ∃ (k : Nat) (vo vst : Value) (xs : List Value) (mk : Mem),
          (∀ j, j < k → j < (bfsTo cf dl lo hi ah cuts.length j).1.length) ∧ k ≤ (bfsTo cf dl lo hi ah cuts.length k).1.length ∧ n = T.length - k ∧
          vs = [.pointer (some ⟨w.heap.size, 0, none⟩), .slice (some ⟨tb, to', none⟩) T.length r4c, .slice r5a cuts.length r5c, .slice (some ⟨kb, ko, none⟩) cls.length r6c, vo, .pointer (some ⟨B6 + 1, 0, none⟩), .int .i64 k] ∧
          Own w m wr mk [.row vst 48 2 k xs, .obj (B6 + 1) 24 #[vst], .row vo 3 1 (bfsTo cf dl lo hi ah cuts.length k).1.length (ordCells (bfsTo cf dl lo hi ah cuts.length k).1), .obj w.heap.size 24 #[.slice none 0 0]] ∧
          StRow mk xs (bfsTo cf dl lo hi ah cuts.length k).2 ∧ mk0.le mk) ?_ ?_
        · exact ⟨_, 0, .slice (some ⟨B6, 0, none⟩) 1 1, .slice none 0 0, [], _, fun j hj => by omega, Nat.zero_le _, rfl, rfl, HO7.out, StRow.nil _, Mem.le_refl _⟩
        clear HO7
        rintro X z n vs wr hX - ⟨k, vo, vst, xs, mk, hk1, hk2, rfl, rfl, hO, hrow, hmk⟩
        simp [litL, lk]
        have hBI := HI.out k hk1
        obtain ⟨voa, voc, rfl⟩ := row_slice hO.third.row
        by_cases hlt : k < (bfsTo cf dl lo hi ah cuts.length k).1.length
        · have hsN := hBI.lt _ (List.getElem_mem hlt)
          have hoN := dif_len hBI.dif hBI.lt
          obtain ⟨vob, rfl⟩ := row_some hO.third.row (by omega)
          have hr1s := ordCells_get hlt
          have r1 := row_cellw hO.third.row hr1s
          have rl := (World.ownsRow.lt hO.third.row _ rfl).2
          have hgd : (bfsTo cf dl lo hi ah cuts.length k).1.getD k 0 = (bfsTo cf dl lo hi ah cuts.length k).1[k] := by simp [hlt]
          have hok : (bfsTo cf dl lo hi ah cuts.length k).1[k]? = some (bfsTo cf dl lo hi ah cuts.length k).1[k] := by simp [hlt]
          have hE := bfsTo_succ cf dl lo hi ah cuts.length k
          rw [hgd] at hE
          have HBI := Lib.hid hBI
          have Hob := Lib.hid (show ∀ j, j < k + 1 → j < (bfsTo cf dl lo hi ah cuts.length j).1.length from fun j hj => by
            by_cases c : j < k
            · exact hk1 j c
            · have : j = k := by omega
              subst this
              exact hlt)
          clear hBI hgd hk1 hk2
          generalize (bfsTo cf dl lo hi ah cuts.length k).1[k] = s at *
          obtain ⟨a1, -⟩ := t5 s hsN
          have a1w := Mem.cell_w hO.inn (Mem.cell_le hmk a1)
          have a1l := Mem.cell_lt hO.inn (Mem.cell_le hmk a1)
          have hahs : ah s = (T[s]).accept := by
            have h1 := congrFun Hfun.out.2.2 s
            rw [h1, accAt_nat T s hsN]
          rw [← hahs] at a1w
          clear hahs a1
          generalize bfsTo cf dl lo hi ah cuts.length k = r at *
          obtain ⟨o, out⟩ := r
          simp only at *
          have hO2 := (hO.al #[.bool (ah s), .slice none 0 0] 48).nilRow 51 3
          have HO2 := Lib.hid hO2
          have HE := Lib.hid hE
          have Hok := Lib.hid hok
          clear hO2 hO hr1s hE hok
          generalize hS : wr.heap.size = S at *
          go_wp2
          have HRI := Lib.hid (show ∀ i, i ≤ cuts.length → RowInv cf dl lo hi cuts.length T.length s o i (rowTo cf dl lo hi s o i) from
            row_inv HB.out.iv HBI.out.dif HBI.out.lt (fun i t hi' ht => (HB.out.some s i t hsN hi' ht).1))
          refine wp_loop_keep [2, 4, 5, 6, 7, 8, 9, 10, 56, 57, 58] (fun n vs wr2 => ∃ (i : Nat) (vo ve : Value), i ≤ cuts.length ∧ n = cuts.length - i ∧
            vs = [.pointer (some ⟨w.heap.size, 0, none⟩), .slice (some ⟨tb, to', none⟩) T.length r4c, .slice r5a cuts.length r5c, .slice (some ⟨kb, ko, none⟩) cls.length r6c, vo, .pointer (some ⟨B6 + 1, 0, none⟩), .int .i64 k, .pointer (some ⟨S, 0, none⟩), .slice r5a cuts.length r5c, .int .i64 cuts.length, .int .i64 i] ∧
            Own w m wr2 mk [.row ve 51 3 (rowTo cf dl lo hi s o i).2.length (edCells (rowTo cf dl lo hi s o i).2), .obj S 48 #[.bool (ah s), ve], .row vst 48 2 k xs, .obj (B6 + 1) 24 #[vst],
              .row vo 3 1 (rowTo cf dl lo hi s o i).1.length (ordCells (rowTo cf dl lo hi s o i).1), .obj w.heap.size 24 #[.slice none 0 0]]) ?_ ?_
          · exact ⟨_, 0, .slice (some ⟨vob, 0, none⟩) o.length voc, .slice none 0 0, Nat.zero_le _, rfl, rfl, HO2.out⟩
          clear HO2 r1 rl a1w a1l
          rintro Y z2 n vs wr2 hY - ⟨i, vo, ve, hi1, rfl, rfl, hO⟩
          simp [litL, lk]
          have hri := HRI.out i hi1
          have hol := hri.pre.length_le
          obtain ⟨voa', voc', rfl⟩ := row_slice (hO.at_row (v := vo) (t := 3) (size := 1) (n := (rowTo cf dl lo hi s o i).1.length) (xs := ordCells (rowTo cf dl lo hi s o i).1) (by simp))
          obtain ⟨vea, vec, rfl⟩ := row_slice hO.row
          have hqN := dif_len hri.dif hri.lt
          have hqe := rowTo_len cf dl lo hi s o i
          by_cases hlt3 : i < cuts.length
          · obtain ⟨cb, co, rfl, u5⟩ := u4 (by intro h; simp [h] at hlt3)
            have hle := HB.out.iv.le i hlt3
            have c1 := u5 i hlt3
            have hcl3 := HN.out.cut.lo i hlt3
            rw [hcl3] at c1
            have c1w := Mem.cell_w hO.inn (Mem.cell_le hmk c1.1)
            have c1l := Mem.cell_lt hO.inn (Mem.cell_le hmk c1.1)
            have hok2 : (rowTo cf dl lo hi s o i).1[k]? = some s := by
              obtain ⟨x, hx⟩ := hri.pre
              rw [← hx, List.getElem?_append_left hlt]; exact Hok.out
            have hrow0 := hO.at_row (v := .slice voa' (rowTo cf dl lo hi s o i).1.length voc') (t := 3) (size := 1) (n := (rowTo cf dl lo hi s o i).1.length) (xs := ordCells (rowTo cf dl lo hi s o i).1) (by simp)
            obtain ⟨vob', rfl⟩ := row_some hrow0 (by omega)
            have hoc : (ordCells (rowTo cf dl lo hi s o i).1)[k]? = some (.int .i64 s) := by
              unfold ordCells
              rw [List.getElem?_map, hok2]; rfl
            have r1 := row_cellw hrow0 hoc
            have rl := (World.ownsRow.lt hrow0 _ rfl).2
            have hwu : IntKind.u8.wrap (lo i : Int) = (lo i : Int) := IntWalk.u8_in _ (by omega)
            have hst := Step_any (.slice (some ⟨tb, to', none⟩) T.length r4c) T s (lo i) mk wr2 hO.inn (statesAt_le hmk Hdat.out.1) (by omega) (by omega)
            have hdlx : dl s i = if tstep T s (lo i) < 0 then none else some (tstep T s (lo i)).toNat := congrFun (congrFun Hfun.out.2.1 s) i
            have hkl : k < (rowTo cf dl lo hi s o i).1.length := by omega
            clear hcl3 hok2 hrow0 hoc c1
            rcases tstep_range HN.out.wf s (lo i) with ht | ⟨ht1, ht2⟩
            · rw [ht] at hst
              rw [if_pos (by omega)] at hdlx
              have hN := rowTo_none (cf := cf) (lo := lo) (hi := hi) (o := o) hdlx
              have HN2 := Lib.hid hN
              have HST := Lib.hid hst
              have HO := Lib.hid hO
              clear hN hdlx ht hst hri hO
              go_wp2_with fail
              refine HST.out.mono ?_
              rintro e w7 ⟨rfl, hb7⟩
              have hO2 := HO.out.move hb7
              clear HO hb7 c1w r1
              go_wp2
              refine hY.out _ _ _ (by omega) rfl ⟨i + 1, .slice (some ⟨vob', 0, none⟩) (rowTo cf dl lo hi s o i).1.length voc', .slice vea (rowTo cf dl lo hi s o i).2.length vec, by omega, rfl, rfl, ?_⟩
              rw [HN2.out]; exact hO2
            · obtain ⟨tn, htn⟩ := Int.eq_ofNat_of_zero_le ht1
              rw [htn] at hst ht2 hdlx
              rw [if_neg (by omega), Int.toNat_natCast] at hdlx
              have hN := rowTo_some (cf := cf) (lo := lo) (hi := hi) (o := o) hdlx
              have hri2 := HRI.out (i + 1) (by omega)
              have HN2 := Lib.hid (And.intro hN (And.intro hri2 hri))
              have HST := Lib.hid hst
              have HO := Lib.hid hO
              have hhi := HN.out.cut.hi i hlt3
              unfold endOf at hhi
              clear hN hdlx hst hri hri2 hO ht1 htn
              generalize rowTo cf dl lo hi s o i = q at *
              obtain ⟨o', es⟩ := q
              simp only at hqN hqe hol hkl
              go_wp2_with fail
              refine HST.out.mono ?_
              rintro e w7 ⟨rfl, hb7⟩
              have hO2 := HO.out.move hb7
              have c1w := Mem.cell_w hO2.inn (Mem.cell_le hmk (u5 i hlt3).1)
              clear HO hb7 c1w r1
              go_upto_if 77 with (fail)
              refine wp_cut_keep [2, 4, 5, 6, 7, 8, 9, 10, 56, 57, 58, 12, 13, 14] (fun vs w' => vs = [.pointer (some ⟨w.heap.size, 0, none⟩), .slice (some ⟨tb, to', none⟩) T.length r4c, .slice (some ⟨cb, co, none⟩) cuts.length r5c, .slice (some ⟨kb, ko, none⟩) cls.length r6c, .slice (some ⟨vob', 0, none⟩) o'.length voc', .pointer (some ⟨B6 + 1, 0, none⟩), .int .i64 k, .pointer (some ⟨S, 0, none⟩), .slice (some ⟨cb, co, none⟩) cuts.length r5c, .int .i64 cuts.length, .int .i64 i, .int .i64 (lo i), .int .i64 tn, .int .i64 (hi i)] ∧ w' = w7) ?_ ?_
              · intro V hV
                by_cases hnx : i + 1 < cuts.length
                · rw [dif_pos hnx] at hhi
                  have d1 := u5 (i + 1) hnx
                  have hcl4 := HN.out.cut.lo (i + 1) hnx
                  rw [hcl4] at hhi d1
                  have d1w := Mem.cell_w hO2.inn (Mem.cell_le hmk d1.1)
                  have d1l := Mem.cell_lt hO2.inn (Mem.cell_le hmk d1.1)
                  have hsep := HB.out.iv.sep i (i + 1) (by omega) hnx
                  have hle5 := HB.out.iv.le (i + 1) hnx
                  have hdec : decide (i + 1 < cuts.length) = true := decide_eq_true hnx
                  have Hhi := Lib.hid hhi
                  clear hhi hcl4 d1
                  go_wp2
                  refine hV.out _ _ rfl ⟨?_, rfl⟩
                  rw [← Hhi.out]; rfl
                · rw [dif_neg hnx] at hhi
                  have hdec : decide (i + 1 < cuts.length) = false := decide_eq_false hnx
                  have Hhi := Lib.hid hhi
                  clear hhi
                  go_wp2
                  refine hV.out _ _ rfl ⟨?_, rfl⟩
                  rw [← Hhi.out]; rfl
              rintro z3 vs w8 - ⟨rfl, rfl⟩
              simp [litL, lk]
              clear hhi
              have hq1 := (hO2.pull (l₁ := [_, _, _, _]))
              have hq2 := hq1.sealRow
              have hcn : ∀ y ∈ o'.map Int.ofNat, 0 ≤ y ∧ y < cls.length := fun y hy => by
                obtain ⟨x, hx, rfl⟩ := List.mem_map.1 hy
                have := HN2.out.2.2.lt x hx
                simp only [Int.ofNat_eq_natCast]; omega
              have hin := intsAt_of_row (l := o'.map Int.ofNat) (m := mk) (by rw [List.length_map, ← ordCells_ints]; exact hq1.row) (fun y hy => by have := hcn y hy; omega)
              have hnum := numbered_any _ (.slice (some ⟨kb, ko, none⟩) cls.length r6c) (o'.map Int.ofNat) cls tn _ _ hq2.inn hin (intsAt_le (Mem.le_trans hmk (Mem.le_addv hq1.free)) Hdat.out.2.2) (by omega) hcn
              rw [numbered_pos (by omega)] at hnum
              have hcf0 : (fun s => cls.getD s 0) = cf := Hfun.out.1.symm
              rw [hcf0] at hnum
              have hap := ordAdd_pos cf o' tn
              have hpo := posOf_le cf o' tn
              have hap2 := hap.2
              have hap1 := hap.1
              have HNum := Lib.hid (And.intro hnum (And.intro hO2 hap))
              have hrd : (ordAdd cf o' tn).length = o'.length ∨ (ordAdd cf o' tn).length = o'.length + 1 ∧ posOf cf o' tn = o'.length := ordAdd_len
              have Hpq := Lib.hid (show ordAdd cf o' tn = if posOf cf o' tn < o'.length then o' else o' ++ [tn] from rfl)
              clear hnum hin hcn hq1 hq2 hO2 hap hcf0 hap1 hrd c1w
              generalize hp : posOf cf o' tn = p at *
              have Hp := Lib.hid hp
              clear hp
              go_wp2_with fail
              refine HNum.out.1.mono ?_
              rintro e w9 ⟨rfl, hb9⟩
              have hO2 := HNum.out.2.1.move hb9
              clear hb9
              go_upto_if 91 with (fail)
              refine wp_cut_keep [2, 4, 5, 6, 7, 8, 9, 10, 56, 57, 58, 12, 13, 14, 15] (fun vs w' => ∃ vo2 : Value, vs = [.pointer (some ⟨w.heap.size, 0, none⟩), .slice (some ⟨tb, to', none⟩) T.length r4c, .slice (some ⟨cb, co, none⟩) cuts.length r5c, .slice (some ⟨kb, ko, none⟩) cls.length r6c, vo2, .pointer (some ⟨B6 + 1, 0, none⟩), .int .i64 k, .pointer (some ⟨S, 0, none⟩), .slice (some ⟨cb, co, none⟩) cuts.length r5c, .int .i64 cuts.length, .int .i64 i, .int .i64 (lo i), .int .i64 tn, .int .i64 (hi i), .int .i64 p] ∧
                Own w m w' mk [.row (.slice vea es.length vec) 51 3 es.length (edCells es), .obj S 48 #[.bool (ah s), .slice vea es.length vec], .row vst 48 2 k xs, .obj (B6 + 1) 24 #[vst],
                  .row vo2 3 1 (ordAdd cf o' tn).length (ordCells (ordAdd cf o' tn)), .obj w.heap.size 24 #[.slice none 0 0]]) ?_ ?_
              · intro V hV
                by_cases hf : p < o'.length
                · have hdec : ((p : Int) == (o'.length : Int)) = false := beq_eq_false_iff_ne.2 (by omega)
                  have hpq := Hpq.out
                  rw [if_pos hf] at hpq
                  have Hpq2 := Lib.hid hpq
                  clear hpq
                  go_wp2
                  refine hV.out _ _ rfl ⟨.slice (some ⟨vob', 0, none⟩) o'.length voc', rfl, ?_⟩
                  rw [Hpq2.out]; exact hO2
                · have hdec : ((p : Int) == (o'.length : Int)) = true := beq_iff_eq.2 (by omega)
                  have hpq := Hpq.out
                  rw [if_neg hf] at hpq
                  have Hpq2 := Lib.hid hpq
                  have hO3 := hO2.al #[.int .i64 tn] 3
                  have hnews := hO3.obj.news rfl
                  clear hpq
                  go_wp2_with (at_builtin; refine wpList_append_row tyInts rfl (.tmp 92) (.tmp 94) rfl (.slice (some ⟨vob', 0, none⟩) o'.length voc') o'.length (ordCells o') rfl (hO3.at_row (by simp)) ⟨w9.heap.size, 0, none⟩ 1 1 [.int .i64 tn] rfl rfl hnews (by simp [Value.oneCell']) (by unfold maxLen; omega) (by omega) ?_)
                  intro va vc w7' hown7 hgrow7 hrow7
                  have hO4 := (hO3.pull (l₁ := [_, _, _, _, _])).app hown7 hgrow7 hrow7 (by simp)
                  have hO5 := (hO4.unpull (l₁ := [_, _, _, _, _])).tail
                  have HO5 := Lib.hid hO5
                  clear hO5 hO4 hO3 hown7 hgrow7 hrow7 hnews
                  go_wp2
                  refine hV.out _ _ rfl ⟨.slice va (o'.length + 1) vc, rfl, ?_⟩
                  rw [Hpq2.out]
                  have := HO5.out
                  simpa [ordCells] using this
              rintro z4 vs w10 - ⟨vo2, rfl, hO3⟩
              simp [litL, lk]
              clear hO2
              obtain ⟨voa2, voc2, rfl⟩ := row_slice (hO3.at_row (v := vo2) (t := 3) (size := 1) (n := (ordAdd cf o' tn).length) (xs := ordCells (ordAdd cf o' tn)) (by simp))
              have hpN : p ≤ 2000000 := by
                have h2 := dif_len HN2.out.2.1.dif HN2.out.2.1.lt
                rw [HN2.out.1] at h2
                simp only at h2
                omega
              have hedok := row_edok (N := T.length) HN2.out.2.2 (by omega)
              simp only at hedok
              have hes0 : es = [] ∨ ∃ fs e, es = fs ++ [e] := by
                rcases List.eq_nil_or_concat es with h | ⟨fs, e, h⟩
                · exact .inl h
                · exact .inr ⟨fs, e, by rw [h, List.concat_eq_append]⟩
              obtain ⟨q, hq⟩ : ∃ q, es.length = q := ⟨_, rfl⟩
              rw [hq] at hO3 hqe
              have Hq := Lib.hid (And.intro hq (And.intro hedok hes0))
              have s1 := hO3.swap.obj.cell (i := 1) rfl
              have s2 := hO3.swap.obj.lt
              clear hq hedok hes0
              go_upto_region 26 with (fail)
              refine wp_cut_keep [2, 4, 5, 6, 7, 8, 9, 10, 56, 57, 58, 12, 14, 15, 16, 123] (fun vs w' => ∃ bb : Bool, vs = [.pointer (some ⟨w.heap.size, 0, none⟩), .slice (some ⟨tb, to', none⟩) T.length r4c, .slice (some ⟨cb, co, none⟩) cuts.length r5c, .slice (some ⟨kb, ko, none⟩) cls.length r6c, .slice voa2 (ordAdd cf o' tn).length voc2, .pointer (some ⟨B6 + 1, 0, none⟩), .int .i64 k, .pointer (some ⟨S, 0, none⟩), .slice (some ⟨cb, co, none⟩) cuts.length r5c, .int .i64 cuts.length, .int .i64 i, .int .i64 (lo i), .int .i64 (hi i), .int .i64 p, .int .i64 ((q : Int) - 1), .bool bb] ∧
                w' = w10 ∧ (bb = true ↔ ∃ (fs : List Ed) (e : Ed), es = fs ++ [e] ∧ e.to = (p : Int) ∧ e.hi + 1 = lo i)) ?_ ?_
              · intro V hV
                rcases Hq.out.2.2 with hnil | ⟨fs, e, hfe⟩
                · have hq0 : q = 0 := by rw [← Hq.out.1, hnil]; rfl
                  have Hn := Lib.hid hnil
                  subst hq0
                  clear hnil
                  go_wp2
                  exact hV.out _ _ rfl ⟨false, rfl, rfl, by rw [Hn.out]; simp⟩
                · have hq1 : q = fs.length + 1 := by rw [← Hq.out.1, hfe]; simp
                  have hed := Hq.out.2.1 e (by rw [hfe]; simp)
                  have hec := edCells_get es fs.length (by rw [hfe]; simp)
                  have hel : es[fs.length]'(by rw [hfe]; simp) = e := by simp [hfe]
                  rw [hel] at hec
                  have HL := Lib.hid (And.intro hfe (last_iff fs e (p : Int) (lo i)))
                  subst hq1
                  obtain ⟨eb, rfl⟩ := row_some hO3.row (by omega)
                  have y1 := row_cellw hO3.row hec.2.1
                  have y2 := row_cellw hO3.row hec.2.2
                  have hbl := (World.ownsRow.lt hO3.row _ rfl).2
                  have hlt5 : fs.length < fs.length + 1 := by omega
                  clear hel hec hfe
                  by_cases hc1 : e.to = (p : Int)
                  · by_cases hc2 : e.hi + 1 = lo i
                    · have Hc := Lib.hid (And.intro hc1 hc2)
                      have hdec1 : ((e.to : Int) == (p : Int)) = true := beq_iff_eq.2 hc1
                      have hdec2 : ((e.hi : Int) + 1 == (lo i : Int)) = true := beq_iff_eq.2 (by omega)
                      have hed1 := hed.2.1
                      clear hc1 hc2
                      go_wp2
                      exact hV.out _ _ rfl ⟨true, by simp, rfl, by rw [HL.out.1, HL.out.2]; simp [Hc.out.1, Hc.out.2]⟩
                    · have Hc := Lib.hid (And.intro hc1 hc2)
                      have hdec1 : ((e.to : Int) == (p : Int)) = true := beq_iff_eq.2 hc1
                      have hdec2 : ((e.hi : Int) + 1 == (lo i : Int)) = false := beq_eq_false_iff_ne.2 (by omega)
                      have hed1 := hed.2.1
                      clear hc1 hc2
                      go_wp2
                      exact hV.out _ _ rfl ⟨false, by simp, rfl, by rw [HL.out.1, HL.out.2]; simp [Hc.out.2]⟩
                  · have Hc := Lib.hid hc1
                    have hdec1 : ((e.to : Int) == (p : Int)) = false := beq_eq_false_iff_ne.2 hc1
                    clear hc1
                    go_wp2
                    exact hV.out _ _ rfl ⟨false, by simp, rfl, by rw [HL.out.1, HL.out.2]; simp [Hc.out]⟩
              rintro z5 vs w11 - ⟨bb, rfl, rfl, hbb⟩
              simp [litL, lk]
              have Hbb := Lib.hid hbb
              clear hbb
              have hwh : IntKind.u8.wrap (hi i : Int) = (hi i : Int) := IntWalk.u8_in _ (by omega)
              have hwl : IntKind.u8.wrap (lo i : Int) = (lo i : Int) := IntWalk.u8_in _ (by omega)
              cases bb with
              | true =>
                obtain ⟨fs, e, hfe, he1, he2⟩ := Hbb.out.1 rfl
                have hq1 : q = fs.length + 1 := by rw [← Hq.out.1, hfe]; simp
                have hpe := pushEd_set (lo := lo i) (hi := hi i) (fs := fs) (And.intro he1 he2)
                subst hfe
                subst hq1
                obtain ⟨eb, rfl⟩ := row_some hO3.row (by omega)
                have hec := edCells_get (fs ++ [e]) fs.length (by simp)
                have y1 := row_cellw hO3.row hec.2.1
                have y2 := row_frozen hO3.row (fs.length * 3 + 1)
                have hbl := (World.ownsRow.lt hO3.row _ rfl).2
                have hlt5 : fs.length < fs.length + 1 := by omega
                have hO6 := hO3.setRow (fs.length * 3 + 1) (.int .u8 (hi i))
                rw [edCells_set] at hO6
                have Hfin := Lib.hid (And.intro hO6 hpe)
                clear hO6 hO3 hpe he1 he2 hec
                go_wp2
                refine hY.out _ _ _ (by omega) rfl ⟨i + 1, .slice voa2 (ordAdd cf o' tn).length voc2, .slice (some ⟨eb, 0, none⟩) (fs.length + 1) vec, by omega, rfl, rfl, ?_⟩
                rw [HN2.out.1, Hfin.out.2]
                have := Hfin.out.1
                simpa using this
              | false =>
                have hpe : pushEd es (lo i) (hi i) p = es ++ [⟨lo i, hi i, (p : Int)⟩] := by
                  rcases Hq.out.2.2 with rfl | ⟨fs, e, rfl⟩
                  · rfl
                  · exact pushEd_app fun h => by have := Hbb.out.2 ⟨fs, e, rfl, h.1, h.2⟩; cases this
                have hO5 := hO3.al #[.int .u8 (lo i), .int .u8 (hi i), .int .i64 p] 51
                have hnews := hO5.obj.news rfl
                have Hpe := Lib.hid hpe
                clear hpe hO3
                go_wp2_with (at_builtin; refine wpList_append_row tyEdges rfl (.tmp 132) (.tmp 139) rfl (.slice vea q vec) q (edCells es) rfl hO5.swap.row ⟨w11.heap.size, 0, none⟩ 1 1 [.int .u8 (lo i), .int .u8 (hi i), .int .i64 p] rfl rfl hnews (by simp [Value.oneCell']) (by unfold maxLen; omega) (by omega) ?_)
                intro xa xc w12 hown7 hgrow7 hrow7
                have hO6 := (hO5.swap.app hown7 hgrow7 hrow7 (by simp)).drop2.swap
                have s1 := hO6.obj.cell (i := 1) rfl
                have s2 := hO6.obj.lt
                have s3 := hO6.obj.frozen 1
                have hO7 := (hO6.set 1 (.slice xa (q + 1) xc)).swap
                have Hfin := Lib.hid hO7
                clear hO7 hO6 hO5 hown7 hgrow7 hrow7 hnews
                go_wp2
                refine hY.out _ _ _ (by omega) rfl ⟨i + 1, .slice voa2 (ordAdd cf o' tn).length voc2, .slice xa (q + 1) xc, by omega, rfl, rfl, ?_⟩
                rw [HN2.out.1, Hpe.out]
                have := Hfin.out
                simpa [edCells_append, Hq.out.1] using this
          · obtain rfl : i = cuts.length := by omega
            have s0 := hO.swap.obj.cell (i := 0) rfl
            have s1 := hO.swap.obj.cell (i := 1) rfl
            have sl := hO.swap.obj.lt
            have u0 := (hO.at_obj (g := B6 + 1) (t := 24) (arr := #[vst]) (by simp)).cell (i := 0) rfl
            have u1 := (hO.at_obj (g := B6 + 1) (t := 24) (arr := #[vst]) (by simp)).lt
            have hes := edgesAt_of_row (l := (rowTo cf dl lo hi s o cuts.length).2) (m := mk) hO.row (row_edok (N := T.length) hri (by omega))
            have hO2 := hO.sealRow
            have hmk2 := Mem.le_addv (w := wr2) hO.free
            have hrow2 := (hrow.mono hmk2).push (s := ⟨ah s, (rowTo cf dl lo hi s o cuts.length).2⟩) hes
            obtain ⟨vsta, vstc, rfl⟩ := row_slice hO2.swap.row
            have hO3 := hO2.al #[.bool (ah s), .slice vea (rowTo cf dl lo hi s o cuts.length).2.length vec] 48
            have Hk := Lib.hid (And.intro hrow2 (Mem.le_trans hmk hmk2))
            clear hrow2 hes hmk2
            generalize mk.addv wr2 (.slice vea (rowTo cf dl lo hi s o cuts.length).2.length vec) = mk2 at *
            have hnews := hO3.obj.news rfl
            have hvr := hO3.third.row
            clear hO hO2
            go_wp2_with (at_builtin; refine wpList_append_row tyStates rfl (.tmp 144) (.tmp 146) rfl (.slice vsta k vstc) k xs rfl hvr ⟨wr2.heap.size, 0, none⟩ 1 1 [.bool (ah s), .slice vea (rowTo cf dl lo hi s o cuts.length).2.length vec] rfl rfl hnews (by simp [Value.oneCell']) (by unfold maxLen; omega) (by omega) ?_)
            intro va vc w7 hown7 hgrow7 hrow7
            have hO4 := (hO3.third.app hown7 hgrow7 hrow7 (by simp)).fourth
            clear hown7 hgrow7 hrow7 hO3 hvr hnews
            have u2 := hO4.obj.cell (i := 0) rfl
            have u3 := hO4.obj.frozen 0
            have u4 := hO4.obj.lt
            have hO5 := ((hO4.set 0 (.slice va (k + 1) vc)).swap).drop3.drop3
            have HO5 := Lib.hid hO5
            clear hO5 hO4
            go_wp2
            have hpre := hri.pre.length_le
            refine hX.out _ _ _ (by omega) rfl ⟨k + 1, .slice voa' (rowTo cf dl lo hi s o cuts.length).1.length voc', .slice va (k + 1) vc, xs ++ [.bool (ah s), .slice vea (rowTo cf dl lo hi s o cuts.length).2.length vec], mk2, ?_, ?_, rfl, rfl, ?_, ?_, Hk.out.2⟩
            · exact Hob.out
            · rw [HE.out]; show k + 1 ≤ (rowTo cf dl lo hi s o cuts.length).1.length; omega
            · rw [HE.out]; exact HO5.out
            · rw [HE.out]; exact Hk.out.1
        · have hkl2 : (bfsTo cf dl lo hi ah cuts.length k).1.length = k := by omega
          have hcan := bfs_canon HB.out hk1 hkl2
          have hNl := dif_len hBI.dif hBI.lt
          rw [hkl2] at hNl
          have hclen2 := hBI.len
          generalize bfsTo cf dl lo hi ah cuts.length k = r at *
          obtain ⟨vsta, vstc, rfl⟩ := row_slice hO.row
          have u1 := hO.swap.obj.cell (i := 0) rfl
          have hO2 := (hO.pull (l₁ := [_, _, _]))
          have u2 := hO2.obj.cell (i := 0) rfl
          have u3 := hO2.obj.frozen 0
          have u4 := hO2.obj.lt
          have hO3 := (hO2.set 0 (.slice vsta k vstc)).swap
          have hst := statesAt_of_row (l := r.2) (m := mk) (by rw [hclen2]; exact hO3.row) hrow hO3.free
          have hst2 := statesAt_le hO3.sealRow.done hst
          have hbel := hO3.below
          have g4 := hO3.swap.obj.cell (i := 0) rfl
          have Hk := Lib.hid (And.intro hcan (And.intro hst2 (And.intro hbel (And.intro hNl hclen2))))
          clear hcan hst hst2 hbel hNl hclen2 hO3 hO2 hO hBI hrow hkl2
          go_wp2
          refine bodyPost_ret (v := .tuple #[.agg #[.slice vsta k vstc], .int .i64 0]) (by simp [results, Tryd.results46, go_sem, g4]) rfl ?_
          refine hR.out _ _ ⟨_, r.2, by rw [tf_true hwf]; rfl, Hk.out.2.2.1, Hk.out.2.1, ?_, fun _ => ⟨Hk.out.1.1, fun x => ?_⟩, fun h => absurd hwf h⟩
          · have h1 := Hk.out.2.2.2.1
            have h2 := Hk.out.2.2.2.2
            omega
          · rw [Hk.out.1.2, HL.out, HR0.out.out.1]
  · rw [tf_false hwf]
    have hO2 := hO1.set 0 (.slice none 0 0)
    have g4 := hO2.obj.cell (i := 0) rfl
    have Hk := Lib.hid (And.intro hO2 hwf)
    clear hO1 hO2 hwf
    go_wp2
    refine bodyPost_ret (v := .tuple #[.agg #[.slice none 0 0], .int .i64 11]) (by simp [results, Tryd.results46, go_sem, g1]) rfl ?_
    exact hR.out _ _ ⟨_, [], by rw [tf_false Hk.out.2]; rfl, Hk.out.1.below, statesAt_nil _, by simp, fun h => absurd h Hk.out.2, fun _ => rfl⟩
end Cl
namespace Cl
open Go Go.RowKit Go.Proofs

set_option maxRecDepth 100000 in
set_option maxHeartbeats 2000000 in
theorem r05Valid_any (v0 : Value) (l : Table) (m : Mem) (w : World) (hm : m.inn w) (hl : statesAt m v0 l) (hlen : l.length ≤ 1000000) :
    Calls Tryd.prog 26 #[.agg #[v0]] w fun e w' => e = .returned (.bool (tf (Canon l))) ∧ Below w.heap.size w w' := by
  have hl0 := hl
  obtain ⟨a, c, rfl, h1, h2, h3⟩ := hl
  refine calls_hide fun R hR => ?_
  have hO := (Own.start hm).al #[.slice a l.length c] 24
  have HM := Lib.hid (r05Minimal_any (.slice a l.length c) l m _ hO.inn hl0 hlen)
  have HO := Lib.hid hO
  clear hO
  go_enter Tryd.func26, Tryd.ntmps26
  go_wp2_with fail
  refine HM.out.mono ?_
  rintro e w1 ⟨r, C, rfl, hb1, hst, hClen, hmin, hnot⟩
  have hO1 := HO.out.call hb1
  have hle := hO1.ext.le
  obtain ⟨ra, rc, rfl⟩ : ∃ ra rc, r = .slice ra C.length rc := by obtain ⟨x, y, e, -⟩ := hst; exact ⟨x, y, e⟩
  have hO2 := hO1.al #[.slice ra C.length rc] 24
  have g1 := hO2.swap.obj.cell (i := 0) rfl
  have g2 := hO2.swap.obj.lt
  have HS := Lib.hid (r05Same_any (.slice a l.length c) (.slice ra C.length rc) l C _ _ hO2.inn (statesAt_le hle hl0) hst)
  have HO2 := Lib.hid hO2
  clear hO1 hO2 HM HO
  by_cases hwf : WF l
  · rw [tf_true hwf]
    have hci := canon_iff_min hmin hwf
    have Hk := Lib.hid (And.intro hci (And.intro hmin hnot))
    clear hmin hnot hci
    go_wp2_with fail
    refine HS.out.mono ?_
    rintro e w3 ⟨rfl, hb3⟩
    have hb4 := (HO2.out.move hb3).below
    go_wp2
    exact hR.out _ _ ⟨ret_bool (by rw [tf_congr Hk.out.1]), hb4⟩
  · rw [tf_false hwf]
    have Hk := Lib.hid (And.intro hwf (And.intro hmin hnot))
    clear hmin hnot hwf
    go_wp2
    exact hR.out _ _ ⟨ret_bool (by rw [tf_false (fun h => Hk.out.1 h.wf)]), HO2.out.below⟩

set_option maxRecDepth 100000 in
theorem sound_any (v0 : Value) (l : Table) (m : Mem) (w : World) (hm : m.inn w) (hl : statesAt m v0 l) (hlen : l.length ≤ 1000000) :
    Calls Tryd.prog 42 #[.agg #[v0]] w fun e w' => ∃ r, e = .returned (.agg #[r]) ∧ Below w.heap.size w w' ∧ statesAt (m.grow w w') r (goodT l) := by
  have hl0 := hl
  obtain ⟨a, c, rfl, h1, h2, h3⟩ := hl
  refine calls_hide fun R hR => ?_
  have hO := ((Own.start hm).al #[.slice a l.length c] 24).al #[.slice none 0 0] 24
  have hsz : (w.alloc (.cells #[.slice a l.length c] 24)).heap.size = w.heap.size + 1 := by simp
  rw [hsz] at hO
  have HV := Lib.hid (r05Valid_any (.slice a l.length c) l m _ hO.inn hl0 hlen)
  have HO := Lib.hid hO
  clear hO hsz
  go_enter Tryd.func42, Tryd.ntmps42
  go_wp2_with fail
  refine HV.out.mono ?_
  rintro e w1 ⟨rfl, hb1⟩
  have hO1 := HO.out.move hb1
  have g1 := hO1.swap.obj.cell (i := 0) rfl
  have g2 := hO1.obj.cell (i := 0) rfl
  have g3 := hO1.obj.frozen 0
  have g4 := hO1.obj.lt
  clear HO HV hb1
  by_cases hc : Canon l
  · have hO2 := hO1.set 0 (.slice a l.length c)
    have g5 := hO2.obj.cell (i := 0) rfl
    have Hk := Lib.hid (And.intro hO2 hc)
    rw [tf_true hc]
    clear hO1 hO2 hc
    go_wp2
    refine bodyPost_ret (v := .agg #[.slice a l.length c]) (by simp [results, Tryd.results42, go_sem, g5]) rfl ?_
    exact hR.out _ _ ⟨_, rfl, Hk.out.1.below, by rw [goodT_of Hk.out.2]; exact statesAt_le Hk.out.1.done hl0⟩
  · have hO2 := hO1.set 0 (.slice none 0 0)
    have g5 := hO2.obj.cell (i := 0) rfl
    have Hk := Lib.hid (And.intro hO2 hc)
    rw [tf_false hc]
    clear hO1 hO2 hc
    go_wp2
    refine bodyPost_ret (v := .agg #[.slice none 0 0]) (by simp [results, Tryd.results42, go_sem, g5]) rfl ?_
    exact hR.out _ _ ⟨_, rfl, Hk.out.1.below, by rw [goodT, tf_false Hk.out.2]; exact statesAt_nil _⟩

/-- at most 8 states with at most 10 edges each -/
def SmallT (l : Table) : Prop := (∀ s ∈ l, s.edges.length ≤ 10) ∧ l.length ≤ 8
set_option maxRecDepth 100000 in
theorem Small_any (v0 : Value) (l : Table) (m : Mem) (w : World) (hm : m.inn w) (hl : statesAt m v0 l) :
    Calls Tryd.prog 10 #[.agg #[v0]] w fun e w' => e = .returned (.bool (tf (SmallT l))) ∧ Below w.heap.size w w' := by
  obtain ⟨a, c, rfl, h1, h2, h3⟩ := hl
  unfold maxLen at h2
  refine calls_hide fun R hR => ?_
  go_enter Tryd.func10, Tryd.ntmps10
  go_wp2
  refine wp_loop_keep [1, 6, 7, 8] (fun n vs wr => ∃ k : Nat, k ≤ l.length ∧ n = l.length - k ∧ vs = [.pointer (some ⟨w.heap.size, 0, none⟩), .slice a l.length c, .int .i64 l.length, .int .i64 k] ∧
    Own w m wr m [.obj w.heap.size 24 #[.slice a l.length c]] ∧ ∀ j, (h : j < k) → (h' : j < l.length) → (l[j]).edges.length ≤ 10) ?_ ?_
  · exact ⟨_, 0, Nat.zero_le _, rfl, rfl, (Own.start hm).al _ _, fun j h => by omega⟩
  rintro X z n vs wr hX - ⟨k, hk, rfl, rfl, hO, hall⟩
  simp [litL, lk]
  have HA := Lib.hid hall
  clear hall
  by_cases hlt : k < l.length
  · obtain ⟨b, off, rfl, h4⟩ := h3 (by intro h; simp [h] at hlt)
    obtain ⟨g1, ve, g2, ea, ec, rfl, g4, g5, g6⟩ := h4 k hlt
    have c1 := Mem.cell_w hO.inn g1
    have c2 := Mem.cell_w hO.inn g2
    have c3 := Mem.cell_lt hO.inn g1
    unfold maxLen at g5
    have HO := Lib.hid (hO.al' (.cells #[.bool l[k].accept, .slice ea l[k].edges.length ec] 48))
    clear hO h3 h4
    by_cases hbig : 10 < l[k].edges.length
    · have hdec : decide ((10 : Int) < (l[k].edges.length : Int)) = true := decide_eq_true (by omega)
      have Hb := Lib.hid hbig
      clear hbig
      go_wp2
      refine hR.out _ _ ⟨ret_bool ?_, HO.out.below⟩
      rw [tf_false]
      intro hs
      have := hs.1 l[k] (List.getElem_mem hlt)
      have := Hb.out
      omega
    · have hdec : decide ((10 : Int) < (l[k].edges.length : Int)) = false := decide_eq_false (by omega)
      go_wp2
      refine hX.out _ _ _ (by omega) rfl ⟨k + 1, by omega, rfl, rfl, HO.out, fun j hj hj' => ?_⟩
      by_cases e : j = k
      · subst e; omega
      · exact HA.out j (by omega) hj'
  · obtain rfl : k = l.length := by omega
    have g1 := hO.obj.cell (i := 0) rfl
    have g2 := hO.obj.lt
    have HO := Lib.hid hO
    clear hO
    go_wp2
    refine hR.out _ _ ⟨ret_bool ?_, HO.out.below⟩
    by_cases h8 : l.length ≤ 8
    · rw [decide_eq_true (by omega), tf_true]
      exact ⟨fun s hs => by obtain ⟨i, hi, rfl⟩ := List.mem_iff_getElem.1 hs; exact HA.out i hi hi, h8⟩
    · rw [decide_eq_false (by omega), tf_false]
      exact fun h => h8 h.2

theorem want_any (op : Nat) (x y : Bool) (w : World) (f : Bool → Bool → Bool) (h : op = 38 ∧ f = (fun x y => x && y) ∨ op = 124 ∧ f = (fun x y => x || y) ∨ op = 45 ∧ f = (fun x y => x && !y)) :
    Calls Tryd.prog 63 #[.int .u8 op, .bool x, .bool y] w fun e w' => e = .returned (.bool (f x y)) ∧ Below w.heap.size w w' := by
  refine calls_hide fun R hR => ?_
  rcases h with ⟨rfl, rfl⟩ | ⟨rfl, rfl⟩ | ⟨rfl, rfl⟩
  all_goals
    cases x <;> cases y
    all_goals
      go_enter Tryd.func63, Tryd.ntmps63
      go_wp2
      exact hR.out _ _ ⟨rfl, Below.refl _ _⟩

theorem accFrom_drop {l : Table} (u : List UInt8) (i : Nat) (_ : i < u.length) : accFrom l (runTo l 0 (u.take i)) (u.drop i) = accFrom l (runTo l 0 (u.take (i + 1))) (u.drop (i + 1)) := by
  rw [← accFrom_app, ← accFrom_app, List.take_append_drop, List.take_append_drop]
theorem runTo_app (l : Table) : ∀ (u v : List UInt8) (s : Int), runTo l s (u ++ v) = runTo l (runTo l s u) v
  | [], _, _ => rfl
  | _ :: u, v, _ => runTo_app l u v _
theorem runTo_range {l : Table} (h : WF l) : ∀ (u : List UInt8) (s : Int), -1 ≤ s → s < l.length → -1 ≤ runTo l s u ∧ runTo l s u < l.length
  | [], s, h1, h2 => ⟨h1, h2⟩
  | b :: u, s, h1, h2 => by
    have := tstep_range h s b.toNat
    exact runTo_range h u _ (by omega) (by omega)

set_option maxRecDepth 100000 in
set_option maxHeartbeats 2000000 in
theorem r05Accepts_any (v0 : Value) (l : Table) (s : ByteArray) (m : Mem) (w : World) (hm : m.inn w) (hl : statesAt m v0 l) (hs : s.size ≤ maxLen) :
    Calls Tryd.prog 31 #[.agg #[v0], .string s] w fun e w' => e = .returned (.bool (tf (WF l) && accFrom l 0 s.data.toList)) ∧ Below w.heap.size w w' := by
  have hl0 := hl
  obtain ⟨a, c, rfl, h1, h2, h3⟩ := hl
  unfold maxLen at h2 hs
  have hO := (Own.start hm).al #[.slice a l.length c] 24
  have HW := Lib.hid (Wellformed_any (.slice a l.length c) l m _ hO.inn hl0)
  have HO := Lib.hid hO
  clear hO
  refine calls_hide fun R hR => ?_
  go_enter Tryd.func31, Tryd.ntmps31
  go_wp2_with fail
  refine HW.out.mono ?_
  rintro e w1 ⟨rfl, hb1⟩
  have hO1 := HO.out.move hb1
  have g1 := hO1.obj.cell (i := 0) rfl
  have g2 := hO1.obj.lt
  clear HO hb1
  by_cases hwf : WF l
  · rw [tf_true hwf]
    by_cases h0 : l.length = 0
    · have hdec : ((l.length : Int) == 0) = true := by simp [h0]
      have Hk := Lib.hid (And.intro h0 hO1)
      clear h0 hO1
      go_wp2
      refine hR.out _ _ ⟨ret_bool ?_, Hk.out.2.below⟩
      rw [tf_true hwf, accFrom_out l 0 _ (by have := Hk.out.1; omega)]; rfl
    · have hdec : ((l.length : Int) == 0) = false := beq_eq_false_iff_ne.2 (by omega)
      have HO1 := Lib.hid hO1
      clear hO1
      go_wp2
      refine wp_loop_keep [1, 2, 5, 6] (fun n vs wr => ∃ (k : Nat), k ≤ s.size ∧ n = s.size - k ∧ vs = [.string s, .pointer (some ⟨w.heap.size, 0, none⟩), .int .i64 (runTo l 0 (s.data.toList.take k)), .int .i64 k] ∧
        Own w m wr m [.obj w.heap.size 24 #[.slice a l.length c]]) ?_ ?_
      · exact ⟨_, 0, Nat.zero_le _, rfl, rfl, HO1.out⟩
      clear HO1 g1 g2
      rintro X z n vs wr hX - ⟨k, hk, rfl, rfl, hO⟩
      simp [litL, lk]
      have g1 := hO.obj.cell (i := 0) rfl
      have g2 := hO.obj.lt
      have hrng := runTo_range hwf (s.data.toList.take k) 0 (by omega) (by omega)
      by_cases hlt : k < s.size
      · have hnext : runTo l 0 (s.data.toList.take (k + 1)) = tstep l (runTo l 0 (s.data.toList.take k)) (s[k]).toNat := by
          have : s.data.toList.take (k + 1) = s.data.toList.take k ++ [s[k]] := by
            rw [List.take_succ_eq_append_getElem (by simpa using hlt)]; rfl
          rw [this, runTo_app]; rfl
        have Hn := Lib.hid hnext
        clear hnext
        generalize runTo l 0 (s.data.toList.take k) = at0 at *
        have HS := Lib.hid (fun w (hw : m.inn w) => Step_any (.slice a l.length c) l at0 (s[k]).toNat m w hw hl0 (by omega) (by omega))
        have HO := Lib.hid hO
        go_wp2
        refine wp_region_T (fun w' => ObjAt w' w.heap.size 24 #[.slice a l.length c]) 7 (by kernel_rfl) ?_
        have hO2 := HO.out.dr
        have hS := hO2.obj
        refine wpAnyT_take 0 rfl (by kernel_rfl) (fun _ _ _ h => h) hS (yields_of rfl fun w' hS' => by have q := hS'.cell (i := 0) rfl; go_simp; rfl) ?_
        refine wpAnyT_take 1 rfl (by kernel_rfl) (fun _ _ _ h => h) hS (yields_of rfl fun w' hS' => by have q := hS'.cell (i := 0) rfl; go_simp; rfl) ?_
        refine wpAnyT_take 2 rfl (by kernel_rfl) (fun _ _ _ h => h) hS (yields_of rfl fun w' hS' => by have q := hS'.cell (i := 0) rfl; go_simp; rfl) ?_
        refine wpAnyT_take 3 rfl (by kernel_rfl) (fun _ _ _ h => h) hS (yields_of rfl fun w' hS' => by have q := hS'.cell (i := 0) rfl; go_simp; rfl) ?_
        refine wpAnyT_take 4 rfl (by kernel_rfl) (fun _ _ _ h => h) hS (yields_of rfl fun w' hS' => by have q := hS'.cell (i := 0) rfl; go_simp; rfl) ?_
        refine wpAnyT_take 5 rfl (by kernel_rfl) (fun _ _ _ h => h) hS (yields_of rfl fun w' hS' => by have q := hS'.cell (i := 0) rfl; go_simp; rfl) ?_
        refine wpAnyT_only 6 (by kernel_rfl) (wpOp_of rfl rfl (wp_enter (by go_simp) (HS.out _ hO2.inn) ?_))
        rintro e w3 ⟨rfl, hb3⟩
        have hO3 := hO2.move hb3
        refine ⟨_, rfl, andS hO3.obj fun hS1 => ?_⟩
        go_simp
        refine wpAnyT_only 7 (by kernel_rfl) (wpOp_of rfl rfl (wp_value (by go_simp; first | exact ⟨rfl, rfl⟩ | rfl) (andLast rfl ?_)))
        refine wpAnyT_done (by kernel_rfl) ?_ _
        have HO3 := Lib.hid hO3
        clear hO3 hO2 hS hS1 hb3
        go_wp2
        refine hX.out _ _ _ (by omega) rfl ⟨k + 1, by omega, rfl, ?_, HO3.out⟩
        rw [Hn.out]; rfl
      · obtain rfl : k = s.size := by omega
        have hfull : s.data.toList.take s.size = s.data.toList := List.take_of_length_le (by simp)
        rw [hfull] at hrng ⊢
        have hacc : accAt l (runTo l 0 s.data.toList) = accFrom l 0 s.data.toList := by
          have := accFrom_app l s.data.toList [] 0
          rw [List.append_nil] at this
          rw [this]; rfl
        have Hacc := Lib.hid hacc
        clear hacc hfull
        generalize runTo l 0 s.data.toList = at0 at *
        have HO := Lib.hid hO
        by_cases hneg : at0 < 0
        · have Hneg := Lib.hid (accFrom_neg (l := l) hneg [])
          have hdec : decide (0 ≤ at0) = false := decide_eq_false (by omega)
          clear hO
          go_wp2
          refine hR.out _ _ ⟨ret_bool ?_, HO.out.below⟩
          rw [tf_true hwf, ← Hacc.out]
          have := Hneg.out
          simp only [accFrom] at this
          rw [this]; rfl
        · obtain ⟨sn, rfl⟩ := Int.eq_ofNat_of_zero_le (by omega : 0 ≤ at0)
          have hsn : sn < l.length := by omega
          obtain ⟨b, off, rfl, h4⟩ := h3 (by intro h; simp [h] at hsn)
          have c1 := (h4 sn hsn).1
          have c2 := Mem.cell_w hO.inn c1
          have c3 := Mem.cell_lt hO.inn c1
          have Ha := Lib.hid (accAt_nat l sn hsn)
          clear c1 hO
          go_wp2
          refine hR.out _ _ ⟨ret_bool ?_, HO.out.below⟩
          rw [tf_true hwf, ← Hacc.out, Ha.out]; rfl
  · rw [tf_false hwf]
    have Hk := Lib.hid hO1
    clear hO1
    go_wp2
    exact hR.out _ _ ⟨ret_bool (by rw [tf_false hwf]; rfl), Hk.out.below⟩
end Cl
namespace Cl
open Go Go.RowKit Go.Proofs

def allT : Table := [⟨true, [⟨0, 255, 0⟩]⟩]

set_option maxRecDepth 100000 in
set_option maxHeartbeats 1000000 in
theorem auAll_obj (w : World) :
    Calls Tryd.prog 47 #[] w fun e w' => ∃ g1 g2, e = .returned (.agg #[.slice (some ⟨g2, 0, none⟩) 1 1]) ∧ Below w.heap.size w w' ∧ w.heap.size ≤ g1 ∧ w.heap.size ≤ g2 ∧ g1 ≠ g2 ∧
      ObjAt w' g1 51 #[.int .u8 0, .int .u8 255, .int .i64 0] ∧ ObjAt w' g2 48 #[.bool true, .slice (some ⟨g1, 0, none⟩) 1 1] := by
  refine calls_hide fun R hR => ?_
  go_enter Tryd.func47, Tryd.ntmps47
  go_wp2
  refine bodyPost_ret (v := .agg #[.slice (some ⟨w.heap.size + 1 + 1, 0, none⟩) 1 1]) (by simp [results, Tryd.results47, go_sem]) rfl ?_
  refine hR.out _ _ ⟨_, _, rfl, below_al (below_al (below_al (Below.refl _ _) _) _) _, ?_, ?_, ?_, (ObjAt.new _ _ _).al _, ?_⟩
  · simp <;> omega
  · omega
  · simp <;> omega
  · have := ObjAt.new ((w.alloc (Obj.cells #[Value.slice (some { block := w.heap.size + 1 + 1, off := 0 }) 1 1] 24)).alloc (Obj.cells #[Value.int IntKind.u8 0, Value.int IntKind.u8 255, Value.int IntKind.i64 0] 51)) 48 #[Value.bool true, Value.slice (some { block := w.heap.size + 1, off := 0 }) 1 1]
    simpa using this
set_option maxRecDepth 100000 in
set_option maxHeartbeats 1000000 in
theorem r05All_obj (w : World) :
    Calls Tryd.prog 29 #[] w fun e w' => ∃ g1 g2, e = .returned (.agg #[.slice (some ⟨g2, 0, none⟩) 1 1]) ∧ Below w.heap.size w w' ∧ w.heap.size ≤ g1 ∧ w.heap.size ≤ g2 ∧ g1 ≠ g2 ∧
      ObjAt w' g1 51 #[.int .u8 0, .int .u8 255, .int .i64 0] ∧ ObjAt w' g2 48 #[.bool true, .slice (some ⟨g1, 0, none⟩) 1 1] := by
  refine calls_hide fun R hR => ?_
  go_enter Tryd.func29, Tryd.ntmps29
  go_wp2
  refine bodyPost_ret (v := .agg #[.slice (some ⟨w.heap.size + 1 + 1, 0, none⟩) 1 1]) (by simp [results, Tryd.results29, go_sem]) rfl ?_
  refine hR.out _ _ ⟨_, _, rfl, below_al (below_al (below_al (Below.refl _ _) _) _) _, ?_, ?_, ?_, (ObjAt.new _ _ _).al _, ?_⟩
  · simp <;> omega
  · omega
  · simp <;> omega
  · have := ObjAt.new ((w.alloc (Obj.cells #[Value.slice (some { block := w.heap.size + 1 + 1, off := 0 }) 1 1] 24)).alloc (Obj.cells #[Value.int IntKind.u8 0, Value.int IntKind.u8 255, Value.int IntKind.i64 0] 51)) 48 #[Value.bool true, Value.slice (some { block := w.heap.size + 1, off := 0 }) 1 1]
    simpa using this
end Cl
namespace Cl
open Go Go.RowKit Go.Proofs

set_option maxRecDepth 100000 in
set_option maxHeartbeats 1000000 in
theorem copied_any (v0 : Value) (l : Table) (m : Mem) (w : World) (hm : m.inn w) (hl : statesAt m v0 l) (hlen : l.length ≤ 1000000) (hlen2 : ∀ s ∈ l, s.edges.length ≤ 1000000) :
    Calls Tryd.prog 38 #[.agg #[v0]] w fun e w' => ∃ r, e = .returned (.agg #[r]) ∧ Below w.heap.size w w' ∧ statesAt (m.grow w w') r l := by
  obtain ⟨a, c, rfl, h1, h2, h3⟩ := hl
  unfold maxLen at h2
  refine calls_hide fun R hR => ?_
  go_enter Tryd.func38, Tryd.ntmps38
  go_wp2
  refine wp_loop_keep [2, 3, 7, 8, 9] (fun n vs wr => ∃ (k : Nat) (v : Value) (xs : List Value) (mk : Mem), k ≤ l.length ∧ n = l.length - k ∧ vs = [.pointer (some ⟨w.heap.size + 1, 0, none⟩), .pointer (some ⟨w.heap.size + 2, 0, none⟩), .slice a l.length c, .int .i64 l.length, .int .i64 k] ∧
    Own w m wr mk [.obj (w.heap.size + 2) 24 #[v], .row v 48 2 k xs, .obj (w.heap.size + 1) 24 #[.slice none 0 0]] ∧ StRow mk xs (l.take k)) ?_ ?_
  · refine ⟨_, 0, .slice none 0 0, [], m, Nat.zero_le _, rfl, rfl, ?_, StRow.nil m⟩
    have := ((((Own.start hm).al' (.cells #[.slice a l.length c] 24)).al #[.slice none 0 0] 24).al #[.slice none 0 0] 24).nilRow 48 2
    simpa using this.swap
  rintro X z n vs wr hX - ⟨k, v, xs, mk, hk, rfl, rfl, hO, hrow⟩
  simp [litL, lk]
  have ho2 := hO.obj
  by_cases hlt : k < l.length
  · obtain ⟨b, off, rfl, h4⟩ := h3 (by intro h; simp [h] at hlt)
    have hmr := Mem.inn_le hO.ext.le hO.inn
    obtain ⟨g1, ve, g2, g3⟩ := h4 k hlt
    have hc1 := Mem.cell_w hmr g1
    have hc2 := Mem.cell_w hmr g2
    have hb := Mem.cell_lt hmr g1
    have hC := fun w1 (h : mk.inn w1) => Clone_any ve l[k].edges mk w1 h (edgesAt_le hO.ext.le g3) (by have := hlen2 l[k] (List.getElem_mem hlt); omega)
    have HC := Lib.hid hC
    clear hC
    obtain ⟨ea, ec, rfl, -⟩ := g3
    have l1 := ho2.lt
    go_wp2
    have hO1 := (hO.al #[.bool l[k].accept, .slice ea l[k].edges.length ec] 48).dr
    refine wp_region_T (fun w' => ObjAt w' (w.heap.size + 2) 24 #[v] ∧ ObjAt w' wr.heap.size 48 #[.bool l[k].accept, .slice ea l[k].edges.length ec]) 11 (by kernel_rfl) ?_
    have hS := And.intro hO1.swap.obj hO1.obj
    refine wpAnyT_take 0 rfl (by kernel_rfl) (fun _ _ _ h => h) hS (yields_of rfl fun w' hS' => by have q := hS'.1.cell (i := 0) rfl; have q1 := hS'.2.cell (i := 0) rfl; have q2 := hS'.2.cell (i := 1) rfl; go_simp; rfl) ?_
    refine wpAnyT_take 1 rfl (by kernel_rfl) (fun _ _ _ h => h) hS (yields_of rfl fun w' hS' => by have q := hS'.1.cell (i := 0) rfl; have q1 := hS'.2.cell (i := 0) rfl; have q2 := hS'.2.cell (i := 1) rfl; go_simp; rfl) ?_
    refine wpAnyT_take 2 rfl (by kernel_rfl) (fun _ _ _ h => h) hS (yields_of rfl fun w' hS' => by have q := hS'.1.cell (i := 0) rfl; have q1 := hS'.2.cell (i := 0) rfl; have q2 := hS'.2.cell (i := 1) rfl; go_simp; rfl) ?_
    refine wpAnyT_take 3 rfl (by kernel_rfl) (fun _ _ _ h => h) hS (yields_of rfl fun w' hS' => by have q := hS'.1.cell (i := 0) rfl; have q1 := hS'.2.cell (i := 0) rfl; have q2 := hS'.2.cell (i := 1) rfl; go_simp; rfl) ?_
    refine wpAnyT_take 4 rfl (by kernel_rfl) (fun _ _ _ h => h) hS (yields_of rfl fun w' hS' => by have q := hS'.1.cell (i := 0) rfl; have q1 := hS'.2.cell (i := 0) rfl; have q2 := hS'.2.cell (i := 1) rfl; go_simp; rfl) ?_
    refine wpAnyT_take 5 rfl (by kernel_rfl) (fun _ _ _ h => h) hS (yields_of rfl fun w' hS' => by have q := hS'.1.cell (i := 0) rfl; have q1 := hS'.2.cell (i := 0) rfl; have q2 := hS'.2.cell (i := 1) rfl; go_simp; rfl) ?_
    refine wpAnyT_only 6 (by kernel_rfl) (wpOp_of rfl rfl (wp_enter (by go_simp) (HC.out _ hO1.inn) ?_))
    rintro e w1 ⟨r, rfl, hb1, hr1⟩
    have hO2 := hO1.call hb1
    refine ⟨r, rfl, andS (And.intro hO2.swap.obj hO2.obj) fun hS1 => ?_⟩
    obtain ⟨ra, rc, rfl⟩ : ∃ ra rc, r = .slice ra l[k].edges.length rc := by obtain ⟨x, y, e, -⟩ := hr1; exact ⟨x, y, e⟩
    refine wpAnyT_take 7 rfl (by kernel_rfl) (fun _ _ _ h => h) hS1 (yields_of rfl fun w' hS' => by go_simp; rfl) ?_
    refine wpAnyT_only 8 (by kernel_rfl) (wpOp_of rfl rfl (wp_value (by go_simp; exact ⟨rfl, rfl⟩) (andS (And.intro (hO2.swap.obj.al _) (hO2.obj.al _)) fun hS2 => ?_)))
    go_simp
    have hO3 := hO2.al #[.bool l[k].accept, .slice ra l[k].edges.length rc] 48
    refine wpAnyT_only 9 (by kernel_rfl) (wpOp_of rfl rfl (wp_append_row tyStates (.tmp 14) (.tmp 21) rfl v k xs rfl hO3.fourth.row ⟨w1.heap.size, 0, none⟩ 1 1 [.bool l[k].accept, .slice ra l[k].edges.length rc] rfl rfl (hO3.obj.news rfl) (by simp [Value.oneCell']) (by unfold maxLen; omega) (by omega) (fun va vc w3 hown3 hgrow hrow3 => ?_)))
    have hO4 := hO3.fourth.app hown3 hgrow hrow3 (Nat.le_refl _)
    refine andS (And.intro hO4.fourth.obj hO4.third.obj) fun hS3 => ?_
    refine wpAnyT_take 10 rfl (by kernel_rfl) (fun _ _ _ h => h) hS3 (yields_of rfl fun w' hS' => by go_simp; rfl) ?_
    have f3 := hS3.1.frozen 0
    have c3 := hS3.1.cell (i := 0) rfl
    refine wpAnyT_only 11 (by kernel_rfl) (wpOp_of rfl rfl (wp_skipped (by go_simp; rfl) (andLast rfl ?_)))
    refine wpAnyT_done (by kernel_rfl) ?_ _
    have hO5 := hO4.fourth.set 0 (.slice va (k + 1) vc)
    have hrow5 := (hrow.mono (Mem.le_grow hO1.inn)).push (s := l[k]) hr1
    rw [← List.take_succ_eq_append_getElem hlt] at hrow5
    have Hfin := Lib.hid (And.intro hO5.drop3.drop3 hrow5)
    clear hO5 hrow5 hO4 hO3 hO2 hO1 hO hown3 hgrow hrow3 hS hS1 hS2 hS3 f3 c3 ho2 hrow hb1
    go_wp2
    exact hX.out _ _ _ (by omega) rfl ⟨k + 1, _, _, _, by omega, rfl, rfl, Hfin.out.1, Hfin.out.2⟩
  · obtain rfl : k = l.length := by omega
    have c1 := hO.obj.cell (i := 0) rfl
    have g3 := hO.third.obj.cell (i := 0) rfl
    have g4 := hO.third.obj.frozen 0
    obtain ⟨va, vc, rfl⟩ := row_slice hO.swap.row
    have hO4 := hO.third.set 0 (.slice va l.length vc)
    have hst := statesAt_of_row (l := l) hO4.third.row (by rw [List.take_length] at hrow; exact hrow) hO4.third.free
    have hfin := statesAt_le hO4.third.sealRow.done hst
    have Hfin := Lib.hid (And.intro hO4.below hfin)
    clear hst hfin hO4 hO ho2 hrow
    go_wp2
    refine bodyPost_ret (v := .agg #[.slice va l.length vc]) (by simp [results, Tryd.results38, go_sem, g3]) rfl ?_
    exact hR.out _ _ ⟨_, rfl, Hfin.out.1, Hfin.out.2⟩
end Cl

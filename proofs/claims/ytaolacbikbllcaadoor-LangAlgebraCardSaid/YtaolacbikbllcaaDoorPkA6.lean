/- Lemmas for the proofs: WalkB, WalkC2, WalkC, WalkK, WalkQ, WalkR, WalkS, WalkT, WalkU. -/
import Derived.Test.YtaolacbikbllcaaDoorPkA2
import Derived.Test.YtaolacbikbllcaaDoorPkA1
import Derived.Test.YtaolacbikbllcaaDoorPkA4
import Derived.Test.YtaolacbikbllcaaDoorPkA3
import Derived.Test.YtaolacbikbllcaaDoorPkA5
namespace Cl
open Go Go.RowKit Go.Proofs

theorem Ed_ext (e f : Ed) : e = f ↔ (e.lo = f.lo ∧ e.hi = f.hi ∧ e.to = f.to) := by
  cases e; cases f; simp
theorem fieldsEdge : (Tryd.prog.fieldsOf 51).toList = [⟨"Lo", 5, 0, false, "", "", 0⟩, ⟨"Hi", 5, 1, false, "", "", 1⟩, ⟨"To", 3, 2, false, "", "", 8⟩] := by
  kernel_rfl
theorem stoodEdge : Tryd.prog.stoodInHeld 51 = false := by kernel_rfl
theorem guardEdge : Tryd.prog.eqGuardType Tryd.prog.depth 51 = false := by kernel_rfl
theorem undEdge : Tryd.prog.underlying 51 = some (.struct (Tryd.prog.fieldsOf 51)) := by kernel_rfl
theorem edge_eqIn (a b c a' b' c' : Int) (w : World) : (Op.equalIn 10000 51 (.agg #[.int .u8 a, .int .u8 b, .int .i64 c]) (.agg #[.int .u8 a', .int .u8 b', .int .i64 c'])).run Tryd.prog w = .ok (a == a' && (b == b' && c == c')) w := by
  rw [run_equalIn_agg w 9999 51 _ _ undEdge stoodEdge, fieldsEdge]
  have e1 := fun (d : Nat) (a b : Int) (w : World) => run_equalIn_int (P := Tryd.prog) w d 5 .u8 .u8 a b Tryd.underlying5
  have e2 := fun (d : Nat) (a b : Int) (w : World) => run_equalIn_int (P := Tryd.prog) w d 3 .i64 .i64 a b Tryd.underlying3
  simp only [Op.eqFields]
  simp [isAgg, go_sem, e1, e2]
  by_cases h1 : a = a' <;> by_cases h2 : b = b' <;> by_cases h3 : c = c' <;> simp [h1, h2, h3]
theorem edge_neq (a b c a' b' c' : Int) (w : World) : (binOp .neq 51 (.agg #[.int .u8 a, .int .u8 b, .int .i64 c]) (.agg #[.int .u8 a', .int .u8 b', .int .i64 c'])).run Tryd.prog w = .ok (.bool (!(a == a' && (b == b' && c == c')))) w := by
  rw [run_neq_struct, edge_eqIn]
  rfl

set_option maxRecDepth 100000 in
set_option maxHeartbeats 400000 in
theorem Index_bool_any (v : Value) (l : List Bool) (x : Bool) (m : Mem) (w : World) (hm : m.inn w) (hl : boolsAt m v l) :
    Calls Tryd.prog 73 #[v, .bool x] w fun e w' => e = .returned (.int .i64 (firstIdx (fun y => x = y) l 0)) ∧ Below w.heap.size w w' := by
  obtain ⟨a, c, rfl, h1, h2, h3⟩ := hl
  unfold maxLen at h2
  refine calls_hide fun R hR => ?_
  go_enter Tryd.func73, Tryd.ntmps73
  go_wp2
  refine wp_loop_keep [0, 1, 7, 8] (fun n vs wr => ∃ k : Nat, k ≤ l.length ∧ n = l.length - k ∧ vs = [.slice a l.length c, .bool x, .int .i64 l.length, .int .i64 k] ∧ firstIdx (fun y => x = y) l 0 = firstIdx (fun y => x = y) (l.drop k) k ∧ Below w.heap.size w wr) ?_ ?_
  · exact ⟨_, 0, Nat.zero_le _, rfl, rfl, rfl, Below.refl _ _⟩
  rintro X z n vs wr hX - ⟨k, hk, rfl, rfl, hrel, hbel⟩
  simp [litL, lk]
  have hmr := Mem.inn_below hm hbel
  by_cases hlt : k < l.length
  · obtain ⟨b, off, rfl, h4⟩ := h3 (by intro h; simp [h] at hlt)
    have c1 := Mem.cell_w hmr (h4 k hlt)
    have HD := Lib.hid (firstIdx_drop (fun y => x = y) l k hlt)
    go_wp2
    all_goals first
      | exact hR.out _ _ ⟨ret_int (by rw [hrel, HD.out, if_pos (tf_true (by simp_all))]), hbel⟩
      | exact hX.out _ _ _ (by omega) rfl ⟨k + 1, by omega, rfl, rfl, by rw [hrel, HD.out, if_neg (by rw [tf_false (by simp_all)]; simp)], hbel⟩
  · go_wp2
    exact hR.out _ _ ⟨ret_int (by rw [hrel, List.drop_eq_nil_of_le (by omega)]; rfl), hbel⟩

set_option maxRecDepth 100000 in
set_option maxHeartbeats 400000 in
theorem Contains_bool_any (v : Value) (l : List Bool) (x : Bool) (m : Mem) (w : World) (hm : m.inn w) (hl : boolsAt m v l) :
    Calls Tryd.prog 45 #[v, .bool x] w fun e w' => e = .returned (.bool (tf (x ∈ l))) ∧ Below w.heap.size w w' := by
  have hc := Index_bool_any v l x m w hm hl
  have hs := firstIdx_spec (fun y => x = y) l 0
  refine calls_hide fun R hR => ?_
  generalize hr : firstIdx (fun y => x = y) l 0 = r at *
  have Hs := Lib.hid hs
  clear hs
  go_enter Tryd.func45, Tryd.ntmps45
  go_wp2_with fail
  refine hc.mono ?_
  rintro e w' ⟨rfl, hbel⟩
  go_wp2
  refine hR.out _ _ ⟨ret_bool ?_, hbel⟩
  rcases Hs.out with ⟨h1, h2⟩ | ⟨i, h1, h2, h3, -⟩
  · rw [tf_false (fun h => h2 x h rfl)]; simp [h1]
  · rw [tf_true (by rw [h3]; exact List.getElem_mem h1)]; simp [h2]

set_option maxRecDepth 100000 in
set_option maxHeartbeats 1000000 in
theorem Equal_edges_any (v v' : Value) (l l' : List Ed) (m : Mem) (w : World) (hm : m.inn w) (hl : edgesAt m v l) (hl' : edgesAt m v' l') :
    Calls Tryd.prog 95 #[v, v'] w fun e w' => e = .returned (.bool (tf (l = l'))) ∧ Below w.heap.size w w' := by
  obtain ⟨a, c, rfl, h1, h2, h3⟩ := hl
  obtain ⟨a', c', rfl, h1', h2', h3'⟩ := hl'
  unfold maxLen at h2 h2'
  refine calls_hide fun R hR => ?_
  by_cases hlen : l.length = l'.length
  · have hne : ((l.length : Int) != (l'.length : Int)) = false := by simp [hlen]
    have Hlen := Lib.hid hlen
    clear hlen
    go_enter Tryd.func95, Tryd.ntmps95
    go_wp2
    refine wp_loop_keep [0, 1, 12, 13] (fun n vs wr => ∃ k : Nat, k ≤ l.length ∧ n = l.length - k ∧ vs = [.slice a l.length c, .slice a' l'.length c', .int .i64 l.length, .int .i64 k] ∧ (l = l' ↔ l.drop k = l'.drop k) ∧ Below w.heap.size w wr) ?_ ?_
    · exact ⟨_, 0, Nat.zero_le _, rfl, rfl, Iff.rfl, Below.refl _ _⟩
    rintro X z n vs wr hX - ⟨k, hk, rfl, rfl, hrel, hbel⟩
    have Hrel := Lib.hid hrel
    clear hrel
    simp [litL, lk]
    have hmr := Mem.inn_below hm hbel
    by_cases hlt : k < l.length
    · have hlt' : k < l'.length := by rw [← Hlen.out]; exact hlt
      obtain ⟨b, off, rfl, h4⟩ := h3 (by intro h; simp [h] at hlt)
      obtain ⟨b', off', rfl, h4'⟩ := h3' (by intro h; simp [h] at hlt')
      obtain ⟨g1, g2, g3, -⟩ := h4 k hlt
      obtain ⟨g1', g2', g3', -⟩ := h4' k hlt'
      have c1 := Mem.cell_w hmr g1
      have c2 := Mem.cell_w hmr g2
      have c3 := Mem.cell_w hmr g3
      have c1' := Mem.cell_w hmr g1'
      have c2' := Mem.cell_w hmr g2'
      have c3' := Mem.cell_w hmr g3'
      have HD := Lib.hid (list_step l l' k hlt hlt')
      have hq := fun w => edge_eqIn (l[k].lo) (l[k].hi) (l[k].to) (l'[k].lo) (l'[k].hi) (l'[k].to) w
      have hgd := guardEdge
      have He := Lib.hid (Ed_ext l[k] l'[k])
      go_wp2
      go_quiet (fail)
      go_wp2
      · refine hR.out _ _ ⟨ret_bool ?_, below_drewN hbel _⟩
        rw [tf_false]
        intro h
        have h5 := He.out.1 (HD.out.1 (Hrel.out.1 h)).1
        have h6 := ‹(!(l[k].lo : Int) == (l'[k].lo : Int)) = true ∨ _›
        simp [h5] at h6
      · refine hX.out _ _ _ (by omega) rfl ⟨k + 1, by omega, rfl, rfl, ?_, below_drewN hbel _⟩
        have h6 := ‹(!(l[k].lo : Int) == (l'[k].lo : Int)) = false ∧ _›
        simp at h6
        exact Hrel.out.trans (HD.out.trans ⟨fun h => h.2, fun h => ⟨He.out.2 (by omega), h⟩⟩)
    · go_wp2
      refine hR.out _ _ ⟨ret_bool ?_, hbel⟩
      rw [tf_true (Hrel.out.2 ?_)]
      rw [List.drop_eq_nil_of_le (by omega), List.drop_eq_nil_of_le (by rw [← Hlen.out]; omega)]
  · have hne : ((l.length : Int) != (l'.length : Int)) = true := by simp; omega
    go_enter Tryd.func95, Tryd.ntmps95
    go_wp2
    exact hR.out _ _ ⟨ret_bool (by rw [tf_false (fun h => hlen (by rw [h]))]), Below.refl _ _⟩

theorem Sn_ext (e f : Sn) : e = f ↔ (e.accept = f.accept ∧ e.edges = f.edges) := by
  cases e; cases f; simp

set_option maxRecDepth 100000 in
set_option maxHeartbeats 1000000 in
theorem Same1_any (p p' : Bool) (v v' : Value) (l l' : List Ed) (m : Mem) (w : World) (hm : m.inn w) (hl : edgesAt m v l) (hl' : edgesAt m v' l') :
    Calls Tryd.prog 94 #[.agg #[.bool p, v], .agg #[.bool p', v']] w fun e w' => e = .returned (.bool (tf ((⟨p, l⟩ : Sn) = ⟨p', l'⟩))) ∧ Below w.heap.size w w' := by
  refine calls_hide fun R hR => ?_
  have hb0 : Below w.heap.size w ((w.alloc (.cells #[.bool p, v] 48)).alloc (.cells #[.bool p', v'] 48)) := below_al (below_al (Below.refl _ _) _) _
  have hc := Equal_edges_any v v' l l' m _ (Mem.inn_below hm hb0) hl hl'
  obtain ⟨a, c, rfl, -⟩ := hl
  obtain ⟨a', c', rfl, -⟩ := hl'
  by_cases hp : p = p'
  · have hd : (p == p') = true := by simp [hp]
    have Hp := Lib.hid hp
    clear hp
    go_enter Tryd.func94, Tryd.ntmps94
    go_wp2_with fail
    refine hc.mono ?_
    rintro e w' ⟨rfl, hbel⟩
    go_wp2
    refine hR.out _ _ ⟨ret_bool (tf_congr ?_), below_then hb0 hbel⟩
    simp [Hp.out]
  · have hd : (p == p') = false := by simp [hp]
    go_enter Tryd.func94, Tryd.ntmps94
    go_wp2
    refine hR.out _ _ ⟨ret_bool ?_, hb0⟩
    rw [tf_false]
    simp [hp]
end Cl
namespace Cl
open Go Go.RowKit Go.Proofs

set_option maxRecDepth 100000 in
set_option maxHeartbeats 1000000 in
theorem r05Same_any (v v' : Value) (l l' : Table) (m : Mem) (w : World) (hm : m.inn w) (hl : statesAt m v l) (hl' : statesAt m v' l') :
    Calls Tryd.prog 12 #[.agg #[v], .agg #[v']] w fun e w' => e = .returned (.bool (tf (l = l'))) ∧ Below w.heap.size w w' := by
  refine calls_hide fun R hR => ?_
  have hb0 : Below w.heap.size w ((w.alloc (.cells #[v] 24)).alloc (.cells #[v'] 24)) := below_al (below_al (Below.refl _ _) _) _
  obtain ⟨a, c, rfl, h1, h2, h3⟩ := hl
  obtain ⟨a', c', rfl, h1', h2', h3'⟩ := hl'
  unfold maxLen at h2 h2'
  by_cases hlen : l.length = l'.length
  · have hne : ((l.length : Int) != (l'.length : Int)) = false := by simp [hlen]
    have Hlen := Lib.hid hlen
    clear hlen
    go_enter Tryd.func12, Tryd.ntmps12
    go_wp2
    have d1 : ((w.alloc (.cells #[.slice a l.length c] 24)).alloc (.cells #[.slice a' l'.length c'] 24)).cell? ⟨w.heap.size, 0, none⟩ = some (.slice a l.length c) := by simp
    have d2 : ((w.alloc (.cells #[.slice a l.length c] 24)).alloc (.cells #[.slice a' l'.length c'] 24)).cell? ⟨w.heap.size + 1, 0, none⟩ = some (.slice a' l'.length c') := by go_simp
    have d3 : w.heap.size + 1 < ((w.alloc (.cells #[.slice a l.length c] 24)).alloc (.cells #[.slice a' l'.length c'] 24)).heap.size := by simp
    have hm0 := Mem.inn_below hm hb0
    generalize ((w.alloc (.cells #[.slice a l.length c] 24)).alloc (.cells #[.slice a' l'.length c'] 24)) = w0 at *
    refine wp_loop_keep [2, 3, 18, 19] (fun n vs wr => ∃ k : Nat, k ≤ l.length ∧ n = l.length - k ∧ vs = [.pointer (some ⟨w.heap.size, 0, none⟩), .pointer (some ⟨w.heap.size + 1, 0, none⟩), .int .i64 l.length, .int .i64 k] ∧ (l = l' ↔ l.drop k = l'.drop k) ∧ Below w0.heap.size w0 wr) ?_ ?_
    · exact ⟨_, 0, Nat.zero_le _, rfl, rfl, Iff.rfl, Below.refl _ _⟩
    rintro X z n vs wr hX - ⟨k, hk, rfl, rfl, hrel, hbel⟩
    have Hrel := Lib.hid hrel
    clear hrel
    simp [litL, lk]
    have hmr := Mem.inn_below hm0 hbel
    have e1 := (hbel.cell (p := ⟨w.heap.size, 0, none⟩) (by simp; omega)).trans d1
    have e2 := (hbel.cell (p := ⟨w.heap.size + 1, 0, none⟩) (by simp; omega)).trans d2
    have e3 : w.heap.size + 1 < wr.heap.size := Nat.lt_of_lt_of_le d3 hbel.size
    by_cases hlt : k < l.length
    · have hlt' : k < l'.length := by rw [← Hlen.out]; exact hlt
      obtain ⟨b, off, rfl, h4⟩ := h3 (by intro h; simp [h] at hlt)
      obtain ⟨b', off', rfl, h4'⟩ := h3' (by intro h; simp [h] at hlt')
      obtain ⟨g1, ve, g2, ua, uc, rfl, u1, u2, u3⟩ := h4 k hlt
      obtain ⟨g1', ve', g2', ua', uc', rfl, u1', u2', u3'⟩ := h4' k hlt'
      have HD := Lib.hid (list_step l l' k hlt hlt')
      have He := Lib.hid (Sn_ext l[k] l'[k])
      have c1 := Mem.cell_w hmr g1
      have c2 := Mem.cell_w hmr g2
      have c1' := Mem.cell_w hmr g1'
      have c2' := Mem.cell_w hmr g2'
      have hb1 := Mem.cell_lt hmr g1
      have hb1' := Mem.cell_lt hmr g1'
      unfold maxLen at u2 u2'
      generalize l[k] = s at *
      generalize l'[k] = s' at *
      have e4 : w.heap.size < wr.heap.size := by omega
      have e5 : b < wr.heap.size + 1 := by omega
      have e6 : b' < wr.heap.size + 1 := by omega
      have hbelw := below_then hb0 hbel
      go_wp2
      refine wp_cut_keep [2, 3, 5, 6, 7, 18, 19] (fun vs w1 => ∃ p q, vs = [.pointer (some ⟨w.heap.size, 0, none⟩), .pointer (some ⟨w.heap.size + 1, 0, none⟩), .int .i64 k, .pointer (some ⟨p, 0, none⟩), .pointer (some ⟨q, 0, none⟩), .int .i64 l.length, .int .i64 k] ∧
        w1.cell? ⟨p, 0, none⟩ = some (.bool s.accept) ∧ w1.cell? ⟨p, 1, none⟩ = some (.slice ua s.edges.length uc) ∧ w1.cell? ⟨q, 0, none⟩ = some (.bool s'.accept) ∧ w1.cell? ⟨q, 1, none⟩ = some (.slice ua' s'.edges.length uc') ∧
        p < w1.heap.size ∧ q < w1.heap.size ∧ Below wr.heap.size wr w1) ?_ ?_
      · intro Y hY
        go_region
        · exact hY.out _ _ rfl ⟨_, _, rfl, by go_simp, by go_simp, by go_simp, by go_simp, (by simp <;> omega), (by simp <;> omega), (below_al (below_al (Below.refl _ _) _) _).drew⟩
        · exact hY.out _ _ rfl ⟨_, _, rfl, by go_simp, by go_simp, by go_simp, by go_simp, (by simp <;> omega), (by simp <;> omega), (below_al (below_al (Below.refl _ _) _) _).drew⟩
      rintro z1 vs w1 - ⟨p, q, rfl, f1, f2, f3, f4, f5, f6, hb1w⟩
      simp [litL, lk]
      have hm1 := Mem.inn_below hmr hb1w
      have hbw1 := below_then hbel hb1w
      clear hb1 hb1' c1 c2 c1' c2' e1 e2 e3 e4 e5 e6
      by_cases ha : s.accept = s'.accept
      · have hae : (s.accept == s'.accept) = true := by simp [ha]
        have hae' : (s.accept != s'.accept) = false := by simp [ha]
        have Ha := Lib.hid ha
        clear ha
        by_cases hel : s.edges.length = s'.edges.length
        · have hee : ((s.edges.length : Int) != (s'.edges.length : Int)) = false := by simp [hel]
          have Hel := Lib.hid hel
          clear hel
          go_wp2
          refine wp_loop_keep [2, 3, 6, 7, 18, 19, 48, 49] (fun n vs w2 => ∃ j : Nat, j ≤ s.edges.length ∧ n = s.edges.length - j ∧ vs = [.pointer (some ⟨w.heap.size, 0, none⟩), .pointer (some ⟨w.heap.size + 1, 0, none⟩), .pointer (some ⟨p, 0, none⟩), .pointer (some ⟨q, 0, none⟩), .int .i64 l.length, .int .i64 k, .int .i64 s.edges.length, .int .i64 j] ∧
            (s.edges = s'.edges ↔ s.edges.drop j = s'.edges.drop j) ∧ Below w1.heap.size w1 w2) ?_ ?_
          · exact ⟨_, 0, Nat.zero_le _, rfl, rfl, Iff.rfl, Below.refl _ _⟩
          rintro X2 z2 n2 vs2 w2 hX2 - ⟨j, hj, rfl, rfl, hrel2, hbel2⟩
          have Hrel2 := Lib.hid hrel2
          clear hrel2
          simp [litL, lk]
          have hm2 := Mem.inn_below hm1 hbel2
          have k2 := cell_of_below hbel2 f5 f2
          have k4 := cell_of_below hbel2 f6 f4
          have hf5 : p < w2.heap.size := Nat.lt_of_lt_of_le f5 hbel2.size
          have hf6 : q < w2.heap.size := Nat.lt_of_lt_of_le f6 hbel2.size
          by_cases hj2 : j < s.edges.length
          · have hj2' : j < s'.edges.length := by rw [← Hel.out]; exact hj2
            obtain ⟨vb, vo, rfl, u4⟩ := u3 (by intro h; simp [h] at hj2)
            obtain ⟨vb', vo', rfl, u4'⟩ := u3' (by intro h; simp [h] at hj2')
            obtain ⟨y1, y2, y3, -⟩ := u4 j hj2
            obtain ⟨y1', y2', y3', -⟩ := u4' j hj2'
            have x1 := Mem.cell_w hm2 y1
            have x2 := Mem.cell_w hm2 y2
            have x3 := Mem.cell_w hm2 y3
            have x1' := Mem.cell_w hm2 y1'
            have x2' := Mem.cell_w hm2 y2'
            have x3' := Mem.cell_w hm2 y3'
            have HD2 := Lib.hid (list_step s.edges s'.edges j hj2 hj2')
            have He2 := Lib.hid (Ed_ext s.edges[j] s'.edges[j])
            have hq := fun w => edge_eqIn (s.edges[j].lo) (s.edges[j].hi) (s.edges[j].to) (s'.edges[j].lo) (s'.edges[j].hi) (s'.edges[j].to) w
            have hgd := guardEdge
            go_wp2
            go_quiet (fail)
            go_wp2
            · refine hR.out _ _ ⟨ret_bool ?_, below_then hb0 (below_drewN (below_then hbw1 hbel2) _)⟩
              rw [tf_false]
              intro h
              have h5 := He2.out.1 (HD2.out.1 (Hrel2.out.1 (He.out.1 (HD.out.1 (Hrel.out.1 h)).1).2)).1
              have h6 := ‹(!(s.edges[j].lo : Int) == (s'.edges[j].lo : Int)) = true ∨ _›
              simp [h5] at h6
            · refine hX2.out _ _ _ (by omega) rfl ⟨j + 1, by omega, rfl, rfl, ?_, below_drewN hbel2 _⟩
              have h6 := ‹(!(s.edges[j].lo : Int) == (s'.edges[j].lo : Int)) = false ∧ _›
              simp at h6
              exact Hrel2.out.trans (HD2.out.trans ⟨fun h => h.2, fun h => ⟨He2.out.2 (by omega), h⟩⟩)
          · go_wp2
            refine hX.out _ _ _ (by omega) rfl ⟨k + 1, by omega, rfl, rfl, Hrel.out.trans (HD.out.trans ⟨fun h => h.2, fun h => ⟨He.out.2 ⟨Ha.out, Hrel2.out.2 ?_⟩, h⟩⟩), below_then hbw1 hbel2⟩
            rw [List.drop_eq_nil_of_le (by omega), List.drop_eq_nil_of_le (by rw [← Hel.out]; omega)]
        · have hee : ((s.edges.length : Int) != (s'.edges.length : Int)) = true := by simp; omega
          go_wp2
          exact hR.out _ _ ⟨ret_bool (by rw [tf_false]; intro h; exact hel (by rw [(He.out.1 (HD.out.1 (Hrel.out.1 h)).1).2])), below_then hb0 hbw1⟩
      · have hae : (s.accept == s'.accept) = false := by simp [ha]
        have hae' : (s.accept != s'.accept) = true := by simp [ha]
        go_wp2
        exact hR.out _ _ ⟨ret_bool (by rw [tf_false]; intro h; exact ha (He.out.1 (HD.out.1 (Hrel.out.1 h)).1).1), below_then hb0 hbw1⟩
    · go_wp2
      refine hR.out _ _ ⟨ret_bool ?_, below_then hb0 hbel⟩
      rw [tf_true (Hrel.out.2 ?_)]
      rw [List.drop_eq_nil_of_le (by omega), List.drop_eq_nil_of_le (by rw [← Hlen.out]; omega)]
  · have hne : ((l.length : Int) != (l'.length : Int)) = true := by simp; omega
    go_enter Tryd.func12, Tryd.ntmps12
    go_wp2
    exact hR.out _ _ ⟨ret_bool (by rw [tf_false (fun h => hlen (by rw [h]))]), hb0⟩
end Cl
namespace Cl
open Go Go.RowKit Go.Proofs

set_option maxRecDepth 100000 in
set_option maxHeartbeats 1000000 in
theorem EqualFunc_any (v v' : Value) (l l' : Table) (m : Mem) (w : World) (hm : m.inn w) (hl : statesAt m v l) (hl' : statesAt m v' l') :
    Calls Tryd.prog 93 #[v, v', .func (.func 94) #[] #[]] w fun e w' => e = .returned (.bool (tf (l = l'))) ∧ Below w.heap.size w w' := by
  obtain ⟨a, c, rfl, h1, h2, h3⟩ := hl
  obtain ⟨a', c', rfl, h1', h2', h3'⟩ := hl'
  unfold maxLen at h2 h2'
  refine calls_hide fun R hR => ?_
  by_cases hlen : l.length = l'.length
  · have hne : ((l.length : Int) != (l'.length : Int)) = false := by simp [hlen]
    have Hlen := Lib.hid hlen
    clear hlen
    go_enter Tryd.func93, Tryd.ntmps93
    go_wp2
    refine wp_loop_keep [0, 1, 2, 15, 16, 17] (fun n vs wr => ∃ k : Nat, k ≤ l.length ∧ n = l.length - k ∧ vs = [.slice a l.length c, .slice a' l'.length c', .func (.func 94) #[] #[], .slice a l.length c, .int .i64 l.length, .int .i64 k] ∧ (l = l' ↔ l.drop k = l'.drop k) ∧ Below w.heap.size w wr) ?_ ?_
    · exact ⟨_, 0, Nat.zero_le _, rfl, rfl, Iff.rfl, Below.refl _ _⟩
    rintro X z n vs wr hX - ⟨k, hk, rfl, rfl, hrel, hbel⟩
    have Hrel := Lib.hid hrel
    clear hrel
    simp [litL, lk]
    have hmr := Mem.inn_below hm hbel
    by_cases hlt : k < l.length
    · have hlt' : k < l'.length := by rw [← Hlen.out]; exact hlt
      obtain ⟨b, off, rfl, h4⟩ := h3 (by intro h; simp [h] at hlt)
      obtain ⟨b', off', rfl, h4'⟩ := h3' (by intro h; simp [h] at hlt')
      obtain ⟨g1, ve, g2, g3⟩ := h4 k hlt
      obtain ⟨g1', ve', g2', g3'⟩ := h4' k hlt'
      have HD := Lib.hid (list_step l l' k hlt hlt')
      have hcall := fun w1 hm1 => Same1_any l[k].accept l'[k].accept ve ve' l[k].edges l'[k].edges m w1 hm1 g3 g3'
      have Hc := Lib.hid hcall
      clear hcall
      obtain ⟨ua, uc, rfl, -⟩ := g3
      obtain ⟨ua', uc', rfl, -⟩ := g3'
      have c1 := Mem.cell_w hmr g1
      have c2 := Mem.cell_w hmr g2
      have c1' := Mem.cell_w hmr g1'
      have c2' := Mem.cell_w hmr g2'
      have hb1 := Mem.cell_lt hmr g1
      have hb1' := Mem.cell_lt hmr g1'
      go_wp2_with fail
      refine (Hc.out _ (Mem.inn_below hmr (below_al (below_al (Below.refl _ _) _) _))).mono ?_
      rintro e w' ⟨rfl, hbel2⟩
      have hbel3 := below_then (below_al (below_al hbel _) _) hbel2
      clear hbel2
      by_cases heq : (⟨l[k].accept, l[k].edges⟩ : Sn) = ⟨l'[k].accept, l'[k].edges⟩
      · rw [tf_true heq]
        have Heq := Lib.hid heq
        clear heq
        go_wp2
        exact hX.out _ _ _ (by omega) rfl ⟨k + 1, by omega, rfl, rfl, Hrel.out.trans (HD.out.trans ⟨fun h => h.2, fun h => ⟨Heq.out, h⟩⟩), hbel3⟩
      · rw [tf_false heq]
        go_wp2
        exact hR.out _ _ ⟨ret_bool (by rw [tf_false]; intro h; exact heq (HD.out.1 (Hrel.out.1 h)).1), hbel3⟩
    · go_wp2
      refine hR.out _ _ ⟨ret_bool ?_, hbel⟩
      rw [tf_true (Hrel.out.2 ?_)]
      rw [List.drop_eq_nil_of_le (by omega), List.drop_eq_nil_of_le (by rw [← Hlen.out]; omega)]
  · have hne : ((l.length : Int) != (l'.length : Int)) = true := by simp; omega
    go_enter Tryd.func93, Tryd.ntmps93
    go_wp2
    exact hR.out _ _ ⟨ret_bool (by rw [tf_false (fun h => hlen (by rw [h]))]), Below.refl _ _⟩

set_option maxRecDepth 100000 in
set_option maxHeartbeats 1000000 in
theorem auSame_any (v v' : Value) (l l' : Table) (m : Mem) (w : World) (hm : m.inn w) (hl : statesAt m v l) (hl' : statesAt m v' l') :
    Calls Tryd.prog 86 #[.agg #[v], .agg #[v']] w fun e w' => e = .returned (.bool (tf (l = l'))) ∧ Below w.heap.size w w' := by
  refine calls_hide fun R hR => ?_
  have hb0 : Below w.heap.size w ((w.alloc (.cells #[v] 24)).alloc (.cells #[v'] 24)) := below_al (below_al (Below.refl _ _) _) _
  have hc := EqualFunc_any v v' l l' m _ (Mem.inn_below hm hb0) hl hl'
  obtain ⟨a, c, rfl, -⟩ := hl
  obtain ⟨a', c', rfl, -⟩ := hl'
  go_enter Tryd.func86, Tryd.ntmps86
  go_wp2_with fail
  refine hc.mono ?_
  rintro e w' ⟨rfl, hbel⟩
  go_wp2
  exact hR.out _ _ ⟨rfl, below_then hb0 hbel⟩

end Cl
namespace Cl
open Go Go.RowKit Go.Proofs

/-- the rows of a table are sealed -/
theorem complete_end {w w' : World} {m m1 mk : Mem} {g : Nat} {arr : Array Value} {vn va : Value} {xn xb : List Value} {ls : List (List Int)} {l : Table}
    (hO : Own w m w' mk [.obj g 105 arr, .row va 4 1 (l.length + 1) xb, .row vn 83 1 (l.length + 1) xn])
    (hxb : xb = (l.map (·.accept) ++ [false]).map Value.bool)
    (hr : IssRow mk xn ls) (hls : ls.length = l.length + 1) (hle : m1.le mk) :
    ∃ mk3, Own w m w' mk3 [.obj g 105 arr] ∧ m1.le mk3 ∧ intssAt mk3 vn ls ∧ boolsAt mk3 va (l.map (·.accept) ++ [false]) := by
  have h1 := hO.swap
  have hb := boolsAt_of_row (l := l.map (·.accept) ++ [false]) (m := mk) (by rw [← hxb]; simpa using h1.row)
  have h2 := h1.sealRow.swap
  have hr2 := hr.mono (Mem.le_addv (w := w') h1.free)
  have hi := intssAt_of_row (l := ls) (by rw [hls]; exact h2.row) hr2 h2.free
  exact ⟨_, h2.sealRow, Mem.le_trans (Mem.le_trans hle (Mem.le_addv h1.free)) (Mem.le_addv h2.free), hi, boolsAt_le (Mem.le_addv h2.free) hb⟩

set_option maxRecDepth 100000 in
set_option maxHeartbeats 4000000 in
theorem complete_any (v0 : Value) (l : Table) (m : Mem) (w : World) (hm : m.inn w) (hl : statesAt m v0 l) (hwf : WF l) (hlen : l.length ≤ 1000000) :
    Calls Tryd.prog 83 #[v0] w fun e w' => ∃ g mk vc vn va, e = .returned (.pointer (some ⟨g, 0, none⟩)) ∧ Own w m w' mk [.obj g 105 #[vc, vn, va, .slice none 0 0]] ∧
      intsAt mk vc (cutsTo l 256) ∧ intssAt mk vn (compNext l (cutsTo l 256) ++ [(cutsTo l 256).map fun _ => (l.length : Int)]) ∧ boolsAt mk va (l.map (·.accept) ++ [false]) := by
  have hcut := cut_any v0 l m w hm hl hwf
  have hcle := cutsTo_le l 256
  have hcrng := cutsTo_range l 256
  generalize cutsTo l 256 = cuts at *
  obtain ⟨a, c, rfl, h1, h2, h3⟩ := hl
  unfold maxLen at h2
  refine calls_hide fun R hR => ?_
  go_enter Tryd.func83, Tryd.ntmps83
  go_wp2_with fail
  refine hcut.mono ?_
  rintro e w1 ⟨r, rfl, hb1, hr1⟩
  have hO0 := (Own.start hm).call hb1
  obtain ⟨ca, cc, rfl, c2, c3, c4⟩ := hr1
  have hr1 : intsAt (m.grow w w1) (.slice ca cuts.length cc) cuts := ⟨ca, cc, rfl, c2, c3, c4⟩
  have hO1 := ((hO0.al #[.slice ca cuts.length cc, .slice none 0 0, .slice none 0 0, .slice none 0 0] 105))
  go_wp2
  refine wp_loop_keep [0, 3, 4, 20, 21, 22] (fun n vs wr => ∃ (k : Nat) (vn va : Value) (xn : List Value) (mk : Mem), k ≤ l.length ∧ n = l.length - k ∧ vs = [.slice a l.length c, .pointer (some ⟨w1.heap.size, 0, none⟩), .int .i64 l.length, .slice a l.length c, .int .i64 l.length, .int .i64 k] ∧
    Own w m wr mk [.obj w1.heap.size 105 #[.slice ca cuts.length cc, vn, va, .slice none 0 0], .row vn 83 1 k xn, .row va 4 1 k (((l.take k).map (·.accept)).map Value.bool)] ∧
    IssRow mk xn ((l.take k).map fun s => compRow l.length cuts s.edges) ∧ (m.grow w w1).le mk) ?_ ?_
  · refine ⟨_, 0, .slice none 0 0, .slice none 0 0, [], _, Nat.zero_le _, rfl, rfl, ?_, IssRow.nil _, Mem.le_refl _⟩
    exact ((hO1.nilRow 4 1).nilRow 83 1).third
  rintro X z n vs wr hX - ⟨k, vn, va, xn, mk, hk, rfl, rfl, hO, hrow, hmk⟩
  simp [litL, lk]
  have hmr := Mem.inn_le hO.ext.le hO.inn
  have hcr := intsAt_le hmk hr1
  have q0 := hO.obj.cell (i := 0) rfl
  have q1 := hO.obj.cell (i := 1) rfl
  have q2 := hO.obj.cell (i := 2) rfl
  have ql := hO.obj.lt
  by_cases hlt : k < l.length
  · obtain ⟨b, off, rfl, h4⟩ := h3 (by intro h; simp [h] at hlt)
    obtain ⟨g1, ve, g2, ea, ec, rfl, g4, g5, g6⟩ := h4 k hlt
    have hc1 := Mem.cell_w hmr g1
    have hc2 := Mem.cell_w hmr g2
    have hb := Mem.cell_lt hmr g1
    have hws := hwf l[k] (List.getElem_mem hlt)
    have Htake := Lib.hid (List.take_succ_eq_append_getElem hlt)
    generalize l[k] = s at *
    unfold maxLen at g5 c3
    have hO2 := hO.al #[.bool s.accept, .slice ea s.edges.length ec] 48
    go_wp2_with (refine wpList_make_row mkInts rfl (.tmp 30) (.tmp 30) rfl cuts.length rfl rfl (by omega) (by unfold maxLen; omega) ?_)
    intro w2 hown2 hgrow2
    have hO3 := hO2.make (by simpa using hown2) hgrow2
    rw [part_zero (goTo l.length s.edges)] at hO3
    clear hown2 hgrow2
    have hN : (wr.alloc (.cells #[.bool s.accept, .slice ea s.edges.length ec] 48)).heap.size = wr.heap.size + 1 := by simp
    rw [hN] at hO3
    clear hN
    have p0 := hO3.third.obj.cell (i := 0) rfl
    have pl := hO3.third.obj.lt
    go_wp2
    refine wp_loop_keep [0, 3, 4, 6, 7, 20, 21, 22, 35, 36, 37] (fun n vs w3 => ∃ (i : Nat), i ≤ cuts.length ∧ n = cuts.length - i ∧
      vs = [.slice (some ⟨b, off, none⟩) l.length c, .pointer (some ⟨w1.heap.size, 0, none⟩), .int .i64 l.length, .pointer (some ⟨wr.heap.size, 0, none⟩), .slice (some ⟨wr.heap.size + 1, 0, none⟩) cuts.length cuts.length, .slice (some ⟨b, off, none⟩) l.length c, .int .i64 l.length, .int .i64 k, .slice ca cuts.length cc, .int .i64 cuts.length, .int .i64 i] ∧
      Own w m w3 mk [.row (.slice (some ⟨wr.heap.size + 1, 0, none⟩) cuts.length cuts.length) 3 1 cuts.length (part (goTo l.length s.edges) cuts i),
        .obj wr.heap.size 48 #[.bool s.accept, .slice ea s.edges.length ec], .obj w1.heap.size 105 #[.slice ca cuts.length cc, vn, va, .slice none 0 0], .row vn 83 1 k xn, .row va 4 1 k (((l.take k).map (·.accept)).map Value.bool)]) ?_ ?_
    · exact ⟨_, 0, Nat.zero_le _, rfl, rfl, hO3⟩
    rintro Y z2 n vs w3 hY - ⟨i, hi, rfl, rfl, hO4⟩
    simp [litL, lk]
    by_cases hlt2 : i < cuts.length
    · obtain ⟨cb, co, rfl, c5⟩ := c4 (by intro h; simp [h] at hlt2)
      have hcv := (c5 i hlt2).1
      have hcw := Mem.cell_w hO4.inn (Mem.cell_le hmk hcv)
      have hrng := hcrng cuts[i] (List.getElem_mem hlt2)
      obtain ⟨cv, hcve⟩ := Int.eq_ofNat_of_zero_le hrng.1
      have k1 := row_cellw (j := i) (u := .int .i64 0) hO4.row (part_get hlt2)
      have k2 := row_frozen hO4.row i
      have k3 := hO4.swap.obj.cell (i := 1) rfl
      have k4 := hO4.swap.obj.lt
      have hO5 := hO4.setRow i (.int .i64 l.length)
      rw [part_set hlt2] at hO5
      have HO5 := Lib.hid hO5
      clear hO5
      go_wp2
      refine wp_loop_keep [0, 3, 4, 6, 7, 8, 9, 20, 21, 22, 35, 36, 37, 47, 48, 49] (fun n vs w4 => ∃ (j : Nat), j ≤ s.edges.length ∧ n = s.edges.length - j ∧
        vs = [.slice (some ⟨b, off, none⟩) l.length c, .pointer (some ⟨w1.heap.size, 0, none⟩), .int .i64 l.length, .pointer (some ⟨wr.heap.size, 0, none⟩), .slice (some ⟨wr.heap.size + 1, 0, none⟩) cuts.length cuts.length, .int .i64 i, .int .i64 cv, .slice (some ⟨b, off, none⟩) l.length c, .int .i64 l.length, .int .i64 k, .slice (some ⟨cb, co, none⟩) cuts.length cc, .int .i64 cuts.length, .int .i64 i,
          .slice ea s.edges.length ec, .int .i64 s.edges.length, .int .i64 j] ∧
        Own w m w4 mk [.row (.slice (some ⟨wr.heap.size + 1, 0, none⟩) cuts.length cuts.length) 3 1 cuts.length (partX (goTo l.length s.edges) cuts i (goTo l.length (s.edges.take j) cv)),
          .obj wr.heap.size 48 #[.bool s.accept, .slice ea s.edges.length ec], .obj w1.heap.size 105 #[.slice (some ⟨cb, co, none⟩) cuts.length cc, vn, va, .slice none 0 0], .row vn 83 1 k xn, .row va 4 1 k (((l.take k).map (·.accept)).map Value.bool)]) ?_ ?_
      · refine ⟨_, 0, Nat.zero_le _, rfl, rfl, ?_⟩
        have : goTo l.length (s.edges.take 0) cv = (l.length : Int) := by simp [goTo, estep]
        rw [this]
        exact HO5.out
      rintro Z z3 n vs w4 hZ - ⟨j, hj, rfl, rfl, hO6⟩
      simp [litL, lk]
      by_cases hlt3 : j < s.edges.length
      · obtain ⟨b', off', rfl, h10⟩ := g6 (by intro h; simp [h] at hlt3)
        obtain ⟨e1, e2, e3, e4, e5, -⟩ := h10 j hlt3
        have hm4 := Mem.inn_le hO6.ext.le hO6.inn
        have d1 := Mem.cell_w hm4 e1
        have d2 := Mem.cell_w hm4 e2
        have d3 := Mem.cell_w hm4 e3
        have hb4 := Mem.cell_lt hm4 e1
        have Hgo := Lib.hid (goTo_snoc hws hlt3 cv)
        have x1 := row_cellw (j := i) hO6.row (partX_get hlt2 _)
        have x2 := row_frozen hO6.row i
        have x3 := hO6.swap.obj.lt
        have x4 : wr.heap.size + 1 < w4.heap.size := (World.ownsRow.lt hO6.row _ rfl).2
        go_wp2
        · refine hZ.out _ _ _ (by omega) rfl ⟨j + 1, by omega, rfl, rfl, ?_⟩
          rw [Hgo.out, if_pos ⟨by rw [Int.toNat_natCast]; assumption, by rw [Int.toNat_natCast]; assumption⟩, ← partX_set hlt2 (goTo l.length (s.edges.take j) cv)]
          exact (hO6.setRow i _).al' _
        · refine hZ.out _ _ _ (by omega) rfl ⟨j + 1, by omega, rfl, rfl, ?_⟩
          rw [Hgo.out, if_neg (by rw [Int.toNat_natCast]; omega)]
          exact hO6.al' _
        · refine hZ.out _ _ _ (by omega) rfl ⟨j + 1, by omega, rfl, rfl, ?_⟩
          rw [Hgo.out, if_neg (by rw [Int.toNat_natCast]; omega)]
          exact hO6.al' _
      · go_wp2
        refine hY.out _ _ _ (by omega) rfl ⟨i + 1, by omega, rfl, rfl, ?_⟩
        rw [List.take_of_length_le (l := s.edges) (i := j) (by omega), ← hcve, partX_succ hlt2] at hO6
        exact hO6
    · obtain rfl : i = cuts.length := by omega
      rw [part_all] at hO4
      have hin := intsAt_of_row (l := compRow l.length cuts s.edges) (m := mk) (by simpa [compRow] using hO4.row) (fun x hx => by have := compRow_range hws cuts x hx; omega)
      have hrow2 := (hrow.mono (Mem.le_addv (w := w3) hO4.free)).push hin
      have hmk2 := Mem.le_trans hmk (Mem.le_addv (w := w3) hO4.free)
      have hO8 := hO4.sealRow.al #[.slice (some ⟨wr.heap.size + 1, 0, none⟩) cuts.length cuts.length] 83
      generalize mk.addv w3 (.slice (some ⟨wr.heap.size + 1, 0, none⟩) cuts.length cuts.length) = mk2 at *
      have y1 := hO4.third.obj.cell (i := 1) rfl
      have yl := hO4.third.obj.lt
      clear hO4
      go_wp2_with (at_builtin; refine wpList_append_row tyIntss rfl (.tmp 76) (.tmp 78) rfl vn k xn rfl hO8.fourth.row ⟨w3.heap.size, 0, none⟩ 1 1 [.slice (some ⟨wr.heap.size + 1, 0, none⟩) cuts.length cuts.length] rfl rfl (hO8.obj.news rfl) (by simp [Value.oneCell']) (by unfold maxLen; omega) (by omega) ?_)
      intro na nc w5 hown5 hgrow5 hrow5
      have hO9 := hO8.fourth.app hown5 hgrow5 hrow5 (by simp)
      clear hown5 hgrow5 hrow5 hO8
      have hO10 := (hO9.fourth.set 1 (.slice na (k + 1) nc)).drop3
      have u1 := hO9.fourth.obj.cell (i := 1) rfl
      have u2 := hO9.fourth.obj.frozen 1
      have ul := hO9.fourth.obj.lt
      have HO10 := Lib.hid hO10
      clear hO10 hO9
      go_wp2
      have hO11 : Own w m (w5.setCell ⟨w1.heap.size, 1, none⟩ (.slice na (k + 1) nc)) mk2 [.obj w1.heap.size 105 #[.slice ca cuts.length cc, .slice na (k + 1) nc, va, .slice none 0 0], .row (.slice na (k + 1) nc) 83 1 (k + 1) (xn ++ [.slice (some ⟨wr.heap.size + 1, 0, none⟩) cuts.length cuts.length]),
        .obj wr.heap.size 48 #[.bool s.accept, .slice ea s.edges.length ec], .row va 4 1 k (((l.take k).map (·.accept)).map Value.bool)] := HO10.out
      clear HO10
      generalize w5.setCell ⟨w1.heap.size, 1, none⟩ (.slice na (k + 1) nc) = w6 at *
      have hO12 := (hO11.fourth.al #[.bool s.accept] 4).dr
      refine wp_region_T (fun w' => ObjAt w' w1.heap.size 105 #[.slice ca cuts.length cc, .slice na (k + 1) nc, va, .slice none 0 0] ∧ ObjAt w' wr.heap.size 48 #[.bool s.accept, .slice ea s.edges.length ec]) 11 (by kernel_rfl) ?_
      have hS := And.intro (hO11.dr.obj) (hO11.dr.third.obj)
      refine wpAnyT_take 0 rfl (by kernel_rfl) (fun _ _ _ h => h) hS (yields_of rfl fun w' hS' => by have q := hS'.1.cell (i := 2) rfl; have q1 := hS'.2.cell (i := 0) rfl; go_simp; rfl) ?_
      refine wpAnyT_take 1 rfl (by kernel_rfl) (fun _ _ _ h => h) hS (yields_of rfl fun w' hS' => by have q := hS'.1.cell (i := 2) rfl; have q1 := hS'.2.cell (i := 0) rfl; go_simp; rfl) ?_
      refine wpAnyT_take 2 rfl (by kernel_rfl) (fun _ _ _ h => h) hS (yields_of rfl fun w' hS' => by have q := hS'.1.cell (i := 2) rfl; have q1 := hS'.2.cell (i := 0) rfl; go_simp; rfl) ?_
      refine wpAnyT_take 3 rfl (by kernel_rfl) (fun _ _ _ h => h) hS (yields_of rfl fun w' hS' => by have q := hS'.1.cell (i := 2) rfl; have q1 := hS'.2.cell (i := 0) rfl; go_simp; rfl) ?_
      refine wpAnyT_take 4 rfl (by kernel_rfl) (fun _ _ _ h => h) hS (yields_of rfl fun w' hS' => by have q := hS'.1.cell (i := 2) rfl; have q1 := hS'.2.cell (i := 0) rfl; go_simp; rfl) ?_
      refine wpAnyT_take 5 rfl (by kernel_rfl) (fun _ _ _ h => h) hS (yields_of rfl fun w' hS' => by have q := hS'.1.cell (i := 2) rfl; have q1 := hS'.2.cell (i := 0) rfl; go_simp; rfl) ?_
      refine wpAnyT_take 6 rfl (by kernel_rfl) (fun _ _ _ h => h) hS (yields_of rfl fun w' hS' => by have q := hS'.1.cell (i := 2) rfl; have q1 := hS'.2.cell (i := 0) rfl; go_simp; rfl) ?_
      refine wpAnyT_only 7 (by kernel_rfl) (wpOp_of rfl rfl (wp_value (by go_simp; exact ⟨rfl, rfl⟩) (andS (And.intro (hS.1.al _) (hS.2.al _)) fun hS1 => ?_)))
      go_simp
      have hla : (((l.take k).map (·.accept)).map Value.bool).length = k := by simp; omega
      refine wpAnyT_only 8 (by kernel_rfl) (wpOp_of rfl rfl (wp_append_row tyBools (.tmp 86) (.tmp 89) rfl va k _ rfl hO12.swap.row ⟨w6.heap.size, 0, none⟩ 1 1 [.bool s.accept] rfl rfl (hO12.obj.news rfl) (by simp [Value.oneCell']) (by unfold maxLen; omega) (by omega) (fun aa ac w7 hown7 hgrow7 hrow7 => ?_)))
      have hO14 := hO12.swap.app hown7 hgrow7 hrow7 (Nat.le_refl _)
      refine andS (And.intro hO14.third.obj (hO14.at (g := wr.heap.size) (t := 48) (arr := #[.bool s.accept, .slice ea s.edges.length ec]) (by simp))) fun hS3 => ?_
      refine wpAnyT_only 9 (by kernel_rfl) (wpOp_of rfl rfl (wp_value (by go_simp; first | exact ⟨rfl, rfl⟩ | rfl) (andS hS3 fun _ => ?_)))
      refine wpAnyT_only 10 (by kernel_rfl) (wpOp_of rfl rfl (wp_value (by go_simp; first | exact ⟨rfl, rfl⟩ | rfl) (andS hS3 fun _ => ?_)))
      have f3 := hS3.1.frozen 2
      have c3 := hS3.1.cell (i := 2) rfl
      refine wpAnyT_only 11 (by kernel_rfl) (wpOp_of rfl rfl (wp_skipped (by go_simp; rfl) (andLast rfl ?_)))
      refine wpAnyT_done (by kernel_rfl) ?_ _
      have hO15 := ((hO14.third.set 2 (.slice aa (k + 1) ac)).drop3.drop4).swap23
      have Hfin := Lib.hid (And.intro hO15 (And.intro hrow2 hmk2))
      clear hO15 hrow2 hmk2 hO14 hO12 hO11 hO hown7 hgrow7 hrow7 hS hS1 hS3 f3 c3 hrow
      go_wp2
      refine hX.out _ _ _ (by omega) rfl ⟨k + 1, .slice na (k + 1) nc, .slice aa (k + 1) ac, xn ++ [.slice (some ⟨wr.heap.size + 1, 0, none⟩) cuts.length cuts.length], mk2, by omega, rfl, rfl, ?_, ?_, Hfin.out.2.2⟩
      · have := Hfin.out.1
        rw [Htake.out]
        simpa using this
      · rw [Htake.out, List.map_append]
        exact Hfin.out.2.1
  · obtain rfl : k = l.length := by omega
    rw [List.take_length] at hO hrow
    have hla : ((l.map (·.accept)).map Value.bool).length = l.length := by simp
    have hO2 := hO
    go_wp2_with (refine wpList_make_row mkInts rfl (.tmp 98) (.tmp 98) rfl cuts.length rfl rfl (by omega) (by unfold maxLen; omega) ?_)
    intro w2 hown2 hgrow2
    have hO3 := hO2.make (by simpa using hown2) hgrow2
    rw [part_zero (fun _ => (l.length : Int))] at hO3
    clear hown2 hgrow2
    go_wp2
    refine wp_loop_keep [0, 3, 4, 12, 101, 102] (fun n vs w3 => ∃ (i : Nat), i ≤ cuts.length ∧ n = cuts.length - i ∧
      vs = [.slice a l.length c, .pointer (some ⟨w1.heap.size, 0, none⟩), .int .i64 l.length, .slice (some ⟨wr.heap.size, 0, none⟩) cuts.length cuts.length, .int .i64 cuts.length, .int .i64 i] ∧
      Own w m w3 mk [.row (.slice (some ⟨wr.heap.size, 0, none⟩) cuts.length cuts.length) 3 1 cuts.length (part (fun _ => (l.length : Int)) cuts i),
        .obj w1.heap.size 105 #[.slice ca cuts.length cc, vn, va, .slice none 0 0], .row vn 83 1 l.length xn, .row va 4 1 l.length ((l.map (·.accept)).map Value.bool)]) ?_ ?_
    · exact ⟨_, 0, Nat.zero_le _, rfl, rfl, hO3⟩
    rintro Y z2 n vs w3 hY - ⟨i, hi, rfl, rfl, hO4⟩
    simp [litL, lk]
    by_cases hlt2 : i < cuts.length
    · have k1 := row_cellw (j := i) (u := .int .i64 0) hO4.row (part_get hlt2)
      have k2 := row_frozen hO4.row i
      have hO5 := hO4.setRow i (.int .i64 l.length)
      rw [part_set hlt2] at hO5
      have e5 := partX_succ (f := fun _ => (l.length : Int)) hlt2
      rw [e5] at hO5
      have HO5 := Lib.hid hO5
      clear hO5 e5
      go_wp2
      exact hY.out _ _ _ (by omega) rfl ⟨i + 1, by omega, rfl, rfl, HO5.out⟩
    · obtain rfl : i = cuts.length := by omega
      rw [part_all] at hO4
      have hin := intsAt_of_row (l := cuts.map fun _ => (l.length : Int)) (m := mk) (by simpa using hO4.row) (fun x hx => by
        obtain ⟨y, -, rfl⟩ := List.mem_map.1 hx; omega)
      have hrow2 := (hrow.mono (Mem.le_addv (w := w3) hO4.free)).push hin
      have hmk2 := Mem.le_trans hmk (Mem.le_addv (w := w3) hO4.free)
      have hO8 := hO4.sealRow.al #[.slice (some ⟨wr.heap.size, 0, none⟩) cuts.length cuts.length] 83
      generalize mk.addv w3 (.slice (some ⟨wr.heap.size, 0, none⟩) cuts.length cuts.length) = mk2 at *
      have y1 := hO4.swap.obj.cell (i := 1) rfl
      have yl := hO4.swap.obj.lt
      clear hO4
      go_wp2_with (at_builtin; refine wpList_append_row tyIntss rfl (.tmp 114) (.tmp 116) rfl vn l.length xn rfl hO8.third.row ⟨w3.heap.size, 0, none⟩ 1 1 [.slice (some ⟨wr.heap.size, 0, none⟩) cuts.length cuts.length] rfl rfl (hO8.obj.news rfl) (by simp [Value.oneCell']) (by unfold maxLen; omega) (by omega) ?_)
      intro na nc w5 hown5 hgrow5 hrow5
      have hO9 := hO8.third.app hown5 hgrow5 hrow5 (by simp)
      clear hown5 hgrow5 hrow5 hO8
      have hO10 := (hO9.third.set 1 (.slice na (l.length + 1) nc)).drop3
      have u1 := hO9.third.obj.cell (i := 1) rfl
      have u2 := hO9.third.obj.frozen 1
      have u3 := hO9.third.obj.cell (i := 2) rfl
      have ul := hO9.third.obj.lt
      have hO11 : Own w m (w5.setCell ⟨w1.heap.size, 1, none⟩ (.slice na (l.length + 1) nc)) mk2 [.obj w1.heap.size 105 #[.slice ca cuts.length cc, .slice na (l.length + 1) nc, va, .slice none 0 0], .row (.slice na (l.length + 1) nc) 83 1 (l.length + 1) (xn ++ [.slice (some ⟨wr.heap.size, 0, none⟩) cuts.length cuts.length]),
        .row va 4 1 l.length ((l.map (·.accept)).map Value.bool)] := hO10
      have HO11 := Lib.hid hO11
      clear hO10 hO9 hO11
      have hO12 := HO11.out.al #[.bool false] 4
      have hsz := hO12.obj.news rfl
      rw [World.size_setCell] at hO12 hsz
      have hO13 := Lib.hid hO12
      clear hO12
      go_wp2_with (at_builtin; refine wpList_append_row tyBools rfl (.tmp 124) (.tmp 125) rfl va l.length _ rfl hO13.out.fourth.row ⟨w5.heap.size, 0, none⟩ 1 1 [.bool false] rfl rfl hsz (by simp [Value.oneCell']) (by unfold maxLen; omega) (by omega) ?_)
      intro aa ac w7 hown7 hgrow7 hrow7
      have hO14 := hO13.out.fourth.app hown7 hgrow7 hrow7 (by simp)
      clear hown7 hgrow7 hrow7 hsz HO11
      have v1 := hO14.third.obj.cell (i := 2) rfl
      have v2 := hO14.third.obj.frozen 2
      have vl := hO14.third.obj.lt
      have hO15 := (hO14.third.set 2 (.slice aa (l.length + 1) ac)).drop3
      have HO15 := Lib.hid hO15
      clear hO15 hO14 hO13
      go_wp2
      have hO15 := HO15.out
      obtain ⟨mk3, z1, z2, z3, z4⟩ := complete_end (arr := #[.slice ca cuts.length cc, .slice na (l.length + 1) nc, .slice aa (l.length + 1) ac, .slice none 0 0]) (l := l) hO15 (by simp) hrow2 (by simp) hmk2
      exact hR.out _ _ ⟨w1.heap.size, mk3, _, _, _, rfl, z1, intsAt_le z2 hr1, z3, z4⟩
end Cl
namespace Cl
open Go Go.RowKit Go.Proofs

structure MinIs (l C : Table) : Prop where
  canon : Canon C
  lang : ∀ x, accFrom C 0 x = accFrom l 0 x
theorem statesAt_nil (m : Mem) : statesAt m (.slice none 0 0) [] := ⟨none, 0, rfl, Nat.le_refl _, by simp [maxLen], fun h => absurd rfl h⟩

set_option maxRecDepth 100000 in
set_option maxHeartbeats 4000000 in
theorem auMinimal_any (v0 : Value) (l : Table) (m : Mem) (w : World) (hm : m.inn w) (htab : TabM m) (hl : statesAt m v0 l) (hlen : l.length ≤ 1000000) :
    Calls Tryd.prog 61 #[v0] w fun e w' => ∃ r C, e = .returned (.tuple #[.agg #[r], .int .i64 (if tf (WF l) = true then 0 else 11)]) ∧ Below w.heap.size w w' ∧ statesAt (m.grow w w') r C ∧ C.length ≤ l.length + 1 ∧
      (WF l → MinIs l C) ∧ (¬ WF l → C = []) := by
  have hl0 := hl
  obtain ⟨a, c, rfl, h1, h2, h3⟩ := hl
  unfold maxLen at h2
  have HW := Lib.hid (fun w (hw : m.inn w) => wellFormed_any (.slice a l.length c) l m w hw hl0)
  refine calls_hide fun R hR => ?_
  have hO := (Own.start hm).al #[.slice none 0 0] 24
  have HO := Lib.hid hO
  clear hO
  go_enter Tryd.func61, Tryd.ntmps61
  go_wp2_with fail
  refine (HW.out _ (Mem.inn_le HO.out.ext.le HO.out.inn)).mono ?_
  rintro e w1 ⟨rfl, hb1⟩
  have hO1 := HO.out.move hb1
  clear HO hb1
  by_cases hwf : WF l
  · rw [tf_true hwf]
    by_cases h0 : l.length = 0
    · have hln : l = [] := List.eq_nil_of_length_eq_zero h0
      have hO2 := hO1.set 0 (.slice none 0 0)
      have g1 := hO1.obj.cell (i := 0) rfl
      have g2 := hO1.obj.frozen 0
      have g3 := hO1.obj.lt
      have g4 := hO2.obj.cell (i := 0) rfl
      have Hk := Lib.hid (And.intro hO2 hln)
      have hdec : ((l.length : Int) == 0) = true := by simp [h0]
      clear hO1 hO2 hln h0
      go_wp2
      refine bodyPost_ret (v := .tuple #[.agg #[.slice none 0 0], .int .i64 0]) (by simp [results, Tryd.results61, go_sem, g1]) rfl ?_
      refine hR.out _ _ ⟨_, [], by rw [tf_true hwf]; rfl, Hk.out.1.below, statesAt_nil _, by simp, fun _ => ⟨canon_nil, fun x => ?_⟩, fun _ => rfl⟩
      rw [Hk.out.2]
    · have hdec : ((l.length : Int) == 0) = false := beq_eq_false_iff_ne.2 (by omega)
      have HC := Lib.hid (complete_any (.slice a l.length c) l m w1 (Mem.inn_le hO1.ext.le hO1.inn) hl0 hwf hlen)
      have HO1 := Lib.hid hO1
      clear hO1
      go_wp2_with fail
      refine HC.out.mono ?_
      rintro e w2 ⟨g, mk, vc, vn, va, rfl, hO2, k1, k2, k3⟩
      have hO3 := HO1.out.join hO2
      have hle := hO2.ext.le
      have hH := comp_hyp hwf hlen
      have HR := Lib.hid (refine_any g vc vn va l (cutsTo l 256) (compRows l (cutsTo l 256)) (l.map (·.accept) ++ [false]) _ _ hH m mk w w2 [.obj w.heap.size 24 #[.slice none 0 0]] (htab.le hle) hO3 k2 k3)
      clear hO3 hO2 HC HO1
      go_wp2_with fail
      refine HR.out.mono ?_
      rintro e w3 ⟨mk2, vk, cls, rfl, hO4, hle2, k4, hcls⟩
      have q0 := hO4.obj.cell (i := 0) rfl
      have hO5 := hO4.sealObj
      have hle3 := Mem.le_add (w := w3) hO4.objFree
      have htabAt : TabAt (mk2.add w3 g) g (cutsTo l 256) (compRows l (cutsTo l 256)) (l.map (·.accept) ++ [false]) cls := by
        refine ⟨vc, vn, va, vk, Mem.add_cell hO4.obj rfl, Mem.add_cell hO4.obj rfl, Mem.add_cell hO4.obj rfl, Mem.add_cell hO4.obj rfl, ?_, ?_, ?_, ?_⟩
        · exact intsAt_le (Mem.le_trans hle2 hle3) k1
        · exact intssAt_le (Mem.le_trans hle2 hle3) k2
        · exact boolsAt_le (Mem.le_trans hle2 hle3) k3
        · exact intsAt_le hle3 k4
      have HN := Lib.hid (canonical_any g l (cutsTo l 256) (compRows l (cutsTo l 256)) (l.map (·.accept) ++ [false]) cls _ _ hH (cutHyp_of l) hcls
        (fun lv hlv hh => bfs_of_comp hwf hlen hcls hlv hh) (fun lv hlv hh => dead_of_comp hwf hlen hcls hlv hh) (mk2.add w3 g) w3 hO5.inn htabAt)
      have HO5 := Lib.hid hO5
      clear hO5 hO4 HR htabAt hH q0
      go_wp2_with fail
      refine HN.out.mono ?_
      rintro e w4 ⟨r, C, rfl, hb4, hst, hcan, hlang, hClen⟩
      have hO6 := HO5.out.call hb4
      obtain ⟨ra, rc, rfl⟩ : ∃ ra rc, r = .slice ra C.length rc := by obtain ⟨x, y, e, -⟩ := hst; exact ⟨x, y, e⟩
      have g1 := hO6.obj.cell (i := 0) rfl
      have g2 := hO6.obj.frozen 0
      have g3 := hO6.obj.lt
      have hO7 := hO6.set 0 (.slice ra C.length rc)
      have g4 := hO7.obj.cell (i := 0) rfl
      have hfin := statesAt_le hO7.done hst
      rw [compRows_len] at hClen
      have Hk := Lib.hid (And.intro hO7.below (And.intro hfin (And.intro hcan (And.intro hlang hClen))))
      clear hO7 hO6 hfin hcan hlang hst hClen HO5
      go_wp2
      refine bodyPost_ret (v := .tuple #[.agg #[.slice ra C.length rc], .int .i64 0]) (by simp [results, Tryd.results61, go_sem, g4]) rfl ?_
      exact hR.out _ _ ⟨_, C, by rw [tf_true hwf]; rfl, Hk.out.1, Hk.out.2.1, Hk.out.2.2.2.2, fun _ => ⟨Hk.out.2.2.1, Hk.out.2.2.2.1⟩, fun h => absurd hwf h⟩
  · rw [tf_false hwf]
    have hO2 := hO1.set 0 (.slice none 0 0)
    have g1 := hO1.obj.cell (i := 0) rfl
    have g2 := hO1.obj.frozen 0
    have g3 := hO1.obj.lt
    have g4 := hO2.obj.cell (i := 0) rfl
    have Hk := Lib.hid (And.intro hO2 hwf)
    clear hO1 hO2 hwf
    go_wp2
    refine bodyPost_ret (v := .tuple #[.agg #[.slice none 0 0], .int .i64 11]) (by simp [results, Tryd.results61, go_sem, g1]) rfl ?_
    exact hR.out _ _ ⟨_, [], by rw [tf_false Hk.out.2]; rfl, Hk.out.1.below, statesAt_nil _, by simp, fun h => absurd h Hk.out.2, fun _ => rfl⟩
end Cl
namespace Cl
open Go Go.RowKit Go.Proofs

noncomputable def goodT (l : Table) : Table := if tf (Canon l) = true then l else []
theorem goodT_canon (l : Table) : Canon (goodT l) := by
  unfold goodT
  split
  · rename_i h; exact tf_iff.1 h
  · exact canon_nil
theorem goodT_of {l : Table} (h : Canon l) : goodT l = l := by simp [goodT, tf_true h]
theorem goodT_len (l : Table) : (goodT l).length ≤ l.length := by
  unfold goodT; split <;> simp

theorem canon_iff_min {l C : Table} (h1 : WF l → MinIs l C) (hw : WF l) : Canon l ↔ l = C :=
  ⟨fun h => canon_unique h (h1 hw).canon fun x => ((h1 hw).lang x).symm, fun h => by rw [h]; exact (h1 hw).canon⟩

set_option maxRecDepth 100000 in
set_option maxHeartbeats 2000000 in
theorem auValid_any (v0 : Value) (l : Table) (m : Mem) (w : World) (hm : m.inn w) (htab : TabM m) (hl : statesAt m v0 l) (hlen : l.length ≤ 1000000) :
    Calls Tryd.prog 69 #[.agg #[v0]] w fun e w' => e = .returned (.bool (tf (Canon l))) ∧ Below w.heap.size w w' := by
  have hl0 := hl
  obtain ⟨a, c, rfl, h1, h2, h3⟩ := hl
  refine calls_hide fun R hR => ?_
  have hO := (Own.start hm).al #[.slice a l.length c] 24
  have HM := Lib.hid (auMinimal_any (.slice a l.length c) l m _ hO.inn htab hl0 hlen)
  have HO := Lib.hid hO
  clear hO
  go_enter Tryd.func69, Tryd.ntmps69
  go_wp2_with fail
  refine HM.out.mono ?_
  rintro e w1 ⟨r, C, rfl, hb1, hst, hClen, hmin, hnot⟩
  have hO1 := HO.out.call hb1
  have hle := hO1.ext.le
  obtain ⟨ra, rc, rfl⟩ : ∃ ra rc, r = .slice ra C.length rc := by obtain ⟨x, y, e, -⟩ := hst; exact ⟨x, y, e⟩
  have hO2 := hO1.al #[.slice ra C.length rc] 24
  have g1 := hO2.swap.obj.cell (i := 0) rfl
  have g2 := hO2.swap.obj.lt
  have HS := Lib.hid (auSame_any (.slice a l.length c) (.slice ra C.length rc) l C _ _ hO2.inn (statesAt_le hle hl0) hst)
  have HO2 := Lib.hid hO2
  clear hO1 hO2 HM HO
  by_cases hwf : WF l
  · rw [tf_true hwf]
    have hci := canon_iff_min hmin hwf
    have Hk := Lib.hid (And.intro hci (And.intro hmin hnot))
    clear hmin hnot hci
    go_wp2_with fail
    refine HS.out.mono ?_
    rintro e w3 ⟨rfl, hb3⟩
    have hb4 := (HO2.out.move hb3).below
    go_wp2
    exact hR.out _ _ ⟨ret_bool (by rw [tf_congr Hk.out.1]), hb4⟩
  · rw [tf_false hwf]
    have Hk := Lib.hid (And.intro hwf (And.intro hmin hnot))
    clear hmin hnot hwf
    go_wp2
    exact hR.out _ _ ⟨ret_bool (by rw [tf_false (fun h => Hk.out.1 h.wf)]), HO2.out.below⟩

set_option maxRecDepth 100000 in
theorem good_any (v0 : Value) (l : Table) (m : Mem) (w : World) (hm : m.inn w) (htab : TabM m) (hl : statesAt m v0 l) (hlen : l.length ≤ 1000000) :
    Calls Tryd.prog 39 #[.agg #[v0]] w fun e w' => ∃ r, e = .returned (.agg #[r]) ∧ Below w.heap.size w w' ∧ statesAt (m.grow w w') r (goodT l) := by
  have hl0 := hl
  obtain ⟨a, c, rfl, h1, h2, h3⟩ := hl
  refine calls_hide fun R hR => ?_
  have hO := ((Own.start hm).al #[.slice a l.length c] 24).al #[.slice none 0 0] 24
  have hsz : (w.alloc (.cells #[.slice a l.length c] 24)).heap.size = w.heap.size + 1 := by simp
  rw [hsz] at hO
  have HV := Lib.hid (auValid_any (.slice a l.length c) l m _ hO.inn htab hl0 hlen)
  have HO := Lib.hid hO
  clear hO hsz
  go_enter Tryd.func39, Tryd.ntmps39
  go_wp2_with fail
  refine HV.out.mono ?_
  rintro e w1 ⟨rfl, hb1⟩
  have hO1 := HO.out.move hb1
  have g1 := hO1.swap.obj.cell (i := 0) rfl
  have g2 := hO1.obj.cell (i := 0) rfl
  have g3 := hO1.obj.frozen 0
  have g4 := hO1.obj.lt
  clear HO HV hb1
  by_cases hc : Canon l
  · have hO2 := hO1.set 0 (.slice a l.length c)
    have g5 := hO2.obj.cell (i := 0) rfl
    have Hk := Lib.hid (And.intro hO2 hc)
    rw [tf_true hc]
    clear hO1 hO2 hc
    go_wp2
    refine bodyPost_ret (v := .agg #[.slice a l.length c]) (by simp [results, Tryd.results39, go_sem, g5]) rfl ?_
    exact hR.out _ _ ⟨_, rfl, Hk.out.1.below, by rw [goodT_of Hk.out.2]; exact statesAt_le Hk.out.1.done hl0⟩
  · have hO2 := hO1.set 0 (.slice none 0 0)
    have g5 := hO2.obj.cell (i := 0) rfl
    have Hk := Lib.hid (And.intro hO2 hc)
    rw [tf_false hc]
    clear hO1 hO2 hc
    go_wp2
    refine bodyPost_ret (v := .agg #[.slice none 0 0]) (by simp [results, Tryd.results39, go_sem, g2]) rfl ?_
    exact hR.out _ _ ⟨_, rfl, Hk.out.1.below, by rw [goodT, tf_false Hk.out.2]; exact statesAt_nil _⟩
end Cl
namespace Cl
open Go Go.RowKit Go.Proofs

theorem bytes_of {m : Mem} {v : Value} {l : Table} (h : statesAt m v l) : Bytes l := by
  obtain ⟨a, c, -, -, -, h4⟩ := h
  intro s hs
  obtain ⟨b, off, -, h5⟩ := h4 (List.ne_nil_of_mem hs)
  obtain ⟨i, hi, rfl⟩ := List.mem_iff_getElem.1 hs
  obtain ⟨-, ve, -, h6⟩ := h5 i hi
  obtain ⟨a', c', -, -, -, h7⟩ := h6
  intro e he
  obtain ⟨b', off', -, h8⟩ := h7 (List.ne_nil_of_mem he)
  obtain ⟨j, hj, rfl⟩ := List.mem_iff_getElem.1 he
  exact ⟨(h8 j hj).2.2.2.1, (h8 j hj).2.2.2.2.1⟩

set_option maxRecDepth 100000 in
set_option maxHeartbeats 2000000 in
theorem alive_any (v0 : Value) (l : Table) (m : Mem) (w : World) (hm : m.inn w) (hl : statesAt m v0 l) (hwf : WF l) (hlen : l.length ≤ 1000000) :
    Calls Tryd.prog 74 #[v0] w fun e w' => ∃ r out, e = .returned r ∧ Below w.heap.size w w' ∧ boolsAt (m.grow w w') r out ∧ out.length = l.length ∧ ∀ s : Nat, s < l.length → (bt out s = true ↔ Lv l s) := by
  have hby := bytes_of hl
  obtain ⟨a, c, rfl, h1, h2, h3⟩ := hl
  unfold maxLen at h2
  refine calls_hide fun R hR => ?_
  go_enter Tryd.func74, Tryd.ntmps74
  go_wp2_with (refine wpList_make_row mkBools rfl (.tmp 9) (.tmp 9) rfl l.length rfl rfl (by omega) (by unfold maxLen; omega) ?_)
  intro w5 hown hgrow
  have hO := (Own.start hm).make hown hgrow
  clear hown hgrow
  have hrep : List.replicate l.length (Value.bool false) = (List.replicate l.length false).map Value.bool := by simp
  rw [hrep] at hO
  clear hrep
  have hR0 := alv_zero l
  generalize hB : w.heap.size = B at *
  generalize List.replicate l.length false = out0 at *
  go_wp2
  refine wp_loop_keep [0, 3, 12, 13] (fun n vs wr => ∃ (r : Nat) (out : List Bool), r ≤ l.length ∧ n = l.length - r ∧ vs = [.slice a l.length c, .slice (some ⟨B, 0, none⟩) l.length l.length, .int .i64 l.length, .int .i64 r] ∧
    Own w m wr m [.row (.slice (some ⟨B, 0, none⟩) l.length l.length) 4 1 l.length (out.map Value.bool)] ∧ AlvRound l out r) ?_ ?_
  · exact ⟨_, 0, out0, Nat.zero_le _, rfl, rfl, hO, hR0⟩
  clear hO hR0
  rintro X z n vs wr hX - ⟨r, out, hr, rfl, rfl, hO, hAR⟩
  simp [litL, lk]
  by_cases hlt : r < l.length
  · have hst := alv_start hAR.len hAR.sound
    have HAR := Lib.hid hAR
    clear hAR
    go_wp2
    refine wp_loop_keep [0, 3, 12, 13, 15, 16, 17] (fun n vs wr => ∃ (i : Nat) (o : List Bool), i ≤ l.length ∧ n = l.length - i ∧ vs = [.slice a l.length c, .slice (some ⟨B, 0, none⟩) l.length l.length, .int .i64 l.length, .int .i64 r, .slice a l.length c, .int .i64 l.length, .int .i64 i] ∧
      Own w m wr m [.row (.slice (some ⟨B, 0, none⟩) l.length l.length) 4 1 l.length (o.map Value.bool)] ∧ AlvInv l out o i (fun _ => False)) ?_ ?_
    · exact ⟨_, 0, out, Nat.zero_le _, rfl, rfl, hO, hst⟩
    clear hO hst
    rintro Y z2 n vs wr2 hY - ⟨i, o, hi, rfl, rfl, hO, hI⟩
    simp [litL, lk]
    by_cases hlt2 : i < l.length
    · obtain ⟨b, off, rfl, h4⟩ := h3 (by intro h; simp [h] at hlt2)
      obtain ⟨g1, ve, g2, ea, ec, rfl, g4, g5, g6⟩ := h4 i hlt2
      have hgl := Mem.cell_lt hO.inn g1
      have g1w := Mem.cell_w hO.inn g1
      have g2w := Mem.cell_w hO.inn g2
      have hol := hI.len
      have hil : i < o.length := by omega
      have d3 := row_cellw (j := i) (u := .bool o[i]) hO.row (by simp [hil])
      rw [← bt_get hil] at d3
      have d4 := row_frozen hO.row i
      have hrl := (World.ownsRow.lt hO.row _ rfl).2
      have hwfl := hwf l[i] (List.getElem_mem hlt2)
      have hbyl := hby l[i] (List.getElem_mem hlt2)
      have hgl2 : l[i]? = some l[i] := by simp [hlt2]
      have hacc := accAt_nat l i hlt2
      generalize l[i] = st at *
      -- the accepting bit
      have hs1 := alv_step (C' := fun o' => accAt l i = true ∨ ∃ e ∈ st.edges.take 0, bt o' e.to.toNat = true) hI hlt2 st.accept (fun h => .inl (hacc.trans h)) (fun h => ⟨[], by simp only [accFrom]; exact hacc.trans h⟩) (fun h => by
        rcases h with h | ⟨e, he, -⟩
        · exact .inr (hacc.symm.trans h)
        · simp at he)
      have hO1 := (hO.setRow i (.bool (bt o i || st.accept))).al #[.bool st.accept, .slice ea st.edges.length ec] 48
      have hset : (o.map Value.bool).set i (.bool (bt o i || st.accept)) = (o.set i (bt o i || st.accept)).map Value.bool := by rw [List.map_set]
      rw [hset, World.size_setCell] at hO1
      have Hk := Lib.hid (And.intro hs1 (And.intro hO1 (And.intro hwfl (And.intro hbyl (And.intro hgl2 hacc)))))
      clear hs1 hO1 hset hwfl hbyl hgl2 hacc hI hO
      generalize hbo : bt o i = bo at *
      unfold maxLen at g5
      have Hbo := Lib.hid hbo
      clear hbo
      generalize hS : wr2.heap.size = S at *
      cases bo
      all_goals
        go_wp2
        refine wp_loop_keep [0, 3, 4, 5, 12, 13, 15, 16, 17, 34, 35, 36] (fun n vs wr => ∃ (j : Nat) (o' : List Bool), j ≤ st.edges.length ∧ n = st.edges.length - j ∧
          vs = [.slice (some ⟨b, off, none⟩) l.length c, .slice (some ⟨B, 0, none⟩) l.length l.length, .int .i64 i, .pointer (some ⟨S, 0, none⟩), .int .i64 l.length, .int .i64 r, .slice (some ⟨b, off, none⟩) l.length c, .int .i64 l.length, .int .i64 i, .slice ea st.edges.length ec, .int .i64 st.edges.length, .int .i64 j] ∧
          Own w m wr m [.row (.slice (some ⟨B, 0, none⟩) l.length l.length) 4 1 l.length (o'.map Value.bool)] ∧ AlvInv l out o' i (fun o'' => accAt l i = true ∨ ∃ e ∈ st.edges.take j, bt o'' e.to.toNat = true)) ?_ ?_
        · exact ⟨_, 0, _, Nat.zero_le _, rfl, rfl, Hk.out.2.1.tail, Hk.out.1⟩
        clear g1w g2w hgl d3 d4 hrl
        rintro Z z3 n vs wr3 hZ - ⟨j, o', hj, rfl, rfl, hO, hI⟩
        simp [litL, lk]
        by_cases hlt3 : j < st.edges.length
        · obtain ⟨b', off', rfl, h10⟩ := g6 (by intro h; simp [h] at hlt3)
          obtain ⟨e1, e2, e3, e4, e5, -⟩ := h10 j hlt3
          have e1w := Mem.cell_w hO.inn e1
          have e2w := Mem.cell_w hO.inn e2
          have e3w := Mem.cell_w hO.inn e3
          have ebl := Mem.cell_lt hO.inn e1
          have hte := wfEdges_lohi Hk.out.2.2.1 st.edges[j] (List.getElem_mem hlt3)
          obtain ⟨en, hen⟩ := Int.eq_ofNat_of_zero_le hte.2.1
          have hol2 := hI.len
          have hst2 := alv_step (C' := fun o'' => accAt l i = true ∨ ∃ e ∈ st.edges.take (j + 1), bt o'' e.to.toNat = true) hI hlt2 (bt o' en) (fun h => .inr ⟨st, Hk.out.2.2.2.2.1, st.edges[j], List.getElem_mem hlt3, by rw [hen]; exact h⟩)
            (fun h => lv_edge hwf hby Hk.out.2.2.2.2.1 (List.getElem_mem hlt3) (by rw [hen]; exact hI.sound en h)) (fun h => by
              rcases h with h | ⟨e, he, h⟩
              · exact .inl (.inl h)
              · rw [List.take_succ_eq_append_getElem hlt3] at he
                rcases List.mem_append.1 he with h1 | h1
                · exact .inl (.inr ⟨e, h1, h⟩)
                · simp only [List.mem_singleton] at h1
                  subst h1
                  rw [hen] at h
                  exact .inr h)
          have hil2 : i < o'.length := by omega
          have hte2 := hte.2.2
          rw [hen] at e3w hte2
          have henl : en < o'.length := by omega
          have d5 := row_cellw (j := i) (u := .bool o'[i]) hO.row (by simp [hil2])
          have d6 := row_cellw (j := en) (u := .bool o'[en]) hO.row (by simp [henl])
          rw [← bt_get hil2] at d5
          rw [← bt_get henl] at d6
          have d7 := row_frozen hO.row i
          have drl := (World.ownsRow.lt hO.row _ rfl).2
          have hO1 := (hO.setRow i (.bool (bt o' i || bt o' en)))
          have hset : (o'.map Value.bool).set i (.bool (bt o' i || bt o' en)) = (o'.set i (bt o' i || bt o' en)).map Value.bool := by rw [List.map_set]
          rw [hset] at hO1
          have Hk2 := Lib.hid (And.intro hst2 hO1)
          clear hst2 hO1 hset hI hO hen
          generalize bt o' en = be at *
          generalize hbo2 : bt o' i = bo2 at *
          have Hbo2 := Lib.hid hbo2
          clear hbo2
          cases bo2
          all_goals
            go_wp2
            exact hZ.out _ _ _ (by omega) rfl ⟨j + 1, _, by omega, rfl, rfl, Hk2.out.2.al' _, Hk2.out.1⟩
        · obtain rfl : j = st.edges.length := by omega
          have hnx := alv_next hI hlt2 (fun h => by
            rw [List.take_length]
            rcases h with h | ⟨st', h1, h2⟩
            · exact .inl h
            · rw [Hk.out.2.2.2.2.1] at h1
              cases h1
              exact .inr h2)
          have Hk2 := Lib.hid hnx
          clear hnx hI
          go_wp2
          exact hY.out _ _ _ (by omega) rfl ⟨i + 1, o', by omega, rfl, rfl, hO, Hk2.out⟩
    · obtain rfl : i = l.length := by omega
      have h1 := Lib.hid (alv_round HAR.out hI)
      go_wp2
      exact hX.out _ _ _ (by omega) rfl ⟨r + 1, o, by omega, rfl, rfl, hO, h1.out⟩
  · obtain rfl : r = l.length := by omega
    have h1 := alv_end hwf hAR
    have hb := boolsAt_of_row (l := out) (m := m) (w := wr) (v := .slice (some ⟨B, 0, none⟩) l.length l.length) (by rw [hAR.len]; exact hO.row)
    have Hk := Lib.hid (And.intro h1 (And.intro (boolsAt_le hO.sealRow.done hb) (And.intro hO.below hAR.len)))
    clear h1 hb hO hAR
    go_wp2
    exact hR.out _ _ ⟨_, out, rfl, hB ▸ Hk.out.2.2.1, Hk.out.2.1, Hk.out.2.2.2, Hk.out.1⟩
end Cl
namespace Cl
open Go Go.RowKit Go.Proofs

theorem filter_take {es : List Ed} {lv : Nat → Bool} {j : Nat} (h : j < es.length) : (es.take (j + 1)).filter (fun e => lv e.to.toNat) = (es.take j).filter (fun e => lv e.to.toNat) ++ if lv (es[j]).to.toNat = true then [es[j]] else [] := by
  rw [List.take_succ_eq_append_getElem h, List.filter_append]
  simp [List.filter_cons]

set_option maxRecDepth 100000 in
set_option maxHeartbeats 2000000 in
theorem trimmed_any (v0 : Value) (l : Table) (m : Mem) (w : World) (hm : m.inn w) (hl : statesAt m v0 l) (hwf : WF l) (hlen : l.length ≤ 1000000) (hel : ∀ s ∈ l, s.edges.length ≤ 1000000) :
    Calls Tryd.prog 75 #[v0] w fun e w' => ∃ r lv, e = .returned r ∧ Below w.heap.size w w' ∧ statesAt (m.grow w w') r (trimT l lv) ∧ ∀ s : Nat, s < l.length → (lv s = true ↔ Lv l s) := by
  have hA := alive_any v0 l m w hm hl hwf hlen
  have hby := bytes_of hl
  have hl0 := hl
  obtain ⟨a, c, rfl, h1, h2, h3⟩ := hl
  unfold maxLen at h2
  have HA := Lib.hid hA
  clear hA
  refine calls_hide fun R hR => ?_
  go_enter Tryd.func75, Tryd.ntmps75
  go_wp2_with fail
  refine HA.out.mono ?_
  rintro e w1 ⟨r, out, rfl, hb1, hr1, hol, hiff⟩
  have hO1 := ((Own.start hm).call hb1).nilRow 48 2
  obtain ⟨la, lc, rfl, l1, l2, l3⟩ := hr1
  have HF := Lib.hid hiff
  have hol1 : l.length ≤ out.length := by omega
  clear hol
  have HO1 := Lib.hid hO1
  clear hiff hO1 HA hb1
  go_wp2
  refine wp_loop_keep [0, 3, 4, 12, 13, 14] (fun n vs wr => ∃ (k : Nat) (vst : Value) (xs : List Value) (mk : Mem), k ≤ l.length ∧ n = l.length - k ∧ vs = [.slice a l.length c, .slice la out.length lc, vst, .slice a l.length c, .int .i64 l.length, .int .i64 k] ∧
    Own w m wr mk [.row vst 48 2 k xs] ∧ StRow mk xs (trimT (l.take k) (bt out)) ∧ (m.grow w w1).le mk) ?_ ?_
  · exact ⟨_, 0, .slice none 0 0, [], _, Nat.zero_le _, rfl, rfl, HO1.out, StRow.nil _, Mem.le_refl _⟩
  clear HO1
  rintro X z n vs wr hX - ⟨k, vst, xs, mk, hk, rfl, rfl, hO, hrow, hmk⟩
  simp [litL, lk]
  obtain ⟨vsta, vstc, rfl⟩ := row_slice hO.row
  by_cases hlt : k < l.length
  · obtain ⟨b, off, rfl, h4⟩ := h3 (by intro h; simp [h] at hlt)
    obtain ⟨g1, ve, g2, ea, ec, rfl, g4, g5, g6⟩ := h4 k hlt
    obtain ⟨lb, lo', rfl, l4⟩ := l3 (by intro h; simp [h] at hol1; simp [hol1] at hlt)
    have hmr := Mem.inn_le hO.ext.le hO.inn
    have g1w := Mem.cell_w hmr g1
    have g2w := Mem.cell_w hmr g2
    have hgl := Mem.cell_lt hmr g1
    have hwfl := hwf l[k] (List.getElem_mem hlt)
    have hell := hel l[k] (List.getElem_mem hlt)
    have hbyl := hby l[k] (List.getElem_mem hlt)
    have htk : trimT (l.take (k + 1)) (bt out) = trimT (l.take k) (bt out) ++ [⟨(l[k]).accept, (l[k]).edges.filter fun e => bt out e.to.toNat⟩] := by
      unfold trimT
      rw [List.take_succ_eq_append_getElem hlt, List.map_append]; rfl
    generalize l[k] = st at *
    unfold maxLen at g5
    have hO2 := ((hO.al #[.bool st.accept, .slice ea st.edges.length ec] 48).tail.al #[.bool st.accept, .slice none 0 0] 48).nilRow 51 3
    have hsz : (wr.alloc (.cells #[.bool st.accept, .slice ea st.edges.length ec] 48)).heap.size = wr.heap.size + 1 := by simp
    rw [hsz] at hO2
    have Hk := Lib.hid (And.intro hO2 (And.intro htk (And.intro hwfl hbyl)))
    clear hO2 htk hwfl hbyl hsz hO
    generalize hS : wr.heap.size = S at *
    go_wp2
    refine wp_loop_keep [0, 3, 4, 7, 12, 13, 14, 22, 23, 24] (fun n vs w2 => ∃ (j : Nat) (vx : Value), j ≤ st.edges.length ∧ n = st.edges.length - j ∧
      vs = [.slice (some ⟨b, off, none⟩) l.length c, .slice (some ⟨lb, lo', none⟩) out.length lc, .slice vsta k vstc, .pointer (some ⟨S + 1, 0, none⟩), .slice (some ⟨b, off, none⟩) l.length c, .int .i64 l.length, .int .i64 k, .slice ea st.edges.length ec, .int .i64 st.edges.length, .int .i64 j] ∧
      Own w m w2 mk [.row vx 51 3 ((st.edges.take j).filter fun e => bt out e.to.toNat).length (edCells ((st.edges.take j).filter fun e => bt out e.to.toNat)), .obj (S + 1) 48 #[.bool st.accept, vx], .row (.slice vsta k vstc) 48 2 k xs]) ?_ ?_
    · exact ⟨_, 0, .slice none 0 0, Nat.zero_le _, rfl, rfl, Hk.out.1⟩
    clear g1w g2w hgl hmr
    rintro Y z2 n vs w2 hY - ⟨j, vx, hj, rfl, rfl, hO⟩
    simp [litL, lk]
    obtain ⟨vxa, vxc, rfl⟩ := row_slice hO.row
    by_cases hlt2 : j < st.edges.length
    · obtain ⟨b', off', rfl, h10⟩ := g6 (by intro h; simp [h] at hlt2)
      obtain ⟨e1, e2, e3, e4, e5, e6⟩ := h10 j hlt2
      have hmr := Mem.inn_le hO.ext.le hO.inn
      have e1w := Mem.cell_w hmr e1
      have e2w := Mem.cell_w hmr e2
      have e3w := Mem.cell_w hmr e3
      have ebl := Mem.cell_lt hmr e1
      have hte := wfEdges_lohi Hk.out.2.2.1 st.edges[j] (List.getElem_mem hlt2)
      have hft := filter_take (lv := bt out) hlt2
      obtain ⟨en, hen⟩ := Int.eq_ofNat_of_zero_le hte.2.1
      have hte2 := hte.2.2
      rw [hen] at e3w hte2 hft
      have henl : en < out.length := by omega
      have x1 := Mem.cell_w hO.inn (Mem.cell_le hmk (l4 en henl))
      have xl := Mem.cell_lt hO.inn (Mem.cell_le hmk (l4 en henl))
      rw [← bt_get henl] at x1
      have hec : edCells [st.edges[j]] = [.int .u8 (st.edges[j]).lo, .int .u8 (st.edges[j]).hi, .int .i64 en] := by simp [edCells, hen]
      have hfl := List.length_filter_le (fun e => bt out e.to.toNat) (st.edges.take j)
      have htl : (st.edges.take j).length ≤ j := List.length_take_le _ _
      generalize st.edges[j] = e at *
      generalize (st.edges.take j).filter (fun e => bt out e.to.toNat) = es1 at *
      have s1 := hO.swap.obj.cell (i := 1) rfl
      have s2 := hO.swap.obj.lt
      have Hft := Lib.hid (And.intro hft hec)
      clear hft hec hte hen
      cases hbf : bt out en with
      | false =>
        rw [hbf] at x1
        have Hbf := Lib.hid hbf
        clear hbf
        go_wp2
        refine hY.out _ _ _ (by omega) rfl ⟨j + 1, .slice vxa es1.length vxc, by omega, rfl, rfl, ?_⟩
        have e1 := Hft.out.1
        simp only [Int.toNat_natCast, Hbf.out, Bool.false_eq_true, if_false, List.append_nil] at e1
        rw [e1]
        exact hO.al' _
      | true =>
        rw [hbf] at x1
        have Hbf := Lib.hid hbf
        clear hbf
        have hO2 := (hO.al #[.int .u8 e.lo, .int .u8 e.hi, .int .i64 en] 51).tail
        have hO3 := hO2.al #[.int .u8 e.lo, .int .u8 e.hi, .int .i64 en] 51
        have hsz : (w2.alloc (.cells #[.int .u8 e.lo, .int .u8 e.hi, .int .i64 en] 51)).heap.size = w2.heap.size + 1 := by simp
        rw [hsz] at hO3
        have hnews := hO3.obj.news rfl
        clear hO2 hO
        go_wp2_with (at_builtin; refine wpList_append_row tyEdges rfl (.tmp 34) (.tmp 36) rfl (.slice vxa es1.length vxc) es1.length (edCells es1) rfl hO3.swap.row ⟨w2.heap.size + 1, 0, none⟩ 1 1 [.int .u8 e.lo, .int .u8 e.hi, .int .i64 en] rfl rfl hnews (by simp [Value.oneCell']) (by unfold maxLen; omega) (by omega) ?_)
        intro va vc w7 hown7 hgrow7 hrow7
        have hO4 := (hO3.swap.app hown7 hgrow7 hrow7 (by simp)).third
        clear hown7 hgrow7 hrow7 hO3 hnews
        have u2 := hO4.obj.cell (i := 1) rfl
        have u3 := hO4.obj.frozen 1
        have u4 := hO4.obj.lt
        have hO5 := ((hO4.set 1 (.slice va (es1.length + 1) vc)).swap).drop3
        have HO5 := Lib.hid hO5
        clear hO5 hO4
        go_wp2
        refine hY.out _ _ _ (by omega) rfl ⟨j + 1, .slice va (es1.length + 1) vc, by omega, rfl, rfl, ?_⟩
        have e1 := Hft.out.1
        simp only [Int.toNat_natCast, Hbf.out, if_true] at e1
        rw [e1, edCells_append]
        have e2 := Hft.out.2
        simp only [edCells, List.flatMap_cons, List.flatMap_nil, List.append_nil] at e2
        rw [e2]
        have := HO5.out
        simpa using this
    · obtain rfl : j = st.edges.length := by omega
      rw [List.take_length] at hO
      have hfl := List.length_filter_le (fun e => bt out e.to.toNat) st.edges
      have hok : ∀ e ∈ st.edges.filter (fun e => bt out e.to.toNat), edOk e := fun e he => by
        have he' := (List.mem_filter.1 he).1
        have q1 := Hk.out.2.2.2 e he'
        have q2 := wfEdges_lohi Hk.out.2.2.1 e he'
        exact ⟨q1.1, q1.2, by omega, by omega⟩
      have hes := edgesAt_of_row (m := mk) hO.row hok
      have hmk2 := Mem.le_addv (w := w2) hO.free
      have hrow2 := (hrow.mono hmk2).push (s := ⟨st.accept, st.edges.filter fun e => bt out e.to.toNat⟩) hes
      rw [← Hk.out.2.1] at hrow2
      have hO2 := hO.sealRow
      have x0 := hO2.obj.cell (i := 0) rfl
      have x1 := hO2.obj.cell (i := 1) rfl
      have xl := hO2.obj.lt
      have hO3 := hO2.al #[.bool st.accept, .slice vxa (st.edges.filter fun e => bt out e.to.toNat).length vxc] 48
      have Hk2 := Lib.hid (And.intro hrow2 (Mem.le_trans hmk hmk2))
      clear hrow2 hes hmk2 hok
      generalize mk.addv w2 (.slice vxa (st.edges.filter fun e => bt out e.to.toNat).length vxc) = mk2 at *
      generalize st.edges.filter (fun e => bt out e.to.toNat) = es1 at *
      have hnews := hO3.obj.news rfl
      clear hO hO2
      go_wp2_with (at_builtin; refine wpList_append_row tyStates rfl (.tmp 40) (.tmp 42) rfl (.slice vsta k vstc) k xs rfl hO3.third.row ⟨w2.heap.size, 0, none⟩ 1 1 [.bool st.accept, .slice vxa es1.length vxc] rfl rfl hnews (by simp [Value.oneCell']) (by unfold maxLen; omega) (by omega) ?_)
      intro va vc w7 hown7 hgrow7 hrow7
      have hO4 := ((hO3.third.app hown7 hgrow7 hrow7 (by simp))).drop2.drop2
      clear hown7 hgrow7 hrow7 hO3 hnews
      go_wp2
      exact hX.out _ _ _ (by omega) rfl ⟨k + 1, .slice va (k + 1) vc, _, mk2, by omega, rfl, rfl, hO4, Hk2.out.1, Hk2.out.2⟩
  · obtain rfl : k = l.length := by omega
    rw [List.take_length] at hrow
    have htl : (trimT l (bt out)).length = l.length := by simp [trimT]
    have hst := statesAt_of_row (l := trimT l (bt out)) (m := mk) (by rw [htl]; exact hO.row) hrow hO.free
    have hst2 := statesAt_le hO.sealRow.done hst
    have Hk := Lib.hid (And.intro hst2 (And.intro hO.below HF.out))
    clear hst hst2 hO hrow htl
    go_wp2
    exact hR.out _ _ ⟨_, bt out, rfl, Hk.out.2.1, Hk.out.1, Hk.out.2.2⟩
end Cl
namespace Cl
open Go Go.RowKit Go.Proofs

theorem row_some {w : World} {t : TypeId} {size : Nat} {a : Option Addr} {n c : Nat} {xs : List Value} (h : w.ownsRow 0 t size (.slice a n c) n xs) (hn : 0 < n) : ∃ b, a = some ⟨b, 0, none⟩ := by
  rcases h.2 with ⟨h, -⟩ | ⟨gg, cap, cur, h, -⟩
  · injection h with h1 h2 h3; omega
  · injection h with h1 h2 h3; exact ⟨_, h1⟩
theorem ordCells_get {o : List Nat} {k : Nat} (h : k < o.length) : (ordCells o)[k]? = some (.int .i64 (o[k] : Nat)) := by simp [ordCells, h]
theorem edCells_renE_one (o : List Nat) (es : List Ed) (e : Ed) (q : Nat) : edCells (renE o es ++ [⟨e.lo, e.hi, (q : Int)⟩]) = edCells (renE o es) ++ [.int .u8 e.lo, .int .u8 e.hi, .int .i64 q] := by rw [edCells_append]

set_option maxRecDepth 100000 in
set_option maxHeartbeats 4000000 in
theorem reached_any (v0 : Value) (l : Table) (m : Mem) (w : World) (hm : m.inn w) (hl : statesAt m v0 l) (hwf : WF l) (hlen : l.length ≤ 1000000) (hpos : 0 < l.length) (hel : ∀ s ∈ l, s.edges.length ≤ 1000000) :
    Calls Tryd.prog 76 #[v0] w fun e w' => ∃ r o, e = .returned r ∧ Below w.heap.size w w' ∧ statesAt (m.grow w w') r (reachT l o o.length) ∧ ReachInv l o o.length := by
  have hby := bytes_of hl
  obtain ⟨a, c, rfl, h1, h2, h3⟩ := hl
  unfold maxLen at h2
  obtain ⟨b, off, rfl, h4⟩ := h3 (by intro h; simp [h] at hpos)
  clear h3
  refine calls_hide fun R hR => ?_
  have hO := (((Own.start hm).al #[.int .i64 0] 3).asRow).nilRow 48 2
  have HO := Lib.hid (And.intro hO (reach_start hpos))
  clear hO
  go_enter Tryd.func76, Tryd.ntmps76
  go_wp2
  refine wp_loop_keep [0, 3, 4, 5] (fun n vs wr => ∃ (k : Nat) (o : List Nat) (vo vst : Value) (xs : List Value) (mk : Mem), n = l.length - k ∧ vs = [.slice (some ⟨b, off, none⟩) l.length c, vo, vst, .int .i64 k] ∧
    Own w m wr mk [.row vst 48 2 k xs, .row vo 3 1 o.length (ordCells o)] ∧ StRow mk xs (reachT l o k) ∧ ReachInv l o k) ?_ ?_
  · exact ⟨_, 0, [0], .slice (some ⟨w.heap.size, 0, none⟩) 1 1, .slice none 0 0, [], _, rfl, rfl, HO.out.1, StRow.nil _, HO.out.2⟩
  clear HO
  rintro X z n vs wr hX - ⟨k, o, vo, vst, xs, mk, rfl, rfl, hO, hrow, hRI⟩
  simp [litL, lk]
  obtain ⟨vsta, vstc, rfl⟩ := row_slice hO.row
  obtain ⟨voa, voc, rfl⟩ := row_slice hO.swap.row
  have hoN := nodup_len hRI.nodup hRI.lt
  have hkle := hRI.le
  by_cases hlt : k < o.length
  · obtain ⟨vob, rfl⟩ := row_some hO.swap.row (by omega)
    have hsN := hRI.lt _ (List.getElem_mem hlt)
    have r1 := row_cellw hO.swap.row (ordCells_get hlt)
    obtain ⟨g1, ve, g2, ea, ec, rfl, g4, g5, g6⟩ := h4 o[k] hsN
    have hmr := Mem.inn_le hO.ext.le hO.inn
    have g1w := Mem.cell_w hmr g1
    have g2w := Mem.cell_w hmr g2
    have hgl := Mem.cell_lt hmr g1
    have rl := (World.ownsRow.lt hO.swap.row _ rfl).2
    have hwfl := hwf l[o[k]] (List.getElem_mem hsN)
    have hell := hel l[o[k]] (List.getElem_mem hsN)
    have hbyl := hby l[o[k]] (List.getElem_mem hsN)
    have hgs : l[o[k]]? = some l[o[k]] := by simp [hsN]
    have hst0 := inR_start hRI (l[o[k]]).edges
    have hnext := fun o' => reach_next hRI hlt hgs (o' := o')
    have HX := Lib.hid (And.intro hnext (And.intro hst0 (And.intro hwfl hbyl)))
    clear hnext hst0 hgs hwfl hbyl
    generalize l[o[k]] = st at *
    generalize o[k] = s at *
    unfold maxLen at g5
    have hO2 := (hO.al #[.bool st.accept, .slice none 0 0] 48).nilRow 51 3
    have HO2 := Lib.hid hO2
    clear hO2 hO
    generalize hS : wr.heap.size = S at *
    go_wp2
    refine wp_loop_keep [0, 4, 5, 6, 3, 33, 34, 35] (fun n vs w2 => ∃ (j : Nat) (o' : List Nat) (vo' vx : Value), j ≤ st.edges.length ∧ n = st.edges.length - j ∧
      vs = [.slice (some ⟨b, off, none⟩) l.length c, .slice vsta k vstc, .int .i64 k, .pointer (some ⟨S, 0, none⟩), vo', .slice ea st.edges.length ec, .int .i64 st.edges.length, .int .i64 j] ∧
      Own w m w2 mk [.row vx 51 3 j (edCells (renE o' (st.edges.take j))), .obj S 48 #[.bool st.accept, vx], .row (.slice vsta k vstc) 48 2 k xs, .row vo' 3 1 o'.length (ordCells o')] ∧
      InR l o st.edges j o') ?_ ?_
    · exact ⟨_, 0, o, .slice (some ⟨vob, 0, none⟩) o.length voc, .slice none 0 0, Nat.zero_le _, rfl, rfl, HO2.out, HX.out.2.1⟩
    clear HO2 g1w g2w hgl hmr r1 rl
    rintro Y z2 n vs w2 hY - ⟨j, o', vo', vx, hj, rfl, rfl, hO, hI⟩
    simp [litL, lk]
    obtain ⟨vxa, vxc, rfl⟩ := row_slice hO.row
    obtain ⟨voa', voc', rfl⟩ := row_slice hO.fourth.row
    have hoN' := nodup_len hI.nodup hI.lt
    have hol' := hI.pre.length_le
    by_cases hlt2 : j < st.edges.length
    · obtain ⟨b', off', rfl, h10⟩ := g6 (by intro h; simp [h] at hlt2)
      obtain ⟨e1, e2, e3, e4, e5, e6⟩ := h10 j hlt2
      have hmr := Mem.inn_le hO.ext.le hO.inn
      have e1w := Mem.cell_w hmr e1
      have e2w := Mem.cell_w hmr e2
      have e3w := Mem.cell_w hmr e3
      have ebl := Mem.cell_lt hmr e1
      have hte := wfEdges_lohi HX.out.2.2.1 st.edges[j] (List.getElem_mem hlt2)
      have hstep := inR_step hI hlt2 (by omega)
      obtain ⟨en, hen⟩ := Int.eq_ofNat_of_zero_le hte.2.1
      have hte2 := hte.2.2
      rw [hen] at e3w hte2 hstep
      rw [Int.toNat_natCast] at hstep
      obtain ⟨vob', rfl⟩ := row_some hO.fourth.row (by omega)
      have HST := Lib.hid hstep
      clear hstep hte hen
      generalize st.edges[j] = e at *
      have hO2 := hO.al #[.int .u8 e.lo, .int .u8 e.hi, .int .i64 en] 51
      have HO2 := Lib.hid hO2
      have hne : S < w2.heap.size := hO.swap.obj.lt
      clear hO2 hO
      generalize hE : w2.heap.size = E at *
      go_wp2
      refine wp_loop_keep [0, 4, 5, 6, 3, 33, 34, 35, 8, 9] (fun n vs w3 => ∃ (q : Nat), q ≤ idPos o' en ∧ n = o'.length - q ∧
        vs = [.slice (some ⟨b, off, none⟩) l.length c, .slice vsta k vstc, .int .i64 k, .pointer (some ⟨S, 0, none⟩), .slice (some ⟨vob', 0, none⟩) o'.length voc', .slice (some ⟨b', off', none⟩) st.edges.length ec, .int .i64 st.edges.length, .int .i64 j, .pointer (some ⟨E, 0, none⟩), .int .i64 q] ∧
        Own w m w3 mk [.obj E 51 #[.int .u8 e.lo, .int .u8 e.hi, .int .i64 en], .row (.slice vxa j vxc) 51 3 j (edCells (renE o' (st.edges.take j))), .obj S 48 #[.bool st.accept, .slice vxa j vxc], .row (.slice vsta k vstc) 48 2 k xs, .row (.slice (some ⟨vob', 0, none⟩) o'.length voc') 3 1 o'.length (ordCells o')]) ?_ ?_
      · exact ⟨_, 0, Nat.zero_le _, rfl, rfl, HO2.out⟩
      clear HO2 e1w e2w e3w ebl hmr
      rintro Z z3 n vs w3 hZ - ⟨q, hq, rfl, rfl, hO⟩
      simp [litL, lk]
      have hip := idPos_le o' en
      have f2 := hO.obj.cell (i := 2) rfl
      have fl := hO.obj.lt
      go_wp2
      refine wp_cut_keep [0, 4, 5, 6, 3, 33, 34, 35, 8, 9, 51] (fun vs w' => ∃ (bb : Bool) (nq : Nat), vs = [.slice (some ⟨b, off, none⟩) l.length c, .slice vsta k vstc, .int .i64 k, .pointer (some ⟨S, 0, none⟩), .slice (some ⟨vob', 0, none⟩) o'.length voc', .slice (some ⟨b', off', none⟩) st.edges.length ec, .int .i64 st.edges.length, .int .i64 j, .pointer (some ⟨E, 0, none⟩), .int .i64 q, .bool bb] ∧
        w' = w3.drewN nq ∧ (bb = true → q < o'.length ∧ q + 1 ≤ idPos o' en) ∧ (bb = false → q = idPos o' en)) ?_ ?_
      · intro V hV
        by_cases hq2 : q < o'.length
        · have hnx := idPos_next hq hq2
          have r2 := row_cellw hO.fifth.row (ordCells_get hq2)
          have HN := Lib.hid hnx
          clear hnx
          generalize o'[q] = y at *
          by_cases hy : y = en
          · have hne2 : ((y : Int) != (en : Int)) = false := by simp [hy]
            have HY := Lib.hid hy
            clear hy
            refine wp_region_quiet_lit (by kernel_rfl) (by kernel_rfl) ?_
            repeat (any_goals (first | go_big_quiet_step (fail) | quiet_step (fail) | (refine wpQuiet_step (fun K hK => ?_); go_simp; split <;> (refine hK _ ?_; clear hK K))))
            all_goals (refine wpQuiet_nil ?_; intro _ hw'; obtain ⟨nq, hw''⟩ := hw'; subst hw'')
            all_goals go_wp2
            all_goals refine hV.out _ _ rfl ⟨false, nq, rfl, rfl, (fun h => by cases h), fun _ => ?_⟩
            all_goals
              have := HN.out
              rw [if_pos HY.out] at this
              exact this
          · have hne2 : ((y : Int) != (en : Int)) = true := by simp; omega
            have HY := Lib.hid hy
            clear hy
            refine wp_region_quiet_lit (by kernel_rfl) (by kernel_rfl) ?_
            repeat (any_goals (first | go_big_quiet_step (fail) | quiet_step (fail) | (refine wpQuiet_step (fun K hK => ?_); go_simp; split <;> (refine hK _ ?_; clear hK K))))
            all_goals (refine wpQuiet_nil ?_; intro _ hw'; obtain ⟨nq, hw''⟩ := hw'; subst hw'')
            all_goals go_wp2
            all_goals refine hV.out _ _ rfl ⟨true, nq, rfl, rfl, (fun _ => ⟨hq2, ?_⟩), (fun h => by cases h)⟩
            all_goals
              have := HN.out
              rw [if_neg HY.out] at this
              exact this
        · refine wp_region_quiet_lit (by kernel_rfl) (by kernel_rfl) ?_
          repeat (any_goals (first | go_big_quiet_step (fail) | quiet_step (fail) | (refine wpQuiet_step (fun K hK => ?_); go_simp; split <;> (refine hK _ ?_; clear hK K))))
          all_goals (refine wpQuiet_nil ?_; intro _ hw'; obtain ⟨nq, hw''⟩ := hw'; subst hw'')
          all_goals go_wp2
          all_goals exact hV.out _ _ rfl ⟨false, nq, rfl, rfl, (fun h => by cases h), fun _ => by omega⟩
      rintro z4 vs w4 - ⟨bb, nq, rfl, rfl, hb1, hb2⟩
      simp [litL, lk]
      have hO2 := hO.drN nq
      clear hO f2 fl
      cases bb with
      | true =>
        obtain ⟨hq3, hq4⟩ := hb1 rfl
        clear hb1 hb2
        go_wp2
        exact hZ.out _ _ _ (by omega) rfl ⟨q + 1, hq4, rfl, rfl, hO2⟩
      | false =>
        obtain rfl := hb2 rfl
        clear hb1 hb2
        have f2 := hO2.obj.cell (i := 2) rfl
        have fl := hO2.obj.lt
        go_upto_if 57 with (fail)
        refine wp_cut_keep [0, 4, 5, 6, 3, 33, 34, 35, 8, 9] (fun vs w5 => ∃ vo2 : Value, vs = [.slice (some ⟨b, off, none⟩) l.length c, .slice vsta k vstc, .int .i64 k, .pointer (some ⟨S, 0, none⟩), vo2, .slice (some ⟨b', off', none⟩) st.edges.length ec, .int .i64 st.edges.length, .int .i64 j, .pointer (some ⟨E, 0, none⟩), .int .i64 (idPos o' en)] ∧
          Own w m w5 mk [.obj E 51 #[.int .u8 e.lo, .int .u8 e.hi, .int .i64 en], .row (.slice vxa j vxc) 51 3 j (edCells (renE o' (st.edges.take j))), .obj S 48 #[.bool st.accept, .slice vxa j vxc], .row (.slice vsta k vstc) 48 2 k xs, .row vo2 3 1 (idAdd o' en).length (ordCells (idAdd o' en))]) ?_ ?_
        · intro V hV
          by_cases hfull : idPos o' en < o'.length
          · have hdec : (((idPos o' en : Nat) : Int) == (o'.length : Int)) = false := beq_eq_false_iff_ne.2 (by omega)
            have hia : idAdd o' en = o' := by unfold idAdd; rw [if_pos hfull]
            have Hia := Lib.hid hia
            clear hia
            go_wp2
            refine hV.out _ _ rfl ⟨.slice (some ⟨vob', 0, none⟩) o'.length voc', rfl, ?_⟩
            rw [Hia.out]; exact hO2
          · have hdec : (((idPos o' en : Nat) : Int) == (o'.length : Int)) = true := beq_iff_eq.2 (by omega)
            have hia : idAdd o' en = o' ++ [en] := by unfold idAdd; rw [if_neg hfull]
            have Hia := Lib.hid hia
            have hO3 := hO2.al #[.int .i64 en] 3
            clear hia
            have hwsz : (w3.drewN nq).heap.size = w3.heap.size := rfl
            rw [hwsz] at hO3
            have hnews := hO3.obj.news rfl
            go_wp2_with (at_builtin; refine wpList_append_row tyInts rfl (.tmp 58) (.tmp 61) rfl (.slice (some ⟨vob', 0, none⟩) o'.length voc') o'.length (ordCells o') rfl (hO3.at_row (by simp)) ⟨w3.heap.size, 0, none⟩ 1 1 [.int .i64 en] rfl rfl hnews (by simp [Value.oneCell']) (by unfold maxLen; omega) (by omega) ?_)
            intro va vc w7 hown7 hgrow7 hrow7
            have hO4 := (hO3.pull (l₁ := [_, _, _, _, _])).app hown7 hgrow7 hrow7 (by simp)
            have hO5 := (hO4.unpull (l₁ := [_, _, _, _, _])).tail
            have HO5 := Lib.hid hO5
            clear hO5 hO4 hO3 hown7 hgrow7 hrow7 hnews
            go_wp2
            refine hV.out _ _ rfl ⟨.slice va (o'.length + 1) vc, rfl, ?_⟩
            rw [Hia.out]
            have := HO5.out
            simpa [ordCells] using this
        rintro z5 vs w5 - ⟨vo2, rfl, hO3⟩
        simp [litL, lk]
        have f0 := hO3.obj.cell (i := 0) rfl
        have f1 := hO3.obj.cell (i := 1) rfl
        have fl := hO3.obj.lt
        have x1 := hO3.third.obj.cell (i := 1) rfl
        have xl := hO3.third.obj.lt
        obtain ⟨vo2a, vo2c, rfl⟩ := row_slice (hO3.at_row (v := vo2) (t := 3) (size := 1) (n := (idAdd o' en).length) (xs := ordCells (idAdd o' en)) (by simp))
        have hO4 := hO3.tail.al #[.int .u8 e.lo, .int .u8 e.hi, .int .i64 (idPos o' en)] 51
        have hnews := hO4.obj.news rfl
        clear hO3 hO2
        go_wp2_with (at_builtin; refine wpList_append_row tyEdges rfl (.tmp 64) (.tmp 71) rfl (.slice vxa j vxc) j (edCells (renE o' (st.edges.take j))) rfl hO4.swap.row ⟨w5.heap.size, 0, none⟩ 1 1 [.int .u8 e.lo, .int .u8 e.hi, .int .i64 (idPos o' en)] rfl rfl hnews (by simp [Value.oneCell']) (by unfold maxLen; omega) (by omega) ?_)
        intro va vc w7 hown7 hgrow7 hrow7
        have hO5 := (hO4.swap.app hown7 hgrow7 hrow7 (by simp)).third
        clear hown7 hgrow7 hrow7 hO4 hnews
        have u2 := hO5.obj.cell (i := 1) rfl
        have u3 := hO5.obj.frozen 1
        have u4 := hO5.obj.lt
        have hO6 := ((hO5.set 1 (.slice va (j + 1) vc)).swap).drop3
        have HO6 := Lib.hid hO6
        clear hO6 hO5
        go_wp2
        refine hY.out _ _ _ (by omega) rfl ⟨j + 1, idAdd o' en, .slice vo2a (idAdd o' en).length vo2c, .slice va (j + 1) vc, by omega, rfl, rfl, ?_, HST.out.1⟩
        rw [HST.out.2, edCells_renE_one]
        exact HO6.out
    · obtain rfl : j = st.edges.length := by omega
      rw [List.take_length] at hO
      have hn := HX.out.1 o' hI
      have hok : ∀ e ∈ renE o' st.edges, edOk e := fun e he => by
        obtain ⟨e0, he0, rfl⟩ := List.mem_map.1 he
        have q1 := HX.out.2.2.2 e0 he0
        have q2 := idPos_le o' e0.to.toNat
        exact ⟨q1.1, q1.2, by show _ ≤ ((idPos o' e0.to.toNat : Nat) : Int); omega, by show ((idPos o' e0.to.toNat : Nat) : Int) ≤ _; omega⟩
      have hrl : (renE o' st.edges).length = st.edges.length := by simp [renE]
      have hes := edgesAt_of_row (m := mk) (l := renE o' st.edges) (by rw [hrl]; exact hO.row) hok
      have hmk2 := Mem.le_addv (w := w2) hO.free
      have hrow2 := (hrow.mono hmk2).push (s := ⟨st.accept, renE o' st.edges⟩) hes
      have hO2 := hO.sealRow
      have x0 := hO2.obj.cell (i := 0) rfl
      have x1 := hO2.obj.cell (i := 1) rfl
      have xl := hO2.obj.lt
      have hO3 := hO2.al #[.bool st.accept, .slice vxa st.edges.length vxc] 48
      have Hk2 := Lib.hid (And.intro hrow2 hn)
      clear hrow2 hes hmk2 hok hrl hn hI
      generalize mk.addv w2 (.slice vxa st.edges.length vxc) = mk2 at *
      have hnews := hO3.obj.news rfl
      clear hO hO2
      go_wp2_with (at_builtin; refine wpList_append_row tyStates rfl (.tmp 75) (.tmp 77) rfl (.slice vsta k vstc) k xs rfl hO3.third.row ⟨w2.heap.size, 0, none⟩ 1 1 [.bool st.accept, .slice vxa st.edges.length vxc] rfl rfl hnews (by simp [Value.oneCell']) (by unfold maxLen; omega) (by omega) ?_)
      intro va vc w7 hown7 hgrow7 hrow7
      have hO4 := ((hO3.third.app hown7 hgrow7 hrow7 (by simp))).drop2.drop2
      clear hown7 hgrow7 hrow7 hO3 hnews
      go_wp2
      refine hX.out _ _ _ (by omega) rfl ⟨k + 1, o', .slice voa' o'.length voc', .slice va (k + 1) vc, _, mk2, rfl, rfl, hO4, ?_, Hk2.out.2.1⟩
      rw [Hk2.out.2.2]
      exact Hk2.out.1
  · obtain rfl : k = o.length := by omega
    have htl : (reachT l o o.length).length = o.length := by simp [reachT]
    have hst := statesAt_of_row (l := reachT l o o.length) (m := mk) (by rw [htl]; exact hO.row) hrow hO.free
    have hst2 := statesAt_le hO.sealRow.done hst
    have Hk := Lib.hid (And.intro hst2 (And.intro hO.below hRI))
    clear hst hst2 hO hrow htl hRI
    go_wp2
    exact hR.out _ _ ⟨_, o, rfl, Hk.out.2.1, Hk.out.1, Hk.out.2.2⟩
end Cl

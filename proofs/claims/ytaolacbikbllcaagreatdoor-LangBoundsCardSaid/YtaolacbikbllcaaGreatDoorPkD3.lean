/- Lemmas for the proofs: WalkCE, WalkCF, WalkCG, WalkCH, WalkCI. -/
import Derived.RegionTactic
import Derived.ChangeAlike
import Derived.Test.YtaolacbikbllcaaGreatDoorPkA2
import Derived.Test.YtaolacbikbllcaaGreatDoorPkA3
import Derived.Test.YtaolacbikbllcaaGreatDoorPkA1
import Derived.Test.YtaolacbikbllcaaGreatDoorPkA5
import Derived.Test.YtaolacbikbllcaaGreatDoorPkD2
import Derived.Test.YtaolacbikbllcaaGreatDoorPkA4
import Derived.Test.YtaolacbikbllcaaGreatDoorPkA9
import Derived.Test.YtaolacbikbllcaaGreatDoorPkA10
import Derived.Test.YtaolacbikbllcaaGreatDoorPkA7
import Derived.Test.YtaolacbikbllcaaGreatDoorPkA8
import Derived.Test.YtaolacbikbllcaaGreatDoorPkC1
import Derived.Test.YtaolacbikbllcaaGreatDoorPkA6
namespace Cl
open Go Go.RowKit Go.Proofs

/-- words behind a prefix, as strings -/
def preS (p : List UInt8) (l : List (List UInt8)) : List ByteArray := l.map fun x => bstr (p ++ x)
theorem preS_len (p : List UInt8) (l : List (List UInt8)) : (preS p l).length = l.length := by simp [preS]

theorem bstr_app (a b : List UInt8) : bstr a ++ bstr b = bstr (a ++ b) := by
  unfold bstr
  apply ByteArray.ext
  simp
theorem conv_byte (w : World) (x : Int) (b : UInt8) (hb : x = b.toNat) :
    (convert 98 9 (.slice (some ⟨w.heap.size, 0, none⟩) 1 1)).run Tryz.prog (w.alloc (.cells #[.int .u8 x] 5)) = .ok (.string (bstr [b])) (w.alloc (.cells #[.int .u8 x] 5)) := by
  subst hb
  have := run_convert_bytes_arg (w.alloc (.cells #[.int .u8 (b.toNat : Int)] 5)) 98 5 Tryz.underlying98 Tryz.underlying5 w.heap.size 0 1 1 [(b.toNat : Int)] rfl (fun i hi => by
    obtain rfl : i = 0 := by omega
    simp) _ Tryz.underlying9
  rw [this]
  have := strOfNums_bytes [b]
  simp only [List.map_cons, List.map_nil] at this
  rw [this]
  rfl
set_option maxRecDepth 100000 in
set_option maxHeartbeats 8000000 in
theorem r06words_any (v vt : Value) (A : Table) (M : Nat) (m : Mem) (hA : statesAt m v A) (ht : boolssAt m vt (canTab A M)) (hw : WF A) (hb : Bytes A) (hM : M ≤ 1000000) (_ : A.length ≤ 100000) :
    ∀ (len : Nat), len ≤ M → ∀ (s : Nat) (n : Int) (p : List UInt8) (mm : Mem) (w : World), s < A.length → -9223372036854775808 ≤ n → n ≤ 1000 → p.length + len ≤ 2000000 → m.le mm → mm.inn w →
      Calls Tryz.prog 87 #[.agg #[v], vt, .int .i64 s, .int .i64 len, .int .i64 n, .string (bstr p)] w fun e w' => ∃ r, e = .returned r ∧ Below w.heap.size w w' ∧ strsAt (mm.grow w w') r (preS p ((wex A len s).take n.toNat)) := by
  have hA' := hA
  have ht' := ht
  obtain ⟨va, vc, rfl, a1, a2, a3⟩ := hA
  obtain ⟨ta, tc, rfl, t1, t2, t3⟩ := ht
  unfold maxLen at a2 t2
  have hct : (canTab A M).length = A.length := by simp [canTab]
  rw [hct] at t1 ht' ⊢
  have HA := Lib.hid (And.intro a3 (And.intro t3 (And.intro hw hb)))
  clear a3 t3 hw hb hct
  intro len
  induction len with
  | zero =>
    intro hlen s n p mm w hs hn1 hn2 hp hmm hm
    refine calls_hide fun R hR => ?_
    obtain ⟨tb, toff, rfl, ht3⟩ := HA.out.2.1 (by intro h; have := congrArg List.length h; simp [canTab] at this; rw [this] at hs; simp at hs)
    obtain ⟨u, u1, ua, uc, rfl, u2, u3, u4⟩ := ht3 s (by simpa [canTab] using hs)
    have e1 : (canTab A M)[s]'(by simpa [canTab] using hs) = (List.range (M + 1)).map fun n => cb A s n := by simp [canTab]
    rw [e1] at u1 u2 u4
    simp only [List.length_map, List.length_range] at u1 u2 u4
    obtain ⟨ub, uoff, rfl, u5⟩ := u4 (by simp)
    have u6 := u5 0 (by omega)
    simp at u6
    unfold boolAt at u6
    have d1 := Mem.cell_w hm (Mem.cell_le hmm u1)
    have d2 := Mem.cell_lt hm (Mem.cell_le hmm u1)
    have d3 := Mem.cell_w hm (Mem.cell_le hmm u6)
    have d4 := Mem.cell_lt hm (Mem.cell_le hmm u6)
    unfold maxLen at u3
    obtain ⟨bb, hbb⟩ : ∃ x, cb A s 0 = x := ⟨_, rfl⟩
    rw [hbb] at d3 u6
    have hO := (Own.start hm).al #[.slice va A.length vc] 24
    have HO := Lib.hid hO
    have HBB := Lib.hid hbb
    clear hO hbb ht3 u4 u5 e1
    cases bb with
    | false =>
      have hnil : wex A 0 s = [] := by
        have := HBB.out
        unfold cb at this
        simpa using this
      have HN := Lib.hid hnil
      clear hnil
      go_enter Tryz.func87, Tryz.ntmps87
      go_wp2
      refine hR.out _ _ ⟨_, rfl, HO.out.below, ?_⟩
      rw [HN.out]
      exact ⟨none, 0, by simp [preS], by simp [preS], Nat.zero_le _, fun h => absurd (by simp [preS]) h⟩
    | true =>
      by_cases hn : n ≤ 0
      · have hd : decide (n ≤ 0) = true := decide_eq_true hn
        go_enter Tryz.func87, Tryz.ntmps87
        go_wp2
        refine hR.out _ _ ⟨_, rfl, HO.out.below, ?_⟩
        have : n.toNat = 0 := by omega
        rw [this]
        exact ⟨none, 0, by simp [preS], by simp [preS], Nat.zero_le _, fun h => absurd (by simp [preS]) h⟩
      · have hd : decide (n ≤ 0) = false := decide_eq_false hn
        have hw0 : wex A 0 s = [[]] := by
          have h1 := HBB.out
          unfold cb at h1
          have h2 : ∀ x ∈ wex A 0 s, x = [] := fun x hx => List.eq_nil_of_length_eq_zero ((mem_wex A 0 s x).1 hx).1
          have h3 := (wex_sorted A 0 s)
          match hq : wex A 0 s, h1, h2, h3 with
          | [], h1, _, _ => simp at h1
          | [x], _, h2, _ => rw [h2 x (by simp)]
          | x :: y :: r, _, h2, h3 =>
            have e1 := h2 x (by simp)
            have e2 := h2 y (by simp)
            rw [e1, e2] at h3
            simp at h3
            exact absurd h3.1.1 (slt_irrefl [])
        have HN := Lib.hid hw0
        have hO2 := HO.out.al #[.string (bstr p)] 9
        have hsz : (w.alloc (.cells #[.slice va A.length vc] 24)).heap.size = w.heap.size + 1 := by simp
        rw [hsz] at hO2
        have HO2 := Lib.hid hO2
        clear hw0 hO2 hsz
        go_enter Tryz.func87, Tryz.ntmps87
        go_wp2
        refine hR.out _ _ ⟨_, rfl, HO2.out.below, ?_⟩
        have hge := (HO2.out.fresh _ (List.mem_cons_self ..) _ rfl).1
        have e : preS p ((wex A 0 s).take n.toNat) = [bstr p] := by
          rw [HN.out]
          have : 1 ≤ n.toNat := by omega
          rw [List.take_of_length_le (by simpa using this)]
          simp [preS]
        rw [e]
        refine ⟨_, _, rfl, Nat.le_refl _, by simp [maxLen], fun _ => ⟨_, 0, rfl, fun i hi => ?_⟩⟩
        obtain rfl : i = 0 := by simpa using hi
        exact ⟨grow_cell hge (HO2.out.obj.cell (i := 0) rfl), by simp [bstr, ByteArray.size, maxLen]; omega⟩
  | succ len ih =>
    intro hlen s n p mm w hs hn1 hn2 hp hmm hm
    have IH := Lib.hid ih
    clear ih
    refine calls_hide fun R hR => ?_
    obtain ⟨tb, toff, rfl, ht3⟩ := HA.out.2.1 (by intro h; have := congrArg List.length h; simp [canTab] at this; rw [this] at hs; simp at hs)
    obtain ⟨u, u1, ua, uc, rfl, u2, u3, u4⟩ := ht3 s (by simpa [canTab] using hs)
    have e1 : (canTab A M)[s]'(by simpa [canTab] using hs) = (List.range (M + 1)).map fun n => cb A s n := by simp [canTab]
    rw [e1] at u1 u2 u4
    simp only [List.length_map, List.length_range] at u1 u2 u4
    obtain ⟨ub, uoff, rfl, u5⟩ := u4 (by simp)
    have u6 := u5 (len + 1) (by omega)
    simp at u6
    unfold boolAt at u6
    have d1 := Mem.cell_w hm (Mem.cell_le hmm u1)
    have d2 := Mem.cell_lt hm (Mem.cell_le hmm u1)
    have d3 := Mem.cell_w hm (Mem.cell_le hmm u6)
    have d4 := Mem.cell_lt hm (Mem.cell_le hmm u6)
    unfold maxLen at u3
    obtain ⟨bb, hbb⟩ : ∃ x, cb A s (len + 1) = x := ⟨_, rfl⟩
    rw [hbb] at d3 u6
    have hO := (Own.start hm).al #[.slice va A.length vc] 24
    have HO := Lib.hid hO
    have HBB := Lib.hid hbb
    clear hO hbb ht3 u4 u5 e1
    cases bb with
    | false =>
      have hnil : wex A (len + 1) s = [] := by
        have := HBB.out
        unfold cb at this
        simpa using this
      have HN := Lib.hid hnil
      clear hnil
      go_enter Tryz.func87, Tryz.ntmps87
      go_wp2
      refine hR.out _ _ ⟨_, rfl, HO.out.below, ?_⟩
      rw [HN.out]
      exact ⟨none, 0, by simp [preS], by simp [preS], Nat.zero_le _, fun h => absurd (by simp [preS]) h⟩
    | true =>
      by_cases hn : n ≤ 0
      · have hd : decide (n ≤ 0) = true := decide_eq_true hn
        go_enter Tryz.func87, Tryz.ntmps87
        go_wp2
        refine hR.out _ _ ⟨_, rfl, HO.out.below, ?_⟩
        have : n.toNat = 0 := by omega
        rw [this]
        exact ⟨none, 0, by simp [preS], by simp [preS], Nat.zero_le _, fun h => absurd (by simp [preS]) h⟩
      · have hd : decide (n ≤ 0) = false := decide_eq_false hn
        have hd2 : (((len + 1 : Nat) : Int) == 0) = false := beq_eq_false_iff_ne.2 (by omega)
        obtain ⟨sb, soff, rfl, h4⟩ := HA.out.1 (by intro h; simp [h] at hs)
        obtain ⟨-, ve, g2, ea, ec, rfl, g4, g5, g6⟩ := h4 s hs
        have hwx := wex_esW HA.out.2.2.1 HA.out.2.2.2 hs len
        have hsep := wfEdges_sep (HA.out.2.2.1 _ (List.getElem_mem hs))
        have hby := HA.out.2.2.2 _ (List.getElem_mem hs)
        generalize (A[s]).edges = es at *
        have HX := Lib.hid (And.intro hwx (And.intro hsep hby))
        have G6 := Lib.hid g6
        have g2' := Mem.cell_le hmm g2
        have hb0 := HO.out.obj.cell (i := 0) rfl
        unfold maxLen at g5
        obtain ⟨k, rfl⟩ : ∃ k : Nat, n = k := ⟨n.toNat, by omega⟩
        have hO2 := HO.out.nilRow 9 1
        have HO2 := Lib.hid hO2
        clear hwx hsep hby g6 h4 hO2 HO
        go_enter Tryz.func87, Tryz.ntmps87
        go_wp2
        refine wp_loop_keep [1, 2, 3, 4, 5, 6, 13, 14] (fun n vs w2 => ∃ (i : Nat) (vo : Value) (out : List (List UInt8)) (mk : Mem), i ≤ es.length ∧ n = es.length - i ∧ vs = [.slice (some ⟨tb, toff, none⟩) A.length tc, .int .i64 s, .int .i64 ((len + 1 : Nat) : Int), .int .i64 k, .string (bstr p), .pointer (some ⟨w.heap.size, 0, none⟩), vo, .int .i64 i] ∧
          out = (esW A len (es.take i)).take k ∧ Own w mm w2 mk [.row vo 9 1 out.length ((preS p out).map Value.string), .obj w.heap.size 24 #[.slice (some ⟨sb, soff, none⟩) A.length vc]] ∧ mm.le mk) ?_ ?_
        · exact ⟨_, 0, .slice none 0 0, [], mm, Nat.zero_le _, rfl, rfl, by simp [esW], HO2.out, Mem.le_refl _⟩
        clear HO2 d1 d2 d3 d4 hb0
        rintro X z n vs w2 hX - ⟨i, vo, out, mk, hi, rfl, rfl, hout, hO, hmk⟩
        simp [litL, lk]
        obtain ⟨voa, voc, rfl⟩ := row_slice hO.row
        have hb0 := hO.swap.obj.cell (i := 0) rfl
        have hb1 := hO.swap.obj.lt
        have d1 := Mem.cell_w hO.inn (Mem.cell_le hmk g2')
        have d2 := Mem.cell_lt hO.inn (Mem.cell_le hmk g2')
        have hok : out.length ≤ k := by rw [hout]; exact List.length_take_le _ _
        by_cases hlt : i < es.length
        · by_cases hk2 : out.length < k
          · obtain ⟨eb, eo, rfl, h10⟩ := G6.out (by intro h; simp [h] at hlt)
            obtain ⟨x1, x2, x3, x4, x5, -⟩ := h10 i hlt
            have f1 := Mem.cell_w hO.inn (Mem.cell_le hmk (Mem.cell_le hmm x1))
            have f2 := Mem.cell_w hO.inn (Mem.cell_le hmk (Mem.cell_le hmm x2))
            have f3 := Mem.cell_w hO.inn (Mem.cell_le hmk (Mem.cell_le hmm x3))
            have f4 := Mem.cell_lt hO.inn (Mem.cell_le hmk (Mem.cell_le hmm x1))
            have hse := HX.out.2.1 es[i] (List.getElem_mem hlt)
            have hcp := fun c (hc : c ≤ (es[i]).hi + 1 - (es[i]).lo) => catW_pre A len es hlt hc
            have hca := catW_all A len es hlt
            have hc0 := catW_zero A len es i es[i]
            generalize es[i] = e at *
            obtain ⟨to, hto⟩ := Int.eq_ofNat_of_zero_le hse.2.2.1
            have htl : to < A.length := by have := hse.2.2.2; omega
            have hlh := hse.2.1
            have hO3 := (hO.al #[.int .u8 e.lo, .int .u8 e.hi, .int .i64 e.to] 46).swap
            have HO3 := Lib.hid hO3
            have HC0 := Lib.hid (And.intro hcp (And.intro hca (And.intro (show out = (catW A len es i e 0).take k by rw [hc0]; exact hout) hto)))
            clear hcp hca hc0 hto hO hO3 hout h10 hse
            go_wp2
            generalize w2.alloc (.cells #[.int .u8 e.lo, .int .u8 e.hi, .int .i64 e.to] 46) = w3 at *
            generalize w2.heap.size = E at *
            refine wp_loop_keep [1, 2, 3, 4, 5, 6, 13, 14, 15, 16] (fun n vs w4 => ∃ (c : Nat) (vo : Value) (out : List (List UInt8)) (mk : Mem), c ≤ e.hi + 1 - e.lo ∧ n = e.hi + 1 - e.lo - c ∧ vs = [.slice (some ⟨tb, toff, none⟩) A.length tc, .int .i64 s, .int .i64 ((len + 1 : Nat) : Int), .int .i64 k, .string (bstr p), .pointer (some ⟨w.heap.size, 0, none⟩), vo, .int .i64 i, .pointer (some ⟨E, 0, none⟩), .int .i64 ((e.lo + c : Nat) : Int)] ∧
              out = (catW A len es i e c).take k ∧ Own w mm w4 mk [.row vo 9 1 out.length ((preS p out).map Value.string), .obj E 46 #[.int .u8 e.lo, .int .u8 e.hi, .int .i64 e.to], .obj w.heap.size 24 #[.slice (some ⟨sb, soff, none⟩) A.length vc]] ∧ mm.le mk) ?_ ?_
            · exact ⟨_, 0, _, out, mk, Nat.zero_le _, rfl, rfl, HC0.out.2.2.1, HO3.out, hmk⟩
            have HC := Lib.hid (And.intro HC0.out.1 (And.intro HC0.out.2.1 HC0.out.2.2.2))
            clear HC0 HO3 f1 f2 f3 f4 hb0 hb1 d1 d2 hk2 hok hmk
            rintro Y z1 n1 vs1 w4 hY - ⟨c, vo, out, mk, hc, rfl, rfl, hout, hO, hmk⟩
            simp [litL, lk]
            obtain ⟨voa, voc, rfl⟩ := row_slice hO.row
            have hb0 := hO.third.obj.cell (i := 0) rfl
            have hb1 := hO.third.obj.lt
            have q0 := hO.swap.obj.cell (i := 0) rfl
            have q1 := hO.swap.obj.cell (i := 1) rfl
            have q2 := hO.swap.obj.cell (i := 2) rfl
            have q3 := hO.swap.obj.lt
            have hok : out.length ≤ k := by rw [hout]; exact List.length_take_le _ _
            by_cases hcl : c < e.hi + 1 - e.lo
            · by_cases hk2 : out.length < k
              · have hd1 : decide ((e.lo : Int) + (c : Int) ≤ (e.hi : Int)) = true := decide_eq_true (by omega)
                have hd2 : decide ((out.length : Int) < (k : Int)) = true := decide_eq_true (by omega)
                have HO := Lib.hid hO
                have HOUT := Lib.hid hout
                have hto := HC.out.2.2
                rw [hto] at q2
                clear hO hout hto
                obtain ⟨bt, hbt⟩ := byteOf (e.lo + c) (by omega)
                have hcv := conv_byte w4 ((e.lo : Int) + (c : Int)) bt (by omega)
                have hcat := bstr_app p [bt]
                have hwu : IntKind.u8.wrap ((e.lo : Int) + (c : Int)) = (e.lo : Int) + (c : Int) := IntWalk.u8_in _ (by omega)
                have hOa := HO.out.al' (.cells #[.int .u8 ((e.lo : Int) + (c : Int))] 5)
                have HI := Lib.hid (IH.out (by omega) to ((k - out.length : Nat) : Int) (p ++ [bt]) mk _ htl (by omega) (by omega) (by simp; omega) (Mem.le_trans hmm hmk) hOa.inn)
                have hsub : ((k - out.length : Nat) : Int) = (k : Int) - (out.length : Int) := by omega
                rw [hsub] at HI
                have HOa := Lib.hid hOa
                have HBT := Lib.hid (And.intro hbt hsub)
                clear hbt hsub hOa HO
                have hns : ¬ 9223372036854775807 < (bstr p).size + (bstr [bt]).size := by
                  have h1 : (bstr p).size = p.length := by simp [bstr, ByteArray.size]
                  have h2 : (bstr [bt]).size = 1 := rfl
                  omega
                go_wp2_with fail
                refine HI.out.mono ?_
                rintro e' w5 ⟨r, rfl, hb5, hst⟩
                have hO5 := HOa.out.call hb5
                have hle5 := Mem.le_grow (w := w5) HOa.out.inn
                have hkn : ((k : Int) - (out.length : Int)).toNat = k - out.length := by omega
                rw [hkn] at hst
                obtain ⟨q, hq⟩ : ∃ q, (wex A len to).take (k - out.length) = q := ⟨_, rfl⟩
                rw [hq] at hst
                have hql : q.length ≤ k - out.length := by rw [← hq]; exact List.length_take_le _ _
                obtain ⟨ra, rc, rfl⟩ : ∃ ra rc, r = .slice ra (preS (p ++ [bt]) q).length rc := by obtain ⟨x, y, e, -⟩ := hst; exact ⟨x, y, e⟩
                have hnews := strs_news hO5.inn hst
                have hvr := hO5.row
                have hpl : (preS (p ++ [bt]) q).length = q.length := preS_len _ _
                rw [hpl] at hnews ⊢
                have HO5 := Lib.hid hO5
                have HQ := Lib.hid (And.intro hq (And.intro hpl hle5))
                clear HI HOa hst hO5 hb5 hcv hcat hns hq hpl hkn hle5
                go_wp2_with (at_builtin; refine wpList_append_any2 tyStrs rfl (.tmp 75) (.tmp 92) rfl (.slice voa out.length voc) out.length ((preS p out).map Value.string) rfl hvr ra q.length rc ((preS (p ++ [bt]) q).map Value.string) rfl (by rw [List.length_map, HQ.out.2.1, Nat.mul_one]) hnews (by simp [Value.oneCell']) (by unfold maxLen; omega) (by omega) ?_)
                intro na nc w6 hown hgrow hrow
                have hO6 := HO5.out.app hown hgrow hrow (Nat.le_refl _)
                have hnew : (preS p out).map Value.string ++ (preS (p ++ [bt]) q).map Value.string = (preS p (out ++ q.map (bt :: ·))).map Value.string := by
                  simp [preS]
                rw [hnew] at hO6
                have hlen2 : (out ++ q.map (bt :: ·)).length = out.length + q.length := by simp
                have hsucc := catW_succ A len es i e c
                have hbW : byteW A len e.to (e.lo + c) = (wex A len to).map (bt :: ·) := by
                  unfold byteW
                  rw [HC.out.2.2, ← HBT.out.1, u8_of]
                have hout2 : out ++ q.map (bt :: ·) = (catW A len es i e (c + 1)).take k := by
                  rw [hsucc, hbW, ← HQ.out.1, HOUT.out, List.map_take]
                  refine take_more ?_
                  rw [← HOUT.out]; exact hk2
                have HO6 := Lib.hid (And.intro hO6 (And.intro hout2 (Mem.le_trans hmk HQ.out.2.2)))
                clear hown hgrow hrow hO6 hnew hsucc hbW hout2 hvr hnews HO5
                go_wp2
                refine hY.out _ _ _ (by omega) rfl ⟨c + 1, .slice na (out.length + q.length) nc, out ++ q.map (bt :: ·), _, by omega, rfl, ?_, HO6.out.2.1, ?_, HO6.out.2.2⟩
                · rfl
                · rw [hlen2]; exact HO6.out.1
              · have hd1 : decide ((e.lo : Int) + (c : Int) ≤ (e.hi : Int)) = true := decide_eq_true (by omega)
                have hd2 : decide ((out.length : Int) < (k : Int)) = false := decide_eq_false (by omega)
                have hkl : k ≤ (catW A len es i e c).length := by
                  have := congrArg List.length hout
                  rw [List.length_take] at this
                  omega
                have hout2 : out = (esW A len (es.take (i + 1))).take k := by rw [hout]; exact take_pre (HC.out.1 c hc) hkl
                have HO := Lib.hid (And.intro hO.drop2 (And.intro hout2 hmk))
                clear hO hout hout2 hkl
                go_wp2
                exact hX.out _ _ _ (by omega) rfl ⟨i + 1, _, out, mk, by omega, rfl, rfl, HO.out.2.1, HO.out.1, HO.out.2.2⟩
            · have hd1 : decide ((e.lo : Int) + (c : Int) ≤ (e.hi : Int)) = false := decide_eq_false (by omega)
              have hout2 : out = (esW A len (es.take (i + 1))).take k := by
                rw [hout, ← HC.out.2.1, show c = e.hi + 1 - e.lo by omega]
              have HO := Lib.hid (And.intro hO.drop2 (And.intro hout2 hmk))
              clear hO hout hout2
              go_wp2
              exact hX.out _ _ _ (by omega) rfl ⟨i + 1, _, out, mk, by omega, rfl, rfl, HO.out.2.1, HO.out.1, HO.out.2.2⟩
          · have hd2 : decide ((out.length : Int) < (k : Int)) = false := decide_eq_false (by omega)
            have hkl : k ≤ (esW A len (es.take i)).length := by
              have := congrArg List.length hout
              rw [List.length_take] at this
              omega
            have hout2 : out = (esW A len es).take k := by
              have := take_pre (esW_pre A len es (i := i) (j := es.length) (by omega) (Nat.le_refl _)) hkl
              rw [List.take_length] at this
              rw [hout]; exact this
            have HOUT := Lib.hid hout2
            clear hout hkl hout2
            have hall : (wex A (len + 1) s).take k = out := by rw [HX.out.1]; exact HOUT.out.symm
            have hmem : ∀ x ∈ preS p out, x.size ≤ maxLen := fun x hx => by
              obtain ⟨y, hy, rfl⟩ := List.mem_map.1 hx
              rw [← hall] at hy
              have := ((mem_wex A (len + 1) s y).1 (List.mem_of_mem_take hy)).1
              have h1 : (bstr (p ++ y)).size = p.length + y.length := by simp [bstr, ByteArray.size]
              rw [h1]; unfold maxLen; omega
            have hpl : (preS p out).length = out.length := preS_len _ _
            have hst := strsAt_of_row (m := mk) (l := preS p out) (by rw [hpl]; exact hO.row) hmem
            have hst := strsAt_le hO.sealRow.done hst
            have Hk := Lib.hid (And.intro hO.below (And.intro hst hall))
            clear hst hmem hall hpl hO
            go_wp2
            refine hR.out _ _ ⟨_, rfl, Hk.out.1, ?_⟩
            rw [show ((k : Int)).toNat = k from rfl, Hk.out.2.2]
            exact Hk.out.2.1
        · obtain rfl : i = es.length := by omega
          have hout2 : out = (esW A len es).take k := by rw [hout, List.take_length]
          have HOUT := Lib.hid hout2
          clear hout hout2 hi
          have hall : (wex A (len + 1) s).take k = out := by rw [HX.out.1]; exact HOUT.out.symm
          have hmem : ∀ x ∈ preS p out, x.size ≤ maxLen := fun x hx => by
            obtain ⟨y, hy, rfl⟩ := List.mem_map.1 hx
            rw [← hall] at hy
            have := ((mem_wex A (len + 1) s y).1 (List.mem_of_mem_take hy)).1
            have h1 : (bstr (p ++ y)).size = p.length + y.length := by simp [bstr, ByteArray.size]
            rw [h1]; unfold maxLen; omega
          have hpl : (preS p out).length = out.length := preS_len _ _
          have hst := strsAt_of_row (m := mk) (l := preS p out) (by rw [hpl]; exact hO.row) hmem
          have hst := strsAt_le hO.sealRow.done hst
          have Hk := Lib.hid (And.intro hO.below (And.intro hst hall))
          clear hst hmem hall hpl hO
          go_wp2
          refine hR.out _ _ ⟨_, rfl, Hk.out.1, ?_⟩
          rw [show ((k : Int)).toNat = k from rfl, Hk.out.2.2]
          exact Hk.out.2.1
end Cl
namespace Cl
open Go Go.RowKit Go.Proofs

theorem first_nil {f : List UInt8 → Bool} {k : Nat} (h : k = 0 ∨ ∀ x, f x = false) : IsFirst f k [] := by
  refine ⟨.nil, (fun x hx => by cases hx), Nat.zero_le _, fun y hy _ => ?_⟩
  rcases h with h | h
  · exact ⟨(by rw [h]; rfl), fun x hx => by cases hx⟩
  · rw [h y] at hy; cases hy
theorem goodT_acc (A : Table) (x : List UInt8) : accFrom (goodT A) 0 x = Sem A x := by
  unfold goodT Sem
  by_cases h : Canon A
  · simp [tf_true h]
  · simp [tf_false h]; exact accFrom_nil x

set_option maxRecDepth 100000 in
set_option maxHeartbeats 8000000 in
theorem r06Words_any (v0 : Value) (A : Table) (n' : Int) (m : Mem) (w : World) (hm : m.inn w) (hA : statesAt m v0 A) (hn1 : -9223372036854775808 ≤ n') (hn2 : n' ≤ 9223372036854775807) (hlA : A.length ≤ 100000) (hlen : (A.length + 1) * (want1 n' + 1) ≤ 1000000) :
    Calls Tryz.prog 69 #[.agg #[v0], .int .i64 n'] w fun e w' => ∃ r ws, e = .returned r ∧ Below w.heap.size w w' ∧ strsAt (m.grow w w') r (ws.map bstr) ∧ IsFirst (Sem A) (want1 n') ws := by
  have hO := (Own.start hm).al #[v0] 24
  have HM := Lib.hid (sound_any v0 A m _ hO.inn hA (by omega))
  have HO := Lib.hid hO
  obtain ⟨va, vc, rfl, -⟩ := hA
  have hgc := goodT_canon A
  have hgl := goodT_len A
  have hsem : accFrom (goodT A) 0 = Sem A := funext (goodT_acc A)
  have hmul : ((goodT A).length + 1) * (want1 n' + 1) ≤ (A.length + 1) * (want1 n' + 1) := Nat.mul_le_mul (by omega) (Nat.le_refl _)
  generalize goodT A = T at *
  clear hO
  refine calls_hide fun R hR => ?_
  go_enter Tryz.func69, Tryz.ntmps69
  go_wp2_with fail
  refine HM.out.mono ?_
  rintro e w1 ⟨r, rfl, hb1, hst⟩
  obtain ⟨ra, rc, rfl⟩ : ∃ ra rc, r = .slice ra T.length rc := by obtain ⟨x, y, e, -⟩ := hst; exact ⟨x, y, e⟩
  have hO1 := (HO.out.call hb1).al #[.slice ra T.length rc] 24
  have hle1 := Mem.le_grow (w := w1) HO.out.inn
  have HO1 := Lib.hid hO1
  have HS := Lib.hid (And.intro hst (And.intro hgc hsem))
  clear hO1 HM HO hb1 hst hgc hsem hle1
  generalize m.grow _ w1 = mk at *
  have c1 := HO1.out.obj.cell (i := 0) rfl
  have c2 := HO1.out.obj.lt
  have c3 := HO1.out.obj.frozen 0
  by_cases h0 : T.length = 0
  · have hd : ((T.length : Int) == 0) = true := by simp [h0]
    have H0 := Lib.hid h0
    clear h0
    go_wp2
    refine hR.out _ _ ⟨_, [], rfl, HO1.out.below, ⟨none, 0, rfl, Nat.le_refl _, Nat.zero_le _, fun h => absurd rfl h⟩, first_nil (.inr fun x => ?_)⟩
    rw [← HS.out.2.2, List.eq_nil_of_length_eq_zero H0.out]
    exact accFrom_nil x
  · have hd : ((T.length : Int) == 0) = false := beq_eq_false_iff_ne.2 (by omega)
    obtain ⟨wv, hwv⟩ : ∃ x : Int, min n' 1000 = x := ⟨_, rfl⟩
    have hwk : max wv 0 = ((want1 n' : Nat) : Int) := by unfold want1; omega
    obtain ⟨M, hM⟩ : ∃ x : Nat, (T.length + 1) * (want1 n' + 1) = x := ⟨_, rfl⟩
    have hMi : ((T.length : Int) + 1) * (((want1 n' : Nat) : Int) + 1) = (M : Int) := by
      rw [← hM, Int.natCast_mul]; rfl
    have hMb : M ≤ 1000000 := by omega
    have hTl : T.length ≤ 100000 := by omega
    have hwr : wrap64 (M : Int) = (M : Int) := by unfold wrap64; omega
    have hbig : want1 n' * T.length ≤ M := by
      rw [← hM, Nat.mul_comm]
      exact Nat.mul_le_mul (by omega) (by omega)
    have hwv1 : wv ≤ 1000 := by omega
    have hwv2 : -9223372036854775808 ≤ wv := by omega
    have HK := Lib.hid (And.intro hbig hwk)
    have hkw : want1 n' ≤ 1000 := by unfold want1; omega
    have hkv : wv ≤ 0 ∨ wv = ((want1 n' : Nat) : Int) := by omega
    have HKV := Lib.hid hkv
    have HCan := Lib.hid (fun w (hw : mk.inn w) => r06can_any (.slice ra T.length rc) T M mk w hw HS.out.1 HS.out.2.1.wf HS.out.2.1.bytes (by omega) (by omega))
    have H0 := Lib.hid (show 0 < T.length by omega)
    clear hM hbig hmul hgl h0 hkv
    go_wp2_with fail
    refine (HCan.out _ HO1.out.inn).mono ?_
    rintro e w2 ⟨vt, rfl, hb2, hct⟩
    obtain ⟨tb, tc, rfl⟩ : ∃ x y, vt = .slice x T.length y := by obtain ⟨x, y, e, -⟩ := hct; exact ⟨x, y, by rw [e]; simp [canTab]⟩
    have hO2 := (HO1.out.call hb2).nilRow 9 1
    have hle2 := Mem.le_grow (w := w2) HO1.out.inn
    have HWd := Lib.hid (r06words_any (.slice ra T.length rc) (.slice tb T.length tc) T M _ (statesAt_le hle2 HS.out.1) hct HS.out.2.1.wf HS.out.2.1.bytes (by omega) (by omega))
    have HO2 := Lib.hid hO2
    have HS2 := Lib.hid HS.out.2
    clear hO2 hct HCan HO1 hb2 c1 c2 c3 hle2 HS hwv
    generalize mk.grow _ w2 = mk2 at *
    generalize w1.heap.size = G at *
    go_wp2
    refine wp_loop_keep [5, 6, 7, 8, 9, 10] (fun n vs w3 => ∃ (L : Nat) (vo : Value) (out : List (List UInt8)) (mk' : Mem), L ≤ M + 1 ∧ n = M + 1 - L ∧ vs = [.pointer (some ⟨G, 0, none⟩), .int .i64 wv, .int .i64 M, .slice tb T.length tc, vo, .int .i64 L] ∧
      out = (enum T 0 L).take (want1 n') ∧ Own w m w3 mk' [.row vo 9 1 out.length ((preS [] out).map Value.string), .obj G 24 #[.slice ra T.length rc], .obj w.heap.size 24 #[.slice va A.length vc]] ∧ mk2.le mk') ?_ ?_
    · exact ⟨_, 0, .slice none 0 0, [], mk2, Nat.zero_le _, rfl, rfl, by simp [enum], HO2.out, Mem.le_refl _⟩
    clear HO2
    rintro X z n vs w3 hX - ⟨L, vo, out, mk', hL, rfl, rfl, hout, hO, hmk⟩
    simp [litL, lk]
    obtain ⟨voa, voc, rfl⟩ := row_slice hO.row
    have b0 := hO.swap.obj.cell (i := 0) rfl
    have b1 := hO.swap.obj.lt
    have hok : out.length ≤ want1 n' := by rw [hout]; exact List.length_take_le _ _
    by_cases hlt : L ≤ M
    · by_cases hk2 : out.length < want1 n'
      · have hwk2 : wv = ((want1 n' : Nat) : Int) := by have := HKV.out; omega
        have hd1 : decide ((L : Int) ≤ (M : Int)) = true := decide_eq_true (by omega)
        have hd2 : decide ((out.length : Int) < wv) = true := decide_eq_true (by omega)
        have HI := Lib.hid (HWd.out L (by omega) 0 (wv - (out.length : Int)) [] mk' w3 H0.out (by omega) (by omega) (by simp; omega) hmk hO.inn)
        have hkn : (wv - (out.length : Int)).toNat = want1 n' - out.length := by omega
        have HO := Lib.hid (And.intro hO (And.intro hout hkn))
        clear hO hout hkn hwk2
        go_wp2_with fail
        refine HI.out.mono ?_
        rintro e' w5 ⟨r, rfl, hb5, hst⟩
        have hO5 := HO.out.1.call hb5
        have hle5 := Mem.le_grow (w := w5) HO.out.1.inn
        rw [HO.out.2.2] at hst
        obtain ⟨q, hq⟩ : ∃ q, (wex T L ((0 : Nat) : Int)).take (want1 n' - out.length) = q := ⟨_, rfl⟩
        rw [hq] at hst
        have hql : q.length ≤ want1 n' - out.length := by rw [← hq]; exact List.length_take_le _ _
        obtain ⟨ra2, rc2, rfl⟩ : ∃ ra rc, r = .slice ra (preS [] q).length rc := by obtain ⟨x, y, e, -⟩ := hst; exact ⟨x, y, e⟩
        have hnews := strs_news hO5.inn hst
        have hvr := hO5.row
        have hpl : (preS [] q).length = q.length := preS_len _ _
        rw [hpl] at hnews ⊢
        have HO5 := Lib.hid hO5
        have HQ := Lib.hid (And.intro hq (And.intro hpl (And.intro hle5 HO.out.2.1)))
        clear HI HO hst hO5 hb5 hq hpl hle5
        go_wp2_with (at_builtin; refine wpList_append_any2 tyStrs rfl (.tmp 41) (.tmp 49) rfl (.slice voa out.length voc) out.length ((preS [] out).map Value.string) rfl hvr ra2 q.length rc2 ((preS [] q).map Value.string) rfl (by rw [List.length_map, HQ.out.2.1, Nat.mul_one]) hnews (by simp [Value.oneCell']) (by unfold maxLen; omega) (by omega) ?_)
        intro na nc w6 hown hgrow hrow
        have hO6 := HO5.out.app hown hgrow hrow (Nat.le_refl _)
        have hnew : (preS [] out).map Value.string ++ (preS [] q).map Value.string = (preS [] (out ++ q)).map Value.string := by simp [preS]
        rw [hnew] at hO6
        have hlen2 : (out ++ q).length = out.length + q.length := by simp
        have hout2 : out ++ q = (enum T 0 (L + 1)).take (want1 n') := by
          rw [enum_succ, ← HQ.out.1, HQ.out.2.2.2]
          refine take_more ?_
          rw [← HQ.out.2.2.2]; exact hk2
        have HO6 := Lib.hid (And.intro hO6 (And.intro hout2 (Mem.le_trans hmk HQ.out.2.2.1)))
        clear hown hgrow hrow hO6 hnew hout2 hvr hnews HO5
        go_wp2
        refine hX.out _ _ _ (by omega) rfl ⟨L + 1, .slice na (out.length + q.length) nc, out ++ q, _, by omega, rfl, rfl, HO6.out.2.1, ?_, HO6.out.2.2⟩
        rw [hlen2]; exact HO6.out.1
      · have hd1 : decide ((L : Int) ≤ (M : Int)) = true := decide_eq_true (by omega)
        have hd2 : decide ((out.length : Int) < wv) = false := decide_eq_false (by have := HKV.out; omega)
        have hkl : want1 n' ≤ (enum T 0 L).length := by
          have := congrArg List.length hout
          rw [List.length_take] at this
          omega
        have hmem : ∀ x ∈ preS [] out, x.size ≤ maxLen := fun x hx => by
          obtain ⟨y, hy, rfl⟩ := List.mem_map.1 hx
          rw [hout] at hy
          have := ((mem_enum T 0 L y).1 (List.mem_of_mem_take hy)).1
          have h1 : (bstr ([] ++ y)).size = y.length := by simp [bstr, ByteArray.size]
          rw [h1]; unfold maxLen; omega
        have hpl : (preS [] out).length = out.length := preS_len _ _
        have hst := strsAt_of_row (m := mk') (l := preS [] out) (by rw [hpl]; exact hO.row) hmem
        have hst := strsAt_le hO.sealRow.done hst
        have hpe : preS [] out = out.map bstr := by simp [preS]
        rw [hpe] at hst
        have hfi : IsFirst (Sem A) (want1 n') out := by
          rw [hout, ← HS2.out.2]
          exact first_enum (.inl hkl)
        have Hk := Lib.hid (And.intro hO.below (And.intro hst hfi))
        clear hst hmem hpl hO hpe hfi hout
        go_wp2
        exact hR.out _ _ ⟨_, out, rfl, Hk.out.1, Hk.out.2.1, Hk.out.2.2⟩
    · obtain rfl : L = M + 1 := by omega
      have hd1 : decide (((M + 1 : Nat) : Int) ≤ (M : Int)) = false := decide_eq_false (by omega)
      have hmem : ∀ x ∈ preS [] out, x.size ≤ maxLen := fun x hx => by
        obtain ⟨y, hy, rfl⟩ := List.mem_map.1 hx
        rw [hout] at hy
        have := ((mem_enum T 0 (M + 1) y).1 (List.mem_of_mem_take hy)).1
        have h1 : (bstr ([] ++ y)).size = y.length := by simp [bstr, ByteArray.size]
        rw [h1]; unfold maxLen; omega
      have hpl : (preS [] out).length = out.length := preS_len _ _
      have hst := strsAt_of_row (m := mk') (l := preS [] out) (by rw [hpl]; exact hO.row) hmem
      have hst := strsAt_le hO.sealRow.done hst
      have hpe : preS [] out = out.map bstr := by simp [preS]
      rw [hpe] at hst
      have hfi : IsFirst (Sem A) (want1 n') out := by
        rw [hout, ← HS2.out.2]
        exact first_most (by have := HK.out.1; omega)
      have Hk := Lib.hid (And.intro hO.below (And.intro hst hfi))
      clear hst hmem hpl hO hpe hfi hout
      go_wp2
      exact hR.out _ _ ⟨_, out, rfl, Hk.out.1, Hk.out.2.1, Hk.out.2.2⟩
end Cl
namespace Cl
open Go Go.RowKit Go.Proofs

set_option maxRecDepth 100000 in
set_option maxHeartbeats 1000000 in
theorem r06Least_any (v0 : Value) (A : Table) (m : Mem) (w : World) (hm : m.inn w) (hA : statesAt m v0 A) (hlen : A.length ≤ 100000) :
    Calls Tryz.prog 44 #[.agg #[v0]] w fun e w' => ∃ o, e = .returned (optV o) ∧ Below w.heap.size w w' ∧ IsLeast (Sem A) o := by
  have hO := (Own.start hm).al #[v0] 24
  have HW := Lib.hid (r06Words_any v0 A 1 m _ hO.inn hA (by omega) (by omega) hlen (by have : want1 1 = 1 := rfl; rw [this]; omega))
  have HO := Lib.hid hO
  clear hO
  refine calls_hide fun R hR => ?_
  go_enter Tryz.func44, Tryz.ntmps44
  go_wp2_with fail
  refine HW.out.mono ?_
  rintro e w1 ⟨r, ws, rfl, hb1, hst, hfirst⟩
  have hO1 := HO.out.call hb1
  have hl := least_first hfirst
  cases ws with
  | nil =>
    obtain ⟨ra, rc, rfl, r2, r3, r4⟩ := hst
    have Hk := Lib.hid (And.intro hO1.below hl)
    clear hO1 hl hfirst HW HO hb1 r4
    go_wp2
    exact hR.out _ _ ⟨none, rfl, Hk.out.1, Hk.out.2⟩
  | cons x ws =>
    obtain ⟨ra, rc, rfl, r2, r3, r4⟩ := hst
    obtain ⟨rb, ro, rfl, r5⟩ := r4 (by simp)
    have z := (r5 0 (by simp)).1
    rw [Nat.add_zero] at z
    have z1 := Mem.cell_w hO1.inn z
    have z2 := Mem.cell_lt hO1.inn z
    simp only [List.map_cons, List.getElem_cons_zero] at z1
    have hw0 : 0 < (List.map bstr (x :: ws)).length := by simp
    have hdec : (((List.map bstr (x :: ws)).length : Int) == 0) = false := beq_eq_false_iff_ne.2 (by omega)
    have Hk := Lib.hid (And.intro hO1.below hl)
    clear hO1 hl hfirst HW HO hb1 r4 r5 z
    generalize (List.map bstr (x :: ws)).length = N at *
    go_wp2
    exact hR.out _ _ ⟨some x, rfl, Hk.out.1, Hk.out.2⟩
theorem slt_iff {x y : List UInt8} : slt x y ↔ x.length < y.length ∨ x.length = y.length ∧ Op.bytesLess x y = true := by
  unfold slt
  constructor
  · rintro (h | ⟨h1, h2⟩)
    · exact .inl h
    · exact .inr ⟨h1, (bl_lex x y h1).2 h2⟩
  · rintro (h | ⟨h1, h2⟩)
    · exact .inl h
    · exact .inr ⟨h1, (bl_lex x y h1).1 h2⟩
def CmpCase (f g : List UInt8 → Bool) : Option (List UInt8) → Option (List UInt8) → Prop
  | none, none => CmpIs f g 0
  | some _, none => CmpIs f g (-1)
  | none, some _ => CmpIs f g 1
  | some x, some y => x ≠ y ∧ (slt x y → CmpIs f g (-1)) ∧ (slt y x → CmpIs f g 1)
theorem cmp_case {f g : List UInt8 → Bool} {a b : Option (List UInt8)} (h : IsLeast (fun w => f w && !g w) a) (k : IsLeast (fun w => g w && !f w) b) : CmpCase f g a b := by
  have q := cmp_of_least h k
  cases a <;> cases b <;> exact q
/-- what Shortlex answers -/
def slxV (s t : ByteArray) : Int := if s.size = t.size then cmpS s.data.toList t.data.toList else if s.size < t.size then -1 else 1
theorem slxV_lt (x y : List UInt8) : slxV (bstr x) (bstr y) < 0 ↔ slt x y := by
  rw [slt_iff]
  have h1 : (bstr x).size = x.length := by simp [bstr, ByteArray.size]
  have h2 : (bstr y).size = y.length := by simp [bstr, ByteArray.size]
  unfold slxV
  rw [h1, h2]
  show (if x.length = y.length then cmpS x y else _) < 0 ↔ _
  by_cases h : x.length = y.length
  · rw [if_pos h]
    unfold cmpS
    constructor
    · intro hx
      refine .inr ⟨h, ?_⟩
      split at hx
      · assumption
      · split at hx <;> omega
    · rintro (hx | ⟨-, hx⟩)
      · omega
      · rw [if_pos hx]; decide
  · rw [if_neg h]
    constructor
    · intro hx
      split at hx
      · exact .inl ‹_›
      · omega
    · rintro (hx | ⟨hx, -⟩)
      · rw [if_pos hx]; decide
      · exact absurd hx h
theorem Shortlex_any (s t : ByteArray) (w : World) : Calls Tryz.prog 45 #[.string s, .string t] w fun e w' => e = .returned (.int .i64 (slxV s t)) ∧ w' = w := by
  unfold slxV
  rw [← ByteArray.toList_eq s, ← ByteArray.toList_eq t]
  refine calls_hide fun R hR => ?_
  by_cases h : s.size = t.size
  · have hd : ((s.size : Int) != (t.size : Int)) = false := by simp [h]
    have H := Lib.hid h
    clear h
    go_enter Tryz.func45, Tryz.ntmps45
    go_wp2
    · have q : Op.bytesLess s.toList t.toList = true := by assumption
      exact hR.out _ _ ⟨by rw [if_pos H.out, cmpS, if_pos q]; rfl, rfl⟩
    · have q : Op.bytesLess s.toList t.toList = false := by assumption
      have q2 : (!s.toList == t.toList) = true := by assumption
      have hne : ¬ s.toList = t.toList := by simpa using q2
      exact hR.out _ _ ⟨by rw [if_pos H.out, cmpS, if_neg (by rw [q]; simp), if_neg hne]; rfl, rfl⟩
    · have q : Op.bytesLess s.toList t.toList = false := by assumption
      have q2 : (!s.toList == t.toList) = false := by assumption
      have he : s.toList = t.toList := by simpa using q2
      exact hR.out _ _ ⟨by rw [if_pos H.out, cmpS, if_neg (by rw [q]; simp), if_pos he]; rfl, rfl⟩
  · have hd : ((s.size : Int) != (t.size : Int)) = true := bne_iff_ne.2 (by omega)
    by_cases h2 : s.size < t.size
    · have hd2 : decide (s.size < t.size) = true := decide_eq_true (by omega)
      have H := Lib.hid (And.intro h h2)
      clear h h2
      go_enter Tryz.func45, Tryz.ntmps45
      go_wp2
      exact hR.out _ _ ⟨by rw [if_neg H.out.1, if_pos H.out.2]; rfl, rfl⟩
    · have hd2 : decide (s.size < t.size) = false := decide_eq_false (by omega)
      have H := Lib.hid (And.intro h h2)
      clear h h2
      go_enter Tryz.func45, Tryz.ntmps45
      go_wp2
      exact hR.out _ _ ⟨by rw [if_neg H.out.1, if_neg H.out.2]; rfl, rfl⟩
set_option maxRecDepth 100000 in
set_option maxHeartbeats 4000000 in
theorem r06Compare_any (v0 v1 : Value) (A B : Table) (m : Mem) (w : World) (hm : m.inn w) (hA : statesAt m v0 A) (hB : statesAt m v1 B) (hlen : (A.length + 2) * (B.length + 2) ≤ 90000) :
    Calls Tryz.prog 20 #[.agg #[v0], .agg #[v1]] w fun e w' => ∃ c, e = .returned (.int .i64 c) ∧ Below w.heap.size w w' ∧ CmpIs (Sem A) (Sem B) c := by
  have hF := Fits.of (A := A) (B := B) (Nat.le_refl _) (Nat.le_refl _) (by omega)
  have hlen2 : (B.length + 2) * (A.length + 2) ≤ 90000 := by rw [Nat.mul_comm]; exact hlen
  have hF2 := Fits.of (A := B) (B := A) (Nat.le_refl _) (Nat.le_refl _) (by omega)
  have hO := ((Own.start hm).al #[v0] 24).al #[v1] 24
  have hsz1 : (w.alloc (.cells #[v0] 24)).heap.size = w.heap.size + 1 := by simp
  rw [hsz1] at hO
  have HM := Lib.hid (r06Minus_any v0 v1 A B m _ hO.inn hA hB hF)
  have HM2 := Lib.hid (fun mk w (hi : mk.inn w) (hle : m.le mk) => r06Minus_any v1 v0 B A mk w hi (statesAt_le hle hB) (statesAt_le hle hA) hF2)
  have HO := Lib.hid hO
  have g1 := hO.obj.cell (i := 0) rfl
  have g2 := hO.swap.obj.cell (i := 0) rfl
  obtain ⟨va, vc, rfl, -⟩ := hA
  obtain ⟨vb, vd, rfl, -⟩ := hB
  clear hO hsz1 hF hF2
  refine calls_hide fun R hR => ?_
  go_enter Tryz.func20, Tryz.ntmps20
  go_wp2_with fail
  refine HM.out.mono ?_
  rintro e w2 ⟨d1, D1, rfl, hb2, hd1, hl1, hlen1⟩
  clear HM g1 g2
  have hO2 := HO.out.call hb2
  have hle2 := Mem.le_grow (w := w2) HO.out.inn
  have HL := Lib.hid (r06Least_any d1 D1 _ _ hO2.inn hd1 (by omega))
  have HO2 := Lib.hid (And.intro hO2 hle2)
  have Hl1 := Lib.hid hl1
  clear hO2 hle2 hb2 HO hd1 hl1 hlen1
  go_wp2_with fail
  refine HL.out.mono ?_
  rintro e w3 ⟨o1, rfl, hb3, hle1⟩
  have hO3 := HO2.out.1.call hb3
  have hq := Mem.le_grow (w := w3) HO2.out.1.inn
  have HO3 := Lib.hid (And.intro hO3 (Mem.le_trans HO2.out.2 hq))
  have Hl1' := Lib.hid (show IsLeast (fun x => Sem A x && !Sem B x) o1 by
    have e : Sem D1 = fun x => Sem A x && !Sem B x := funext Hl1.out.sem
    rw [← e]; exact hle1)
  clear hle1 Hl1 HL HO2 hb3 hq hO3 D1
  generalize hmm : (m.grow _ w2).grow w2 w3 = mk3 at *
  clear hmm
  have g1 := HO3.out.1.obj.cell (i := 0) rfl
  have g2 := HO3.out.1.swap.obj.cell (i := 0) rfl
  have HM := Lib.hid (HM2.out _ _ HO3.out.1.inn HO3.out.2)
  obtain ⟨s1, b1, e1⟩ : ∃ s1 b1, optV o1 = .tuple #[.string s1, .bool b1] := ⟨_, _, rfl⟩
  have E1 := Lib.hid e1
  rw [e1]
  clear e1
  go_wp2_with fail
  refine HM.out.mono ?_
  rintro e w4 ⟨d2, D2, rfl, hb4, hd2, hl2, hlen3⟩
  clear HM g1 g2
  have hO4 := HO3.out.1.call hb4
  have HL := Lib.hid (r06Least_any d2 D2 _ _ hO4.inn hd2 (by omega))
  have HO4 := Lib.hid hO4
  have Hl2 := Lib.hid hl2
  clear hO4 hb4 HO3 hd2 hl2 hlen3
  go_wp2_with fail
  refine HL.out.mono ?_
  rintro e w5 ⟨o2, rfl, hb5, hle2⟩
  have HO5 := Lib.hid (HO4.out.call hb5).below
  have HC := Lib.hid (cmp_case Hl1'.out (show IsLeast (fun x => Sem B x && !Sem A x) o2 by
    have e : Sem D2 = fun x => Sem B x && !Sem A x := funext Hl2.out.sem
    rw [← e]; exact hle2))
  clear hle2 Hl2 HL HO4 hb5 D2 Hl1' HM2
  have E1 := E1.out
  cases o1 with
  | none =>
    rw [optV_none] at E1
    cases E1
    cases o2 with
    | none =>
      rw [optV_none]
      go_wp2
      exact hR.out _ _ ⟨_, rfl, HO5.out, HC.out⟩
    | some y =>
      rw [optV_some]
      go_wp2
      exact hR.out _ _ ⟨_, rfl, HO5.out, HC.out⟩
  | some x =>
    rw [optV_some] at E1
    cases E1
    cases o2 with
    | none =>
      rw [optV_none]
      go_wp2
      exact hR.out _ _ ⟨_, rfl, HO5.out, HC.out⟩
    | some y =>
      rw [optV_some]
      obtain ⟨hne, hc1, hc2⟩ := HC.out
      obtain ⟨sv, hsv⟩ : ∃ c, slxV (bstr x) (bstr y) = c := ⟨_, rfl⟩
      have hlt := slxV_lt x y
      rw [hsv] at hlt
      have HS := Lib.hid hsv
      by_cases h : sv < 0
      · have hd : decide (sv < 0) = true := decide_eq_true h
        have HX := Lib.hid (hc1 (hlt.1 h))
        clear hc1 hc2 hlt hsv HC
        go_wp2_with fail
        refine (Shortlex_any _ _ _).mono ?_
        rintro e w7 ⟨rfl, rfl⟩
        rw [HS.out]
        go_wp2
        exact hR.out _ _ ⟨_, rfl, HO5.out, HX.out⟩
      · have hd : decide (sv < 0) = false := decide_eq_false h
        have hyx : slt y x := by
          rcases slt_total x y with t | t | t
          · exact absurd (hlt.2 t) h
          · exact absurd t hne
          · exact t
        have HX := Lib.hid (hc2 hyx)
        clear hc1 hc2 hlt hsv HC hyx
        go_wp2_with fail
        refine (Shortlex_any _ _ _).mono ?_
        rintro e w7 ⟨rfl, rfl⟩
        rw [HS.out]
        go_wp2
        exact hR.out _ _ ⟨_, rfl, HO5.out, HX.out⟩
end Cl
namespace Cl
open Go Go.RowKit Go.Proofs

set_option maxRecDepth 100000 in
set_option maxHeartbeats 4000000 in
theorem r06Below_any (s : ByteArray) (self : Bool) (m : Mem) (w : World) (hm : m.inn w) (hs : s.size ≤ 1000) :
    Calls Tryz.prog 40 #[.string s, .bool self] w fun e w' => ∃ r C, e = .returned (.agg #[r]) ∧ Below w.heap.size w w' ∧ statesAt (m.grow w w') r C ∧
      LangIs (fun v => belowB self v s.data.toList) C ∧ C.length ≤ s.size + 3 := by
  have hO := ((Own.start hm).al #[.slice none 0 0] 24).nilRow 37 2
  have HO := Lib.hid hO
  clear hO
  refine calls_hide fun R hR => ?_
  go_enter Tryz.func40, Tryz.ntmps40
  go_wp2
  refine wp_loop_keep [0, 1, 4, 5, 6, 7] (fun n vs wr => ∃ (k : Nat) (vo : Value) (xs : List Value) (mk : Mem), k ≤ s.size ∧ n = s.size - k ∧ vs = [.string s, .bool self, .pointer (some ⟨w.heap.size, 0, none⟩), .int .i64 s.size, vo, .int .i64 k] ∧
    Own w m wr mk [.row vo 37 2 k xs, .obj w.heap.size 24 #[.slice none 0 0]] ∧ StRow mk xs ((belowT s.data.toList self).take k)) ?_ ?_
  · exact ⟨_, 0, .slice none 0 0, [], m, Nat.zero_le _, rfl, rfl, HO.out, StRow.nil m⟩
  clear HO
  rintro X z n vs wr hX - ⟨k, vo, xs, mk, hk, rfl, rfl, hO, hrow⟩
  simp [litL, lk]
  obtain ⟨voa, voc, rfl⟩ := row_slice hO.row
  by_cases hlt : k < s.size
  · have hc := (s[k]).toNat_lt
    have htk : (belowT s.data.toList self).take (k + 1) = (belowT s.data.toList self).take k ++ [⟨true, belowE s.size (s[k]'hlt).toNat ++ [⟨(s[k]'hlt).toNat, (s[k]'hlt).toNat, (k : Int) + 1⟩]⟩] := by
      have hsl : s.data.toList.length = s.size := by simp
      have h1 := belowT_take (s := s.data.toList) (self := self) (i := k) (by rw [hsl]; exact hlt)
      have h2 : belowE s.data.toList.length = belowE s.size := by rw [hsl]
      rw [h2] at h1
      exact h1
    have Htk := Lib.hid htk
    have HR := Lib.hid hrow
    clear htk hrow
    have hO2 := (hO.al #[.bool true, .slice none 0 0] 37).nilRow 46 3
    have HO2 := Lib.hid hO2
    clear hO hO2
    have hw1 : IntKind.i64.wrap ((k : Int) + 1) = (k : Int) + 1 := IntWalk.i64_in _ (by omega)
    have hw5 : IntKind.i64.wrap ((s.size : Int) + 1) = (s.size : Int) + 1 := IntWalk.i64_in _ (by omega)
    have hw2 : 0 < (s[k]).toNat → IntKind.u8.wrap (((s[k]).toNat : Int) - 1) = (((s[k]).toNat - 1 : Nat) : Int) := fun h => by rw [IntWalk.u8_in _ (by omega)]; omega
    have Hw2 := Lib.hid hw2
    clear hw2
    go_upto_if 22 with (fail)
    generalize wr.heap.size = S at *
    generalize wr.alloc (.cells #[.bool true, .slice none 0 0] 37) = w2 at *
    refine wp_cut_keep [0, 1, 4, 5, 6, 7, 8] (fun vs w' => ∃ ve : Value, vs = [.string s, .bool self, .pointer (some ⟨w.heap.size, 0, none⟩), .int .i64 s.size, .slice voa k voc, .int .i64 k, .pointer (some ⟨S, 0, none⟩)] ∧
      Own w m w' mk [.row ve 46 3 (belowE s.size (s[k]).toNat).length (edCells (belowE s.size (s[k]).toNat)), .obj S 37 #[.bool true, ve], .row (.slice voa k voc) 37 2 k xs, .obj w.heap.size 24 #[.slice none 0 0]]) ?_ ?_
    · intro V hV
      by_cases hpos : 0 < (s[k]).toNat
      · have hbe : belowE s.size (s[k]).toNat = [⟨0, (s[k]).toNat - 1, (s.size : Int) + 1⟩] := by unfold belowE; rw [if_pos hpos]
        have Hbe := Lib.hid hbe
        have hdec : decide (0 < (s[k]).toNat) = true := decide_eq_true hpos
        have hdec2 : decide ((0 : Int) < ((s[k]).toNat : Int)) = true := decide_eq_true (by omega)
        have hw3 := Hw2.out hpos
        have hO := HO2.out.dr
        clear hbe
        go_wp2
        refine wp_region_T (fun w' => ObjAt w' S 37 #[.bool true, .slice none 0 0]) 12 (by kernel_rfl) ?_
        have hS := hO.swap.obj
        refine wpAnyT_take 0 rfl (by kernel_rfl) (fun _ _ _ h => h) hS (yields_of rfl fun w' hS' => by have q := hS'.cell (i := 1) rfl; go_simp; rfl) ?_
        refine wpAnyT_take 1 rfl (by kernel_rfl) (fun _ _ _ h => h) hS (yields_of rfl fun w' hS' => by have q := hS'.cell (i := 1) rfl; go_simp; rfl) ?_
        refine wpAnyT_take 2 rfl (by kernel_rfl) (fun _ _ _ h => h) hS (yields_of rfl fun w' hS' => by have q := hS'.cell (i := 1) rfl; go_simp; rfl) ?_
        refine wpAnyT_take 3 rfl (by kernel_rfl) (fun _ _ _ h => h) hS (yields_of rfl fun w' hS' => by have q := hS'.cell (i := 1) rfl; go_simp; rfl) ?_
        refine wpAnyT_take 4 rfl (by kernel_rfl) (fun _ _ _ h => h) hS (yields_of rfl fun w' hS' => by have q := hS'.cell (i := 1) rfl; go_simp; rfl) ?_
        refine wpAnyT_take 5 rfl (by kernel_rfl) (fun _ _ _ h => h) hS (yields_of rfl fun w' hS' => by have q := hS'.cell (i := 1) rfl; go_simp; rfl) ?_
        refine wpAnyT_take 6 rfl (by kernel_rfl) (fun _ _ _ h => h) hS (yields_of rfl fun w' hS' => by have q := hS'.cell (i := 1) rfl; go_simp; rfl) ?_
        refine wpAnyT_take 7 rfl (by kernel_rfl) (fun _ _ _ h => h) hS (yields_of rfl fun w' hS' => by have q := hS'.cell (i := 1) rfl; go_simp; rfl) ?_
        refine wpAnyT_only 8 (by kernel_rfl) (wpOp_of rfl rfl (wp_value (by go_simp; first | done | exact ⟨rfl, rfl⟩ | rfl) (andS hS fun _ => ?_)))
        go_simp
        have hO6 := hO.al #[.int .u8 0, .int .u8 ((s[k]).toNat - 1 : Nat), .int .i64 ((s.size : Int) + 1)] 46
        refine wpAnyT_only 9 (by kernel_rfl) (wpOp_of rfl rfl (wp_value (by go_simp; first | done | exact ⟨rfl, rfl⟩ | rfl) (andS hO6.third.obj fun _ => ?_)))
        go_simp
        refine wpAnyT_only 10 (by kernel_rfl) (wpOp_of rfl rfl (wp_append_row tyEdges (.tmp 24) (.tmp 32) rfl (.slice none 0 0) 0 [] rfl hO6.swap.row ⟨w2.heap.size, 0, none⟩ 1 1 [.int .u8 0, .int .u8 ((s[k]).toNat - 1 : Nat), .int .i64 ((s.size : Int) + 1)] rfl rfl (hO6.obj.news rfl) (by simp [Value.oneCell']) (by unfold maxLen; omega) (by omega) (fun na' nc' w7 hown7 hgrow7 hrow7 => ?_)))
        have hO7 := (hO6.swap.app hown7 hgrow7 hrow7 (Nat.le_refl _)).drop2
        refine andS hO7.swap.obj fun hS3 => ?_
        go_simp
        refine wpAnyT_only 11 (by kernel_rfl) (wpOp_of rfl rfl (wp_value (by go_simp; first | done | exact ⟨rfl, rfl⟩ | rfl) (andS hS3 fun _ => ?_)))
        go_simp
        have f3 := hS3.frozen 1
        have c3 := hS3.cell (i := 1) rfl
        refine wpAnyT_only 12 (by kernel_rfl) (wpOp_of rfl rfl (wp_skipped (by go_simp; first | done | rfl) (andLast rfl ?_)))
        refine wpAnyT_done (by kernel_rfl) ?_ _
        have hO8 := (hO7.swap.set 1 (.slice na' (0 + 1) nc')).swap
        refine hV.out _ _ rfl ⟨.slice na' (0 + 1) nc', rfl, ?_⟩
        rw [Hbe.out]
        exact hO8
      · have hbe : belowE s.size (s[k]).toNat = [] := by unfold belowE; rw [if_neg hpos]
        have Hbe := Lib.hid hbe
        have hdec : decide (0 < (s[k]).toNat) = false := decide_eq_false hpos
        have hdec2 : decide ((0 : Int) < ((s[k]).toNat : Int)) = false := decide_eq_false (by omega)
        clear hbe
        go_wp2
        refine hV.out _ _ rfl ⟨.slice none 0 0, rfl, ?_⟩
        rw [Hbe.out]
        exact HO2.out
    rintro z3 vs w3 - ⟨ve, rfl, hO⟩
    simp [litL, lk]
    clear HO2
    obtain ⟨vea, vec, rfl⟩ := row_slice hO.row
    have hel : (belowE s.size (s[k]).toNat).length ≤ 1 := by unfold belowE; split <;> simp
    have hok : ∀ e ∈ belowE s.size (s[k]).toNat ++ [⟨(s[k]).toNat, (s[k]).toNat, (k : Int) + 1⟩], edOk e := fun e he => by
      rcases List.mem_append.1 he with h1 | h1
      · unfold belowE at h1
        split at h1
        · rw [List.mem_singleton.1 h1]; exact ⟨by show 0 < 256; omega, by show (s[k]).toNat - 1 < 256; omega, by show _ ≤ (s.size : Int) + 1; omega, by show (s.size : Int) + 1 ≤ _; omega⟩
        · simp at h1
      · rw [List.mem_singleton.1 h1]; exact ⟨hc, hc, by show _ ≤ (k : Int) + 1; omega, by show (k : Int) + 1 ≤ _; omega⟩
    have Hok := Lib.hid hok
    clear hok
    generalize belowE s.size (s[k]).toNat = es at *
    have hO := hO.dr
    go_wp2
    refine wp_cut_keep [0, 1, 4, 5, 6, 7, 8] (fun vs w' => ∃ ve : Value, vs = [.string s, .bool self, .pointer (some ⟨w.heap.size, 0, none⟩), .int .i64 s.size, .slice voa k voc, .int .i64 k, .pointer (some ⟨S, 0, none⟩)] ∧
      Own w m w' mk [.row ve 46 3 (es.length + 1) (edCells (es ++ [⟨(s[k]).toNat, (s[k]).toNat, (k : Int) + 1⟩])), .obj S 37 #[.bool true, ve], .row (.slice voa k voc) 37 2 k xs, .obj w.heap.size 24 #[.slice none 0 0]]) ?_ ?_
    · intro V hV
      refine wp_region_T (fun w' => ObjAt w' S 37 #[.bool true, .slice vea es.length vec]) 14 (by kernel_rfl) ?_
      have hS := hO.swap.obj
      refine wpAnyT_take 0 rfl (by kernel_rfl) (fun _ _ _ h => h) hS (yields_of rfl fun w' hS' => by have q := hS'.cell (i := 1) rfl; go_simp; rfl) ?_
      refine wpAnyT_take 1 rfl (by kernel_rfl) (fun _ _ _ h => h) hS (yields_of rfl fun w' hS' => by have q := hS'.cell (i := 1) rfl; go_simp; rfl) ?_
      refine wpAnyT_take 2 rfl (by kernel_rfl) (fun _ _ _ h => h) hS (yields_of rfl fun w' hS' => by have q := hS'.cell (i := 1) rfl; go_simp; rfl) ?_
      refine wpAnyT_take 3 rfl (by kernel_rfl) (fun _ _ _ h => h) hS (yields_of rfl fun w' hS' => by have q := hS'.cell (i := 1) rfl; go_simp; rfl) ?_
      refine wpAnyT_take 4 rfl (by kernel_rfl) (fun _ _ _ h => h) hS (yields_of rfl fun w' hS' => by have q := hS'.cell (i := 1) rfl; go_simp; rfl) ?_
      refine wpAnyT_take 5 rfl (by kernel_rfl) (fun _ _ _ h => h) hS (yields_of rfl fun w' hS' => by have q := hS'.cell (i := 1) rfl; go_simp; rfl) ?_
      refine wpAnyT_take 6 rfl (by kernel_rfl) (fun _ _ _ h => h) hS (yields_of rfl fun w' hS' => by have q := hS'.cell (i := 1) rfl; go_simp; rfl) ?_
      refine wpAnyT_take 7 rfl (by kernel_rfl) (fun _ _ _ h => h) hS (yields_of rfl fun w' hS' => by have q := hS'.cell (i := 1) rfl; go_simp; rfl) ?_
      refine wpAnyT_take 8 rfl (by kernel_rfl) (fun _ _ _ h => h) hS (yields_of rfl fun w' hS' => by have q := hS'.cell (i := 1) rfl; go_simp; rfl) ?_
      refine wpAnyT_take 9 rfl (by kernel_rfl) (fun _ _ _ h => h) hS (yields_of rfl fun w' hS' => by have q := hS'.cell (i := 1) rfl; go_simp; rfl) ?_
      refine wpAnyT_only 10 (by kernel_rfl) (wpOp_of rfl rfl (wp_value (by go_simp; first | done | exact ⟨rfl, rfl⟩ | rfl) (andS hS fun _ => ?_)))
      go_simp
      have hO6 := hO.al #[.int .u8 (s[k]).toNat, .int .u8 (s[k]).toNat, .int .i64 ((k : Int) + 1)] 46
      refine wpAnyT_only 11 (by kernel_rfl) (wpOp_of rfl rfl (wp_value (by go_simp; first | done | exact ⟨rfl, rfl⟩ | rfl) (andS hO6.third.obj fun _ => ?_)))
      go_simp
      refine wpAnyT_only 12 (by kernel_rfl) (wpOp_of rfl rfl (wp_append_row tyEdges (.tmp 36) (.tmp 46) rfl (.slice vea es.length vec) es.length (edCells es) rfl hO6.swap.row ⟨w3.heap.size, 0, none⟩ 1 1 [.int .u8 (s[k]).toNat, .int .u8 (s[k]).toNat, .int .i64 ((k : Int) + 1)] rfl rfl (hO6.obj.news rfl) (by simp [Value.oneCell']) (by unfold maxLen; omega) (by omega) (fun na' nc' w7 hown7 hgrow7 hrow7 => ?_)))
      have hO7 := (hO6.swap.app hown7 hgrow7 hrow7 (Nat.le_refl _)).drop2
      refine andS hO7.swap.obj fun hS3 => ?_
      go_simp
      refine wpAnyT_only 13 (by kernel_rfl) (wpOp_of rfl rfl (wp_value (by go_simp; first | done | exact ⟨rfl, rfl⟩ | rfl) (andS hS3 fun _ => ?_)))
      go_simp
      have f3 := hS3.frozen 1
      have c3 := hS3.cell (i := 1) rfl
      refine wpAnyT_only 14 (by kernel_rfl) (wpOp_of rfl rfl (wp_skipped (by go_simp; first | done | rfl) (andLast rfl ?_)))
      refine wpAnyT_done (by kernel_rfl) ?_ _
      have hO8 := (hO7.swap.set 1 (.slice na' (es.length + 1) nc')).swap
      refine hV.out _ _ rfl ⟨.slice na' (es.length + 1) nc', rfl, ?_⟩
      rw [edCells_append]
      exact hO8
    rintro z4 vs w4 - ⟨ve, rfl, hO⟩
    simp [litL, lk]
    obtain ⟨vea2, vec2, rfl⟩ := row_slice hO.row
    have hes := edgesAt_of_row (l := es ++ [⟨(s[k]).toNat, (s[k]).toNat, (k : Int) + 1⟩]) (m := mk) (by rw [List.length_append]; exact hO.row) Hok.out
    have hmk2 := Mem.le_addv (w := w4) hO.free
    have hrow2 := (HR.out.mono hmk2).push (s := ⟨true, es ++ [⟨(s[k]).toNat, (s[k]).toNat, (k : Int) + 1⟩]⟩) hes
    have hO2 := hO.sealRow
    have s0 := hO2.obj.cell (i := 0) rfl
    have s1 := hO2.obj.cell (i := 1) rfl
    have sl := hO2.obj.lt
    have hO3 := hO2.al #[.bool true, .slice vea2 (es.length + 1) vec2] 37
    have Hk := Lib.hid hrow2
    clear hrow2 hes hmk2
    generalize mk.addv w4 (.slice vea2 (es.length + 1) vec2) = mk2 at *
    have hnews := hO3.obj.news rfl
    clear hO hO2
    go_wp2_with (at_builtin; refine wpList_append_row tyStates rfl (.tmp 49) (.tmp 51) rfl (.slice voa k voc) k xs rfl hO3.third.row ⟨w4.heap.size, 0, none⟩ 1 1 [.bool true, .slice vea2 (es.length + 1) vec2] rfl rfl hnews (by simp [Value.oneCell']) (by unfold maxLen; omega) (by omega) ?_)
    intro va vc w7 hown7 hgrow7 hrow7
    have hO4 := (hO3.third.app hown7 hgrow7 hrow7 (by simp)).drop2.drop2
    have HO4 := Lib.hid hO4
    clear hown7 hgrow7 hrow7 hO3 hnews hO4
    go_wp2
    refine hX.out _ _ _ (by omega) rfl ⟨k + 1, .slice va (k + 1) vc, _, mk2, by omega, rfl, rfl, HO4.out, ?_⟩
    rw [Htk.out]
    exact Hk.out
  · obtain rfl : k = s.size := by omega
    have hsl : s.data.toList.length = s.size := by simp
    have he2 := belowT_end2 s.data.toList self
    rw [hsl] at he2
    have hwfb := belowT_wf s.data.toList self
    have hbl := below_lang s.data.toList self
    have hbn := belowT_len s.data.toList self
    rw [hsl] at hbn
    have HB := Lib.hid (And.intro he2 (And.intro hwfb (And.intro hbl hbn)))
    have HR := Lib.hid hrow
    have hw1 : IntKind.i64.wrap ((s.size : Int) + 1) = (s.size : Int) + 1 := IntWalk.i64_in _ (by omega)
    have hO2 := hO.al #[.bool self, .slice none 0 0] 37
    have hnews := hO2.obj.news rfl
    have hvr := hO2.swap.row
    have HO2 := Lib.hid hO2.swap
    clear he2 hwfb hbl hbn hsl hrow hO hO2
    go_wp2_with (at_builtin; refine wpList_append_row tyStates rfl (.tmp 53) (.tmp 56) rfl (.slice voa s.size voc) s.size xs rfl hvr ⟨wr.heap.size, 0, none⟩ 1 1 [.bool self, .slice none 0 0] rfl rfl hnews (by simp [Value.oneCell']) (by unfold maxLen; omega) (by omega) ?_)
    intro va vc w7 hown7 hgrow7 hrow7
    have hO3 := (HO2.out.app hown7 hgrow7 hrow7 (by simp)).drop2
    have hO4 := (hO3.al #[.int .u8 0, .int .u8 255, .int .i64 ((s.size : Int) + 1)] 46).al #[.bool true, .slice (some ⟨w7.heap.size, 0, none⟩) 1 1] 37
    have hsz : (w7.alloc (.cells #[.int .u8 0, .int .u8 255, .int .i64 ((s.size : Int) + 1)] 46)).heap.size = w7.heap.size + 1 := by simp
    rw [hsz] at hO4
    have hnews := hO4.obj.news rfl
    have hvr := hO4.third.row
    have HO4 := Lib.hid hO4.third
    clear hown7 hgrow7 hrow7 hO3 hO4 HO2 hsz
    go_wp2_with (at_builtin; refine wpList_append_row tyStates rfl (.tmp 58) (.tmp 64) rfl (.slice va (s.size + 1) vc) (s.size + 1) (xs ++ [.bool self, .slice none 0 0]) rfl hvr ⟨w7.heap.size + 1, 0, none⟩ 1 1 [.bool true, .slice (some ⟨w7.heap.size, 0, none⟩) 1 1] rfl rfl hnews (by simp [Value.oneCell']) (by unfold maxLen; omega) (by omega) ?_)
    intro va2 vc2 w8 hown8 hgrow8 hrow8
    have hO5 := ((HO4.out.app hown8 hgrow8 hrow8 (by simp)).drop2).swap
    have hed := oneEdge (mk := mk) (lo := 0) (hi := 255) (to := (s.size : Int) + 1) hO5.obj ⟨by show 0 < 256; omega, by show 255 < 256; omega, by show _ ≤ (s.size : Int) + 1; omega, by show (s.size : Int) + 1 ≤ _; omega⟩
    have hmk2 := Mem.le_add (w := w8) hO5.objFree
    have hO6 := hO5.sealObj
    have hrow5 := ((HR.out.mono hmk2).push (s := ⟨self, []⟩) (noEdges _)).push (s := ⟨true, [⟨0, 255, (s.size : Int) + 1⟩]⟩) hed
    rw [← HB.out.1] at hrow5
    have hst := statesAt_of_row (l := belowT s.data.toList self) (m := mk.add w8 w7.heap.size) (by rw [HB.out.2.2.2]; simpa using hO6.row) (by simpa using hrow5) hO6.free
    have hO7 := hO6.sealRow
    have HM := Lib.hid (r05Minimal_any _ (belowT s.data.toList self) _ _ hO7.inn hst (by rw [HB.out.2.2.2]; omega))
    have HO7 := Lib.hid hO7
    clear hO7 hst hrow5 hO6 hmk2 hed hO5 hown8 hgrow8 hrow8 hnews hvr HO4
    go_wp2_with fail
    refine HM.out.mono ?_
    rintro e w2 ⟨r, C, rfl, hb2, hst, hClen, hmin, hnot⟩
    have hwf := HB.out.2.1.1
    rw [tf_true hwf]
    obtain ⟨ra, rc, rfl⟩ : ∃ ra rc, r = .slice ra C.length rc := by obtain ⟨x, y, e, -⟩ := hst; exact ⟨x, y, e⟩
    have hO7 := (HO7.out.call hb2).al #[.slice ra C.length rc] 24
    have g1' := hO7.swap.obj.cell (i := 0) rfl
    have g2' := hO7.swap.obj.frozen 0
    have g3' := hO7.swap.obj.lt
    have hO8 := hO7.swap.set 0 (.slice ra C.length rc)
    have g4' := hO8.obj.cell (i := 0) rfl
    have hfin := statesAt_le hO8.done hst
    have Hk := Lib.hid (And.intro hO8.below (And.intro hfin (And.intro (hmin hwf) hClen)))
    clear hO8 hO7 hfin hmin hnot hst hClen HO7 hwf HM
    go_wp2
    refine bodyPost_ret (v := .agg #[.slice ra C.length rc]) (by simp [results, Tryz.results40, go_sem, g4']) rfl ?_
    refine hR.out _ _ ⟨_, C, rfl, Hk.out.1, Hk.out.2.1, ⟨Hk.out.2.2.1.canon, fun x => ?_⟩, ?_⟩
    · rw [Hk.out.2.2.1.lang]
      have := HB.out.2.2.1 x 0 (Nat.zero_le _)
      rw [List.drop_zero] at this
      exact this
    · have h1 := Hk.out.2.2.2
      have h2 := HB.out.2.2.2
      omega
end Cl
namespace Cl
open Go Go.RowKit Go.Proofs

set_option maxRecDepth 100000 in
set_option maxHeartbeats 4000000 in
theorem r06Bound_any (op s : ByteArray) (m : Mem) (w : World) (hm : m.inn w) (_ : op.size ≤ 1000) (hs : s.size ≤ 1000) :
    Calls Tryz.prog 18 #[.string op, .string s] w fun e w' => ∃ r C, e = .returned (.tuple #[.agg #[r], .int .i64 (if (boundF op.toList s.data.toList).isSome then 0 else 8)]) ∧ Below w.heap.size w w' ∧ statesAt (m.grow w w') r C ∧
      (∀ f, boundF op.toList s.data.toList = some f → LangIs f C) ∧ (boundF op.toList s.data.toList = none → C = []) ∧ C.length ≤ 10000 := by
  have hO := (Own.start hm).al #[.slice none 0 0] 24
  have HO := Lib.hid hO
  have HB := Lib.hid (fun self => r06Below_any s self m _ hO.inn hs)
  have HW := Lib.hid (r05Word_any s m _ hO.inn hs)
  clear hO
  refine calls_hide fun R hR => ?_
  go_enter Tryz.func18, Tryz.ntmps18
  have hnc : ∀ x : ByteArray, Hid (x = x) := fun x => Lib.hid rfl
  clear hnc
  go_wp2_with fail
  · -- way 0
    have h0 : (op.toList == [60]) = true := by assumption
    have hf : boundF op.toList s.data.toList = some (belowB false · s.data.toList) := by simp [boundF, beq_iff_eq.1 h0]
    refine (HB.out false).mono ?_
    rintro e w1 ⟨r, C, rfl, hb1, hst, hlang, hClen⟩
    have hO1 := HO.out.call hb1
    obtain ⟨ra, rc, rfl⟩ : ∃ ra rc, r = .slice ra C.length rc := by obtain ⟨x, y, e, -⟩ := hst; exact ⟨x, y, e⟩
    clear h0 hb1
    have g1 := hO1.obj.cell (i := 0) rfl
    have g2 := hO1.obj.frozen 0
    have g3 := hO1.obj.lt
    have hO2 := hO1.set 0 (.slice ra C.length rc)
    have g4 := hO2.obj.cell (i := 0) rfl
    have Hk := Lib.hid (And.intro hO2.below (And.intro (statesAt_le hO2.done hst) (And.intro hlang (And.intro hClen hf))))
    clear hO2 hO1 hst hlang hClen hf
    go_wp2
    refine bodyPost_ret (v := .tuple #[.agg #[.slice ra C.length rc], .int .i64 0]) (by simp [results, Tryz.results18, go_sem, g4]) rfl ?_
    refine hR.out _ _ ⟨_, C, by rw [Hk.out.2.2.2.2]; rfl, Hk.out.1, Hk.out.2.1, fun f h => ?_, fun h => ?_, ?_⟩
    · rw [Hk.out.2.2.2.2] at h; cases h; exact Hk.out.2.2.1
    · rw [Hk.out.2.2.2.2] at h; cases h
    · have := Hk.out.2.2.2.1; omega
  · -- way 1
    have h0 : (op.toList == [60]) = false := by assumption
    have h1 : (op.toList == [60, 61]) = true := by assumption
    have hf : boundF op.toList s.data.toList = some (belowB true · s.data.toList) := by simp [boundF, beq_iff_eq.1 h1]
    refine (HB.out true).mono ?_
    rintro e w1 ⟨r, C, rfl, hb1, hst, hlang, hClen⟩
    have hO1 := HO.out.call hb1
    obtain ⟨ra, rc, rfl⟩ : ∃ ra rc, r = .slice ra C.length rc := by obtain ⟨x, y, e, -⟩ := hst; exact ⟨x, y, e⟩
    clear h0 h1 hb1
    have g1 := hO1.obj.cell (i := 0) rfl
    have g2 := hO1.obj.frozen 0
    have g3 := hO1.obj.lt
    have hO2 := hO1.set 0 (.slice ra C.length rc)
    have g4 := hO2.obj.cell (i := 0) rfl
    have Hk := Lib.hid (And.intro hO2.below (And.intro (statesAt_le hO2.done hst) (And.intro hlang (And.intro hClen hf))))
    clear hO2 hO1 hst hlang hClen hf
    go_wp2
    refine bodyPost_ret (v := .tuple #[.agg #[.slice ra C.length rc], .int .i64 0]) (by simp [results, Tryz.results18, go_sem, g4]) rfl ?_
    refine hR.out _ _ ⟨_, C, by rw [Hk.out.2.2.2.2]; rfl, Hk.out.1, Hk.out.2.1, fun f h => ?_, fun h => ?_, ?_⟩
    · rw [Hk.out.2.2.2.2] at h; cases h; exact Hk.out.2.2.1
    · rw [Hk.out.2.2.2.2] at h; cases h
    · have := Hk.out.2.2.2.1; omega
  · -- way 2
    have h0 : (op.toList == [60]) = false := by assumption
    have h1 : (op.toList == [60, 61]) = false := by assumption
    have h2 : (op.toList == [62]) = true := by assumption
    have hf : boundF op.toList s.data.toList = some fun v => !belowB true v s.data.toList := by simp [boundF, beq_iff_eq.1 h2]
    refine (HB.out true).mono ?_
    rintro e w1 ⟨r, C, rfl, hb1, hst, hlang, hClen⟩
    have hO1 := HO.out.call hb1
    obtain ⟨ra, rc, rfl⟩ : ∃ ra rc, r = .slice ra C.length rc := by obtain ⟨x, y, e, -⟩ := hst; exact ⟨x, y, e⟩
    have HN := Lib.hid (r06Not_any (.slice ra C.length rc) C _ w1 hO1.inn hst (by omega))
    have Hf := Lib.hid (And.intro hf (And.intro hlang hClen))
    have HO1 := Lib.hid hO1
    clear hf hlang hClen hst hO1 hb1 h0 h1 h2
    go_wp2_with fail
    refine HN.out.mono ?_
    rintro e w2 ⟨r2, C2, rfl, hb2, hst, hlang2, hClen2⟩
    have hO1 := HO1.out.call hb2
    have hf := Hf.out.1
    have hlang := hlang2.congr fun x => by rw [Hf.out.2.1.sem x]
    have hClen : C2.length ≤ 3 * (s.size + 5) + 1 := by have := Hf.out.2.2; omega
    clear hlang2 hClen2 HN Hf HO1 hb2
    generalize C2 = C at *
    obtain ⟨ra, rc, rfl⟩ : ∃ ra rc, r2 = .slice ra C.length rc := by obtain ⟨x, y, e, -⟩ := hst; exact ⟨x, y, e⟩
    have g1 := hO1.obj.cell (i := 0) rfl
    have g2 := hO1.obj.frozen 0
    have g3 := hO1.obj.lt
    have hO2 := hO1.set 0 (.slice ra C.length rc)
    have g4 := hO2.obj.cell (i := 0) rfl
    have Hk := Lib.hid (And.intro hO2.below (And.intro (statesAt_le hO2.done hst) (And.intro hlang (And.intro hClen hf))))
    clear hO2 hO1 hst hlang hClen hf
    go_wp2
    refine bodyPost_ret (v := .tuple #[.agg #[.slice ra C.length rc], .int .i64 0]) (by simp [results, Tryz.results18, go_sem, g4]) rfl ?_
    refine hR.out _ _ ⟨_, C, by rw [Hk.out.2.2.2.2]; rfl, Hk.out.1, Hk.out.2.1, fun f h => ?_, fun h => ?_, ?_⟩
    · rw [Hk.out.2.2.2.2] at h; cases h; exact Hk.out.2.2.1
    · rw [Hk.out.2.2.2.2] at h; cases h
    · have := Hk.out.2.2.2.1; omega
  · -- way 3
    have h0 : (op.toList == [60]) = false := by assumption
    have h1 : (op.toList == [60, 61]) = false := by assumption
    have h2 : (op.toList == [62]) = false := by assumption
    have h3 : (op.toList == [62, 61]) = true := by assumption
    have hf : boundF op.toList s.data.toList = some fun v => !belowB false v s.data.toList := by simp [boundF, beq_iff_eq.1 h3]
    refine (HB.out false).mono ?_
    rintro e w1 ⟨r, C, rfl, hb1, hst, hlang, hClen⟩
    have hO1 := HO.out.call hb1
    obtain ⟨ra, rc, rfl⟩ : ∃ ra rc, r = .slice ra C.length rc := by obtain ⟨x, y, e, -⟩ := hst; exact ⟨x, y, e⟩
    have HN := Lib.hid (r06Not_any (.slice ra C.length rc) C _ w1 hO1.inn hst (by omega))
    have Hf := Lib.hid (And.intro hf (And.intro hlang hClen))
    have HO1 := Lib.hid hO1
    clear hf hlang hClen hst hO1 hb1 h0 h1 h2 h3
    go_wp2_with fail
    refine HN.out.mono ?_
    rintro e w2 ⟨r2, C2, rfl, hb2, hst, hlang2, hClen2⟩
    have hO1 := HO1.out.call hb2
    have hf := Hf.out.1
    have hlang := hlang2.congr fun x => by rw [Hf.out.2.1.sem x]
    have hClen : C2.length ≤ 3 * (s.size + 5) + 1 := by have := Hf.out.2.2; omega
    clear hlang2 hClen2 HN Hf HO1 hb2
    generalize C2 = C at *
    obtain ⟨ra, rc, rfl⟩ : ∃ ra rc, r2 = .slice ra C.length rc := by obtain ⟨x, y, e, -⟩ := hst; exact ⟨x, y, e⟩
    have g1 := hO1.obj.cell (i := 0) rfl
    have g2 := hO1.obj.frozen 0
    have g3 := hO1.obj.lt
    have hO2 := hO1.set 0 (.slice ra C.length rc)
    have g4 := hO2.obj.cell (i := 0) rfl
    have Hk := Lib.hid (And.intro hO2.below (And.intro (statesAt_le hO2.done hst) (And.intro hlang (And.intro hClen hf))))
    clear hO2 hO1 hst hlang hClen hf
    go_wp2
    refine bodyPost_ret (v := .tuple #[.agg #[.slice ra C.length rc], .int .i64 0]) (by simp [results, Tryz.results18, go_sem, g4]) rfl ?_
    refine hR.out _ _ ⟨_, C, by rw [Hk.out.2.2.2.2]; rfl, Hk.out.1, Hk.out.2.1, fun f h => ?_, fun h => ?_, ?_⟩
    · rw [Hk.out.2.2.2.2] at h; cases h; exact Hk.out.2.2.1
    · rw [Hk.out.2.2.2.2] at h; cases h
    · have := Hk.out.2.2.2.1; omega
  · -- way 4
    have h0 : (op.toList == [60]) = false := by assumption
    have h1 : (op.toList == [60, 61]) = false := by assumption
    have h2 : (op.toList == [62]) = false := by assumption
    have h3 : (op.toList == [62, 61]) = false := by assumption
    have h4 : (op.toList == [61, 61]) = true := by assumption
    have hf : boundF op.toList s.data.toList = some fun v => decide (v = s.data.toList) := by simp [boundF, beq_iff_eq.1 h4]
    refine HW.out.mono ?_
    rintro e w1 ⟨r, rfl, hb1, hst⟩
    rw [wordT_eq] at hst
    have hlang := word_is s.data.toList
    have hClen : (wordL s.data.toList).length ≤ s.size + 3 := by rw [wordL_len]; simp
    obtain ⟨C, hCC⟩ : ∃ C, wordL s.data.toList = C := ⟨_, rfl⟩
    rw [hCC] at hst hlang hClen
    have hO1 := HO.out.call hb1
    obtain ⟨ra, rc, rfl⟩ : ∃ ra rc, r = .slice ra C.length rc := by obtain ⟨x, y, e, -⟩ := hst; exact ⟨x, y, e⟩
    clear h0 h1 h2 h3 h4 hCC hb1
    have g1 := hO1.obj.cell (i := 0) rfl
    have g2 := hO1.obj.frozen 0
    have g3 := hO1.obj.lt
    have hO2 := hO1.set 0 (.slice ra C.length rc)
    have g4 := hO2.obj.cell (i := 0) rfl
    have Hk := Lib.hid (And.intro hO2.below (And.intro (statesAt_le hO2.done hst) (And.intro hlang (And.intro hClen hf))))
    clear hO2 hO1 hst hlang hClen hf
    go_wp2
    refine bodyPost_ret (v := .tuple #[.agg #[.slice ra C.length rc], .int .i64 0]) (by simp [results, Tryz.results18, go_sem, g4]) rfl ?_
    refine hR.out _ _ ⟨_, C, by rw [Hk.out.2.2.2.2]; rfl, Hk.out.1, Hk.out.2.1, fun f h => ?_, fun h => ?_, ?_⟩
    · rw [Hk.out.2.2.2.2] at h; cases h; exact Hk.out.2.2.1
    · rw [Hk.out.2.2.2.2] at h; cases h
    · have := Hk.out.2.2.2.1; omega
  · -- way 5
    have h0 : (op.toList == [60]) = false := by assumption
    have h1 : (op.toList == [60, 61]) = false := by assumption
    have h2 : (op.toList == [62]) = false := by assumption
    have h3 : (op.toList == [62, 61]) = false := by assumption
    have h4 : (op.toList == [61, 61]) = false := by assumption
    have h5 : (op.toList == [33, 61]) = true := by assumption
    have hf : boundF op.toList s.data.toList = some fun v => !decide (v = s.data.toList) := by simp [boundF, beq_iff_eq.1 h5]
    refine HW.out.mono ?_
    rintro e w1 ⟨r, rfl, hb1, hst⟩
    rw [wordT_eq] at hst
    have hlang := word_is s.data.toList
    have hClen : (wordL s.data.toList).length ≤ s.size + 3 := by rw [wordL_len]; simp
    obtain ⟨C, hCC⟩ : ∃ C, wordL s.data.toList = C := ⟨_, rfl⟩
    rw [hCC] at hst hlang hClen
    have hO1 := HO.out.call hb1
    obtain ⟨ra, rc, rfl⟩ : ∃ ra rc, r = .slice ra C.length rc := by obtain ⟨x, y, e, -⟩ := hst; exact ⟨x, y, e⟩
    have HN := Lib.hid (r06Not_any (.slice ra C.length rc) C _ w1 hO1.inn hst (by omega))
    have Hf := Lib.hid (And.intro hf (And.intro hlang hClen))
    have HO1 := Lib.hid hO1
    clear hf hlang hClen hst hO1 hb1 h0 h1 h2 h3 h4 h5 hCC
    go_wp2_with fail
    refine HN.out.mono ?_
    rintro e w2 ⟨r2, C2, rfl, hb2, hst, hlang2, hClen2⟩
    have hO1 := HO1.out.call hb2
    have hf := Hf.out.1
    have hlang := hlang2.congr fun x => by rw [Hf.out.2.1.sem x]
    have hClen : C2.length ≤ 3 * (s.size + 5) + 1 := by have := Hf.out.2.2; omega
    clear hlang2 hClen2 HN Hf HO1 hb2
    generalize C2 = C at *
    obtain ⟨ra, rc, rfl⟩ : ∃ ra rc, r2 = .slice ra C.length rc := by obtain ⟨x, y, e, -⟩ := hst; exact ⟨x, y, e⟩
    have g1 := hO1.obj.cell (i := 0) rfl
    have g2 := hO1.obj.frozen 0
    have g3 := hO1.obj.lt
    have hO2 := hO1.set 0 (.slice ra C.length rc)
    have g4 := hO2.obj.cell (i := 0) rfl
    have Hk := Lib.hid (And.intro hO2.below (And.intro (statesAt_le hO2.done hst) (And.intro hlang (And.intro hClen hf))))
    clear hO2 hO1 hst hlang hClen hf
    go_wp2
    refine bodyPost_ret (v := .tuple #[.agg #[.slice ra C.length rc], .int .i64 0]) (by simp [results, Tryz.results18, go_sem, g4]) rfl ?_
    refine hR.out _ _ ⟨_, C, by rw [Hk.out.2.2.2.2]; rfl, Hk.out.1, Hk.out.2.1, fun f h => ?_, fun h => ?_, ?_⟩
    · rw [Hk.out.2.2.2.2] at h; cases h; exact Hk.out.2.2.1
    · rw [Hk.out.2.2.2.2] at h; cases h
    · have := Hk.out.2.2.2.1; omega
  · -- way 6
    have h0 : (op.toList == [60]) = false := by assumption
    have h1 : (op.toList == [60, 61]) = false := by assumption
    have h2 : (op.toList == [62]) = false := by assumption
    have h3 : (op.toList == [62, 61]) = false := by assumption
    have h4 : (op.toList == [61, 61]) = false := by assumption
    have h5 : (op.toList == [33, 61]) = false := by assumption
    have hf : boundF op.toList s.data.toList = none := by simp [boundF, beq_eq_false_iff_ne.1 h0, beq_eq_false_iff_ne.1 h1, beq_eq_false_iff_ne.1 h2, beq_eq_false_iff_ne.1 h3, beq_eq_false_iff_ne.1 h4, beq_eq_false_iff_ne.1 h5]
    have Hf := Lib.hid hf
    clear h0 h1 h2 h3 h4 h5 hf
    go_wp2
    refine bodyPost_ret (v := .tuple #[.agg #[.slice none 0 0], .int .i64 8]) (by simp [results, Tryz.results18, go_sem]) rfl ?_
    refine hR.out _ _ ⟨_, [], by rw [Hf.out]; rfl, HO.out.below, statesAt_nil _, fun f h => ?_, fun _ => rfl, by simp⟩
    rw [Hf.out] at h; cases h
end Cl

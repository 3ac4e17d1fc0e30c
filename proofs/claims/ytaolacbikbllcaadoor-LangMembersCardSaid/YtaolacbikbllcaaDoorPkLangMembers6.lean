/- Lemmas for the proof, part 6: WalkZ, WalkAA, Range, WalkBB, WalkBC, WalkBD, Region3, WalkBE, WalkBF. -/
import Derived.RegionTactic
import Derived.ChangeAlike
import Derived.RangeFuncNested
import Derived.RangeFuncBound
import Derived.RangeFuncCalls
import Derived.RangeFuncLeaves
import Derived.WalkKit
import Derived.OwnWalkIn
import Derived.TacticsInMore
import Derived.LoopNIn
import Derived.LoopIn
import Derived.Laws.BytesArg
import Derived.Laws.EntriesVeiled
import Derived.Test.YtaolacbikbllcaaDoorPkLangMembers1
import Derived.Test.YtaolacbikbllcaaDoorPkLangMembers2
import Derived.Test.YtaolacbikbllcaaDoorPkLangMembers3
import Derived.Test.YtaolacbikbllcaaDoorPkLangMembers4
import Derived.Test.YtaolacbikbllcaaDoorPkLangMembers5
namespace Cl
open Go Go.RowKit Go.Proofs

theorem accAt_out (l : Table) (s : Int) (h : (l.length : Int) ≤ s) : accAt l s = false := by
  have := accFrom_out l s [] h
  exact this
set_option maxHeartbeats 400000 in
theorem lang_acceptsAt (v : Value) (l : Table) (s : Int) (m : Mem) (w : World) (hm : m.inn w) (hl : statesAt m v l) (hs1 : -9223372036854775808 ≤ s) (hs2 : s ≤ 9223372036854775807) :
    Calls Tryd.prog 58 #[.agg #[v], .int .i64 s] w fun e w' => e = .returned (.bool (accAt l s)) ∧ Below w.heap.size w w' := by
  by_cases h : s < l.length
  · exact lang_accepts_any v l s m w hm hl hs1 h
  · rw [accAt_out l s (by omega)]
    obtain ⟨a, c, rfl, h1, h2, h3⟩ := hl
    unfold maxLen at h2
    clear h3
    refine calls_hide fun R hR => ?_
    go_enter Tryd.func58, Tryd.ntmps58
    go_wp2
    all_goals exact hR.out _ _ ⟨rfl, below_al (Below.refl _ _) _⟩
theorem estep_unmark : ∀ (es : List Ed) (c : Nat), 0 < c → ¬ edsMark es c → estep es c = estep es (c - 1)
  | [], _, _, _ => rfl
  | e :: es, c, hc, h => by
    have h1 : ¬ (e.lo = c ∨ e.hi + 1 = c) := fun hx => h ⟨e, by simp, hx⟩
    have ih := estep_unmark es c hc (fun ⟨x, hx, hm⟩ => h ⟨x, by simp [hx], hm⟩)
    simp only [estep]
    by_cases g : e.lo ≤ c ∧ c ≤ e.hi
    · rw [if_pos g, if_pos ⟨by omega, by omega⟩]
    · rw [if_neg g, if_neg (by omega), ih]
theorem pstep_unmark {A B : Table} {p : Int × Int} {c : Nat} (hc : 0 < c) (h : ¬ ((c = 0 ∨ edsMark (esOf A p.1) c) ∨ edsMark (esOf B p.2) c)) : pstep A B p c = pstep A B p (c - 1) := by
  unfold pstep
  rw [tstep_esOf, tstep_esOf, tstep_esOf, tstep_esOf, estep_unmark _ c hc (fun x => h (.inl (.inr x))), estep_unmark _ c hc (fun x => h (.inr x))]
theorem zero256 : (Tryd.zeroCells73).setIfInBounds 0 (.bool true) = marr (fun b => b = 0) 256 := by
  have : Tryd.zeroCells73 = Array.replicate 256 (Value.bool false) := by kernel_rfl
  rw [this, marr_false, marr_set]
  exact marr_congr fun b _ => by simp
theorem Own.asRow2 {w0 w : World} {m mk : Mem} {L : List Cl.Item} {g : Nat} {t : TypeId} {x y : Value} (h : Own w0 m w mk (.obj g t #[x, y] :: L)) : Own w0 m w mk (.row (.slice (some ⟨g, 0, none⟩) 1 1) t 2 1 [x, y] :: L) := by
  have hap := List.pairwise_cons.1 h.apart
  refine ⟨h.m0, h.below, h.ext, h.inn, ?_, ?_, .cons (fun b hb k h1 h2 => hap.1 b hb k h1 h2) hap.2⟩
  · simp only [List.mem_cons, forall_eq_or_imp]
    refine ⟨⟨rfl, .inr ⟨g, 1, #[x, y], rfl, Nat.zero_le _, h.obj.get, Nat.le_refl _, by simp [maxLen], rfl, rfl⟩⟩, fun it hi => h.ok it (List.mem_cons_of_mem _ hi)⟩
  · simp only [List.mem_cons, forall_eq_or_imp]
    exact ⟨fun k hk => h.fresh _ (List.mem_cons_self ..) k hk, fun it hi => h.fresh it (List.mem_cons_of_mem _ hi)⟩
theorem Own.setAll {w0 w : World} {m mk : Mem} {L : List Cl.Item} {g : Nat} {t : TypeId} {arr : Array Value} (h : Own w0 m w mk (.obj g t arr :: L)) (cs : Array Value) : Own w0 m (w.setRow g cs) mk (.obj g t cs :: L) := by
  have hg : w.grownBy (w.setRow g cs) (some g) := ⟨rfl, rfl, rfl, by simp, fun k _ hne => setRow_other w g k cs (fun e => hne (by rw [e]))⟩
  have hf := h.fresh _ (List.mem_cons_self ..) g rfl
  have hap := List.pairwise_cons.1 h.apart
  refine ⟨h.m0, h.below.grown hg h.below.size (fun k hk => by cases hk; exact hf.1), h.ext, Mem.inn_grown h.inn hg (fun k hk => by cases hk; exact hf.2), ?_, ?_, .cons (fun b hb k h1 h2 => hap.1 b hb k h1 h2) hap.2⟩
  · simp only [List.mem_cons, forall_eq_or_imp]
    exact ⟨⟨setRow_heap w g arr cs t (0, 0) h.obj.get⟩, fun it hi => Item.ok_of_heap (h.ok it (List.mem_cons_of_mem _ hi)) fun k hk => hg.block k (Item.lt (h.ok it (List.mem_cons_of_mem _ hi)) hk) (fun e => hap.1 it hi g rfl (by cases e; exact hk))⟩
  · simp only [List.mem_cons, forall_eq_or_imp]
    exact ⟨fun k hk => by simp only [Item.blk, Option.some.injEq] at hk; subst hk; exact hf, fun it hi => h.fresh it (List.mem_cons_of_mem _ hi)⟩
theorem ProdInv.add {A B : Table} {op : Bool → Bool → Bool} {st : Int × Int} {l : List (Int × Int)} {out : Table} (h : ProdInv A B op st l out) {q : Int × Int}
    (hr : (-1 ≤ q.1 ∧ q.1 ≤ A.length) ∧ (-1 ≤ q.2 ∧ q.2 ≤ B.length)) : ProdInv A B op st (pairAdd l q) out := by
  by_cases hf : pairNo l q < l.length
  · have : pairAdd l q = l := by unfold pairAdd; rw [if_pos hf]
    rw [this]; exact h
  · have : pairAdd l q = l ++ [q] := by unfold pairAdd; rw [if_neg hf]
    rw [this]; exact h.grow (pairNo_new hf) hr
theorem Cover.ok {A B : Table} {p : Int × Int} {l : List (Int × Int)} {es : List Ed} {c : Nat} (h : Cover A B p l es c) (hl : l.length ≤ 100000000) : (∀ e ∈ es, edOk e) ∧ es.length ≤ 256 := by
  have hw := wfEdges_lohi h.wf
  have hle := h.le
  refine ⟨fun e he => ?_, ?_⟩
  · have h1 := h.hi e he
    have h2 := hw e he
    exact ⟨by omega, by omega, by omega, by omega⟩
  · have := wf_len h.wf (fun e he => by have h1 := h.hi e he; have h2 := hw e he; exact ⟨by omega, by omega⟩) (by omega) (by omega)
    omega

set_option maxRecDepth 100000 in
set_option maxHeartbeats 8000000 in
theorem product_any (fi : Nat) (f : Bool → Bool → Bool) (hf : ∀ x y w, Calls Tryd.prog fi #[.bool x, .bool y] w fun e w' => e = .returned (.bool (f x y)) ∧ Below w.heap.size w w') (hff : f false false = false)
    (hcf : Hid (∀ x y w, Sem.run Tryd.prog (callFunc fi #[.bool x, .bool y]) w = .ok (.enter fi #[.bool x, .bool y]) w))
    (v0 v1 : Value) (A B : Table) (m : Mem) (w : World) (hm : m.inn w) (htab : TabM m) (hA : statesAt m v0 A) (hB : statesAt m v1 B) (hlen : (A.length + 2) * (B.length + 2) ≤ 1000000) (hlA : A.length ≤ 1000000) (hlB : B.length ≤ 1000000) :
    Calls Tryd.prog 35 #[.agg #[v0], .agg #[v1], .func (.func fi) #[] #[]] w fun e w' => ∃ r C, e = .returned (.agg #[r]) ∧ Below w.heap.size w w' ∧ statesAt (m.grow w w') r C ∧
      LangIs (fun x => f (Sem A x) (Sem B x)) C ∧ C.length ≤ (A.length + 2) * (B.length + 2) + 1 := by
  have hO := (((Own.start hm).al #[v0] 24).al #[v1] 24).al #[.slice none 0 0] 24
  have hsz1 : (w.alloc (.cells #[v0] 24)).heap.size = w.heap.size + 1 := by simp
  have hsz2 : ((w.alloc (.cells #[v0] 24)).alloc (.cells #[v1] 24)).heap.size = w.heap.size + 2 := by simp
  rw [hsz2, hsz1] at hO
  have HO := Lib.hid hO
  have HA := Lib.hid (fun w (hw : m.inn w) => good_any v0 A m w hw htab hA hlA)
  have HB := Lib.hid (fun mk w (hw : mk.inn w) (hle : m.le mk) => good_any v1 B mk w hw (htab.le hle) (statesAt_le hle hB) hlB)
  clear hO hsz1 hsz2
  refine calls_hide fun R hR => ?_
  obtain ⟨va, vc, rfl, -⟩ := hA
  obtain ⟨vb, vd, rfl, -⟩ := hB
  go_enter Tryd.func35, Tryd.ntmps35
  go_wp2
  refine wp_cut_keep [2, 3, 4, 6] (fun vs w' => ∃ (r1 r2 : Value) (mk : Mem), vs = [.func (.func fi) #[] #[], .pointer (some ⟨w.heap.size, 0, none⟩), .pointer (some ⟨w.heap.size + 1, 0, none⟩), .pointer (some ⟨w.heap.size + 2, 0, none⟩)] ∧
    Own w m w' mk [.obj (w.heap.size + 2) 24 #[.slice none 0 0], .obj (w.heap.size + 1) 24 #[r2], .obj w.heap.size 24 #[r1]] ∧ statesAt mk r1 (goodT A) ∧ statesAt mk r2 (goodT B)) ?_ ?_
  · intro X hX
    refine wp_region_D (fun j w' => (j ≠ 4 → j ≠ 5 → ObjAt w' w.heap.size 24 #[.slice va A.length vc]) ∧ (j ≠ 5 → ObjAt w' (w.heap.size + 1) 24 #[.slice vb B.length vd])) (by kernel_rfl) ?_
    have hO := HO.out.dr
    refine wpAnyD_take 0 (fun w' => ObjAt w' w.heap.size 24 #[.slice va A.length vc]) rfl (by kernel_rfl) (fun _ _ _ h => h) (fun j w' hj hd => hd.1 (by rintro rfl; exact waits_no (by kernel_rfl) hj) (by rintro rfl; exact waits_no (by kernel_rfl) hj)) hO.third.obj (yields_of rfl fun w' hS' => by have q := hS'.cell (i := 0) rfl; go_simp; rfl) ?_
    refine wpAnyD_take 2 (fun w' => ObjAt w' (w.heap.size + 1) 24 #[.slice vb B.length vd]) rfl (by kernel_rfl) (fun _ _ _ h => h) (fun j w' hj hd => hd.2 (by rintro rfl; exact waits_no (by kernel_rfl) hj)) hO.swap.obj (yields_of rfl fun w' hS' => by have q := hS'.cell (i := 0) rfl; go_simp; rfl) ?_
    refine wpAnyD_only 1 (by kernel_rfl) (wpOp_of rfl rfl (wp_enter (by go_simp) (HA.out _ hO.inn) ?_))
    rintro e w1 ⟨r1, rfl, hb1, hr1⟩
    have hO2 := hO.call hb1
    have hle := Mem.le_grow (w := w1) hO.inn
    refine ⟨_, rfl, .inr ⟨fun _ _ => hO2.third.obj, fun _ => hO2.swap.obj⟩, ?_⟩
    go_simp
    refine wpAnyD_only 3 (by kernel_rfl) (wpOp_of rfl rfl (wp_enter (by go_simp) (HB.out _ _ hO2.inn hle) ?_))
    rintro e w2 ⟨r2, rfl, hb2, hr2⟩
    have hO3 := hO2.call hb2
    have hle2 := Mem.le_grow (w := w2) hO2.inn
    refine ⟨_, rfl, .inr ⟨fun _ _ => hO3.third.obj, fun _ => hO3.swap.obj⟩, ?_⟩
    obtain ⟨xa, xc, rfl⟩ : ∃ xa xc, r1 = .slice xa (goodT A).length xc := by obtain ⟨x, y, e, -⟩ := hr1; exact ⟨x, y, e⟩
    obtain ⟨ya, yc, rfl⟩ : ∃ xa xc, r2 = .slice xa (goodT B).length xc := by obtain ⟨x, y, e, -⟩ := hr2; exact ⟨x, y, e⟩
    go_simp
    have f1 := hO3.third.obj.frozen 0
    have c1 := hO3.third.obj.cell (i := 0) rfl
    have hO4 := hO3.third.set 0 (.slice xa (goodT A).length xc)
    have f3 := hO4.third.obj.frozen 0
    have c3 := hO4.third.obj.cell (i := 0) rfl
    have hO6 := (hO4.third.set 0 (.slice ya (goodT B).length yc)).third
    refine wpAnyD_only 4 (by kernel_rfl) (wpOp_of rfl rfl (wp_skipped (by go_simp; first | done | rfl) ⟨.inr ⟨fun h => absurd rfl h, fun _ => hO4.third.obj⟩, ?_⟩))
    refine wpAnyD_only 5 (by kernel_rfl) (wpOp_of rfl rfl (wp_skipped (by go_simp; first | done | rfl) ⟨.inr ⟨fun _ h => absurd rfl h, fun h => absurd rfl h⟩, ?_⟩))
    refine wpAnyD_done (by kernel_rfl) ?_ _
    exact hX.out _ _ rfl ⟨_, _, _, rfl, hO6, statesAt_le hle2 hr1, hr2⟩
  rintro z vs w1 - ⟨r1, r2, mk, rfl, hO, hr1, hr2⟩
  simp [litL, lk]
  clear HO HA HB
  have hgA := goodT_canon A
  have hgB := goodT_canon B
  have hgAl := goodT_len A
  have hgBl := goodT_len B
  have hsemA : ∀ x, accFrom (goodT A) 0 x = Sem A x := fun x => by
    unfold goodT Sem
    by_cases h : Canon A
    · simp [tf_true h]
    · simp [tf_false h]; exact accFrom_nil x
  have hsemB : ∀ x, accFrom (goodT B) 0 x = Sem B x := fun x => by
    unfold goodT Sem
    by_cases h : Canon B
    · simp [tf_true h]
    · simp [tf_false h]; exact accFrom_nil x
  have HG := Lib.hid (And.intro hgA (And.intro hgB (And.intro hsemA hsemB)))
  clear hgA hgB hsemA hsemB
  have hmul : ((goodT A).length + 2) * ((goodT B).length + 2) ≤ (A.length + 2) * (B.length + 2) := Nat.mul_le_mul (by omega) (by omega)
  generalize goodT A = A' at *
  generalize goodT B = B' at *
  have hO2 := (((hO.al #[.int .i64 0, .int .i64 0] 69).asRow2).al #[.slice (some ⟨w1.heap.size, 0, none⟩) 1 1] 70).swap.nilRow 48 2
  have hsz : (w1.alloc (.cells #[.int .i64 0, .int .i64 0] 69)).heap.size = w1.heap.size + 1 := by simp
  rw [hsz] at hO2
  have HO2 := Lib.hid (And.intro hO2 (prod_start (A := A') (B := B') (op := f) (st := (0, 0)) (by simp only; omega)))
  have HR1 := Lib.hid (And.intro hr1 hr2)
  obtain ⟨xa, xc, rfl, -⟩ := hr1
  obtain ⟨ya, yc, rfl, -⟩ := hr2
  clear hO2 hO hsz
  go_wp2
  generalize w1.heap.size = N at *
  refine wp_loop_keep [2, 3, 4, 6, 7, 8, 9, 10] (fun n vs wr => ∃ (k : Nat) (l : List (Int × Int)) (out : Table) (vl vo : Value) (xs : List Value) (mk' : Mem), n = 1000001 - k ∧
    vs = [.func (.func fi) #[] #[], .pointer (some ⟨w.heap.size, 0, none⟩), .pointer (some ⟨w.heap.size + 1, 0, none⟩), .pointer (some ⟨w.heap.size + 2, 0, none⟩), .pointer (some ⟨N + 1, 0, none⟩), .func (.func 56) #[] #[.pointer (some ⟨N + 1, 0, none⟩)], vo, .int .i64 k] ∧
    Own w m wr mk' [.row vo 48 2 k xs, .row vl 69 2 l.length (pairCells l), .obj (N + 1) 70 #[vl], .obj (w.heap.size + 2) 24 #[.slice none 0 0], .obj (w.heap.size + 1) 24 #[.slice ya B'.length yc], .obj w.heap.size 24 #[.slice xa A'.length xc]] ∧
    StRow mk' xs out ∧ mk.le mk' ∧ ProdInv A' B' f (0, 0) l out ∧ out.length = k) ?_ ?_
  · refine ⟨_, 0, [(0, 0)], [], .slice (some ⟨N, 0, none⟩) 1 1, .slice none 0 0, [], mk, rfl, ?_, HO2.out.1, StRow.nil _, Mem.le_refl _, HO2.out.2, rfl⟩
    rfl
  clear HO2
  rintro X z n vs wr hX - ⟨k, l, out, vl, vo, xs, mk', rfl, rfl, hO, hrow, hmk, hPI, hol⟩
  simp [litL, lk]
  obtain ⟨vla, vlc, rfl⟩ := row_slice hO.swap.row
  have hob := hO.third.obj
  have b1 := hob.cell (i := 0) rfl
  have b2 := hob.lt
  have hpl := pair_bound hPI.nodup hPI.rng
  have hkl := hPI.le
  by_cases hlt : k < l.length
  · obtain ⟨vlb, rfl⟩ := row_some hO.swap.row (by omega)
    have hpc := pairCells_get l k hlt
    have r1 := row_cellw hO.swap.row hpc.1
    have r2 := row_cellw hO.swap.row hpc.2
    have rl := (World.ownsRow.lt hO.swap.row _ rfl).2
    have hlk : l[k]? = some l[k] := by simp [hlt]
    have hrng := hPI.rng l[k] (List.getElem_mem hlt)
    have HP := Lib.hid (And.intro hPI (And.intro hol hlk))
    generalize l[k] = p at *
    obtain ⟨pa, pb⟩ := p
    simp only at r1 r2 hrng
    have hO2 := hO.al #[.int .i64 pa, .int .i64 pb] 69
    have HO2 := Lib.hid hO2
    clear hO2 hO hPI hol hlk hpc hob
    go_wp2
    generalize hW2 : wr.alloc (.cells #[.int .i64 pa, .int .i64 pb] 69) = w2 at *
    generalize wr.heap.size = P at *
    refine wp_cut_keep [2, 3, 4, 6, 7, 8, 9, 10, 11, 12] (fun vs w' => ∃ S : Nat,
      vs = [.func (.func fi) #[] #[], .pointer (some ⟨w.heap.size, 0, none⟩), .pointer (some ⟨w.heap.size + 1, 0, none⟩), .pointer (some ⟨w.heap.size + 2, 0, none⟩), .pointer (some ⟨N + 1, 0, none⟩), .func (.func 56) #[] #[.pointer (some ⟨N + 1, 0, none⟩)], vo, .int .i64 k, .pointer (some ⟨P, 0, none⟩), .pointer (some ⟨S, 0, none⟩)] ∧
      Own w m w' mk' [.obj S 48 #[.bool (f (accAt A' pa) (accAt B' pb)), .slice none 0 0], .obj P 69 #[.int .i64 pa, .int .i64 pb], .row vo 48 2 k xs, .row (.slice (some ⟨vlb, 0, none⟩) l.length vlc) 69 2 l.length (pairCells l), .obj (N + 1) 70 #[.slice (some ⟨vlb, 0, none⟩) l.length vlc], .obj (w.heap.size + 2) 24 #[.slice none 0 0], .obj (w.heap.size + 1) 24 #[.slice ya B'.length yc], .obj w.heap.size 24 #[.slice xa A'.length xc]]) ?_ ?_
    · intro Y hY
      refine wp_region_T (fun w' => ObjAt w' w.heap.size 24 #[.slice xa A'.length xc] ∧ ObjAt w' (w.heap.size + 1) 24 #[.slice ya B'.length yc] ∧ ObjAt w' P 69 #[.int .i64 pa, .int .i64 pb]) 12 (by kernel_rfl) ?_
      have hO := HO2.out.dr
      generalize w2.drew = w3 at *
      have mkS : ∀ {w' : World} {L : List Cl.Item}, Own w m w' mk' L → Item.obj w.heap.size 24 #[.slice xa A'.length xc] ∈ L → Item.obj (w.heap.size + 1) 24 #[.slice ya B'.length yc] ∈ L → Item.obj P 69 #[.int .i64 pa, .int .i64 pb] ∈ L →
          (ObjAt w' w.heap.size 24 #[.slice xa A'.length xc] ∧ ObjAt w' (w.heap.size + 1) 24 #[.slice ya B'.length yc] ∧ ObjAt w' P 69 #[.int .i64 pa, .int .i64 pb]) :=
        fun h h1 h2 h3 => ⟨h.at_obj h1, h.at_obj h2, h.at_obj h3⟩
      have hS := mkS hO (by simp) (by simp) (by simp)
      refine wpAnyT_take 0 rfl (by kernel_rfl) (fun _ _ _ h => h) hS (yields_of rfl fun w' hS' => by have q := hS'.1.cell (i := 0) rfl; have q1 := hS'.2.1.cell (i := 0) rfl; have q2 := hS'.2.2.cell (i := 0) rfl; have q3 := hS'.2.2.cell (i := 1) rfl; go_simp; rfl) ?_
      refine wpAnyT_take 1 rfl (by kernel_rfl) (fun _ _ _ h => h) hS (yields_of rfl fun w' hS' => by have q := hS'.1.cell (i := 0) rfl; have q1 := hS'.2.1.cell (i := 0) rfl; have q2 := hS'.2.2.cell (i := 0) rfl; have q3 := hS'.2.2.cell (i := 1) rfl; go_simp; rfl) ?_
      refine wpAnyT_take 2 rfl (by kernel_rfl) (fun _ _ _ h => h) hS (yields_of rfl fun w' hS' => by have q := hS'.1.cell (i := 0) rfl; have q1 := hS'.2.1.cell (i := 0) rfl; have q2 := hS'.2.2.cell (i := 0) rfl; have q3 := hS'.2.2.cell (i := 1) rfl; go_simp; rfl) ?_
      refine wpAnyT_take 3 rfl (by kernel_rfl) (fun _ _ _ h => h) hS (yields_of rfl fun w' hS' => by have q := hS'.1.cell (i := 0) rfl; have q1 := hS'.2.1.cell (i := 0) rfl; have q2 := hS'.2.2.cell (i := 0) rfl; have q3 := hS'.2.2.cell (i := 1) rfl; go_simp; rfl) ?_
      refine wpAnyT_take 5 rfl (by kernel_rfl) (fun _ _ _ h => h) hS (yields_of rfl fun w' hS' => by have q := hS'.1.cell (i := 0) rfl; have q1 := hS'.2.1.cell (i := 0) rfl; have q2 := hS'.2.2.cell (i := 0) rfl; have q3 := hS'.2.2.cell (i := 1) rfl; go_simp; rfl) ?_
      refine wpAnyT_take 6 rfl (by kernel_rfl) (fun _ _ _ h => h) hS (yields_of rfl fun w' hS' => by have q := hS'.1.cell (i := 0) rfl; have q1 := hS'.2.1.cell (i := 0) rfl; have q2 := hS'.2.2.cell (i := 0) rfl; have q3 := hS'.2.2.cell (i := 1) rfl; go_simp; rfl) ?_
      refine wpAnyT_take 7 rfl (by kernel_rfl) (fun _ _ _ h => h) hS (yields_of rfl fun w' hS' => by have q := hS'.1.cell (i := 0) rfl; have q1 := hS'.2.1.cell (i := 0) rfl; have q2 := hS'.2.2.cell (i := 0) rfl; have q3 := hS'.2.2.cell (i := 1) rfl; go_simp; rfl) ?_
      clear hS
      refine wpAnyT_two 4 11 (by kernel_rfl) ?_ ?_
      · skip
        refine wpOp_of rfl rfl (wp_enter (by go_simp) (lang_acceptsAt (.slice xa A'.length xc) A' pa mk _ (Mem.inn_le hmk hO.inn) HR1.out.1 (by omega) (by omega)) ?_)
        rintro e wF1 ⟨rfl, hb'⟩
        have hF1 := hO.move hb'
        refine ⟨_, rfl, andS (mkS hF1 (by simp) (by simp) (by simp)) fun _ => ?_⟩
        clear hO hb'
        go_simp
        refine wpAnyT_two 8 11 (by kernel_rfl) ?_ ?_
        · skip
          refine wpOp_of rfl rfl (wp_enter (by go_simp) (lang_acceptsAt (.slice ya B'.length yc) B' pb mk _ (Mem.inn_le hmk hF1.inn) HR1.out.2 (by omega) (by omega)) ?_)
          rintro e wF2 ⟨rfl, hb'⟩
          have hF2 := hF1.move hb'
          refine ⟨_, rfl, andS (mkS hF2 (by simp) (by simp) (by simp)) fun _ => ?_⟩
          clear hF1 hb'
          go_simp
          refine wpAnyT_two 9 11 (by kernel_rfl) ?_ ?_
          · skip
            refine wpOp_of rfl rfl (wp_enter (by have hc := fun w' => hcf.out (accAt A' pa) (accAt B' pb) w'; go_simp; rfl) (hf (accAt A' pa) (accAt B' pb) _) ?_)
            rintro e wF3 ⟨rfl, hb'⟩
            have hF3 := hF2.move hb'
            refine ⟨_, rfl, andS (mkS hF3 (by simp) (by simp) (by simp)) fun _ => ?_⟩
            clear hF2 hb'
            go_simp
            refine wpAnyT_two 10 11 (by kernel_rfl) ?_ ?_
            · skip
              refine wpOp_of rfl rfl (wp_value (by go_simp; first | exact ⟨rfl, rfl⟩ | rfl) (andS (mkS hF3 (by simp) (by simp) (by simp)) fun _ => ?_))
              have hF4 := hF3
              clear hF3
              go_simp
              refine wpAnyT_only 11 (by kernel_rfl) ?_
              have hF5 := hF4.al #[.bool false, .slice none 0 0] 48
              refine wpOp_of rfl rfl (wp_value (by go_simp; first | exact ⟨rfl, rfl⟩ | rfl) (andS (mkS hF5 (by simp) (by simp) (by simp)) fun _ => ?_))
              clear hF4
              go_simp
              generalize wF3.alloc (.cells #[.bool false, .slice none 0 0] 48) = wF5 at *
              generalize wF3.heap.size = S at *
              have hE0 := hF5.obj.frozen 0
              have hE1 := hF5.obj.frozen 1
              have hE2 := hF5.obj.cell (i := 0) rfl
              have hE3 := hF5.obj.cell (i := 1) rfl
              have hE4 := hF5.obj.lt
              have hZ := (hF5.set 0 (.bool (f (accAt A' pa) (accAt B' pb)))).set 1 (.slice none 0 0)
              refine wpAnyT_only 12 (by kernel_rfl) (wpOp_of rfl rfl (wp_skipped (by go_simp; first | done | rfl) (andLast rfl ?_)))
              refine wpAnyT_done (by kernel_rfl) ?_ _
              exact hY.out _ _ rfl ⟨S, rfl, hZ⟩
            · skip
              have hF6 := hF3.al #[.bool false, .slice none 0 0] 48
              refine wpOp_of rfl rfl (wp_value (by go_simp; first | exact ⟨rfl, rfl⟩ | rfl) (andS (mkS hF6 (by simp) (by simp) (by simp)) fun _ => ?_))
              clear hF3
              go_simp
              generalize wF3.alloc (.cells #[.bool false, .slice none 0 0] 48) = wF6 at *
              generalize wF3.heap.size = S at *
              refine wpAnyT_only 10 (by kernel_rfl) ?_
              refine wpOp_of rfl rfl (wp_value (by go_simp; first | exact ⟨rfl, rfl⟩ | rfl) (andS (mkS hF6 (by simp) (by simp) (by simp)) fun _ => ?_))
              have hF7 := hF6
              clear hF6
              go_simp
              have hE0 := hF7.obj.frozen 0
              have hE1 := hF7.obj.frozen 1
              have hE2 := hF7.obj.cell (i := 0) rfl
              have hE3 := hF7.obj.cell (i := 1) rfl
              have hE4 := hF7.obj.lt
              have hZ := (hF7.set 0 (.bool (f (accAt A' pa) (accAt B' pb)))).set 1 (.slice none 0 0)
              refine wpAnyT_only 12 (by kernel_rfl) (wpOp_of rfl rfl (wp_skipped (by go_simp; first | done | rfl) (andLast rfl ?_)))
              refine wpAnyT_done (by kernel_rfl) ?_ _
              exact hY.out _ _ rfl ⟨S, rfl, hZ⟩
          · skip
            have hF8 := hF2.al #[.bool false, .slice none 0 0] 48
            refine wpOp_of rfl rfl (wp_value (by go_simp; first | exact ⟨rfl, rfl⟩ | rfl) (andS (mkS hF8 (by simp) (by simp) (by simp)) fun _ => ?_))
            clear hF2
            go_simp
            generalize wF2.alloc (.cells #[.bool false, .slice none 0 0] 48) = wF8 at *
            generalize wF2.heap.size = S at *
            refine wpAnyT_only 9 (by kernel_rfl) ?_
            refine wpOp_of rfl rfl (wp_enter (by have hc := fun w' => hcf.out (accAt A' pa) (accAt B' pb) w'; go_simp; rfl) (hf (accAt A' pa) (accAt B' pb) _) ?_)
            rintro e wF9 ⟨rfl, hb'⟩
            have hF9 := hF8.move hb'
            refine ⟨_, rfl, andS (mkS hF9 (by simp) (by simp) (by simp)) fun _ => ?_⟩
            clear hF8 hb'
            go_simp
            refine wpAnyT_only 10 (by kernel_rfl) ?_
            refine wpOp_of rfl rfl (wp_value (by go_simp; first | exact ⟨rfl, rfl⟩ | rfl) (andS (mkS hF9 (by simp) (by simp) (by simp)) fun _ => ?_))
            have hF10 := hF9
            clear hF9
            go_simp
            have hE0 := hF10.obj.frozen 0
            have hE1 := hF10.obj.frozen 1
            have hE2 := hF10.obj.cell (i := 0) rfl
            have hE3 := hF10.obj.cell (i := 1) rfl
            have hE4 := hF10.obj.lt
            have hZ := (hF10.set 0 (.bool (f (accAt A' pa) (accAt B' pb)))).set 1 (.slice none 0 0)
            refine wpAnyT_only 12 (by kernel_rfl) (wpOp_of rfl rfl (wp_skipped (by go_simp; first | done | rfl) (andLast rfl ?_)))
            refine wpAnyT_done (by kernel_rfl) ?_ _
            exact hY.out _ _ rfl ⟨S, rfl, hZ⟩
        · skip
          have hF11 := hF1.al #[.bool false, .slice none 0 0] 48
          refine wpOp_of rfl rfl (wp_value (by go_simp; first | exact ⟨rfl, rfl⟩ | rfl) (andS (mkS hF11 (by simp) (by simp) (by simp)) fun _ => ?_))
          clear hF1
          go_simp
          generalize wF1.alloc (.cells #[.bool false, .slice none 0 0] 48) = wF11 at *
          generalize wF1.heap.size = S at *
          refine wpAnyT_only 8 (by kernel_rfl) ?_
          refine wpOp_of rfl rfl (wp_enter (by go_simp) (lang_acceptsAt (.slice ya B'.length yc) B' pb mk _ (Mem.inn_le hmk hF11.inn) HR1.out.2 (by omega) (by omega)) ?_)
          rintro e wF12 ⟨rfl, hb'⟩
          have hF12 := hF11.move hb'
          refine ⟨_, rfl, andS (mkS hF12 (by simp) (by simp) (by simp)) fun _ => ?_⟩
          clear hF11 hb'
          go_simp
          refine wpAnyT_only 9 (by kernel_rfl) ?_
          refine wpOp_of rfl rfl (wp_enter (by have hc := fun w' => hcf.out (accAt A' pa) (accAt B' pb) w'; go_simp; rfl) (hf (accAt A' pa) (accAt B' pb) _) ?_)
          rintro e wF13 ⟨rfl, hb'⟩
          have hF13 := hF12.move hb'
          refine ⟨_, rfl, andS (mkS hF13 (by simp) (by simp) (by simp)) fun _ => ?_⟩
          clear hF12 hb'
          go_simp
          refine wpAnyT_only 10 (by kernel_rfl) ?_
          refine wpOp_of rfl rfl (wp_value (by go_simp; first | exact ⟨rfl, rfl⟩ | rfl) (andS (mkS hF13 (by simp) (by simp) (by simp)) fun _ => ?_))
          have hF14 := hF13
          clear hF13
          go_simp
          have hE0 := hF14.obj.frozen 0
          have hE1 := hF14.obj.frozen 1
          have hE2 := hF14.obj.cell (i := 0) rfl
          have hE3 := hF14.obj.cell (i := 1) rfl
          have hE4 := hF14.obj.lt
          have hZ := (hF14.set 0 (.bool (f (accAt A' pa) (accAt B' pb)))).set 1 (.slice none 0 0)
          refine wpAnyT_only 12 (by kernel_rfl) (wpOp_of rfl rfl (wp_skipped (by go_simp; first | done | rfl) (andLast rfl ?_)))
          refine wpAnyT_done (by kernel_rfl) ?_ _
          exact hY.out _ _ rfl ⟨S, rfl, hZ⟩
      · skip
        have hF15 := hO.al #[.bool false, .slice none 0 0] 48
        refine wpOp_of rfl rfl (wp_value (by go_simp; first | exact ⟨rfl, rfl⟩ | rfl) (andS (mkS hF15 (by simp) (by simp) (by simp)) fun _ => ?_))
        clear hO
        go_simp
        generalize w3.alloc (.cells #[.bool false, .slice none 0 0] 48) = wF15 at *
        generalize w3.heap.size = S at *
        refine wpAnyT_only 4 (by kernel_rfl) ?_
        refine wpOp_of rfl rfl (wp_enter (by go_simp) (lang_acceptsAt (.slice xa A'.length xc) A' pa mk _ (Mem.inn_le hmk hF15.inn) HR1.out.1 (by omega) (by omega)) ?_)
        rintro e wF16 ⟨rfl, hb'⟩
        have hF16 := hF15.move hb'
        refine ⟨_, rfl, andS (mkS hF16 (by simp) (by simp) (by simp)) fun _ => ?_⟩
        clear hF15 hb'
        go_simp
        refine wpAnyT_only 8 (by kernel_rfl) ?_
        refine wpOp_of rfl rfl (wp_enter (by go_simp) (lang_acceptsAt (.slice ya B'.length yc) B' pb mk _ (Mem.inn_le hmk hF16.inn) HR1.out.2 (by omega) (by omega)) ?_)
        rintro e wF17 ⟨rfl, hb'⟩
        have hF17 := hF16.move hb'
        refine ⟨_, rfl, andS (mkS hF17 (by simp) (by simp) (by simp)) fun _ => ?_⟩
        clear hF16 hb'
        go_simp
        refine wpAnyT_only 9 (by kernel_rfl) ?_
        refine wpOp_of rfl rfl (wp_enter (by have hc := fun w' => hcf.out (accAt A' pa) (accAt B' pb) w'; go_simp; rfl) (hf (accAt A' pa) (accAt B' pb) _) ?_)
        rintro e wF18 ⟨rfl, hb'⟩
        have hF18 := hF17.move hb'
        refine ⟨_, rfl, andS (mkS hF18 (by simp) (by simp) (by simp)) fun _ => ?_⟩
        clear hF17 hb'
        go_simp
        refine wpAnyT_only 10 (by kernel_rfl) ?_
        refine wpOp_of rfl rfl (wp_value (by go_simp; first | exact ⟨rfl, rfl⟩ | rfl) (andS (mkS hF18 (by simp) (by simp) (by simp)) fun _ => ?_))
        have hF19 := hF18
        clear hF18
        go_simp
        have hE0 := hF19.obj.frozen 0
        have hE1 := hF19.obj.frozen 1
        have hE2 := hF19.obj.cell (i := 0) rfl
        have hE3 := hF19.obj.cell (i := 1) rfl
        have hE4 := hF19.obj.lt
        have hZ := (hF19.set 0 (.bool (f (accAt A' pa) (accAt B' pb)))).set 1 (.slice none 0 0)
        refine wpAnyT_only 12 (by kernel_rfl) (wpOp_of rfl rfl (wp_skipped (by go_simp; first | done | rfl) (andLast rfl ?_)))
        refine wpAnyT_done (by kernel_rfl) ?_ _
        exact hY.out _ _ rfl ⟨S, rfl, hZ⟩
    rintro z1 vs w3 - ⟨S, rfl, hO⟩
    simp [litL, lk]
    have hO2 := hO.al Tryd.zeroCells73 73
    have hg2 := hO2.obj.get
    have hO3 := hO2.setAll (Tryd.zeroCells73.setIfInBounds 0 (.bool true))
    have hO4 := hO3
    rw [zero256] at hO4
    have HC1 := Lib.hid (cuts_any (.slice xa A'.length xc) A' pa w3.heap.size (fun b => b = 0) w _ m mk' _ hO4 (statesAt_le hmk HR1.out.1) (by omega) (by omega) (by omega))
    rw [← zero256] at HC1
    have HC2 := Lib.hid (fun L P w' (h : Own w m w' mk' (.obj w3.heap.size 73 (marr P 256) :: L)) => cuts_any (.slice ya B'.length yc) B' pb w3.heap.size P w w' m mk' L h (statesAt_le hmk HR1.out.2) (by omega) (by omega) (by omega))
    have HO3 := Lib.hid hO3
    have q1 := (hO3.at_obj (g := w.heap.size) (t := 24) (arr := #[.slice xa A'.length xc]) (by simp)).cell (i := 0) rfl
    have q1l := (hO3.at_obj (g := w.heap.size) (t := 24) (arr := #[.slice xa A'.length xc]) (by simp)).lt
    have q3 := (hO3.at_obj (g := P) (t := 69) (arr := #[.int .i64 pa, .int .i64 pb]) (by simp)).cell (i := 0) rfl
    have q3l := (hO3.at_obj (g := P) (t := 69) (arr := #[.int .i64 pa, .int .i64 pb]) (by simp)).lt
    clear hO hO3 hO4 HO2 hO2
    go_wp2_with (refine wpList_store_row rfl 73 (.tmp 13) (.tmp 45) rfl w3.heap.size (Tryd.zeroCells73.setIfInBounds 0 (.bool true)) rfl rfl 73 Tryd.zeroCells73 hg2 (by kernel_rfl) (by simp) (by kernel_rfl) ?_)
    clear hg2
    refine HC1.out.mono ?_
    rintro e w4 ⟨rfl, hO⟩
    have q1 := (hO.at_obj (g := w.heap.size + 1) (t := 24) (arr := #[.slice ya B'.length yc]) (by simp)).cell (i := 0) rfl
    have q1l := (hO.at_obj (g := w.heap.size + 1) (t := 24) (arr := #[.slice ya B'.length yc]) (by simp)).lt
    have q3 := (hO.at_obj (g := P) (t := 69) (arr := #[.int .i64 pa, .int .i64 pb]) (by simp)).cell (i := 1) rfl
    have q3l := (hO.at_obj (g := P) (t := 69) (arr := #[.int .i64 pa, .int .i64 pb]) (by simp)).lt
    have HC3 := Lib.hid (HC2.out _ _ w4 hO)
    clear HO3 HC1 HC2 hO
    go_wp2_with fail
    refine HC3.out.mono ?_
    rintro e w5 ⟨rfl, hO⟩
    clear HC3 q1 q1l q3 q3l
    generalize w3.heap.size = D at *
    obtain ⟨PM, hPM⟩ : ∃ PM : Nat → Prop, PM = fun b => (b = 0 ∨ edsMark (esOf A' pa) b) ∨ edsMark (esOf B' pb) b := ⟨_, rfl⟩
    rw [← hPM] at hO
    have HPM := Lib.hid hPM
    have HO := Lib.hid ((hO.perm (List.Perm.refl _)).nilRow 51 3)
    clear hPM hO
    go_wp2
    refine wp_loop_keep [2, 3, 4, 6, 7, 8, 9, 10, 11, 12, 13, 54] (fun n vs w' => ∃ (c : Nat) (l' : List (Int × Int)) (vl' ve : Value) (es : List Ed), c ≤ 256 ∧ n = 256 - c ∧
      vs = [.func (.func fi) #[] #[], .pointer (some ⟨w.heap.size, 0, none⟩), .pointer (some ⟨w.heap.size + 1, 0, none⟩), .pointer (some ⟨w.heap.size + 2, 0, none⟩), .pointer (some ⟨N + 1, 0, none⟩), .func (.func 56) #[] #[.pointer (some ⟨N + 1, 0, none⟩)], vo, .int .i64 k, .pointer (some ⟨P, 0, none⟩), .pointer (some ⟨S, 0, none⟩), .pointer (some ⟨D, 0, none⟩), .int .i64 c] ∧
      Own w m w' mk' [.row ve 51 3 es.length (edCells es), .obj D 73 (marr PM 256), .obj S 48 #[.bool (f (accAt A' pa) (accAt B' pb)), ve], .obj P 69 #[.int .i64 pa, .int .i64 pb], .row vo 48 2 k xs, .row vl' 69 2 l'.length (pairCells l'), .obj (N + 1) 70 #[vl'], .obj (w.heap.size + 2) 24 #[.slice none 0 0], .obj (w.heap.size + 1) 24 #[.slice ya B'.length yc], .obj w.heap.size 24 #[.slice xa A'.length xc]] ∧
      Cover A' B' (pa, pb) l' es c ∧ ProdInv A' B' f (0, 0) l' out ∧ l'[k]? = some (pa, pb)) ?_ ?_
    · exact ⟨_, 0, l, .slice (some ⟨vlb, 0, none⟩) l.length vlc, .slice none 0 0, [], by omega, rfl, rfl, HO.out, Cover.start _ _ _ _, HP.out.1, HP.out.2.2⟩
    clear HO
    rintro Y z2 n vs w6 hY - ⟨c, l', vl', ve, es, hc, rfl, rfl, hO, hcov, hPI, hlk⟩
    simp [litL, lk]
    obtain ⟨vla2, vlc2, rfl⟩ := row_slice (hO.at_row (v := vl') (t := 69) (size := 2) (n := l'.length) (xs := pairCells l') (by simp))
    obtain ⟨vea, vec, rfl⟩ := row_slice hO.row
    have hpl2 := pair_bound hPI.nodup hPI.rng
    have hok := hcov.ok (by omega)
    have hel := hok.2
    have HC := Lib.hid (And.intro hcov (And.intro hPI (And.intro hlk hok.1)))
    clear hcov hlk hok hPI
    by_cases hlt2 : c < 256
    · have m1 := (hO.at_obj (g := D) (t := 73) (arr := marr PM 256) (by simp)).cell (marr_get hlt2)
      have m2 := (hO.at_obj (g := D) (t := 73) (arr := marr PM 256) (by simp)).lt
      obtain ⟨bm, hbm⟩ : ∃ b, tf (PM c) = b := ⟨_, rfl⟩
      rw [hbm] at m1
      have Hbm := Lib.hid hbm
      clear hbm
      go_upto_if 59 with (fail)
      refine wp_cut_keep [2, 3, 4, 6, 7, 8, 9, 10, 11, 12, 13, 54, 14] (fun vs w' => ∃ (l2 : List (Int × Int)) (vl2 ve2 : Value) (fs : List Ed) (e : Ed), vs = [.func (.func fi) #[] #[], .pointer (some ⟨w.heap.size, 0, none⟩), .pointer (some ⟨w.heap.size + 1, 0, none⟩), .pointer (some ⟨w.heap.size + 2, 0, none⟩), .pointer (some ⟨N + 1, 0, none⟩), .func (.func 56) #[] #[.pointer (some ⟨N + 1, 0, none⟩)], vo, .int .i64 k, .pointer (some ⟨P, 0, none⟩), .pointer (some ⟨S, 0, none⟩), .pointer (some ⟨D, 0, none⟩), .int .i64 c, .int .i64 c] ∧
        Own w m w' mk' [.row ve2 51 3 (fs.length + 1) (edCells (fs ++ [e])), .obj D 73 (marr PM 256), .obj S 48 #[.bool (f (accAt A' pa) (accAt B' pb)), ve2], .obj P 69 #[.int .i64 pa, .int .i64 pb], .row vo 48 2 k xs, .row vl2 69 2 l2.length (pairCells l2), .obj (N + 1) 70 #[vl2], .obj (w.heap.size + 2) 24 #[.slice none 0 0], .obj (w.heap.size + 1) 24 #[.slice ya B'.length yc], .obj w.heap.size 24 #[.slice xa A'.length xc]] ∧
        Cover A' B' (pa, pb) l2 (fs ++ [⟨e.lo, c, e.to⟩]) (c + 1) ∧ ProdInv A' B' f (0, 0) l2 out ∧ l2[k]? = some (pa, pb)) ?_ ?_
      · intro V hV
        cases bm with
        | false =>
          have hnm : ¬ PM c := fun h => by have := Hbm.out; rw [tf_true h] at this; cases this
          have hun : 0 < c ∧ pstep A' B' (pa, pb) c = pstep A' B' (pa, pb) (c - 1) := by
            rw [HPM.out] at hnm
            have h0 : 0 < c := by
              apply Classical.byContradiction
              intro h
              exact hnm (.inl (.inl (by omega)))
            exact ⟨h0, pstep_unmark (p := (pa, pb)) h0 hnm⟩
          have hes : ∃ fs e, es = fs ++ [e] ∧ e.hi + 1 = c := by
            rcases HC.out.1.last with ⟨h, -⟩ | h
            · omega
            · exact h
          obtain ⟨fs, e, rfl, he⟩ := hes
          have hcw := HC.out.1.widen he hlt2 hun.2
          have Hfin := Lib.hid (And.intro hcw hO)
          clear hcw hO hnm hun he
          go_wp2
          refine hV.out _ _ rfl ⟨l', .slice vla2 l'.length vlc2, .slice vea (fs ++ [e]).length vec, fs, e, rfl, ?_, Hfin.out.1, HC.out.2.1, HC.out.2.2.1⟩
          have := Hfin.out.2
          simpa using this
        | true =>
          have hwu : IntKind.u8.wrap (c : Int) = (c : Int) := IntWalk.u8_in _ (by omega)
          have hO := hO.dr
          have HO := Lib.hid hO
          go_wp2
          have hSt : ∀ {w' : World} {L : List Cl.Item}, Own w m w' mk' L → Item.obj w.heap.size 24 #[.slice xa A'.length xc] ∈ L → Item.obj (w.heap.size + 1) 24 #[.slice ya B'.length yc] ∈ L → Item.obj P 69 #[.int .i64 pa, .int .i64 pb] ∈ L → Item.obj S 48 #[.bool (f (accAt A' pa) (accAt B' pb)), .slice vea es.length vec] ∈ L →
              (ObjAt w' w.heap.size 24 #[.slice xa A'.length xc] ∧ ObjAt w' (w.heap.size + 1) 24 #[.slice ya B'.length yc] ∧ ObjAt w' P 69 #[.int .i64 pa, .int .i64 pb] ∧ ObjAt w' S 48 #[.bool (f (accAt A' pa) (accAt B' pb)), .slice vea es.length vec]) :=
            fun h h1 h2 h3 h4 => ⟨h.at_obj h1, h.at_obj h2, h.at_obj h3, h.at_obj h4⟩
          refine wp_region_T (fun w' => ObjAt w' w.heap.size 24 #[.slice xa A'.length xc] ∧ ObjAt w' (w.heap.size + 1) 24 #[.slice ya B'.length yc] ∧ ObjAt w' P 69 #[.int .i64 pa, .int .i64 pb] ∧ ObjAt w' S 48 #[.bool (f (accAt A' pa) (accAt B' pb)), .slice vea es.length vec]) 23 (by kernel_rfl) ?_
          have hS := hSt hO (by simp) (by simp) (by simp) (by simp)
          refine wpAnyT_take 0 rfl (by kernel_rfl) (fun _ _ _ h => h) hS (yields_of rfl fun w' hS' => by have q := hS'.1.cell (i := 0) rfl; have q1 := hS'.2.1.cell (i := 0) rfl; have q2 := hS'.2.2.1.cell (i := 0) rfl; have q3 := hS'.2.2.1.cell (i := 1) rfl; have q4 := hS'.2.2.2.cell (i := 1) rfl; go_simp; rfl) ?_
          refine wpAnyT_take 1 rfl (by kernel_rfl) (fun _ _ _ h => h) hS (yields_of rfl fun w' hS' => by have q := hS'.1.cell (i := 0) rfl; have q1 := hS'.2.1.cell (i := 0) rfl; have q2 := hS'.2.2.1.cell (i := 0) rfl; have q3 := hS'.2.2.1.cell (i := 1) rfl; have q4 := hS'.2.2.2.cell (i := 1) rfl; go_simp; rfl) ?_
          refine wpAnyT_take 2 rfl (by kernel_rfl) (fun _ _ _ h => h) hS (yields_of rfl fun w' hS' => by have q := hS'.1.cell (i := 0) rfl; have q1 := hS'.2.1.cell (i := 0) rfl; have q2 := hS'.2.2.1.cell (i := 0) rfl; have q3 := hS'.2.2.1.cell (i := 1) rfl; have q4 := hS'.2.2.2.cell (i := 1) rfl; go_simp; rfl) ?_
          refine wpAnyT_take 3 rfl (by kernel_rfl) (fun _ _ _ h => h) hS (yields_of rfl fun w' hS' => by have q := hS'.1.cell (i := 0) rfl; have q1 := hS'.2.1.cell (i := 0) rfl; have q2 := hS'.2.2.1.cell (i := 0) rfl; have q3 := hS'.2.2.1.cell (i := 1) rfl; have q4 := hS'.2.2.2.cell (i := 1) rfl; go_simp; rfl) ?_
          refine wpAnyT_take 4 rfl (by kernel_rfl) (fun _ _ _ h => h) hS (yields_of rfl fun w' hS' => by have q := hS'.1.cell (i := 0) rfl; have q1 := hS'.2.1.cell (i := 0) rfl; have q2 := hS'.2.2.1.cell (i := 0) rfl; have q3 := hS'.2.2.1.cell (i := 1) rfl; have q4 := hS'.2.2.2.cell (i := 1) rfl; go_simp; rfl) ?_
          refine wpAnyT_take 5 rfl (by kernel_rfl) (fun _ _ _ h => h) hS (yields_of rfl fun w' hS' => by have q := hS'.1.cell (i := 0) rfl; have q1 := hS'.2.1.cell (i := 0) rfl; have q2 := hS'.2.2.1.cell (i := 0) rfl; have q3 := hS'.2.2.1.cell (i := 1) rfl; have q4 := hS'.2.2.2.cell (i := 1) rfl; go_simp; rfl) ?_
          refine wpAnyT_take 6 rfl (by kernel_rfl) (fun _ _ _ h => h) hS (yields_of rfl fun w' hS' => by have q := hS'.1.cell (i := 0) rfl; have q1 := hS'.2.1.cell (i := 0) rfl; have q2 := hS'.2.2.1.cell (i := 0) rfl; have q3 := hS'.2.2.1.cell (i := 1) rfl; have q4 := hS'.2.2.2.cell (i := 1) rfl; go_simp; rfl) ?_
          refine wpAnyT_take 7 rfl (by kernel_rfl) (fun _ _ _ h => h) hS (yields_of rfl fun w' hS' => by have q := hS'.1.cell (i := 0) rfl; have q1 := hS'.2.1.cell (i := 0) rfl; have q2 := hS'.2.2.1.cell (i := 0) rfl; have q3 := hS'.2.2.1.cell (i := 1) rfl; have q4 := hS'.2.2.2.cell (i := 1) rfl; go_simp; rfl) ?_
          refine wpAnyT_take 8 rfl (by kernel_rfl) (fun _ _ _ h => h) hS (yields_of rfl fun w' hS' => by have q := hS'.1.cell (i := 0) rfl; have q1 := hS'.2.1.cell (i := 0) rfl; have q2 := hS'.2.2.1.cell (i := 0) rfl; have q3 := hS'.2.2.1.cell (i := 1) rfl; have q4 := hS'.2.2.2.cell (i := 1) rfl; go_simp; rfl) ?_
          refine wpAnyT_take 9 rfl (by kernel_rfl) (fun _ _ _ h => h) hS (yields_of rfl fun w' hS' => by have q := hS'.1.cell (i := 0) rfl; have q1 := hS'.2.1.cell (i := 0) rfl; have q2 := hS'.2.2.1.cell (i := 0) rfl; have q3 := hS'.2.2.1.cell (i := 1) rfl; have q4 := hS'.2.2.2.cell (i := 1) rfl; go_simp; rfl) ?_
          refine wpAnyT_take 11 rfl (by kernel_rfl) (fun _ _ _ h => h) hS (yields_of rfl fun w' hS' => by have q := hS'.1.cell (i := 0) rfl; have q1 := hS'.2.1.cell (i := 0) rfl; have q2 := hS'.2.2.1.cell (i := 0) rfl; have q3 := hS'.2.2.1.cell (i := 1) rfl; have q4 := hS'.2.2.2.cell (i := 1) rfl; go_simp; rfl) ?_
          refine wpAnyT_take 12 rfl (by kernel_rfl) (fun _ _ _ h => h) hS (yields_of rfl fun w' hS' => by have q := hS'.1.cell (i := 0) rfl; have q1 := hS'.2.1.cell (i := 0) rfl; have q2 := hS'.2.2.1.cell (i := 0) rfl; have q3 := hS'.2.2.1.cell (i := 1) rfl; have q4 := hS'.2.2.2.cell (i := 1) rfl; go_simp; rfl) ?_
          refine wpAnyT_take 13 rfl (by kernel_rfl) (fun _ _ _ h => h) hS (yields_of rfl fun w' hS' => by have q := hS'.1.cell (i := 0) rfl; have q1 := hS'.2.1.cell (i := 0) rfl; have q2 := hS'.2.2.1.cell (i := 0) rfl; have q3 := hS'.2.2.1.cell (i := 1) rfl; have q4 := hS'.2.2.2.cell (i := 1) rfl; go_simp; rfl) ?_
          refine wpAnyT_take 14 rfl (by kernel_rfl) (fun _ _ _ h => h) hS (yields_of rfl fun w' hS' => by have q := hS'.1.cell (i := 0) rfl; have q1 := hS'.2.1.cell (i := 0) rfl; have q2 := hS'.2.2.1.cell (i := 0) rfl; have q3 := hS'.2.2.1.cell (i := 1) rfl; have q4 := hS'.2.2.2.cell (i := 1) rfl; go_simp; rfl) ?_
          refine wpAnyT_take 15 rfl (by kernel_rfl) (fun _ _ _ h => h) hS (yields_of rfl fun w' hS' => by have q := hS'.1.cell (i := 0) rfl; have q1 := hS'.2.1.cell (i := 0) rfl; have q2 := hS'.2.2.1.cell (i := 0) rfl; have q3 := hS'.2.2.1.cell (i := 1) rfl; have q4 := hS'.2.2.2.cell (i := 1) rfl; go_simp; rfl) ?_
          refine wpAnyT_only 10 (by kernel_rfl) (wpOp_of rfl rfl (wp_enter (by go_simp) (step_any (.slice xa A'.length xc) A' pa c mk _ (Mem.inn_le hmk hO.inn) HR1.out.1 (by omega) (by omega)) ?_))
          rintro e w7 ⟨rfl, hb7⟩
          have hO2 := hO.move hb7
          refine ⟨_, rfl, andS (hSt hO2 (by simp) (by simp) (by simp) (by simp)) fun _ => ?_⟩
          go_simp
          refine wpAnyT_only 16 (by kernel_rfl) (wpOp_of rfl rfl (wp_enter (by go_simp) (step_any (.slice ya B'.length yc) B' pb c mk _ (Mem.inn_le hmk hO2.inn) HR1.out.2 (by omega) (by omega)) ?_))
          rintro e w8 ⟨rfl, hb8⟩
          have hO3 := hO2.move hb8
          refine ⟨_, rfl, andS (hSt hO3 (by simp) (by simp) (by simp) (by simp)) fun _ => ?_⟩
          go_simp
          have hrA := tstep_range HG.out.1.wf pa c
          have hrB := tstep_range HG.out.2.1.wf pb c
          have hps : pstep A' B' (pa, pb) c = (tstep A' pa c, tstep B' pb c) := rfl
          have hpr : (-1 ≤ (pstep A' B' (pa, pb) c).1 ∧ (pstep A' B' (pa, pb) c).1 ≤ A'.length) ∧ (-1 ≤ (pstep A' B' (pa, pb) c).2 ∧ (pstep A' B' (pa, pb) c).2 ≤ B'.length) := by
            rw [hps]; simp only; omega
          have hPI2 := HC.out.2.1.add hpr
          have hpk : ∀ q ∈ l', pairOk q := fun q hq => by
            have := HC.out.2.1.rng q hq
            exact ⟨by omega, by omega, by omega, by omega⟩
          have hgt := pairAdd_get l' (pstep A' B' (pa, pb) c)
          have hpre := pairAdd_pre l' (pstep A' B' (pa, pb) c)
          have hcs := (HC.out.1.mono hpre).seg (h := c) (Nat.le_refl _) hlt2 hgt (fun b h1 h2 => by rw [show b = c by omega])
          have hlk2 : (pairAdd l' (pstep A' B' (pa, pb) c))[k]? = some (pa, pb) := by
            obtain ⟨x, hx⟩ := hpre
            rw [← hx, List.getElem?_append_left (List.getElem?_eq_some_iff.1 HC.out.2.2.1).1]; exact HC.out.2.2.1
          have hpno := pairNo_le l' (pstep A' B' (pa, pb) c)
          refine wpAnyT_only 17 (by kernel_rfl) (wpOp_of rfl rfl (wp_value (by go_simp; first | exact ⟨rfl, rfl⟩ | rfl) (andS (hSt hO3 (by simp) (by simp) (by simp) (by simp)) fun _ => ?_)))
          go_simp
          have hq := (hO3.pull (l₁ := [_, _, _, _, _, _])).pull (l₁ := [_, _, _, _, _, _])
          refine wpAnyT_only 18 (by kernel_rfl) (wpOp_of rfl rfl (wp_enter (by go_simp) (number_any (N + 1) (.slice vla2 l'.length vlc2) l' (pstep A' B' (pa, pb) c) w w8 m mk' _ hq ⟨by omega, by omega, by omega, by omega⟩ hpk (by omega)) ?_))
          rintro e w9 ⟨vl2, rfl, hq2⟩
          have hO4 := (hq2.unpull (l₁ := [_, _, _, _, _, _])).unpull (l₁ := [_, _, _, _, _, _])
          simp only [List.cons_append, List.nil_append] at hO4
          refine ⟨_, rfl, andS (hSt hO4 (by simp) (by simp) (by simp) (by simp)) fun _ => ?_⟩
          generalize pairNo l' (pstep A' B' (pa, pb) c) = t at *
          generalize pairAdd l' (pstep A' B' (pa, pb) c) = l2 at *
          clear hq hq2 hO3 hO2 hb7 hb8
          go_simp
          refine wpAnyT_only 19 (by kernel_rfl) (wpOp_of rfl rfl (wp_value (by go_simp; first | exact ⟨rfl, rfl⟩ | rfl) (andS (hSt hO4 (by simp) (by simp) (by simp) (by simp)) fun _ => ?_)))
          go_simp
          have hO6 := hO4.al #[.int .u8 c, .int .u8 0, .int .i64 t] 51
          refine wpAnyT_only 20 (by kernel_rfl) (wpOp_of rfl rfl (wp_value (by go_simp; first | exact ⟨rfl, rfl⟩ | rfl) (andS (hSt hO6 (by simp) (by simp) (by simp) (by simp)) fun _ => ?_)))
          go_simp
          refine wpAnyT_only 21 (by kernel_rfl) (wpOp_of rfl rfl (wp_append_row tyEdges (.tmp 61) (.tmp 80) rfl (.slice vea es.length vec) es.length (edCells es) rfl hO6.swap.row ⟨w9.heap.size, 0, none⟩ 1 1 [.int .u8 c, .int .u8 0, .int .i64 t] rfl rfl (hO6.obj.news rfl) (by simp [Value.oneCell']) (by unfold maxLen; omega) (by omega) (fun na' nc' w10 hown7 hgrow7 hrow7 => ?_)))
          have hO7 := (hO6.swap.app hown7 hgrow7 hrow7 (Nat.le_refl _)).drop2
          refine andS (hSt hO7 (by simp) (by simp) (by simp) (by simp)) fun hS3 => ?_
          go_simp
          refine wpAnyT_only 22 (by kernel_rfl) (wpOp_of rfl rfl (wp_value (by go_simp; first | exact ⟨rfl, rfl⟩ | rfl) (andS hS3 fun _ => ?_)))
          go_simp
          have f3 := hS3.2.2.2.frozen 1
          have c3 := hS3.2.2.2.cell (i := 1) rfl
          have hO8 := ((hO7.third.set 1 (.slice na' (es.length + 1) nc')).swap).third.swap
          refine wpAnyT_only 23 (by kernel_rfl) (wpOp_of rfl rfl (wp_skipped (by go_simp; first | done | rfl) (andLast rfl ?_)))
          refine wpAnyT_done (by kernel_rfl) ?_ _
          have Hfin := Lib.hid (And.intro hO8 hcs)
          clear hO8 hO7 hO6 hO4 hO hS hS3 f3 c3 hown7 hgrow7 hrow7 hcs
          refine hV.out _ _ rfl ⟨l2, vl2, .slice na' (es.length + 1) nc', es, ⟨c, 0, t⟩, rfl, ?_, Hfin.out.2, hPI2, hlk2⟩
          have := Hfin.out.1
          simpa [edCells_append] using this
      rintro z3 vs w7 - ⟨l2, vl2, ve2, fs, e, rfl, hO, hcov2, hPI2, hlk2⟩
      simp [litL, lk]
      obtain ⟨vea2, vec2, rfl⟩ := row_slice hO.row
      obtain ⟨eb, rfl⟩ := row_some hO.row (by omega)
      have hwu : IntKind.u8.wrap (c : Int) = (c : Int) := IntWalk.u8_in _ (by omega)
      have s1 := hO.third.obj.cell (i := 1) rfl
      have s2 := hO.third.obj.lt
      have y1 := row_cellw hO.row (edCells_get (fs ++ [e]) fs.length (by simp)).2.1
      have y2 := row_frozen hO.row (fs.length * 3 + 1)
      have y3 := (World.ownsRow.lt hO.row _ rfl).2
      have hlt5 : fs.length < fs.length + 1 := by omega
      have hfl : fs.length + 1 ≤ 256 := by have := (hcov2.ok (by have := pair_bound hPI2.nodup hPI2.rng; omega)).2; simpa using this
      have hO6 := hO.setRow (fs.length * 3 + 1) (.int .u8 c)
      rw [edCells_set] at hO6
      have Hfin := Lib.hid (And.intro hO6 (And.intro hcov2 (And.intro hPI2 hlk2)))
      clear hO6 hO hcov2 hPI2 hlk2
      go_wp2
      refine hY.out _ _ _ (by omega) rfl ⟨c + 1, l2, vl2, .slice (some ⟨eb, 0, none⟩) (fs.length + 1) vec2, fs ++ [⟨e.lo, c, e.to⟩], by omega, rfl, rfl, ?_, Hfin.out.2.1, Hfin.out.2.2.1, Hfin.out.2.2.2⟩
      have := Hfin.out.1
      simpa using this
    · obtain rfl : c = 256 := by omega
      have hPIn := HC.out.2.1.push (p := (pa, pb)) (by rw [HP.out.2.1]; exact HC.out.2.2.1) HC.out.1
      have hes := edgesAt_of_row (l := es) (m := mk') hO.row HC.out.2.2.2
      have hmk2 := Mem.le_addv (w := w6) hO.free
      have hrow2 := (hrow.mono hmk2).push (s := ⟨f (accAt A' pa) (accAt B' pb), es⟩) hes
      have hO2 := hO.sealRow
      have s0 := hO2.swap.obj.cell (i := 0) rfl
      have s1 := hO2.swap.obj.cell (i := 1) rfl
      have sl := hO2.swap.obj.lt
      obtain ⟨voa, voc, rfl⟩ := row_slice (hO2.at_row (v := vo) (t := 48) (size := 2) (n := k) (xs := xs) (by simp))
      have hO3 := hO2.al #[.bool (f (accAt A' pa) (accAt B' pb)), .slice vea es.length vec] 48
      have hO4 := hO3.pull (l₁ := [_, _, _, _])
      have hvr := hO4.row
      have hnews := hO3.obj.news rfl
      have Hk := Lib.hid (And.intro hrow2 (And.intro (Mem.le_trans hmk hmk2) hPIn))
      clear hrow2 hes hmk2 hO2 hO hPIn hO3
      generalize mk'.addv w6 (.slice vea es.length vec) = mk2 at *
      go_wp2_with (at_builtin; refine wpList_append_row tyStates rfl (.tmp 94) (.tmp 96) rfl (.slice voa k voc) k xs rfl hvr ⟨w6.heap.size, 0, none⟩ 1 1 [.bool (f (accAt A' pa) (accAt B' pb)), .slice vea es.length vec] rfl rfl hnews (by simp [Value.oneCell']) (by unfold maxLen; omega) (by omega) ?_)
      intro xa' xc' w7 hown7 hgrow7 hrow7
      have hO5 := (hO4.app hown7 hgrow7 hrow7 (by simp)).drop2.drop2.drop2.drop2
      have HO5 := Lib.hid hO5
      clear hown7 hgrow7 hrow7 hO4 hO5 hvr hnews
      go_wp2
      refine hX.out _ _ _ (by omega) rfl ⟨k + 1, l', out ++ [⟨f (accAt A' pa) (accAt B' pb), es⟩], .slice vla2 l'.length vlc2, .slice xa' (k + 1) xc', _, mk2, rfl, rfl, HO5.out, Hk.out.1, Hk.out.2.1, Hk.out.2.2, ?_⟩
      rw [List.length_append, HP.out.2.1]; rfl
  · have hkl2 : k = l.length := by omega
    have hdone := hPI.done hff (by omega)
    obtain ⟨voa, voc, rfl⟩ := row_slice hO.row
    have hst := statesAt_of_row (l := out) (m := mk') (by rw [hol]; exact hO.row) hrow hO.free
    have hO2 := hO.sealRow
    have hml : m.le (mk'.addv wr (.slice voa k voc)) := Mem.le_trans hO.ext.le (Mem.le_addv hO.free)
    have HM := Lib.hid (auMinimal_any (.slice voa k voc) out _ wr hO2.inn (htab.le hml) hst (by omega))
    have HO2 := Lib.hid hO2
    have HD := Lib.hid (And.intro hdone hol)
    clear hO2 hst hml hO hdone hol hob hPI hrow hkl2
    go_wp2_with fail
    refine HM.out.mono ?_
    rintro e w2 ⟨r, C, rfl, hb2, hst, hClen, hmin, hnot⟩
    have hwf := HD.out.1.1
    rw [tf_true hwf]
    obtain ⟨ra, rc, rfl⟩ : ∃ ra rc, r = .slice ra C.length rc := by obtain ⟨x, y, e, -⟩ := hst; exact ⟨x, y, e⟩
    have hO3 := HO2.out.call hb2
    have hO4 := (hO3.pull (l₁ := [_, _])).al #[.slice ra C.length rc] 24
    have g1 := hO4.swap.obj.cell (i := 0) rfl
    have g2 := hO4.swap.obj.frozen 0
    have g3 := hO4.swap.obj.lt
    have hO5 := hO4.swap.set 0 (.slice ra C.length rc)
    have g4 := hO5.obj.cell (i := 0) rfl
    have hfin := statesAt_le hO5.done hst
    have Hk := Lib.hid (And.intro hO5.below (And.intro hfin (And.intro (hmin hwf) hClen)))
    clear hO5 hO4 hO3 hfin hmin hnot hst hClen HO2 hwf
    go_wp2
    refine bodyPost_ret (v := .agg #[.slice ra C.length rc]) (by simp [results, Tryd.results35, go_sem, g4]) rfl ?_
    refine hR.out _ _ ⟨_, C, rfl, Hk.out.1, Hk.out.2.1, ⟨Hk.out.2.2.1.canon, fun x => ?_⟩, ?_⟩
    · rw [Hk.out.2.2.1.lang, HD.out.1.2.2.2.2, HG.out.2.2.1, HG.out.2.2.2]
    · have h1 := Hk.out.2.2.2
      have h2 := HD.out.2
      omega
end Cl
namespace Cl
open Go Go.RowKit Go.Proofs

theorem goodT_is (l : Table) : LangIs (Sem l) (goodT l) := by
  refine ⟨goodT_canon l, fun x => ?_⟩
  unfold goodT Sem
  by_cases h : Canon l
  · simp [tf_true h]
  · simp [tf_false h]; exact accFrom_nil x
theorem sem_nil (x : List UInt8) : Sem [] x = false := by rw [sem_canon canon_nil]; exact accFrom_nil x
theorem goodT_edges (l : Table) : ∀ s ∈ goodT l, s.edges.length ≤ 1000000 := fun s hs => by
  have := wf_len256 (goodT_canon l).wf (goodT_canon l).bytes s hs
  omega

/-- the sizes that products bear -/
structure Fits (A B : Table) : Prop where
  mul : (A.length + 2) * (B.length + 2) ≤ 1000000
  a : A.length ≤ 1000000
  b : B.length ≤ 1000000
theorem Fits.of {A B : Table} {x y : Nat} (hx : A.length ≤ x) (hy : B.length ≤ y) (h : (x + 2) * (y + 2) ≤ 1000000) : Fits A B := by
  have h1 : (A.length + 2) * (B.length + 2) ≤ (x + 2) * (y + 2) := Nat.mul_le_mul (by omega) (by omega)
  have h2 : A.length + 2 ≤ (A.length + 2) * (B.length + 2) := Nat.le_mul_of_pos_right _ (by omega)
  have h3 : B.length + 2 ≤ (A.length + 2) * (B.length + 2) := Nat.le_mul_of_pos_left _ (by omega)
  exact ⟨by omega, by omega, by omega⟩

set_option maxRecDepth 100000 in
set_option maxHeartbeats 2000000 in
theorem langAnd_any (v0 v1 : Value) (A B : Table) (m : Mem) (w : World) (hm : m.inn w) (htab : TabM m) (hA : statesAt m v0 A) (hB : statesAt m v1 B) (hF : Fits A B) :
    Calls Tryd.prog 13 #[.agg #[v0], .agg #[v1]] w fun e w' => ∃ r C, e = .returned (.agg #[r]) ∧ Below w.heap.size w w' ∧ statesAt (m.grow w w') r C ∧
      LangIs (fun x => Sem A x && Sem B x) C ∧ C.length ≤ (A.length + 2) * (B.length + 2) + 1 := by
  have hO := (((Own.start hm).al #[v0] 24).al #[v1] 24).al #[.slice none 0 0] 24
  have hsz1 : (w.alloc (.cells #[v0] 24)).heap.size = w.heap.size + 1 := by simp
  have hsz2 : ((w.alloc (.cells #[v0] 24)).alloc (.cells #[v1] 24)).heap.size = w.heap.size + 2 := by simp
  rw [hsz2, hsz1] at hO
  have HP := Lib.hid (product_any 36 (fun x y => x && y) And1_any rfl (Lib.hid fun x y w => by go_simp) v0 v1 A B m _ hO.inn htab hA hB hF.mul hF.a hF.b)
  have HO := Lib.hid hO
  obtain ⟨va, vc, rfl, a1, a2, a3⟩ := hA
  obtain ⟨vb, vd, rfl, b1, b2, b3⟩ := hB
  unfold maxLen at a2 b2
  clear hO hsz1 hsz2 a3 b3
  refine calls_hide fun R hR => ?_
  by_cases hA0 : A.length = 0 ∨ B.length = 0
  · have hl : LangIs (fun x => Sem A x && Sem B x) [] := lang_nil.congr fun x => by
      rcases hA0 with h | h
      · rw [List.eq_nil_of_length_eq_zero h, sem_nil]; rfl
      · rw [List.eq_nil_of_length_eq_zero h, sem_nil]; cases Sem A x <;> rfl
    have Hl := Lib.hid hl
    by_cases h1 : A.length = 0
    · have hdec : ((A.length : Int) == 0) = true := by simp [h1]
      have g1 := HO.out.obj.cell (i := 0) rfl
      clear hl hA0 h1
      go_enter Tryd.func13, Tryd.ntmps13
      go_wp2
      refine bodyPost_ret (v := .agg #[.slice none 0 0]) (by simp [results, Tryd.results13, go_sem]) rfl ?_
      exact hR.out _ _ ⟨_, [], rfl, HO.out.below, statesAt_nil _, Hl.out, by simp⟩
    · have h2 : B.length = 0 := by omega
      have hdec : ((A.length : Int) == 0) = false := beq_eq_false_iff_ne.2 (by omega)
      have hdec2 : ((B.length : Int) == 0) = true := by simp [h2]
      clear hl hA0 h1 h2
      go_enter Tryd.func13, Tryd.ntmps13
      go_wp2
      refine bodyPost_ret (v := .agg #[.slice none 0 0]) (by simp [results, Tryd.results13, go_sem]) rfl ?_
      exact hR.out _ _ ⟨_, [], rfl, HO.out.below, statesAt_nil _, Hl.out, by simp⟩
  · have hdec : ((A.length : Int) == 0) = false := beq_eq_false_iff_ne.2 (by omega)
    have hdec2 : ((B.length : Int) == 0) = false := beq_eq_false_iff_ne.2 (by omega)
    clear hA0
    go_enter Tryd.func13, Tryd.ntmps13
    go_wp2_with fail
    refine HP.out.mono ?_
    rintro e w1 ⟨r, C, rfl, hb1, hst, hlang, hClen⟩
    have hO1 := HO.out.call hb1
    obtain ⟨ra, rc, rfl⟩ : ∃ ra rc, r = .slice ra C.length rc := by obtain ⟨x, y, e, -⟩ := hst; exact ⟨x, y, e⟩
    have g1 := hO1.obj.cell (i := 0) rfl
    have g2 := hO1.obj.frozen 0
    have g3 := hO1.obj.lt
    have hO2 := hO1.set 0 (.slice ra C.length rc)
    have g4 := hO2.obj.cell (i := 0) rfl
    have Hk := Lib.hid (And.intro hO2.below (And.intro (statesAt_le hO2.done hst) (And.intro hlang hClen)))
    clear hO2 hO1 hst hlang hClen HP HO hb1
    go_wp2
    refine bodyPost_ret (v := .agg #[.slice ra C.length rc]) (by simp [results, Tryd.results13, go_sem, g4]) rfl ?_
    exact hR.out _ _ ⟨_, C, rfl, Hk.out.1, Hk.out.2.1, Hk.out.2.2.1, Hk.out.2.2.2⟩

set_option maxRecDepth 100000 in
set_option maxHeartbeats 2000000 in
theorem langOr_any (v0 v1 : Value) (A B : Table) (m : Mem) (w : World) (hm : m.inn w) (htab : TabM m) (hA : statesAt m v0 A) (hB : statesAt m v1 B) (hF : Fits A B) :
    Calls Tryd.prog 15 #[.agg #[v0], .agg #[v1]] w fun e w' => ∃ r C, e = .returned (.agg #[r]) ∧ Below w.heap.size w w' ∧ statesAt (m.grow w w') r C ∧
      LangIs (fun x => (Sem A x || Sem B x)) C ∧ C.length ≤ (A.length + 2) * (B.length + 2) + 1 := by
  have hO := (((Own.start hm).al #[v0] 24).al #[v1] 24).al #[.slice none 0 0] 24
  have hsz1 : (w.alloc (.cells #[v0] 24)).heap.size = w.heap.size + 1 := by simp
  have hsz2 : ((w.alloc (.cells #[v0] 24)).alloc (.cells #[v1] 24)).heap.size = w.heap.size + 2 := by simp
  rw [hsz2, hsz1] at hO
  have HP := Lib.hid (product_any 40 (fun x y => (x || y)) Or1_any rfl (Lib.hid fun x y w => by go_simp) v0 v1 A B m _ hO.inn htab hA hB hF.mul hF.a hF.b)
  have HGA := Lib.hid (good_any v0 A m _ hO.inn htab hA hF.a)
  have HGB := Lib.hid (good_any v1 B m _ hO.inn htab hB hF.b)
  have HC := Lib.hid (fun l r mk w (h : mk.inn w) (hl : l.length ≤ 1000000) (hst : statesAt mk r (goodT l)) => copied_any r (goodT l) mk w h hst (by have := goodT_len l; omega) (goodT_edges l))
  have HO := Lib.hid hO
  have hFm := hF.mul
  have hFa := hF.a
  have hFb := hF.b
  have hgA := goodT_len A
  have hgB := goodT_len B
  have hmA : A.length + 2 ≤ (A.length + 2) * (B.length + 2) := Nat.le_mul_of_pos_right _ (by omega)
  have hmB : B.length + 2 ≤ (A.length + 2) * (B.length + 2) := Nat.le_mul_of_pos_left _ (by omega)
  obtain ⟨va, vc, rfl, a1, a2, a3⟩ := hA
  obtain ⟨vb, vd, rfl, b1, b2, b3⟩ := hB
  unfold maxLen at a2 b2
  clear hO hsz1 hsz2 a3 b3 hF
  refine calls_hide fun R hR => ?_
  by_cases hA0 : A.length = 0
  · have hl : LangIs (fun x => (Sem A x || Sem B x)) (goodT B) := (goodT_is B).congr fun x => by
      rw [List.eq_nil_of_length_eq_zero hA0, sem_nil]; cases Sem B x <;> rfl
    have Hl := Lib.hid hl
    have hdec : ((A.length : Int) == 0) = true := by simp [hA0]
    clear hl hA0
    go_enter Tryd.func15, Tryd.ntmps15
    go_wp2_with fail
    refine HGB.out.mono ?_
    rintro e w1 ⟨r, rfl, hb1, hst⟩
    have hO1 := HO.out.call hb1
    obtain ⟨ra, rc, rfl⟩ : ∃ ra rc, r = .slice ra (goodT B).length rc := by obtain ⟨x, y, e, -⟩ := hst; exact ⟨x, y, e⟩
    have HC2 := Lib.hid (HC.out B _ _ _ hO1.inn (by omega) hst)
    have HO1 := Lib.hid hO1
    clear hO1 HC HGA HGB HO hb1 hst
    go_wp2_with fail
    refine HC2.out.mono ?_
    rintro e w2 ⟨r, rfl, hb2, hst⟩
    have hO1 := HO1.out.call hb2
    obtain ⟨ra, rc, rfl⟩ : ∃ ra rc, r = .slice ra (goodT B).length rc := by obtain ⟨x, y, e, -⟩ := hst; exact ⟨x, y, e⟩
    have g1 := hO1.obj.cell (i := 0) rfl
    have g2 := hO1.obj.frozen 0
    have g3 := hO1.obj.lt
    have hO2 := hO1.set 0 (.slice ra (goodT B).length rc)
    have g4 := hO2.obj.cell (i := 0) rfl
    have Hk := Lib.hid (And.intro hO2.below (statesAt_le hO2.done hst))
    clear hO2 hO1 hst HP HO1 hb2
    go_wp2
    refine bodyPost_ret (v := .agg #[.slice ra (goodT B).length rc]) (by simp [results, Tryd.results15, go_sem, g4]) rfl ?_
    exact hR.out _ _ ⟨_, goodT B, rfl, Hk.out.1, Hk.out.2, Hl.out, by omega⟩
  · have hdec : ((A.length : Int) == 0) = false := beq_eq_false_iff_ne.2 (by omega)
    by_cases hB0 : B.length = 0
    · have hl : LangIs (fun x => (Sem A x || Sem B x)) (goodT A) := (goodT_is A).congr fun x => by
        rw [List.eq_nil_of_length_eq_zero hB0, sem_nil]; cases Sem A x <;> rfl
      have Hl := Lib.hid hl
      have hdec2 : ((B.length : Int) == 0) = true := by simp [hB0]
      clear hl hA0 hB0
      go_enter Tryd.func15, Tryd.ntmps15
      go_wp2_with fail
      refine HGA.out.mono ?_
      rintro e w1 ⟨r, rfl, hb1, hst⟩
      have hO1 := HO.out.call hb1
      obtain ⟨ra, rc, rfl⟩ : ∃ ra rc, r = .slice ra (goodT A).length rc := by obtain ⟨x, y, e, -⟩ := hst; exact ⟨x, y, e⟩
      have HC2 := Lib.hid (HC.out A _ _ _ hO1.inn (by omega) hst)
      have HO1 := Lib.hid hO1
      clear hO1 HC HGA HGB HO hb1 hst
      go_wp2_with fail
      refine HC2.out.mono ?_
      rintro e w2 ⟨r, rfl, hb2, hst⟩
      have hO1 := HO1.out.call hb2
      obtain ⟨ra, rc, rfl⟩ : ∃ ra rc, r = .slice ra (goodT A).length rc := by obtain ⟨x, y, e, -⟩ := hst; exact ⟨x, y, e⟩
      have g1 := hO1.obj.cell (i := 0) rfl
      have g2 := hO1.obj.frozen 0
      have g3 := hO1.obj.lt
      have hO2 := hO1.set 0 (.slice ra (goodT A).length rc)
      have g4 := hO2.obj.cell (i := 0) rfl
      have Hk := Lib.hid (And.intro hO2.below (statesAt_le hO2.done hst))
      clear hO2 hO1 hst HP HO1 hb2
      go_wp2
      refine bodyPost_ret (v := .agg #[.slice ra (goodT A).length rc]) (by simp [results, Tryd.results15, go_sem, g4]) rfl ?_
      exact hR.out _ _ ⟨_, goodT A, rfl, Hk.out.1, Hk.out.2, Hl.out, by omega⟩
    · have hdec2 : ((B.length : Int) == 0) = false := beq_eq_false_iff_ne.2 (by omega)
      clear hA0 hB0 HC HGA HGB
      go_enter Tryd.func15, Tryd.ntmps15
      go_wp2_with fail
      refine HP.out.mono ?_
      rintro e w1 ⟨r, C, rfl, hb1, hst, hlang, hClen⟩
      have hO1 := HO.out.call hb1
      obtain ⟨ra, rc, rfl⟩ : ∃ ra rc, r = .slice ra C.length rc := by obtain ⟨x, y, e, -⟩ := hst; exact ⟨x, y, e⟩
      have g1 := hO1.obj.cell (i := 0) rfl
      have g2 := hO1.obj.frozen 0
      have g3 := hO1.obj.lt
      have hO2 := hO1.set 0 (.slice ra C.length rc)
      have g4 := hO2.obj.cell (i := 0) rfl
      have Hk := Lib.hid (And.intro hO2.below (And.intro (statesAt_le hO2.done hst) (And.intro hlang hClen)))
      clear hO2 hO1 hst hlang hClen HP HO hb1
      go_wp2
      refine bodyPost_ret (v := .agg #[.slice ra C.length rc]) (by simp [results, Tryd.results15, go_sem, g4]) rfl ?_
      exact hR.out _ _ ⟨_, C, rfl, Hk.out.1, Hk.out.2.1, Hk.out.2.2.1, Hk.out.2.2.2⟩

set_option maxRecDepth 100000 in
set_option maxHeartbeats 2000000 in
theorem langMinus_any (v0 v1 : Value) (A B : Table) (m : Mem) (w : World) (hm : m.inn w) (htab : TabM m) (hA : statesAt m v0 A) (hB : statesAt m v1 B) (hF : Fits A B) :
    Calls Tryd.prog 28 #[.agg #[v0], .agg #[v1]] w fun e w' => ∃ r C, e = .returned (.agg #[r]) ∧ Below w.heap.size w w' ∧ statesAt (m.grow w w') r C ∧
      LangIs (fun x => (Sem A x && !Sem B x)) C ∧ C.length ≤ (A.length + 2) * (B.length + 2) + 1 := by
  have hO := (((Own.start hm).al #[v0] 24).al #[v1] 24).al #[.slice none 0 0] 24
  have hsz1 : (w.alloc (.cells #[v0] 24)).heap.size = w.heap.size + 1 := by simp
  have hsz2 : ((w.alloc (.cells #[v0] 24)).alloc (.cells #[v1] 24)).heap.size = w.heap.size + 2 := by simp
  rw [hsz2, hsz1] at hO
  have HP := Lib.hid (product_any 48 (fun x y => (x && !y)) Minus1_any rfl (Lib.hid fun x y w => by go_simp) v0 v1 A B m _ hO.inn htab hA hB hF.mul hF.a hF.b)
  have HGA := Lib.hid (good_any v0 A m _ hO.inn htab hA hF.a)
  have HGB := Lib.hid (good_any v1 B m _ hO.inn htab hB hF.b)
  have HC := Lib.hid (fun l r mk w (h : mk.inn w) (hl : l.length ≤ 1000000) (hst : statesAt mk r (goodT l)) => copied_any r (goodT l) mk w h hst (by have := goodT_len l; omega) (goodT_edges l))
  have HO := Lib.hid hO
  have hFm := hF.mul
  have hFa := hF.a
  have hFb := hF.b
  have hgA := goodT_len A
  have hgB := goodT_len B
  have hmA : A.length + 2 ≤ (A.length + 2) * (B.length + 2) := Nat.le_mul_of_pos_right _ (by omega)
  have hmB : B.length + 2 ≤ (A.length + 2) * (B.length + 2) := Nat.le_mul_of_pos_left _ (by omega)
  obtain ⟨va, vc, rfl, a1, a2, a3⟩ := hA
  obtain ⟨vb, vd, rfl, b1, b2, b3⟩ := hB
  unfold maxLen at a2 b2
  clear hO hsz1 hsz2 a3 b3 hF
  refine calls_hide fun R hR => ?_
  by_cases hA0 : A.length = 0
  · have hl : LangIs (fun x => (Sem A x && !Sem B x)) [] := lang_nil.congr fun x => by
      rw [List.eq_nil_of_length_eq_zero hA0, sem_nil]; rfl
    have Hl := Lib.hid hl
    have hdec : ((A.length : Int) == 0) = true := by simp [hA0]
    have g1 := HO.out.obj.cell (i := 0) rfl
    clear hl hA0
    go_enter Tryd.func28, Tryd.ntmps28
    go_wp2
    refine bodyPost_ret (v := .agg #[.slice none 0 0]) (by simp [results, Tryd.results28, go_sem]) rfl ?_
    exact hR.out _ _ ⟨_, [], rfl, HO.out.below, statesAt_nil _, Hl.out, by simp⟩
  · have hdec : ((A.length : Int) == 0) = false := beq_eq_false_iff_ne.2 (by omega)
    by_cases hB0 : B.length = 0
    · have hl : LangIs (fun x => (Sem A x && !Sem B x)) (goodT A) := (goodT_is A).congr fun x => by
        rw [List.eq_nil_of_length_eq_zero hB0, sem_nil]; cases Sem A x <;> rfl
      have Hl := Lib.hid hl
      have hdec2 : ((B.length : Int) == 0) = true := by simp [hB0]
      clear hl hA0 hB0
      go_enter Tryd.func28, Tryd.ntmps28
      go_wp2_with fail
      refine HGA.out.mono ?_
      rintro e w1 ⟨r, rfl, hb1, hst⟩
      have hO1 := HO.out.call hb1
      obtain ⟨ra, rc, rfl⟩ : ∃ ra rc, r = .slice ra (goodT A).length rc := by obtain ⟨x, y, e, -⟩ := hst; exact ⟨x, y, e⟩
      have HC2 := Lib.hid (HC.out A _ _ _ hO1.inn (by omega) hst)
      have HO1 := Lib.hid hO1
      clear hO1 HC HGA HGB HO hb1 hst
      go_wp2_with fail
      refine HC2.out.mono ?_
      rintro e w2 ⟨r, rfl, hb2, hst⟩
      have hO1 := HO1.out.call hb2
      obtain ⟨ra, rc, rfl⟩ : ∃ ra rc, r = .slice ra (goodT A).length rc := by obtain ⟨x, y, e, -⟩ := hst; exact ⟨x, y, e⟩
      have g1 := hO1.obj.cell (i := 0) rfl
      have g2 := hO1.obj.frozen 0
      have g3 := hO1.obj.lt
      have hO2 := hO1.set 0 (.slice ra (goodT A).length rc)
      have g4 := hO2.obj.cell (i := 0) rfl
      have Hk := Lib.hid (And.intro hO2.below (statesAt_le hO2.done hst))
      clear hO2 hO1 hst HP HO1 hb2
      go_wp2
      refine bodyPost_ret (v := .agg #[.slice ra (goodT A).length rc]) (by simp [results, Tryd.results28, go_sem, g4]) rfl ?_
      exact hR.out _ _ ⟨_, goodT A, rfl, Hk.out.1, Hk.out.2, Hl.out, by omega⟩
    · have hdec2 : ((B.length : Int) == 0) = false := beq_eq_false_iff_ne.2 (by omega)
      clear hA0 hB0 HC HGA HGB
      go_enter Tryd.func28, Tryd.ntmps28
      go_wp2_with fail
      refine HP.out.mono ?_
      rintro e w1 ⟨r, C, rfl, hb1, hst, hlang, hClen⟩
      have hO1 := HO.out.call hb1
      obtain ⟨ra, rc, rfl⟩ : ∃ ra rc, r = .slice ra C.length rc := by obtain ⟨x, y, e, -⟩ := hst; exact ⟨x, y, e⟩
      have g1 := hO1.obj.cell (i := 0) rfl
      have g2 := hO1.obj.frozen 0
      have g3 := hO1.obj.lt
      have hO2 := hO1.set 0 (.slice ra C.length rc)
      have g4 := hO2.obj.cell (i := 0) rfl
      have Hk := Lib.hid (And.intro hO2.below (And.intro (statesAt_le hO2.done hst) (And.intro hlang hClen)))
      clear hO2 hO1 hst hlang hClen HP HO hb1
      go_wp2
      refine bodyPost_ret (v := .agg #[.slice ra C.length rc]) (by simp [results, Tryd.results28, go_sem, g4]) rfl ?_
      exact hR.out _ _ ⟨_, C, rfl, Hk.out.1, Hk.out.2.1, Hk.out.2.2.1, Hk.out.2.2.2⟩

theorem allT_is : LangIs (fun _ => true) allT := by
  have h0 : ∀ w, accFrom allT 0 w = true := by
    intro w
    induction w with
    | nil => rfl
    | cons b w ih =>
      have hb := b.toNat_lt
      have : tstep allT 0 b.toNat = 0 := by
        show estep [(⟨0, 255, 0⟩ : Ed)] b.toNat = 0
        simp only [estep]
        rw [if_pos ⟨Nat.zero_le _, by omega⟩]
      simp only [accFrom, this, ih]
  have ht : ∀ (k b t : Nat), tstep allT k b = t → t = 0 := by
    intro k b t h
    by_cases hk : k < 1
    · obtain rfl : k = 0 := by omega
      have h1 : estep [(⟨0, 255, 0⟩ : Ed)] b = t := h
      simp only [estep] at h1
      split at h1 <;> omega
    · rw [tstep_out allT k b (by simp [allT]; omega)] at h
      omega
  refine ⟨⟨?_, ?_, ?_, ?_, ?_, ?_, ?_⟩, h0⟩
  · intro s hs
    simp only [allT, List.mem_singleton] at hs
    subst hs
    exact ⟨Nat.zero_le _, by simp, by simp [allT], by simp, trivial⟩
  · intro s hs e he
    simp only [allT, List.mem_singleton] at hs
    subst hs
    simp only [List.mem_singleton] at he
    subst he
    exact ⟨by simp, by simp⟩
  · intro s hs
    simp only [allT, List.mem_singleton] at hs
    subst hs
    trivial
  · intro k hk
    obtain rfl : k = 0 := by simp [allT] at hk; exact hk
    exact ⟨[], h0 []⟩
  · intro i j hi hj _
    simp [allT] at hi hj
    omega
  · intro k b t _ h t' h1 h2
    have := ht k b t h
    omega
  · intro t h1 h2
    simp [allT] at h2
    omega
theorem allT_sem (x : List UInt8) : Sem allT x = true := allT_is.sem x
theorem auAll_any (m : Mem) (w : World) :
    Calls Tryd.prog 47 #[] w fun e w' => ∃ r, e = .returned (.agg #[r]) ∧ Below w.heap.size w w' ∧ statesAt (m.grow w w') r allT := by
  refine (auAll_obj w).mono ?_
  rintro e w' ⟨g1, g2, rfl, hb, h1, h2, h3, o1, o2⟩
  have gc : ∀ {g t arr i v}, w.heap.size ≤ g → ObjAt w' g t arr → arr[i]? = some v → (m.grow w w').cell g i = some v := by
    intro g t arr i v hg ho hv
    unfold Mem.cell Mem.grow
    rw [if_neg (by omega), ho.get]
    exact hv
  refine ⟨_, rfl, hb, some ⟨g2, 0, none⟩, 1, rfl, Nat.le_refl _, by simp [maxLen], fun _ => ⟨g2, 0, rfl, fun i hi => ?_⟩⟩
  obtain rfl : i = 0 := by simp [allT] at hi; exact hi
  refine ⟨gc h2 o2 rfl, _, gc h2 o2 rfl, some ⟨g1, 0, none⟩, 1, rfl, Nat.le_refl _, by simp [maxLen], fun _ => ⟨g1, 0, rfl, fun j hj => ?_⟩⟩
  obtain rfl : j = 0 := by simp [allT] at hj; exact hj
  exact ⟨gc h1 o1 rfl, gc h1 o1 rfl, gc h1 o1 rfl, by simp [allT], by simp [allT], by simp [allT], by simp [allT]⟩
theorem r05All_any (m : Mem) (w : World) :
    Calls Tryd.prog 29 #[] w fun e w' => ∃ r, e = .returned (.agg #[r]) ∧ Below w.heap.size w w' ∧ statesAt (m.grow w w') r allT := by
  refine (r05All_obj w).mono ?_
  rintro e w' ⟨g1, g2, rfl, hb, h1, h2, h3, o1, o2⟩
  have gc : ∀ {g t arr i v}, w.heap.size ≤ g → ObjAt w' g t arr → arr[i]? = some v → (m.grow w w').cell g i = some v := by
    intro g t arr i v hg ho hv
    unfold Mem.cell Mem.grow
    rw [if_neg (by omega), ho.get]
    exact hv
  refine ⟨_, rfl, hb, some ⟨g2, 0, none⟩, 1, rfl, Nat.le_refl _, by simp [maxLen], fun _ => ⟨g2, 0, rfl, fun i hi => ?_⟩⟩
  obtain rfl : i = 0 := by simp [allT] at hi; exact hi
  refine ⟨gc h2 o2 rfl, _, gc h2 o2 rfl, some ⟨g1, 0, none⟩, 1, rfl, Nat.le_refl _, by simp [maxLen], fun _ => ⟨g1, 0, rfl, fun j hj => ?_⟩⟩
  obtain rfl : j = 0 := by simp [allT] at hj; exact hj
  exact ⟨gc h1 o1 rfl, gc h1 o1 rfl, gc h1 o1 rfl, by simp [allT], by simp [allT], by simp [allT], by simp [allT]⟩

set_option maxRecDepth 100000 in
set_option maxHeartbeats 2000000 in
theorem langNot_any (v0 : Value) (A : Table) (m : Mem) (w : World) (hm : m.inn w) (htab : TabM m) (hA : statesAt m v0 A) (hF : A.length ≤ 300000) :
    Calls Tryd.prog 27 #[.agg #[v0]] w fun e w' => ∃ r C, e = .returned (.agg #[r]) ∧ Below w.heap.size w w' ∧ statesAt (m.grow w w') r C ∧
      LangIs (fun x => !Sem A x) C ∧ C.length ≤ 3 * (A.length + 2) + 1 := by
  have hO := ((Own.start hm).al #[v0] 24).al #[.slice none 0 0] 24
  have hsz1 : (w.alloc (.cells #[v0] 24)).heap.size = w.heap.size + 1 := by simp
  rw [hsz1] at hO
  have HO := Lib.hid hO
  have HM := Lib.hid (fun r mk w (h : mk.inn w) (hle : m.le mk) (hst : statesAt mk r allT) => langMinus_any r v0 allT A mk w h (htab.le hle) hst (statesAt_le hle hA) (Fits.of (x := 1) (y := A.length) (Nat.le_refl _) (Nat.le_refl _) (by omega)))
  have hA' := hA
  obtain ⟨va, vc, rfl, -⟩ := hA
  clear hO hsz1
  refine calls_hide fun R hR => ?_
  go_enter Tryd.func27, Tryd.ntmps27
  go_wp2
  refine wp_cut_keep [2] (fun vs w' => ∃ (r : Value) (C : Table) (mk : Mem), vs = [.pointer (some ⟨w.heap.size + 1, 0, none⟩)] ∧ Own w m w' mk [.obj (w.heap.size + 1) 24 #[r], .obj w.heap.size 24 #[.slice va A.length vc]] ∧ statesAt mk r C ∧
    LangIs (fun x => !Sem A x) C ∧ C.length ≤ 3 * (A.length + 2) + 1) ?_ ?_
  · intro X hX
    refine wp_region_T (fun w' => ObjAt w' w.heap.size 24 #[.slice va A.length vc]) 3 (by kernel_rfl) ?_
    have hO := HO.out.dr
    have hS := hO.swap.obj
    refine wpAnyT_take 1 rfl (by kernel_rfl) (fun _ _ _ h => h) hS (yields_of rfl fun w' hS' => by have q := hS'.cell (i := 0) rfl; go_simp; rfl) ?_
    refine wpAnyT_only 0 (by kernel_rfl) (wpOp_of rfl rfl (wp_enter (by go_simp; rfl) (auAll_any m _) ?_))
    rintro e w1 ⟨r, rfl, hb1, hst⟩
    have hO2 := hO.call hb1
    have hle := Mem.le_grow (w := w1) hO.inn
    refine ⟨_, rfl, andS hO2.swap.obj fun _ => ?_⟩
    go_simp
    refine wpAnyT_only 2 (by kernel_rfl) (wpOp_of rfl rfl (wp_enter (by go_simp) (HM.out _ _ _ hO2.inn hle hst) ?_))
    rintro e w2 ⟨r2, C, rfl, hb2, hst2, hlang, hClen⟩
    have hO3 := hO2.call hb2
    refine ⟨_, rfl, andS hO3.swap.obj fun _ => ?_⟩
    obtain ⟨ra, rc, rfl⟩ : ∃ ra rc, r2 = .slice ra C.length rc := by obtain ⟨x, y, e, -⟩ := hst2; exact ⟨x, y, e⟩
    go_simp
    have g1 := hO3.obj.cell (i := 0) rfl
    have g2 := hO3.obj.frozen 0
    refine wpAnyT_only 3 (by kernel_rfl) (wpOp_of rfl rfl (wp_skipped (by go_simp; first | done | rfl) (andLast rfl ?_)))
    refine wpAnyT_done (by kernel_rfl) ?_ _
    refine hX.out _ _ rfl ⟨_, C, _, rfl, hO3.set 0 _, hst2, hlang.congr fun x => ?_, ?_⟩
    · rw [allT_sem]; rfl
    · have : allT.length = 1 := rfl
      rw [this] at hClen
      exact hClen
  rintro z vs w1 - ⟨r, C, mk, rfl, hO, hst, hlang, hClen⟩
  simp [litL, lk]
  obtain ⟨ra, rc, rfl⟩ : ∃ ra rc, r = .slice ra C.length rc := by obtain ⟨x, y, e, -⟩ := hst; exact ⟨x, y, e⟩
  have g4 := hO.obj.cell (i := 0) rfl
  have Hk := Lib.hid (And.intro hO.below (And.intro (statesAt_le hO.done hst) (And.intro hlang hClen)))
  clear hO hst hlang hClen HO HM
  go_wp2
  refine bodyPost_ret (v := .agg #[.slice ra C.length rc]) (by simp [results, Tryd.results27, go_sem, g4]) rfl ?_
  exact hR.out _ _ ⟨_, C, rfl, Hk.out.1, Hk.out.2.1, Hk.out.2.2.1, Hk.out.2.2.2⟩

set_option maxRecDepth 100000 in
set_option maxHeartbeats 2000000 in
theorem langSubset_any (v0 v1 : Value) (A B : Table) (m : Mem) (w : World) (hm : m.inn w) (htab : TabM m) (hA : statesAt m v0 A) (hB : statesAt m v1 B) (hF : Fits A B) :
    Calls Tryd.prog 30 #[.agg #[v0], .agg #[v1]] w fun e w' => e = .returned (.bool (tf (∀ x, (Sem A x && !Sem B x) = false))) ∧ Below w.heap.size w w' := by
  have hO := ((Own.start hm).al #[v0] 24).al #[v1] 24
  have HM := Lib.hid (langMinus_any v0 v1 A B m _ hO.inn htab hA hB hF)
  have HO := Lib.hid hO
  obtain ⟨va, vc, rfl, -⟩ := hA
  obtain ⟨vb, vd, rfl, -⟩ := hB
  clear hO
  refine calls_hide fun R hR => ?_
  go_enter Tryd.func30, Tryd.ntmps30
  go_wp2_with fail
  refine HM.out.mono ?_
  rintro e w1 ⟨r, C, rfl, hb1, hst, hlang, hClen⟩
  obtain ⟨ra, rc, rfl⟩ : ∃ ra rc, r = .slice ra C.length rc := by obtain ⟨x, y, e, -⟩ := hst; exact ⟨x, y, e⟩
  have hO1 := HO.out.call hb1
  have hn := nil_iff hlang
  have hfd : ∀ w : World, (Instr.field 24 (.agg #[.slice ra C.length rc]) 0).run Tryd.prog w = .ok (.slice ra C.length rc) w := fun _ => by kernel_rfl
  have Hk := Lib.hid (And.intro hO1.below hn)
  clear hO1 hst hlang hb1 HM HO hn
  by_cases h0 : C.length = 0
  · have hdec : ((C.length : Int) == 0) = true := by simp [h0]
    have H0 := Lib.hid h0
    clear h0
    go_wp2
    exact hR.out _ _ ⟨ret_bool (by rw [tf_true (Hk.out.2.1 (List.eq_nil_of_length_eq_zero H0.out))]), Hk.out.1⟩
  · have hdec : ((C.length : Int) == 0) = false := beq_eq_false_iff_ne.2 (by omega)
    have H0 := Lib.hid h0
    clear h0
    go_wp2
    exact hR.out _ _ ⟨ret_bool (by rw [tf_false (fun h => H0.out (by rw [Hk.out.2.2 h]; rfl))]), Hk.out.1⟩
end Cl
/- A RANGE OVER A FUNCTION, where the body and the iterator each own memory of their own: the law in the words of Own. -/
namespace Cl
open Go Go.RowKit

/-- a call of yield: one round; whatever else is owned stays -/
def YieldOK {α : Type} (P : Program) (l : Nat) (encs : α → Array Value) (w0 : World) (m mk1 : Mem) (B Bx : List α → List Item → Prop) : Prop :=
  ∀ (pre : List α) (x : α) (W : World) (mk : Mem) (Lt Lr : List Item), B pre Lt → Own w0 m W mk (Lt ++ Lr) → mk1.le mk → YieldAt Fence.wide 0 P l (encs x) W fun e W' =>
    (e = .returned (.bool true) ∧ ∃ mk' Lt', B (pre ++ [x]) Lt' ∧ Own w0 m W' mk' (Lt' ++ Lr) ∧ mk.le mk') ∨
    (e = .returned (.bool false) ∧ ∃ mk' Lt', Bx (pre ++ [x]) Lt' ∧ Own w0 m W' mk' (Lt' ++ Lr) ∧ mk.le mk')
def SeqEnd {α : Type} (w0 : World) (m mk1 : Mem) (B Bx : List α → List Item → Prop) (S Sp : List α → Prop) (e : Ending) (W' : World) : Prop :=
  (∃ v, e = .returned v) ∧ ((∃ xs mk' Lt, S xs ∧ B xs Lt ∧ Own w0 m W' mk' Lt ∧ mk1.le mk') ∨ (∃ xs mk' Lt, Sp xs ∧ Bx xs Lt ∧ Own w0 m W' mk' Lt ∧ mk1.le mk'))
/-- how a round's body may end -/
def RoundEnd {α : Type} (w0 : World) (m mk : Mem) (Lr : List Item) (I : List α → List Item → Prop) (Ix : Code → List α → List Item → Prop) (xs : List α) : Exit → Act → World → Prop
  | .normal, _, W' => ∃ mk' Lt, I xs Lt ∧ Own w0 m W' mk' (Lt ++ Lr) ∧ mk.le mk'
  | .ret, _, W' => ∃ mk' Lt, Ix .ret xs Lt ∧ Own w0 m W' mk' (Lt ++ Lr) ∧ mk.le mk'
  | .exit id, _, W' => ∃ mk' Lt, Ix (.exit id) xs Lt ∧ Own w0 m W' mk' (Lt ++ Lr) ∧ mk.le mk'
  | .goto t, _, W' => ∃ mk' Lt, Ix (.goto t) xs Lt ∧ Own w0 m W' mk' (Lt ++ Lr) ∧ mk.le mk'
  | .panic _, _, _ => False
  | .outgrown, _, _ => False

theorem perm_two {α : Type} (a b : α) (L R : List α) : (L ++ (a :: b :: R)).Perm (a :: b :: (L ++ R)) := List.perm_middle.trans (List.Perm.cons _ List.perm_middle)

theorem wp_rangeOwn {α : Type} {P : Program} {g : Operand} {ps : Array Tmp} {assign body : Code} {Q : Exit → Act → World → Prop} {a : Act} {w : World} {gf : Nat} {lb : Array Value}
    (hg : a.eval g = .func (.func gf) #[] lb) (eg : ∀ args w, (callFunc gf args).run P w = .ok (.enter gf args) w) {encs : α → Array Value} (hps : ∀ x, (encs x).size = ps.size)
    {w0 : World} {m mk : Mem} {L0 : List Item} (hO : Own w0 m w mk L0) (I : List α → List Item → Prop) (Ix : Code → List α → List Item → Prop) (S Sp : List α → Prop) (h0 : I [] L0)
    (hseq : ∀ (l : Nat) (W1 : World) (L1 : List Item) (B Bx : List α → List Item → Prop), B [] L1 → Own w0 m W1 mk L1 → YieldOK P l encs w0 m mk B Bx →
      Calls P gf (#[.func (.yield l) #[] #[]] ++ lb) W1 (SeqEnd w0 m mk B Bx S Sp))
    (a₁ : α → Act)
    (hassign : ∀ (l : Nat) (x : α) (W : World) (K : Act → World → Prop), K (a₁ x) W →
      assign.wpIn (Fence.wide.inRound l) 0 P (Exit.then K (fun _ _ _ => False)) { tmps := (ps.zip (encs x)).foldl (fun t (p, v) => t.setIfInBounds p v) a.tmps, defers := [] } W)
    (hbody : ∀ (l : Nat) (pre : List α) (x : α) (W : World) (mk1 : Mem) (Lt Lr : List Item), I pre Lt → Own w0 m W mk1 (Lt ++ Lr) → mk.le mk1 →
      body.wpIn (Fence.wide.inRound l) 0 P (RoundEnd w0 m mk1 Lr I Ix (pre ++ [x])) (a₁ x) W)
    (hdone : ∀ (D : Nat) (xs : List α) (W : World) (mk1 : Mem) (L : List Item), S xs → I xs L → Own w0 m W mk1 (.blob D (.deferred (some [])) :: L) → mk.le mk1 → Q .normal { a with defers := { target := .collected D, args := #[] } :: a.defers } W)
    (hstop : ∀ (D : Nat) (c : Code) (xs : List α) (W : World) (mk1 : Mem) (L : List Item), Sp xs → Ix c xs L → Own w0 m W mk1 (.blob D (.deferred (some [])) :: L) → mk.le mk1 →
      c.wpIn Fence.wide 0 P Q { a with defers := { target := .collected D, args := #[] } :: a.defers } W) :
    (Code.rangeFunc g ps assign body).wpIn Fence.wide 0 P Q a w := by
  refine wpIn_rangeFunc ?_
  intro fn _
  obtain ⟨rec, hrec⟩ : ∃ rec : LoopState → Option Code → Loop, rec = fun st pe => { state := st, pending := pe, fn, tmps := a.tmps, params := ps, assign, body, defers := w.heap.size } := ⟨_, rfl⟩
  have hO1 := (hO.alBlob (.deferred (some []))).alBlob (.loop (rec .ready none))
  have hsz : (w.alloc (.deferred (some []))).heap.size = w.heap.size + 1 := by simp
  rw [hsz] at hO1
  have hent := run_enterLoop_outer (P := P) (w := w) fn a.tmps ps assign body
  have hre : (Obj.loop { state := .ready, pending := none, fn, tmps := a.tmps, params := ps, assign, body, defers := w.heap.size }) = .loop (rec .ready none) := by rw [hrec]
  rw [hre] at hent
  generalize (w.alloc (.deferred (some []))).alloc (.loop (rec .ready none)) = W1 at *
  generalize w.heap.size = D at *
  have hround : YieldOK P (D + 1) encs w0 m mk (fun pre Lt => ∃ L, I pre L ∧ Lt = .blob (D + 1) (.loop (rec .ready none)) :: .blob D (.deferred (some [])) :: L)
      (fun pre Lt => ∃ c L, Ix c pre L ∧ Lt = .blob (D + 1) (.loop (rec .done (some c))) :: .blob D (.deferred (some [])) :: L) := by
    rintro pre x W mk1 Lt Lr ⟨L, hI, rfl⟩ hOw hle
    have hl := hOw.blob
    have hy := run_yield (P := P) (args := encs x) hl (by rw [hrec]; exact hps x)
    rw [hrec] at hy
    refine ⟨fn, _, assign, body, hy, roundIn_of_wpIn trivial (hassign _ x W _ ⟨_, run_beginRound hl (by rw [hrec]), ?_⟩)⟩
    have hO2 := hOw.setBlob (o' := .loop { rec .ready none with state := .busy }) (World.putObj_heap_same (Array.getElem?_eq_some_iff.1 hl).1) (grownBy_putObj' _ _ _)
    have hO3 := hO2.perm (perm_two _ _ L Lr)
    refine wpIn_mono (hbody _ pre x _ mk1 L _ hI hO3 hle) ?_
    have fin : ∀ (jump : Option Code) (W3 : World) (mk2 : Mem) (L2 : List Item), Own w0 m W3 mk2 (L2 ++ (.blob (D + 1) (.loop { rec .ready none with state := .busy }) :: .blob D (.deferred (some [])) :: Lr)) →
        ∃ W4, (Instr.endRound (D + 1) jump).run P W3 = .ok (.bool jump.isNone) W4 ∧ Own w0 m W4 mk2 (.blob (D + 1) (.loop (rec (if jump.isNone then .ready else .done) jump)) :: .blob D (.deferred (some [])) :: (L2 ++ Lr)) := by
      intro jump W3 mk2 L2 h3
      have h4 := h3.perm (perm_two _ _ L2 Lr).symm
      have hl3 := h4.blob
      have hr := run_endRound (P := P) jump hl3
      refine ⟨_, hr, ?_⟩
      have := h4.setBlob (o' := .loop { rec .ready none with state := if jump.isNone then .ready else .done, pending := jump }) (World.putObj_heap_same (Array.getElem?_eq_some_iff.1 hl3).1) (grownBy_putObj' _ _ _)
      rw [hrec] at this ⊢
      exact this
    rintro e a3 W3 hp
    cases e with
    | normal =>
      obtain ⟨mk2, L2, hi, ho, hm⟩ := hp
      obtain ⟨W4, hr, ho4⟩ := fin none W3 mk2 L2 ho
      exact ⟨_, _, hr, .inl ⟨rfl, mk2, _, ⟨L2, hi, rfl⟩, ho4, hm⟩⟩
    | ret =>
      obtain ⟨mk2, L2, hi, ho, hm⟩ := hp
      obtain ⟨W4, hr, ho4⟩ := fin (some .ret) W3 mk2 L2 ho
      exact ⟨_, _, hr, .inr ⟨rfl, mk2, _, ⟨.ret, L2, hi, rfl⟩, ho4, hm⟩⟩
    | exit id =>
      obtain ⟨mk2, L2, hi, ho, hm⟩ := hp
      obtain ⟨W4, hr, ho4⟩ := fin (some (.exit id)) W3 mk2 L2 ho
      exact ⟨_, _, hr, .inr ⟨rfl, mk2, _, ⟨.exit id, L2, hi, rfl⟩, ho4, hm⟩⟩
    | goto t =>
      obtain ⟨mk2, L2, hi, ho, hm⟩ := hp
      obtain ⟨W4, hr, ho4⟩ := fin (some (.goto t)) W3 mk2 L2 ho
      exact ⟨_, _, hr, .inr ⟨rfl, mk2, _, ⟨.goto t, L2, hi, rfl⟩, ho4, hm⟩⟩
    | panic ch => exact hp.elim
    | outgrown => exact hp.elim
  refine ⟨D + 1, [{ target := .collected D, args := #[] }], W1, { target := .fn (.func gf) lb, args := #[.func (.yield (D + 1)) #[] #[]] }, W1, gf,
    #[.func (.yield (D + 1)) #[] #[]] ++ lb, W1, hent, ?_, fun _ _ => trivial, ?_, fun h => absurd h (by simp [Fence.wide]), ?_⟩
  · simp only [resolve, hg]
    simp [go_sem]
  · simp [invoke, go_sem, eg]
  · refine callsIn_wide.2 ((hseq (D + 1) W1 _ _ _ ⟨L0, h0, rfl⟩ hO1 hround).mono ?_)
    rintro e W3 ⟨⟨v, rfl⟩, hend⟩
    rcases hend with ⟨xs, mk2, Lt, hS, ⟨L, hI, rfl⟩, ho, hm⟩ | ⟨xs, mk2, Lt, hS, ⟨c, L, hI, rfl⟩, ho, hm⟩
    · have hl3 := ho.blob
      have hO4 := ho.setBlob (o' := .loop { rec .ready none with state := .exhausted }) (World.putObj_heap_same (Array.getElem?_eq_some_iff.1 hl3).1) (grownBy_putObj' _ _ _)
      refine ⟨none, _, ?_, hdone D xs _ mk2 L hS hI hO4.tail hm⟩
      have := run_endLoop (P := P) hl3 (by rw [hrec]; simp)
      rw [this, hrec]
    · have hl3 := ho.blob
      have hO4 := ho.setBlob (o' := .loop { rec .done (some c) with state := .exhausted }) (World.putObj_heap_same (Array.getElem?_eq_some_iff.1 hl3).1) (grownBy_putObj' _ _ _)
      refine ⟨some c, _, ?_, hstop D c xs _ mk2 L hS hI hO4.tail hm⟩
      have := run_endLoop (P := P) hl3 (by rw [hrec]; simp)
      rw [this, hrec]
end Cl
namespace Cl
open Go Go.RowKit Go.Proofs
attribute [local go_sem] Oper.semAt_some

/-- a slice of bytes that nobody writes: nil, or a whole array of its own -/
def PrefAt (mk : Mem) (v : Value) (u : List UInt8) : Prop :=
  (u = [] ∧ v = .slice none 0 0) ∨ (u ≠ [] ∧ ∃ g c, v = .slice (some ⟨g, 0, none⟩) u.length c ∧ u.length ≤ c ∧ c ≤ maxLen ∧ ∀ i, (h : i < u.length) → mk.cell g i = some (.int .u8 (u[i]).toNat))
theorem PrefAt.le {mk mk' : Mem} {v : Value} {u : List UInt8} (h : PrefAt mk v u) (hl : mk.le mk') : PrefAt mk' v u := by
  rcases h with h | ⟨h1, g, c, h2, h3, h4, h5⟩
  · exact .inl h
  · exact .inr ⟨h1, g, c, h2, h3, h4, fun i hi => Mem.cell_le hl (h5 i hi)⟩
theorem strOfNums_bytes (u : List UInt8) : strOfNums (u.map fun b => (b.toNat : Int)) = ⟨u.toArray⟩ := by
  unfold strOfNums
  congr 1
  rw [List.map_map]
  congr 1
  conv => rhs; rw [← List.map_id u]
  apply List.map_congr_left
  intro b _
  simp
theorem run_pref_string {mk : Mem} {w : World} {v : Value} {u : List UInt8} (h : PrefAt mk v u) (hm : mk.inn w) : (convert 90 9 v).run Tryd.prog w = .ok (.string ⟨u.toArray⟩) w := by
  rcases h with ⟨rfl, rfl⟩ | ⟨h1, g, c, rfl, h3, h4, h5⟩
  · exact run_convert_bytes_nil w 90 5 Tryd.underlying90 Tryd.underlying5 0 0 _ Tryd.underlying9
  · have := run_convert_bytes_arg w 90 5 Tryd.underlying90 Tryd.underlying5 g 0 u.length c (u.map fun b => (b.toNat : Int)) (by simp) (fun i hi => by
      rw [Nat.zero_add, Mem.cell_w hm (h5 i hi)]
      simp [List.getD, hi]) _ Tryd.underlying9
    rw [this, strOfNums_bytes]

/-- what the yielding functions know -/
structure VisEnv (T : Table) (l : Nat) (w0 : World) (m mk0 : Mem) (B Bx : List (List UInt8) → List Item → Prop) (Lr : List Item) (gy ga gt gv tb ntab ctab : Nat) (va : Value) : Prop where
  yield : YieldOK Tryd.prog l (fun x : List UInt8 => #[Value.string ⟨x.toArray⟩]) w0 m mk0 B Bx
  cy : mk0.cell gy 0 = some (.func (.yield l) #[] #[])
  ca : mk0.cell ga 0 = some va
  ct : mk0.cell gt 0 = some (.slice (some ⟨tb, 0, none⟩) ntab ctab)
  cv : mk0.cell gv 0 = some (.func (.func 87) #[] #[.pointer (some ⟨gy, 0, none⟩), .pointer (some ⟨ga, 0, none⟩), .pointer (some ⟨gt, 0, none⟩), .pointer (some ⟨gv, 0, none⟩)])
  tab : statesAt mk0 va T
  rows : ∀ W mk Lt, Own w0 m W mk (Lt ++ Lr) → ∀ i, i < ntab → ∃ u, W.cell? ⟨tb, i, none⟩ = some u ∧ boolsAt mk0 u (canN T i)
  ntab : ntab ≤ maxLen
def VisEnd (w0 : World) (m mk : Mem) (B Bx : List (List UInt8) → List Item → Prop) (Lr : List Item) (pre ws : List (List UInt8)) (e : Ending) (W' : World) : Prop :=
  (e = .returned (.bool true) ∧ ∃ mk' Lt, B (pre ++ ws) Lt ∧ Own w0 m W' mk' (Lt ++ Lr) ∧ mk.le mk') ∨
  (e = .returned (.bool false) ∧ ∃ q mk' Lt, q ≠ [] ∧ q <+: ws ∧ Bx (pre ++ q) Lt ∧ Own w0 m W' mk' (Lt ++ Lr) ∧ mk.le mk')

set_option maxRecDepth 100000 in
set_option maxHeartbeats 2000000 in
theorem visit_leaf {T : Table} {l : Nat} {w0 : World} {m mk0 : Mem} {B Bx : List (List UInt8) → List Item → Prop} {Lr : List Item} {gy ga gt gv tb ntab ctab : Nat} {va : Value} (hE : VisEnv T l w0 m mk0 B Bx Lr gy ga gt gv tb ntab ctab va)
    (s : Nat) (u : List UInt8) (vp : Value) (pre : List (List UInt8)) (mk : Mem) (W : World) (Lt : List Item) (hle : mk0.le mk) (hp : PrefAt mk vp u) (hB : B pre Lt) (hO : Own w0 m W mk (Lt ++ Lr)) :
    Calls Tryd.prog 87 #[.int .i64 s, .int .i64 0, vp, .pointer (some ⟨gy, 0, none⟩), .pointer (some ⟨ga, 0, none⟩), .pointer (some ⟨gt, 0, none⟩), .pointer (some ⟨gv, 0, none⟩)] W (VisEnd w0 m mk B Bx Lr pre [u]) := by
  have hcy := Mem.cell_w hO.inn (Mem.cell_le hle hE.cy)
  have hcyl := Mem.cell_lt hO.inn (Mem.cell_le hle hE.cy)
  have hcv := run_pref_string hp hO.inn
  obtain ⟨fn, tmps, assign, body, hy, hR⟩ := hE.yield pre u W mk Lt Lr hB hO hle
  refine calls_hide fun R hR' => ?_
  clear hO hB hp hE hle
  go_enter Tryd.func87, Tryd.ntmps87
  refine (wpIn_wide (n := 0)).1 ?_
  gi_wp2
  refine ⟨rfl, hR.mono ?_⟩
  rintro e W' (⟨rfl, mk', Lt', h1, h2, h3⟩ | ⟨rfl, mk', Lt', h1, h2, h3⟩)
  · have Hk := Lib.hid (And.intro h1 (And.intro h2 h3))
    clear h1 h2 h3
    gi_wp2
    exact hR'.out _ _ (.inl ⟨rfl, mk', Lt', Hk.out.1, Hk.out.2.1, Hk.out.2.2⟩)
  · have Hk := Lib.hid (And.intro h1 (And.intro h2 h3))
    clear h1 h2 h3
    gi_wp2
    exact hR'.out _ _ (.inr ⟨rfl, [u], mk', Lt', by simp, List.prefix_refl _, Hk.out.1, Hk.out.2.1, Hk.out.2.2⟩)
end Cl
namespace Cl
open Go Go.RowKit Go.Proofs

theorem tyBytes : SliceTy Tryd.prog 90 5 1 1 := ⟨Tryd.underlying90, by omega, by
  obtain ⟨i, h1, h2, h3, h4⟩ := info_parts (P := Tryd.prog) (e := 5) (z := .int .u8 0) (size := 1) (bytes := 1) (by kernel_rfl)
  exact ⟨i, _, h1, h2, h3, h4, rfl⟩⟩
def cutV (v : Value) (u : List UInt8) : Value := match v with
  | .slice a _ _ => .slice a u.length u.length
  | v => v
/-- one byte more behind a slice without room -/
theorem run_push_byte {w0 w : World} {m mk : Mem} {L : List Cl.Item} {v : Value} {u : List UInt8} {c : Nat} (h : PrefAt mk v u) (hc : c < 256) (hO : Own w0 m w mk L) (ga : Nat) (hga : w.cell? ⟨ga, 0, none⟩ = some (.int .u8 c)) (hu : u.length ≤ 1000000) :
    ∃ v' w' mk', (Builtin.append_ #[90, 90] 90 #[cutV v u, .slice (some ⟨ga, 0, none⟩) 1 1]).run Tryd.prog w = .ok v' w' ∧ Own w0 m w' mk' L ∧ mk.le mk' ∧ PrefAt mk' v' (u ++ [UInt8.ofNat c]) := by
  have hnews : ∀ j x, [Value.int .u8 c][j]? = some x → w.cell? ((⟨ga, 0, none⟩ : Addr).add j) = some x := by
    intro j x hj
    rw [Addr.add_lit, Nat.zero_add]
    cases j with
    | zero => simp at hj; rw [← hj]; exact hga
    | succ j => simp at hj
  have hof : ((UInt8.ofNat c).toNat : Int) = (c : Int) := by
    rw [UInt8.toNat_ofNat']; omega
  rcases h with ⟨rfl, rfl⟩ | ⟨hne, g, cc, rfl, h3, h4, h5⟩
  · have hO1 := hO.nilRow 5 1
    obtain ⟨v', w', hr, hown, hg, hrow⟩ := run_append_row tyBytes w 90 (.slice none 0 0) 0 [] hO1.row ⟨ga, 0, none⟩ 1 1 [.int .u8 c] rfl hnews (by simp [Value.oneCell']) (by simp [maxLen]) (by simp)
    have hO2 := hO1.app hown hg hrow (Nat.le_refl _)
    obtain ⟨va, vc, rfl⟩ := row_slice hO2.row
    obtain ⟨gb, rfl⟩ := row_some hO2.row (by omega)
    refine ⟨_, w', mk.addv w' (.slice (some ⟨gb, 0, none⟩) (0 + 1) vc), hr, hO2.sealRow, Mem.le_addv hO2.free, .inr ⟨by simp, gb, vc, rfl, ?_, ?_, fun i hi => ?_⟩⟩
    · rcases hO2.row.2 with ⟨h, -⟩ | ⟨g', cap, cur, h, -, -, hnc, -⟩
      · cases h
      · injection h with h1 h2 h3; subst h3; simpa using hnc
    · rcases hO2.row.2 with ⟨h, -⟩ | ⟨g', cap, cur, h, -, -, -, hcm, -⟩
      · cases h
      · injection h with h1 h2 h3; subst h3; exact hcm
    · obtain rfl : i = 0 := by simp at hi; exact hi
      have := row_cell hO2.row (g := gb) rfl mk (j := 0) (u := .int .u8 c) rfl
      rw [this]
      simp only [List.nil_append, List.getElem_cons_zero]
      rw [hof]
  · obtain ⟨i, hi, hz, hs, hb⟩ := info_parts (P := Tryd.prog) (e := 5) (z := .int .u8 0) (size := 1) (bytes := 1) (by kernel_rfl)
    have holds : ∀ j x, (u.map fun b => Value.int .u8 b.toNat)[j]? = some x → w.cell? ((⟨g, 0, none⟩ : Addr).add j) = some x := by
      intro j x hj
      rw [Addr.add_lit, Nat.zero_add]
      have hjl : j < u.length := by
        have := (List.getElem?_eq_some_iff.1 hj).1
        simpa using this
      rw [Mem.cell_w hO.inn (h5 j hjl)]
      simp [hjl] at hj
      rw [← hj]
    have hr := run_append_grow (P := Tryd.prog) (w := w) 90 90 5 i (.int .u8 0) Tryd.underlying90 hi hz ⟨g, 0, none⟩ u.length u.length (u.map fun b => Value.int .u8 b.toNat) (by simp [hs]) holds ⟨ga, 0, none⟩ 1 1 [.int .u8 c] (by simp [hs]) hnews (by omega) (by omega) (growslice_fits (by omega) (by rw [hb]; omega))
    have hO1 := hO.dr.al ((u.map fun b => Value.int .u8 b.toNat).toArray ++ [Value.int .u8 c].toArray ++ Builtin.zeroCells (Value.int .u8 0).cells (grownCap w (u.length + 1) u.length 5 - (u.length + 1))) 5
    have hO2 := hO1.sealObj
    refine ⟨_, _, mk.add _ w.heap.size, hr, hO2, Mem.le_add hO1.objFree, .inr ⟨by simp, w.heap.size, grownCap w (u.length + 1) u.length 5, ?_, ?_, ?_, fun j hj => ?_⟩⟩
    · simp
    · simpa using grownCap_ge w _ _ _
    · exact grownCap_le_maxLen w _ _ _ (by unfold maxLen; omega)
    · refine Mem.add_cell hO1.obj ?_
      simp only [List.length_append, List.length_cons, List.length_nil] at hj
      by_cases hju : j < u.length
      · rw [Array.getElem?_append_left (by simp; omega), Array.getElem?_append_left (by simpa using hju)]
        simp [hju, List.getElem_append_left hju]
      · obtain rfl : j = u.length := by omega
        rw [Array.getElem?_append_left (by simp), Array.getElem?_append_right (by simp)]
        simp
        rw [← hof]; simp
theorem wp_append_run {P : Program} {w w' : World} {o : Oper} {a : Act} {K : Act → World → Prop} {Q : Exit → Act → World → Prop} (s x : Operand) (t : TypeId)
    (ho : o.op = .call { callee := .builtin .append, args := #[s, x], argTypes := #[t, t] }) {v v2 v' : Value} (hs : a.eval s = v) (hx : a.eval x = v2)
    (hr : (Builtin.append_ #[t, t] o.type #[v, v2]).run P w = .ok v' w') (h : K (a.put o.dst v') w') : o.wp P a w K Q := by
  unfold Oper.wp execOp
  simp only [ho, resolve, invoke, builtin, Sem.run_bind, Sem.run_pure, Result.andThen_ok, List.map_toArray, List.map_cons, List.map_nil, hs, hx, hr]
  exact h
end Cl
namespace Cl
open Go Go.RowKit Go.Proofs

def VisOK (T : Table) (w0 : World) (m mk0 : Mem) (B Bx : List (List UInt8) → List Item → Prop) (Lr : List Item) (gy ga gt gv n : Nat) : Prop :=
  ∀ (s : Nat) (u : List UInt8) (vp : Value) (pre : List (List UInt8)) (mk : Mem) (W : World) (Lt : List Item), s < T.length → wex T n s ≠ [] → u.length + n ≤ 1000000 → mk0.le mk → PrefAt mk vp u → B pre Lt → Own w0 m W mk (Lt ++ Lr) →
    Calls Tryd.prog 87 #[.int .i64 s, .int .i64 n, vp, .pointer (some ⟨gy, 0, none⟩), .pointer (some ⟨ga, 0, none⟩), .pointer (some ⟨gt, 0, none⟩), .pointer (some ⟨gv, 0, none⟩)] W (VisEnd w0 m mk B Bx Lr pre ((wex T n s).map (u ++ ·)))

theorem visit_zero {T : Table} {l : Nat} {w0 : World} {m mk0 : Mem} {B Bx : List (List UInt8) → List Item → Prop} {Lr : List Item} {gy ga gt gv tb ntab ctab : Nat} {va : Value} (hE : VisEnv T l w0 m mk0 B Bx Lr gy ga gt gv tb ntab ctab va) :
    VisOK T w0 m mk0 B Bx Lr gy ga gt gv 0 := by
  intro s u vp pre mk W Lt hs hne _ hle hp hB hO
  have : wex T 0 (s : Int) = [[]] := by
    unfold wex at hne ⊢
    split
    · rfl
    · rename_i h; rw [if_neg h] at hne; exact absurd rfl hne
  rw [this]
  simpa using visit_leaf hE s u vp pre mk W Lt hle hp hB hO

/-- what has been yielded when some edges and some bytes are through -/
def doneW (T : Table) (n : Nat) (u : List UInt8) (es : List Ed) (i : Nat) (e : Ed) (b : Nat) : List (List UInt8) := (esW T n (es.take i) ++ edW T n e.to e.lo (b - e.lo)).map (u ++ ·)
theorem doneW_next (T : Table) (n : Nat) (u : List UInt8) (es : List Ed) (i : Nat) (e : Ed) (b : Nat) (h : e.lo ≤ b) :
    doneW T n u es i e (b + 1) = doneW T n u es i e b ++ (wex T n e.to).map ((u ++ [UInt8.ofNat b]) ++ ·) := by
  unfold doneW
  rw [show b + 1 - e.lo = (b - e.lo) + 1 by omega, edW_succ, ← List.append_assoc, List.map_append, show e.lo + (b - e.lo) = b by omega]
  congr 1
  unfold byteW
  rw [List.map_map]
  apply List.map_congr_left
  intro x _
  simp
theorem doneW_pre {T : Table} {n : Nat} {u : List UInt8} {es : List Ed} {i : Nat} (h : i < es.length) {b : Nat} (h2 : b ≤ (es[i]).hi) : doneW T n u es i es[i] (b + 1) <+: (esW T n es).map (u ++ ·) := by
  unfold doneW
  have h1 : esW T n (es.take i) ++ edW T n (es[i]).to (es[i]).lo (b + 1 - (es[i]).lo) <+: esW T n es := by
    have a1 : edW T n (es[i]).to (es[i]).lo (b + 1 - (es[i]).lo) <+: edW T n (es[i]).to (es[i]).lo ((es[i]).hi + 1 - (es[i]).lo) := by
      unfold edW
      have := List.range'_append_1 (s := (es[i]).lo) (m := b + 1 - (es[i]).lo) (n := ((es[i]).hi + 1 - (es[i]).lo) - (b + 1 - (es[i]).lo))
      rw [show (b + 1 - (es[i]).lo) + (((es[i]).hi + 1 - (es[i]).lo) - (b + 1 - (es[i]).lo)) = (es[i]).hi + 1 - (es[i]).lo by omega] at this
      rw [← this, List.flatMap_append]
      exact List.prefix_append _ _
    have a2 : esW T n (es.take (i + 1)) <+: esW T n es := by
      unfold esW
      conv => rhs; rw [← List.take_append_drop (i + 1) es, List.flatMap_append]
      exact List.prefix_append _ _
    rw [esW_take T n es h] at a2
    exact ((List.prefix_append_right_inj _).2 a1).trans a2
  exact h1.map _
theorem doneW_last {T : Table} {n : Nat} {u : List UInt8} {es : List Ed} {i : Nat} (h : i < es.length) {b : Nat} (hx : b = (es[i]).hi + 1 ∨ wex T n (es[i]).to = []) : doneW T n u es i es[i] b = (esW T n (es.take (i + 1))).map (u ++ ·) := by
  unfold doneW
  rw [esW_take T n es h]
  rcases hx with rfl | hx
  · rfl
  · rw [edW_nil hx, edW_nil hx]

set_option maxRecDepth 100000 in
set_option maxHeartbeats 8000000 in
theorem visit_step {T : Table} {l : Nat} {w0 : World} {m mk0 : Mem} {B Bx : List (List UInt8) → List Item → Prop} {Lr : List Item} {gy ga gt gv tb ntab ctab : Nat} {va : Value} (hE : VisEnv T l w0 m mk0 B Bx Lr gy ga gt gv tb ntab ctab va)
    (hwf : WF T) (hby : Bytes T) (n : Nat) (hn : n < ntab) (ih : VisOK T w0 m mk0 B Bx Lr gy ga gt gv n) : VisOK T w0 m mk0 B Bx Lr gy ga gt gv (n + 1) := by
  intro s u vp pre mk W Lt hs _ hun hle hp hB hO
  have hE0 := hE
  have hm0 := Mem.inn_le hle hO.inn
  have ha := Mem.cell_w hm0 hE.ca
  have hal := Mem.cell_lt hm0 hE.ca
  obtain ⟨aa, ac, rfl, a1, a2, a3⟩ := hE.tab
  obtain ⟨ab, ao, rfl, a4⟩ := a3 (by intro h; simp [h] at hs)
  obtain ⟨-, ve, s2, ea, ec, rfl, g4, g5, g6⟩ := a4 s hs
  have s2w := Mem.cell_w hm0 s2
  have s2l := Mem.cell_lt hm0 s2
  have Hex := Lib.hid (wex_esW hwf hby hs n)
  have hwfs := hwf T[s] (List.getElem_mem hs)
  have hbys := hby T[s] (List.getElem_mem hs)
  generalize T[s].edges = es at *
  have HW := Lib.hid (And.intro hwfs hbys)
  have HE := Lib.hid hE0
  have HIH := Lib.hid ih
  have HO := Lib.hid (And.intro hO hB)
  have Hle := Lib.hid hle
  have Hp := Lib.hid hp
  unfold maxLen at a2 g5
  have hdec : ((n : Int) + 1 == 0) = false := beq_eq_false_iff_ne.2 (by omega)
  rw [Hex.out]
  refine calls_hide fun R hR => ?_
  clear hE hE0 ih hO hB hle a3 a4 hwfs hbys hm0 s2 hp hwf hby
  rw [show ((n + 1 : Nat) : Int) = (n : Int) + 1 by omega]
  go_enter Tryd.func87, Tryd.ntmps87
  go_wp2
  refine wp_loop_keep [0, 1, 2, 3, 4, 5, 6, 25, 26, 27] (fun q vs W1 => ∃ (i : Nat) (mk1 : Mem) (Lt1 : List Item), i ≤ es.length ∧ q = es.length - i ∧
    vs = [.int .i64 s, .int .i64 ((n : Int) + 1), vp, .pointer (some ⟨gy, 0, none⟩), .pointer (some ⟨ga, 0, none⟩), .pointer (some ⟨gt, 0, none⟩), .pointer (some ⟨gv, 0, none⟩), .slice ea es.length ec, .int .i64 es.length, .int .i64 i] ∧
    mk.le mk1 ∧ B (pre ++ (esW T n (es.take i)).map (u ++ ·)) Lt1 ∧ Own w0 m W1 mk1 (Lt1 ++ Lr)) ?_ ?_
  · exact ⟨_, 0, mk, Lt, Nat.zero_le _, rfl, rfl, Mem.le_refl _, by simpa [esW] using HO.out.2, HO.out.1⟩
  clear HO s2w s2l ha hal
  rintro X z q vs W1 hX - ⟨i, mk1, Lt1, hi, rfl, rfl, hle1, hB1, hO1⟩
  simp [litL, lk]
  have hm1 := Mem.inn_le (Mem.le_trans Hle.out hle1) hO1.inn
  by_cases hlt : i < es.length
  · obtain ⟨eb, eo, rfl, g7⟩ := g6 (by intro h; simp [h] at hlt)
    obtain ⟨e1, e2, e3, e4, e5, e6⟩ := g7 i hlt
    have e1w := Mem.cell_w hm1 e1
    have e2w := Mem.cell_w hm1 e2
    have e3w := Mem.cell_w hm1 e3
    have el := Mem.cell_lt hm1 e1
    have hlh := wfEdges_lohi HW.out.1 es[i] (List.getElem_mem hlt)
    have HDp := Lib.hid (fun b (hb : b ≤ (es[i]).hi) => doneW_pre (T := T) (n := n) (u := u) hlt hb)
    have HDl := Lib.hid (fun b (hx : b = (es[i]).hi + 1 ∨ wex T n (es[i]).to = []) => doneW_last (T := T) (n := n) (u := u) hlt (b := b) hx)
    have HDn := Lib.hid (fun b (hb : (es[i]).lo ≤ b) => doneW_next T n u es i es[i] b hb)
    have hD0 : doneW T n u es i es[i] (es[i]).lo = (esW T n (es.take i)).map (u ++ ·) := by
      unfold doneW; rw [Nat.sub_self, edW_zero, List.append_nil]
    rw [← hD0] at hB1
    clear hD0
    generalize es[i] = e at *
    generalize hDD : doneW T n u es i e = DD at *
    clear hDD
    have hO2 := (hO1.al #[.int .u8 e.lo, .int .u8 e.hi, .int .i64 e.to] 51)
    have hO3 := hO2.sealObj
    have hle2 := Mem.le_trans hle1 (Mem.le_add (w := W1.alloc (.cells #[.int .u8 e.lo, .int .u8 e.hi, .int .i64 e.to] 51)) hO2.objFree)
    have x1 := Mem.add_cell (m := mk1) hO2.obj (i := 0) rfl
    have x2 := Mem.add_cell (m := mk1) hO2.obj (i := 1) rfl
    have x3 := Mem.add_cell (m := mk1) hO2.obj (i := 2) rfl
    have Hk := Lib.hid (And.intro hO3 (And.intro hle2 hB1))
    obtain ⟨t, ht⟩ := Int.eq_ofNat_of_zero_le hlh.2.1
    have htl : t < T.length := by omega
    have Ht := Lib.hid ht
    clear hO2 hO3 hO1 hB1 hle2 ht hm1
    go_wp2
    generalize W1.heap.size = E at *
    generalize mk1.add (W1.alloc (.cells #[.int .u8 e.lo, .int .u8 e.hi, .int .i64 e.to] 51)) E = mk2 at *
    refine wp_loop_keep [0, 1, 2, 3, 4, 5, 6, 12, 13, 25, 26, 27] (fun q vs W2 => ∃ (b : Nat) (mk3 : Mem) (Lt3 : List Item), e.lo ≤ b ∧ b ≤ e.hi + 1 ∧ q = e.hi + 1 - b ∧
      vs = [.int .i64 s, .int .i64 ((n : Int) + 1), vp, .pointer (some ⟨gy, 0, none⟩), .pointer (some ⟨ga, 0, none⟩), .pointer (some ⟨gt, 0, none⟩), .pointer (some ⟨gv, 0, none⟩), .pointer (some ⟨E, 0, none⟩), .int .i64 b, .slice (some ⟨eb, eo, none⟩) es.length ec, .int .i64 es.length, .int .i64 i] ∧
      mk2.le mk3 ∧ B (pre ++ DD b) Lt3 ∧ Own w0 m W2 mk3 (Lt3 ++ Lr)) ?_ ?_
    · exact ⟨_, e.lo, mk2, Lt1, Nat.le_refl _, by omega, rfl, rfl, Mem.le_refl _, Hk.out.2.2, Hk.out.1⟩
    clear e1w e2w e3w el
    rintro Y z2 q vs W2 hY - ⟨b, mk3, Lt3, hb1, hb2, rfl, rfl, hle3, hB3, hO3⟩
    simp [litL, lk]
    have hm3 := hO3.inn
    have y1 := Mem.cell_w hm3 (Mem.cell_le hle3 x1)
    have y2 := Mem.cell_w hm3 (Mem.cell_le hle3 x2)
    have y3 := Mem.cell_w hm3 (Mem.cell_le hle3 x3)
    simp only [List.getElem_toArray, List.getElem_cons_succ, List.getElem_cons_zero] at y3
    rw [Ht.out] at y3
    have yl := Mem.cell_lt hm3 (Mem.cell_le hle3 x1)
    have hle03 := Mem.le_trans (Mem.le_trans Hle.out Hk.out.2.1) hle3
    have hct := Mem.cell_w hm3 (Mem.cell_le hle03 HE.out.ct)
    have hctl := Mem.cell_lt hm3 (Mem.cell_le hle03 HE.out.ct)
    obtain ⟨ur, hur, ra, rc, rfl, r2, r3, r4⟩ := HE.out.rows _ _ _ hO3 n hn
    have hcl := canN_len T n
    obtain ⟨rb, ro, rfl, r5⟩ := r4 (by intro h; rw [h] at hcl; simp at hcl; omega)
    have hcn : t < (canN T n).length := by omega
    have z1 := r5 t hcn
    have z1w := Mem.cell_w hm3 (Mem.cell_le hle03 z1)
    have z1l := Mem.cell_lt hm3 (Mem.cell_le hle03 z1)
    have hurl : tb < W2.heap.size := by
      simp only [World.cell?] at hur
      split at hur
      · rename_i hb; exact (Array.getElem?_eq_some_iff.1 hb).1
      · cases hur
    have hcv : (canN T n)[t] = true ↔ wex T n (t : Int) ≠ [] := by
      have h1 := canN_get T n htl
      rw [List.getElem?_eq_getElem hcn] at h1
      rw [Option.some.inj h1]
      simp
    have Hcv := Lib.hid hcv
    obtain ⟨cb, hcb⟩ : ∃ cb, (canN T n)[t] = cb := ⟨_, rfl⟩
    rw [hcb] at z1w
    have Hcb := Lib.hid hcb
    have hw1 : IntKind.i64.wrap ((n : Int) + 1 - 1) = (n : Int) := by rw [IntWalk.i64_in _ (by omega)]; omega
    have hcl2 : T.length ≤ (canN T n).length := by omega
    have Hst := Lib.hid (And.intro hB3 (And.intro hO3 (And.intro hle3 hle03)))
    have hnt := HE.out.ntab
    unfold maxLen at r3 hnt
    generalize canN T n = cl at *
    clear hcl hcv hcb z1 r4 r5 hB3 hO3 hle03
    go_wp2
    refine wp_cut_keep [0, 1, 2, 3, 4, 5, 6, 12, 13, 25, 26, 27, 49] (fun vs w' => ∃ (bb : Bool) (nq : Nat), vs = [.int .i64 s, .int .i64 ((n : Int) + 1), vp, .pointer (some ⟨gy, 0, none⟩), .pointer (some ⟨ga, 0, none⟩), .pointer (some ⟨gt, 0, none⟩), .pointer (some ⟨gv, 0, none⟩), .pointer (some ⟨E, 0, none⟩), .int .i64 b, .slice (some ⟨eb, eo, none⟩) es.length ec, .int .i64 es.length, .int .i64 i, .bool bb] ∧
      w' = W2.drewN nq ∧ (bb = true → b ≤ e.hi ∧ wex T n (t : Int) ≠ []) ∧ (bb = false → b = e.hi + 1 ∨ wex T n (t : Int) = [])) ?_ ?_
    · intro V hV
      by_cases hbh : b ≤ e.hi
      · have hdb : decide ((b : Int) ≤ (e.hi : Int)) = true := decide_eq_true (by omega)
        refine wp_region_quiet_lit (by kernel_rfl) (by kernel_rfl) ?_
        repeat (any_goals (first | go_big_quiet_step (fail) | quiet_step (fail) | (refine wpQuiet_step (fun K hK => ?_); go_simp; split <;> (refine hK _ ?_; clear hK K))))
        all_goals (refine wpQuiet_nil ?_; intro _ hw'; obtain ⟨nq, hw''⟩ := hw'; subst hw'')
        all_goals go_wp2
        all_goals
          refine hV.out _ _ rfl ⟨cb, nq, rfl, rfl, fun h => ⟨hbh, Hcv.out.1 (Hcb.out.trans h)⟩, fun h => .inr (Classical.byContradiction fun hx => ?_)⟩
          have := Hcv.out.2 hx
          rw [Hcb.out, h] at this; cases this
      · have hdb : decide ((b : Int) ≤ (e.hi : Int)) = false := decide_eq_false (by omega)
        refine wp_region_quiet_lit (by kernel_rfl) (by kernel_rfl) ?_
        repeat (any_goals (first | go_big_quiet_step (fail) | quiet_step (fail) | (refine wpQuiet_step (fun K hK => ?_); go_simp; split <;> (refine hK _ ?_; clear hK K))))
        all_goals (refine wpQuiet_nil ?_; intro _ hw'; obtain ⟨nq, hw''⟩ := hw'; subst hw'')
        all_goals go_wp2
        all_goals exact hV.out _ _ rfl ⟨false, nq, rfl, rfl, (fun h => by cases h), fun _ => .inl (by omega)⟩
    rintro z3 vs w3 - ⟨bb, nq, rfl, rfl, hbt, hbf⟩
    simp [litL, lk]
    cases bb with
    | false =>
      have Hbf := Lib.hid (hbf rfl)
      clear hbt hbf
      go_wp2
      refine hX.out _ _ _ (by omega) rfl ⟨i + 1, mk3, Lt3, by omega, rfl, rfl, Mem.le_trans Hk.out.2.1 Hst.out.2.2.1, ?_, Hst.out.2.1.drN nq⟩
      rw [← HDl.out b (by rw [Ht.out]; exact Hbf.out)]
      exact Hst.out.1
    | true =>
      have Hbt := Lib.hid (hbt rfl)
      clear hbt hbf
      go_wp2
      refine wp_cut_keep [0, 1, 2, 3, 4, 5, 6, 12, 13, 25, 26, 27, 68] (fun vs w' => ∃ (bb : Bool) (mk4 : Mem) (Lt4 : List Item), vs = [.int .i64 s, .int .i64 ((n : Int) + 1), vp, .pointer (some ⟨gy, 0, none⟩), .pointer (some ⟨ga, 0, none⟩), .pointer (some ⟨gt, 0, none⟩), .pointer (some ⟨gv, 0, none⟩), .pointer (some ⟨E, 0, none⟩), .int .i64 b, .slice (some ⟨eb, eo, none⟩) es.length ec, .int .i64 es.length, .int .i64 i, .bool bb] ∧
        mk3.le mk4 ∧ Own w0 m w' mk4 (Lt4 ++ Lr) ∧ (bb = false → B (pre ++ DD (b + 1)) Lt4) ∧ (bb = true → ∃ qq, qq ≠ [] ∧ qq <+: (wex T n e.to).map ((u ++ [UInt8.ofNat b]) ++ ·) ∧ Bx ((pre ++ DD b) ++ qq) Lt4)) ?_ ?_
      · intro V hV
        have hpp := Hp.out.le (Mem.le_trans Hk.out.2.1 Hst.out.2.2.1)
        obtain ⟨hbh, hne⟩ := Hbt.out
        have hwu : IntKind.u8.wrap (b : Int) = (b : Int) := IntWalk.u8_in _ (by omega)
        have hcvf := fun w' (h : mk3.inn w') => Mem.cell_w h (Mem.cell_le Hst.out.2.2.2 HE.out.cv)
        have hx3 := fun w' (h : mk3.inn w') => Mem.cell_w h (Mem.cell_le hle3 x3)
        simp only [List.getElem_toArray, List.getElem_cons_succ, List.getElem_cons_zero] at hx3
        rw [Ht.out] at hx3
        have hw2 : IntKind.i64.wrap (n : Int) = (n : Int) := IntWalk.i64_in _ (by omega)
        have Hcvf := Lib.hid hcvf
        have Hx3 := Lib.hid hx3
        clear hcvf hx3
        have hul : u.length ≤ 1000000 := by omega
        refine wp_region_D (fun _ w' => mk3.inn w') (by kernel_rfl) ?_
        have hO := (Hst.out.2.1.drN nq).dr
        have hS : mk3.inn (W2.drewN nq).drew := hO.inn
        have hxl := Mem.cell_lt hS (Mem.cell_le hle3 x3)
        generalize (W2.drewN nq).drew = w4 at *
        rcases hpp with ⟨hu, hv⟩ | ⟨hu, g, c, hv, hp3, hp4, hp5⟩
        · subst hv
          have hpf : PrefAt mk3 (.slice none 0 0) u := .inl ⟨hu, rfl⟩
          have hcut : cutV (.slice none 0 0) u = .slice none 0 0 := by simp [cutV, hu]
          clear hu
          refine wpAnyS_take 0 rfl (by kernel_rfl) (fun _ _ _ h => h) hS (yields_of rfl fun w' hS' => by have q := Hcvf.out _ hS'; have q1 := Hx3.out _ hS'; have q2 := Mem.cell_lt hS' (Mem.cell_le hle3 x3); have q3 := Mem.cell_lt hS' (Mem.cell_le Hst.out.2.2.2 HE.out.cv); go_simp; rfl) ?_
          refine wpAnyS_take 1 rfl (by kernel_rfl) (fun _ _ _ h => h) hS (yields_of rfl fun w' hS' => by have q := Hcvf.out _ hS'; have q1 := Hx3.out _ hS'; have q2 := Mem.cell_lt hS' (Mem.cell_le hle3 x3); have q3 := Mem.cell_lt hS' (Mem.cell_le Hst.out.2.2.2 HE.out.cv); go_simp; rfl) ?_
          refine wpAnyS_take 2 rfl (by kernel_rfl) (fun _ _ _ h => h) hS (yields_of rfl fun w' hS' => by have q := Hcvf.out _ hS'; have q1 := Hx3.out _ hS'; have q2 := Mem.cell_lt hS' (Mem.cell_le hle3 x3); have q3 := Mem.cell_lt hS' (Mem.cell_le Hst.out.2.2.2 HE.out.cv); go_simp; rfl) ?_
          refine wpAnyS_take 3 rfl (by kernel_rfl) (fun _ _ _ h => h) hS (yields_of rfl fun w' hS' => by have q := Hcvf.out _ hS'; have q1 := Hx3.out _ hS'; have q2 := Mem.cell_lt hS' (Mem.cell_le hle3 x3); have q3 := Mem.cell_lt hS' (Mem.cell_le Hst.out.2.2.2 HE.out.cv); go_simp; rfl) ?_
          refine wpAnyS_take 4 rfl (by kernel_rfl) (fun _ _ _ h => h) hS (yields_of rfl fun w' hS' => by have q := Hcvf.out _ hS'; have q1 := Hx3.out _ hS'; have q2 := Mem.cell_lt hS' (Mem.cell_le hle3 x3); have q3 := Mem.cell_lt hS' (Mem.cell_le Hst.out.2.2.2 HE.out.cv); go_simp; rfl) ?_
          refine wpAnyS_take 5 rfl (by kernel_rfl) (fun _ _ _ h => h) hS (yields_of rfl fun w' hS' => by have q := Hcvf.out _ hS'; have q1 := Hx3.out _ hS'; have q2 := Mem.cell_lt hS' (Mem.cell_le hle3 x3); have q3 := Mem.cell_lt hS' (Mem.cell_le Hst.out.2.2.2 HE.out.cv); go_simp; rfl) ?_
          refine wpAnyS_take 6 rfl (by kernel_rfl) (fun _ _ _ h => h) hS (yields_of rfl fun w' hS' => by have q := Hcvf.out _ hS'; have q1 := Hx3.out _ hS'; have q2 := Mem.cell_lt hS' (Mem.cell_le hle3 x3); have q3 := Mem.cell_lt hS' (Mem.cell_le Hst.out.2.2.2 HE.out.cv); go_simp; rfl) ?_
          refine wpAnyS_take 7 rfl (by kernel_rfl) (fun _ _ _ h => h) hS (yields_of rfl fun w' hS' => by have q := Hcvf.out _ hS'; have q1 := Hx3.out _ hS'; have q2 := Mem.cell_lt hS' (Mem.cell_le hle3 x3); have q3 := Mem.cell_lt hS' (Mem.cell_le Hst.out.2.2.2 HE.out.cv); go_simp; rfl) ?_
          refine wpAnyS_take 8 rfl (by kernel_rfl) (fun _ _ _ h => h) hS (yields_of rfl fun w' hS' => by have q := Hcvf.out _ hS'; have q1 := Hx3.out _ hS'; have q2 := Mem.cell_lt hS' (Mem.cell_le hle3 x3); have q3 := Mem.cell_lt hS' (Mem.cell_le Hst.out.2.2.2 HE.out.cv); go_simp; rfl) ?_
          refine wpAnyS_take 9 rfl (by kernel_rfl) (fun _ _ _ h => h) hS (yields_of rfl fun w' hS' => by have q := Hcvf.out _ hS'; have q1 := Hx3.out _ hS'; have q2 := Mem.cell_lt hS' (Mem.cell_le hle3 x3); have q3 := Mem.cell_lt hS' (Mem.cell_le Hst.out.2.2.2 HE.out.cv); go_simp; rfl) ?_
          refine wpAnyS_take 10 rfl (by kernel_rfl) (fun _ _ _ h => h) hS (yields_of rfl fun w' hS' => by have q := Hcvf.out _ hS'; have q1 := Hx3.out _ hS'; have q2 := Mem.cell_lt hS' (Mem.cell_le hle3 x3); have q3 := Mem.cell_lt hS' (Mem.cell_le Hst.out.2.2.2 HE.out.cv); go_simp; rfl) ?_
          refine wpAnyS_take 11 rfl (by kernel_rfl) (fun _ _ _ h => h) hS (yields_of rfl fun w' hS' => by have q := Hcvf.out _ hS'; have q1 := Hx3.out _ hS'; have q2 := Mem.cell_lt hS' (Mem.cell_le hle3 x3); have q3 := Mem.cell_lt hS' (Mem.cell_le Hst.out.2.2.2 HE.out.cv); go_simp; rfl) ?_
          refine wpAnyS_take 12 rfl (by kernel_rfl) (fun _ _ _ h => h) hS (yields_of rfl fun w' hS' => by have q := Hcvf.out _ hS'; have q1 := Hx3.out _ hS'; have q2 := Mem.cell_lt hS' (Mem.cell_le hle3 x3); have q3 := Mem.cell_lt hS' (Mem.cell_le Hst.out.2.2.2 HE.out.cv); go_simp; rfl) ?_
          refine wpAnyD_only 13 (by kernel_rfl) (wpOp_of rfl rfl (wp_value (by go_simp; first | exact ⟨rfl, rfl⟩ | rfl) ⟨.inr (hO.al #[.int .u8 b] 5).inn, ?_⟩))
          go_simp
          have hO6 := hO.al #[.int .u8 b] 5
          obtain ⟨v', w6, mk4, hr, hO7, hle7, hpf7⟩ := run_push_byte hpf (by omega : b < 256) hO6 w4.heap.size (hO6.obj.cell (i := 0) rfl) hul
          rw [hcut] at hr
          refine wpAnyD_only 14 (by kernel_rfl) (wpOp_of rfl rfl (wp_append_run (.tmp 62) (.tmp 65) 90 rfl rfl rfl hr ⟨.inr (Mem.inn_le hle7 hO7.inn), ?_⟩))
          go_simp
          have hIH := HIH.out t (u ++ [UInt8.ofNat b]) v' (pre ++ DD b) mk4 w6 Lt3 htl hne (by simp; omega) (Mem.le_trans Hst.out.2.2.2 hle7) hpf7 Hst.out.1 (hO7.perm (List.Perm.refl _)).tail
          refine wpAnyD_only 15 (by kernel_rfl) (wpOp_of rfl rfl (wp_enter (by go_simp) hIH ?_))
          rintro e' w7 (⟨rfl, mk5, Lt5, k1, k2, k3⟩ | ⟨rfl, qq, mk5, Lt5, k0, k1, k2, k3, k4⟩)
          · refine ⟨_, rfl, .inr (Mem.inn_le (Mem.le_trans hle7 k3) k2.inn), ?_⟩
            go_simp
            refine wpAnyD_only 16 (by kernel_rfl) (wpOp_of rfl rfl (wp_value (by go_simp; first | done | exact ⟨rfl, rfl⟩ | rfl) ⟨.inl rfl, ?_⟩))
            refine wpAnyD_done (by kernel_rfl) ?_ _
            refine hV.out _ _ rfl ⟨false, mk5, Lt5, rfl, Mem.le_trans hle7 k3, k2, fun _ => ?_, fun h => by cases h⟩
            rw [HDn.out b hb1, ← List.append_assoc, Ht.out]; exact k1
          · refine ⟨_, rfl, .inr (Mem.inn_le (Mem.le_trans hle7 k4) k3.inn), ?_⟩
            go_simp
            refine wpAnyD_only 16 (by kernel_rfl) (wpOp_of rfl rfl (wp_value (by go_simp; first | done | exact ⟨rfl, rfl⟩ | rfl) ⟨.inl rfl, ?_⟩))
            refine wpAnyD_done (by kernel_rfl) ?_ _
            exact hV.out _ _ rfl ⟨true, mk5, Lt5, rfl, Mem.le_trans hle7 k4, k3, (fun h => by cases h), fun _ => ⟨qq, k0, by rw [Ht.out]; exact k1, k2⟩⟩
        · subst hv
          have hpf : PrefAt mk3 (.slice (some ⟨g, 0, none⟩) u.length c) u := .inr ⟨hu, g, c, rfl, hp3, hp4, hp5⟩
          have hcut : cutV (.slice (some ⟨g, 0, none⟩) u.length c) u = .slice (some ⟨g, 0, none⟩) u.length u.length := rfl
          have hu2 : 0 < u.length := List.length_pos_iff.2 hu
          unfold maxLen at hp4
          clear hu hp5
          refine wpAnyS_take 0 rfl (by kernel_rfl) (fun _ _ _ h => h) hS (yields_of rfl fun w' hS' => by have q := Hcvf.out _ hS'; have q1 := Hx3.out _ hS'; have q2 := Mem.cell_lt hS' (Mem.cell_le hle3 x3); have q3 := Mem.cell_lt hS' (Mem.cell_le Hst.out.2.2.2 HE.out.cv); go_simp; rfl) ?_
          refine wpAnyS_take 1 rfl (by kernel_rfl) (fun _ _ _ h => h) hS (yields_of rfl fun w' hS' => by have q := Hcvf.out _ hS'; have q1 := Hx3.out _ hS'; have q2 := Mem.cell_lt hS' (Mem.cell_le hle3 x3); have q3 := Mem.cell_lt hS' (Mem.cell_le Hst.out.2.2.2 HE.out.cv); go_simp; rfl) ?_
          refine wpAnyS_take 2 rfl (by kernel_rfl) (fun _ _ _ h => h) hS (yields_of rfl fun w' hS' => by have q := Hcvf.out _ hS'; have q1 := Hx3.out _ hS'; have q2 := Mem.cell_lt hS' (Mem.cell_le hle3 x3); have q3 := Mem.cell_lt hS' (Mem.cell_le Hst.out.2.2.2 HE.out.cv); go_simp; rfl) ?_
          refine wpAnyS_take 3 rfl (by kernel_rfl) (fun _ _ _ h => h) hS (yields_of rfl fun w' hS' => by have q := Hcvf.out _ hS'; have q1 := Hx3.out _ hS'; have q2 := Mem.cell_lt hS' (Mem.cell_le hle3 x3); have q3 := Mem.cell_lt hS' (Mem.cell_le Hst.out.2.2.2 HE.out.cv); go_simp; rfl) ?_
          refine wpAnyS_take 4 rfl (by kernel_rfl) (fun _ _ _ h => h) hS (yields_of rfl fun w' hS' => by have q := Hcvf.out _ hS'; have q1 := Hx3.out _ hS'; have q2 := Mem.cell_lt hS' (Mem.cell_le hle3 x3); have q3 := Mem.cell_lt hS' (Mem.cell_le Hst.out.2.2.2 HE.out.cv); go_simp; rfl) ?_
          refine wpAnyS_take 5 rfl (by kernel_rfl) (fun _ _ _ h => h) hS (yields_of rfl fun w' hS' => by have q := Hcvf.out _ hS'; have q1 := Hx3.out _ hS'; have q2 := Mem.cell_lt hS' (Mem.cell_le hle3 x3); have q3 := Mem.cell_lt hS' (Mem.cell_le Hst.out.2.2.2 HE.out.cv); go_simp; rfl) ?_
          refine wpAnyS_take 6 rfl (by kernel_rfl) (fun _ _ _ h => h) hS (yields_of rfl fun w' hS' => by have q := Hcvf.out _ hS'; have q1 := Hx3.out _ hS'; have q2 := Mem.cell_lt hS' (Mem.cell_le hle3 x3); have q3 := Mem.cell_lt hS' (Mem.cell_le Hst.out.2.2.2 HE.out.cv); go_simp; rfl) ?_
          refine wpAnyS_take 7 rfl (by kernel_rfl) (fun _ _ _ h => h) hS (yields_of rfl fun w' hS' => by have q := Hcvf.out _ hS'; have q1 := Hx3.out _ hS'; have q2 := Mem.cell_lt hS' (Mem.cell_le hle3 x3); have q3 := Mem.cell_lt hS' (Mem.cell_le Hst.out.2.2.2 HE.out.cv); go_simp; rfl) ?_
          refine wpAnyS_take 8 rfl (by kernel_rfl) (fun _ _ _ h => h) hS (yields_of rfl fun w' hS' => by have q := Hcvf.out _ hS'; have q1 := Hx3.out _ hS'; have q2 := Mem.cell_lt hS' (Mem.cell_le hle3 x3); have q3 := Mem.cell_lt hS' (Mem.cell_le Hst.out.2.2.2 HE.out.cv); go_simp; rfl) ?_
          refine wpAnyS_take 9 rfl (by kernel_rfl) (fun _ _ _ h => h) hS (yields_of rfl fun w' hS' => by have q := Hcvf.out _ hS'; have q1 := Hx3.out _ hS'; have q2 := Mem.cell_lt hS' (Mem.cell_le hle3 x3); have q3 := Mem.cell_lt hS' (Mem.cell_le Hst.out.2.2.2 HE.out.cv); go_simp; rfl) ?_
          refine wpAnyS_take 10 rfl (by kernel_rfl) (fun _ _ _ h => h) hS (yields_of rfl fun w' hS' => by have q := Hcvf.out _ hS'; have q1 := Hx3.out _ hS'; have q2 := Mem.cell_lt hS' (Mem.cell_le hle3 x3); have q3 := Mem.cell_lt hS' (Mem.cell_le Hst.out.2.2.2 HE.out.cv); go_simp; rfl) ?_
          refine wpAnyS_take 11 rfl (by kernel_rfl) (fun _ _ _ h => h) hS (yields_of rfl fun w' hS' => by have q := Hcvf.out _ hS'; have q1 := Hx3.out _ hS'; have q2 := Mem.cell_lt hS' (Mem.cell_le hle3 x3); have q3 := Mem.cell_lt hS' (Mem.cell_le Hst.out.2.2.2 HE.out.cv); go_simp; rfl) ?_
          refine wpAnyS_take 12 rfl (by kernel_rfl) (fun _ _ _ h => h) hS (yields_of rfl fun w' hS' => by have q := Hcvf.out _ hS'; have q1 := Hx3.out _ hS'; have q2 := Mem.cell_lt hS' (Mem.cell_le hle3 x3); have q3 := Mem.cell_lt hS' (Mem.cell_le Hst.out.2.2.2 HE.out.cv); go_simp; rfl) ?_
          refine wpAnyD_only 13 (by kernel_rfl) (wpOp_of rfl rfl (wp_value (by go_simp; first | exact ⟨rfl, rfl⟩ | rfl) ⟨.inr (hO.al #[.int .u8 b] 5).inn, ?_⟩))
          go_simp
          have hO6 := hO.al #[.int .u8 b] 5
          obtain ⟨v', w6, mk4, hr, hO7, hle7, hpf7⟩ := run_push_byte hpf (by omega : b < 256) hO6 w4.heap.size (hO6.obj.cell (i := 0) rfl) hul
          rw [hcut] at hr
          refine wpAnyD_only 14 (by kernel_rfl) (wpOp_of rfl rfl (wp_append_run (.tmp 62) (.tmp 65) 90 rfl rfl rfl hr ⟨.inr (Mem.inn_le hle7 hO7.inn), ?_⟩))
          go_simp
          have hIH := HIH.out t (u ++ [UInt8.ofNat b]) v' (pre ++ DD b) mk4 w6 Lt3 htl hne (by simp; omega) (Mem.le_trans Hst.out.2.2.2 hle7) hpf7 Hst.out.1 (hO7.perm (List.Perm.refl _)).tail
          refine wpAnyD_only 15 (by kernel_rfl) (wpOp_of rfl rfl (wp_enter (by go_simp) hIH ?_))
          rintro e' w7 (⟨rfl, mk5, Lt5, k1, k2, k3⟩ | ⟨rfl, qq, mk5, Lt5, k0, k1, k2, k3, k4⟩)
          · refine ⟨_, rfl, .inr (Mem.inn_le (Mem.le_trans hle7 k3) k2.inn), ?_⟩
            go_simp
            refine wpAnyD_only 16 (by kernel_rfl) (wpOp_of rfl rfl (wp_value (by go_simp; first | done | exact ⟨rfl, rfl⟩ | rfl) ⟨.inl rfl, ?_⟩))
            refine wpAnyD_done (by kernel_rfl) ?_ _
            refine hV.out _ _ rfl ⟨false, mk5, Lt5, rfl, Mem.le_trans hle7 k3, k2, fun _ => ?_, fun h => by cases h⟩
            rw [HDn.out b hb1, ← List.append_assoc, Ht.out]; exact k1
          · refine ⟨_, rfl, .inr (Mem.inn_le (Mem.le_trans hle7 k4) k3.inn), ?_⟩
            go_simp
            refine wpAnyD_only 16 (by kernel_rfl) (wpOp_of rfl rfl (wp_value (by go_simp; first | done | exact ⟨rfl, rfl⟩ | rfl) ⟨.inl rfl, ?_⟩))
            refine wpAnyD_done (by kernel_rfl) ?_ _
            exact hV.out _ _ rfl ⟨true, mk5, Lt5, rfl, Mem.le_trans hle7 k4, k3, (fun h => by cases h), fun _ => ⟨qq, k0, by rw [Ht.out]; exact k1, k2⟩⟩
      rintro z5 vs w5 - ⟨bb, mk4, Lt4, rfl, hle4, hO4, hB4, hX4⟩
      simp [litL, lk]
      cases bb with
      | true =>
        obtain ⟨qq, hq1, hq2, hq3⟩ := hX4 rfl
        have Hq := Lib.hid (And.intro hq1 (And.intro hq2 (And.intro hq3 (And.intro hO4 hle4))))
        clear hX4 hB4 hq1 hq2 hq3 hO4 hle4 y1 y2 y3 hct z1w hur
        go_wp2
        refine hR.out _ _ (.inr ⟨rfl, DD b ++ qq, mk4, Lt4, ?_, ?_, ?_, Hq.out.2.2.2.1, Mem.le_trans (Mem.le_trans Hk.out.2.1 Hst.out.2.2.1) Hq.out.2.2.2.2⟩)
        · intro h; exact Hq.out.1 (List.append_eq_nil_iff.1 h).2
        · have h1 := HDp.out b Hbt.out.1
          rw [HDn.out b hb1] at h1
          exact ((List.prefix_append_right_inj _).2 Hq.out.2.1).trans h1
        · rw [← List.append_assoc]; exact Hq.out.2.2.1
      | false =>
        have hB5 := hB4 rfl
        have Hq := Lib.hid (And.intro hB5 (And.intro hO4 hle4))
        clear hX4 hB4 hB5 hO4 hle4 y1 y2 y3 hct z1w hur
        go_wp2
        exact hY.out _ _ _ (by have := Hbt.out.1; omega) rfl ⟨b + 1, mk4, Lt4, by omega, by have := Hbt.out.1; omega, rfl, rfl, Mem.le_trans Hst.out.2.2.1 Hq.out.2.2, Hq.out.1, Hq.out.2.1⟩
  · obtain rfl : i = es.length := by omega
    rw [List.take_length] at hB1
    have Hq := Lib.hid (And.intro hB1 (And.intro hO1 hle1))
    clear hB1 hO1 hle1
    go_wp2
    exact hR.out _ _ (.inl ⟨rfl, mk1, Lt1, Hq.out.1, Hq.out.2.1, Hq.out.2.2⟩)
end Cl
/- Operations that wait through others. -/
namespace Cl
open Go

section
variable {P : Program} {ops : Array Oper} {Q : Exit → Act → World → Prop} {D : Nat → World → Prop}

/-- does number j wait for number i, be it through others? -/
def waitsT (ops : Array Oper) : Nat → Nat → Nat → Bool
  | 0, _, _ => false
  | n + 1, j, i => ((ops[j]?).map fun o => o.after.any fun e => Region.binds .any e && (e.on == i || waitsT ops n e.on i)).getD false
def closedL (ops : Array Oper) (listed : Array Bool) : Bool :=
  (List.range ops.size).all fun k => !(listed.getD k true) || ((ops[k]?).map fun o => o.after.all fun e => !(Region.binds .any e) || listed.getD e.on true).getD true
theorem closedL_spec {listed : Array Bool} (h : closedL ops listed = true) {k : Nat} {ok : Oper} (hk : ops[k]? = some ok) (hl : listed.getD k true = true) : ∀ e ∈ ok.after, Region.binds .any e = true → listed.getD e.on true = true := by
  intro e he hb
  have hks := (Array.getElem?_eq_some_iff.1 hk).1
  have h1 := List.all_eq_true.1 h k (List.mem_range.2 hks)
  rw [hl, hk] at h1
  simp only [Bool.not_true, Bool.false_or, Option.map_some, Option.getD_some] at h1
  have h2 := (Array.all_eq_true_iff_forall_mem.1 h1) e he
  rw [hb] at h2
  simpa using h2
theorem waits_listed {listed : Array Bool} (hc : ∀ k ok, ops[k]? = some ok → listed.getD k true = true → ∀ e ∈ ok.after, Region.binds .any e = true → listed.getD e.on true = true) {i : Nat} :
    ∀ (n j : Nat), listed.getD j true = true → waitsT ops n j i = true → listed.getD i true = true := by
  intro n
  induction n with
  | zero => intro j _ h; cases h
  | succ n ih =>
    intro j hj h
    unfold waitsT at h
    cases ho : ops[j]? with
    | none => rw [ho] at h; cases h
    | some o =>
      rw [ho] at h
      simp only [Option.map_some, Option.getD_some, Array.any_eq_true', Bool.and_eq_true, Bool.or_eq_true, beq_iff_eq] at h
      obtain ⟨e, he, hb, h1⟩ := h
      have h2 := hc j o ho hj e he hb
      rcases h1 with h1 | h1
      · rw [← h1]; exact h2
      · exact ih e.on h2 h1
theorem not_ready_T {listed : Array Bool} (hc : ∀ k ok, ops[k]? = some ok → listed.getD k true = true → ∀ e ∈ ok.after, Region.binds .any e = true → listed.getD e.on true = true) {i j n : Nat} (hr : i ∈ Region.ready .any ops listed) (hj : j ∈ Region.ready .any ops listed) : waitsT ops n j i = false := by
  cases h : waitsT ops n j i with
  | false => rfl
  | true =>
    obtain ⟨hiu, -⟩ := mem_ready.1 hr
    obtain ⟨-, oj, hoj, hall⟩ := mem_ready.1 hj
    have hui : ¬ listed.getD i true = true := by
      rcases Nat.lt_or_ge i listed.size with h' | h'
      · simp [h'] at hiu ⊢; exact hiu
      · simp [Array.getElem?_eq_none h'] at hiu
    cases n with
    | zero => cases h
    | succ n =>
      unfold waitsT at h
      rw [hoj] at h
      simp only [Option.map_some, Option.getD_some, Array.any_eq_true', Bool.and_eq_true, Bool.or_eq_true, beq_iff_eq] at h
      obtain ⟨e, he, hb, h1⟩ := h
      have h2 := hall e he hb
      have h3 : listed.getD e.on true = true := by
        rcases Nat.lt_or_ge e.on listed.size with h' | h'
        · simp [h'] at h2 ⊢; exact h2
        · simp [Array.getElem?_eq_none h']
      rcases h1 with h1 | h1
      · rw [h1] at h3; exact absurd h3 hui
      · exact absurd (waits_listed hc n e.on h3 h1) hui

theorem wpAnyD_firstT {n i : Nat} {oi : Oper} {v : Value} (hi : ops[i]? = some oi) (hsel : ∀ (j : Nat) (o : Oper) cs b, ops[j]? = some o → o.op ≠ .select cs b)
    (hQ : ∀ c a w, Q (.panic c) (a.put oi.dst v) w → Q (.panic c) a w) {S : World → Prop} (hlast : ∀ j w', waitsT ops n j i = false → D j w' → S w') :
    ∀ (fuel : Nat) (listed : Array Bool) (a : Act) (w : World),
      (∀ k ok, ops[k]? = some ok → listed.getD k true = true → ∀ e ∈ ok.after, Region.binds .any e = true → listed.getD e.on true = true) →
      (∀ j oj, ops[j]? = some oj → j ≠ i → listed.getD j true = false → (∀ e ∈ oj.after, Region.binds .any e = true → e.on ≠ i) → oi.apart ops oj = true) →
      i ∈ Region.ready .any ops listed → YieldsIf P ops S oi v a → S w →
      wpAnyD P ops Q D fuel (listed.setIfInBounds i true) (a.put oi.dst v) w → wpAnyD P ops Q D (fuel + 1) listed a w := by
  intro fuel
  induction fuel with
  | zero =>
    intro listed a w _ _ hr hy hS H
    refine ⟨fun h => (by rw [h] at hr; cases hr), fun j hj => ?_⟩
    by_cases hji : j = i
    · subst hji; exact hy.wpOp hi hS ⟨.inl rfl, H⟩
    · have := ready_mono hj hji
      rw [H.1] at this
      cases this
  | succ fuel ih =>
    intro listed a w hcl hfree hr hy hS H
    refine ⟨fun h => (by rw [h] at hr; cases hr), fun j hj => ?_⟩
    by_cases hji : j = i
    · subst hji; exact hy.wpOp hi hS ⟨.inl rfl, H⟩
    · have h1 := H.2 j (ready_mono hj hji)
      have hjl := fun w' => hlast j w' (not_ready_T hcl hr hj)
      obtain ⟨hjun, oj, hoj, hall⟩ := mem_ready.1 hj
      have hcl' : ∀ k ok, ops[k]? = some ok → (listed.setIfInBounds j true).getD k true = true → ∀ e ∈ ok.after, Region.binds .any e = true → (listed.setIfInBounds j true).getD e.on true = true := by
        have up : ∀ x, listed.getD x true = true → (listed.setIfInBounds j true).getD x true = true := fun x hx => by
          by_cases e : j = x
          · subst e
            by_cases hs : j < listed.size
            · simp [Array.getElem?_setIfInBounds, hs]
            · simp [Array.getElem?_eq_none (by simpa using hs)]
          · rw [getD_set_ne true e]; exact hx
        intro k ok hk hl e he hb
        by_cases hkj : j = k
        · subst hkj
          rw [hoj] at hk
          cases hk
          refine up _ ?_
          have h2 := hall e he hb
          rcases Nat.lt_or_ge e.on listed.size with h' | h'
          · simp [h'] at h2 ⊢; exact h2
          · simp [Array.getElem?_eq_none h']
        · rw [getD_set_ne true hkj] at hl
          exact up _ (hcl k ok hk hl e he hb)
      have hnot : ∀ e ∈ oj.after, Region.binds .any e = true → e.on ≠ i := fun e he hb heq => by
        have h1 := hall e he hb
        have h0 := (mem_ready.1 hr).1
        rw [heq] at h1
        rcases Nat.lt_or_ge i listed.size with h' | h'
        · simp [h'] at h0 h1; rw [h0] at h1; cases h1
        · simp [Array.getElem?_eq_none h'] at h1
      have h2 := wpOp_putIf hoj (hfree j oj hoj hji hjun hnot) (fun cs b => hsel i oi cs b hi) (fun cs b => hsel j oj cs b hoj) hQ hy h1
      have hfree' : ∀ k ok, ops[k]? = some ok → k ≠ i → (listed.setIfInBounds j true).getD k true = false →
          (∀ e ∈ ok.after, Region.binds .any e = true → e.on ≠ i) → oi.apart ops ok = true := fun k ok hk hki hun hno => by
        refine hfree k ok hk hki ?_ hno
        by_cases hjk : j = k
        · subst hjk; exact hjun
        · rw [getD_set_ne true hjk] at hun; exact hun
      refine wpOp_mono (fun a' w' h3 => ⟨h3.2.1, ih (listed.setIfInBounds j true) a' w' hcl' hfree' (ready_mono hr (Ne.symm hji)) h3.1 (h3.2.1.elim (fun e => by rw [e]; exact hS) (hjl w')) ?_⟩) h2
      rw [Array.setIfInBounds_comm _ _ hji]
      exact h3.2.2
/-- Take number 'i' first: whatever waits for it, be it through others, need not keep S. -/
theorem wpAnyD_takeT (i n : Nat) (S : World → Prop) {oi : Oper} {v : Value} {fuel : Nat} {listed : Array Bool} {a : Act} {w : World} (hi : ops[i]? = some oi)
    (hs : (Region.noSelect ops && Region.free .any ops listed i && (Region.ready .any ops listed).contains i && closedL ops listed) = true)
    (hQ : ∀ c a w, Q (.panic c) (a.put oi.dst v) w → Q (.panic c) a w) (hlast : ∀ j w', waitsT ops n j i = false → D j w' → S w') (hS : S w) (hy : YieldsIf P ops S oi v a)
    (h : wpAnyD P ops Q D fuel (listed.setIfInBounds i true) (a.put oi.dst v) w) : wpAnyD P ops Q D (fuel + 1) listed a w := by
  simp only [Bool.and_eq_true] at hs
  obtain ⟨⟨⟨h1, h2⟩, h3⟩, h4⟩ := hs
  exact wpAnyD_firstT hi (Region.noSelect_spec h1) hQ hlast fuel listed a w (fun k ok hk hl => closedL_spec h4 hk hl) (Region.free_spec hi h2) (by simpa using h3) hy hS h
theorem waitsT_no {n j i : Nat} (h : waitsT ops n j i = true) (k : waitsT ops n j i = false) : False := by rw [h] at k; cases k
/-- an operation whose guard says yes; no -/
theorem wpOp_of2 {i : Nat} {o : Oper} {K : Act → World → Prop} {a : Act} {w : World} (hi : ops[i]? = some o) (hw : Region.wanted o (yielded ops a.tmps) = true) (h : o.wp P a w K Q) : wpOp P ops Q i K a w := by
  unfold wpOp
  rw [hi]
  simp only [hw, if_true]
  exact .inl h
theorem wpOp_no {i : Nat} {o : Oper} {K : Act → World → Prop} {a : Act} {w : World} (hi : ops[i]? = some o) (hw : Region.wanted o (yielded ops a.tmps) = false) (h : K (a.put o.dst undef) w) : wpOp P ops Q i K a w := by
  unfold wpOp
  rw [hi]
  simp only [hw]
  simpa using h
end
end Cl
namespace Cl
open Go Go.RowKit Go.Proofs

theorem visit_all {T : Table} {l : Nat} {w0 : World} {m mk0 : Mem} {B Bx : List (List UInt8) → List Item → Prop} {Lr : List Item} {gy ga gt gv tb ntab ctab : Nat} {va : Value} (hE : VisEnv T l w0 m mk0 B Bx Lr gy ga gt gv tb ntab ctab va)
    (hwf : WF T) (hby : Bytes T) : ∀ n, n ≤ ntab → VisOK T w0 m mk0 B Bx Lr gy ga gt gv n
  | 0, _ => visit_zero hE
  | n + 1, h => visit_step hE hwf hby n h (visit_all hE hwf hby n (by omega))

theorem Own.seal1 {w0 w : World} {m mk : Mem} {L : List Cl.Item} {g : Nat} {t : TypeId} {v : Value} (h : Own w0 m w mk (.obj g t #[v] :: L)) : ∃ mk', Own w0 m w mk' L ∧ mk.le mk' ∧ mk'.cell g 0 = some v :=
  ⟨_, h.sealObj, Mem.le_add h.objFree, Mem.add_cell h.obj rfl⟩

set_option maxRecDepth 100000 in
set_option maxHeartbeats 2000000 in
theorem some_any {T : Table} {l : Nat} {w0 : World} {m mk0 : Mem} {B Bx : List (List UInt8) → List Item → Prop} {Lr : List Item} {tb n ctab clast ntab : Nat} {va : Value} (hwf : WF T) (hby : Bytes T)
    (hY : YieldOK Tryd.prog l (fun x : List UInt8 => #[Value.string ⟨x.toArray⟩]) w0 m mk0 B Bx) (htab : statesAt mk0 va T) (hpos : 0 < T.length) (hnt : ntab ≤ maxLen) (hn : n < ntab) (hn2 : n ≤ 1000000) (hcl : clast ≤ maxLen)
    (rows : ∀ W mk Lt, Own w0 m W mk (Lt ++ Lr) → ∀ i, i < ntab → ∃ u, W.cell? ⟨tb, i, none⟩ = some u ∧ boolsAt mk0 u (canN T i))
    (pre : List (List UInt8)) (mk : Mem) (W : World) (Lt : List Item) (hle : mk0.le mk) (hB : B pre Lt) (hO : Own w0 m W mk (Lt ++ Lr)) :
    Calls Tryd.prog 72 #[.agg #[va], .slice (some ⟨tb, n, none⟩) 1 clast, .int .i64 n, .func (.yield l) #[] #[], .slice (some ⟨tb, 0, none⟩) ntab ctab] W (VisEnd w0 m mk B Bx Lr pre (wex T n 0)) := by
  have hO1 := ((hO.al #[va] 24).al #[.func (.yield l) #[] #[]] 87).al #[.slice (some ⟨tb, 0, none⟩) ntab ctab] 57
  have hsz1 : (W.alloc (.cells #[va] 24)).heap.size = W.heap.size + 1 := by simp
  have hsz2 : ((W.alloc (.cells #[va] 24)).alloc (.cells #[.func (.yield l) #[] #[]] 87)).heap.size = W.heap.size + 1 + 1 := by simp
  rw [hsz2, hsz1] at hO1
  obtain ⟨ur, hur, hb⟩ := rows W mk Lt hO n hn
  obtain ⟨ra, rc, rfl, r2, r3, r4⟩ := hb
  have hcl0 := canN_len T n
  obtain ⟨rb, ro, rfl, r5⟩ := r4 (by intro h; rw [h] at hcl0; simp at hcl0; omega)
  have h0 : 0 < (canN T n).length := by omega
  have z1 := r5 0 h0
  rw [Nat.add_zero] at z1
  have z1w := Mem.cell_w hO.inn (Mem.cell_le hle z1)
  have z1l := Mem.cell_lt hO.inn (Mem.cell_le hle z1)
  have hurl : tb < W.heap.size := by
    simp only [World.cell?] at hur
    split at hur
    · rename_i hb; exact (Array.getElem?_eq_some_iff.1 hb).1
    · cases hur
  have hcv : (canN T n)[0] = true ↔ wex T n ((0 : Nat) : Int) ≠ [] := by
    have h1 := canN_get T n hpos
    rw [List.getElem?_eq_getElem h0] at h1
    rw [Option.some.inj h1]
    simp
  obtain ⟨cb, hcb⟩ : ∃ cb, (canN T n)[0] = cb := ⟨_, rfl⟩
  rw [hcb] at z1w hcv
  have hcl2 : 0 < (canN T n).length := h0
  have hta := htab
  obtain ⟨aa, ac, rfl, -⟩ := htab
  have HO1 := Lib.hid (And.intro hO1 (And.intro hB (And.intro hle (And.intro rows (And.intro hY (And.intro hta (And.intro hwf hby)))))))
  have Hcv := Lib.hid hcv
  unfold maxLen at r3 hnt hcl
  generalize canN T n = cl at *
  clear hO1 hO hB hle hcl0 hcv hcb z1 r4 r5 hsz1 hsz2 rows hY hta hwf hby
  have hurl1 : tb < W.heap.size + 1 := by omega
  have hurl2 : tb < W.heap.size + 1 + 1 := by omega
  have hurl3 : tb < W.heap.size + 1 + 1 + 1 := by omega
  have z1l1 : rb < W.heap.size + 1 := by omega
  have z1l2 : rb < W.heap.size + 1 + 1 := by omega
  have z1l3 : rb < W.heap.size + 1 + 1 + 1 := by omega
  refine calls_hide fun R hR => ?_
  cases cb with
  | false =>
    go_enter Tryd.func72, Tryd.ntmps72
    go_wp2
    have hw0 : wex T n 0 = [] := Classical.byContradiction fun h => by have := Hcv.out.2 h; cases this
    refine hR.out _ _ (.inl ⟨rfl, mk, Lt, by rw [hw0, List.append_nil]; exact HO1.out.2.1, ?_, Mem.le_refl _⟩)
    exact HO1.out.1.tail.tail.tail
  | true =>
    have hO2 := (HO1.out.1.al #[.func (.func 87) #[] #[.pointer (some ⟨W.heap.size + 1, 0, none⟩), .pointer (some ⟨W.heap.size, 0, none⟩), .pointer (some ⟨W.heap.size + 1 + 1, 0, none⟩), .pointer (some ⟨W.heap.size + 1 + 1 + 1, 0, none⟩)]] 100)
    have hsz3 : (((W.alloc (.cells #[.slice aa T.length ac] 24)).alloc (.cells #[.func (.yield l) #[] #[]] 87)).alloc (.cells #[.slice (some ⟨tb, 0, none⟩) ntab ctab] 57)).heap.size = W.heap.size + 1 + 1 + 1 := by simp
    rw [hsz3] at hO2
    obtain ⟨m1, hO3, l1, c1⟩ := hO2.seal1
    obtain ⟨m2, hO4, l2, c2⟩ := hO3.seal1
    obtain ⟨m3, hO5, l3, c3⟩ := hO4.seal1
    obtain ⟨m4, hO6, l4, c4⟩ := hO5.seal1
    have hle := HO1.out.2.2.1
    have hle4 := Mem.le_trans (Mem.le_trans (Mem.le_trans l1 l2) l3) l4
    have hE : VisEnv T l w0 m m4 B Bx Lr (W.heap.size + 1) W.heap.size (W.heap.size + 1 + 1) (W.heap.size + 1 + 1 + 1) tb ntab ctab (.slice aa T.length ac) := by
      refine ⟨fun pre x W' mk' Lt' Lr' h1 h2 h3 => HO1.out.2.2.2.2.1 pre x W' mk' Lt' Lr' h1 h2 (Mem.le_trans (Mem.le_trans hle hle4) h3), Mem.cell_le l4 c3, c4, Mem.cell_le (Mem.le_trans l3 l4) c2,
        Mem.cell_le (Mem.le_trans (Mem.le_trans l2 l3) l4) c1, statesAt_le (Mem.le_trans hle hle4) HO1.out.2.2.2.2.2.1, fun W' mk' Lt' h i hi => ?_, by unfold maxLen; exact hnt⟩
      obtain ⟨u, h1, h2⟩ := HO1.out.2.2.2.1 W' mk' Lt' h i hi
      exact ⟨u, h1, boolsAt_le (Mem.le_trans hle hle4) h2⟩
    have hV := visit_all hE HO1.out.2.2.2.2.2.2.1 HO1.out.2.2.2.2.2.2.2 n (by omega) 0 [] (.slice none 0 0) pre m4 _ Lt hpos (Hcv.out.1 rfl) (by simp; omega) (Mem.le_refl _) (.inl ⟨rfl, rfl⟩) HO1.out.2.1 hO6
    rw [show ((0 : Nat) : Int) = (0 : Int) from rfl] at hV
    have HV := Lib.hid (And.intro hV hle4)
    clear hV hE hO6 hO5 hO4 hO3 hO2 c1 c2 c3 c4 l1 l2 l3 l4 hle hle4 hsz3 m1 m2 m3
    go_enter Tryd.func72, Tryd.ntmps72
    go_wp2_with fail
    refine HV.out.1.mono ?_
    rintro e' w7 (⟨rfl, mk5, Lt5, k1, k2, k3⟩ | ⟨rfl, qq, mk5, Lt5, k0, k1, k2, k3, k4⟩)
    · have Hq := Lib.hid (And.intro k1 (And.intro k2 k3))
      clear k1 k2 k3
      go_wp2
      exact hR.out _ _ (.inl ⟨rfl, mk5, Lt5, by simpa using Hq.out.1, Hq.out.2.1, Mem.le_trans HV.out.2 Hq.out.2.2⟩)
    · have Hq := Lib.hid (And.intro k0 (And.intro k1 (And.intro k2 (And.intro k3 k4))))
      clear k0 k1 k2 k3 k4
      go_wp2
      exact hR.out _ _ (.inr ⟨rfl, qq, mk5, Lt5, Hq.out.1, by simpa using Hq.out.2.1, Hq.out.2.2.1, Hq.out.2.2.2.1, Mem.le_trans HV.out.2 Hq.out.2.2.2.2⟩)
end Cl
namespace Cl
open Go Go.RowKit Go.Proofs

theorem set_mid {α : Type} (A C : List α) (x y : α) {k : Nat} (h : A.length = k) : (A ++ x :: C).set k y = A ++ y :: C := by
  subst h
  simp
theorem get_mid {α : Type} (A C : List α) (x : α) {k : Nat} (h : A.length = k) : (A ++ x :: C)[k]? = some x := by
  subst h
  simp
def canF (less : List Bool) (s : Sn) : Bool := s.edges.any fun e => less.getD e.to.toNat false

set_option maxRecDepth 100000 in
set_option maxHeartbeats 2000000 in
theorem can_any (v0 v1 : Value) (l : Table) (less : List Bool) (m : Mem) (w : World) (hm : m.inn w) (hl : statesAt m v0 l) (hb : boolsAt m v1 less) (hwf : WF l) (hlen : l.length ≤ 1000000) (hle : less.length = l.length) :
    Calls Tryd.prog 71 #[.agg #[v0], v1] w fun e w' => ∃ r, e = .returned r ∧ Below w.heap.size w w' ∧ boolsAt (m.grow w w') r (l.map (canF less)) := by
  obtain ⟨a, c, rfl, h1, h2, h3⟩ := hl
  obtain ⟨ba, bc, rfl, b1, b2, b3⟩ := hb
  unfold maxLen at h2 b2
  have hO := (Own.start hm).al #[.slice a l.length c] 24
  have HO := Lib.hid hO
  have hle1 : l.length ≤ less.length := by omega
  have hle2 : less.length ≤ l.length := by omega
  have g1 := hO.obj.cell (i := 0) rfl
  have g2 := hO.obj.lt
  clear hO hle
  refine calls_hide fun R hR => ?_
  go_enter Tryd.func71, Tryd.ntmps71
  go_wp2_with (refine wpList_make_row mkBools rfl (.tmp 11) (.tmp 11) rfl l.length rfl rfl (by omega) (by unfold maxLen; omega) ?_)
  intro w5 hown hgrow
  have hszz : (w.alloc (.cells #[.slice a l.length c] 24)).heap.size = w.heap.size + 1 := by simp
  have hO := HO.out.make (by rw [hszz]; exact hown) hgrow
  rw [hszz] at hO
  have hrep : List.replicate l.length (Value.bool false) = ((l.take 0).map (canF less) ++ List.replicate (l.length - 0) false).map Value.bool := by simp
  rw [hrep] at hO
  have hg1 := hO.swap.obj.cell (i := 0) rfl
  have hg2 := hO.swap.obj.lt
  clear hszz
  generalize w.heap.size + 1 = B at *
  have HO2 := Lib.hid hO
  clear hown hgrow hrep HO g1 g2 hO
  go_wp2
  refine wp_loop_keep [1, 2, 5, 15, 16] (fun n vs wr => ∃ (k : Nat), k ≤ l.length ∧ n = l.length - k ∧ vs = [.slice ba less.length bc, .pointer (some ⟨w.heap.size, 0, none⟩), .slice (some ⟨B, 0, none⟩) l.length l.length, .int .i64 l.length, .int .i64 k] ∧
    Own w m wr m [.row (.slice (some ⟨B, 0, none⟩) l.length l.length) 4 1 l.length (((l.take k).map (canF less) ++ List.replicate (l.length - k) false).map Value.bool), .obj w.heap.size 24 #[.slice a l.length c]]) ?_ ?_
  · exact ⟨_, 0, Nat.zero_le _, rfl, rfl, HO2.out⟩
  clear HO2 hg1 hg2
  rintro X z n vs wr hX - ⟨k, hk, rfl, rfl, hO⟩
  simp [litL, lk]
  have g1 := hO.swap.obj.cell (i := 0) rfl
  have g2 := hO.swap.obj.lt
  by_cases hlt : k < l.length
  · obtain ⟨b, off, rfl, h4⟩ := h3 (by intro h; simp [h] at hlt)
    obtain ⟨-, ve, s2, ea, ec, rfl, g4, g5, g6⟩ := h4 k hlt
    have s2w := Mem.cell_w hO.inn s2
    have s2l := Mem.cell_lt hO.inn s2
    have htk : (l.take (k + 1)).map (canF less) = (l.take k).map (canF less) ++ [canF less l[k]] := by
      rw [List.take_succ_eq_append_getElem hlt, List.map_append]; rfl
    have hrp : List.replicate (l.length - k) false = false :: List.replicate (l.length - (k + 1)) false := by
      rw [show l.length - k = (l.length - (k + 1)) + 1 by omega]; rfl
    have hAl : ((l.take k).map (canF less)).length = k := by simp; omega
    have hcf : canF less l[k] = (l[k]).edges.any fun e => less.getD e.to.toNat false := rfl
    have hlh := wfEdges_lohi (hwf l[k] (List.getElem_mem hlt))
    rw [hrp] at hO
    have Htk := Lib.hid (And.intro htk hcf)
    generalize (l[k]).edges = es at *
    have HO := Lib.hid hO
    unfold maxLen at g5
    generalize hAA : (l.take k).map (canF less) = AA at *
    clear htk hrp hcf hAA h4 hO
    go_wp2
    refine wp_loop_keep [1, 2, 5, 15, 16, 6, 24, 25, 26] (fun n vs w2 => ∃ (j : Nat), j ≤ es.length ∧ n = es.length - j ∧ vs = [.slice ba less.length bc, .pointer (some ⟨w.heap.size, 0, none⟩), .slice (some ⟨B, 0, none⟩) l.length l.length, .int .i64 l.length, .int .i64 k, .int .i64 k, .slice ea es.length ec, .int .i64 es.length, .int .i64 j] ∧
      Own w m w2 m [.row (.slice (some ⟨B, 0, none⟩) l.length l.length) 4 1 l.length ((AA ++ ((es.take j).any fun e => less.getD e.to.toNat false) :: List.replicate (l.length - (k + 1)) false).map Value.bool), .obj w.heap.size 24 #[.slice (some ⟨b, off, none⟩) l.length c]]) ?_ ?_
    · exact ⟨_, 0, Nat.zero_le _, rfl, rfl, HO.out⟩
    clear HO
    rintro Y z2 n vs w2 hY - ⟨j, hj, rfl, rfl, hO⟩
    simp [litL, lk]
    by_cases hlt2 : j < es.length
    · obtain ⟨eb, eo, rfl, g7⟩ := g6 (by intro h; simp [h] at hlt2)
      obtain ⟨e1, e2, e3, e4, e5, -⟩ := g7 j hlt2
      have e1w := Mem.cell_w hO.inn e1
      have e2w := Mem.cell_w hO.inn e2
      have e3w := Mem.cell_w hO.inn e3
      have el := Mem.cell_lt hO.inn e1
      have hte := hlh es[j] (List.getElem_mem hlt2)
      have han : ((es.take (j + 1)).any fun e => less.getD e.to.toNat false) = (((es.take j).any fun e => less.getD e.to.toNat false) || less.getD (es[j]).to.toNat false) := by
        rw [List.take_succ_eq_append_getElem hlt2, List.any_append]; simp
      obtain ⟨t, ht⟩ := Int.eq_ofNat_of_zero_le hte.2.1
      have htl : t < less.length := by omega
      rw [ht, Int.toNat_natCast] at han
      have hlg : less.getD t false = less[t] := by simp [htl]
      rw [hlg] at han
      obtain ⟨bb, bo, rfl, b4⟩ := b3 (by intro h; simp [h] at htl)
      have hbt := b4 t htl
      have hbw := Mem.cell_w hO.inn hbt
      have hbl := Mem.cell_lt hO.inn hbt
      generalize less[t] = y at *
      rw [ht] at e3w
      obtain ⟨cur, hcur⟩ : ∃ cur, ((es.take j).any fun e => less.getD e.to.toNat false) = cur := ⟨_, rfl⟩
      rw [hcur] at hO han
      have Han := Lib.hid han
      generalize es[j] = e at *
      have r1 := row_cellw (j := k) (u := .bool cur) hO.row (by rw [List.getElem?_map, get_mid _ _ _ hAl]; rfl)
      have r2 := row_frozen hO.row k
      have r3 := (World.ownsRow.lt hO.row _ rfl).2
      have hO2 := (hO.setRow k (.bool (cur || y))).al' (.cells #[.int .u8 e.lo, .int .u8 e.hi, .int .i64 t] 51)
      rw [← List.map_set, set_mid _ _ _ _ hAl] at hO2
      have HO2 := Lib.hid hO2
      clear han hcur hO2 hO hlg ht hbt
      cases cur with
      | true =>
        go_wp2
        refine hY.out _ _ _ (by omega) rfl ⟨j + 1, by omega, rfl, rfl, ?_⟩
        rw [Han.out]
        exact HO2.out
      | false =>
        go_wp2
        refine hY.out _ _ _ (by omega) rfl ⟨j + 1, by omega, rfl, rfl, ?_⟩
        rw [Han.out]
        exact HO2.out
    · obtain rfl : j = es.length := by omega
      rw [List.take_length] at hO
      have HO := Lib.hid hO
      clear hO
      go_wp2
      refine hX.out _ _ _ (by omega) rfl ⟨k + 1, by omega, rfl, rfl, ?_⟩
      rw [Htk.out.1, Htk.out.2, List.append_assoc]
      exact HO.out
  · obtain rfl : k = l.length := by omega
    rw [List.take_length, Nat.sub_self, List.replicate_zero, List.append_nil] at hO
    have hbs := boolsAt_of_row (l := l.map (canF less)) (m := m) (by rw [List.length_map]; exact hO.row)
    have hfin := boolsAt_le hO.sealRow.done hbs
    have Hk := Lib.hid (And.intro hO.below hfin)
    clear hO hbs hfin
    go_wp2
    exact hR.out _ _ ⟨_, rfl, Hk.out.1, Hk.out.2⟩
end Cl

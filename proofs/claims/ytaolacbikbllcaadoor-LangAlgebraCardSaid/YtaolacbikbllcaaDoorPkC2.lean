/- Lemmas for the proofs: WalkBP. -/
import Derived.RegionTactic
import Derived.ChangeAlike
import Derived.Test.YtaolacbikbllcaaDoorPkA2
import Derived.Test.YtaolacbikbllcaaDoorPkA3
import Derived.Test.YtaolacbikbllcaaDoorPkA1
import Derived.Test.YtaolacbikbllcaaDoorPkA5
import Derived.Test.YtaolacbikbllcaaDoorPkA7
import Derived.Test.YtaolacbikbllcaaDoorPkA8
import Derived.Test.YtaolacbikbllcaaDoorPkA10
import Derived.Test.YtaolacbikbllcaaDoorPkC1
namespace Cl
open Go Go.RowKit Go.Proofs

theorem tl_of (l : List UInt8) : (ByteArray.mk l.toArray).toList = l := ByteArray.toList_mk l

theorem aw_bound (m : Mem) (w : World) (hm : m.inn w) (htab : TabM m) :
    Calls Tryd.prog 33 #[.string ⟨#[60]⟩, .string ⟨#[98]⟩] w fun e w' => ∃ r C, e = .returned (.tuple #[.agg #[r], .int .i64 0]) ∧ Below w.heap.size w w' ∧ statesAt (m.grow w w') r C ∧ LangIs (belowB false · [98]) C ∧ C.length ≤ 10000 := by
  have e : boundF (ByteArray.toList ⟨#[60]⟩) [98] = some (belowB false · [98]) := by
    rw [show ByteArray.toList ⟨#[60]⟩ = [60] from tl_of [60]]; rfl
  refine (langBound_any ⟨#[60]⟩ ⟨#[98]⟩ m w hm htab (by decide) (by decide)).mono ?_
  rintro x w' ⟨r, C, rfl, h1, h2, h3, -, h5⟩
  refine ⟨r, C, ?_, h1, h2, h3 _ e, h5⟩
  rw [show boundF (ByteArray.toList ⟨#[60]⟩) (ByteArray.mk #[98]).data.toList = some (belowB false · [98]) from e]
  rfl
theorem aw_bound2 (m : Mem) (w : World) (hm : m.inn w) (htab : TabM m) :
    Calls Tryd.prog 33 #[.string ⟨#[61]⟩, .string ⟨#[98]⟩] w fun e w' => ∃ xa n xc, e = .returned (.tuple #[.agg #[.slice xa n xc], .int .i64 8]) ∧ Below w.heap.size w w' := by
  have e : boundF (ByteArray.toList ⟨#[61]⟩) [98] = none := by
    rw [show ByteArray.toList ⟨#[61]⟩ = [61] from tl_of [61]]; rfl
  refine (langBound_any ⟨#[61]⟩ ⟨#[98]⟩ m w hm htab (by decide) (by decide)).mono ?_
  rintro x w' ⟨r, C, rfl, h1, h2, -⟩
  obtain ⟨xa, xc, rfl, -⟩ := h2
  refine ⟨xa, C.length, xc, ?_, h1⟩
  rw [show boundF (ByteArray.toList ⟨#[61]⟩) (ByteArray.mk #[98]).data.toList = none from e]
  rfl
theorem aw_word (c : UInt8) (m : Mem) (w : World) (hm : m.inn w) :
    Calls Tryd.prog 34 #[.string ⟨#[c]⟩] w fun e w' => ∃ r, e = .returned (.agg #[r]) ∧ Below w.heap.size w w' ∧ statesAt (m.grow w w') r (wordL [c]) := by
  refine (r05Word_any ⟨#[c]⟩ m w hm (by simp [ByteArray.size])).mono ?_
  rintro x w' ⟨r, rfl, h1, h2⟩
  exact ⟨r, rfl, h1, by rw [← wordT_eq ⟨#[c]⟩]; exact h2⟩
theorem aw_acc {f : List UInt8 → Bool} {C : Table} (h : LangIs f C) (s : List UInt8) : (tf (WF C) && accFrom C 0 s) = f s := by
  rw [tf_true h.canon.wf, h.lang]; rfl

/-- what awake holds when its four automata are laid -/
structure AwS (w : World) (m : Mem) (wr : World) (mk : Mem) (g1 g2 ga gb : Nat) (r r2 ra rb : Value) (L : Table) : Prop where
  own : Own w m wr mk [.obj gb 24 #[rb], .obj ga 24 #[ra], .obj g2 24 #[r2], .obj g1 24 #[r]]
  le : m.le mk
  l : statesAt mk r L
  a : statesAt mk ra (wordL [97])
  b : statesAt mk rb (wordL [98])
theorem AwS.call {w : World} {m : Mem} {wr : World} {mk : Mem} {g1 g2 ga gb : Nat} {r r2 ra rb : Value} {L : Table} (h : AwS w m wr mk g1 g2 ga gb r r2 ra rb L) {w' : World} (hb : Below wr.heap.size wr w') :
    AwS w m w' (mk.grow wr w') g1 g2 ga gb r r2 ra rb L :=
  have q := Mem.le_grow (w := w') h.own.inn
  ⟨h.own.call hb, Mem.le_trans h.le q, statesAt_le q h.l, statesAt_le q h.a, statesAt_le q h.b⟩
theorem AwS.c1 {w : World} {m : Mem} {wr : World} {mk : Mem} {g1 g2 ga gb : Nat} {r r2 ra rb : Value} {L : Table} (h : AwS w m wr mk g1 g2 ga gb r r2 ra rb L) : wr.cell? ⟨g1, 0, none⟩ = some r := (h.own.at_obj (g := g1) (t := 24) (arr := #[r]) (by simp)).cell (i := 0) rfl
theorem AwS.ca {w : World} {m : Mem} {wr : World} {mk : Mem} {g1 g2 ga gb : Nat} {r r2 ra rb : Value} {L : Table} (h : AwS w m wr mk g1 g2 ga gb r r2 ra rb L) : wr.cell? ⟨ga, 0, none⟩ = some ra := (h.own.at_obj (g := ga) (t := 24) (arr := #[ra]) (by simp)).cell (i := 0) rfl
theorem AwS.cb {w : World} {m : Mem} {wr : World} {mk : Mem} {g1 g2 ga gb : Nat} {r r2 ra rb : Value} {L : Table} (h : AwS w m wr mk g1 g2 ga gb r r2 ra rb L) : wr.cell? ⟨gb, 0, none⟩ = some rb := (h.own.at_obj (g := gb) (t := 24) (arr := #[rb]) (by simp)).cell (i := 0) rfl

theorem twoStrs {mk : Mem} {w : World} {g : Nat} {t : TypeId} (h : ObjAt w g t #[.string ⟨#[]⟩, .string ⟨#[0]⟩]) : strsAt (mk.add w g) (.slice (some ⟨g, 0, none⟩) 2 2) [⟨#[]⟩, ⟨#[0]⟩] := by
  refine ⟨some ⟨g, 0, none⟩, 2, rfl, by simp, by simp [maxLen], fun _ => ⟨g, 0, rfl, fun i hi => ?_⟩⟩
  have : i = 0 ∨ i = 1 := by
    have : i < 2 := hi
    omega
  rcases this with rfl | rfl
  · exact ⟨Mem.add_cell h rfl, by simp [ByteArray.size, maxLen]⟩
  · exact ⟨Mem.add_cell h rfl, by simp [ByteArray.size, maxLen]⟩

set_option maxRecDepth 100000 in
set_option maxHeartbeats 8000000 in
theorem awake_any (m : Mem) (w : World) (hm : m.inn w) (htab : TabM m) :
    Calls Tryd.prog 11 #[] w fun e w' => e = .returned (.bool true) ∧ Below w.heap.size w w' := by
  have HB := Lib.hid (aw_bound m w hm htab)
  have HM := Lib.hid hm
  have HT := Lib.hid htab
  clear hm htab
  refine calls_hide fun R hR => ?_
  go_enter Tryd.func11, Tryd.ntmps11
  go_wp2_with fail
  refine HB.out.mono ?_
  rintro e w1 ⟨r, L, rfl, hb1, hl, hL, hLlen⟩
  obtain ⟨la, lc, rfl⟩ : ∃ xa xc, r = .slice xa L.length xc := by obtain ⟨x, y, e, -⟩ := hl; exact ⟨x, y, e⟩
  generalize L.length = ln at *
  have HO := Lib.hid (And.intro (((Own.start HM.out).call hb1).al #[.slice la ln lc] 24) (And.intro (Mem.le_grow (w := w1) HM.out) (And.intro hl (And.intro hL hLlen))))
  clear HB HM hb1 hl hL hLlen
  generalize m.grow w w1 = mk at *
  have HB := Lib.hid (aw_bound2 mk _ HO.out.1.inn (HT.out.le HO.out.2.1))
  go_wp2_with fail
  refine HB.out.mono ?_
  rintro e w2 ⟨x2, n2, y2, rfl, hb2⟩
  have hO2 := (HO.out.1.call hb2).al #[.slice x2 n2 y2] 24
  have hle2 := Mem.le_grow (w := w2) HO.out.1.inn
  have HO := Lib.hid (And.intro hO2 (And.intro (Mem.le_trans HO.out.2.1 hle2) (And.intro (statesAt_le hle2 HO.out.2.2.1) HO.out.2.2.2)))
  clear HB hb2 hO2 hle2
  generalize mk.grow _ w2 = mk2 at *
  have HB := Lib.hid (aw_word 97 mk2 _ HO.out.1.inn)
  go_wp2_with fail
  refine HB.out.mono ?_
  rintro e w3 ⟨ra, rfl, hb3, ha⟩
  have hO3 := HO.out.1.call hb3
  have hle3 := Mem.le_grow (w := w3) HO.out.1.inn
  have HO := Lib.hid (And.intro hO3 (And.intro (Mem.le_trans HO.out.2.1 hle3) (And.intro (statesAt_le hle3 HO.out.2.2.1) (And.intro ha HO.out.2.2.2))))
  clear HB hb3 hO3 hle3 ha
  generalize mk2.grow _ w3 = mk3 at *
  have HB := Lib.hid (aw_word 98 mk3 _ HO.out.1.inn)
  go_wp2_with fail
  refine HB.out.mono ?_
  rintro e w4 ⟨rb, rfl, hb4, hb⟩
  obtain ⟨aa, ac, rfl⟩ : ∃ xa xc, ra = .slice xa 2 xc := by obtain ⟨x, y, e, -⟩ := HO.out.2.2.2.1; exact ⟨x, y, e⟩
  obtain ⟨ba, bc, rfl⟩ : ∃ xa xc, rb = .slice xa 2 xc := by obtain ⟨x, y, e, -⟩ := hb; exact ⟨x, y, e⟩
  have hle4 := Mem.le_grow (w := w4) HO.out.1.inn
  have hO4 := ((HO.out.1.call hb4).al #[.slice aa 2 ac] 24).al #[.slice ba 2 bc] 24
  have hsz : (w4.alloc (.cells #[.slice aa 2 ac] 24)).heap.size = w4.heap.size + 1 := by simp
  rw [hsz] at hO4
  have HS := Lib.hid (And.intro (AwS.mk hO4 (Mem.le_trans HO.out.2.1 hle4) (statesAt_le hle4 HO.out.2.2.1) (statesAt_le hle4 HO.out.2.2.2.1) hb) HO.out.2.2.2.2)
  clear HB hb4 hO4 hle4 HO hsz hb
  generalize mk3.grow w3 w4 = mk4 at *
  generalize w1.heap.size = g1 at *
  generalize w2.heap.size = g2 at *
  have cb := HS.out.1.cb
  have ca := HS.out.1.ca
  have HB := Lib.hid (langOr_any (.slice ba 2 bc) (.slice aa 2 ac) _ _ mk4 _ HS.out.1.own.inn (HT.out.le HS.out.1.le) HS.out.1.b HS.out.1.a (Fits.of (x := 2) (y := 2) (by simp [wordL_len]) (by simp [wordL_len]) (by decide)))
  go_wp2_with fail
  refine HB.out.mono ?_
  rintro e w5 ⟨ro, C, rfl, hb5, hC, hCl, hClen⟩
  have hCl := hCl.congr fun x => by rw [(word_is [98]).sem, (word_is [97]).sem]
  simp only [wordL_len, List.length_cons, List.length_nil] at hClen
  have HS := Lib.hid (And.intro (HS.out.1.call hb5) HS.out.2)
  have HC := Lib.hid (And.intro hC (And.intro hCl hClen))
  clear HB hb5 hC hCl hClen ca cb
  generalize mk4.grow _ w5 = mk5 at *
  have HB := Lib.hid (langLeast_any ro C mk5 w5 HS.out.1.own.inn (HT.out.le HS.out.1.le) HC.out.1 (by have := HC.out.2.2; omega))
  have ca := HS.out.1.ca
  generalize w4.heap.size = g4 at *
  go_wp2_with fail
  refine HB.out.mono ?_
  rintro e w6 ⟨o, rfl, hb6, ho⟩
  have ho : o = some [97] := by
    have e : Sem C = fun x => decide (x = [98]) || decide (x = [97]) := funext HC.out.2.1.sem
    rw [e] at ho
    exact least_unique ho aw_least
  subst ho
  rw [optV_some, show bstr [97] = ⟨#[97]⟩ from rfl]
  have HS := Lib.hid (And.intro (HS.out.1.call hb6) HS.out.2)
  clear HB hb6 HC ca
  generalize mk5.grow _ w6 = mk6 at *
  have ca := HS.out.1.ca
  have c1 := HS.out.1.c1
  have HB := Lib.hid (langSingle_any (.slice aa 2 ac) (wordL [97]) mk6 w6 HS.out.1.own.inn (HT.out.le HS.out.1.le) HS.out.1.a (by simp [wordL_len]))
  go_wp2_with fail
  refine HB.out.mono ?_
  rintro e w7 ⟨o, rfl, hb7, ho⟩
  have ho : o = some [97] := by
    refine sing_unique (f := fun x => decide (x = [97])) (ho.congr fun x => (word_is [97]).sem x) ⟨by decide, fun y hy => ?_⟩
    simpa using hy
  subst ho
  rw [optV_some, show bstr [97] = ⟨#[97]⟩ from rfl]
  have HS := Lib.hid (And.intro (HS.out.1.call hb7) HS.out.2)
  clear HB hb7 ca c1
  generalize mk6.grow _ w7 = mk7 at *
  go_wp2_with fail
  refine wp_cut_keep [0] (fun vs w' => vs = [.bool true] ∧ Below w.heap.size w w') ?_ ?_
  · intro X hX
    refine wp_region_T (fun w' => w'.cell? ⟨g1, 0, none⟩ = some (.slice la ln lc) ∧ w'.cell? ⟨g4, 0, none⟩ = some (.slice aa 2 ac) ∧ w'.cell? ⟨g4 + 1, 0, none⟩ = some (.slice ba 2 bc)) 80 (by kernel_rfl) ?_
    have HS := Lib.hid (And.intro (HS.out.1.call (Below.refl _ _).drew) HS.out.2)
    generalize mk7.grow w7 w7.drew = mk7 at *
    generalize w7.drew = w7 at *
    have hS := And.intro HS.out.1.c1 (And.intro HS.out.1.ca HS.out.1.cb)
    refine wpAnyT_take 0 rfl (by kernel_rfl) (fun _ _ _ h => h) hS (yields_of rfl fun w' hS' => by have q := hS'.1; have q1 := hS'.2.1; have q2 := hS'.2.2; go_simp; first | done | rfl) ?_
    go_simp
    refine wpAnyT_take 1 rfl (by kernel_rfl) (fun _ _ _ h => h) hS (yields_of rfl fun w' hS' => by have q := hS'.1; have q1 := hS'.2.1; have q2 := hS'.2.2; go_simp; first | done | rfl) ?_
    go_simp
    refine wpAnyT_take 2 rfl (by kernel_rfl) (fun _ _ _ h => h) hS (yields_of rfl fun w' hS' => by have q := hS'.1; have q1 := hS'.2.1; have q2 := hS'.2.2; go_simp; first | done | rfl) ?_
    go_simp
    refine wpAnyT_take 3 rfl (by kernel_rfl) (fun _ _ _ h => h) hS (yields_of rfl fun w' hS' => by have q := hS'.1; have q1 := hS'.2.1; have q2 := hS'.2.2; go_simp; first | done | rfl) ?_
    go_simp
    refine wpAnyT_take 4 rfl (by kernel_rfl) (fun _ _ _ h => h) hS (yields_of rfl fun w' hS' => by have q := hS'.1; have q1 := hS'.2.1; have q2 := hS'.2.2; go_simp; first | done | rfl) ?_
    go_simp
    refine wpAnyT_take 5 rfl (by kernel_rfl) (fun _ _ _ h => h) hS (yields_of rfl fun w' hS' => by have q := hS'.1; have q1 := hS'.2.1; have q2 := hS'.2.2; go_simp; first | done | rfl) ?_
    go_simp
    refine wpAnyT_take 6 rfl (by kernel_rfl) (fun _ _ _ h => h) hS (yields_of rfl fun w' hS' => by have q := hS'.1; have q1 := hS'.2.1; have q2 := hS'.2.2; go_simp; first | done | rfl) ?_
    go_simp
    refine wpAnyT_take 7 rfl (by kernel_rfl) (fun _ _ _ h => h) hS (yields_of rfl fun w' hS' => by have q := hS'.1; have q1 := hS'.2.1; have q2 := hS'.2.2; go_simp; first | done | rfl) ?_
    go_simp
    refine wpAnyT_only 8 (by kernel_rfl) (wpOp_of2 rfl rfl (wp_enter (by go_simp; first | done | rfl) (r05Accepts_any (.slice la ln lc) L ⟨#[]⟩ mk7 w7 HS.out.1.own.inn HS.out.1.l (by simp [ByteArray.size, maxLen])) ?_))
    rintro e w8 ⟨rfl, hb⟩
    rw [show (tf (WF L) && accFrom L 0 (ByteArray.data ⟨#[]⟩).toList) = true from (aw_acc HS.out.2.1 []).trans (by simp [belowB])]
    have HS := Lib.hid (And.intro (HS.out.1.call hb) HS.out.2)
    clear hb
    refine ⟨_, rfl, andS (And.intro HS.out.1.c1 (And.intro HS.out.1.ca HS.out.1.cb)) fun hS => ?_⟩
    generalize (Mem.grow _ w7 w8) = mk8 at *
    go_simp
    refine wpAnyT_take 9 rfl (by kernel_rfl) (fun _ _ _ h => h) hS (yields_of rfl fun w' hS' => by have q := hS'.1; have q1 := hS'.2.1; have q2 := hS'.2.2; go_simp; first | done | rfl) ?_
    go_simp
    refine wpAnyT_take 10 rfl (by kernel_rfl) (fun _ _ _ h => h) hS (yields_of rfl fun w' hS' => by have q := hS'.1; have q1 := hS'.2.1; have q2 := hS'.2.2; go_simp; first | done | rfl) ?_
    go_simp
    refine wpAnyT_take 11 rfl (by kernel_rfl) (fun _ _ _ h => h) hS (yields_of rfl fun w' hS' => by have q := hS'.1; have q1 := hS'.2.1; have q2 := hS'.2.2; go_simp; first | done | rfl) ?_
    go_simp
    refine wpAnyT_only 12 (by kernel_rfl) (wpOp_of2 rfl rfl (wp_enter (by go_simp; first | done | rfl) (r05Accepts_any (.slice la ln lc) L ⟨#[97, 122, 122]⟩ mk8 w8 HS.out.1.own.inn HS.out.1.l (by simp [ByteArray.size, maxLen])) ?_))
    rintro e w9 ⟨rfl, hb⟩
    rw [show (tf (WF L) && accFrom L 0 (ByteArray.data ⟨#[97, 122, 122]⟩).toList) = true from (aw_acc HS.out.2.1 [97, 122, 122]).trans (by simp [belowB])]
    have HS := Lib.hid (And.intro (HS.out.1.call hb) HS.out.2)
    clear hb
    refine ⟨_, rfl, andS (And.intro HS.out.1.c1 (And.intro HS.out.1.ca HS.out.1.cb)) fun hS => ?_⟩
    generalize (Mem.grow _ w8 w9) = mk9 at *
    go_simp
    refine wpAnyT_take 13 rfl (by kernel_rfl) (fun _ _ _ h => h) hS (yields_of rfl fun w' hS' => by have q := hS'.1; have q1 := hS'.2.1; have q2 := hS'.2.2; go_simp; first | done | rfl) ?_
    go_simp
    refine wpAnyT_take 14 rfl (by kernel_rfl) (fun _ _ _ h => h) hS (yields_of rfl fun w' hS' => by have q := hS'.1; have q1 := hS'.2.1; have q2 := hS'.2.2; go_simp; first | done | rfl) ?_
    go_simp
    refine wpAnyT_take 15 rfl (by kernel_rfl) (fun _ _ _ h => h) hS (yields_of rfl fun w' hS' => by have q := hS'.1; have q1 := hS'.2.1; have q2 := hS'.2.2; go_simp; first | done | rfl) ?_
    go_simp
    refine wpAnyT_only 16 (by kernel_rfl) (wpOp_of2 rfl rfl (wp_enter (by go_simp; first | done | rfl) (r05Accepts_any (.slice la ln lc) L ⟨#[98]⟩ mk9 w9 HS.out.1.own.inn HS.out.1.l (by simp [ByteArray.size, maxLen])) ?_))
    rintro e w10 ⟨rfl, hb⟩
    rw [show (tf (WF L) && accFrom L 0 (ByteArray.data ⟨#[98]⟩).toList) = false from (aw_acc HS.out.2.1 [98]).trans (by simp [belowB])]
    have HS := Lib.hid (And.intro (HS.out.1.call hb) HS.out.2)
    clear hb
    refine ⟨_, rfl, andS (And.intro HS.out.1.c1 (And.intro HS.out.1.ca HS.out.1.cb)) fun hS => ?_⟩
    generalize (Mem.grow _ w9 w10) = mk10 at *
    go_simp
    refine wpAnyT_take 17 rfl (by kernel_rfl) (fun _ _ _ h => h) hS (yields_of rfl fun w' hS' => by have q := hS'.1; have q1 := hS'.2.1; have q2 := hS'.2.2; go_simp; first | done | rfl) ?_
    go_simp
    refine wpAnyT_take 18 rfl (by kernel_rfl) (fun _ _ _ h => h) hS (yields_of rfl fun w' hS' => by have q := hS'.1; have q1 := hS'.2.1; have q2 := hS'.2.2; go_simp; first | done | rfl) ?_
    go_simp
    refine wpAnyT_take 19 rfl (by kernel_rfl) (fun _ _ _ h => h) hS (yields_of rfl fun w' hS' => by have q := hS'.1; have q1 := hS'.2.1; have q2 := hS'.2.2; go_simp; first | done | rfl) ?_
    go_simp
    refine wpAnyT_take 20 rfl (by kernel_rfl) (fun _ _ _ h => h) hS (yields_of rfl fun w' hS' => by have q := hS'.1; have q1 := hS'.2.1; have q2 := hS'.2.2; go_simp; first | done | rfl) ?_
    go_simp
    refine wpAnyT_take 21 rfl (by kernel_rfl) (fun _ _ _ h => h) hS (yields_of rfl fun w' hS' => by have q := hS'.1; have q1 := hS'.2.1; have q2 := hS'.2.2; go_simp; first | done | rfl) ?_
    go_simp
    refine wpAnyT_take 22 rfl (by kernel_rfl) (fun _ _ _ h => h) hS (yields_of rfl fun w' hS' => by have q := hS'.1; have q1 := hS'.2.1; have q2 := hS'.2.2; go_simp; first | done | rfl) ?_
    go_simp
    refine wpAnyT_take 23 rfl (by kernel_rfl) (fun _ _ _ h => h) hS (yields_of rfl fun w' hS' => by have q := hS'.1; have q1 := hS'.2.1; have q2 := hS'.2.2; go_simp; first | done | rfl) ?_
    go_simp
    refine wpAnyT_take 24 rfl (by kernel_rfl) (fun _ _ _ h => h) hS (yields_of rfl fun w' hS' => by have q := hS'.1; have q1 := hS'.2.1; have q2 := hS'.2.2; go_simp; first | done | rfl) ?_
    go_simp
    refine wpAnyT_take 25 rfl (by kernel_rfl) (fun _ _ _ h => h) hS (yields_of rfl fun w' hS' => by have q := hS'.1; have q1 := hS'.2.1; have q2 := hS'.2.2; go_simp; first | done | rfl) ?_
    go_simp
    refine wpAnyT_take 26 rfl (by kernel_rfl) (fun _ _ _ h => h) hS (yields_of rfl fun w' hS' => by have q := hS'.1; have q1 := hS'.2.1; have q2 := hS'.2.2; go_simp; first | done | rfl) ?_
    go_simp
    refine wpAnyT_take 27 rfl (by kernel_rfl) (fun _ _ _ h => h) hS (yields_of rfl fun w' hS' => by have q := hS'.1; have q1 := hS'.2.1; have q2 := hS'.2.2; go_simp; first | done | rfl) ?_
    go_simp
    refine wpAnyT_take 28 rfl (by kernel_rfl) (fun _ _ _ h => h) hS (yields_of rfl fun w' hS' => by have q := hS'.1; have q1 := hS'.2.1; have q2 := hS'.2.2; go_simp; first | done | rfl) ?_
    go_simp
    refine wpAnyT_take 29 rfl (by kernel_rfl) (fun _ _ _ h => h) hS (yields_of rfl fun w' hS' => by have q := hS'.1; have q1 := hS'.2.1; have q2 := hS'.2.2; go_simp; first | done | rfl) ?_
    go_simp
    refine wpAnyT_take 30 rfl (by kernel_rfl) (fun _ _ _ h => h) hS (yields_of rfl fun w' hS' => by have q := hS'.1; have q1 := hS'.2.1; have q2 := hS'.2.2; go_simp; first | done | rfl) ?_
    go_simp
    refine wpAnyT_take 31 rfl (by kernel_rfl) (fun _ _ _ h => h) hS (yields_of rfl fun w' hS' => by have q := hS'.1; have q1 := hS'.2.1; have q2 := hS'.2.2; go_simp; first | done | rfl) ?_
    go_simp
    refine wpAnyT_take 32 rfl (by kernel_rfl) (fun _ _ _ h => h) hS (yields_of rfl fun w' hS' => by have q := hS'.1; have q1 := hS'.2.1; have q2 := hS'.2.2; go_simp; first | done | rfl) ?_
    go_simp
    refine wpAnyT_take 33 rfl (by kernel_rfl) (fun _ _ _ h => h) hS (yields_of rfl fun w' hS' => by have q := hS'.1; have q1 := hS'.2.1; have q2 := hS'.2.2; go_simp; first | done | rfl) ?_
    go_simp
    refine wpAnyT_take 34 rfl (by kernel_rfl) (fun _ _ _ h => h) hS (yields_of rfl fun w' hS' => by have q := hS'.1; have q1 := hS'.2.1; have q2 := hS'.2.2; go_simp; first | done | rfl) ?_
    go_simp
    refine wpAnyT_take 35 rfl (by kernel_rfl) (fun _ _ _ h => h) hS (yields_of rfl fun w' hS' => by have q := hS'.1; have q1 := hS'.2.1; have q2 := hS'.2.2; go_simp; first | done | rfl) ?_
    go_simp
    refine wpAnyT_take 36 rfl (by kernel_rfl) (fun _ _ _ h => h) hS (yields_of rfl fun w' hS' => by have q := hS'.1; have q1 := hS'.2.1; have q2 := hS'.2.2; go_simp; first | done | rfl) ?_
    go_simp
    refine wpAnyT_only 37 (by kernel_rfl) (wpOp_of2 rfl rfl (wp_enter (by go_simp; first | done | rfl) (langOr_any (.slice aa 2 ac) (.slice ba 2 bc) (wordL [97]) (wordL [98]) mk10 w10 HS.out.1.own.inn (HT.out.le HS.out.1.le) HS.out.1.a HS.out.1.b (Fits.of (x := 2) (y := 2) (by simp [wordL_len]) (by simp [wordL_len]) (by decide))) ?_))
    rintro e w11 ⟨r1, C1, rfl, hb, h1, h1l, h1n⟩
    have H1 := Lib.hid (And.intro h1 (And.intro (h1l.congr fun x => by rw [(word_is [97]).sem, (word_is [98]).sem]) (show C1.length ≤ 17 by simpa [wordL_len] using h1n)))
    clear h1 h1l h1n
    have HS := Lib.hid (And.intro (HS.out.1.call hb) HS.out.2)
    clear hb
    refine ⟨_, rfl, andS (And.intro HS.out.1.c1 (And.intro HS.out.1.ca HS.out.1.cb)) fun hS => ?_⟩
    generalize (Mem.grow _ w10 w11) = mk11 at *
    go_simp
    refine wpAnyT_only 38 (by kernel_rfl) (wpOp_of2 rfl rfl (wp_enter (by go_simp; first | done | rfl) (langSubset_any (.slice aa 2 ac) r1 (wordL [97]) C1 mk11 w11 HS.out.1.own.inn (HT.out.le HS.out.1.le) HS.out.1.a H1.out.1 (Fits.of (x := 2) (y := 17) (by simp [wordL_len]) H1.out.2.2 (by decide))) ?_))
    rintro e w12 ⟨rfl, hb⟩
    rw [tf_true (show ∀ x, (Sem (wordL [97]) x && !Sem C1 x) = false from fun x => by rw [(word_is [97]).sem, H1.out.2.1.sem]; exact aw_sub x)]
    clear H1
    have HS := Lib.hid (And.intro (HS.out.1.call hb) HS.out.2)
    clear hb
    refine ⟨_, rfl, andS (And.intro HS.out.1.c1 (And.intro HS.out.1.ca HS.out.1.cb)) fun hS => ?_⟩
    generalize (Mem.grow _ w11 w12) = mk12 at *
    go_simp
    refine wpAnyT_take 39 rfl (by kernel_rfl) (fun _ _ _ h => h) hS (yields_of rfl fun w' hS' => by have q := hS'.1; have q1 := hS'.2.1; have q2 := hS'.2.2; go_simp; first | done | rfl) ?_
    go_simp
    refine wpAnyT_take 40 rfl (by kernel_rfl) (fun _ _ _ h => h) hS (yields_of rfl fun w' hS' => by have q := hS'.1; have q1 := hS'.2.1; have q2 := hS'.2.2; go_simp; first | done | rfl) ?_
    go_simp
    refine wpAnyT_take 41 rfl (by kernel_rfl) (fun _ _ _ h => h) hS (yields_of rfl fun w' hS' => by have q := hS'.1; have q1 := hS'.2.1; have q2 := hS'.2.2; go_simp; first | done | rfl) ?_
    go_simp
    refine wpAnyT_take 43 rfl (by kernel_rfl) (fun _ _ _ h => h) hS (yields_of rfl fun w' hS' => by have q := hS'.1; have q1 := hS'.2.1; have q2 := hS'.2.2; go_simp; first | done | rfl) ?_
    go_simp
    refine wpAnyT_only 42 (by kernel_rfl) (wpOp_of2 rfl rfl (wp_enter (by go_simp; first | done | rfl) (langNot_any (.slice aa 2 ac) (wordL [97]) mk12 w12 HS.out.1.own.inn (HT.out.le HS.out.1.le) HS.out.1.a (by simp [wordL_len])) ?_))
    rintro e w13 ⟨r2', C2, rfl, hb, h1, h1l, h1n⟩
    have H1 := Lib.hid (And.intro h1 (And.intro (h1l.congr fun x => by rw [(word_is [97]).sem]) (show C2.length ≤ 13 by simpa [wordL_len] using h1n)))
    clear h1 h1l h1n
    have HS := Lib.hid (And.intro (HS.out.1.call hb) HS.out.2)
    clear hb
    refine ⟨_, rfl, andS (And.intro HS.out.1.c1 (And.intro HS.out.1.ca HS.out.1.cb)) fun hS => ?_⟩
    generalize (Mem.grow _ w12 w13) = mk13 at *
    go_simp
    refine wpAnyT_only 44 (by kernel_rfl) (wpOp_of2 rfl rfl (wp_enter (by go_simp; first | done | rfl) (langSubset_any r2' (.slice ba 2 bc) C2 (wordL [98]) mk13 w13 HS.out.1.own.inn (HT.out.le HS.out.1.le) H1.out.1 HS.out.1.b (Fits.of (x := 13) (y := 2) H1.out.2.2 (by simp [wordL_len]) (by decide))) ?_))
    rintro e w14 ⟨rfl, hb⟩
    rw [tf_false (show ¬ ∀ x, (Sem C2 x && !Sem (wordL [98]) x) = false from fun h => aw_nsub fun x => by have := h x; rw [(word_is [98]).sem, H1.out.2.1.sem] at this; exact this)]
    clear H1
    have HS := Lib.hid (And.intro (HS.out.1.call hb) HS.out.2)
    clear hb
    refine ⟨_, rfl, andS (And.intro HS.out.1.c1 (And.intro HS.out.1.ca HS.out.1.cb)) fun hS => ?_⟩
    generalize (Mem.grow _ w13 w14) = mk14 at *
    go_simp
    refine wpAnyT_take 45 rfl (by kernel_rfl) (fun _ _ _ h => h) hS (yields_of rfl fun w' hS' => by have q := hS'.1; have q1 := hS'.2.1; have q2 := hS'.2.2; go_simp; first | done | rfl) ?_
    go_simp
    refine wpAnyT_take 46 rfl (by kernel_rfl) (fun _ _ _ h => h) hS (yields_of rfl fun w' hS' => by have q := hS'.1; have q1 := hS'.2.1; have q2 := hS'.2.2; go_simp; first | done | rfl) ?_
    go_simp
    refine wpAnyT_take 47 rfl (by kernel_rfl) (fun _ _ _ h => h) hS (yields_of rfl fun w' hS' => by have q := hS'.1; have q1 := hS'.2.1; have q2 := hS'.2.2; go_simp; first | done | rfl) ?_
    go_simp
    refine wpAnyT_take 48 rfl (by kernel_rfl) (fun _ _ _ h => h) hS (yields_of rfl fun w' hS' => by have q := hS'.1; have q1 := hS'.2.1; have q2 := hS'.2.2; go_simp; first | done | rfl) ?_
    go_simp
    refine wpAnyT_take 49 rfl (by kernel_rfl) (fun _ _ _ h => h) hS (yields_of rfl fun w' hS' => by have q := hS'.1; have q1 := hS'.2.1; have q2 := hS'.2.2; go_simp; first | done | rfl) ?_
    go_simp
    refine wpAnyT_only 50 (by kernel_rfl) (wpOp_of2 rfl rfl (wp_enter (by go_simp; first | done | rfl) (langAnd_any (.slice aa 2 ac) (.slice ba 2 bc) (wordL [97]) (wordL [98]) mk14 w14 HS.out.1.own.inn (HT.out.le HS.out.1.le) HS.out.1.a HS.out.1.b (Fits.of (x := 2) (y := 2) (by simp [wordL_len]) (by simp [wordL_len]) (by decide))) ?_))
    rintro e w15 ⟨r3, C3, rfl, hb, h1, h1l, h1n⟩
    have e : C3 = [] := (nil_iff h1l).2 fun x => by rw [(word_is [97]).sem, (word_is [98]).sem]; exact aw_and x
    subst e
    obtain ⟨za, zc, rfl⟩ : ∃ xa xc, r3 = .slice xa 0 xc := by obtain ⟨x, y, e, -⟩ := h1; exact ⟨x, y, e⟩
    have hfd : ∀ w : World, (Instr.field 24 (.agg #[.slice za 0 zc]) 0).run Tryd.prog w = .ok (.slice za 0 zc) w := fun _ => by kernel_rfl
    clear h1 h1l h1n
    have HS := Lib.hid (And.intro (HS.out.1.call hb) HS.out.2)
    clear hb
    refine ⟨_, rfl, andS (And.intro HS.out.1.c1 (And.intro HS.out.1.ca HS.out.1.cb)) fun hS => ?_⟩
    generalize (Mem.grow _ w14 w15) = mk15 at *
    go_simp
    refine wpAnyT_take 51 rfl (by kernel_rfl) (fun _ _ _ h => h) hS (yields_of rfl fun w' hS' => by have q := hS'.1; have q1 := hS'.2.1; have q2 := hS'.2.2; go_simp; first | done | rfl) ?_
    go_simp
    refine wpAnyT_take 52 rfl (by kernel_rfl) (fun _ _ _ h => h) hS (yields_of rfl fun w' hS' => by have q := hS'.1; have q1 := hS'.2.1; have q2 := hS'.2.2; go_simp; first | done | rfl) ?_
    go_simp
    refine wpAnyT_take 53 rfl (by kernel_rfl) (fun _ _ _ h => h) hS (yields_of rfl fun w' hS' => by have q := hS'.1; have q1 := hS'.2.1; have q2 := hS'.2.2; go_simp; first | done | rfl) ?_
    go_simp
    refine wpAnyT_take 54 rfl (by kernel_rfl) (fun _ _ _ h => h) hS (yields_of rfl fun w' hS' => by have q := hS'.1; have q1 := hS'.2.1; have q2 := hS'.2.2; go_simp; first | done | rfl) ?_
    go_simp
    refine wpAnyT_take 55 rfl (by kernel_rfl) (fun _ _ _ h => h) hS (yields_of rfl fun w' hS' => by have q := hS'.1; have q1 := hS'.2.1; have q2 := hS'.2.2; go_simp; first | done | rfl) ?_
    go_simp
    refine wpAnyT_take 56 rfl (by kernel_rfl) (fun _ _ _ h => h) hS (yields_of rfl fun w' hS' => by have q := hS'.1; have q1 := hS'.2.1; have q2 := hS'.2.2; go_simp; first | done | rfl) ?_
    go_simp
    clear hfd
    refine wpAnyT_only 57 (by kernel_rfl) (wpOp_of2 rfl rfl (wp_enter (by go_simp; first | done | rfl) (langFinite_any (.slice aa 2 ac) (wordL [97]) mk15 w15 HS.out.1.own.inn (HT.out.le HS.out.1.le) HS.out.1.a (by simp [wordL_len])) ?_))
    rintro e w16 ⟨rfl, hb⟩
    rw [tf_true (show FinSet (Sem (wordL [97])) from by rw [show Sem (wordL [97]) = fun x => decide (x = [97]) from funext (word_is [97]).sem]; exact aw_fin)]
    have HS := Lib.hid (And.intro (HS.out.1.call hb) HS.out.2)
    clear hb
    refine ⟨_, rfl, andS (And.intro HS.out.1.c1 (And.intro HS.out.1.ca HS.out.1.cb)) fun hS => ?_⟩
    generalize (Mem.grow _ w15 w16) = mk16 at *
    go_simp
    refine wpAnyT_take 58 rfl (by kernel_rfl) (fun _ _ _ h => h) hS (yields_of rfl fun w' hS' => by have q := hS'.1; have q1 := hS'.2.1; have q2 := hS'.2.2; go_simp; first | done | rfl) ?_
    go_simp
    refine wpAnyT_take 59 rfl (by kernel_rfl) (fun _ _ _ h => h) hS (yields_of rfl fun w' hS' => by have q := hS'.1; have q1 := hS'.2.1; have q2 := hS'.2.2; go_simp; first | done | rfl) ?_
    go_simp
    refine wpAnyT_take 60 rfl (by kernel_rfl) (fun _ _ _ h => h) hS (yields_of rfl fun w' hS' => by have q := hS'.1; have q1 := hS'.2.1; have q2 := hS'.2.2; go_simp; first | done | rfl) ?_
    go_simp
    refine wpAnyT_only 61 (by kernel_rfl) (wpOp_of2 rfl rfl (wp_enter (by go_simp; first | done | rfl) (langNot_any (.slice aa 2 ac) (wordL [97]) mk16 w16 HS.out.1.own.inn (HT.out.le HS.out.1.le) HS.out.1.a (by simp [wordL_len])) ?_))
    rintro e w17 ⟨r5, C2, rfl, hb, h1, h1l, h1n⟩
    have H1 := Lib.hid (And.intro h1 (And.intro (h1l.congr fun x => by rw [(word_is [97]).sem]) (show C2.length ≤ 13 by simpa [wordL_len] using h1n)))
    clear h1 h1l h1n
    have HS := Lib.hid (And.intro (HS.out.1.call hb) HS.out.2)
    clear hb
    refine ⟨_, rfl, andS (And.intro HS.out.1.c1 (And.intro HS.out.1.ca HS.out.1.cb)) fun hS => ?_⟩
    generalize (Mem.grow _ w16 w17) = mk17 at *
    go_simp
    refine wpAnyT_only 62 (by kernel_rfl) (wpOp_of2 rfl rfl (wp_enter (by go_simp; first | done | rfl) (langFinite_any r5 C2 mk17 w17 HS.out.1.own.inn (HT.out.le HS.out.1.le) H1.out.1 (by have := H1.out.2.2; omega)) ?_))
    rintro e w18 ⟨rfl, hb⟩
    rw [tf_false (show ¬ FinSet (Sem C2) from by rw [show Sem C2 = fun x => !decide (x = [97]) from funext H1.out.2.1.sem]; exact aw_nfin)]
    clear H1
    have HS := Lib.hid (And.intro (HS.out.1.call hb) HS.out.2)
    clear hb
    refine ⟨_, rfl, andS (And.intro HS.out.1.c1 (And.intro HS.out.1.ca HS.out.1.cb)) fun hS => ?_⟩
    generalize (Mem.grow _ w17 w18) = mk18 at *
    go_simp
    refine wpAnyT_take 63 rfl (by kernel_rfl) (fun _ _ _ h => h) hS (yields_of rfl fun w' hS' => by have q := hS'.1; have q1 := hS'.2.1; have q2 := hS'.2.2; go_simp; first | done | rfl) ?_
    go_simp
    refine wpAnyT_take 64 rfl (by kernel_rfl) (fun _ _ _ h => h) hS (yields_of rfl fun w' hS' => by have q := hS'.1; have q1 := hS'.2.1; have q2 := hS'.2.2; go_simp; first | done | rfl) ?_
    go_simp
    refine wpAnyT_take 65 rfl (by kernel_rfl) (fun _ _ _ h => h) hS (yields_of rfl fun w' hS' => by have q := hS'.1; have q1 := hS'.2.1; have q2 := hS'.2.2; go_simp; first | done | rfl) ?_
    go_simp
    refine wpAnyT_take 66 rfl (by kernel_rfl) (fun _ _ _ h => h) hS (yields_of rfl fun w' hS' => by have q := hS'.1; have q1 := hS'.2.1; have q2 := hS'.2.2; go_simp; first | done | rfl) ?_
    go_simp
    refine wpAnyT_take 67 rfl (by kernel_rfl) (fun _ _ _ h => h) hS (yields_of rfl fun w' hS' => by have q := hS'.1; have q1 := hS'.2.1; have q2 := hS'.2.2; go_simp; first | done | rfl) ?_
    go_simp
    refine wpAnyT_only 68 (by kernel_rfl) (wpOp_of2 rfl rfl (wp_enter (by go_simp; first | done | rfl) (langCompare_any (.slice aa 2 ac) (.slice ba 2 bc) (wordL [97]) (wordL [98]) mk18 w18 HS.out.1.own.inn (HT.out.le HS.out.1.le) HS.out.1.a HS.out.1.b (by simp [wordL_len])) ?_))
    rintro e w19 ⟨c, rfl, hb, hc⟩
    have e : c = -1 := cmp_unique (hc.congr (word_is [97]).sem (word_is [98]).sem) aw_cmp
    subst e
    clear hc
    have HS := Lib.hid (And.intro (HS.out.1.call hb) HS.out.2)
    clear hb
    refine ⟨_, rfl, andS (And.intro HS.out.1.c1 (And.intro HS.out.1.ca HS.out.1.cb)) fun hS => ?_⟩
    generalize (Mem.grow _ w18 w19) = mk19 at *
    go_simp
    refine wpAnyT_take 69 rfl (by kernel_rfl) (fun _ _ _ h => h) hS (yields_of rfl fun w' hS' => by have q := hS'.1; have q1 := hS'.2.1; have q2 := hS'.2.2; go_simp; first | done | rfl) ?_
    go_simp
    refine wpAnyT_take 70 rfl (by kernel_rfl) (fun _ _ _ h => h) hS (yields_of rfl fun w' hS' => by have q := hS'.1; have q1 := hS'.2.1; have q2 := hS'.2.2; go_simp; first | done | rfl) ?_
    go_simp
    refine wpAnyT_take 71 rfl (by kernel_rfl) (fun _ _ _ h => h) hS (yields_of rfl fun w' hS' => by have q := hS'.1; have q1 := hS'.2.1; have q2 := hS'.2.2; go_simp; first | done | rfl) ?_
    go_simp
    refine wpAnyT_take 72 rfl (by kernel_rfl) (fun _ _ _ h => h) hS (yields_of rfl fun w' hS' => by have q := hS'.1; have q1 := hS'.2.1; have q2 := hS'.2.2; go_simp; first | done | rfl) ?_
    go_simp
    refine wpAnyT_take 74 rfl (by kernel_rfl) (fun _ _ _ h => h) hS (yields_of rfl fun w' hS' => by have q := hS'.1; have q1 := hS'.2.1; have q2 := hS'.2.2; go_simp; first | done | rfl) ?_
    go_simp
    refine wpAnyT_two 73 77 (by kernel_rfl) ?_ ?_
    · refine wpOp_of2 rfl rfl (wp_enter (by go_simp; first | done | rfl) (langNot_any (.slice aa 2 ac) (wordL [97]) mk19 w19 HS.out.1.own.inn (HT.out.le HS.out.1.le) HS.out.1.a (by simp [wordL_len])) ?_)
      rintro e w20 ⟨r6, C2, rfl, hb, h1, h1l, h1n⟩
      have H1 := Lib.hid (And.intro h1 (And.intro (h1l.congr fun x => by rw [(word_is [97]).sem]) (show C2.length ≤ 13 by simpa [wordL_len] using h1n)))
      clear h1 h1l h1n
      have HS := Lib.hid (And.intro (HS.out.1.call hb) HS.out.2)
      clear hb
      refine ⟨_, rfl, andS (And.intro HS.out.1.c1 (And.intro HS.out.1.ca HS.out.1.cb)) fun hS => ?_⟩
      generalize (Mem.grow _ w19 w20) = mk20 at *
      go_simp
      refine wpAnyT_two 75 77 (by kernel_rfl) ?_ ?_
      · refine wpOp_of2 rfl rfl (wp_enter (by go_simp; first | done | rfl) (langMinus_any r6 (.slice ba 2 bc) C2 (wordL [98]) mk20 w20 HS.out.1.own.inn (HT.out.le HS.out.1.le) H1.out.1 HS.out.1.b (Fits.of (x := 13) (y := 2) H1.out.2.2 (by simp [wordL_len]) (by decide))) ?_)
        rintro e w21 ⟨r7, C4, rfl, hb, h1, h1l, h1n⟩
        have hq : (C2.length + 2) * ((wordL [98]).length + 2) ≤ 15 * 4 := Nat.mul_le_mul (by have := H1.out.2.2; omega) (by simp [wordL_len])
        have H2 := Lib.hid (And.intro h1 (And.intro (h1l.congr fun x => by rw [H1.out.2.1.sem, (word_is [98]).sem]) (show C4.length ≤ 61 by omega)))
        clear h1 h1l h1n hq H1
        have HS := Lib.hid (And.intro (HS.out.1.call hb) HS.out.2)
        clear hb
        refine ⟨_, rfl, andS (And.intro HS.out.1.c1 (And.intro HS.out.1.ca HS.out.1.cb)) fun hS => ?_⟩
        generalize (Mem.grow _ w20 w21) = mk21 at *
        go_simp
        refine wpAnyT_two 76 77 (by kernel_rfl) ?_ ?_
        · refine wpOp_of2 rfl rfl (wp_enter (by go_simp; first | done | rfl) (langWords_any r7 C4 2 mk21 w21 HS.out.1.own.inn (HT.out.le HS.out.1.le) H2.out.1 (by omega) (by omega) (by have : want1 2 = 2 := rfl; rw [this]; have := H2.out.2.2; omega)) ?_)
          rintro e w22 ⟨r8, ws, rfl, hb, hst, hfirst⟩
          have e : ws = [[], [0]] := first_unique ((show IsFirst (Sem C4) 2 ws from hfirst).congr H2.out.2.1.sem) aw_first
          subst e
          have HW := Lib.hid (show strsAt _ r8 [⟨#[]⟩, ⟨#[0]⟩] from hst)
          clear hst hfirst H2
          have HS := Lib.hid (And.intro (HS.out.1.call hb) HS.out.2)
          clear hb
          refine ⟨_, rfl, andS (And.intro HS.out.1.c1 (And.intro HS.out.1.ca HS.out.1.cb)) fun hS => ?_⟩
          generalize (Mem.grow _ w21 w22) = mk22 at *
          go_simp
          refine wpAnyT_only 77 (by kernel_rfl) ?_
          have hO := HS.out.1.own.al #[.string ⟨#[]⟩, .string ⟨#[0]⟩] 9
          have hle := Mem.le_add (w := w22.alloc (.cells #[.string ⟨#[]⟩, .string ⟨#[0]⟩] 9)) hO.objFree
          have hS2 : AwS w m (w22.alloc (.cells #[.string ⟨#[]⟩, .string ⟨#[0]⟩] 9)) _ g1 g2 g4 (g4 + 1) _ _ _ _ L := AwS.mk hO.sealObj (Mem.le_trans HS.out.1.le hle) (statesAt_le hle HS.out.1.l) (statesAt_le hle HS.out.1.a) (statesAt_le hle HS.out.1.b)
          have HV := Lib.hid (twoStrs (mk := mk22) hO.obj)
          have HW := Lib.hid (strsAt_le hle HW.out)
          have HS := Lib.hid (And.intro hS2 HS.out.2)
          clear hS2 hle hO
          refine wpOp_of2 rfl rfl (wp_value (by go_simp; first | done | exact ⟨rfl, rfl⟩ | rfl) (andS (And.intro HS.out.1.c1 (And.intro HS.out.1.ca HS.out.1.cb)) fun hS => ?_))
          generalize w22.heap.size = gv at *
          generalize (Mem.add _ _ gv) = mk23 at *
          generalize w22.alloc (.cells #[.string ⟨#[]⟩, .string ⟨#[0]⟩] 9) = w23 at *
          go_simp
          refine wpAnyT_only 78 (by kernel_rfl) (wpOp_of2 rfl rfl (wp_enter (by go_simp; first | done | rfl) (Texts_any r8 _ _ _ _ _ HS.out.1.own.inn HW.out HV.out) ?_))
          rintro e w24 ⟨rfl, hb⟩
          rw [tf_true rfl]
          have HS := Lib.hid (And.intro (HS.out.1.call hb) HS.out.2)
          clear hb
          refine ⟨_, rfl, andS (And.intro HS.out.1.c1 (And.intro HS.out.1.ca HS.out.1.cb)) fun hS => ?_⟩
          go_simp
          refine wpAnyT_take 79 rfl (by kernel_rfl) (fun _ _ _ h => h) hS (yields_of rfl fun w' hS' => by have q := hS'.1; go_simp; first | done | rfl) ?_
          go_simp
          refine wpAnyT_only 80 (by kernel_rfl) (wpOp_of2 rfl rfl (wp_value (by go_simp; first | done | exact ⟨rfl, rfl⟩ | rfl) (andLast rfl ?_)))
          go_simp
          refine wpAnyT_done (by kernel_rfl) ?_ _
          exact hX.out _ _ rfl ⟨rfl, HS.out.1.own.below⟩
        · have hO := HS.out.1.own.al #[.string ⟨#[]⟩, .string ⟨#[0]⟩] 9
          have hle := Mem.le_add (w := w21.alloc (.cells #[.string ⟨#[]⟩, .string ⟨#[0]⟩] 9)) hO.objFree
          have hS2 : AwS w m (w21.alloc (.cells #[.string ⟨#[]⟩, .string ⟨#[0]⟩] 9)) _ g1 g2 g4 (g4 + 1) _ _ _ _ L := AwS.mk hO.sealObj (Mem.le_trans HS.out.1.le hle) (statesAt_le hle HS.out.1.l) (statesAt_le hle HS.out.1.a) (statesAt_le hle HS.out.1.b)
          have HV := Lib.hid (twoStrs (mk := mk21) hO.obj)
          have H2 := Lib.hid (And.intro (statesAt_le hle H2.out.1) H2.out.2)
          have HS := Lib.hid (And.intro hS2 HS.out.2)
          clear hS2 hle hO
          refine wpOp_of2 rfl rfl (wp_value (by go_simp; first | done | exact ⟨rfl, rfl⟩ | rfl) (andS (And.intro HS.out.1.c1 (And.intro HS.out.1.ca HS.out.1.cb)) fun hS => ?_))
          generalize w21.heap.size = gv at *
          generalize (Mem.add _ _ gv) = mk22 at *
          generalize w21.alloc (.cells #[.string ⟨#[]⟩, .string ⟨#[0]⟩] 9) = w22 at *
          go_simp
          refine wpAnyT_only 76 (by kernel_rfl) ?_
          refine wpOp_of2 rfl rfl (wp_enter (by go_simp; first | done | rfl) (langWords_any r7 C4 2 mk22 w22 HS.out.1.own.inn (HT.out.le HS.out.1.le) H2.out.1 (by omega) (by omega) (by have : want1 2 = 2 := rfl; rw [this]; have := H2.out.2.2; omega)) ?_)
          rintro e w23 ⟨r8, ws, rfl, hb, hst, hfirst⟩
          have e : ws = [[], [0]] := first_unique ((show IsFirst (Sem C4) 2 ws from hfirst).congr H2.out.2.1.sem) aw_first
          subst e
          have HW := Lib.hid (show strsAt _ r8 [⟨#[]⟩, ⟨#[0]⟩] from hst)
          clear hst hfirst H2
          have HV := Lib.hid (strsAt_le (Mem.le_grow (w := w23) HS.out.1.own.inn) HV.out)
          have HS := Lib.hid (And.intro (HS.out.1.call hb) HS.out.2)
          clear hb
          refine ⟨_, rfl, andS (And.intro HS.out.1.c1 (And.intro HS.out.1.ca HS.out.1.cb)) fun hS => ?_⟩
          generalize (Mem.grow _ w22 w23) = mk23 at *
          go_simp
          refine wpAnyT_only 78 (by kernel_rfl) (wpOp_of2 rfl rfl (wp_enter (by go_simp; first | done | rfl) (Texts_any r8 _ _ _ _ _ HS.out.1.own.inn HW.out HV.out) ?_))
          rintro e w24 ⟨rfl, hb⟩
          rw [tf_true rfl]
          have HS := Lib.hid (And.intro (HS.out.1.call hb) HS.out.2)
          clear hb
          refine ⟨_, rfl, andS (And.intro HS.out.1.c1 (And.intro HS.out.1.ca HS.out.1.cb)) fun hS => ?_⟩
          go_simp
          refine wpAnyT_take 79 rfl (by kernel_rfl) (fun _ _ _ h => h) hS (yields_of rfl fun w' hS' => by have q := hS'.1; go_simp; first | done | rfl) ?_
          go_simp
          refine wpAnyT_only 80 (by kernel_rfl) (wpOp_of2 rfl rfl (wp_value (by go_simp; first | done | exact ⟨rfl, rfl⟩ | rfl) (andLast rfl ?_)))
          go_simp
          refine wpAnyT_done (by kernel_rfl) ?_ _
          exact hX.out _ _ rfl ⟨rfl, HS.out.1.own.below⟩
      · have hO := HS.out.1.own.al #[.string ⟨#[]⟩, .string ⟨#[0]⟩] 9
        have hle := Mem.le_add (w := w20.alloc (.cells #[.string ⟨#[]⟩, .string ⟨#[0]⟩] 9)) hO.objFree
        have hS2 : AwS w m (w20.alloc (.cells #[.string ⟨#[]⟩, .string ⟨#[0]⟩] 9)) _ g1 g2 g4 (g4 + 1) _ _ _ _ L := AwS.mk hO.sealObj (Mem.le_trans HS.out.1.le hle) (statesAt_le hle HS.out.1.l) (statesAt_le hle HS.out.1.a) (statesAt_le hle HS.out.1.b)
        have HV := Lib.hid (twoStrs (mk := mk20) hO.obj)
        have H1 := Lib.hid (And.intro (statesAt_le hle H1.out.1) H1.out.2)
        have HS := Lib.hid (And.intro hS2 HS.out.2)
        clear hS2 hle hO
        refine wpOp_of2 rfl rfl (wp_value (by go_simp; first | done | exact ⟨rfl, rfl⟩ | rfl) (andS (And.intro HS.out.1.c1 (And.intro HS.out.1.ca HS.out.1.cb)) fun hS => ?_))
        generalize w20.heap.size = gv at *
        generalize (Mem.add _ _ gv) = mk21 at *
        generalize w20.alloc (.cells #[.string ⟨#[]⟩, .string ⟨#[0]⟩] 9) = w21 at *
        go_simp
        refine wpAnyT_only 75 (by kernel_rfl) ?_
        refine wpOp_of2 rfl rfl (wp_enter (by go_simp; first | done | rfl) (langMinus_any r6 (.slice ba 2 bc) C2 (wordL [98]) mk21 w21 HS.out.1.own.inn (HT.out.le HS.out.1.le) H1.out.1 HS.out.1.b (Fits.of (x := 13) (y := 2) H1.out.2.2 (by simp [wordL_len]) (by decide))) ?_)
        rintro e w22 ⟨r7, C4, rfl, hb, h1, h1l, h1n⟩
        have hq : (C2.length + 2) * ((wordL [98]).length + 2) ≤ 15 * 4 := Nat.mul_le_mul (by have := H1.out.2.2; omega) (by simp [wordL_len])
        have H2 := Lib.hid (And.intro h1 (And.intro (h1l.congr fun x => by rw [H1.out.2.1.sem, (word_is [98]).sem]) (show C4.length ≤ 61 by omega)))
        clear h1 h1l h1n hq H1
        have HV := Lib.hid (strsAt_le (Mem.le_grow (w := w22) HS.out.1.own.inn) HV.out)
        have HS := Lib.hid (And.intro (HS.out.1.call hb) HS.out.2)
        clear hb
        refine ⟨_, rfl, andS (And.intro HS.out.1.c1 (And.intro HS.out.1.ca HS.out.1.cb)) fun hS => ?_⟩
        generalize (Mem.grow _ w21 w22) = mk22 at *
        go_simp
        refine wpAnyT_only 76 (by kernel_rfl) ?_
        refine wpOp_of2 rfl rfl (wp_enter (by go_simp; first | done | rfl) (langWords_any r7 C4 2 mk22 w22 HS.out.1.own.inn (HT.out.le HS.out.1.le) H2.out.1 (by omega) (by omega) (by have : want1 2 = 2 := rfl; rw [this]; have := H2.out.2.2; omega)) ?_)
        rintro e w23 ⟨r8, ws, rfl, hb, hst, hfirst⟩
        have e : ws = [[], [0]] := first_unique ((show IsFirst (Sem C4) 2 ws from hfirst).congr H2.out.2.1.sem) aw_first
        subst e
        have HW := Lib.hid (show strsAt _ r8 [⟨#[]⟩, ⟨#[0]⟩] from hst)
        clear hst hfirst H2
        have HV := Lib.hid (strsAt_le (Mem.le_grow (w := w23) HS.out.1.own.inn) HV.out)
        have HS := Lib.hid (And.intro (HS.out.1.call hb) HS.out.2)
        clear hb
        refine ⟨_, rfl, andS (And.intro HS.out.1.c1 (And.intro HS.out.1.ca HS.out.1.cb)) fun hS => ?_⟩
        generalize (Mem.grow _ w22 w23) = mk23 at *
        go_simp
        refine wpAnyT_only 78 (by kernel_rfl) (wpOp_of2 rfl rfl (wp_enter (by go_simp; first | done | rfl) (Texts_any r8 _ _ _ _ _ HS.out.1.own.inn HW.out HV.out) ?_))
        rintro e w24 ⟨rfl, hb⟩
        rw [tf_true rfl]
        have HS := Lib.hid (And.intro (HS.out.1.call hb) HS.out.2)
        clear hb
        refine ⟨_, rfl, andS (And.intro HS.out.1.c1 (And.intro HS.out.1.ca HS.out.1.cb)) fun hS => ?_⟩
        go_simp
        refine wpAnyT_take 79 rfl (by kernel_rfl) (fun _ _ _ h => h) hS (yields_of rfl fun w' hS' => by have q := hS'.1; go_simp; first | done | rfl) ?_
        go_simp
        refine wpAnyT_only 80 (by kernel_rfl) (wpOp_of2 rfl rfl (wp_value (by go_simp; first | done | exact ⟨rfl, rfl⟩ | rfl) (andLast rfl ?_)))
        go_simp
        refine wpAnyT_done (by kernel_rfl) ?_ _
        exact hX.out _ _ rfl ⟨rfl, HS.out.1.own.below⟩
    · have hO := HS.out.1.own.al #[.string ⟨#[]⟩, .string ⟨#[0]⟩] 9
      have hle := Mem.le_add (w := w19.alloc (.cells #[.string ⟨#[]⟩, .string ⟨#[0]⟩] 9)) hO.objFree
      have hS2 : AwS w m (w19.alloc (.cells #[.string ⟨#[]⟩, .string ⟨#[0]⟩] 9)) _ g1 g2 g4 (g4 + 1) _ _ _ _ L := AwS.mk hO.sealObj (Mem.le_trans HS.out.1.le hle) (statesAt_le hle HS.out.1.l) (statesAt_le hle HS.out.1.a) (statesAt_le hle HS.out.1.b)
      have HV := Lib.hid (twoStrs (mk := mk19) hO.obj)
      have HS := Lib.hid (And.intro hS2 HS.out.2)
      clear hS2 hle hO
      refine wpOp_of2 rfl rfl (wp_value (by go_simp; first | done | exact ⟨rfl, rfl⟩ | rfl) (andS (And.intro HS.out.1.c1 (And.intro HS.out.1.ca HS.out.1.cb)) fun hS => ?_))
      generalize w19.heap.size = gv at *
      generalize (Mem.add _ _ gv) = mk20 at *
      generalize w19.alloc (.cells #[.string ⟨#[]⟩, .string ⟨#[0]⟩] 9) = w20 at *
      go_simp
      refine wpAnyT_only 73 (by kernel_rfl) ?_
      refine wpOp_of2 rfl rfl (wp_enter (by go_simp; first | done | rfl) (langNot_any (.slice aa 2 ac) (wordL [97]) mk20 w20 HS.out.1.own.inn (HT.out.le HS.out.1.le) HS.out.1.a (by simp [wordL_len])) ?_)
      rintro e w21 ⟨r6, C2, rfl, hb, h1, h1l, h1n⟩
      have H1 := Lib.hid (And.intro h1 (And.intro (h1l.congr fun x => by rw [(word_is [97]).sem]) (show C2.length ≤ 13 by simpa [wordL_len] using h1n)))
      clear h1 h1l h1n
      have HV := Lib.hid (strsAt_le (Mem.le_grow (w := w21) HS.out.1.own.inn) HV.out)
      have HS := Lib.hid (And.intro (HS.out.1.call hb) HS.out.2)
      clear hb
      refine ⟨_, rfl, andS (And.intro HS.out.1.c1 (And.intro HS.out.1.ca HS.out.1.cb)) fun hS => ?_⟩
      generalize (Mem.grow _ w20 w21) = mk21 at *
      go_simp
      refine wpAnyT_only 75 (by kernel_rfl) ?_
      refine wpOp_of2 rfl rfl (wp_enter (by go_simp; first | done | rfl) (langMinus_any r6 (.slice ba 2 bc) C2 (wordL [98]) mk21 w21 HS.out.1.own.inn (HT.out.le HS.out.1.le) H1.out.1 HS.out.1.b (Fits.of (x := 13) (y := 2) H1.out.2.2 (by simp [wordL_len]) (by decide))) ?_)
      rintro e w22 ⟨r7, C4, rfl, hb, h1, h1l, h1n⟩
      have hq : (C2.length + 2) * ((wordL [98]).length + 2) ≤ 15 * 4 := Nat.mul_le_mul (by have := H1.out.2.2; omega) (by simp [wordL_len])
      have H2 := Lib.hid (And.intro h1 (And.intro (h1l.congr fun x => by rw [H1.out.2.1.sem, (word_is [98]).sem]) (show C4.length ≤ 61 by omega)))
      clear h1 h1l h1n hq H1
      have HV := Lib.hid (strsAt_le (Mem.le_grow (w := w22) HS.out.1.own.inn) HV.out)
      have HS := Lib.hid (And.intro (HS.out.1.call hb) HS.out.2)
      clear hb
      refine ⟨_, rfl, andS (And.intro HS.out.1.c1 (And.intro HS.out.1.ca HS.out.1.cb)) fun hS => ?_⟩
      generalize (Mem.grow _ w21 w22) = mk22 at *
      go_simp
      refine wpAnyT_only 76 (by kernel_rfl) ?_
      refine wpOp_of2 rfl rfl (wp_enter (by go_simp; first | done | rfl) (langWords_any r7 C4 2 mk22 w22 HS.out.1.own.inn (HT.out.le HS.out.1.le) H2.out.1 (by omega) (by omega) (by have : want1 2 = 2 := rfl; rw [this]; have := H2.out.2.2; omega)) ?_)
      rintro e w23 ⟨r8, ws, rfl, hb, hst, hfirst⟩
      have e : ws = [[], [0]] := first_unique ((show IsFirst (Sem C4) 2 ws from hfirst).congr H2.out.2.1.sem) aw_first
      subst e
      have HW := Lib.hid (show strsAt _ r8 [⟨#[]⟩, ⟨#[0]⟩] from hst)
      clear hst hfirst H2
      have HV := Lib.hid (strsAt_le (Mem.le_grow (w := w23) HS.out.1.own.inn) HV.out)
      have HS := Lib.hid (And.intro (HS.out.1.call hb) HS.out.2)
      clear hb
      refine ⟨_, rfl, andS (And.intro HS.out.1.c1 (And.intro HS.out.1.ca HS.out.1.cb)) fun hS => ?_⟩
      generalize (Mem.grow _ w22 w23) = mk23 at *
      go_simp
      refine wpAnyT_only 78 (by kernel_rfl) (wpOp_of2 rfl rfl (wp_enter (by go_simp; first | done | rfl) (Texts_any r8 _ _ _ _ _ HS.out.1.own.inn HW.out HV.out) ?_))
      rintro e w24 ⟨rfl, hb⟩
      rw [tf_true rfl]
      have HS := Lib.hid (And.intro (HS.out.1.call hb) HS.out.2)
      clear hb
      refine ⟨_, rfl, andS (And.intro HS.out.1.c1 (And.intro HS.out.1.ca HS.out.1.cb)) fun hS => ?_⟩
      go_simp
      refine wpAnyT_take 79 rfl (by kernel_rfl) (fun _ _ _ h => h) hS (yields_of rfl fun w' hS' => by have q := hS'.1; go_simp; first | done | rfl) ?_
      go_simp
      refine wpAnyT_only 80 (by kernel_rfl) (wpOp_of2 rfl rfl (wp_value (by go_simp; first | done | exact ⟨rfl, rfl⟩ | rfl) (andLast rfl ?_)))
      go_simp
      refine wpAnyT_done (by kernel_rfl) ?_ _
      exact hX.out _ _ rfl ⟨rfl, HS.out.1.own.below⟩
  rintro z vs w99 - ⟨rfl, hb⟩
  simp [litL, lk]
  go_wp2
  exact hR.out _ _ ⟨rfl, hb⟩
end Cl

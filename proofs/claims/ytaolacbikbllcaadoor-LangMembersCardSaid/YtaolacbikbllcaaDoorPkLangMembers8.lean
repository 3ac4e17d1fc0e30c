/- Lemmas for the proof, part 8: WalkBP, Facts, LawM. -/
import Derived.RegionTactic
import Derived.ChangeAlike
import Derived.WalkKit
import Derived.OrdersHeld
import Derived.Deep.RegionHeld
import Derived.Test.YtaolacbikbllcaaDoorPkLangMembers1
import Derived.Test.YtaolacbikbllcaaDoorPkLangMembers2
import Derived.Test.YtaolacbikbllcaaDoorPkLangMembers3
import Derived.Test.YtaolacbikbllcaaDoorPkLangMembers4
import Derived.Test.YtaolacbikbllcaaDoorPkLangMembers5
import Derived.Test.YtaolacbikbllcaaDoorPkLangMembers6
import Derived.Test.YtaolacbikbllcaaDoorPkLangMembers7
namespace Cl
open Go Go.RowKit Go.Proofs

theorem tl_of (l : List UInt8) : (ByteArray.mk l.toArray).toList = l := ByteArray.toList_mk l

theorem aw_bound (m : Mem) (w : World) (hm : m.inn w) (htab : TabM m) :
    Calls Tryd.prog 33 #[.string ⟨#[60]⟩, .string ⟨#[98]⟩] w fun e w' => ∃ r C, e = .returned (.tuple #[.agg #[r], .int .i64 0]) ∧ Below w.heap.size w w' ∧ statesAt (m.grow w w') r C ∧ LangIs (belowB false · [98]) C ∧ C.length ≤ 10000 := by
  have e : boundF (ByteArray.toList ⟨#[60]⟩) [98] = some (belowB false · [98]) := by
    rw [show ByteArray.toList ⟨#[60]⟩ = [60] from tl_of [60]]; rfl
  refine (langBound_any ⟨#[60]⟩ ⟨#[98]⟩ m w hm htab (by decide) (by decide)).mono ?_
  rintro x w' ⟨r, C, rfl, h1, h2, h3, -, h5⟩
  refine ⟨r, C, ?_, h1, h2, h3 _ e, h5⟩
  rw [show boundF (ByteArray.toList ⟨#[60]⟩) (ByteArray.mk #[98]).data.toList = some (belowB false · [98]) from e]
  rfl
theorem aw_bound2 (m : Mem) (w : World) (hm : m.inn w) (htab : TabM m) :
    Calls Tryd.prog 33 #[.string ⟨#[61]⟩, .string ⟨#[98]⟩] w fun e w' => ∃ xa n xc, e = .returned (.tuple #[.agg #[.slice xa n xc], .int .i64 8]) ∧ Below w.heap.size w w' := by
  have e : boundF (ByteArray.toList ⟨#[61]⟩) [98] = none := by
    rw [show ByteArray.toList ⟨#[61]⟩ = [61] from tl_of [61]]; rfl
  refine (langBound_any ⟨#[61]⟩ ⟨#[98]⟩ m w hm htab (by decide) (by decide)).mono ?_
  rintro x w' ⟨r, C, rfl, h1, h2, -⟩
  obtain ⟨xa, xc, rfl, -⟩ := h2
  refine ⟨xa, C.length, xc, ?_, h1⟩
  rw [show boundF (ByteArray.toList ⟨#[61]⟩) (ByteArray.mk #[98]).data.toList = none from e]
  rfl
theorem aw_word (c : UInt8) (m : Mem) (w : World) (hm : m.inn w) :
    Calls Tryd.prog 34 #[.string ⟨#[c]⟩] w fun e w' => ∃ r, e = .returned (.agg #[r]) ∧ Below w.heap.size w w' ∧ statesAt (m.grow w w') r (wordL [c]) := by
  refine (r05Word_any ⟨#[c]⟩ m w hm (by simp [ByteArray.size])).mono ?_
  rintro x w' ⟨r, rfl, h1, h2⟩
  exact ⟨r, rfl, h1, by rw [← wordT_eq ⟨#[c]⟩]; exact h2⟩
theorem aw_acc {f : List UInt8 → Bool} {C : Table} (h : LangIs f C) (s : List UInt8) : (tf (WF C) && accFrom C 0 s) = f s := by
  rw [tf_true h.canon.wf, h.lang]; rfl

/-- what awake holds when its four automata are laid -/
structure AwS (w : World) (m : Mem) (wr : World) (mk : Mem) (g1 g2 ga gb : Nat) (r r2 ra rb : Value) (L : Table) : Prop where
  own : Own w m wr mk [.obj gb 24 #[rb], .obj ga 24 #[ra], .obj g2 24 #[r2], .obj g1 24 #[r]]
  le : m.le mk
  l : statesAt mk r L
  a : statesAt mk ra (wordL [97])
  b : statesAt mk rb (wordL [98])
theorem AwS.call {w : World} {m : Mem} {wr : World} {mk : Mem} {g1 g2 ga gb : Nat} {r r2 ra rb : Value} {L : Table} (h : AwS w m wr mk g1 g2 ga gb r r2 ra rb L) {w' : World} (hb : Below wr.heap.size wr w') :
    AwS w m w' (mk.grow wr w') g1 g2 ga gb r r2 ra rb L :=
  have q := Mem.le_grow (w := w') h.own.inn
  ⟨h.own.call hb, Mem.le_trans h.le q, statesAt_le q h.l, statesAt_le q h.a, statesAt_le q h.b⟩
theorem AwS.c1 {w : World} {m : Mem} {wr : World} {mk : Mem} {g1 g2 ga gb : Nat} {r r2 ra rb : Value} {L : Table} (h : AwS w m wr mk g1 g2 ga gb r r2 ra rb L) : wr.cell? ⟨g1, 0, none⟩ = some r := (h.own.at_obj (g := g1) (t := 24) (arr := #[r]) (by simp)).cell (i := 0) rfl
theorem AwS.ca {w : World} {m : Mem} {wr : World} {mk : Mem} {g1 g2 ga gb : Nat} {r r2 ra rb : Value} {L : Table} (h : AwS w m wr mk g1 g2 ga gb r r2 ra rb L) : wr.cell? ⟨ga, 0, none⟩ = some ra := (h.own.at_obj (g := ga) (t := 24) (arr := #[ra]) (by simp)).cell (i := 0) rfl
theorem AwS.cb {w : World} {m : Mem} {wr : World} {mk : Mem} {g1 g2 ga gb : Nat} {r r2 ra rb : Value} {L : Table} (h : AwS w m wr mk g1 g2 ga gb r r2 ra rb L) : wr.cell? ⟨gb, 0, none⟩ = some rb := (h.own.at_obj (g := gb) (t := 24) (arr := #[rb]) (by simp)).cell (i := 0) rfl

theorem twoStrs {mk : Mem} {w : World} {g : Nat} {t : TypeId} (h : ObjAt w g t #[.string ⟨#[]⟩, .string ⟨#[0]⟩]) : strsAt (mk.add w g) (.slice (some ⟨g, 0, none⟩) 2 2) [⟨#[]⟩, ⟨#[0]⟩] := by
  refine ⟨some ⟨g, 0, none⟩, 2, rfl, by simp, by simp [maxLen], fun _ => ⟨g, 0, rfl, fun i hi => ?_⟩⟩
  have : i = 0 ∨ i = 1 := by
    have : i < 2 := hi
    omega
  rcases this with rfl | rfl
  · exact ⟨Mem.add_cell h rfl, by simp [ByteArray.size, maxLen]⟩
  · exact ⟨Mem.add_cell h rfl, by simp [ByteArray.size, maxLen]⟩

set_option maxRecDepth 100000 in
set_option maxHeartbeats 8000000 in
theorem awake_any (m : Mem) (w : World) (hm : m.inn w) (htab : TabM m) :
    Calls Tryd.prog 11 #[] w fun e w' => e = .returned (.bool true) ∧ Below w.heap.size w w' := by
  have HB := Lib.hid (aw_bound m w hm htab)
  have HM := Lib.hid hm
  have HT := Lib.hid htab
  clear hm htab
  refine calls_hide fun R hR => ?_
  go_enter Tryd.func11, Tryd.ntmps11
  go_wp2_with fail
  refine HB.out.mono ?_
  rintro e w1 ⟨r, L, rfl, hb1, hl, hL, hLlen⟩
  obtain ⟨la, lc, rfl⟩ : ∃ xa xc, r = .slice xa L.length xc := by obtain ⟨x, y, e, -⟩ := hl; exact ⟨x, y, e⟩
  generalize L.length = ln at *
  have HO := Lib.hid (And.intro (((Own.start HM.out).call hb1).al #[.slice la ln lc] 24) (And.intro (Mem.le_grow (w := w1) HM.out) (And.intro hl (And.intro hL hLlen))))
  clear HB HM hb1 hl hL hLlen
  generalize m.grow w w1 = mk at *
  have HB := Lib.hid (aw_bound2 mk _ HO.out.1.inn (HT.out.le HO.out.2.1))
  go_wp2_with fail
  refine HB.out.mono ?_
  rintro e w2 ⟨x2, n2, y2, rfl, hb2⟩
  have hO2 := (HO.out.1.call hb2).al #[.slice x2 n2 y2] 24
  have hle2 := Mem.le_grow (w := w2) HO.out.1.inn
  have HO := Lib.hid (And.intro hO2 (And.intro (Mem.le_trans HO.out.2.1 hle2) (And.intro (statesAt_le hle2 HO.out.2.2.1) HO.out.2.2.2)))
  clear HB hb2 hO2 hle2
  generalize mk.grow _ w2 = mk2 at *
  have HB := Lib.hid (aw_word 97 mk2 _ HO.out.1.inn)
  go_wp2_with fail
  refine HB.out.mono ?_
  rintro e w3 ⟨ra, rfl, hb3, ha⟩
  have hO3 := HO.out.1.call hb3
  have hle3 := Mem.le_grow (w := w3) HO.out.1.inn
  have HO := Lib.hid (And.intro hO3 (And.intro (Mem.le_trans HO.out.2.1 hle3) (And.intro (statesAt_le hle3 HO.out.2.2.1) (And.intro ha HO.out.2.2.2))))
  clear HB hb3 hO3 hle3 ha
  generalize mk2.grow _ w3 = mk3 at *
  have HB := Lib.hid (aw_word 98 mk3 _ HO.out.1.inn)
  go_wp2_with fail
  refine HB.out.mono ?_
  rintro e w4 ⟨rb, rfl, hb4, hb⟩
  obtain ⟨aa, ac, rfl⟩ : ∃ xa xc, ra = .slice xa 2 xc := by obtain ⟨x, y, e, -⟩ := HO.out.2.2.2.1; exact ⟨x, y, e⟩
  obtain ⟨ba, bc, rfl⟩ : ∃ xa xc, rb = .slice xa 2 xc := by obtain ⟨x, y, e, -⟩ := hb; exact ⟨x, y, e⟩
  have hle4 := Mem.le_grow (w := w4) HO.out.1.inn
  have hO4 := ((HO.out.1.call hb4).al #[.slice aa 2 ac] 24).al #[.slice ba 2 bc] 24
  have hsz : (w4.alloc (.cells #[.slice aa 2 ac] 24)).heap.size = w4.heap.size + 1 := by simp
  rw [hsz] at hO4
  have HS := Lib.hid (And.intro (AwS.mk hO4 (Mem.le_trans HO.out.2.1 hle4) (statesAt_le hle4 HO.out.2.2.1) (statesAt_le hle4 HO.out.2.2.2.1) hb) HO.out.2.2.2.2)
  clear HB hb4 hO4 hle4 HO hsz hb
  generalize mk3.grow w3 w4 = mk4 at *
  generalize w1.heap.size = g1 at *
  generalize w2.heap.size = g2 at *
  have cb := HS.out.1.cb
  have ca := HS.out.1.ca
  have HB := Lib.hid (langOr_any (.slice ba 2 bc) (.slice aa 2 ac) _ _ mk4 _ HS.out.1.own.inn (HT.out.le HS.out.1.le) HS.out.1.b HS.out.1.a (Fits.of (x := 2) (y := 2) (by simp [wordL_len]) (by simp [wordL_len]) (by decide)))
  go_wp2_with fail
  refine HB.out.mono ?_
  rintro e w5 ⟨ro, C, rfl, hb5, hC, hCl, hClen⟩
  have hCl := hCl.congr fun x => by rw [(word_is [98]).sem, (word_is [97]).sem]
  simp only [wordL_len, List.length_cons, List.length_nil] at hClen
  have HS := Lib.hid (And.intro (HS.out.1.call hb5) HS.out.2)
  have HC := Lib.hid (And.intro hC (And.intro hCl hClen))
  clear HB hb5 hC hCl hClen ca cb
  generalize mk4.grow _ w5 = mk5 at *
  have HB := Lib.hid (langLeast_any ro C mk5 w5 HS.out.1.own.inn (HT.out.le HS.out.1.le) HC.out.1 (by have := HC.out.2.2; omega))
  have ca := HS.out.1.ca
  generalize w4.heap.size = g4 at *
  go_wp2_with fail
  refine HB.out.mono ?_
  rintro e w6 ⟨o, rfl, hb6, ho⟩
  have ho : o = some [97] := by
    have e : Sem C = fun x => decide (x = [98]) || decide (x = [97]) := funext HC.out.2.1.sem
    rw [e] at ho
    exact least_unique ho aw_least
  subst ho
  rw [optV_some, show bstr [97] = ⟨#[97]⟩ from rfl]
  have HS := Lib.hid (And.intro (HS.out.1.call hb6) HS.out.2)
  clear HB hb6 HC ca
  generalize mk5.grow _ w6 = mk6 at *
  have ca := HS.out.1.ca
  have c1 := HS.out.1.c1
  have HB := Lib.hid (langSingle_any (.slice aa 2 ac) (wordL [97]) mk6 w6 HS.out.1.own.inn (HT.out.le HS.out.1.le) HS.out.1.a (by simp [wordL_len]))
  go_wp2_with fail
  refine HB.out.mono ?_
  rintro e w7 ⟨o, rfl, hb7, ho⟩
  have ho : o = some [97] := by
    refine sing_unique (f := fun x => decide (x = [97])) (ho.congr fun x => (word_is [97]).sem x) ⟨by decide, fun y hy => ?_⟩
    simpa using hy
  subst ho
  rw [optV_some, show bstr [97] = ⟨#[97]⟩ from rfl]
  have HS := Lib.hid (And.intro (HS.out.1.call hb7) HS.out.2)
  clear HB hb7 ca c1
  generalize mk6.grow _ w7 = mk7 at *
  go_wp2_with fail
  refine wp_cut_keep [0] (fun vs w' => vs = [.bool true] ∧ Below w.heap.size w w') ?_ ?_
  · intro X hX
    refine wp_region_T (fun w' => w'.cell? ⟨g1, 0, none⟩ = some (.slice la ln lc) ∧ w'.cell? ⟨g4, 0, none⟩ = some (.slice aa 2 ac) ∧ w'.cell? ⟨g4 + 1, 0, none⟩ = some (.slice ba 2 bc)) 80 (by kernel_rfl) ?_
    have HS := Lib.hid (And.intro (HS.out.1.call (Below.refl _ _).drew) HS.out.2)
    generalize mk7.grow w7 w7.drew = mk7 at *
    generalize w7.drew = w7 at *
    have hS := And.intro HS.out.1.c1 (And.intro HS.out.1.ca HS.out.1.cb)
    refine wpAnyT_take 0 rfl (by kernel_rfl) (fun _ _ _ h => h) hS (yields_of rfl fun w' hS' => by have q := hS'.1; have q1 := hS'.2.1; have q2 := hS'.2.2; go_simp; first | done | rfl) ?_
    go_simp
    refine wpAnyT_take 1 rfl (by kernel_rfl) (fun _ _ _ h => h) hS (yields_of rfl fun w' hS' => by have q := hS'.1; have q1 := hS'.2.1; have q2 := hS'.2.2; go_simp; first | done | rfl) ?_
    go_simp
    refine wpAnyT_take 2 rfl (by kernel_rfl) (fun _ _ _ h => h) hS (yields_of rfl fun w' hS' => by have q := hS'.1; have q1 := hS'.2.1; have q2 := hS'.2.2; go_simp; first | done | rfl) ?_
    go_simp
    refine wpAnyT_take 3 rfl (by kernel_rfl) (fun _ _ _ h => h) hS (yields_of rfl fun w' hS' => by have q := hS'.1; have q1 := hS'.2.1; have q2 := hS'.2.2; go_simp; first | done | rfl) ?_
    go_simp
    refine wpAnyT_take 4 rfl (by kernel_rfl) (fun _ _ _ h => h) hS (yields_of rfl fun w' hS' => by have q := hS'.1; have q1 := hS'.2.1; have q2 := hS'.2.2; go_simp; first | done | rfl) ?_
    go_simp
    refine wpAnyT_take 5 rfl (by kernel_rfl) (fun _ _ _ h => h) hS (yields_of rfl fun w' hS' => by have q := hS'.1; have q1 := hS'.2.1; have q2 := hS'.2.2; go_simp; first | done | rfl) ?_
    go_simp
    refine wpAnyT_take 6 rfl (by kernel_rfl) (fun _ _ _ h => h) hS (yields_of rfl fun w' hS' => by have q := hS'.1; have q1 := hS'.2.1; have q2 := hS'.2.2; go_simp; first | done | rfl) ?_
    go_simp
    refine wpAnyT_take 7 rfl (by kernel_rfl) (fun _ _ _ h => h) hS (yields_of rfl fun w' hS' => by have q := hS'.1; have q1 := hS'.2.1; have q2 := hS'.2.2; go_simp; first | done | rfl) ?_
    go_simp
    refine wpAnyT_only 8 (by kernel_rfl) (wpOp_of2 rfl rfl (wp_enter (by go_simp; first | done | rfl) (r05Accepts_any (.slice la ln lc) L ⟨#[]⟩ mk7 w7 HS.out.1.own.inn HS.out.1.l (by simp [ByteArray.size, maxLen])) ?_))
    rintro e w8 ⟨rfl, hb⟩
    rw [show (tf (WF L) && accFrom L 0 (ByteArray.data ⟨#[]⟩).toList) = true from (aw_acc HS.out.2.1 []).trans (by simp [belowB])]
    have HS := Lib.hid (And.intro (HS.out.1.call hb) HS.out.2)
    clear hb
    refine ⟨_, rfl, andS (And.intro HS.out.1.c1 (And.intro HS.out.1.ca HS.out.1.cb)) fun hS => ?_⟩
    generalize (Mem.grow _ w7 w8) = mk8 at *
    go_simp
    refine wpAnyT_take 9 rfl (by kernel_rfl) (fun _ _ _ h => h) hS (yields_of rfl fun w' hS' => by have q := hS'.1; have q1 := hS'.2.1; have q2 := hS'.2.2; go_simp; first | done | rfl) ?_
    go_simp
    refine wpAnyT_take 10 rfl (by kernel_rfl) (fun _ _ _ h => h) hS (yields_of rfl fun w' hS' => by have q := hS'.1; have q1 := hS'.2.1; have q2 := hS'.2.2; go_simp; first | done | rfl) ?_
    go_simp
    refine wpAnyT_take 11 rfl (by kernel_rfl) (fun _ _ _ h => h) hS (yields_of rfl fun w' hS' => by have q := hS'.1; have q1 := hS'.2.1; have q2 := hS'.2.2; go_simp; first | done | rfl) ?_
    go_simp
    refine wpAnyT_only 12 (by kernel_rfl) (wpOp_of2 rfl rfl (wp_enter (by go_simp; first | done | rfl) (r05Accepts_any (.slice la ln lc) L ⟨#[97, 122, 122]⟩ mk8 w8 HS.out.1.own.inn HS.out.1.l (by simp [ByteArray.size, maxLen])) ?_))
    rintro e w9 ⟨rfl, hb⟩
    rw [show (tf (WF L) && accFrom L 0 (ByteArray.data ⟨#[97, 122, 122]⟩).toList) = true from (aw_acc HS.out.2.1 [97, 122, 122]).trans (by simp [belowB])]
    have HS := Lib.hid (And.intro (HS.out.1.call hb) HS.out.2)
    clear hb
    refine ⟨_, rfl, andS (And.intro HS.out.1.c1 (And.intro HS.out.1.ca HS.out.1.cb)) fun hS => ?_⟩
    generalize (Mem.grow _ w8 w9) = mk9 at *
    go_simp
    refine wpAnyT_take 13 rfl (by kernel_rfl) (fun _ _ _ h => h) hS (yields_of rfl fun w' hS' => by have q := hS'.1; have q1 := hS'.2.1; have q2 := hS'.2.2; go_simp; first | done | rfl) ?_
    go_simp
    refine wpAnyT_take 14 rfl (by kernel_rfl) (fun _ _ _ h => h) hS (yields_of rfl fun w' hS' => by have q := hS'.1; have q1 := hS'.2.1; have q2 := hS'.2.2; go_simp; first | done | rfl) ?_
    go_simp
    refine wpAnyT_take 15 rfl (by kernel_rfl) (fun _ _ _ h => h) hS (yields_of rfl fun w' hS' => by have q := hS'.1; have q1 := hS'.2.1; have q2 := hS'.2.2; go_simp; first | done | rfl) ?_
    go_simp
    refine wpAnyT_only 16 (by kernel_rfl) (wpOp_of2 rfl rfl (wp_enter (by go_simp; first | done | rfl) (r05Accepts_any (.slice la ln lc) L ⟨#[98]⟩ mk9 w9 HS.out.1.own.inn HS.out.1.l (by simp [ByteArray.size, maxLen])) ?_))
    rintro e w10 ⟨rfl, hb⟩
    rw [show (tf (WF L) && accFrom L 0 (ByteArray.data ⟨#[98]⟩).toList) = false from (aw_acc HS.out.2.1 [98]).trans (by simp [belowB])]
    have HS := Lib.hid (And.intro (HS.out.1.call hb) HS.out.2)
    clear hb
    refine ⟨_, rfl, andS (And.intro HS.out.1.c1 (And.intro HS.out.1.ca HS.out.1.cb)) fun hS => ?_⟩
    generalize (Mem.grow _ w9 w10) = mk10 at *
    go_simp
    refine wpAnyT_take 17 rfl (by kernel_rfl) (fun _ _ _ h => h) hS (yields_of rfl fun w' hS' => by have q := hS'.1; have q1 := hS'.2.1; have q2 := hS'.2.2; go_simp; first | done | rfl) ?_
    go_simp
    refine wpAnyT_take 18 rfl (by kernel_rfl) (fun _ _ _ h => h) hS (yields_of rfl fun w' hS' => by have q := hS'.1; have q1 := hS'.2.1; have q2 := hS'.2.2; go_simp; first | done | rfl) ?_
    go_simp
    refine wpAnyT_take 19 rfl (by kernel_rfl) (fun _ _ _ h => h) hS (yields_of rfl fun w' hS' => by have q := hS'.1; have q1 := hS'.2.1; have q2 := hS'.2.2; go_simp; first | done | rfl) ?_
    go_simp
    refine wpAnyT_take 20 rfl (by kernel_rfl) (fun _ _ _ h => h) hS (yields_of rfl fun w' hS' => by have q := hS'.1; have q1 := hS'.2.1; have q2 := hS'.2.2; go_simp; first | done | rfl) ?_
    go_simp
    refine wpAnyT_take 21 rfl (by kernel_rfl) (fun _ _ _ h => h) hS (yields_of rfl fun w' hS' => by have q := hS'.1; have q1 := hS'.2.1; have q2 := hS'.2.2; go_simp; first | done | rfl) ?_
    go_simp
    refine wpAnyT_take 22 rfl (by kernel_rfl) (fun _ _ _ h => h) hS (yields_of rfl fun w' hS' => by have q := hS'.1; have q1 := hS'.2.1; have q2 := hS'.2.2; go_simp; first | done | rfl) ?_
    go_simp
    refine wpAnyT_take 23 rfl (by kernel_rfl) (fun _ _ _ h => h) hS (yields_of rfl fun w' hS' => by have q := hS'.1; have q1 := hS'.2.1; have q2 := hS'.2.2; go_simp; first | done | rfl) ?_
    go_simp
    refine wpAnyT_take 24 rfl (by kernel_rfl) (fun _ _ _ h => h) hS (yields_of rfl fun w' hS' => by have q := hS'.1; have q1 := hS'.2.1; have q2 := hS'.2.2; go_simp; first | done | rfl) ?_
    go_simp
    refine wpAnyT_take 25 rfl (by kernel_rfl) (fun _ _ _ h => h) hS (yields_of rfl fun w' hS' => by have q := hS'.1; have q1 := hS'.2.1; have q2 := hS'.2.2; go_simp; first | done | rfl) ?_
    go_simp
    refine wpAnyT_take 26 rfl (by kernel_rfl) (fun _ _ _ h => h) hS (yields_of rfl fun w' hS' => by have q := hS'.1; have q1 := hS'.2.1; have q2 := hS'.2.2; go_simp; first | done | rfl) ?_
    go_simp
    refine wpAnyT_take 27 rfl (by kernel_rfl) (fun _ _ _ h => h) hS (yields_of rfl fun w' hS' => by have q := hS'.1; have q1 := hS'.2.1; have q2 := hS'.2.2; go_simp; first | done | rfl) ?_
    go_simp
    refine wpAnyT_take 28 rfl (by kernel_rfl) (fun _ _ _ h => h) hS (yields_of rfl fun w' hS' => by have q := hS'.1; have q1 := hS'.2.1; have q2 := hS'.2.2; go_simp; first | done | rfl) ?_
    go_simp
    refine wpAnyT_take 29 rfl (by kernel_rfl) (fun _ _ _ h => h) hS (yields_of rfl fun w' hS' => by have q := hS'.1; have q1 := hS'.2.1; have q2 := hS'.2.2; go_simp; first | done | rfl) ?_
    go_simp
    refine wpAnyT_take 30 rfl (by kernel_rfl) (fun _ _ _ h => h) hS (yields_of rfl fun w' hS' => by have q := hS'.1; have q1 := hS'.2.1; have q2 := hS'.2.2; go_simp; first | done | rfl) ?_
    go_simp
    refine wpAnyT_take 31 rfl (by kernel_rfl) (fun _ _ _ h => h) hS (yields_of rfl fun w' hS' => by have q := hS'.1; have q1 := hS'.2.1; have q2 := hS'.2.2; go_simp; first | done | rfl) ?_
    go_simp
    refine wpAnyT_take 32 rfl (by kernel_rfl) (fun _ _ _ h => h) hS (yields_of rfl fun w' hS' => by have q := hS'.1; have q1 := hS'.2.1; have q2 := hS'.2.2; go_simp; first | done | rfl) ?_
    go_simp
    refine wpAnyT_take 33 rfl (by kernel_rfl) (fun _ _ _ h => h) hS (yields_of rfl fun w' hS' => by have q := hS'.1; have q1 := hS'.2.1; have q2 := hS'.2.2; go_simp; first | done | rfl) ?_
    go_simp
    refine wpAnyT_take 34 rfl (by kernel_rfl) (fun _ _ _ h => h) hS (yields_of rfl fun w' hS' => by have q := hS'.1; have q1 := hS'.2.1; have q2 := hS'.2.2; go_simp; first | done | rfl) ?_
    go_simp
    refine wpAnyT_take 35 rfl (by kernel_rfl) (fun _ _ _ h => h) hS (yields_of rfl fun w' hS' => by have q := hS'.1; have q1 := hS'.2.1; have q2 := hS'.2.2; go_simp; first | done | rfl) ?_
    go_simp
    refine wpAnyT_take 36 rfl (by kernel_rfl) (fun _ _ _ h => h) hS (yields_of rfl fun w' hS' => by have q := hS'.1; have q1 := hS'.2.1; have q2 := hS'.2.2; go_simp; first | done | rfl) ?_
    go_simp
    refine wpAnyT_only 37 (by kernel_rfl) (wpOp_of2 rfl rfl (wp_enter (by go_simp; first | done | rfl) (langOr_any (.slice aa 2 ac) (.slice ba 2 bc) (wordL [97]) (wordL [98]) mk10 w10 HS.out.1.own.inn (HT.out.le HS.out.1.le) HS.out.1.a HS.out.1.b (Fits.of (x := 2) (y := 2) (by simp [wordL_len]) (by simp [wordL_len]) (by decide))) ?_))
    rintro e w11 ⟨r1, C1, rfl, hb, h1, h1l, h1n⟩
    have H1 := Lib.hid (And.intro h1 (And.intro (h1l.congr fun x => by rw [(word_is [97]).sem, (word_is [98]).sem]) (show C1.length ≤ 17 by simpa [wordL_len] using h1n)))
    clear h1 h1l h1n
    have HS := Lib.hid (And.intro (HS.out.1.call hb) HS.out.2)
    clear hb
    refine ⟨_, rfl, andS (And.intro HS.out.1.c1 (And.intro HS.out.1.ca HS.out.1.cb)) fun hS => ?_⟩
    generalize (Mem.grow _ w10 w11) = mk11 at *
    go_simp
    refine wpAnyT_only 38 (by kernel_rfl) (wpOp_of2 rfl rfl (wp_enter (by go_simp; first | done | rfl) (langSubset_any (.slice aa 2 ac) r1 (wordL [97]) C1 mk11 w11 HS.out.1.own.inn (HT.out.le HS.out.1.le) HS.out.1.a H1.out.1 (Fits.of (x := 2) (y := 17) (by simp [wordL_len]) H1.out.2.2 (by decide))) ?_))
    rintro e w12 ⟨rfl, hb⟩
    rw [tf_true (show ∀ x, (Sem (wordL [97]) x && !Sem C1 x) = false from fun x => by rw [(word_is [97]).sem, H1.out.2.1.sem]; exact aw_sub x)]
    clear H1
    have HS := Lib.hid (And.intro (HS.out.1.call hb) HS.out.2)
    clear hb
    refine ⟨_, rfl, andS (And.intro HS.out.1.c1 (And.intro HS.out.1.ca HS.out.1.cb)) fun hS => ?_⟩
    generalize (Mem.grow _ w11 w12) = mk12 at *
    go_simp
    refine wpAnyT_take 39 rfl (by kernel_rfl) (fun _ _ _ h => h) hS (yields_of rfl fun w' hS' => by have q := hS'.1; have q1 := hS'.2.1; have q2 := hS'.2.2; go_simp; first | done | rfl) ?_
    go_simp
    refine wpAnyT_take 40 rfl (by kernel_rfl) (fun _ _ _ h => h) hS (yields_of rfl fun w' hS' => by have q := hS'.1; have q1 := hS'.2.1; have q2 := hS'.2.2; go_simp; first | done | rfl) ?_
    go_simp
    refine wpAnyT_take 41 rfl (by kernel_rfl) (fun _ _ _ h => h) hS (yields_of rfl fun w' hS' => by have q := hS'.1; have q1 := hS'.2.1; have q2 := hS'.2.2; go_simp; first | done | rfl) ?_
    go_simp
    refine wpAnyT_take 43 rfl (by kernel_rfl) (fun _ _ _ h => h) hS (yields_of rfl fun w' hS' => by have q := hS'.1; have q1 := hS'.2.1; have q2 := hS'.2.2; go_simp; first | done | rfl) ?_
    go_simp
    refine wpAnyT_only 42 (by kernel_rfl) (wpOp_of2 rfl rfl (wp_enter (by go_simp; first | done | rfl) (langNot_any (.slice aa 2 ac) (wordL [97]) mk12 w12 HS.out.1.own.inn (HT.out.le HS.out.1.le) HS.out.1.a (by simp [wordL_len])) ?_))
    rintro e w13 ⟨r2', C2, rfl, hb, h1, h1l, h1n⟩
    have H1 := Lib.hid (And.intro h1 (And.intro (h1l.congr fun x => by rw [(word_is [97]).sem]) (show C2.length ≤ 13 by simpa [wordL_len] using h1n)))
    clear h1 h1l h1n
    have HS := Lib.hid (And.intro (HS.out.1.call hb) HS.out.2)
    clear hb
    refine ⟨_, rfl, andS (And.intro HS.out.1.c1 (And.intro HS.out.1.ca HS.out.1.cb)) fun hS => ?_⟩
    generalize (Mem.grow _ w12 w13) = mk13 at *
    go_simp
    refine wpAnyT_only 44 (by kernel_rfl) (wpOp_of2 rfl rfl (wp_enter (by go_simp; first | done | rfl) (langSubset_any r2' (.slice ba 2 bc) C2 (wordL [98]) mk13 w13 HS.out.1.own.inn (HT.out.le HS.out.1.le) H1.out.1 HS.out.1.b (Fits.of (x := 13) (y := 2) H1.out.2.2 (by simp [wordL_len]) (by decide))) ?_))
    rintro e w14 ⟨rfl, hb⟩
    rw [tf_false (show ¬ ∀ x, (Sem C2 x && !Sem (wordL [98]) x) = false from fun h => aw_nsub fun x => by have := h x; rw [(word_is [98]).sem, H1.out.2.1.sem] at this; exact this)]
    clear H1
    have HS := Lib.hid (And.intro (HS.out.1.call hb) HS.out.2)
    clear hb
    refine ⟨_, rfl, andS (And.intro HS.out.1.c1 (And.intro HS.out.1.ca HS.out.1.cb)) fun hS => ?_⟩
    generalize (Mem.grow _ w13 w14) = mk14 at *
    go_simp
    refine wpAnyT_take 45 rfl (by kernel_rfl) (fun _ _ _ h => h) hS (yields_of rfl fun w' hS' => by have q := hS'.1; have q1 := hS'.2.1; have q2 := hS'.2.2; go_simp; first | done | rfl) ?_
    go_simp
    refine wpAnyT_take 46 rfl (by kernel_rfl) (fun _ _ _ h => h) hS (yields_of rfl fun w' hS' => by have q := hS'.1; have q1 := hS'.2.1; have q2 := hS'.2.2; go_simp; first | done | rfl) ?_
    go_simp
    refine wpAnyT_take 47 rfl (by kernel_rfl) (fun _ _ _ h => h) hS (yields_of rfl fun w' hS' => by have q := hS'.1; have q1 := hS'.2.1; have q2 := hS'.2.2; go_simp; first | done | rfl) ?_
    go_simp
    refine wpAnyT_take 48 rfl (by kernel_rfl) (fun _ _ _ h => h) hS (yields_of rfl fun w' hS' => by have q := hS'.1; have q1 := hS'.2.1; have q2 := hS'.2.2; go_simp; first | done | rfl) ?_
    go_simp
    refine wpAnyT_take 49 rfl (by kernel_rfl) (fun _ _ _ h => h) hS (yields_of rfl fun w' hS' => by have q := hS'.1; have q1 := hS'.2.1; have q2 := hS'.2.2; go_simp; first | done | rfl) ?_
    go_simp
    refine wpAnyT_only 50 (by kernel_rfl) (wpOp_of2 rfl rfl (wp_enter (by go_simp; first | done | rfl) (langAnd_any (.slice aa 2 ac) (.slice ba 2 bc) (wordL [97]) (wordL [98]) mk14 w14 HS.out.1.own.inn (HT.out.le HS.out.1.le) HS.out.1.a HS.out.1.b (Fits.of (x := 2) (y := 2) (by simp [wordL_len]) (by simp [wordL_len]) (by decide))) ?_))
    rintro e w15 ⟨r3, C3, rfl, hb, h1, h1l, h1n⟩
    have e : C3 = [] := (nil_iff h1l).2 fun x => by rw [(word_is [97]).sem, (word_is [98]).sem]; exact aw_and x
    subst e
    obtain ⟨za, zc, rfl⟩ : ∃ xa xc, r3 = .slice xa 0 xc := by obtain ⟨x, y, e, -⟩ := h1; exact ⟨x, y, e⟩
    have hfd : ∀ w : World, (Instr.field 24 (.agg #[.slice za 0 zc]) 0).run Tryd.prog w = .ok (.slice za 0 zc) w := fun _ => by kernel_rfl
    clear h1 h1l h1n
    have HS := Lib.hid (And.intro (HS.out.1.call hb) HS.out.2)
    clear hb
    refine ⟨_, rfl, andS (And.intro HS.out.1.c1 (And.intro HS.out.1.ca HS.out.1.cb)) fun hS => ?_⟩
    generalize (Mem.grow _ w14 w15) = mk15 at *
    go_simp
    refine wpAnyT_take 51 rfl (by kernel_rfl) (fun _ _ _ h => h) hS (yields_of rfl fun w' hS' => by have q := hS'.1; have q1 := hS'.2.1; have q2 := hS'.2.2; go_simp; first | done | rfl) ?_
    go_simp
    refine wpAnyT_take 52 rfl (by kernel_rfl) (fun _ _ _ h => h) hS (yields_of rfl fun w' hS' => by have q := hS'.1; have q1 := hS'.2.1; have q2 := hS'.2.2; go_simp; first | done | rfl) ?_
    go_simp
    refine wpAnyT_take 53 rfl (by kernel_rfl) (fun _ _ _ h => h) hS (yields_of rfl fun w' hS' => by have q := hS'.1; have q1 := hS'.2.1; have q2 := hS'.2.2; go_simp; first | done | rfl) ?_
    go_simp
    refine wpAnyT_take 54 rfl (by kernel_rfl) (fun _ _ _ h => h) hS (yields_of rfl fun w' hS' => by have q := hS'.1; have q1 := hS'.2.1; have q2 := hS'.2.2; go_simp; first | done | rfl) ?_
    go_simp
    refine wpAnyT_take 55 rfl (by kernel_rfl) (fun _ _ _ h => h) hS (yields_of rfl fun w' hS' => by have q := hS'.1; have q1 := hS'.2.1; have q2 := hS'.2.2; go_simp; first | done | rfl) ?_
    go_simp
    refine wpAnyT_take 56 rfl (by kernel_rfl) (fun _ _ _ h => h) hS (yields_of rfl fun w' hS' => by have q := hS'.1; have q1 := hS'.2.1; have q2 := hS'.2.2; go_simp; first | done | rfl) ?_
    go_simp
    clear hfd
    refine wpAnyT_only 57 (by kernel_rfl) (wpOp_of2 rfl rfl (wp_enter (by go_simp; first | done | rfl) (langFinite_any (.slice aa 2 ac) (wordL [97]) mk15 w15 HS.out.1.own.inn (HT.out.le HS.out.1.le) HS.out.1.a (by simp [wordL_len])) ?_))
    rintro e w16 ⟨rfl, hb⟩
    rw [tf_true (show FinSet (Sem (wordL [97])) from by rw [show Sem (wordL [97]) = fun x => decide (x = [97]) from funext (word_is [97]).sem]; exact aw_fin)]
    have HS := Lib.hid (And.intro (HS.out.1.call hb) HS.out.2)
    clear hb
    refine ⟨_, rfl, andS (And.intro HS.out.1.c1 (And.intro HS.out.1.ca HS.out.1.cb)) fun hS => ?_⟩
    generalize (Mem.grow _ w15 w16) = mk16 at *
    go_simp
    refine wpAnyT_take 58 rfl (by kernel_rfl) (fun _ _ _ h => h) hS (yields_of rfl fun w' hS' => by have q := hS'.1; have q1 := hS'.2.1; have q2 := hS'.2.2; go_simp; first | done | rfl) ?_
    go_simp
    refine wpAnyT_take 59 rfl (by kernel_rfl) (fun _ _ _ h => h) hS (yields_of rfl fun w' hS' => by have q := hS'.1; have q1 := hS'.2.1; have q2 := hS'.2.2; go_simp; first | done | rfl) ?_
    go_simp
    refine wpAnyT_take 60 rfl (by kernel_rfl) (fun _ _ _ h => h) hS (yields_of rfl fun w' hS' => by have q := hS'.1; have q1 := hS'.2.1; have q2 := hS'.2.2; go_simp; first | done | rfl) ?_
    go_simp
    refine wpAnyT_only 61 (by kernel_rfl) (wpOp_of2 rfl rfl (wp_enter (by go_simp; first | done | rfl) (langNot_any (.slice aa 2 ac) (wordL [97]) mk16 w16 HS.out.1.own.inn (HT.out.le HS.out.1.le) HS.out.1.a (by simp [wordL_len])) ?_))
    rintro e w17 ⟨r5, C2, rfl, hb, h1, h1l, h1n⟩
    have H1 := Lib.hid (And.intro h1 (And.intro (h1l.congr fun x => by rw [(word_is [97]).sem]) (show C2.length ≤ 13 by simpa [wordL_len] using h1n)))
    clear h1 h1l h1n
    have HS := Lib.hid (And.intro (HS.out.1.call hb) HS.out.2)
    clear hb
    refine ⟨_, rfl, andS (And.intro HS.out.1.c1 (And.intro HS.out.1.ca HS.out.1.cb)) fun hS => ?_⟩
    generalize (Mem.grow _ w16 w17) = mk17 at *
    go_simp
    refine wpAnyT_only 62 (by kernel_rfl) (wpOp_of2 rfl rfl (wp_enter (by go_simp; first | done | rfl) (langFinite_any r5 C2 mk17 w17 HS.out.1.own.inn (HT.out.le HS.out.1.le) H1.out.1 (by have := H1.out.2.2; omega)) ?_))
    rintro e w18 ⟨rfl, hb⟩
    rw [tf_false (show ¬ FinSet (Sem C2) from by rw [show Sem C2 = fun x => !decide (x = [97]) from funext H1.out.2.1.sem]; exact aw_nfin)]
    clear H1
    have HS := Lib.hid (And.intro (HS.out.1.call hb) HS.out.2)
    clear hb
    refine ⟨_, rfl, andS (And.intro HS.out.1.c1 (And.intro HS.out.1.ca HS.out.1.cb)) fun hS => ?_⟩
    generalize (Mem.grow _ w17 w18) = mk18 at *
    go_simp
    refine wpAnyT_take 63 rfl (by kernel_rfl) (fun _ _ _ h => h) hS (yields_of rfl fun w' hS' => by have q := hS'.1; have q1 := hS'.2.1; have q2 := hS'.2.2; go_simp; first | done | rfl) ?_
    go_simp
    refine wpAnyT_take 64 rfl (by kernel_rfl) (fun _ _ _ h => h) hS (yields_of rfl fun w' hS' => by have q := hS'.1; have q1 := hS'.2.1; have q2 := hS'.2.2; go_simp; first | done | rfl) ?_
    go_simp
    refine wpAnyT_take 65 rfl (by kernel_rfl) (fun _ _ _ h => h) hS (yields_of rfl fun w' hS' => by have q := hS'.1; have q1 := hS'.2.1; have q2 := hS'.2.2; go_simp; first | done | rfl) ?_
    go_simp
    refine wpAnyT_take 66 rfl (by kernel_rfl) (fun _ _ _ h => h) hS (yields_of rfl fun w' hS' => by have q := hS'.1; have q1 := hS'.2.1; have q2 := hS'.2.2; go_simp; first | done | rfl) ?_
    go_simp
    refine wpAnyT_take 67 rfl (by kernel_rfl) (fun _ _ _ h => h) hS (yields_of rfl fun w' hS' => by have q := hS'.1; have q1 := hS'.2.1; have q2 := hS'.2.2; go_simp; first | done | rfl) ?_
    go_simp
    refine wpAnyT_only 68 (by kernel_rfl) (wpOp_of2 rfl rfl (wp_enter (by go_simp; first | done | rfl) (langCompare_any (.slice aa 2 ac) (.slice ba 2 bc) (wordL [97]) (wordL [98]) mk18 w18 HS.out.1.own.inn (HT.out.le HS.out.1.le) HS.out.1.a HS.out.1.b (by simp [wordL_len])) ?_))
    rintro e w19 ⟨c, rfl, hb, hc⟩
    have e : c = -1 := cmp_unique (hc.congr (word_is [97]).sem (word_is [98]).sem) aw_cmp
    subst e
    clear hc
    have HS := Lib.hid (And.intro (HS.out.1.call hb) HS.out.2)
    clear hb
    refine ⟨_, rfl, andS (And.intro HS.out.1.c1 (And.intro HS.out.1.ca HS.out.1.cb)) fun hS => ?_⟩
    generalize (Mem.grow _ w18 w19) = mk19 at *
    go_simp
    refine wpAnyT_take 69 rfl (by kernel_rfl) (fun _ _ _ h => h) hS (yields_of rfl fun w' hS' => by have q := hS'.1; have q1 := hS'.2.1; have q2 := hS'.2.2; go_simp; first | done | rfl) ?_
    go_simp
    refine wpAnyT_take 70 rfl (by kernel_rfl) (fun _ _ _ h => h) hS (yields_of rfl fun w' hS' => by have q := hS'.1; have q1 := hS'.2.1; have q2 := hS'.2.2; go_simp; first | done | rfl) ?_
    go_simp
    refine wpAnyT_take 71 rfl (by kernel_rfl) (fun _ _ _ h => h) hS (yields_of rfl fun w' hS' => by have q := hS'.1; have q1 := hS'.2.1; have q2 := hS'.2.2; go_simp; first | done | rfl) ?_
    go_simp
    refine wpAnyT_take 72 rfl (by kernel_rfl) (fun _ _ _ h => h) hS (yields_of rfl fun w' hS' => by have q := hS'.1; have q1 := hS'.2.1; have q2 := hS'.2.2; go_simp; first | done | rfl) ?_
    go_simp
    refine wpAnyT_take 74 rfl (by kernel_rfl) (fun _ _ _ h => h) hS (yields_of rfl fun w' hS' => by have q := hS'.1; have q1 := hS'.2.1; have q2 := hS'.2.2; go_simp; first | done | rfl) ?_
    go_simp
    refine wpAnyT_two 73 77 (by kernel_rfl) ?_ ?_
    · refine wpOp_of2 rfl rfl (wp_enter (by go_simp; first | done | rfl) (langNot_any (.slice aa 2 ac) (wordL [97]) mk19 w19 HS.out.1.own.inn (HT.out.le HS.out.1.le) HS.out.1.a (by simp [wordL_len])) ?_)
      rintro e w20 ⟨r6, C2, rfl, hb, h1, h1l, h1n⟩
      have H1 := Lib.hid (And.intro h1 (And.intro (h1l.congr fun x => by rw [(word_is [97]).sem]) (show C2.length ≤ 13 by simpa [wordL_len] using h1n)))
      clear h1 h1l h1n
      have HS := Lib.hid (And.intro (HS.out.1.call hb) HS.out.2)
      clear hb
      refine ⟨_, rfl, andS (And.intro HS.out.1.c1 (And.intro HS.out.1.ca HS.out.1.cb)) fun hS => ?_⟩
      generalize (Mem.grow _ w19 w20) = mk20 at *
      go_simp
      refine wpAnyT_two 75 77 (by kernel_rfl) ?_ ?_
      · refine wpOp_of2 rfl rfl (wp_enter (by go_simp; first | done | rfl) (langMinus_any r6 (.slice ba 2 bc) C2 (wordL [98]) mk20 w20 HS.out.1.own.inn (HT.out.le HS.out.1.le) H1.out.1 HS.out.1.b (Fits.of (x := 13) (y := 2) H1.out.2.2 (by simp [wordL_len]) (by decide))) ?_)
        rintro e w21 ⟨r7, C4, rfl, hb, h1, h1l, h1n⟩
        have hq : (C2.length + 2) * ((wordL [98]).length + 2) ≤ 15 * 4 := Nat.mul_le_mul (by have := H1.out.2.2; omega) (by simp [wordL_len])
        have H2 := Lib.hid (And.intro h1 (And.intro (h1l.congr fun x => by rw [H1.out.2.1.sem, (word_is [98]).sem]) (show C4.length ≤ 61 by omega)))
        clear h1 h1l h1n hq H1
        have HS := Lib.hid (And.intro (HS.out.1.call hb) HS.out.2)
        clear hb
        refine ⟨_, rfl, andS (And.intro HS.out.1.c1 (And.intro HS.out.1.ca HS.out.1.cb)) fun hS => ?_⟩
        generalize (Mem.grow _ w20 w21) = mk21 at *
        go_simp
        refine wpAnyT_two 76 77 (by kernel_rfl) ?_ ?_
        · refine wpOp_of2 rfl rfl (wp_enter (by go_simp; first | done | rfl) (langWords_any r7 C4 2 mk21 w21 HS.out.1.own.inn (HT.out.le HS.out.1.le) H2.out.1 (by omega) (by omega) (by have : want1 2 = 2 := rfl; rw [this]; have := H2.out.2.2; omega)) ?_)
          rintro e w22 ⟨r8, ws, rfl, hb, hst, hfirst⟩
          have e : ws = [[], [0]] := first_unique ((show IsFirst (Sem C4) 2 ws from hfirst).congr H2.out.2.1.sem) aw_first
          subst e
          have HW := Lib.hid (show strsAt _ r8 [⟨#[]⟩, ⟨#[0]⟩] from hst)
          clear hst hfirst H2
          have HS := Lib.hid (And.intro (HS.out.1.call hb) HS.out.2)
          clear hb
          refine ⟨_, rfl, andS (And.intro HS.out.1.c1 (And.intro HS.out.1.ca HS.out.1.cb)) fun hS => ?_⟩
          generalize (Mem.grow _ w21 w22) = mk22 at *
          go_simp
          refine wpAnyT_only 77 (by kernel_rfl) ?_
          have hO := HS.out.1.own.al #[.string ⟨#[]⟩, .string ⟨#[0]⟩] 9
          have hle := Mem.le_add (w := w22.alloc (.cells #[.string ⟨#[]⟩, .string ⟨#[0]⟩] 9)) hO.objFree
          have hS2 : AwS w m (w22.alloc (.cells #[.string ⟨#[]⟩, .string ⟨#[0]⟩] 9)) _ g1 g2 g4 (g4 + 1) _ _ _ _ L := AwS.mk hO.sealObj (Mem.le_trans HS.out.1.le hle) (statesAt_le hle HS.out.1.l) (statesAt_le hle HS.out.1.a) (statesAt_le hle HS.out.1.b)
          have HV := Lib.hid (twoStrs (mk := mk22) hO.obj)
          have HW := Lib.hid (strsAt_le hle HW.out)
          have HS := Lib.hid (And.intro hS2 HS.out.2)
          clear hS2 hle hO
          refine wpOp_of2 rfl rfl (wp_value (by go_simp; first | done | exact ⟨rfl, rfl⟩ | rfl) (andS (And.intro HS.out.1.c1 (And.intro HS.out.1.ca HS.out.1.cb)) fun hS => ?_))
          generalize w22.heap.size = gv at *
          generalize (Mem.add _ _ gv) = mk23 at *
          generalize w22.alloc (.cells #[.string ⟨#[]⟩, .string ⟨#[0]⟩] 9) = w23 at *
          go_simp
          refine wpAnyT_only 78 (by kernel_rfl) (wpOp_of2 rfl rfl (wp_enter (by go_simp; first | done | rfl) (Texts_any r8 _ _ _ _ _ HS.out.1.own.inn HW.out HV.out) ?_))
          rintro e w24 ⟨rfl, hb⟩
          rw [tf_true rfl]
          have HS := Lib.hid (And.intro (HS.out.1.call hb) HS.out.2)
          clear hb
          refine ⟨_, rfl, andS (And.intro HS.out.1.c1 (And.intro HS.out.1.ca HS.out.1.cb)) fun hS => ?_⟩
          go_simp
          refine wpAnyT_take 79 rfl (by kernel_rfl) (fun _ _ _ h => h) hS (yields_of rfl fun w' hS' => by have q := hS'.1; go_simp; first | done | rfl) ?_
          go_simp
          refine wpAnyT_only 80 (by kernel_rfl) (wpOp_of2 rfl rfl (wp_value (by go_simp; first | done | exact ⟨rfl, rfl⟩ | rfl) (andLast rfl ?_)))
          go_simp
          refine wpAnyT_done (by kernel_rfl) ?_ _
          exact hX.out _ _ rfl ⟨rfl, HS.out.1.own.below⟩
        · have hO := HS.out.1.own.al #[.string ⟨#[]⟩, .string ⟨#[0]⟩] 9
          have hle := Mem.le_add (w := w21.alloc (.cells #[.string ⟨#[]⟩, .string ⟨#[0]⟩] 9)) hO.objFree
          have hS2 : AwS w m (w21.alloc (.cells #[.string ⟨#[]⟩, .string ⟨#[0]⟩] 9)) _ g1 g2 g4 (g4 + 1) _ _ _ _ L := AwS.mk hO.sealObj (Mem.le_trans HS.out.1.le hle) (statesAt_le hle HS.out.1.l) (statesAt_le hle HS.out.1.a) (statesAt_le hle HS.out.1.b)
          have HV := Lib.hid (twoStrs (mk := mk21) hO.obj)
          have H2 := Lib.hid (And.intro (statesAt_le hle H2.out.1) H2.out.2)
          have HS := Lib.hid (And.intro hS2 HS.out.2)
          clear hS2 hle hO
          refine wpOp_of2 rfl rfl (wp_value (by go_simp; first | done | exact ⟨rfl, rfl⟩ | rfl) (andS (And.intro HS.out.1.c1 (And.intro HS.out.1.ca HS.out.1.cb)) fun hS => ?_))
          generalize w21.heap.size = gv at *
          generalize (Mem.add _ _ gv) = mk22 at *
          generalize w21.alloc (.cells #[.string ⟨#[]⟩, .string ⟨#[0]⟩] 9) = w22 at *
          go_simp
          refine wpAnyT_only 76 (by kernel_rfl) ?_
          refine wpOp_of2 rfl rfl (wp_enter (by go_simp; first | done | rfl) (langWords_any r7 C4 2 mk22 w22 HS.out.1.own.inn (HT.out.le HS.out.1.le) H2.out.1 (by omega) (by omega) (by have : want1 2 = 2 := rfl; rw [this]; have := H2.out.2.2; omega)) ?_)
          rintro e w23 ⟨r8, ws, rfl, hb, hst, hfirst⟩
          have e : ws = [[], [0]] := first_unique ((show IsFirst (Sem C4) 2 ws from hfirst).congr H2.out.2.1.sem) aw_first
          subst e
          have HW := Lib.hid (show strsAt _ r8 [⟨#[]⟩, ⟨#[0]⟩] from hst)
          clear hst hfirst H2
          have HV := Lib.hid (strsAt_le (Mem.le_grow (w := w23) HS.out.1.own.inn) HV.out)
          have HS := Lib.hid (And.intro (HS.out.1.call hb) HS.out.2)
          clear hb
          refine ⟨_, rfl, andS (And.intro HS.out.1.c1 (And.intro HS.out.1.ca HS.out.1.cb)) fun hS => ?_⟩
          generalize (Mem.grow _ w22 w23) = mk23 at *
          go_simp
          refine wpAnyT_only 78 (by kernel_rfl) (wpOp_of2 rfl rfl (wp_enter (by go_simp; first | done | rfl) (Texts_any r8 _ _ _ _ _ HS.out.1.own.inn HW.out HV.out) ?_))
          rintro e w24 ⟨rfl, hb⟩
          rw [tf_true rfl]
          have HS := Lib.hid (And.intro (HS.out.1.call hb) HS.out.2)
          clear hb
          refine ⟨_, rfl, andS (And.intro HS.out.1.c1 (And.intro HS.out.1.ca HS.out.1.cb)) fun hS => ?_⟩
          go_simp
          refine wpAnyT_take 79 rfl (by kernel_rfl) (fun _ _ _ h => h) hS (yields_of rfl fun w' hS' => by have q := hS'.1; go_simp; first | done | rfl) ?_
          go_simp
          refine wpAnyT_only 80 (by kernel_rfl) (wpOp_of2 rfl rfl (wp_value (by go_simp; first | done | exact ⟨rfl, rfl⟩ | rfl) (andLast rfl ?_)))
          go_simp
          refine wpAnyT_done (by kernel_rfl) ?_ _
          exact hX.out _ _ rfl ⟨rfl, HS.out.1.own.below⟩
      · have hO := HS.out.1.own.al #[.string ⟨#[]⟩, .string ⟨#[0]⟩] 9
        have hle := Mem.le_add (w := w20.alloc (.cells #[.string ⟨#[]⟩, .string ⟨#[0]⟩] 9)) hO.objFree
        have hS2 : AwS w m (w20.alloc (.cells #[.string ⟨#[]⟩, .string ⟨#[0]⟩] 9)) _ g1 g2 g4 (g4 + 1) _ _ _ _ L := AwS.mk hO.sealObj (Mem.le_trans HS.out.1.le hle) (statesAt_le hle HS.out.1.l) (statesAt_le hle HS.out.1.a) (statesAt_le hle HS.out.1.b)
        have HV := Lib.hid (twoStrs (mk := mk20) hO.obj)
        have H1 := Lib.hid (And.intro (statesAt_le hle H1.out.1) H1.out.2)
        have HS := Lib.hid (And.intro hS2 HS.out.2)
        clear hS2 hle hO
        refine wpOp_of2 rfl rfl (wp_value (by go_simp; first | done | exact ⟨rfl, rfl⟩ | rfl) (andS (And.intro HS.out.1.c1 (And.intro HS.out.1.ca HS.out.1.cb)) fun hS => ?_))
        generalize w20.heap.size = gv at *
        generalize (Mem.add _ _ gv) = mk21 at *
        generalize w20.alloc (.cells #[.string ⟨#[]⟩, .string ⟨#[0]⟩] 9) = w21 at *
        go_simp
        refine wpAnyT_only 75 (by kernel_rfl) ?_
        refine wpOp_of2 rfl rfl (wp_enter (by go_simp; first | done | rfl) (langMinus_any r6 (.slice ba 2 bc) C2 (wordL [98]) mk21 w21 HS.out.1.own.inn (HT.out.le HS.out.1.le) H1.out.1 HS.out.1.b (Fits.of (x := 13) (y := 2) H1.out.2.2 (by simp [wordL_len]) (by decide))) ?_)
        rintro e w22 ⟨r7, C4, rfl, hb, h1, h1l, h1n⟩
        have hq : (C2.length + 2) * ((wordL [98]).length + 2) ≤ 15 * 4 := Nat.mul_le_mul (by have := H1.out.2.2; omega) (by simp [wordL_len])
        have H2 := Lib.hid (And.intro h1 (And.intro (h1l.congr fun x => by rw [H1.out.2.1.sem, (word_is [98]).sem]) (show C4.length ≤ 61 by omega)))
        clear h1 h1l h1n hq H1
        have HV := Lib.hid (strsAt_le (Mem.le_grow (w := w22) HS.out.1.own.inn) HV.out)
        have HS := Lib.hid (And.intro (HS.out.1.call hb) HS.out.2)
        clear hb
        refine ⟨_, rfl, andS (And.intro HS.out.1.c1 (And.intro HS.out.1.ca HS.out.1.cb)) fun hS => ?_⟩
        generalize (Mem.grow _ w21 w22) = mk22 at *
        go_simp
        refine wpAnyT_only 76 (by kernel_rfl) ?_
        refine wpOp_of2 rfl rfl (wp_enter (by go_simp; first | done | rfl) (langWords_any r7 C4 2 mk22 w22 HS.out.1.own.inn (HT.out.le HS.out.1.le) H2.out.1 (by omega) (by omega) (by have : want1 2 = 2 := rfl; rw [this]; have := H2.out.2.2; omega)) ?_)
        rintro e w23 ⟨r8, ws, rfl, hb, hst, hfirst⟩
        have e : ws = [[], [0]] := first_unique ((show IsFirst (Sem C4) 2 ws from hfirst).congr H2.out.2.1.sem) aw_first
        subst e
        have HW := Lib.hid (show strsAt _ r8 [⟨#[]⟩, ⟨#[0]⟩] from hst)
        clear hst hfirst H2
        have HV := Lib.hid (strsAt_le (Mem.le_grow (w := w23) HS.out.1.own.inn) HV.out)
        have HS := Lib.hid (And.intro (HS.out.1.call hb) HS.out.2)
        clear hb
        refine ⟨_, rfl, andS (And.intro HS.out.1.c1 (And.intro HS.out.1.ca HS.out.1.cb)) fun hS => ?_⟩
        generalize (Mem.grow _ w22 w23) = mk23 at *
        go_simp
        refine wpAnyT_only 78 (by kernel_rfl) (wpOp_of2 rfl rfl (wp_enter (by go_simp; first | done | rfl) (Texts_any r8 _ _ _ _ _ HS.out.1.own.inn HW.out HV.out) ?_))
        rintro e w24 ⟨rfl, hb⟩
        rw [tf_true rfl]
        have HS := Lib.hid (And.intro (HS.out.1.call hb) HS.out.2)
        clear hb
        refine ⟨_, rfl, andS (And.intro HS.out.1.c1 (And.intro HS.out.1.ca HS.out.1.cb)) fun hS => ?_⟩
        go_simp
        refine wpAnyT_take 79 rfl (by kernel_rfl) (fun _ _ _ h => h) hS (yields_of rfl fun w' hS' => by have q := hS'.1; go_simp; first | done | rfl) ?_
        go_simp
        refine wpAnyT_only 80 (by kernel_rfl) (wpOp_of2 rfl rfl (wp_value (by go_simp; first | done | exact ⟨rfl, rfl⟩ | rfl) (andLast rfl ?_)))
        go_simp
        refine wpAnyT_done (by kernel_rfl) ?_ _
        exact hX.out _ _ rfl ⟨rfl, HS.out.1.own.below⟩
    · have hO := HS.out.1.own.al #[.string ⟨#[]⟩, .string ⟨#[0]⟩] 9
      have hle := Mem.le_add (w := w19.alloc (.cells #[.string ⟨#[]⟩, .string ⟨#[0]⟩] 9)) hO.objFree
      have hS2 : AwS w m (w19.alloc (.cells #[.string ⟨#[]⟩, .string ⟨#[0]⟩] 9)) _ g1 g2 g4 (g4 + 1) _ _ _ _ L := AwS.mk hO.sealObj (Mem.le_trans HS.out.1.le hle) (statesAt_le hle HS.out.1.l) (statesAt_le hle HS.out.1.a) (statesAt_le hle HS.out.1.b)
      have HV := Lib.hid (twoStrs (mk := mk19) hO.obj)
      have HS := Lib.hid (And.intro hS2 HS.out.2)
      clear hS2 hle hO
      refine wpOp_of2 rfl rfl (wp_value (by go_simp; first | done | exact ⟨rfl, rfl⟩ | rfl) (andS (And.intro HS.out.1.c1 (And.intro HS.out.1.ca HS.out.1.cb)) fun hS => ?_))
      generalize w19.heap.size = gv at *
      generalize (Mem.add _ _ gv) = mk20 at *
      generalize w19.alloc (.cells #[.string ⟨#[]⟩, .string ⟨#[0]⟩] 9) = w20 at *
      go_simp
      refine wpAnyT_only 73 (by kernel_rfl) ?_
      refine wpOp_of2 rfl rfl (wp_enter (by go_simp; first | done | rfl) (langNot_any (.slice aa 2 ac) (wordL [97]) mk20 w20 HS.out.1.own.inn (HT.out.le HS.out.1.le) HS.out.1.a (by simp [wordL_len])) ?_)
      rintro e w21 ⟨r6, C2, rfl, hb, h1, h1l, h1n⟩
      have H1 := Lib.hid (And.intro h1 (And.intro (h1l.congr fun x => by rw [(word_is [97]).sem]) (show C2.length ≤ 13 by simpa [wordL_len] using h1n)))
      clear h1 h1l h1n
      have HV := Lib.hid (strsAt_le (Mem.le_grow (w := w21) HS.out.1.own.inn) HV.out)
      have HS := Lib.hid (And.intro (HS.out.1.call hb) HS.out.2)
      clear hb
      refine ⟨_, rfl, andS (And.intro HS.out.1.c1 (And.intro HS.out.1.ca HS.out.1.cb)) fun hS => ?_⟩
      generalize (Mem.grow _ w20 w21) = mk21 at *
      go_simp
      refine wpAnyT_only 75 (by kernel_rfl) ?_
      refine wpOp_of2 rfl rfl (wp_enter (by go_simp; first | done | rfl) (langMinus_any r6 (.slice ba 2 bc) C2 (wordL [98]) mk21 w21 HS.out.1.own.inn (HT.out.le HS.out.1.le) H1.out.1 HS.out.1.b (Fits.of (x := 13) (y := 2) H1.out.2.2 (by simp [wordL_len]) (by decide))) ?_)
      rintro e w22 ⟨r7, C4, rfl, hb, h1, h1l, h1n⟩
      have hq : (C2.length + 2) * ((wordL [98]).length + 2) ≤ 15 * 4 := Nat.mul_le_mul (by have := H1.out.2.2; omega) (by simp [wordL_len])
      have H2 := Lib.hid (And.intro h1 (And.intro (h1l.congr fun x => by rw [H1.out.2.1.sem, (word_is [98]).sem]) (show C4.length ≤ 61 by omega)))
      clear h1 h1l h1n hq H1
      have HV := Lib.hid (strsAt_le (Mem.le_grow (w := w22) HS.out.1.own.inn) HV.out)
      have HS := Lib.hid (And.intro (HS.out.1.call hb) HS.out.2)
      clear hb
      refine ⟨_, rfl, andS (And.intro HS.out.1.c1 (And.intro HS.out.1.ca HS.out.1.cb)) fun hS => ?_⟩
      generalize (Mem.grow _ w21 w22) = mk22 at *
      go_simp
      refine wpAnyT_only 76 (by kernel_rfl) ?_
      refine wpOp_of2 rfl rfl (wp_enter (by go_simp; first | done | rfl) (langWords_any r7 C4 2 mk22 w22 HS.out.1.own.inn (HT.out.le HS.out.1.le) H2.out.1 (by omega) (by omega) (by have : want1 2 = 2 := rfl; rw [this]; have := H2.out.2.2; omega)) ?_)
      rintro e w23 ⟨r8, ws, rfl, hb, hst, hfirst⟩
      have e : ws = [[], [0]] := first_unique ((show IsFirst (Sem C4) 2 ws from hfirst).congr H2.out.2.1.sem) aw_first
      subst e
      have HW := Lib.hid (show strsAt _ r8 [⟨#[]⟩, ⟨#[0]⟩] from hst)
      clear hst hfirst H2
      have HV := Lib.hid (strsAt_le (Mem.le_grow (w := w23) HS.out.1.own.inn) HV.out)
      have HS := Lib.hid (And.intro (HS.out.1.call hb) HS.out.2)
      clear hb
      refine ⟨_, rfl, andS (And.intro HS.out.1.c1 (And.intro HS.out.1.ca HS.out.1.cb)) fun hS => ?_⟩
      generalize (Mem.grow _ w22 w23) = mk23 at *
      go_simp
      refine wpAnyT_only 78 (by kernel_rfl) (wpOp_of2 rfl rfl (wp_enter (by go_simp; first | done | rfl) (Texts_any r8 _ _ _ _ _ HS.out.1.own.inn HW.out HV.out) ?_))
      rintro e w24 ⟨rfl, hb⟩
      rw [tf_true rfl]
      have HS := Lib.hid (And.intro (HS.out.1.call hb) HS.out.2)
      clear hb
      refine ⟨_, rfl, andS (And.intro HS.out.1.c1 (And.intro HS.out.1.ca HS.out.1.cb)) fun hS => ?_⟩
      go_simp
      refine wpAnyT_take 79 rfl (by kernel_rfl) (fun _ _ _ h => h) hS (yields_of rfl fun w' hS' => by have q := hS'.1; go_simp; first | done | rfl) ?_
      go_simp
      refine wpAnyT_only 80 (by kernel_rfl) (wpOp_of2 rfl rfl (wp_value (by go_simp; first | done | exact ⟨rfl, rfl⟩ | rfl) (andLast rfl ?_)))
      go_simp
      refine wpAnyT_done (by kernel_rfl) ?_ _
      exact hX.out _ _ rfl ⟨rfl, HS.out.1.own.below⟩
  rintro z vs w99 - ⟨rfl, hb⟩
  simp [litL, lk]
  go_wp2
  exact hR.out _ _ ⟨rfl, hb⟩
end Cl
/- A region that draws its order, operation by operation: what each operation leaves behind is said once, whatever ran before it. -/
namespace Cl
open Go Go.RowKit

/-- the blocks that an operation made: from .1 on, below .2 -/
abbrev Win := Nat → Nat × Nat
def Win.put (win : Win) (i : Nat) (x : Nat × Nat) : Win := fun j => if j = i then x else win j
theorem Win.put_same (win : Win) (i : Nat) (x : Nat × Nat) : win.put i x i = x := by simp [Win.put]
theorem Win.put_ne (win : Win) {i j : Nat} (x : Nat × Nat) (h : j ≠ i) : win.put i x j = win j := by simp [Win.put, h]

/-- WHAT IS KNOWN ONCE AN OPERATION HAS RUN, of its value, of the blocks that it and those that it waits for made, of the world: it stays true while nothing old turns. -/
structure Fact where
  deps : List Nat
  holds : Value → Win → World → Prop
  mono : ∀ (v : Value) (win win' : Win) (w w' : World), (∀ d ∈ deps, win d = win' d ∧ (win d).2 ≤ w.heap.size) → Below w.heap.size w w' → holds v win w → holds v win' w'

def Fact.any : Fact := ⟨[], fun _ _ _ => True, fun _ _ _ _ _ _ _ _ => trivial⟩
/-- the value is known -/
def Fact.is (p : Value → Prop) : Fact := ⟨[], fun v _ _ => p v, fun _ _ _ _ _ _ _ h => h⟩
/-- an object of its own -/
def Fact.obj (j : Nat) (t : TypeId) (arr : Array Value) : Fact := ⟨[j], fun v win w => v = .pointer (some ⟨(win j).1, 0, none⟩) ∧ (win j).2 = (win j).1 + 1 ∧ ObjAt w (win j).1 t arr, fun v win win' w w' hd hb ⟨h1, h2, h3⟩ => by
  obtain ⟨e, hl⟩ := hd j (List.mem_singleton.2 rfl)
  rw [← e]
  exact ⟨h1, h2, ObjAt.below h3 hb h3.lt⟩⟩
/-- m, and the blocks of some operations -/
def Mem.wins (m : Mem) (w : World) (win : Win) (ds : List Nat) : Mem := fun k => if ds.any (fun d => decide ((win d).1 ≤ k ∧ k < (win d).2)) = true then w.heap[k]? else m k
theorem Mem.wins_eq {m : Mem} {w w' : World} {win win' : Win} {ds : List Nat} (hd : ∀ d ∈ ds, win d = win' d ∧ (win d).2 ≤ w.heap.size) (hb : Below w.heap.size w w') : m.wins w win ds = m.wins w' win' ds := by
  funext k
  unfold Mem.wins
  have e : (ds.any fun d => decide ((win d).1 ≤ k ∧ k < (win d).2)) = ds.any fun d => decide ((win' d).1 ≤ k ∧ k < (win' d).2) := by
    rw [Bool.eq_iff_iff, List.any_eq_true, List.any_eq_true]
    constructor
    · rintro ⟨d, h1, h2⟩; exact ⟨d, h1, by rw [← (hd d h1).1]; exact h2⟩
    · rintro ⟨d, h1, h2⟩; exact ⟨d, h1, by rw [(hd d h1).1]; exact h2⟩
  rw [← e]
  split
  · rename_i h
    obtain ⟨d, h1, h2⟩ := List.any_eq_true.1 h
    have := (hd d h1).2
    simp only [decide_eq_true_eq] at h2
    exact (hb.block k (by omega)).symm
  · rfl
theorem Mem.wins_inn {m : Mem} {w : World} (h : m.inn w) (win : Win) (ds : List Nat) : (m.wins w win ds).inn w := ⟨fun k o hk => by
  unfold Mem.wins at hk
  split at hk
  · exact hk
  · exact h.get k o hk⟩
theorem Mem.le_wins {m : Mem} {w : World} (h : m.inn w) (win : Win) (ds : List Nat) : m.le (m.wins w win ds) := ⟨fun k o hk => by
  unfold Mem.wins
  split
  · exact h.get k o hk
  · exact hk⟩
theorem Mem.wins_le {m : Mem} {w : World} (h : m.inn w) (win : Win) {ds es : List Nat} (hs : ∀ d ∈ ds, d ∈ es) : (m.wins w win ds).le (m.wins w win es) := ⟨fun k o hk => by
  have hi := (Mem.wins_inn h win ds).get k o hk
  unfold Mem.wins at hk ⊢
  split
  · exact hi
  · rename_i hne
    split at hk
    · rename_i hx
      obtain ⟨d, h1, h2⟩ := List.any_eq_true.1 hx
      exact absurd (List.any_eq_true.2 ⟨d, hs d h1, h2⟩) hne
    · exact hk⟩
theorem Mem.wins_none {m : Mem} {w : World} {win : Win} {ds : List Nat} {k : Nat} (h : m k = none) (hd : ∀ d ∈ ds, ¬ ((win d).1 ≤ k ∧ k < (win d).2)) : m.wins w win ds k = none := by
  unfold Mem.wins
  rw [if_neg]
  · exact h
  · intro hx
    obtain ⟨d, h1, h2⟩ := List.any_eq_true.1 hx
    exact hd d h1 (by simpa using h2)
/-- what a call made, in the words of windows -/
theorem Mem.grow_wins {m : Mem} {w w' : World} (h : m.inn w) (win : Win) {ds : List Nat} {i : Nat} (hd : ∀ d ∈ ds, d ≠ i) (hs : ∀ d ∈ ds, (win d).2 ≤ w.heap.size) (hb : Below w.heap.size w w') :
    ((m.wins w win ds).grow w w').le (m.wins w' (win.put i (w.heap.size, w'.heap.size)) (i :: ds)) := ⟨fun k o hk => by
  have e : m.wins w win ds = m.wins w' (win.put i (w.heap.size, w'.heap.size)) ds := Mem.wins_eq (fun d hd' => ⟨(Win.put_ne win _ (hd d hd')).symm, hs d hd'⟩) hb
  unfold Mem.grow at hk
  split at hk
  · rw [e] at hk
    exact (Mem.wins_le (Mem.inn_below h hb) _ (fun d h => List.mem_cons_of_mem _ h)).get k o hk
  · have hlt := (Array.getElem?_eq_some_iff.1 hk).1
    unfold Mem.wins
    rw [if_pos]
    · exact hk
    · refine List.any_eq_true.2 ⟨i, List.mem_cons_self .., ?_⟩
      rw [Win.put_same]
      simp only [decide_eq_true_eq]
      omega⟩
theorem Mem.grow_wins0 {m : Mem} {w w' : World} (h : m.inn w) (win : Win) (i : Nat) (hb : Below w.heap.size w w') : (m.grow w w').le (m.wins w' (win.put i (w.heap.size, w'.heap.size)) [i]) := by
  have := Mem.grow_wins (ds := []) h win (i := i) (by simp) (by simp) hb
  have e : m.wins w win [] = m := by funext k; simp [Mem.wins]
  rwa [e] at this
/-- a fact of memory: m and what some operations made -/
def Fact.mem (m : Mem) (ds : List Nat) (R : Mem → Value → Prop) : Fact := ⟨ds, fun v win w => R (m.wins w win ds) v, fun v win win' w w' hd hb h => by
  rw [← Mem.wins_eq hd hb]; exact h⟩

def dstV (a : Act) (o : Oper) : Value := match o.dst with
  | some s => a.tmps.getD s undef
  | none => undef

section
variable {P : Program} {ops : Array Oper} {Q : Exit → Act → World → Prop}

/-- how far a region has come -/
structure Reg (ops : Array Oper) (t0 : Array Value) (w1 : World) (F : Nat → Fact) (don : Nat → Bool) (win : Win) (a : Act) (w : World) : Prop where
  size : a.tmps.size = t0.size
  defers : a.defers = []
  below : Below w1.heap.size w1 w
  keep : ∀ s, (∀ j o, ops[j]? = some o → don j = true → o.dst ≠ some s) → a.tmps.getD s undef = t0.getD s undef
  fact : ∀ j o, ops[j]? = some o → don j = true → (F j).holds (dstV a o) win w
  rng : ∀ j, don j = true → w1.heap.size ≤ (win j).1 ∧ (win j).1 ≤ (win j).2 ∧ (win j).2 ≤ w.heap.size
  apart : ∀ j k, don j = true → don k = true → j ≠ k → (win j).2 ≤ (win k).1 ∨ (win k).2 ≤ (win j).1

/-- no early operation writes slot s -/
def notDst (ops : Array Oper) (n0 s : Nat) : Bool := (List.range n0).all fun i => ((ops[i]?).map fun o => !(o.dst == some s)).getD true
theorem notDst_spec {n0 s : Nat} (h : notDst ops n0 s = true) {j : Nat} {o : Oper} (ho : ops[j]? = some o) (hj : j < n0) : o.dst ≠ some s := by
  have := List.all_eq_true.1 h j (List.mem_range.2 hj)
  rw [ho] at this
  simpa using this

/-- what an operation finds -/
structure RegAt (ops : Array Oper) (n0 fu : Nat) (t0 : Array Value) (w1 : World) (F : Nat → Fact) (i : Nat) (win : Win) (a : Act) (w : World) : Prop where
  size : a.tmps.size = t0.size
  defers : a.defers = []
  below : Below w1.heap.size w1 w
  keep : ∀ s, notDst ops n0 s = true → a.tmps.getD s undef = t0.getD s undef
  dep : ∀ j o, waitsT ops fu i j = true → ops[j]? = some o → (F j).holds (dstV a o) win w
  rng : ∀ j, waitsT ops fu i j = true → w1.heap.size ≤ (win j).1 ∧ (win j).1 ≤ (win j).2 ∧ (win j).2 ≤ w.heap.size
/-- .. and what it leaves -/
def RegK (F : Nat → Fact) (i : Nat) (o : Oper) (win : Win) (a : Act) (w : World) (a' : Act) (w' : World) : Prop :=
  ∃ v, a' = a.put o.dst v ∧ Below w.heap.size w w' ∧ (F i).holds v (win.put i (w.heap.size, w'.heap.size)) w'
/-- what stands when all early operations have run -/
structure RegEnd (ops : Array Oper) (n0 : Nat) (t0 : Array Value) (w1 : World) (F : Nat → Fact) (win : Win) (a : Act) (w : World) : Prop where
  size : a.tmps.size = t0.size
  defers : a.defers = []
  below : Below w1.heap.size w1 w
  keep : ∀ s, notDst ops n0 s = true → a.tmps.getD s undef = t0.getD s undef
  fact : ∀ j o, j < n0 → ops[j]? = some o → (F j).holds (dstV a o) win w
  rng : ∀ j, j < n0 → w1.heap.size ≤ (win j).1 ∧ (win j).1 ≤ (win j).2 ∧ (win j).2 ≤ w.heap.size
  apart : ∀ j k, j < n0 → k < n0 → j ≠ k → (win j).2 ≤ (win k).1 ∨ (win k).2 ≤ (win j).1

def regOk (ops : Array Oper) (n0 fu nt : Nat) (deps : Nat → List Nat) : Bool :=
  decide (n0 ≤ ops.size) &&
  (List.range n0).all (fun i => ((ops[i]?).map fun o => o.after.all fun e => !Region.binds .any e || decide (e.on < i)).getD false) &&
  (List.range ops.size).all (fun i => decide (i < n0) || (List.range n0).all fun j => waitsT ops fu i j) &&
  (List.range n0).all (fun i => ((ops[i]?).map fun o => match o.dst with
    | some s => decide (s < nt) && (List.range i).all fun j => ((ops[j]?).map fun o' => !(o'.dst == some s)).getD true
    | none => false).getD false) &&
  (List.range n0).all (fun j => (deps j).all fun d => d == j || waitsT ops fu j d)
structure RegOk (ops : Array Oper) (n0 fu nt : Nat) (deps : Nat → List Nat) : Prop where
  le : n0 ≤ ops.size
  back : ∀ i o, i < n0 → ops[i]? = some o → ∀ e ∈ o.after, Region.binds .any e = true → e.on < i
  late : ∀ i, i < ops.size → n0 ≤ i → ∀ j, j < n0 → waitsT ops fu i j = true
  dst : ∀ i o, i < n0 → ops[i]? = some o → ∃ s, o.dst = some s ∧ s < nt ∧ ∀ j o', j < n0 → ops[j]? = some o' → j ≠ i → o'.dst ≠ some s
  dep : ∀ j, j < n0 → ∀ d ∈ deps j, d = j ∨ waitsT ops fu j d = true
theorem regOk_spec {n0 fu nt : Nat} {deps : Nat → List Nat} (h : regOk ops n0 fu nt deps = true) : RegOk ops n0 fu nt deps := by
  simp only [regOk, Bool.and_eq_true, decide_eq_true_eq] at h
  obtain ⟨⟨⟨⟨h1, h2⟩, h3⟩, h4⟩, h5⟩ := h
  have d1 : ∀ i o, i < n0 → ops[i]? = some o → ∃ s, o.dst = some s ∧ s < nt ∧ ∀ j o', j < i → ops[j]? = some o' → o'.dst ≠ some s := by
    intro i o hi ho
    have := List.all_eq_true.1 h4 i (List.mem_range.2 hi)
    rw [ho] at this
    simp only [Option.map_some, Option.getD_some] at this
    split at this
    · rename_i s hs
      rw [Bool.and_eq_true, decide_eq_true_eq] at this
      refine ⟨s, hs, this.1, fun j o' hj ho' => ?_⟩
      have := List.all_eq_true.1 this.2 j (List.mem_range.2 hj)
      rw [ho'] at this
      simpa using this
    · cases this
  refine ⟨h1, ?_, ?_, ?_, ?_⟩
  · intro i o hi ho e he hb
    have := List.all_eq_true.1 h2 i (List.mem_range.2 hi)
    rw [ho] at this
    simp only [Option.map_some, Option.getD_some] at this
    have := Array.all_eq_true_iff_forall_mem.1 this e he
    simpa [hb] using this
  · intro i hi hn j hj
    have := List.all_eq_true.1 h3 i (List.mem_range.2 hi)
    simp only [Bool.or_eq_true, decide_eq_true_eq] at this
    exact List.all_eq_true.1 (this.resolve_left (by omega)) j (List.mem_range.2 hj)
  · intro i o hi ho
    obtain ⟨s, hs, hlt, hall⟩ := d1 i o hi ho
    refine ⟨s, hs, hlt, fun j o' hj ho' hne e => ?_⟩
    rcases Nat.lt_or_ge j i with hlt' | hge
    · exact hall j o' hlt' ho' e
    · obtain ⟨s', hs', -, hall'⟩ := d1 j o' hj ho'
      have : s' = s := Option.some.inj (hs'.symm.trans e)
      subst this
      exact hall' i o (by omega) ho hs
  · intro j hj d hd
    have := List.all_eq_true.1 (List.all_eq_true.1 h5 j (List.mem_range.2 hj)) d hd
    simpa using this

theorem filter_less {p q : Nat → Bool} (h : ∀ x, q x = true → p x = true) {i : Nat} (hp : p i = true) (hq : q i = false) : ∀ l : List Nat, i ∈ l → (l.filter q).length < (l.filter p).length
  | [], hi => by cases hi
  | x :: l, hi => by
    have hle : (l.filter q).length ≤ (l.filter p).length := by
      clear hi
      induction l with
      | nil => simp
      | cons y l ih =>
        simp only [List.filter_cons]
        cases hy : q y with
        | true => simp [h y hy, ih]
        | false =>
          cases p y with
          | true => simp; omega
          | false => simpa using ih
    rcases List.mem_cons.1 hi with e | hm
    · subst e
      simp only [List.filter_cons, hp, hq, if_true]
      simp
      omega
    · have ih := filter_less h hp hq l hm
      simp only [List.filter_cons]
      cases hy : q x with
      | true => simp [h x hy, ih]
      | false =>
        cases p x with
        | true => simp; omega
        | false => simpa using ih
theorem least_of {p : Nat → Bool} : ∀ n, (∃ j, j < n ∧ p j = true) → ∃ j, j < n ∧ p j = true ∧ ∀ k, k < j → p k = false
  | 0, ⟨_, h, _⟩ => by omega
  | n + 1, ⟨j, h, hp⟩ => by
    by_cases hx : ∃ j, j < n ∧ p j = true
    · obtain ⟨j, h1, h2, h3⟩ := least_of n hx
      exact ⟨j, by omega, h2, h3⟩
    · refine ⟨j, h, hp, fun k hk => ?_⟩
      cases hpk : p k with
      | false => rfl
      | true => exact absurd ⟨k, by omega, hpk⟩ hx

theorem wpAny_more : ∀ (fuel more : Nat) (listed : Array Bool) (a : Act) (w : World), fuel ≤ more → wpAny P .any ops Q fuel listed a w → wpAny P .any ops Q more listed a w
  | 0, more, listed, a, w, _, h => by
    cases more with
    | zero => exact h
    | succ m => exact ⟨fun _ => h.2, fun i hi => by rw [h.1] at hi; cases hi⟩
  | fuel + 1, more, listed, a, w, hl, h => by
    cases more with
    | zero => omega
    | succ m => exact ⟨h.1, fun i hi => wpOp_mono (fun a' w' h' => wpAny_more fuel m _ a' w' (by omega) h') (h.2 i hi)⟩

/-- the first n0 have run -/
def maskL (n n0 : Nat) : Array Bool := ((List.range n).map fun i => decide (i < n0)).toArray

theorem getD_set_self {l : Array Bool} {i : Nat} (h : i < l.size) (d : Bool) : (l.setIfInBounds i true).getD i d = true := by simp [h]
theorem getD_tf {l : Array Bool} {i : Nat} (h : i < l.size) : l.getD i true = l.getD i false := by simp [h]

theorem maskL_of {n n0 : Nat} {listed : Array Bool} (hsz : listed.size = n) (hearly : ∀ j, listed.getD j false = true → j < n0) (hall : ∀ j, j < n0 → listed.getD j false = true) : listed = maskL n n0 := by
  apply Array.ext
  · simp [maskL, hsz]
  · intro i h1 h2
    simp only [maskL, List.getElem_toArray, List.getElem_map, List.getElem_range]
    have h3 : listed.getD i false = listed[i] := by simp [h1]
    rw [← h3]
    by_cases hi : i < n0
    · rw [hall i hi]; simp [hi]
    · cases hx : listed.getD i false with
      | true => exact absurd (hearly i hx) hi
      | false => simp [hi]
def ClosedF (ops : Array Oper) (listed : Array Bool) : Prop :=
  ∀ k ok, ops[k]? = some ok → listed.getD k false = true → ∀ e ∈ ok.after, Region.binds .any e = true → listed.getD e.on false = true
theorem waits_closed {listed : Array Bool} (hc : ClosedF ops listed) {i : Nat} : ∀ (n j : Nat), listed.getD j false = true → waitsT ops n j i = true → listed.getD i false = true := by
  intro n
  induction n with
  | zero => intro j _ h; cases h
  | succ n ih =>
    intro j hj h
    unfold waitsT at h
    cases ho : ops[j]? with
    | none => rw [ho] at h; cases h
    | some o =>
      rw [ho] at h
      simp only [Option.map_some, Option.getD_some, Array.any_eq_true', Bool.and_eq_true, Bool.or_eq_true, beq_iff_eq] at h
      obtain ⟨e, he, hb, h1⟩ := h
      have h2 := hc j o ho hj e he hb
      rcases h1 with h1 | h1
      · rw [← h1]; exact h2
      · exact ih e.on h2 h1
theorem ready_waits {listed : Array Bool} (hc : ClosedF ops listed) {i j n : Nat} (hr : i ∈ Region.ready .any ops listed) (hw : waitsT ops n i j = true) : listed.getD j false = true := by
  obtain ⟨hun, o, ho, hdeps⟩ := mem_ready.1 hr
  cases n with
  | zero => cases hw
  | succ n =>
    unfold waitsT at hw
    rw [ho] at hw
    simp only [Option.map_some, Option.getD_some, Array.any_eq_true', Bool.and_eq_true, Bool.or_eq_true, beq_iff_eq] at hw
    obtain ⟨e, he, hb, h1⟩ := hw
    have h2 := hdeps e he hb
    rcases h1 with h1 | h1
    · rw [← h1]; exact h2
    · exact waits_closed hc n e.on h2 h1
theorem getD_setF {l : Array Bool} {i j : Nat} : (l.setIfInBounds i true).getD j false = true ↔ l.getD j false = true ∨ (j = i ∧ i < l.size) := by
  simp only [Array.getD_eq_getD_getElem?, Array.getElem?_setIfInBounds]
  by_cases e : i = j
  · subst e
    by_cases h : i < l.size
    · simp [h]
    · simp [h]
  · rw [if_neg e]
    constructor
    · exact .inl
    · rintro (h | ⟨h, -⟩)
      · exact h
      · exact absurd h.symm e
theorem putD {a : Act} {s : Nat} {v : Value} {t : Nat} : (a.put (some s) v).tmps.getD t undef = if t = s ∧ s < a.tmps.size then v else a.tmps.getD t undef := by
  simp only [Act.put, Array.getD_eq_getD_getElem?, Array.getElem?_setIfInBounds]
  by_cases e : s = t
  · subst e
    by_cases h : s < a.tmps.size
    · simp [h]
    · simp [h]
  · rw [if_neg e, if_neg (fun h => e h.1.symm)]

theorem region_go {n0 fu : Nat} {t0 : Array Value} {w1 : World} {F : Nat → Fact} (H : RegOk ops n0 fu t0.size (fun j => (F j).deps))
    (hstep : ∀ i, i < n0 → ∀ o win a w, ops[i]? = some o → RegAt ops n0 fu t0 w1 F i win a w → wpOp P ops Q i (RegK F i o win a w) a w)
    (hend : ∀ win a w, RegEnd ops n0 t0 w1 F win a w → wpAny P .any ops Q (ops.size - n0) (maskL ops.size n0) a w) :
    ∀ (fuel : Nat) (listed : Array Bool) (win : Win) (a : Act) (w : World), listed.size = ops.size → (∀ j, listed.getD j false = true → j < n0) → ClosedF ops listed →
      ((List.range n0).filter fun j => !listed.getD j false).length + (ops.size - n0) ≤ fuel → Reg ops t0 w1 F (fun j => listed.getD j false) win a w → wpAny P .any ops Q fuel listed a w := by
  intro fuel
  induction fuel with
  | zero =>
    intro listed win a w hsz hearly hcl hfu hR
    have hall : ∀ j, j < n0 → listed.getD j false = true := fun j hj => by
      cases hx : listed.getD j false with
      | true => rfl
      | false =>
        have : j ∈ (List.range n0).filter fun j => !listed.getD j false := List.mem_filter.2 ⟨List.mem_range.2 hj, by rw [hx]; rfl⟩
        have := List.length_pos_of_mem this
        omega
    have := hend win a w ⟨hR.size, hR.defers, hR.below, fun s hs => hR.keep s fun j o ho hd => notDst_spec hs ho (hearly j hd), fun j o hj ho => hR.fact j o ho (hall j hj), fun j hj => hR.rng j (hall j hj), fun j k hj hk hne => hR.apart j k (hall j hj) (hall k hk) hne⟩
    rw [maskL_of hsz hearly hall]
    exact wpAny_more _ _ _ _ _ (by omega) this
  | succ fuel ih =>
    intro listed win a w hsz hearly hcl hfu hR
    by_cases hall : ∀ j, j < n0 → listed.getD j false = true
    · have := hend win a w ⟨hR.size, hR.defers, hR.below, fun s hs => hR.keep s fun j o ho hd => notDst_spec hs ho (hearly j hd), fun j o hj ho => hR.fact j o ho (hall j hj), fun j hj => hR.rng j (hall j hj), fun j k hj hk hne => hR.apart j k (hall j hj) (hall k hk) hne⟩
      rw [maskL_of hsz hearly hall]
      exact wpAny_more _ _ _ _ _ (by omega) this
    · have hex : ∃ j, j < n0 ∧ (!listed.getD j false) = true := by
        apply Classical.byContradiction
        intro hno
        exact hall fun j hj => by
          cases hx : listed.getD j false with
          | true => rfl
          | false => exact absurd ⟨j, hj, by rw [hx]; rfl⟩ hno
      refine ⟨fun hnil => ?_, fun i hi => ?_⟩
      · obtain ⟨j, h1, h2, h3⟩ := least_of n0 hex
        have hjs : j < ops.size := by have := H.le; omega
        have : j ∈ Region.ready .any ops listed := mem_ready.2 ⟨by rw [getD_tf (by omega)]; simpa using h2, ops[j], by simp [hjs], fun e he hb => by
          have := h3 e.on (H.back j _ h1 (by simp [hjs]) e he hb)
          simpa using this⟩
        rw [hnil] at this
        cases this
      · obtain ⟨hun, o, ho, hdeps⟩ := mem_ready.1 hi
        have his : i < ops.size := (Array.getElem?_eq_some_iff.1 ho).1
        have hin : i < n0 := by
          rcases Nat.lt_or_ge i n0 with h | h
          · exact h
          · exact absurd (fun j hj => ready_waits hcl hi (H.late i his h j hj)) hall
        rw [getD_tf (by omega)] at hun
        obtain ⟨s, hs, hst, hsn⟩ := H.dst i o hin ho
        have hsa : s < a.tmps.size := by rw [hR.size]; exact hst
        have hA : RegAt ops n0 fu t0 w1 F i win a w := ⟨hR.size, hR.defers, hR.below, fun s hs => hR.keep s fun j o ho hd => notDst_spec hs ho (hearly j hd),
          fun j o hw ho => hR.fact j o ho (ready_waits hcl hi hw), fun j hw => hR.rng j (ready_waits hcl hi hw)⟩
        refine wpOp_mono ?_ (hstep i hin o win a w ho hA)
        rintro a' w' ⟨v, rfl, hb, hv⟩
        rw [hs]
        have hother : ∀ j, listed.getD j false = true → j ≠ i := fun j hj e => by rw [e, hun] at hj; cases hj
        refine ih (listed.setIfInBounds i true) (win.put i (w.heap.size, w'.heap.size)) _ _ (by simpa using hsz) ?_ ?_ ?_ ?_
        · intro j hj
          rcases getD_setF.1 hj with h | h
          · exact hearly j h
          · rw [h.1]; exact hin
        · intro k ok hk hl e he hbd
          refine getD_setF.2 (.inl ?_)
          rcases getD_setF.1 hl with h | h
          · exact hcl k ok hk h e he hbd
          · have hki := h.1
            subst hki
            have : ok = o := Option.some.inj (hk.symm.trans ho)
            subst this
            exact hdeps e he hbd
        · have : ((List.range n0).filter fun j => !(listed.setIfInBounds i true).getD j false).length < ((List.range n0).filter fun j => !listed.getD j false).length := by
            refine filter_less (i := i) (fun x hx => ?_) (by rw [hun]; rfl) ?_ _ (List.mem_range.2 hin)
            · cases hl : listed.getD x false with
              | false => rfl
              | true =>
                have := getD_setF (l := listed) (i := i) (j := x) |>.2 (.inl hl)
                rw [this] at hx
                cases hx
            · have := getD_setF (l := listed) (i := i) (j := i) |>.2 (.inr ⟨rfl, by omega⟩)
              rw [this]; rfl
          omega
        · refine ⟨?_, hR.defers, below_then hR.below hb, ?_, ?_, ?_, ?_⟩
          · simp [Act.put, hR.size]
          · intro t ht
            rw [putD, if_neg]
            · exact hR.keep t fun j o' ho' hd => ht j o' ho' (getD_setF.2 (.inl hd))
            · rintro ⟨e, -⟩
              exact ht i o ho (getD_setF.2 (.inr ⟨rfl, by omega⟩)) (by rw [hs, e])
          · intro j o' ho' hd
            rcases getD_setF.1 hd with h | h
            · have hji := hother j h
              have e : dstV (a.put (some s) v) o' = dstV a o' := by
                unfold dstV
                cases hd' : o'.dst with
                | none => rfl
                | some t =>
                  simp only
                  rw [putD, if_neg]
                  rintro ⟨e, -⟩
                  exact hsn j o' (hearly j h) ho' hji (by rw [hd', e])
              rw [e]
              refine (F j).mono _ win _ w w' (fun d hd => ?_) hb (hR.fact j o' ho' h)
              have hdl : listed.getD d false = true := by
                rcases H.dep j (hearly j h) d hd with e | hw
                · rw [e]; exact h
                · exact waits_closed hcl fu j h hw
              exact ⟨(Win.put_ne win _ (hother d hdl)).symm, (hR.rng d hdl).2.2⟩
            · have hji := h.1
              subst hji
              have : o' = o := Option.some.inj (ho'.symm.trans ho)
              subst this
              have e : dstV (a.put (some s) v) o' = v := by
                unfold dstV
                rw [hs]
                simp only
                rw [putD, if_pos ⟨rfl, hsa⟩]
              rw [e]
              exact hv
          · intro j hd
            rcases getD_setF.1 hd with h | h
            · rw [Win.put_ne win _ (hother j h)]
              have := hR.rng j h
              have := hb.size
              omega
            · rw [h.1, Win.put_same]
              exact ⟨hR.below.size, hb.size, Nat.le_refl _⟩
          · intro j k hj hk hne
            rcases getD_setF.1 hj with h | h
            · rcases getD_setF.1 hk with h' | h'
              · rw [Win.put_ne win _ (hother j h), Win.put_ne win _ (hother k h')]
                exact hR.apart j k h h' hne
              · rw [Win.put_ne win _ (hother j h), h'.1, Win.put_same]
                exact .inl (hR.rng j h).2.2
            · rcases getD_setF.1 hk with h' | h'
              · rw [Win.put_ne win _ (hother k h'), h.1, Win.put_same]
                exact .inr (hR.rng k h').2.2
              · exact absurd (h.1.trans h'.1.symm) hne

/-- A REGION THAT DRAWS ITS ORDER: each early operation (the first n0) by itself; the late ones behind them all. -/
theorem wp_region_facts {id : Nat} {t0 : Array Value} {w : World} (n0 fu : Nat) (F : Nat → Fact) (hm : P.follows .mixedOrders = true) (hok : regOk ops n0 fu t0.size (fun j => (F j).deps) = true)
    (hstep : ∀ i, i < n0 → ∀ o win a w', ops[i]? = some o → RegAt ops n0 fu t0 w.drew F i win a w' → wpOp P ops Q i (RegK F i o win a w') a w')
    (hend : ∀ win a w', RegEnd ops n0 t0 w.drew F win a w' → wpAny P .any ops Q (ops.size - n0) (maskL ops.size n0) a w') : (Code.region id ops true).wp P Q ⟨t0, []⟩ w := by
  have H := regOk_spec hok
  refine wp_region_any hm (region_go H hstep hend ops.size (Array.replicate ops.size false) (fun _ => (0, 0)) ⟨t0, []⟩ w.drew (by simp) ?_ ?_ ?_ ?_)
  · intro j hj
    exfalso
    by_cases h : j < ops.size <;> simp [h] at hj
  · intro k ok _ hl
    exfalso
    by_cases h : k < ops.size <;> simp [h] at hl
  · have : ((List.range n0).filter fun j => !(Array.replicate ops.size false).getD j false).length ≤ n0 := by
      have := List.length_filter_le (fun j => !(Array.replicate ops.size false).getD j false) (List.range n0)
      simpa using this
    have := H.le
    omega
  · have hno : ∀ j, (Array.replicate ops.size false).getD j false = true → False := fun j hj => by
      by_cases h : j < ops.size <;> simp [h] at hj
    exact ⟨rfl, rfl, Below.refl _ _, fun _ _ => rfl, fun j _ _ hj => (hno j hj).elim, fun j hj => (hno j hj).elim, fun j _ hj => (hno j hj).elim⟩
theorem wpAny_none {listed : Array Bool} {a : Act} {w : World} (hr : (Region.ready .any ops listed == []) = true) (h : Q .normal a w) : ∀ fuel, wpAny P .any ops Q fuel listed a w := by
  have hr' : Region.ready .any ops listed = [] := by simpa using hr
  intro fuel
  cases fuel with
  | zero => exact ⟨hr', h⟩
  | succ n => exact ⟨fun _ => h, by rw [hr']; simp⟩
theorem wpAny_one (i : Nat) {fuel : Nat} {listed : Array Bool} {a : Act} {w : World} (hr : (Region.ready .any ops listed == [i]) = true)
    (h : wpOp P ops Q i (fun a' w' => wpAny P .any ops Q fuel (listed.setIfInBounds i true) a' w') a w) : wpAny P .any ops Q (fuel + 1) listed a w := by
  have hr' : Region.ready .any ops listed = [i] := by simpa using hr
  exact ⟨fun h0 => (by rw [hr'] at h0; cases h0), fun j hj => (by rw [hr'] at hj; obtain rfl := List.mem_singleton.1 hj; exact h)⟩
theorem getD_bool {t : Array Value} {s : Nat} {b : Bool} (h : t.getD s undef = .bool b) : t[s]? = some (.bool b) := by
  cases hx : t[s]? with
  | none => simp [hx, undef] at h
  | some v => simpa [hx] using h
theorem wanted_of {o : Oper} {a : Act} {g s : Nat} {b c : Bool} (hg : o.guard = some (g, b)) (hs : (ops[g]?).bind (·.dst) = some s) (e : a.tmps.getD s undef = .bool c) : Region.wanted o (yielded ops a.tmps) = (c == b) := by
  have h := getD_bool e
  simp [Region.wanted, hg, yielded, hs, h]
end
end Cl
namespace Cl
open Go Go.RowKit
/-- behind a region: what some operations made is sealed -/
theorem Own.region {w0 w1 w : World} {m mk : Mem} {L : List Item} (h : Own w0 m w1 mk L) (hb : Below w1.heap.size w1 w) (win : Win) (ds : List Nat) (hd : ∀ d ∈ ds, w1.heap.size ≤ (win d).1) : Own w0 m w (mk.wins w win ds) L := by
  have hm := h.move hb
  have no : ∀ k, k < w1.heap.size → mk k = none → mk.wins w win ds k = none := fun k hk hn => Mem.wins_none hn fun d h1 h2 => by have := hd d h1; omega
  refine ⟨h.m0, hm.below, ⟨Mem.le_trans h.ext.le (Mem.le_wins hm.inn win ds), fun k o hk => ?_⟩, Mem.wins_inn hm.inn win ds, hm.ok, fun it hi k hk => ⟨(h.fresh it hi k hk).1, no k (Item.lt (h.ok it hi) hk) (h.fresh it hi k hk).2⟩, h.apart⟩
  rcases Nat.lt_or_ge k w1.heap.size with hlt | hge
  · cases hx : mk k with
    | none => rw [no k hlt hx] at hk; cases hk
    | some o' => exact h.ext.dom k o' hx |>.imp (fun e => by
        have h1 := (Mem.le_wins hm.inn win ds).get k o' hx
        rw [hk] at h1
        rw [e, h1]) id
  · exact .inr (Nat.le_trans h.below.size hge)
theorem Own.inn0 {w0 w : World} {m mk : Mem} {L : List Item} (h : Own w0 m w mk L) : m.inn w := Mem.inn_le h.ext.le h.inn
theorem Own.newObj {w0 w : World} {m mk : Mem} {L : List Item} {g : Nat} {t : TypeId} {arr : Array Value} (h : Own w0 m w mk L) (ho : ObjAt w g t arr) (hge : w0.heap.size ≤ g) (hf : mk g = none) (hd : ∀ it ∈ L, it.blk ≠ some g) : Own w0 m w mk (.obj g t arr :: L) :=
  h.cons ho (fun k hk => by simp only [Item.blk, Option.some.injEq] at hk; subst hk; exact ⟨hge, hf⟩) (fun b hb k h1 h2 => by simp only [Item.blk, Option.some.injEq] at h1; subst h1; exact hd b hb h2)
theorem Own.blk_lt {w0 w : World} {m mk : Mem} {L : List Item} (h : Own w0 m w mk L) {n : Nat} (hn : w.heap.size ≤ n) : ∀ it ∈ L, it.blk ≠ some n := fun it hi e => by have := Item.lt (h.ok it hi) e; omega
theorem blk_cons {g n : Nat} {t : TypeId} {arr : Array Value} {L : List Item} (hne : g ≠ n) (h : ∀ it ∈ L, it.blk ≠ some n) : ∀ it ∈ Item.obj g t arr :: L, it.blk ≠ some n := by
  intro it hi
  rcases List.mem_cons.1 hi with rfl | hi
  · simpa [Item.blk] using hne
  · exact h it hi
theorem obj_mk {w : World} {i : Nat} {t : TypeId} {arr : Array Value} (win : Win) :
    (Fact.obj i t arr).holds (.pointer (some ⟨w.heap.size, 0, none⟩)) (win.put i (w.heap.size, (w.alloc (.cells arr t)).heap.size)) (w.alloc (.cells arr t)) := by
  show _ = Value.pointer (some ⟨((win.put i (w.heap.size, (w.alloc (.cells arr t)).heap.size)) i).1, 0, none⟩) ∧ _ ∧ _
  rw [Win.put_same]
  exact ⟨rfl, by simp, ObjAt.new _ _ _⟩
/-- a set of strings, as a value -/
def LangV (f : List UInt8 → Bool) (n : Nat) (M : Mem) (v : Value) : Prop := ∃ xa xc C, v = .agg #[.slice xa (List.length C) xc] ∧ statesAt M (.slice xa (List.length C) xc) C ∧ LangIs f C ∧ C.length ≤ n
theorem langV_le {f : List UInt8 → Bool} {n : Nat} {M M' : Mem} {v : Value} (hl : M.le M') (h : LangV f n M v) : LangV f n M' v := by
  obtain ⟨xa, xc, C, h1, h2, h3⟩ := h
  exact ⟨xa, xc, C, h1, statesAt_le hl h2, h3⟩
theorem langV_of {f : List UInt8 → Bool} {n : Nat} {M : Mem} {r : Value} {C : Table} (hst : statesAt M r C) (hl : LangIs f C) (hn : C.length ≤ n) : LangV f n M (.agg #[r]) := by
  obtain ⟨xa, xc, rfl, h⟩ := hst
  exact ⟨xa, xc, C, rfl, ⟨xa, xc, rfl, h⟩, hl, hn⟩
theorem langV_mk {m : Mem} {w w' : World} {win : Win} {i : Nat} {f : List UInt8 → Bool} {n : Nat} {r : Value} {C : Table} (hm : m.inn w) (hb : Below w.heap.size w w') (hst : statesAt (m.grow w w') r C) (hl : LangIs f C) (hn : C.length ≤ n) :
    LangV f n (m.wins w' (win.put i (w.heap.size, w'.heap.size)) [i]) (.agg #[r]) := langV_of (statesAt_le (Mem.grow_wins0 hm win i hb) hst) hl hn
/-- .. made out of what others made -/
theorem langV_mks {m : Mem} {w w' : World} {win : Win} {i : Nat} {ds : List Nat} {f : List UInt8 → Bool} {n : Nat} {r : Value} {C : Table} (hm : m.inn w) (hd : ∀ d ∈ ds, d ≠ i) (hs : ∀ d ∈ ds, (win d).2 ≤ w.heap.size) (hb : Below w.heap.size w w')
    (hst : statesAt ((m.wins w win ds).grow w w') r C) (hl : LangIs f C) (hn : C.length ≤ n) : LangV f n (m.wins w' (win.put i (w.heap.size, w'.heap.size)) (i :: ds)) (.agg #[r]) :=
  langV_of (statesAt_le (Mem.grow_wins hm win hd hs hb) hst) hl hn
end Cl
namespace Cl
open Go Go.RowKit Go.Proofs

theorem accepts_of {f : List UInt8 → Bool} {C : Table} (h : LangIs f C) (s : List UInt8) : (tf (WF C) && accFrom C 0 s) = f s := by
  rw [tf_true h.canon.wf, h.lang]; rfl
set_option maxRecDepth 100000 in
set_option maxHeartbeats 8000000 in
theorem LangMembers_any (u0 u1 : Value) (A B : Table) (s : ByteArray) (m : Mem) (w : World) (hm : m.inn w) (htab : TabM m) (hA : statesAt m u0 A) (hB : statesAt m u1 B) (hs : s.size ≤ maxLen)
    (haw : ∀ w, m.inn w → Calls Tryd.prog 11 #[] w fun e w' => e = .returned (.bool true) ∧ Below w.heap.size w w') :
    Calls Tryd.prog 7 #[.agg #[u0], .agg #[u1], .string s] w fun e w' => e = .returned (.bool true) ∧ Below w.heap.size w w' := by
  have hO := ((Own.start hm).al #[u0] 24).al #[u1] 24
  have hsz1 : (w.alloc (.cells #[u0] 24)).heap.size = w.heap.size + 1 := by simp
  rw [hsz1] at hO
  have HO := Lib.hid hO
  have HA := Lib.hid hA
  have HB := Lib.hid hB
  have HT := Lib.hid htab
  have HW := Lib.hid haw
  have HM := Lib.hid hm
  clear hO hsz1 htab haw hm
  refine calls_hide fun R hR => ?_
  obtain ⟨va, vc, rfl, -⟩ := hA
  obtain ⟨vb, vd, rfl, -⟩ := hB
  have hs' := hs
  unfold maxLen at hs
  go_enter Tryd.func7, Tryd.ntmps7
  go_upto_region 1 with (fail)
  refine wp_cut_keep [2, 3, 4, 35] (fun vs w' => ∃ c : Bool, vs = [.string s, .pointer (some ⟨w.heap.size, 0, none⟩), .pointer (some ⟨w.heap.size + 1, 0, none⟩), .bool c] ∧
    Own w m w' m [.obj (w.heap.size + 1) 24 #[.slice vb B.length vd], .obj w.heap.size 24 #[.slice va A.length vc]] ∧ (c = false → SmallT A ∧ SmallT B ∧ Canon A ∧ Canon B ∧ s.size ≤ 60)) ?_ ?_
  · intro X hX
    have c1 := HO.out.swap.obj.cell (i := 0) rfl
    have HB := Lib.hid (fun wr (hi : m.inn wr) => Small_any (.slice va A.length vc) A m wr hi HA.out)
    go_wp2_with fail
    refine (HB.out _ HO.out.inn).mono ?_
    rintro e w3 ⟨rfl, hb⟩
    have HO := Lib.hid (HO.out.move hb)
    clear HB hb c1
    by_cases h : SmallT A
    case neg =>
      rw [tf_false h]
      clear h
      go_wp2
      exact hX.out _ _ rfl ⟨true, rfl, HO.out, fun h => by cases h⟩
    rw [tf_true h]
    have H1 := Lib.hid h
    clear h
    have c1 := HO.out.obj.cell (i := 0) rfl
    have HB := Lib.hid (fun wr (hi : m.inn wr) => Small_any (.slice vb B.length vd) B m wr hi HB.out)
    go_wp2_with fail
    refine (HB.out _ HO.out.inn).mono ?_
    rintro e w4 ⟨rfl, hb⟩
    have HO := Lib.hid (HO.out.move hb)
    clear HB hb c1
    by_cases h : SmallT B
    case neg =>
      rw [tf_false h]
      clear h
      go_wp2
      exact hX.out _ _ rfl ⟨true, rfl, HO.out, fun h => by cases h⟩
    rw [tf_true h]
    have H2 := Lib.hid h
    clear h
    have c1 := HO.out.swap.obj.cell (i := 0) rfl
    have HB := Lib.hid (fun wr (hi : m.inn wr) => r05Valid_any (.slice va A.length vc) A m wr hi HA.out (by have := H1.out.2; omega))
    go_wp2_with fail
    refine (HB.out _ HO.out.inn).mono ?_
    rintro e w5 ⟨rfl, hb⟩
    have HO := Lib.hid (HO.out.move hb)
    clear HB hb c1
    by_cases h : Canon A
    case neg =>
      rw [tf_false h]
      clear h
      go_wp2
      exact hX.out _ _ rfl ⟨true, rfl, HO.out, fun h => by cases h⟩
    rw [tf_true h]
    have H3 := Lib.hid h
    clear h
    have c1 := HO.out.obj.cell (i := 0) rfl
    have HB := Lib.hid (fun wr (hi : m.inn wr) => r05Valid_any (.slice vb B.length vd) B m wr hi HB.out (by have := H2.out.2; omega))
    go_wp2_with fail
    refine (HB.out _ HO.out.inn).mono ?_
    rintro e w6 ⟨rfl, hb⟩
    have HO := Lib.hid (HO.out.move hb)
    clear HB hb c1
    by_cases h : Canon B
    case neg =>
      rw [tf_false h]
      clear h
      go_wp2
      exact hX.out _ _ rfl ⟨true, rfl, HO.out, fun h => by cases h⟩
    rw [tf_true h]
    have H4 := Lib.hid h
    clear h
    by_cases h : s.size ≤ 60
    · have hd : decide (60 < (s.size : Int)) = false := by simp; omega
      have H5 := Lib.hid h
      clear h
      go_wp2
      exact hX.out _ _ rfl ⟨false, rfl, HO.out, fun _ => ⟨H1.out, H2.out, H3.out, H4.out, H5.out⟩⟩
    · have hd : decide (60 < (s.size : Int)) = true := by simp; omega
      clear h
      go_wp2
      exact hX.out _ _ rfl ⟨true, rfl, HO.out, fun h => by cases h⟩
  rintro z vs w1 - ⟨c, rfl, hO, hc⟩
  simp [litL, lk]
  clear HO
  cases c with
  | true =>
    have HO := Lib.hid hO
    clear hO hc
    go_wp2_with fail
    refine (HW.out _ HO.out.inn).mono ?_
    rintro e w2 ⟨rfl, hb⟩
    have HO := Lib.hid (HO.out.move hb)
    clear hb
    go_wp2
    exact hR.out _ _ ⟨rfl, HO.out.below⟩
  | false =>
    obtain ⟨h1, h2, h3, h4, h5⟩ := hc rfl
    have HO := Lib.hid hO
    clear hO hc
    go_wp2
    refine wp_cut_keep [2, 3, 4, 7, 8] (fun vs w' => vs = [.string s, .pointer (some ⟨w.heap.size, 0, none⟩), .pointer (some ⟨w.heap.size + 1, 0, none⟩), .bool (accFrom A 0 s.data.toList), .bool (accFrom B 0 s.data.toList)] ∧
      Own w m w' m [.obj (w.heap.size + 1) 24 #[.slice vb B.length vd], .obj w.heap.size 24 #[.slice va A.length vc]]) ?_ ?_
    · intro X hX
      refine wp_region_facts 8 5 (fun j => [Fact.is (· = .agg #[.slice va A.length vc]), Fact.is (· = .string s), Fact.is (· = .bool (accFrom A 0 s.data.toList)), Fact.is (· = .agg #[.slice vb B.length vd]), Fact.is (· = .string s), Fact.is (· = .bool (accFrom B 0 s.data.toList)), Fact.is (· = .bool (accFrom A 0 s.data.toList)), Fact.is (· = .bool (accFrom B 0 s.data.toList))].getD j Fact.any) (by kernel_rfl) (by kernel_rfl) ?_ ?_
      · intro i hi o win a wr ho A'
        have HO2 := HO.out.dr.move A'.below
        have q1 := HO2.obj.cell (i := 0) rfl
        have q2 := HO2.swap.obj.cell (i := 0) rfl
        rcases (show i = 0 ∨ i = 1 ∨ i = 2 ∨ i = 3 ∨ i = 4 ∨ i = 5 ∨ i = 6 ∨ i = 7 by omega) with rfl | rfl | rfl | rfl | rfl | rfl | rfl | rfl
        · have e3 := A'.keep 3 (by kernel_rfl)
          cases ho
          refine wpOp_of rfl rfl (wp_value (by go_simp; first | done | rfl) ⟨_, rfl, Below.refl _ _, rfl⟩)
        · have e2 := A'.keep 2 (by kernel_rfl)
          cases ho
          refine wpOp_of rfl rfl (wp_value (by go_simp; first | done | rfl) ⟨_, rfl, Below.refl _ _, rfl⟩)
        · have e37 : a.tmps.getD 37 undef = .agg #[.slice va A.length vc] := A'.dep 0 _ (by kernel_rfl) rfl
          have e38 : a.tmps.getD 38 undef = .string s := A'.dep 1 _ (by kernel_rfl) rfl
          cases ho
          refine wpOp_of rfl rfl (wp_enter (by go_simp; first | done | rfl) (r05Accepts_any (.slice va A.length vc) A s m wr HO2.inn HA.out hs') ?_)
          rintro e w' ⟨rfl, hb⟩
          exact ⟨_, rfl, _, rfl, hb, congrArg Value.bool (show (tf (WF A) && accFrom A 0 s.data.toList) = _ by rw [tf_true h3.wf]; rfl)⟩
        · have e4 := A'.keep 4 (by kernel_rfl)
          cases ho
          refine wpOp_of rfl rfl (wp_value (by go_simp; first | done | rfl) ⟨_, rfl, Below.refl _ _, rfl⟩)
        · have e2 := A'.keep 2 (by kernel_rfl)
          cases ho
          refine wpOp_of rfl rfl (wp_value (by go_simp; first | done | rfl) ⟨_, rfl, Below.refl _ _, rfl⟩)
        · have e40 : a.tmps.getD 40 undef = .agg #[.slice vb B.length vd] := A'.dep 3 _ (by kernel_rfl) rfl
          have e41 : a.tmps.getD 41 undef = .string s := A'.dep 4 _ (by kernel_rfl) rfl
          cases ho
          refine wpOp_of rfl rfl (wp_enter (by go_simp; first | done | rfl) (r05Accepts_any (.slice vb B.length vd) B s m wr HO2.inn HB.out hs') ?_)
          rintro e w' ⟨rfl, hb⟩
          exact ⟨_, rfl, _, rfl, hb, congrArg Value.bool (show (tf (WF B) && accFrom B 0 s.data.toList) = _ by rw [tf_true h4.wf]; rfl)⟩
        · have e39 : a.tmps.getD 39 undef = .bool (accFrom A 0 s.data.toList) := A'.dep 2 _ (by kernel_rfl) rfl
          cases ho
          refine wpOp_of rfl rfl (wp_value (by go_simp; first | done | rfl) ⟨_, rfl, Below.refl _ _, rfl⟩)
        · have e42 : a.tmps.getD 42 undef = .bool (accFrom B 0 s.data.toList) := A'.dep 5 _ (by kernel_rfl) rfl
          cases ho
          refine wpOp_of rfl rfl (wp_value (by go_simp; first | done | rfl) ⟨_, rfl, Below.refl _ _, rfl⟩)
      · intro win a wr E
        have e2 := E.keep 2 (by kernel_rfl)
        have e3 := E.keep 3 (by kernel_rfl)
        have e4 := E.keep 4 (by kernel_rfl)
        have e7 : a.tmps.getD 7 undef = .bool (accFrom A 0 s.data.toList) := E.fact 6 _ (by omega) rfl
        have e8 : a.tmps.getD 8 undef = .bool (accFrom B 0 s.data.toList) := E.fact 7 _ (by omega) rfl
        obtain ⟨t, d⟩ := a
        obtain rfl : d = [] := E.defers
        refine wpAny_none (by kernel_rfl) (hX.out _ _ E.size ⟨?_, HO.out.dr.move E.below⟩) _
        simp only [List.map_cons, List.map_nil, e2, e3, e4, e7, e8]
        rfl
    rintro z vs w1 - ⟨rfl, hO⟩
    simp [litL, lk]
    clear HO
    have HO := Lib.hid hO
    clear hO
    have hF : Fits A B := Fits.of h1.2 h2.2 (by decide)
    have hFA : A.length ≤ 300000 := by have := h1.2; omega
    have hn1 : (A.length + 2) * (B.length + 2) ≤ 10 * 10 := Nat.mul_le_mul (by have := h1.2; omega) (by have := h2.2; omega)
    go_wp2
    refine wp_cut_keep [2, 3, 4, 7, 8, 9, 10, 11, 12] (fun vs w' => ∃ (g1 g2 g3 g4 : Nat) (mk : Mem) (x1 x2 x3 x4 : Option Addr) (y1 y2 y3 y4 : Nat) (C1 C2 C3 C4 : Table),
      vs = [.string s, .pointer (some ⟨w.heap.size, 0, none⟩), .pointer (some ⟨w.heap.size + 1, 0, none⟩), .bool (accFrom A 0 s.data.toList), .bool (accFrom B 0 s.data.toList), .pointer (some ⟨g1, 0, none⟩), .pointer (some ⟨g2, 0, none⟩), .pointer (some ⟨g3, 0, none⟩), .pointer (some ⟨g4, 0, none⟩)] ∧
      Own w m w' mk [.obj g4 24 #[.slice x4 C4.length y4], .obj g3 24 #[.slice x3 C3.length y3], .obj g2 24 #[.slice x2 C2.length y2], .obj g1 24 #[.slice x1 C1.length y1],
        .obj (w.heap.size + 1) 24 #[.slice vb B.length vd], .obj w.heap.size 24 #[.slice va A.length vc]] ∧ m.le mk ∧
      (statesAt mk (.slice x1 C1.length y1) C1 ∧ LangIs (fun x => Sem A x && Sem B x) C1 ∧ C1.length ≤ 101) ∧ (statesAt mk (.slice x2 C2.length y2) C2 ∧ LangIs (fun x => Sem A x || Sem B x) C2 ∧ C2.length ≤ 101) ∧
      (statesAt mk (.slice x3 C3.length y3) C3 ∧ LangIs (fun x => !Sem A x) C3 ∧ C3.length ≤ 31) ∧ (statesAt mk (.slice x4 C4.length y4) C4 ∧ LangIs (fun x => Sem A x && !Sem B x) C4 ∧ C4.length ≤ 101)) ?_ ?_
    · intro X hX
      refine wp_region_facts 15 6 (fun j => [Fact.is (· = .agg #[.slice va A.length vc]), Fact.is (· = .agg #[.slice vb B.length vd]), Fact.mem m [2] (LangV (fun x => Sem A x && Sem B x) 101), Fact.is (· = .agg #[.slice va A.length vc]), Fact.is (· = .agg #[.slice vb B.length vd]), Fact.mem m [5] (LangV (fun x => Sem A x || Sem B x) 101), Fact.is (· = .agg #[.slice va A.length vc]), Fact.mem m [7] (LangV (fun x => !Sem A x) 31), Fact.is (· = .agg #[.slice va A.length vc]), Fact.is (· = .agg #[.slice vb B.length vd]), Fact.mem m [10] (LangV (fun x => Sem A x && !Sem B x) 101), Fact.obj 11 24 #[.slice none 0 0], Fact.obj 12 24 #[.slice none 0 0], Fact.obj 13 24 #[.slice none 0 0], Fact.obj 14 24 #[.slice none 0 0]].getD j Fact.any) (by kernel_rfl) (by kernel_rfl) ?_ ?_
      · intro i hi o win a wr ho A'
        have HO2 := HO.out.dr.move A'.below
        have q1 := HO2.obj.cell (i := 0) rfl
        have q2 := HO2.swap.obj.cell (i := 0) rfl
        rcases (show i = 0 ∨ i = 1 ∨ i = 2 ∨ i = 3 ∨ i = 4 ∨ i = 5 ∨ i = 6 ∨ i = 7 ∨ i = 8 ∨ i = 9 ∨ i = 10 ∨ i = 11 ∨ i = 12 ∨ i = 13 ∨ i = 14 by omega) with rfl | rfl | rfl | rfl | rfl | rfl | rfl | rfl | rfl | rfl | rfl | rfl | rfl | rfl | rfl
        · have e3 := A'.keep 3 (by kernel_rfl)
          cases ho
          refine wpOp_of rfl rfl (wp_value (by go_simp; first | done | rfl) ⟨_, rfl, Below.refl _ _, rfl⟩)
        · have e4 := A'.keep 4 (by kernel_rfl)
          cases ho
          refine wpOp_of rfl rfl (wp_value (by go_simp; first | done | rfl) ⟨_, rfl, Below.refl _ _, rfl⟩)
        · have e43 : a.tmps.getD 43 undef = .agg #[.slice va A.length vc] := A'.dep 0 _ (by kernel_rfl) rfl
          have e44 : a.tmps.getD 44 undef = .agg #[.slice vb B.length vd] := A'.dep 1 _ (by kernel_rfl) rfl
          cases ho
          refine wpOp_of rfl rfl (wp_enter (by go_simp; first | done | rfl) (langAnd_any (.slice va A.length vc) (.slice vb B.length vd) A B m wr HO2.inn HT.out HA.out HB.out hF) ?_)
          rintro e w' ⟨r, C, rfl, hb, hst, hl, hn⟩
          exact ⟨_, rfl, _, rfl, hb, langV_mk HO2.inn hb hst hl (by omega)⟩
        · have e3 := A'.keep 3 (by kernel_rfl)
          cases ho
          refine wpOp_of rfl rfl (wp_value (by go_simp; first | done | rfl) ⟨_, rfl, Below.refl _ _, rfl⟩)
        · have e4 := A'.keep 4 (by kernel_rfl)
          cases ho
          refine wpOp_of rfl rfl (wp_value (by go_simp; first | done | rfl) ⟨_, rfl, Below.refl _ _, rfl⟩)
        · have e46 : a.tmps.getD 46 undef = .agg #[.slice va A.length vc] := A'.dep 3 _ (by kernel_rfl) rfl
          have e47 : a.tmps.getD 47 undef = .agg #[.slice vb B.length vd] := A'.dep 4 _ (by kernel_rfl) rfl
          cases ho
          refine wpOp_of rfl rfl (wp_enter (by go_simp; first | done | rfl) (langOr_any (.slice va A.length vc) (.slice vb B.length vd) A B m wr HO2.inn HT.out HA.out HB.out hF) ?_)
          rintro e w' ⟨r, C, rfl, hb, hst, hl, hn⟩
          exact ⟨_, rfl, _, rfl, hb, langV_mk HO2.inn hb hst hl (by omega)⟩
        · have e3 := A'.keep 3 (by kernel_rfl)
          cases ho
          refine wpOp_of rfl rfl (wp_value (by go_simp; first | done | rfl) ⟨_, rfl, Below.refl _ _, rfl⟩)
        · have e49 : a.tmps.getD 49 undef = .agg #[.slice va A.length vc] := A'.dep 6 _ (by kernel_rfl) rfl
          cases ho
          refine wpOp_of rfl rfl (wp_enter (by go_simp; first | done | rfl) (langNot_any (.slice va A.length vc) A m wr HO2.inn HT.out HA.out hFA) ?_)
          rintro e w' ⟨r, C, rfl, hb, hst, hl, hn⟩
          exact ⟨_, rfl, _, rfl, hb, langV_mk HO2.inn hb hst hl (by have := h1.2; omega)⟩
        · have e3 := A'.keep 3 (by kernel_rfl)
          cases ho
          refine wpOp_of rfl rfl (wp_value (by go_simp; first | done | rfl) ⟨_, rfl, Below.refl _ _, rfl⟩)
        · have e4 := A'.keep 4 (by kernel_rfl)
          cases ho
          refine wpOp_of rfl rfl (wp_value (by go_simp; first | done | rfl) ⟨_, rfl, Below.refl _ _, rfl⟩)
        · have e51 : a.tmps.getD 51 undef = .agg #[.slice va A.length vc] := A'.dep 8 _ (by kernel_rfl) rfl
          have e52 : a.tmps.getD 52 undef = .agg #[.slice vb B.length vd] := A'.dep 9 _ (by kernel_rfl) rfl
          cases ho
          refine wpOp_of rfl rfl (wp_enter (by go_simp; first | done | rfl) (langMinus_any (.slice va A.length vc) (.slice vb B.length vd) A B m wr HO2.inn HT.out HA.out HB.out hF) ?_)
          rintro e w' ⟨r, C, rfl, hb, hst, hl, hn⟩
          exact ⟨_, rfl, _, rfl, hb, langV_mk HO2.inn hb hst hl (by omega)⟩
        · cases ho
          exact wpOp_of rfl rfl (wp_value (by go_simp; first | done | rfl) ⟨_, rfl, below_al (Below.refl _ _) _, obj_mk win⟩)
        · cases ho
          exact wpOp_of rfl rfl (wp_value (by go_simp; first | done | rfl) ⟨_, rfl, below_al (Below.refl _ _) _, obj_mk win⟩)
        · cases ho
          exact wpOp_of rfl rfl (wp_value (by go_simp; first | done | rfl) ⟨_, rfl, below_al (Below.refl _ _) _, obj_mk win⟩)
        · cases ho
          exact wpOp_of rfl rfl (wp_value (by go_simp; first | done | rfl) ⟨_, rfl, below_al (Below.refl _ _) _, obj_mk win⟩)
      · intro win a wr E
        have e2 := E.keep 2 (by kernel_rfl)
        have e3 := E.keep 3 (by kernel_rfl)
        have e4 := E.keep 4 (by kernel_rfl)
        have e7 := E.keep 7 (by kernel_rfl)
        have e8 := E.keep 8 (by kernel_rfl)
        have e9 : (Fact.obj 11 24 #[.slice none 0 0]).holds (a.tmps.getD 9 undef) win wr := E.fact 11 _ (by omega) rfl
        have e10 : (Fact.obj 12 24 #[.slice none 0 0]).holds (a.tmps.getD 10 undef) win wr := E.fact 12 _ (by omega) rfl
        have e11 : (Fact.obj 13 24 #[.slice none 0 0]).holds (a.tmps.getD 11 undef) win wr := E.fact 13 _ (by omega) rfl
        have e12 : (Fact.obj 14 24 #[.slice none 0 0]).holds (a.tmps.getD 12 undef) win wr := E.fact 14 _ (by omega) rfl
        have e45 : (Fact.mem m [2] (LangV (fun x => Sem A x && Sem B x) 101)).holds (a.tmps.getD 45 undef) win wr := E.fact 2 _ (by omega) rfl
        have e48 : (Fact.mem m [5] (LangV (fun x => Sem A x || Sem B x) 101)).holds (a.tmps.getD 48 undef) win wr := E.fact 5 _ (by omega) rfl
        have e50 : (Fact.mem m [7] (LangV (fun x => !Sem A x) 31)).holds (a.tmps.getD 50 undef) win wr := E.fact 7 _ (by omega) rfl
        have e53 : (Fact.mem m [10] (LangV (fun x => Sem A x && !Sem B x) 101)).holds (a.tmps.getD 53 undef) win wr := E.fact 10 _ (by omega) rfl
        obtain ⟨x1, y1, C1, f1, st1, l1⟩ : LangV _ _ _ _ := e45
        obtain ⟨x2, y2, C2, f2, st2, l2⟩ : LangV _ _ _ _ := e48
        obtain ⟨x3, y3, C3, f3, st3, l3⟩ : LangV _ _ _ _ := e50
        obtain ⟨x4, y4, C4, f4, st4, l4⟩ : LangV _ _ _ _ := e53
        obtain ⟨p1, n1, o1⟩ : _ ∧ _ ∧ _ := e9
        obtain ⟨p2, n2, o2⟩ : _ ∧ _ ∧ _ := e10
        obtain ⟨p3, n3, o3⟩ : _ ∧ _ ∧ _ := e11
        obtain ⟨p4, n4, o4⟩ : _ ∧ _ ∧ _ := e12
        have g1 := E.rng 11 (by omega)
        have g2 := E.rng 12 (by omega)
        have g3 := E.rng 13 (by omega)
        have g4 := E.rng 14 (by omega)
        have far : ∀ j, j = 11 ∨ j = 12 ∨ j = 13 ∨ j = 14 → ∀ d ∈ [2, 5, 7, 10], ¬ ((win d).1 ≤ (win j).1 ∧ (win j).1 < (win d).2) := by
          intro j hj d hd
          have hd' : d = 2 ∨ d = 5 ∨ d = 7 ∨ d = 10 := by simpa using hd
          have := E.apart j d (by omega) (by omega) (by omega)
          have : (win j).2 = (win j).1 + 1 := by rcases hj with rfl | rfl | rfl | rfl <;> assumption
          omega
        have hO1 := HO.out.dr.region E.below win [2, 5, 7, 10] (fun d hd => (E.rng d (by simp at hd; omega)).1)
        have hge := HO.out.dr.below.size
        have no : ∀ j, j = 11 ∨ j = 12 ∨ j = 13 ∨ j = 14 → m.wins wr win [2, 5, 7, 10] (win j).1 = none := fun j hj =>
          Mem.wins_none (Mem.none_of_ge HO.out.dr.inn (E.rng j (by omega)).1) (far j hj)
        have hL1 := HO.out.dr.blk_lt g1.1
        have hL2 := HO.out.dr.blk_lt g2.1
        have hL3 := HO.out.dr.blk_lt g3.1
        have hL4 := HO.out.dr.blk_lt g4.1
        have a12 := E.apart 11 12 (by omega) (by omega) (by omega)
        have a13 := E.apart 11 13 (by omega) (by omega) (by omega)
        have a14 := E.apart 11 14 (by omega) (by omega) (by omega)
        have a23 := E.apart 12 13 (by omega) (by omega) (by omega)
        have a24 := E.apart 12 14 (by omega) (by omega) (by omega)
        have a34 := E.apart 13 14 (by omega) (by omega) (by omega)
        have hO2 := hO1.newObj o1 (by omega) (no 11 (by omega)) hL1
        have hO2 := hO2.newObj o2 (by omega) (no 12 (by omega)) (blk_cons (by omega) hL2)
        have hO2 := hO2.newObj o3 (by omega) (no 13 (by omega)) (blk_cons (by omega) (blk_cons (by omega) hL3))
        have hO2 := hO2.newObj o4 (by omega) (no 14 (by omega)) (blk_cons (by omega) (blk_cons (by omega) (blk_cons (by omega) hL4)))
        have st1 := statesAt_le (Mem.wins_le (es := [2, 5, 7, 10]) hO1.inn0 win (by simp)) st1
        have st2 := statesAt_le (Mem.wins_le (es := [2, 5, 7, 10]) hO1.inn0 win (by simp)) st2
        have st3 := statesAt_le (Mem.wins_le (es := [2, 5, 7, 10]) hO1.inn0 win (by simp)) st3
        have st4 := statesAt_le (Mem.wins_le (es := [2, 5, 7, 10]) hO1.inn0 win (by simp)) st4
        have hle := Mem.le_wins hO1.inn0 win [2, 5, 7, 10]
        have HK := Lib.hid (And.intro hle (And.intro (And.intro st1 l1) (And.intro (And.intro st2 l2) (And.intro (And.intro st3 l3) (And.intro st4 l4)))))
        generalize m.wins wr win [2, 5, 7, 10] = mk at *
        generalize (win 11).1 = q1 at *
        generalize (win 12).1 = q2 at *
        generalize (win 13).1 = q3 at *
        generalize (win 14).1 = q4 at *
        have HE := Lib.hid E
        clear st1 st2 st3 st4 l1 l2 l3 l4 hle hL1 hL2 hL3 hL4 no far hO1 a12 a13 a14 a23 a24 a34 g1 g2 g3 g4 o1 o2 o3 o4 n1 n2 n3 n4 hge E
        have b1 := hO2.fourth.obj.frozen 0
        have b2 := hO2.fourth.obj.cell (i := 0) rfl
        have b3 := hO2.fourth.obj.lt
        have hO3 := hO2.fourth.set 0 (.slice x1 C1.length y1)
        refine wpAny_one 15 (by kernel_rfl) (wpOp_of rfl rfl (wp_skipped (by go_simp; first | done | rfl) ?_))
        clear b1 b2 b3
        have b1 := hO3.fourth.obj.frozen 0
        have b2 := hO3.fourth.obj.cell (i := 0) rfl
        have b3 := hO3.fourth.obj.lt
        have hO4 := hO3.fourth.set 0 (.slice x2 C2.length y2)
        refine wpAny_one 16 (by kernel_rfl) (wpOp_of rfl rfl (wp_skipped (by go_simp; first | done | rfl) ?_))
        clear b1 b2 b3
        have b1 := hO4.fourth.obj.frozen 0
        have b2 := hO4.fourth.obj.cell (i := 0) rfl
        have b3 := hO4.fourth.obj.lt
        have hO5 := hO4.fourth.set 0 (.slice x3 C3.length y3)
        refine wpAny_one 17 (by kernel_rfl) (wpOp_of rfl rfl (wp_skipped (by go_simp; first | done | rfl) ?_))
        clear b1 b2 b3
        have b1 := hO5.fourth.obj.frozen 0
        have b2 := hO5.fourth.obj.cell (i := 0) rfl
        have b3 := hO5.fourth.obj.lt
        have hO6 := hO5.fourth.set 0 (.slice x4 C4.length y4)
        refine wpAny_one 18 (by kernel_rfl) (wpOp_of rfl rfl (wp_skipped (by go_simp; first | done | rfl) ?_))
        obtain ⟨t, d⟩ := a
        obtain rfl : d = [] := HE.out.defers
        refine wpAny_none (by kernel_rfl) (hX.out _ _ HE.out.size ⟨q1, q2, q3, q4, mk, x1, x2, x3, x4, y1, y2, y3, y4, C1, C2, C3, C4, ?_, hO6, HK.out⟩) _
        simp only [List.map_cons, List.map_nil, e2, e3, e4, e7, e8, p1, p2, p3, p4]
        rfl
    rintro z vs w2 - ⟨g1, g2, g3, g4, mk, x1, x2, x3, x4, y1, y2, y3, y4, C1, C2, C3, C4, rfl, hO, hmk, ⟨s1, l1, n1⟩, ⟨s2, l2, n2⟩, ⟨s3, l3, n3⟩, ⟨s4, l4, n4⟩⟩
    simp [litL, lk]
    have E1 : (tf (WF C1) && accFrom C1 0 s.data.toList) = (accFrom A 0 s.data.toList && accFrom B 0 s.data.toList) := by rw [accepts_of l1, sem_canon h3, sem_canon h4]
    have E2 : (tf (WF C2) && accFrom C2 0 s.data.toList) = (accFrom A 0 s.data.toList || accFrom B 0 s.data.toList) := by rw [accepts_of l2, sem_canon h3, sem_canon h4]
    have E3 : (tf (WF C3) && accFrom C3 0 s.data.toList) = !accFrom A 0 s.data.toList := by rw [accepts_of l3, sem_canon h3]
    have E4 : (tf (WF C4) && accFrom C4 0 s.data.toList) = (accFrom A 0 s.data.toList && !accFrom B 0 s.data.toList) := by rw [accepts_of l4, sem_canon h3, sem_canon h4]
    generalize accFrom A 0 s.data.toList = x at *
    generalize accFrom B 0 s.data.toList = y at *
    have V1 := Lib.hid (And.intro s1 (And.intro n1 (And.intro l1.canon E1)))
    have V2 := Lib.hid (And.intro s2 (And.intro n2 (And.intro l2.canon E2)))
    have V3 := Lib.hid (And.intro s3 (And.intro n3 (And.intro l3.canon E3)))
    have V4 := Lib.hid (And.intro s4 (And.intro n4 (And.intro l4.canon E4)))
    clear HO
    have HO := Lib.hid hO
    have HL := Lib.hid hmk
    have h5' := Lib.hid h5
    clear hO hmk s1 l1 n1 s2 l2 n2 s3 l3 n3 s4 l4 n4 E1 E2 E3 E4 HA HB HT h1 h2 h3 h4 hn1 hF hFA hs h5
    have c1 := (HO.out.at_obj (g := g1) (t := 24) (arr := #[.slice x1 C1.length y1]) (by simp)).cell (i := 0) rfl
    have HB := Lib.hid (fun wr (hi : mk.inn wr) => r05Valid_any (.slice x1 C1.length y1) C1 mk wr hi V1.out.1 (by have := V1.out.2.1; omega))
    go_wp2_with fail
    refine (HB.out _ HO.out.inn).mono ?_
    rintro e w3 ⟨rfl, hb⟩
    rw [tf_true V1.out.2.2.1]
    have HO := Lib.hid (HO.out.move hb)
    clear HB hb c1
    have c1 := (HO.out.at_obj (g := g2) (t := 24) (arr := #[.slice x2 C2.length y2]) (by simp)).cell (i := 0) rfl
    have HB := Lib.hid (fun wr (hi : mk.inn wr) => r05Valid_any (.slice x2 C2.length y2) C2 mk wr hi V2.out.1 (by have := V2.out.2.1; omega))
    go_wp2_with fail
    refine (HB.out _ HO.out.inn).mono ?_
    rintro e w3 ⟨rfl, hb⟩
    rw [tf_true V2.out.2.2.1]
    have HO := Lib.hid (HO.out.move hb)
    clear HB hb c1
    have c1 := (HO.out.at_obj (g := g3) (t := 24) (arr := #[.slice x3 C3.length y3]) (by simp)).cell (i := 0) rfl
    have HB := Lib.hid (fun wr (hi : mk.inn wr) => r05Valid_any (.slice x3 C3.length y3) C3 mk wr hi V3.out.1 (by have := V3.out.2.1; omega))
    go_wp2_with fail
    refine (HB.out _ HO.out.inn).mono ?_
    rintro e w3 ⟨rfl, hb⟩
    rw [tf_true V3.out.2.2.1]
    have HO := Lib.hid (HO.out.move hb)
    clear HB hb c1
    have c1 := (HO.out.at_obj (g := g4) (t := 24) (arr := #[.slice x4 C4.length y4]) (by simp)).cell (i := 0) rfl
    have HB := Lib.hid (fun wr (hi : mk.inn wr) => r05Valid_any (.slice x4 C4.length y4) C4 mk wr hi V4.out.1 (by have := V4.out.2.1; omega))
    go_wp2_with fail
    refine (HB.out _ HO.out.inn).mono ?_
    rintro e w3 ⟨rfl, hb⟩
    rw [tf_true V4.out.2.2.1]
    have HO := Lib.hid (HO.out.move hb)
    clear HB hb c1
    cases x <;> cases y
    all_goals
      have c1 := (HO.out.at_obj (g := g1) (t := 24) (arr := #[.slice x1 C1.length y1]) (by simp)).cell (i := 0) rfl
      have HB := Lib.hid (fun wr (hi : mk.inn wr) => r05Accepts_any (.slice x1 C1.length y1) C1 s mk wr hi V1.out.1 hs')
      have E1 := V1.out.2.2.2
      simp only [Bool.and_true, Bool.and_false, Bool.or_true, Bool.true_or, Bool.or_false, Bool.not_true, Bool.not_false, Bool.false_or, Bool.true_and, Bool.false_and, Bool.or_self, Bool.and_self] at E1
      have HE := Lib.hid E1
      clear E1
      go_wp2_with fail
      refine (HB.out _ HO.out.inn).mono ?_
      rintro e w3 ⟨rfl, hb⟩
      rw [HE.out]
      have HO := Lib.hid (HO.out.move hb)
      clear HB hb c1 HE
      have c1 := (HO.out.at_obj (g := g2) (t := 24) (arr := #[.slice x2 C2.length y2]) (by simp)).cell (i := 0) rfl
      have HB := Lib.hid (fun wr (hi : mk.inn wr) => r05Accepts_any (.slice x2 C2.length y2) C2 s mk wr hi V2.out.1 hs')
      have E1 := V2.out.2.2.2
      simp only [Bool.and_true, Bool.and_false, Bool.or_true, Bool.true_or, Bool.or_false, Bool.not_true, Bool.not_false, Bool.false_or, Bool.true_and, Bool.false_and, Bool.or_self, Bool.and_self] at E1
      have HE := Lib.hid E1
      clear E1
      go_wp2_with fail
      refine (HB.out _ HO.out.inn).mono ?_
      rintro e w3 ⟨rfl, hb⟩
      rw [HE.out]
      have HO := Lib.hid (HO.out.move hb)
      clear HB hb c1 HE
      have c1 := (HO.out.at_obj (g := g3) (t := 24) (arr := #[.slice x3 C3.length y3]) (by simp)).cell (i := 0) rfl
      have HB := Lib.hid (fun wr (hi : mk.inn wr) => r05Accepts_any (.slice x3 C3.length y3) C3 s mk wr hi V3.out.1 hs')
      have E1 := V3.out.2.2.2
      simp only [Bool.and_true, Bool.and_false, Bool.or_true, Bool.true_or, Bool.or_false, Bool.not_true, Bool.not_false, Bool.false_or, Bool.true_and, Bool.false_and, Bool.or_self, Bool.and_self] at E1
      have HE := Lib.hid E1
      clear E1
      go_wp2_with fail
      refine (HB.out _ HO.out.inn).mono ?_
      rintro e w3 ⟨rfl, hb⟩
      rw [HE.out]
      have HO := Lib.hid (HO.out.move hb)
      clear HB hb c1 HE
      have c1 := (HO.out.at_obj (g := g4) (t := 24) (arr := #[.slice x4 C4.length y4]) (by simp)).cell (i := 0) rfl
      have HB := Lib.hid (fun wr (hi : mk.inn wr) => r05Accepts_any (.slice x4 C4.length y4) C4 s mk wr hi V4.out.1 hs')
      have E1 := V4.out.2.2.2
      simp only [Bool.and_true, Bool.and_false, Bool.or_true, Bool.true_or, Bool.or_false, Bool.not_true, Bool.not_false, Bool.false_or, Bool.true_and, Bool.false_and, Bool.or_self, Bool.and_self] at E1
      have HE := Lib.hid E1
      clear E1
      go_wp2_with fail
      refine (HB.out _ HO.out.inn).mono ?_
      rintro e w3 ⟨rfl, hb⟩
      rw [HE.out]
      have HO := Lib.hid (HO.out.move hb)
      clear HB hb c1 HE
      go_wp2_with fail
      refine (HW.out _ (Mem.inn_le HL.out HO.out.inn)).mono ?_
      rintro e w3 ⟨rfl, hb⟩
      have HO := Lib.hid (HO.out.move hb)
      clear hb
      go_wp2
      exact hR.out _ _ ⟨rfl, HO.out.below⟩
end Cl

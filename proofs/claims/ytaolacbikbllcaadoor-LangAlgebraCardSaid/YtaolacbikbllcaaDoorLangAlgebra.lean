/- LangAlgebra. For every input the law returns true, and each argument reads afterwards as it did before. Conditions: those of the row, none of ours. -/
import Derived.RegionTactic
import Derived.ChangeAlike
import Derived.Test.YtaolacbikbllcaaDoorPkA2
import Derived.Test.YtaolacbikbllcaaDoorPkA3
import Derived.Test.YtaolacbikbllcaaDoorPkB1
import Derived.Test.YtaolacbikbllcaaDoorPkA1
import Derived.Test.YtaolacbikbllcaaDoorPkA6
import Derived.Test.YtaolacbikbllcaaDoorPkA7
import Derived.Test.YtaolacbikbllcaaDoorPkA8
import Derived.Test.YtaolacbikbllcaaDoorPkC2
namespace Cl
open Go Go.RowKit Go.Proofs

set_option maxRecDepth 100000 in
set_option maxHeartbeats 16000000 in
theorem LangAlgebra_r3 {A B C : Table} {m : Mem} {w w1 : World} {vaa vba vca : Option Addr} {vac vbc vcc : Nat} {X : Act → World → Prop} (t0 : Array Value) (hz : t0.size = 119) (h3 : t0.getD 3 undef = .pointer (some ⟨w.heap.size, 0, none⟩)) (h4 : t0.getD 4 undef = .pointer (some ⟨w.heap.size + 1, 0, none⟩)) (h5 : t0.getD 5 undef = .pointer (some ⟨w.heap.size + 1 + 1, 0, none⟩))
    (HT : Hid (TabM m)) (HA : Hid (statesAt m (.slice vaa A.length vac) A)) (HB : Hid (statesAt m (.slice vba B.length vbc) B)) (HC : Hid (statesAt m (.slice vca C.length vcc) C)) (hsA : SmallT A) (hsB : SmallT B) (hsC : SmallT C) (hcA : Canon A) (hcB : Canon B) (hcC : Canon C)
    (HO : Hid (Own w m w1 m [.obj (w.heap.size + 1 + 1) 24 #[.slice vca C.length vcc], .obj (w.heap.size + 1) 24 #[.slice vba B.length vbc], .obj w.heap.size 24 #[.slice vaa A.length vac]]))
    (hX : Hid (∀ (t' : Array Value) w', t'.size = t0.size → ([3, 4, 5, 59].map fun i => t'.getD i undef) = [.pointer (some ⟨w.heap.size, 0, none⟩), .pointer (some ⟨w.heap.size + 1, 0, none⟩), .pointer (some ⟨w.heap.size + 1 + 1, 0, none⟩), .bool false] ∧ Own w m w' m [.obj (w.heap.size + 1 + 1) 24 #[.slice vca C.length vcc], .obj (w.heap.size + 1) 24 #[.slice vba B.length vbc], .obj w.heap.size 24 #[.slice vaa A.length vac]] → X ⟨t', []⟩ w')) :
    (Go.Code.region 3 #[{ dst := some 36, op := Go.Op.load 24 (Go.Operand.tmp 3), type := 24, pos := "law.go:88", after := #[], guard := none }, { dst := some 37, op := Go.Op.load 24 (Go.Operand.tmp 4), type := 24, pos := "law.go:88", after := #[], guard := none }, { dst := some 38, op := Go.Op.load 24 (Go.Operand.tmp 5), type := 24, pos := "law.go:88", after := #[], guard := none }, { dst := some 39, op := Go.Op.call { callee := Go.Callee.value (Go.Operand.func 15), args := #[Go.Operand.tmp 37, Go.Operand.tmp 38], argTypes := #[24, 24] }, type := 24, pos := "law.go:88", after := #[{ on := 1, ground := Go.Ground.data }, { on := 2, ground := Go.Ground.data }], guard := none }, { dst := some 40, op := Go.Op.call { callee := Go.Callee.value (Go.Operand.func 13), args := #[Go.Operand.tmp 36, Go.Operand.tmp 39], argTypes := #[24, 24] }, type := 24, pos := "law.go:88", after := #[{ on := 0, ground := Go.Ground.data }, { on := 3, ground := Go.Ground.data }, { on := 3, ground := Go.Ground.chain }], guard := none }, { dst := some 41, op := Go.Op.load 24 (Go.Operand.tmp 3), type := 24, pos := "law.go:88", after := #[], guard := none }, { dst := some 42, op := Go.Op.load 24 (Go.Operand.tmp 4), type := 24, pos := "law.go:88", after := #[], guard := none }, { dst := some 43, op := Go.Op.call { callee := Go.Callee.value (Go.Operand.func 13), args := #[Go.Operand.tmp 41, Go.Operand.tmp 42], argTypes := #[24, 24] }, type := 24, pos := "law.go:88", after := #[{ on := 5, ground := Go.Ground.data }, { on := 6, ground := Go.Ground.data }, { on := 4, ground := Go.Ground.chain }], guard := none }, { dst := some 44, op := Go.Op.load 24 (Go.Operand.tmp 3), type := 24, pos := "law.go:88", after := #[], guard := none }, { dst := some 45, op := Go.Op.load 24 (Go.Operand.tmp 5), type := 24, pos := "law.go:88", after := #[], guard := none }, { dst := some 46, op := Go.Op.call { callee := Go.Callee.value (Go.Operand.func 13), args := #[Go.Operand.tmp 44, Go.Operand.tmp 45], argTypes := #[24, 24] }, type := 24, pos := "law.go:88", after := #[{ on := 8, ground := Go.Ground.data }, { on := 9, ground := Go.Ground.data }, { on := 7, ground := Go.Ground.chain }], guard := none }, { dst := some 47, op := Go.Op.call { callee := Go.Callee.value (Go.Operand.func 15), args := #[Go.Operand.tmp 43, Go.Operand.tmp 46], argTypes := #[24, 24] }, type := 24, pos := "law.go:88", after := #[{ on := 7, ground := Go.Ground.data }, { on := 10, ground := Go.Ground.data }, { on := 10, ground := Go.Ground.chain }], guard := none }, { dst := some 48, op := Go.Op.call { callee := Go.Callee.value (Go.Operand.func 12), args := #[Go.Operand.tmp 40, Go.Operand.tmp 47], argTypes := #[24, 24] }, type := 4, pos := "law.go:88", after := #[{ on := 4, ground := Go.Ground.data }, { on := 11, ground := Go.Ground.data }, { on := 11, ground := Go.Ground.chain }], guard := none }, { dst := some 49, op := Go.Op.unOp Go.UnOp.not 4 (Go.Operand.tmp 48), type := 4, pos := "law.go:88", after := #[{ on := 12, ground := Go.Ground.data }], guard := none }, { dst := some 50, op := Go.Op.move (Go.Operand.tmp 49), type := 4, pos := "law.go:88", after := #[{ on := 13, ground := Go.Ground.data }, { on := 12, ground := Go.Ground.chain }], guard := none }, { dst := some 51, op := Go.Op.load 24 (Go.Operand.tmp 3), type := 24, pos := "law.go:88", after := #[{ on := 14, ground := Go.Ground.guard }], guard := some (14, false) }, { dst := some 52, op := Go.Op.load 24 (Go.Operand.tmp 3), type := 24, pos := "law.go:88", after := #[{ on := 14, ground := Go.Ground.guard }], guard := some (14, false) }, { dst := some 53, op := Go.Op.load 24 (Go.Operand.tmp 4), type := 24, pos := "law.go:88", after := #[{ on := 14, ground := Go.Ground.guard }], guard := some (14, false) }, { dst := some 54, op := Go.Op.call { callee := Go.Callee.value (Go.Operand.func 13), args := #[Go.Operand.tmp 52, Go.Operand.tmp 53], argTypes := #[24, 24] }, type := 24, pos := "law.go:88", after := #[{ on := 16, ground := Go.Ground.data }, { on := 17, ground := Go.Ground.data }, { on := 14, ground := Go.Ground.chain }, { on := 14, ground := Go.Ground.guard }], guard := some (14, false) }, { dst := some 55, op := Go.Op.call { callee := Go.Callee.value (Go.Operand.func 15), args := #[Go.Operand.tmp 51, Go.Operand.tmp 54], argTypes := #[24, 24] }, type := 24, pos := "law.go:88", after := #[{ on := 15, ground := Go.Ground.data }, { on := 18, ground := Go.Ground.data }, { on := 18, ground := Go.Ground.chain }, { on := 14, ground := Go.Ground.guard }], guard := some (14, false) }, { dst := some 56, op := Go.Op.load 24 (Go.Operand.tmp 3), type := 24, pos := "law.go:88", after := #[{ on := 14, ground := Go.Ground.guard }], guard := some (14, false) }, { dst := some 57, op := Go.Op.call { callee := Go.Callee.value (Go.Operand.func 12), args := #[Go.Operand.tmp 55, Go.Operand.tmp 56], argTypes := #[24, 24] }, type := 4, pos := "law.go:88", after := #[{ on := 19, ground := Go.Ground.data }, { on := 20, ground := Go.Ground.data }, { on := 19, ground := Go.Ground.chain }, { on := 14, ground := Go.Ground.guard }], guard := some (14, false) }, { dst := some 58, op := Go.Op.unOp Go.UnOp.not 4 (Go.Operand.tmp 57), type := 4, pos := "law.go:88", after := #[{ on := 21, ground := Go.Ground.data }, { on := 14, ground := Go.Ground.guard }], guard := some (14, false) }, { dst := some 59, op := Go.Op.pick (Go.Operand.tmp 50) (Go.Operand.const (Go.Value.bool true)) (Go.Operand.tmp 58), type := 4, pos := "law.go:88", after := #[{ on := 14, ground := Go.Ground.data }, { on := 22, ground := Go.Ground.data }], guard := none }] true).wp Tryd.prog (Exit.then X (fun _ _ _ => False)) ⟨t0, []⟩ w1 := by
  refine wp_region_facts 24 20 (fun j => [Fact.is (· = .agg #[.slice vaa A.length vac]), Fact.is (· = .agg #[.slice vba B.length vbc]), Fact.is (· = .agg #[.slice vca C.length vcc]), Fact.mem m [3] (LangV (fun x => Sem B x || Sem C x) 101), Fact.mem m [4, 3] (LangV (fun x => Sem A x && (Sem B x || Sem C x)) 1031), Fact.is (· = .agg #[.slice vaa A.length vac]), Fact.is (· = .agg #[.slice vba B.length vbc]), Fact.mem m [7] (LangV (fun x => Sem A x && Sem B x) 101), Fact.is (· = .agg #[.slice vaa A.length vac]), Fact.is (· = .agg #[.slice vca C.length vcc]), Fact.mem m [10] (LangV (fun x => Sem A x && Sem C x) 101), Fact.mem m [11, 7, 10] (LangV (fun x => (Sem A x && Sem B x) || (Sem A x && Sem C x)) 10610), Fact.is (· = .bool true), Fact.is (· = .bool false), Fact.is (· = .bool false), Fact.is (· = .agg #[.slice vaa A.length vac]), Fact.is (· = .agg #[.slice vaa A.length vac]), Fact.is (· = .agg #[.slice vba B.length vbc]), Fact.mem m [18] (LangV (fun x => Sem A x && Sem B x) 101), Fact.mem m [19, 18] (LangV (fun x => Sem A x || (Sem A x && Sem B x)) 1031), Fact.is (· = .agg #[.slice vaa A.length vac]), Fact.is (· = .bool true), Fact.is (· = .bool false), Fact.is (· = .bool false)].getD j Fact.any) (by kernel_rfl) (by rw [hz]; kernel_rfl) ?_ ?_
  · intro i hi o win a wr ho RA
    have HO2 := HO.out.dr.move RA.below
    have q0 := HO2.obj.cell (i := 0) rfl
    have q1 := HO2.swap.obj.cell (i := 0) rfl
    have q2 := HO2.third.obj.cell (i := 0) rfl
    rcases (show i = 0 ∨ i = 1 ∨ i = 2 ∨ i = 3 ∨ i = 4 ∨ i = 5 ∨ i = 6 ∨ i = 7 ∨ i = 8 ∨ i = 9 ∨ i = 10 ∨ i = 11 ∨ i = 12 ∨ i = 13 ∨ i = 14 ∨ i = 15 ∨ i = 16 ∨ i = 17 ∨ i = 18 ∨ i = 19 ∨ i = 20 ∨ i = 21 ∨ i = 22 ∨ i = 23 by omega) with rfl | rfl | rfl | rfl | rfl | rfl | rfl | rfl | rfl | rfl | rfl | rfl | rfl | rfl | rfl | rfl | rfl | rfl | rfl | rfl | rfl | rfl | rfl | rfl
    · have e3 := (RA.keep 3 (by kernel_rfl)).trans h3
      cases ho
      refine wpOp_of rfl rfl (wp_value (by go_simp; first | done | rfl) ⟨_, rfl, Below.refl _ _, rfl⟩)
    · have e4 := (RA.keep 4 (by kernel_rfl)).trans h4
      cases ho
      refine wpOp_of rfl rfl (wp_value (by go_simp; first | done | rfl) ⟨_, rfl, Below.refl _ _, rfl⟩)
    · have e5 := (RA.keep 5 (by kernel_rfl)).trans h5
      cases ho
      refine wpOp_of rfl rfl (wp_value (by go_simp; first | done | rfl) ⟨_, rfl, Below.refl _ _, rfl⟩)
    · have e37 : a.tmps.getD 37 undef = .agg #[.slice vba B.length vbc] := RA.dep 1 _ (by kernel_rfl) rfl
      have e38 : a.tmps.getD 38 undef = .agg #[.slice vca C.length vcc] := RA.dep 2 _ (by kernel_rfl) rfl
      cases ho
      have hF : Fits B C := Fits.of (x := 8) (y := 8) hsB.2 hsC.2 (by decide)
      have hq : (B.length + 2) * (C.length + 2) ≤ 10 * 10 := Nat.mul_le_mul (Nat.add_le_add_right hsB.2 2) (Nat.add_le_add_right hsC.2 2)
      refine wpOp_of rfl rfl (wp_enter (by go_simp; first | done | rfl) (langOr_any (.slice vba B.length vbc) (.slice vca C.length vcc) B C m wr HO2.inn HT.out HB.out HC.out hF) ?_)
      rintro e w' ⟨r, C, rfl, hb, hst, hl, hn⟩
      exact ⟨_, rfl, _, rfl, hb, langV_mk HO2.inn hb hst hl (by omega)⟩
    · have e36 : a.tmps.getD 36 undef = .agg #[.slice vaa A.length vac] := RA.dep 0 _ (by kernel_rfl) rfl
      have e39 : (Fact.mem m [3] (LangV (fun x => Sem B x || Sem C x) 101)).holds (a.tmps.getD 39 undef) win wr := RA.dep 3 _ (by kernel_rfl) rfl
      cases ho
      obtain ⟨x2, y2, C2, f2, s2, l2, n2⟩ : LangV _ _ _ _ := e39
      have s2 := statesAt_le (Mem.wins_le (ds := [3]) (es := [3]) HO2.inn win (by simp)) s2
      have w3 := (RA.rng 3 (by kernel_rfl)).2.2
      have hF : Fits A C2 := Fits.of (x := 8) (y := 101) hsA.2 n2 (by decide)
      have hq : (A.length + 2) * (C2.length + 2) ≤ 10 * 103 := Nat.mul_le_mul (Nat.add_le_add_right hsA.2 2) (Nat.add_le_add_right n2 2)
      refine wpOp_of rfl rfl (wp_enter (by go_simp; first | done | rfl) (langAnd_any (.slice vaa A.length vac) (.slice x2 C2.length y2) A C2 (m.wins wr win [3]) wr (Mem.wins_inn HO2.inn win [3]) (HT.out.le (Mem.le_wins HO2.inn win [3])) (statesAt_le (Mem.le_wins HO2.inn win [3]) HA.out) s2 hF) ?_)
      rintro e w' ⟨r, C, rfl, hb, hst, hl, hn⟩
      exact ⟨_, rfl, _, rfl, hb, langV_mks HO2.inn (by simp) (by intro d hd; simp only [List.mem_cons, List.not_mem_nil, or_false] at hd; rcases hd with rfl <;> assumption) hb hst (hl.congr fun x => by simp only [l2.sem x]) (by omega)⟩
    · have e3 := (RA.keep 3 (by kernel_rfl)).trans h3
      cases ho
      refine wpOp_of rfl rfl (wp_value (by go_simp; first | done | rfl) ⟨_, rfl, Below.refl _ _, rfl⟩)
    · have e4 := (RA.keep 4 (by kernel_rfl)).trans h4
      cases ho
      refine wpOp_of rfl rfl (wp_value (by go_simp; first | done | rfl) ⟨_, rfl, Below.refl _ _, rfl⟩)
    · have e41 : a.tmps.getD 41 undef = .agg #[.slice vaa A.length vac] := RA.dep 5 _ (by kernel_rfl) rfl
      have e42 : a.tmps.getD 42 undef = .agg #[.slice vba B.length vbc] := RA.dep 6 _ (by kernel_rfl) rfl
      cases ho
      have hF : Fits A B := Fits.of (x := 8) (y := 8) hsA.2 hsB.2 (by decide)
      have hq : (A.length + 2) * (B.length + 2) ≤ 10 * 10 := Nat.mul_le_mul (Nat.add_le_add_right hsA.2 2) (Nat.add_le_add_right hsB.2 2)
      refine wpOp_of rfl rfl (wp_enter (by go_simp; first | done | rfl) (langAnd_any (.slice vaa A.length vac) (.slice vba B.length vbc) A B m wr HO2.inn HT.out HA.out HB.out hF) ?_)
      rintro e w' ⟨r, C, rfl, hb, hst, hl, hn⟩
      exact ⟨_, rfl, _, rfl, hb, langV_mk HO2.inn hb hst hl (by omega)⟩
    · have e3 := (RA.keep 3 (by kernel_rfl)).trans h3
      cases ho
      refine wpOp_of rfl rfl (wp_value (by go_simp; first | done | rfl) ⟨_, rfl, Below.refl _ _, rfl⟩)
    · have e5 := (RA.keep 5 (by kernel_rfl)).trans h5
      cases ho
      refine wpOp_of rfl rfl (wp_value (by go_simp; first | done | rfl) ⟨_, rfl, Below.refl _ _, rfl⟩)
    · have e44 : a.tmps.getD 44 undef = .agg #[.slice vaa A.length vac] := RA.dep 8 _ (by kernel_rfl) rfl
      have e45 : a.tmps.getD 45 undef = .agg #[.slice vca C.length vcc] := RA.dep 9 _ (by kernel_rfl) rfl
      cases ho
      have hF : Fits A C := Fits.of (x := 8) (y := 8) hsA.2 hsC.2 (by decide)
      have hq : (A.length + 2) * (C.length + 2) ≤ 10 * 10 := Nat.mul_le_mul (Nat.add_le_add_right hsA.2 2) (Nat.add_le_add_right hsC.2 2)
      refine wpOp_of rfl rfl (wp_enter (by go_simp; first | done | rfl) (langAnd_any (.slice vaa A.length vac) (.slice vca C.length vcc) A C m wr HO2.inn HT.out HA.out HC.out hF) ?_)
      rintro e w' ⟨r, C, rfl, hb, hst, hl, hn⟩
      exact ⟨_, rfl, _, rfl, hb, langV_mk HO2.inn hb hst hl (by omega)⟩
    · have e43 : (Fact.mem m [7] (LangV (fun x => Sem A x && Sem B x) 101)).holds (a.tmps.getD 43 undef) win wr := RA.dep 7 _ (by kernel_rfl) rfl
      have e46 : (Fact.mem m [10] (LangV (fun x => Sem A x && Sem C x) 101)).holds (a.tmps.getD 46 undef) win wr := RA.dep 10 _ (by kernel_rfl) rfl
      cases ho
      obtain ⟨x1, y1, C1, f1, s1, l1, n1⟩ : LangV _ _ _ _ := e43
      have s1 := statesAt_le (Mem.wins_le (ds := [7]) (es := [7, 10]) HO2.inn win (by simp)) s1
      obtain ⟨x2, y2, C2, f2, s2, l2, n2⟩ : LangV _ _ _ _ := e46
      have s2 := statesAt_le (Mem.wins_le (ds := [10]) (es := [7, 10]) HO2.inn win (by simp)) s2
      have w7 := (RA.rng 7 (by kernel_rfl)).2.2
      have w10 := (RA.rng 10 (by kernel_rfl)).2.2
      have hF : Fits C1 C2 := Fits.of (x := 101) (y := 101) n1 n2 (by decide)
      have hq : (C1.length + 2) * (C2.length + 2) ≤ 103 * 103 := Nat.mul_le_mul (Nat.add_le_add_right n1 2) (Nat.add_le_add_right n2 2)
      refine wpOp_of rfl rfl (wp_enter (by go_simp; first | done | rfl) (langOr_any (.slice x1 C1.length y1) (.slice x2 C2.length y2) C1 C2 (m.wins wr win [7, 10]) wr (Mem.wins_inn HO2.inn win [7, 10]) (HT.out.le (Mem.le_wins HO2.inn win [7, 10])) s1 s2 hF) ?_)
      rintro e w' ⟨r, C, rfl, hb, hst, hl, hn⟩
      exact ⟨_, rfl, _, rfl, hb, langV_mks HO2.inn (by simp) (by intro d hd; simp only [List.mem_cons, List.not_mem_nil, or_false] at hd; rcases hd with rfl | rfl <;> assumption) hb hst (hl.congr fun x => by simp only [l1.sem x, l2.sem x]) (by omega)⟩
    · have e40 : (Fact.mem m [4, 3] (LangV (fun x => Sem A x && (Sem B x || Sem C x)) 1031)).holds (a.tmps.getD 40 undef) win wr := RA.dep 4 _ (by kernel_rfl) rfl
      have e47 : (Fact.mem m [11, 7, 10] (LangV (fun x => (Sem A x && Sem B x) || (Sem A x && Sem C x)) 10610)).holds (a.tmps.getD 47 undef) win wr := RA.dep 11 _ (by kernel_rfl) rfl
      cases ho
      obtain ⟨x1, y1, C1, f1, s1, l1, n1⟩ : LangV _ _ _ _ := e40
      have s1 := statesAt_le (Mem.wins_le (ds := [4, 3]) (es := [4, 3, 11, 7, 10]) HO2.inn win (by simp)) s1
      obtain ⟨x2, y2, C2, f2, s2, l2, n2⟩ : LangV _ _ _ _ := e47
      have s2 := statesAt_le (Mem.wins_le (ds := [11, 7, 10]) (es := [4, 3, 11, 7, 10]) HO2.inn win (by simp)) s2
      refine wpOp_of rfl rfl (wp_enter (by go_simp; first | done | rfl) (r05Same_any (.slice x1 C1.length y1) (.slice x2 C2.length y2) C1 C2 _ wr (Mem.wins_inn HO2.inn win [4, 3, 11, 7, 10]) s1 s2) ?_)
      rintro e w' ⟨rfl, hb⟩
      exact ⟨_, rfl, _, rfl, hb, congrArg Value.bool (tf_true (lang_unique l1 (l2.congr fun x => by cases Sem A x <;> cases Sem B x <;> first | rfl | (cases Sem C x <;> rfl))))⟩
    · have e48 : a.tmps.getD 48 undef = .bool true := RA.dep 12 _ (by kernel_rfl) rfl
      cases ho
      refine wpOp_of rfl rfl (wp_value (by go_simp; first | done | rfl) ⟨_, rfl, Below.refl _ _, rfl⟩)
    · have e49 : a.tmps.getD 49 undef = .bool false := RA.dep 13 _ (by kernel_rfl) rfl
      cases ho
      refine wpOp_of rfl rfl (wp_value (by go_simp; first | done | rfl) ⟨_, rfl, Below.refl _ _, rfl⟩)
    · have e3 := (RA.keep 3 (by kernel_rfl)).trans h3
      have e50 : a.tmps.getD 50 undef = .bool false := RA.dep 14 _ (by kernel_rfl) rfl
      cases ho
      refine wpOp_of2 rfl (wanted_yes rfl rfl e50) (wp_value (by go_simp; first | done | rfl) ⟨_, rfl, Below.refl _ _, rfl⟩)
    · have e3 := (RA.keep 3 (by kernel_rfl)).trans h3
      have e50 : a.tmps.getD 50 undef = .bool false := RA.dep 14 _ (by kernel_rfl) rfl
      cases ho
      refine wpOp_of2 rfl (wanted_yes rfl rfl e50) (wp_value (by go_simp; first | done | rfl) ⟨_, rfl, Below.refl _ _, rfl⟩)
    · have e4 := (RA.keep 4 (by kernel_rfl)).trans h4
      have e50 : a.tmps.getD 50 undef = .bool false := RA.dep 14 _ (by kernel_rfl) rfl
      cases ho
      refine wpOp_of2 rfl (wanted_yes rfl rfl e50) (wp_value (by go_simp; first | done | rfl) ⟨_, rfl, Below.refl _ _, rfl⟩)
    · have e52 : a.tmps.getD 52 undef = .agg #[.slice vaa A.length vac] := RA.dep 16 _ (by kernel_rfl) rfl
      have e53 : a.tmps.getD 53 undef = .agg #[.slice vba B.length vbc] := RA.dep 17 _ (by kernel_rfl) rfl
      have e50 : a.tmps.getD 50 undef = .bool false := RA.dep 14 _ (by kernel_rfl) rfl
      cases ho
      have hF : Fits A B := Fits.of (x := 8) (y := 8) hsA.2 hsB.2 (by decide)
      have hq : (A.length + 2) * (B.length + 2) ≤ 10 * 10 := Nat.mul_le_mul (Nat.add_le_add_right hsA.2 2) (Nat.add_le_add_right hsB.2 2)
      refine wpOp_of2 rfl (wanted_yes rfl rfl e50) (wp_enter (by go_simp; first | done | rfl) (langAnd_any (.slice vaa A.length vac) (.slice vba B.length vbc) A B m wr HO2.inn HT.out HA.out HB.out hF) ?_)
      rintro e w' ⟨r, C, rfl, hb, hst, hl, hn⟩
      exact ⟨_, rfl, _, rfl, hb, langV_mk HO2.inn hb hst hl (by omega)⟩
    · have e51 : a.tmps.getD 51 undef = .agg #[.slice vaa A.length vac] := RA.dep 15 _ (by kernel_rfl) rfl
      have e54 : (Fact.mem m [18] (LangV (fun x => Sem A x && Sem B x) 101)).holds (a.tmps.getD 54 undef) win wr := RA.dep 18 _ (by kernel_rfl) rfl
      have e50 : a.tmps.getD 50 undef = .bool false := RA.dep 14 _ (by kernel_rfl) rfl
      cases ho
      obtain ⟨x2, y2, C2, f2, s2, l2, n2⟩ : LangV _ _ _ _ := e54
      have s2 := statesAt_le (Mem.wins_le (ds := [18]) (es := [18]) HO2.inn win (by simp)) s2
      have w18 := (RA.rng 18 (by kernel_rfl)).2.2
      have hF : Fits A C2 := Fits.of (x := 8) (y := 101) hsA.2 n2 (by decide)
      have hq : (A.length + 2) * (C2.length + 2) ≤ 10 * 103 := Nat.mul_le_mul (Nat.add_le_add_right hsA.2 2) (Nat.add_le_add_right n2 2)
      refine wpOp_of2 rfl (wanted_yes rfl rfl e50) (wp_enter (by go_simp; first | done | rfl) (langOr_any (.slice vaa A.length vac) (.slice x2 C2.length y2) A C2 (m.wins wr win [18]) wr (Mem.wins_inn HO2.inn win [18]) (HT.out.le (Mem.le_wins HO2.inn win [18])) (statesAt_le (Mem.le_wins HO2.inn win [18]) HA.out) s2 hF) ?_)
      rintro e w' ⟨r, C, rfl, hb, hst, hl, hn⟩
      exact ⟨_, rfl, _, rfl, hb, langV_mks HO2.inn (by simp) (by intro d hd; simp only [List.mem_cons, List.not_mem_nil, or_false] at hd; rcases hd with rfl <;> assumption) hb hst (hl.congr fun x => by simp only [l2.sem x]) (by omega)⟩
    · have e3 := (RA.keep 3 (by kernel_rfl)).trans h3
      have e50 : a.tmps.getD 50 undef = .bool false := RA.dep 14 _ (by kernel_rfl) rfl
      cases ho
      refine wpOp_of2 rfl (wanted_yes rfl rfl e50) (wp_value (by go_simp; first | done | rfl) ⟨_, rfl, Below.refl _ _, rfl⟩)
    · have e55 : (Fact.mem m [19, 18] (LangV (fun x => Sem A x || (Sem A x && Sem B x)) 1031)).holds (a.tmps.getD 55 undef) win wr := RA.dep 19 _ (by kernel_rfl) rfl
      have e56 : a.tmps.getD 56 undef = .agg #[.slice vaa A.length vac] := RA.dep 20 _ (by kernel_rfl) rfl
      have e50 : a.tmps.getD 50 undef = .bool false := RA.dep 14 _ (by kernel_rfl) rfl
      cases ho
      obtain ⟨x1, y1, C1, f1, s1, l1, n1⟩ : LangV _ _ _ _ := e55
      have s1 := statesAt_le (Mem.wins_le (ds := [19, 18]) (es := [19, 18]) HO2.inn win (by simp)) s1
      refine wpOp_of2 rfl (wanted_yes rfl rfl e50) (wp_enter (by go_simp; first | done | rfl) (r05Same_any (.slice x1 C1.length y1) (.slice vaa A.length vac) C1 A _ wr (Mem.wins_inn HO2.inn win [19, 18]) s1 (statesAt_le (Mem.le_wins HO2.inn win [19, 18]) HA.out)) ?_)
      rintro e w' ⟨rfl, hb⟩
      exact ⟨_, rfl, _, rfl, hb, congrArg Value.bool (tf_true (lang_unique l1 ((lang_of_sem hcA).congr fun x => by cases Sem A x <;> cases Sem B x <;> first | rfl | (cases Sem C x <;> rfl))))⟩
    · have e57 : a.tmps.getD 57 undef = .bool true := RA.dep 21 _ (by kernel_rfl) rfl
      have e50 : a.tmps.getD 50 undef = .bool false := RA.dep 14 _ (by kernel_rfl) rfl
      cases ho
      refine wpOp_of2 rfl (wanted_yes rfl rfl e50) (wp_value (by go_simp; first | done | rfl) ⟨_, rfl, Below.refl _ _, rfl⟩)
    · have e50 : a.tmps.getD 50 undef = .bool false := RA.dep 14 _ (by kernel_rfl) rfl
      have e58 : a.tmps.getD 58 undef = .bool false := RA.dep 22 _ (by kernel_rfl) rfl
      cases ho
      refine wpOp_of rfl rfl (wp_value (by go_simp; first | done | rfl) ⟨_, rfl, Below.refl _ _, rfl⟩)
  · intro win a wr E
    have e3 := (E.keep 3 (by kernel_rfl)).trans h3
    have e4 := (E.keep 4 (by kernel_rfl)).trans h4
    have e5 := (E.keep 5 (by kernel_rfl)).trans h5
    have e59 : a.tmps.getD 59 undef = .bool false := E.fact 23 _ (by omega) rfl
    obtain ⟨t, d⟩ := a
    obtain rfl : d = [] := E.defers
    refine wpAny_none (by kernel_rfl) (hX.out _ _ E.size ⟨?_, HO.out.dr.move E.below⟩) _
    simp only [List.map_cons, List.map_nil, e3, e4, e5, e59]
end Cl
namespace Cl
open Go Go.RowKit Go.Proofs

set_option maxRecDepth 100000 in
set_option maxHeartbeats 16000000 in
theorem LangAlgebra_r5 {A B C : Table} {m : Mem} {w w1 : World} {vaa vba vca : Option Addr} {vac vbc vcc : Nat} {X : Act → World → Prop} (t0 : Array Value) (hz : t0.size = 119) (h3 : t0.getD 3 undef = .pointer (some ⟨w.heap.size, 0, none⟩)) (h4 : t0.getD 4 undef = .pointer (some ⟨w.heap.size + 1, 0, none⟩)) (h5 : t0.getD 5 undef = .pointer (some ⟨w.heap.size + 1 + 1, 0, none⟩))
    (HT : Hid (TabM m)) (HA : Hid (statesAt m (.slice vaa A.length vac) A)) (HB : Hid (statesAt m (.slice vba B.length vbc) B)) (HC : Hid (statesAt m (.slice vca C.length vcc) C)) (hsA : SmallT A) (hsB : SmallT B) (hsC : SmallT C) (hcA : Canon A) (hcB : Canon B) (hcC : Canon C)
    (HO : Hid (Own w m w1 m [.obj (w.heap.size + 1 + 1) 24 #[.slice vca C.length vcc], .obj (w.heap.size + 1) 24 #[.slice vba B.length vbc], .obj w.heap.size 24 #[.slice vaa A.length vac]]))
    (hX : Hid (∀ (t' : Array Value) w', t'.size = t0.size → ([3, 4, 5, 89].map fun i => t'.getD i undef) = [.pointer (some ⟨w.heap.size, 0, none⟩), .pointer (some ⟨w.heap.size + 1, 0, none⟩), .pointer (some ⟨w.heap.size + 1 + 1, 0, none⟩), .bool false] ∧ Own w m w' m [.obj (w.heap.size + 1 + 1) 24 #[.slice vca C.length vcc], .obj (w.heap.size + 1) 24 #[.slice vba B.length vbc], .obj w.heap.size 24 #[.slice vaa A.length vac]] → X ⟨t', []⟩ w')) :
    (Go.Code.region 5 #[{ dst := some 60, op := Go.Op.load 24 (Go.Operand.tmp 3), type := 24, pos := "law.go:91", after := #[], guard := none }, { dst := some 61, op := Go.Op.call { callee := Go.Callee.value (Go.Operand.func 27), args := #[Go.Operand.tmp 60], argTypes := #[24] }, type := 24, pos := "law.go:91", after := #[{ on := 0, ground := Go.Ground.data }], guard := none }, { dst := some 62, op := Go.Op.call { callee := Go.Callee.value (Go.Operand.func 27), args := #[Go.Operand.tmp 61], argTypes := #[24] }, type := 24, pos := "law.go:91", after := #[{ on := 1, ground := Go.Ground.data }, { on := 1, ground := Go.Ground.chain }], guard := none }, { dst := some 63, op := Go.Op.load 24 (Go.Operand.tmp 3), type := 24, pos := "law.go:91", after := #[], guard := none }, { dst := some 64, op := Go.Op.call { callee := Go.Callee.value (Go.Operand.func 12), args := #[Go.Operand.tmp 62, Go.Operand.tmp 63], argTypes := #[24, 24] }, type := 4, pos := "law.go:91", after := #[{ on := 2, ground := Go.Ground.data }, { on := 3, ground := Go.Ground.data }, { on := 2, ground := Go.Ground.chain }], guard := none }, { dst := some 65, op := Go.Op.unOp Go.UnOp.not 4 (Go.Operand.tmp 64), type := 4, pos := "law.go:91", after := #[{ on := 4, ground := Go.Ground.data }], guard := none }, { dst := some 66, op := Go.Op.move (Go.Operand.tmp 65), type := 4, pos := "law.go:91", after := #[{ on := 5, ground := Go.Ground.data }, { on := 4, ground := Go.Ground.chain }], guard := none }, { dst := some 67, op := Go.Op.load 24 (Go.Operand.tmp 3), type := 24, pos := "law.go:91", after := #[{ on := 6, ground := Go.Ground.guard }], guard := some (6, false) }, { dst := some 68, op := Go.Op.load 24 (Go.Operand.tmp 4), type := 24, pos := "law.go:91", after := #[{ on := 6, ground := Go.Ground.guard }], guard := some (6, false) }, { dst := some 69, op := Go.Op.call { callee := Go.Callee.value (Go.Operand.func 15), args := #[Go.Operand.tmp 67, Go.Operand.tmp 68], argTypes := #[24, 24] }, type := 24, pos := "law.go:91", after := #[{ on := 7, ground := Go.Ground.data }, { on := 8, ground := Go.Ground.data }, { on := 6, ground := Go.Ground.chain }, { on := 6, ground := Go.Ground.guard }], guard := some (6, false) }, { dst := some 70, op := Go.Op.call { callee := Go.Callee.value (Go.Operand.func 27), args := #[Go.Operand.tmp 69], argTypes := #[24] }, type := 24, pos := "law.go:91", after := #[{ on := 9, ground := Go.Ground.data }, { on := 9, ground := Go.Ground.chain }, { on := 6, ground := Go.Ground.guard }], guard := some (6, false) }, { dst := some 71, op := Go.Op.load 24 (Go.Operand.tmp 3), type := 24, pos := "law.go:91", after := #[{ on := 6, ground := Go.Ground.guard }], guard := some (6, false) }, { dst := some 72, op := Go.Op.call { callee := Go.Callee.value (Go.Operand.func 27), args := #[Go.Operand.tmp 71], argTypes := #[24] }, type := 24, pos := "law.go:91", after := #[{ on := 11, ground := Go.Ground.data }, { on := 10, ground := Go.Ground.chain }, { on := 6, ground := Go.Ground.guard }], guard := some (6, false) }, { dst := some 73, op := Go.Op.load 24 (Go.Operand.tmp 4), type := 24, pos := "law.go:91", after := #[{ on := 6, ground := Go.Ground.guard }], guard := some (6, false) }, { dst := some 74, op := Go.Op.call { callee := Go.Callee.value (Go.Operand.func 27), args := #[Go.Operand.tmp 73], argTypes := #[24] }, type := 24, pos := "law.go:91", after := #[{ on := 13, ground := Go.Ground.data }, { on := 12, ground := Go.Ground.chain }, { on := 6, ground := Go.Ground.guard }], guard := some (6, false) }, { dst := some 75, op := Go.Op.call { callee := Go.Callee.value (Go.Operand.func 13), args := #[Go.Operand.tmp 72, Go.Operand.tmp 74], argTypes := #[24, 24] }, type := 24, pos := "law.go:91", after := #[{ on := 12, ground := Go.Ground.data }, { on := 14, ground := Go.Ground.data }, { on := 14, ground := Go.Ground.chain }, { on := 6, ground := Go.Ground.guard }], guard := some (6, false) }, { dst := some 76, op := Go.Op.call { callee := Go.Callee.value (Go.Operand.func 12), args := #[Go.Operand.tmp 70, Go.Operand.tmp 75], argTypes := #[24, 24] }, type := 4, pos := "law.go:91", after := #[{ on := 10, ground := Go.Ground.data }, { on := 15, ground := Go.Ground.data }, { on := 15, ground := Go.Ground.chain }, { on := 6, ground := Go.Ground.guard }], guard := some (6, false) }, { dst := some 77, op := Go.Op.unOp Go.UnOp.not 4 (Go.Operand.tmp 76), type := 4, pos := "law.go:91", after := #[{ on := 16, ground := Go.Ground.data }, { on := 6, ground := Go.Ground.guard }], guard := some (6, false) }, { dst := some 78, op := Go.Op.pick (Go.Operand.tmp 66) (Go.Operand.const (Go.Value.bool true)) (Go.Operand.tmp 77), type := 4, pos := "law.go:91", after := #[{ on := 6, ground := Go.Ground.data }, { on := 17, ground := Go.Ground.data }], guard := none }, { dst := some 79, op := Go.Op.move (Go.Operand.tmp 78), type := 4, pos := "law.go:91", after := #[{ on := 18, ground := Go.Ground.data }, { on := 16, ground := Go.Ground.chain }], guard := none }, { dst := some 80, op := Go.Op.load 24 (Go.Operand.tmp 3), type := 24, pos := "law.go:91", after := #[{ on := 19, ground := Go.Ground.guard }], guard := some (19, false) }, { dst := some 81, op := Go.Op.load 24 (Go.Operand.tmp 4), type := 24, pos := "law.go:91", after := #[{ on := 19, ground := Go.Ground.guard }], guard := some (19, false) }, { dst := some 82, op := Go.Op.call { callee := Go.Callee.value (Go.Operand.func 28), args := #[Go.Operand.tmp 80, Go.Operand.tmp 81], argTypes := #[24, 24] }, type := 24, pos := "law.go:91", after := #[{ on := 20, ground := Go.Ground.data }, { on := 21, ground := Go.Ground.data }, { on := 19, ground := Go.Ground.chain }, { on := 19, ground := Go.Ground.guard }], guard := some (19, false) }, { dst := some 83, op := Go.Op.load 24 (Go.Operand.tmp 3), type := 24, pos := "law.go:91", after := #[{ on := 19, ground := Go.Ground.guard }], guard := some (19, false) }, { dst := some 84, op := Go.Op.load 24 (Go.Operand.tmp 4), type := 24, pos := "law.go:91", after := #[{ on := 19, ground := Go.Ground.guard }], guard := some (19, false) }, { dst := some 85, op := Go.Op.call { callee := Go.Callee.value (Go.Operand.func 27), args := #[Go.Operand.tmp 84], argTypes := #[24] }, type := 24, pos := "law.go:91", after := #[{ on := 24, ground := Go.Ground.data }, { on := 22, ground := Go.Ground.chain }, { on := 19, ground := Go.Ground.guard }], guard := some (19, false) }, { dst := some 86, op := Go.Op.call { callee := Go.Callee.value (Go.Operand.func 13), args := #[Go.Operand.tmp 83, Go.Operand.tmp 85], argTypes := #[24, 24] }, type := 24, pos := "law.go:91", after := #[{ on := 23, ground := Go.Ground.data }, { on := 25, ground := Go.Ground.data }, { on := 25, ground := Go.Ground.chain }, { on := 19, ground := Go.Ground.guard }], guard := some (19, false) }, { dst := some 87, op := Go.Op.call { callee := Go.Callee.value (Go.Operand.func 12), args := #[Go.Operand.tmp 82, Go.Operand.tmp 86], argTypes := #[24, 24] }, type := 4, pos := "law.go:91", after := #[{ on := 22, ground := Go.Ground.data }, { on := 26, ground := Go.Ground.data }, { on := 26, ground := Go.Ground.chain }, { on := 19, ground := Go.Ground.guard }], guard := some (19, false) }, { dst := some 88, op := Go.Op.unOp Go.UnOp.not 4 (Go.Operand.tmp 87), type := 4, pos := "law.go:91", after := #[{ on := 27, ground := Go.Ground.data }, { on := 19, ground := Go.Ground.guard }], guard := some (19, false) }, { dst := some 89, op := Go.Op.pick (Go.Operand.tmp 79) (Go.Operand.const (Go.Value.bool true)) (Go.Operand.tmp 88), type := 4, pos := "law.go:91", after := #[{ on := 19, ground := Go.Ground.data }, { on := 28, ground := Go.Ground.data }], guard := none }] true).wp Tryd.prog (Exit.then X (fun _ _ _ => False)) ⟨t0, []⟩ w1 := by
  refine wp_region_facts 30 20 (fun j => [Fact.is (· = .agg #[.slice vaa A.length vac]), Fact.mem m [1] (LangV (fun x => !Sem A x) 31), Fact.mem m [2, 1] (LangV (fun x => !(!Sem A x)) 100), Fact.is (· = .agg #[.slice vaa A.length vac]), Fact.is (· = .bool true), Fact.is (· = .bool false), Fact.is (· = .bool false), Fact.is (· = .agg #[.slice vaa A.length vac]), Fact.is (· = .agg #[.slice vba B.length vbc]), Fact.mem m [9] (LangV (fun x => Sem A x || Sem B x) 101), Fact.mem m [10, 9] (LangV (fun x => !(Sem A x || Sem B x)) 310), Fact.is (· = .agg #[.slice vaa A.length vac]), Fact.mem m [12] (LangV (fun x => !Sem A x) 31), Fact.is (· = .agg #[.slice vba B.length vbc]), Fact.mem m [14] (LangV (fun x => !Sem B x) 31), Fact.mem m [15, 12, 14] (LangV (fun x => !Sem A x && !Sem B x) 1090), Fact.is (· = .bool true), Fact.is (· = .bool false), Fact.is (· = .bool false), Fact.is (· = .bool false), Fact.is (· = .agg #[.slice vaa A.length vac]), Fact.is (· = .agg #[.slice vba B.length vbc]), Fact.mem m [22] (LangV (fun x => Sem A x && !Sem B x) 101), Fact.is (· = .agg #[.slice vaa A.length vac]), Fact.is (· = .agg #[.slice vba B.length vbc]), Fact.mem m [25] (LangV (fun x => !Sem B x) 31), Fact.mem m [26, 25] (LangV (fun x => Sem A x && !Sem B x) 331), Fact.is (· = .bool true), Fact.is (· = .bool false), Fact.is (· = .bool false)].getD j Fact.any) (by kernel_rfl) (by rw [hz]; kernel_rfl) ?_ ?_
  · intro i hi o win a wr ho RA
    have HO2 := HO.out.dr.move RA.below
    have q0 := HO2.obj.cell (i := 0) rfl
    have q1 := HO2.swap.obj.cell (i := 0) rfl
    have q2 := HO2.third.obj.cell (i := 0) rfl
    rcases (show i = 0 ∨ i = 1 ∨ i = 2 ∨ i = 3 ∨ i = 4 ∨ i = 5 ∨ i = 6 ∨ i = 7 ∨ i = 8 ∨ i = 9 ∨ i = 10 ∨ i = 11 ∨ i = 12 ∨ i = 13 ∨ i = 14 ∨ i = 15 ∨ i = 16 ∨ i = 17 ∨ i = 18 ∨ i = 19 ∨ i = 20 ∨ i = 21 ∨ i = 22 ∨ i = 23 ∨ i = 24 ∨ i = 25 ∨ i = 26 ∨ i = 27 ∨ i = 28 ∨ i = 29 by omega) with rfl | rfl | rfl | rfl | rfl | rfl | rfl | rfl | rfl | rfl | rfl | rfl | rfl | rfl | rfl | rfl | rfl | rfl | rfl | rfl | rfl | rfl | rfl | rfl | rfl | rfl | rfl | rfl | rfl | rfl
    · have e3 := (RA.keep 3 (by kernel_rfl)).trans h3
      cases ho
      refine wpOp_of rfl rfl (wp_value (by go_simp; first | done | rfl) ⟨_, rfl, Below.refl _ _, rfl⟩)
    · have e60 : a.tmps.getD 60 undef = .agg #[.slice vaa A.length vac] := RA.dep 0 _ (by kernel_rfl) rfl
      cases ho
      have hq := hsA.2
      refine wpOp_of rfl rfl (wp_enter (by go_simp; first | done | rfl) (langNot_any (.slice vaa A.length vac) A m wr HO2.inn HT.out HA.out (by omega)) ?_)
      rintro e w' ⟨r, C, rfl, hb, hst, hl, hn⟩
      exact ⟨_, rfl, _, rfl, hb, langV_mk HO2.inn hb hst hl (by omega)⟩
    · have e61 : (Fact.mem m [1] (LangV (fun x => !Sem A x) 31)).holds (a.tmps.getD 61 undef) win wr := RA.dep 1 _ (by kernel_rfl) rfl
      cases ho
      obtain ⟨x1, y1, C1, f1, s1, l1, n1⟩ : LangV _ _ _ _ := e61
      have s1 := statesAt_le (Mem.wins_le (ds := [1]) (es := [1]) HO2.inn win (by simp)) s1
      have w1 := (RA.rng 1 (by kernel_rfl)).2.2
      have hq := n1
      refine wpOp_of rfl rfl (wp_enter (by go_simp; first | done | rfl) (langNot_any (.slice x1 C1.length y1) C1 (m.wins wr win [1]) wr (Mem.wins_inn HO2.inn win [1]) (HT.out.le (Mem.le_wins HO2.inn win [1])) s1 (by omega)) ?_)
      rintro e w' ⟨r, C, rfl, hb, hst, hl, hn⟩
      exact ⟨_, rfl, _, rfl, hb, langV_mks HO2.inn (by simp) (by intro d hd; simp only [List.mem_cons, List.not_mem_nil, or_false] at hd; rcases hd with rfl <;> assumption) hb hst (hl.congr fun x => by simp only [l1.sem x]) (by omega)⟩
    · have e3 := (RA.keep 3 (by kernel_rfl)).trans h3
      cases ho
      refine wpOp_of rfl rfl (wp_value (by go_simp; first | done | rfl) ⟨_, rfl, Below.refl _ _, rfl⟩)
    · have e62 : (Fact.mem m [2, 1] (LangV (fun x => !(!Sem A x)) 100)).holds (a.tmps.getD 62 undef) win wr := RA.dep 2 _ (by kernel_rfl) rfl
      have e63 : a.tmps.getD 63 undef = .agg #[.slice vaa A.length vac] := RA.dep 3 _ (by kernel_rfl) rfl
      cases ho
      obtain ⟨x1, y1, C1, f1, s1, l1, n1⟩ : LangV _ _ _ _ := e62
      have s1 := statesAt_le (Mem.wins_le (ds := [2, 1]) (es := [2, 1]) HO2.inn win (by simp)) s1
      refine wpOp_of rfl rfl (wp_enter (by go_simp; first | done | rfl) (r05Same_any (.slice x1 C1.length y1) (.slice vaa A.length vac) C1 A _ wr (Mem.wins_inn HO2.inn win [2, 1]) s1 (statesAt_le (Mem.le_wins HO2.inn win [2, 1]) HA.out)) ?_)
      rintro e w' ⟨rfl, hb⟩
      exact ⟨_, rfl, _, rfl, hb, congrArg Value.bool (tf_true (lang_unique l1 ((lang_of_sem hcA).congr fun x => by cases Sem A x <;> cases Sem B x <;> first | rfl | (cases Sem C x <;> rfl))))⟩
    · have e64 : a.tmps.getD 64 undef = .bool true := RA.dep 4 _ (by kernel_rfl) rfl
      cases ho
      refine wpOp_of rfl rfl (wp_value (by go_simp; first | done | rfl) ⟨_, rfl, Below.refl _ _, rfl⟩)
    · have e65 : a.tmps.getD 65 undef = .bool false := RA.dep 5 _ (by kernel_rfl) rfl
      cases ho
      refine wpOp_of rfl rfl (wp_value (by go_simp; first | done | rfl) ⟨_, rfl, Below.refl _ _, rfl⟩)
    · have e3 := (RA.keep 3 (by kernel_rfl)).trans h3
      have e66 : a.tmps.getD 66 undef = .bool false := RA.dep 6 _ (by kernel_rfl) rfl
      cases ho
      refine wpOp_of2 rfl (wanted_yes rfl rfl e66) (wp_value (by go_simp; first | done | rfl) ⟨_, rfl, Below.refl _ _, rfl⟩)
    · have e4 := (RA.keep 4 (by kernel_rfl)).trans h4
      have e66 : a.tmps.getD 66 undef = .bool false := RA.dep 6 _ (by kernel_rfl) rfl
      cases ho
      refine wpOp_of2 rfl (wanted_yes rfl rfl e66) (wp_value (by go_simp; first | done | rfl) ⟨_, rfl, Below.refl _ _, rfl⟩)
    · have e67 : a.tmps.getD 67 undef = .agg #[.slice vaa A.length vac] := RA.dep 7 _ (by kernel_rfl) rfl
      have e68 : a.tmps.getD 68 undef = .agg #[.slice vba B.length vbc] := RA.dep 8 _ (by kernel_rfl) rfl
      have e66 : a.tmps.getD 66 undef = .bool false := RA.dep 6 _ (by kernel_rfl) rfl
      cases ho
      have hF : Fits A B := Fits.of (x := 8) (y := 8) hsA.2 hsB.2 (by decide)
      have hq : (A.length + 2) * (B.length + 2) ≤ 10 * 10 := Nat.mul_le_mul (Nat.add_le_add_right hsA.2 2) (Nat.add_le_add_right hsB.2 2)
      refine wpOp_of2 rfl (wanted_yes rfl rfl e66) (wp_enter (by go_simp; first | done | rfl) (langOr_any (.slice vaa A.length vac) (.slice vba B.length vbc) A B m wr HO2.inn HT.out HA.out HB.out hF) ?_)
      rintro e w' ⟨r, C, rfl, hb, hst, hl, hn⟩
      exact ⟨_, rfl, _, rfl, hb, langV_mk HO2.inn hb hst hl (by omega)⟩
    · have e69 : (Fact.mem m [9] (LangV (fun x => Sem A x || Sem B x) 101)).holds (a.tmps.getD 69 undef) win wr := RA.dep 9 _ (by kernel_rfl) rfl
      have e66 : a.tmps.getD 66 undef = .bool false := RA.dep 6 _ (by kernel_rfl) rfl
      cases ho
      obtain ⟨x1, y1, C1, f1, s1, l1, n1⟩ : LangV _ _ _ _ := e69
      have s1 := statesAt_le (Mem.wins_le (ds := [9]) (es := [9]) HO2.inn win (by simp)) s1
      have w9 := (RA.rng 9 (by kernel_rfl)).2.2
      have hq := n1
      refine wpOp_of2 rfl (wanted_yes rfl rfl e66) (wp_enter (by go_simp; first | done | rfl) (langNot_any (.slice x1 C1.length y1) C1 (m.wins wr win [9]) wr (Mem.wins_inn HO2.inn win [9]) (HT.out.le (Mem.le_wins HO2.inn win [9])) s1 (by omega)) ?_)
      rintro e w' ⟨r, C, rfl, hb, hst, hl, hn⟩
      exact ⟨_, rfl, _, rfl, hb, langV_mks HO2.inn (by simp) (by intro d hd; simp only [List.mem_cons, List.not_mem_nil, or_false] at hd; rcases hd with rfl <;> assumption) hb hst (hl.congr fun x => by simp only [l1.sem x]) (by omega)⟩
    · have e3 := (RA.keep 3 (by kernel_rfl)).trans h3
      have e66 : a.tmps.getD 66 undef = .bool false := RA.dep 6 _ (by kernel_rfl) rfl
      cases ho
      refine wpOp_of2 rfl (wanted_yes rfl rfl e66) (wp_value (by go_simp; first | done | rfl) ⟨_, rfl, Below.refl _ _, rfl⟩)
    · have e71 : a.tmps.getD 71 undef = .agg #[.slice vaa A.length vac] := RA.dep 11 _ (by kernel_rfl) rfl
      have e66 : a.tmps.getD 66 undef = .bool false := RA.dep 6 _ (by kernel_rfl) rfl
      cases ho
      have hq := hsA.2
      refine wpOp_of2 rfl (wanted_yes rfl rfl e66) (wp_enter (by go_simp; first | done | rfl) (langNot_any (.slice vaa A.length vac) A m wr HO2.inn HT.out HA.out (by omega)) ?_)
      rintro e w' ⟨r, C, rfl, hb, hst, hl, hn⟩
      exact ⟨_, rfl, _, rfl, hb, langV_mk HO2.inn hb hst hl (by omega)⟩
    · have e4 := (RA.keep 4 (by kernel_rfl)).trans h4
      have e66 : a.tmps.getD 66 undef = .bool false := RA.dep 6 _ (by kernel_rfl) rfl
      cases ho
      refine wpOp_of2 rfl (wanted_yes rfl rfl e66) (wp_value (by go_simp; first | done | rfl) ⟨_, rfl, Below.refl _ _, rfl⟩)
    · have e73 : a.tmps.getD 73 undef = .agg #[.slice vba B.length vbc] := RA.dep 13 _ (by kernel_rfl) rfl
      have e66 : a.tmps.getD 66 undef = .bool false := RA.dep 6 _ (by kernel_rfl) rfl
      cases ho
      have hq := hsB.2
      refine wpOp_of2 rfl (wanted_yes rfl rfl e66) (wp_enter (by go_simp; first | done | rfl) (langNot_any (.slice vba B.length vbc) B m wr HO2.inn HT.out HB.out (by omega)) ?_)
      rintro e w' ⟨r, C, rfl, hb, hst, hl, hn⟩
      exact ⟨_, rfl, _, rfl, hb, langV_mk HO2.inn hb hst hl (by omega)⟩
    · have e72 : (Fact.mem m [12] (LangV (fun x => !Sem A x) 31)).holds (a.tmps.getD 72 undef) win wr := RA.dep 12 _ (by kernel_rfl) rfl
      have e74 : (Fact.mem m [14] (LangV (fun x => !Sem B x) 31)).holds (a.tmps.getD 74 undef) win wr := RA.dep 14 _ (by kernel_rfl) rfl
      have e66 : a.tmps.getD 66 undef = .bool false := RA.dep 6 _ (by kernel_rfl) rfl
      cases ho
      obtain ⟨x1, y1, C1, f1, s1, l1, n1⟩ : LangV _ _ _ _ := e72
      have s1 := statesAt_le (Mem.wins_le (ds := [12]) (es := [12, 14]) HO2.inn win (by simp)) s1
      obtain ⟨x2, y2, C2, f2, s2, l2, n2⟩ : LangV _ _ _ _ := e74
      have s2 := statesAt_le (Mem.wins_le (ds := [14]) (es := [12, 14]) HO2.inn win (by simp)) s2
      have w12 := (RA.rng 12 (by kernel_rfl)).2.2
      have w14 := (RA.rng 14 (by kernel_rfl)).2.2
      have hF : Fits C1 C2 := Fits.of (x := 31) (y := 31) n1 n2 (by decide)
      have hq : (C1.length + 2) * (C2.length + 2) ≤ 33 * 33 := Nat.mul_le_mul (Nat.add_le_add_right n1 2) (Nat.add_le_add_right n2 2)
      refine wpOp_of2 rfl (wanted_yes rfl rfl e66) (wp_enter (by go_simp; first | done | rfl) (langAnd_any (.slice x1 C1.length y1) (.slice x2 C2.length y2) C1 C2 (m.wins wr win [12, 14]) wr (Mem.wins_inn HO2.inn win [12, 14]) (HT.out.le (Mem.le_wins HO2.inn win [12, 14])) s1 s2 hF) ?_)
      rintro e w' ⟨r, C, rfl, hb, hst, hl, hn⟩
      exact ⟨_, rfl, _, rfl, hb, langV_mks HO2.inn (by simp) (by intro d hd; simp only [List.mem_cons, List.not_mem_nil, or_false] at hd; rcases hd with rfl | rfl <;> assumption) hb hst (hl.congr fun x => by simp only [l1.sem x, l2.sem x]) (by omega)⟩
    · have e70 : (Fact.mem m [10, 9] (LangV (fun x => !(Sem A x || Sem B x)) 310)).holds (a.tmps.getD 70 undef) win wr := RA.dep 10 _ (by kernel_rfl) rfl
      have e75 : (Fact.mem m [15, 12, 14] (LangV (fun x => !Sem A x && !Sem B x) 1090)).holds (a.tmps.getD 75 undef) win wr := RA.dep 15 _ (by kernel_rfl) rfl
      have e66 : a.tmps.getD 66 undef = .bool false := RA.dep 6 _ (by kernel_rfl) rfl
      cases ho
      obtain ⟨x1, y1, C1, f1, s1, l1, n1⟩ : LangV _ _ _ _ := e70
      have s1 := statesAt_le (Mem.wins_le (ds := [10, 9]) (es := [10, 9, 15, 12, 14]) HO2.inn win (by simp)) s1
      obtain ⟨x2, y2, C2, f2, s2, l2, n2⟩ : LangV _ _ _ _ := e75
      have s2 := statesAt_le (Mem.wins_le (ds := [15, 12, 14]) (es := [10, 9, 15, 12, 14]) HO2.inn win (by simp)) s2
      refine wpOp_of2 rfl (wanted_yes rfl rfl e66) (wp_enter (by go_simp; first | done | rfl) (r05Same_any (.slice x1 C1.length y1) (.slice x2 C2.length y2) C1 C2 _ wr (Mem.wins_inn HO2.inn win [10, 9, 15, 12, 14]) s1 s2) ?_)
      rintro e w' ⟨rfl, hb⟩
      exact ⟨_, rfl, _, rfl, hb, congrArg Value.bool (tf_true (lang_unique l1 (l2.congr fun x => by cases Sem A x <;> cases Sem B x <;> first | rfl | (cases Sem C x <;> rfl))))⟩
    · have e76 : a.tmps.getD 76 undef = .bool true := RA.dep 16 _ (by kernel_rfl) rfl
      have e66 : a.tmps.getD 66 undef = .bool false := RA.dep 6 _ (by kernel_rfl) rfl
      cases ho
      refine wpOp_of2 rfl (wanted_yes rfl rfl e66) (wp_value (by go_simp; first | done | rfl) ⟨_, rfl, Below.refl _ _, rfl⟩)
    · have e66 : a.tmps.getD 66 undef = .bool false := RA.dep 6 _ (by kernel_rfl) rfl
      have e77 : a.tmps.getD 77 undef = .bool false := RA.dep 17 _ (by kernel_rfl) rfl
      cases ho
      refine wpOp_of rfl rfl (wp_value (by go_simp; first | done | rfl) ⟨_, rfl, Below.refl _ _, rfl⟩)
    · have e78 : a.tmps.getD 78 undef = .bool false := RA.dep 18 _ (by kernel_rfl) rfl
      cases ho
      refine wpOp_of rfl rfl (wp_value (by go_simp; first | done | rfl) ⟨_, rfl, Below.refl _ _, rfl⟩)
    · have e3 := (RA.keep 3 (by kernel_rfl)).trans h3
      have e79 : a.tmps.getD 79 undef = .bool false := RA.dep 19 _ (by kernel_rfl) rfl
      cases ho
      refine wpOp_of2 rfl (wanted_yes rfl rfl e79) (wp_value (by go_simp; first | done | rfl) ⟨_, rfl, Below.refl _ _, rfl⟩)
    · have e4 := (RA.keep 4 (by kernel_rfl)).trans h4
      have e79 : a.tmps.getD 79 undef = .bool false := RA.dep 19 _ (by kernel_rfl) rfl
      cases ho
      refine wpOp_of2 rfl (wanted_yes rfl rfl e79) (wp_value (by go_simp; first | done | rfl) ⟨_, rfl, Below.refl _ _, rfl⟩)
    · have e80 : a.tmps.getD 80 undef = .agg #[.slice vaa A.length vac] := RA.dep 20 _ (by kernel_rfl) rfl
      have e81 : a.tmps.getD 81 undef = .agg #[.slice vba B.length vbc] := RA.dep 21 _ (by kernel_rfl) rfl
      have e79 : a.tmps.getD 79 undef = .bool false := RA.dep 19 _ (by kernel_rfl) rfl
      cases ho
      have hF : Fits A B := Fits.of (x := 8) (y := 8) hsA.2 hsB.2 (by decide)
      have hq : (A.length + 2) * (B.length + 2) ≤ 10 * 10 := Nat.mul_le_mul (Nat.add_le_add_right hsA.2 2) (Nat.add_le_add_right hsB.2 2)
      refine wpOp_of2 rfl (wanted_yes rfl rfl e79) (wp_enter (by go_simp; first | done | rfl) (langMinus_any (.slice vaa A.length vac) (.slice vba B.length vbc) A B m wr HO2.inn HT.out HA.out HB.out hF) ?_)
      rintro e w' ⟨r, C, rfl, hb, hst, hl, hn⟩
      exact ⟨_, rfl, _, rfl, hb, langV_mk HO2.inn hb hst hl (by omega)⟩
    · have e3 := (RA.keep 3 (by kernel_rfl)).trans h3
      have e79 : a.tmps.getD 79 undef = .bool false := RA.dep 19 _ (by kernel_rfl) rfl
      cases ho
      refine wpOp_of2 rfl (wanted_yes rfl rfl e79) (wp_value (by go_simp; first | done | rfl) ⟨_, rfl, Below.refl _ _, rfl⟩)
    · have e4 := (RA.keep 4 (by kernel_rfl)).trans h4
      have e79 : a.tmps.getD 79 undef = .bool false := RA.dep 19 _ (by kernel_rfl) rfl
      cases ho
      refine wpOp_of2 rfl (wanted_yes rfl rfl e79) (wp_value (by go_simp; first | done | rfl) ⟨_, rfl, Below.refl _ _, rfl⟩)
    · have e84 : a.tmps.getD 84 undef = .agg #[.slice vba B.length vbc] := RA.dep 24 _ (by kernel_rfl) rfl
      have e79 : a.tmps.getD 79 undef = .bool false := RA.dep 19 _ (by kernel_rfl) rfl
      cases ho
      have hq := hsB.2
      refine wpOp_of2 rfl (wanted_yes rfl rfl e79) (wp_enter (by go_simp; first | done | rfl) (langNot_any (.slice vba B.length vbc) B m wr HO2.inn HT.out HB.out (by omega)) ?_)
      rintro e w' ⟨r, C, rfl, hb, hst, hl, hn⟩
      exact ⟨_, rfl, _, rfl, hb, langV_mk HO2.inn hb hst hl (by omega)⟩
    · have e83 : a.tmps.getD 83 undef = .agg #[.slice vaa A.length vac] := RA.dep 23 _ (by kernel_rfl) rfl
      have e85 : (Fact.mem m [25] (LangV (fun x => !Sem B x) 31)).holds (a.tmps.getD 85 undef) win wr := RA.dep 25 _ (by kernel_rfl) rfl
      have e79 : a.tmps.getD 79 undef = .bool false := RA.dep 19 _ (by kernel_rfl) rfl
      cases ho
      obtain ⟨x2, y2, C2, f2, s2, l2, n2⟩ : LangV _ _ _ _ := e85
      have s2 := statesAt_le (Mem.wins_le (ds := [25]) (es := [25]) HO2.inn win (by simp)) s2
      have w25 := (RA.rng 25 (by kernel_rfl)).2.2
      have hF : Fits A C2 := Fits.of (x := 8) (y := 31) hsA.2 n2 (by decide)
      have hq : (A.length + 2) * (C2.length + 2) ≤ 10 * 33 := Nat.mul_le_mul (Nat.add_le_add_right hsA.2 2) (Nat.add_le_add_right n2 2)
      refine wpOp_of2 rfl (wanted_yes rfl rfl e79) (wp_enter (by go_simp; first | done | rfl) (langAnd_any (.slice vaa A.length vac) (.slice x2 C2.length y2) A C2 (m.wins wr win [25]) wr (Mem.wins_inn HO2.inn win [25]) (HT.out.le (Mem.le_wins HO2.inn win [25])) (statesAt_le (Mem.le_wins HO2.inn win [25]) HA.out) s2 hF) ?_)
      rintro e w' ⟨r, C, rfl, hb, hst, hl, hn⟩
      exact ⟨_, rfl, _, rfl, hb, langV_mks HO2.inn (by simp) (by intro d hd; simp only [List.mem_cons, List.not_mem_nil, or_false] at hd; rcases hd with rfl <;> assumption) hb hst (hl.congr fun x => by simp only [l2.sem x]) (by omega)⟩
    · have e82 : (Fact.mem m [22] (LangV (fun x => Sem A x && !Sem B x) 101)).holds (a.tmps.getD 82 undef) win wr := RA.dep 22 _ (by kernel_rfl) rfl
      have e86 : (Fact.mem m [26, 25] (LangV (fun x => Sem A x && !Sem B x) 331)).holds (a.tmps.getD 86 undef) win wr := RA.dep 26 _ (by kernel_rfl) rfl
      have e79 : a.tmps.getD 79 undef = .bool false := RA.dep 19 _ (by kernel_rfl) rfl
      cases ho
      obtain ⟨x1, y1, C1, f1, s1, l1, n1⟩ : LangV _ _ _ _ := e82
      have s1 := statesAt_le (Mem.wins_le (ds := [22]) (es := [22, 26, 25]) HO2.inn win (by simp)) s1
      obtain ⟨x2, y2, C2, f2, s2, l2, n2⟩ : LangV _ _ _ _ := e86
      have s2 := statesAt_le (Mem.wins_le (ds := [26, 25]) (es := [22, 26, 25]) HO2.inn win (by simp)) s2
      refine wpOp_of2 rfl (wanted_yes rfl rfl e79) (wp_enter (by go_simp; first | done | rfl) (r05Same_any (.slice x1 C1.length y1) (.slice x2 C2.length y2) C1 C2 _ wr (Mem.wins_inn HO2.inn win [22, 26, 25]) s1 s2) ?_)
      rintro e w' ⟨rfl, hb⟩
      exact ⟨_, rfl, _, rfl, hb, congrArg Value.bool (tf_true (lang_unique l1 (l2.congr fun x => by cases Sem A x <;> cases Sem B x <;> first | rfl | (cases Sem C x <;> rfl))))⟩
    · have e87 : a.tmps.getD 87 undef = .bool true := RA.dep 27 _ (by kernel_rfl) rfl
      have e79 : a.tmps.getD 79 undef = .bool false := RA.dep 19 _ (by kernel_rfl) rfl
      cases ho
      refine wpOp_of2 rfl (wanted_yes rfl rfl e79) (wp_value (by go_simp; first | done | rfl) ⟨_, rfl, Below.refl _ _, rfl⟩)
    · have e79 : a.tmps.getD 79 undef = .bool false := RA.dep 19 _ (by kernel_rfl) rfl
      have e88 : a.tmps.getD 88 undef = .bool false := RA.dep 28 _ (by kernel_rfl) rfl
      cases ho
      refine wpOp_of rfl rfl (wp_value (by go_simp; first | done | rfl) ⟨_, rfl, Below.refl _ _, rfl⟩)
  · intro win a wr E
    have e3 := (E.keep 3 (by kernel_rfl)).trans h3
    have e4 := (E.keep 4 (by kernel_rfl)).trans h4
    have e5 := (E.keep 5 (by kernel_rfl)).trans h5
    have e89 : a.tmps.getD 89 undef = .bool false := E.fact 29 _ (by omega) rfl
    obtain ⟨t, d⟩ := a
    obtain rfl : d = [] := E.defers
    refine wpAny_none (by kernel_rfl) (hX.out _ _ E.size ⟨?_, HO.out.dr.move E.below⟩) _
    simp only [List.map_cons, List.map_nil, e3, e4, e5, e89]
end Cl
namespace Cl
open Go Go.RowKit Go.Proofs

set_option maxRecDepth 100000 in
set_option maxHeartbeats 16000000 in
theorem LangAlgebra_r7 {A B C : Table} {m : Mem} {w w1 : World} {vaa vba vca : Option Addr} {vac vbc vcc : Nat} {bb : Bool} {X : Act → World → Prop} (t0 : Array Value) (hz : t0.size = 119) (h3 : t0.getD 3 undef = .pointer (some ⟨w.heap.size, 0, none⟩)) (h4 : t0.getD 4 undef = .pointer (some ⟨w.heap.size + 1, 0, none⟩)) (h5 : t0.getD 5 undef = .pointer (some ⟨w.heap.size + 1 + 1, 0, none⟩))
    (HT : Hid (TabM m)) (HA : Hid (statesAt m (.slice vaa A.length vac) A)) (HB : Hid (statesAt m (.slice vba B.length vbc) B)) (HC : Hid (statesAt m (.slice vca C.length vcc) C)) (hsA : SmallT A) (hsB : SmallT B) (hsC : SmallT C) (hcA : Canon A) (hcB : Canon B) (hcC : Canon C) (HW : Hid (∀ w, m.inn w → Calls Tryd.prog 11 #[] w fun e w' => e = .returned (.bool true) ∧ Below w.heap.size w w')) (HBB : Hid (tf (∀ x, (Sem A x && !Sem B x) = false) = bb)) (hF0 : Fits A B)
    (HO : Hid (Own w m w1 m [.obj (w.heap.size + 1 + 1) 24 #[.slice vca C.length vcc], .obj (w.heap.size + 1) 24 #[.slice vba B.length vbc], .obj w.heap.size 24 #[.slice vaa A.length vac]]))
    (hX : Hid (∀ (t' : Array Value) w', t'.size = t0.size → ([3, 4, 5, 6].map fun i => t'.getD i undef) = [.pointer (some ⟨w.heap.size, 0, none⟩), .pointer (some ⟨w.heap.size + 1, 0, none⟩), .pointer (some ⟨w.heap.size + 1 + 1, 0, none⟩), .bool true] ∧ Own w m w' m [.obj (w.heap.size + 1 + 1) 24 #[.slice vca C.length vcc], .obj (w.heap.size + 1) 24 #[.slice vba B.length vbc], .obj w.heap.size 24 #[.slice vaa A.length vac]] → X ⟨t', []⟩ w')) :
    (Go.Code.region 7 #[{ dst := some 90, op := Go.Op.load 24 (Go.Operand.tmp 3), type := 24, pos := "law.go:94", after := #[], guard := none }, { dst := some 91, op := Go.Op.load 24 (Go.Operand.tmp 3), type := 24, pos := "law.go:94", after := #[], guard := none }, { dst := some 92, op := Go.Op.call { callee := Go.Callee.value (Go.Operand.func 27), args := #[Go.Operand.tmp 91], argTypes := #[24] }, type := 24, pos := "law.go:94", after := #[{ on := 1, ground := Go.Ground.data }], guard := none }, { dst := some 93, op := Go.Op.call { callee := Go.Callee.value (Go.Operand.func 15), args := #[Go.Operand.tmp 90, Go.Operand.tmp 92], argTypes := #[24, 24] }, type := 24, pos := "law.go:94", after := #[{ on := 0, ground := Go.Ground.data }, { on := 2, ground := Go.Ground.data }, { on := 2, ground := Go.Ground.chain }], guard := none }, { dst := some 94, op := Go.Op.call { callee := Go.Callee.value (Go.Operand.func 29), args := #[], argTypes := #[] }, type := 24, pos := "law.go:94", after := #[{ on := 3, ground := Go.Ground.chain }], guard := none }, { dst := some 95, op := Go.Op.call { callee := Go.Callee.value (Go.Operand.func 12), args := #[Go.Operand.tmp 93, Go.Operand.tmp 94], argTypes := #[24, 24] }, type := 4, pos := "law.go:94", after := #[{ on := 3, ground := Go.Ground.data }, { on := 4, ground := Go.Ground.data }, { on := 4, ground := Go.Ground.chain }], guard := none }, { dst := some 96, op := Go.Op.move (Go.Operand.tmp 95), type := 4, pos := "law.go:94", after := #[{ on := 5, ground := Go.Ground.data }, { on := 5, ground := Go.Ground.chain }], guard := none }, { dst := some 97, op := Go.Op.load 24 (Go.Operand.tmp 3), type := 24, pos := "law.go:94", after := #[{ on := 6, ground := Go.Ground.guard }], guard := some (6, true) }, { dst := some 98, op := Go.Op.load 24 (Go.Operand.tmp 4), type := 24, pos := "law.go:94", after := #[{ on := 6, ground := Go.Ground.guard }], guard := some (6, true) }, { dst := some 99, op := Go.Op.call { callee := Go.Callee.value (Go.Operand.func 13), args := #[Go.Operand.tmp 97, Go.Operand.tmp 98], argTypes := #[24, 24] }, type := 24, pos := "law.go:94", after := #[{ on := 7, ground := Go.Ground.data }, { on := 8, ground := Go.Ground.data }, { on := 6, ground := Go.Ground.chain }, { on := 6, ground := Go.Ground.guard }], guard := some (6, true) }, { dst := some 100, op := Go.Op.load 24 (Go.Operand.tmp 4), type := 24, pos := "law.go:94", after := #[{ on := 6, ground := Go.Ground.guard }], guard := some (6, true) }, { dst := some 101, op := Go.Op.load 24 (Go.Operand.tmp 3), type := 24, pos := "law.go:94", after := #[{ on := 6, ground := Go.Ground.guard }], guard := some (6, true) }, { dst := some 102, op := Go.Op.call { callee := Go.Callee.value (Go.Operand.func 13), args := #[Go.Operand.tmp 100, Go.Operand.tmp 101], argTypes := #[24, 24] }, type := 24, pos := "law.go:94", after := #[{ on := 10, ground := Go.Ground.data }, { on := 11, ground := Go.Ground.data }, { on := 9, ground := Go.Ground.chain }, { on := 6, ground := Go.Ground.guard }], guard := some (6, true) }, { dst := some 103, op := Go.Op.call { callee := Go.Callee.value (Go.Operand.func 12), args := #[Go.Operand.tmp 99, Go.Operand.tmp 102], argTypes := #[24, 24] }, type := 4, pos := "law.go:94", after := #[{ on := 9, ground := Go.Ground.data }, { on := 12, ground := Go.Ground.data }, { on := 12, ground := Go.Ground.chain }, { on := 6, ground := Go.Ground.guard }], guard := some (6, true) }, { dst := some 104, op := Go.Op.pick (Go.Operand.tmp 96) (Go.Operand.tmp 103) (Go.Operand.const (Go.Value.bool false)), type := 4, pos := "law.go:94", after := #[{ on := 6, ground := Go.Ground.data }, { on := 13, ground := Go.Ground.data }], guard := none }, { dst := some 105, op := Go.Op.move (Go.Operand.tmp 104), type := 4, pos := "law.go:94", after := #[{ on := 14, ground := Go.Ground.data }, { on := 13, ground := Go.Ground.chain }], guard := none }, { dst := some 106, op := Go.Op.load 24 (Go.Operand.tmp 3), type := 24, pos := "law.go:94", after := #[{ on := 15, ground := Go.Ground.guard }], guard := some (15, true) }, { dst := some 107, op := Go.Op.load 24 (Go.Operand.tmp 4), type := 24, pos := "law.go:94", after := #[{ on := 15, ground := Go.Ground.guard }], guard := some (15, true) }, { dst := some 108, op := Go.Op.call { callee := Go.Callee.value (Go.Operand.func 30), args := #[Go.Operand.tmp 106, Go.Operand.tmp 107], argTypes := #[24, 24] }, type := 4, pos := "law.go:94", after := #[{ on := 16, ground := Go.Ground.data }, { on := 17, ground := Go.Ground.data }, { on := 15, ground := Go.Ground.chain }, { on := 15, ground := Go.Ground.guard }], guard := some (15, true) }, { dst := some 109, op := Go.Op.load 24 (Go.Operand.tmp 3), type := 24, pos := "law.go:94", after := #[{ on := 15, ground := Go.Ground.guard }], guard := some (15, true) }, { dst := some 110, op := Go.Op.load 24 (Go.Operand.tmp 4), type := 24, pos := "law.go:94", after := #[{ on := 15, ground := Go.Ground.guard }], guard := some (15, true) }, { dst := some 111, op := Go.Op.call { callee := Go.Callee.value (Go.Operand.func 13), args := #[Go.Operand.tmp 109, Go.Operand.tmp 110], argTypes := #[24, 24] }, type := 24, pos := "law.go:94", after := #[{ on := 19, ground := Go.Ground.data }, { on := 20, ground := Go.Ground.data }, { on := 18, ground := Go.Ground.chain }, { on := 15, ground := Go.Ground.guard }], guard := some (15, true) }, { dst := some 112, op := Go.Op.load 24 (Go.Operand.tmp 3), type := 24, pos := "law.go:94", after := #[{ on := 15, ground := Go.Ground.guard }], guard := some (15, true) }, { dst := some 113, op := Go.Op.call { callee := Go.Callee.value (Go.Operand.func 12), args := #[Go.Operand.tmp 111, Go.Operand.tmp 112], argTypes := #[24, 24] }, type := 4, pos := "law.go:94", after := #[{ on := 21, ground := Go.Ground.data }, { on := 22, ground := Go.Ground.data }, { on := 21, ground := Go.Ground.chain }, { on := 15, ground := Go.Ground.guard }], guard := some (15, true) }, { dst := some 114, op := Go.Op.binOp Go.BinOp.eql 4 (Go.Operand.tmp 108) (Go.Operand.tmp 113) 4, type := 4, pos := "law.go:94", after := #[{ on := 18, ground := Go.Ground.data }, { on := 23, ground := Go.Ground.data }, { on := 15, ground := Go.Ground.guard }], guard := some (15, true) }, { dst := some 115, op := Go.Op.pick (Go.Operand.tmp 105) (Go.Operand.tmp 114) (Go.Operand.const (Go.Value.bool false)), type := 4, pos := "law.go:94", after := #[{ on := 15, ground := Go.Ground.data }, { on := 24, ground := Go.Ground.data }], guard := none }, { dst := some 116, op := Go.Op.move (Go.Operand.tmp 115), type := 4, pos := "law.go:94", after := #[{ on := 25, ground := Go.Ground.data }, { on := 23, ground := Go.Ground.chain }], guard := none }, { dst := some 117, op := Go.Op.call { callee := Go.Callee.value (Go.Operand.func 11), args := #[], argTypes := #[] }, type := 4, pos := "law.go:94", after := #[{ on := 26, ground := Go.Ground.chain }, { on := 26, ground := Go.Ground.guard }], guard := some (26, true) }, { dst := some 118, op := Go.Op.pick (Go.Operand.tmp 116) (Go.Operand.tmp 117) (Go.Operand.const (Go.Value.bool false)), type := 4, pos := "law.go:94", after := #[{ on := 26, ground := Go.Ground.data }, { on := 27, ground := Go.Ground.data }], guard := none }, { dst := some 6, op := Go.Op.assign (Go.Operand.tmp 118), type := 4, pos := "law.go:94", after := #[{ on := 28, ground := Go.Ground.data }, { on := 27, ground := Go.Ground.chain }, { on := 0, ground := Go.Ground.phase }, { on := 1, ground := Go.Ground.phase }, { on := 2, ground := Go.Ground.phase }, { on := 3, ground := Go.Ground.phase }, { on := 4, ground := Go.Ground.phase }, { on := 5, ground := Go.Ground.phase }, { on := 6, ground := Go.Ground.phase }, { on := 7, ground := Go.Ground.phase }, { on := 8, ground := Go.Ground.phase }, { on := 9, ground := Go.Ground.phase }, { on := 10, ground := Go.Ground.phase }, { on := 11, ground := Go.Ground.phase }, { on := 12, ground := Go.Ground.phase }, { on := 13, ground := Go.Ground.phase }, { on := 14, ground := Go.Ground.phase }, { on := 15, ground := Go.Ground.phase }, { on := 16, ground := Go.Ground.phase }, { on := 17, ground := Go.Ground.phase }, { on := 18, ground := Go.Ground.phase }, { on := 19, ground := Go.Ground.phase }, { on := 20, ground := Go.Ground.phase }, { on := 21, ground := Go.Ground.phase }, { on := 22, ground := Go.Ground.phase }, { on := 23, ground := Go.Ground.phase }, { on := 24, ground := Go.Ground.phase }, { on := 25, ground := Go.Ground.phase }, { on := 26, ground := Go.Ground.phase }, { on := 27, ground := Go.Ground.phase }, { on := 28, ground := Go.Ground.phase }], guard := none }] true).wp Tryd.prog (Exit.then X (fun _ _ _ => False)) ⟨t0, []⟩ w1 := by
  refine wp_region_facts 30 6 (fun j => [Fact.is (· = .agg #[.slice vaa A.length vac]), Fact.is (· = .agg #[.slice vaa A.length vac]), Fact.mem m [2] (LangV (fun x => !Sem A x) 31), Fact.mem m [3, 2] (LangV (fun x => Sem A x || !Sem A x) 331), Fact.mem m [4] (TabV allT), Fact.is (· = .bool true), Fact.is (· = .bool true), Fact.is (· = .agg #[.slice vaa A.length vac]), Fact.is (· = .agg #[.slice vba B.length vbc]), Fact.mem m [9] (LangV (fun x => Sem A x && Sem B x) 101), Fact.is (· = .agg #[.slice vba B.length vbc]), Fact.is (· = .agg #[.slice vaa A.length vac]), Fact.mem m [12] (LangV (fun x => Sem B x && Sem A x) 101), Fact.is (· = .bool true), Fact.is (· = .bool true), Fact.is (· = .bool true), Fact.is (· = .agg #[.slice vaa A.length vac]), Fact.is (· = .agg #[.slice vba B.length vbc]), Fact.is (· = .bool bb), Fact.is (· = .agg #[.slice vaa A.length vac]), Fact.is (· = .agg #[.slice vba B.length vbc]), Fact.mem m [21] (LangV (fun x => Sem A x && Sem B x) 101), Fact.is (· = .agg #[.slice vaa A.length vac]), Fact.is (· = .bool bb), Fact.is (· = .bool true), Fact.is (· = .bool true), Fact.is (· = .bool true), Fact.is (· = .bool true), Fact.is (· = .bool true), Fact.is (· = .bool true)].getD j Fact.any) (by kernel_rfl) (by rw [hz]; kernel_rfl) ?_ ?_
  · intro i hi o win a wr ho RA
    have HO2 := HO.out.dr.move RA.below
    have q0 := HO2.obj.cell (i := 0) rfl
    have q1 := HO2.swap.obj.cell (i := 0) rfl
    have q2 := HO2.third.obj.cell (i := 0) rfl
    rcases (show i = 0 ∨ i = 1 ∨ i = 2 ∨ i = 3 ∨ i = 4 ∨ i = 5 ∨ i = 6 ∨ i = 7 ∨ i = 8 ∨ i = 9 ∨ i = 10 ∨ i = 11 ∨ i = 12 ∨ i = 13 ∨ i = 14 ∨ i = 15 ∨ i = 16 ∨ i = 17 ∨ i = 18 ∨ i = 19 ∨ i = 20 ∨ i = 21 ∨ i = 22 ∨ i = 23 ∨ i = 24 ∨ i = 25 ∨ i = 26 ∨ i = 27 ∨ i = 28 ∨ i = 29 by omega) with rfl | rfl | rfl | rfl | rfl | rfl | rfl | rfl | rfl | rfl | rfl | rfl | rfl | rfl | rfl | rfl | rfl | rfl | rfl | rfl | rfl | rfl | rfl | rfl | rfl | rfl | rfl | rfl | rfl | rfl
    · have e3 := (RA.keep 3 (by kernel_rfl)).trans h3
      cases ho
      refine wpOp_of rfl rfl (wp_value (by go_simp; first | done | rfl) ⟨_, rfl, Below.refl _ _, rfl⟩)
    · have e3 := (RA.keep 3 (by kernel_rfl)).trans h3
      cases ho
      refine wpOp_of rfl rfl (wp_value (by go_simp; first | done | rfl) ⟨_, rfl, Below.refl _ _, rfl⟩)
    · have e91 : a.tmps.getD 91 undef = .agg #[.slice vaa A.length vac] := RA.dep 1 _ (by kernel_rfl) rfl
      cases ho
      have hq := hsA.2
      refine wpOp_of rfl rfl (wp_enter (by go_simp; first | done | rfl) (langNot_any (.slice vaa A.length vac) A m wr HO2.inn HT.out HA.out (by omega)) ?_)
      rintro e w' ⟨r, C, rfl, hb, hst, hl, hn⟩
      exact ⟨_, rfl, _, rfl, hb, langV_mk HO2.inn hb hst hl (by omega)⟩
    · have e90 : a.tmps.getD 90 undef = .agg #[.slice vaa A.length vac] := RA.dep 0 _ (by kernel_rfl) rfl
      have e92 : (Fact.mem m [2] (LangV (fun x => !Sem A x) 31)).holds (a.tmps.getD 92 undef) win wr := RA.dep 2 _ (by kernel_rfl) rfl
      cases ho
      obtain ⟨x2, y2, C2, f2, s2, l2, n2⟩ : LangV _ _ _ _ := e92
      have s2 := statesAt_le (Mem.wins_le (ds := [2]) (es := [2]) HO2.inn win (by simp)) s2
      have w2 := (RA.rng 2 (by kernel_rfl)).2.2
      have hF : Fits A C2 := Fits.of (x := 8) (y := 31) hsA.2 n2 (by decide)
      have hq : (A.length + 2) * (C2.length + 2) ≤ 10 * 33 := Nat.mul_le_mul (Nat.add_le_add_right hsA.2 2) (Nat.add_le_add_right n2 2)
      refine wpOp_of rfl rfl (wp_enter (by go_simp; first | done | rfl) (langOr_any (.slice vaa A.length vac) (.slice x2 C2.length y2) A C2 (m.wins wr win [2]) wr (Mem.wins_inn HO2.inn win [2]) (HT.out.le (Mem.le_wins HO2.inn win [2])) (statesAt_le (Mem.le_wins HO2.inn win [2]) HA.out) s2 hF) ?_)
      rintro e w' ⟨r, C, rfl, hb, hst, hl, hn⟩
      exact ⟨_, rfl, _, rfl, hb, langV_mks HO2.inn (by simp) (by intro d hd; simp only [List.mem_cons, List.not_mem_nil, or_false] at hd; rcases hd with rfl <;> assumption) hb hst (hl.congr fun x => by simp only [l2.sem x]) (by omega)⟩
    · cases ho
      refine wpOp_of rfl rfl (wp_enter (by go_simp; first | done | rfl) (r05All_any m wr) ?_)
      rintro e w' ⟨r, rfl, hb, hst⟩
      exact ⟨_, rfl, _, rfl, hb, tabV_mk HO2.inn hb hst⟩
    · have e93 : (Fact.mem m [3, 2] (LangV (fun x => Sem A x || !Sem A x) 331)).holds (a.tmps.getD 93 undef) win wr := RA.dep 3 _ (by kernel_rfl) rfl
      have e94 : (Fact.mem m [4] (TabV allT)).holds (a.tmps.getD 94 undef) win wr := RA.dep 4 _ (by kernel_rfl) rfl
      cases ho
      obtain ⟨x1, y1, C1, f1, s1, l1, n1⟩ : LangV _ _ _ _ := e93
      have s1 := statesAt_le (Mem.wins_le (ds := [3, 2]) (es := [3, 2, 4]) HO2.inn win (by simp)) s1
      obtain ⟨x2, y2, f2, s2⟩ : TabV _ _ _ := e94
      have s2 := statesAt_le (Mem.wins_le (ds := [4]) (es := [3, 2, 4]) HO2.inn win (by simp)) s2
      refine wpOp_of rfl rfl (wp_enter (by go_simp; first | done | rfl) (r05Same_any (.slice x1 C1.length y1) (.slice x2 (List.length allT) y2) C1 allT _ wr (Mem.wins_inn HO2.inn win [3, 2, 4]) s1 s2) ?_)
      rintro e w' ⟨rfl, hb⟩
      exact ⟨_, rfl, _, rfl, hb, congrArg Value.bool (tf_true (lang_unique l1 (allT_is.congr fun x => by cases Sem A x <;> cases Sem B x <;> first | rfl | (cases Sem C x <;> rfl))))⟩
    · have e95 : a.tmps.getD 95 undef = .bool true := RA.dep 5 _ (by kernel_rfl) rfl
      cases ho
      refine wpOp_of rfl rfl (wp_value (by go_simp; first | done | rfl) ⟨_, rfl, Below.refl _ _, rfl⟩)
    · have e3 := (RA.keep 3 (by kernel_rfl)).trans h3
      have e96 : a.tmps.getD 96 undef = .bool true := RA.dep 6 _ (by kernel_rfl) rfl
      cases ho
      refine wpOp_of2 rfl (wanted_yes rfl rfl e96) (wp_value (by go_simp; first | done | rfl) ⟨_, rfl, Below.refl _ _, rfl⟩)
    · have e4 := (RA.keep 4 (by kernel_rfl)).trans h4
      have e96 : a.tmps.getD 96 undef = .bool true := RA.dep 6 _ (by kernel_rfl) rfl
      cases ho
      refine wpOp_of2 rfl (wanted_yes rfl rfl e96) (wp_value (by go_simp; first | done | rfl) ⟨_, rfl, Below.refl _ _, rfl⟩)
    · have e97 : a.tmps.getD 97 undef = .agg #[.slice vaa A.length vac] := RA.dep 7 _ (by kernel_rfl) rfl
      have e98 : a.tmps.getD 98 undef = .agg #[.slice vba B.length vbc] := RA.dep 8 _ (by kernel_rfl) rfl
      have e96 : a.tmps.getD 96 undef = .bool true := RA.dep 6 _ (by kernel_rfl) rfl
      cases ho
      have hF : Fits A B := Fits.of (x := 8) (y := 8) hsA.2 hsB.2 (by decide)
      have hq : (A.length + 2) * (B.length + 2) ≤ 10 * 10 := Nat.mul_le_mul (Nat.add_le_add_right hsA.2 2) (Nat.add_le_add_right hsB.2 2)
      refine wpOp_of2 rfl (wanted_yes rfl rfl e96) (wp_enter (by go_simp; first | done | rfl) (langAnd_any (.slice vaa A.length vac) (.slice vba B.length vbc) A B m wr HO2.inn HT.out HA.out HB.out hF) ?_)
      rintro e w' ⟨r, C, rfl, hb, hst, hl, hn⟩
      exact ⟨_, rfl, _, rfl, hb, langV_mk HO2.inn hb hst hl (by omega)⟩
    · have e4 := (RA.keep 4 (by kernel_rfl)).trans h4
      have e96 : a.tmps.getD 96 undef = .bool true := RA.dep 6 _ (by kernel_rfl) rfl
      cases ho
      refine wpOp_of2 rfl (wanted_yes rfl rfl e96) (wp_value (by go_simp; first | done | rfl) ⟨_, rfl, Below.refl _ _, rfl⟩)
    · have e3 := (RA.keep 3 (by kernel_rfl)).trans h3
      have e96 : a.tmps.getD 96 undef = .bool true := RA.dep 6 _ (by kernel_rfl) rfl
      cases ho
      refine wpOp_of2 rfl (wanted_yes rfl rfl e96) (wp_value (by go_simp; first | done | rfl) ⟨_, rfl, Below.refl _ _, rfl⟩)
    · have e100 : a.tmps.getD 100 undef = .agg #[.slice vba B.length vbc] := RA.dep 10 _ (by kernel_rfl) rfl
      have e101 : a.tmps.getD 101 undef = .agg #[.slice vaa A.length vac] := RA.dep 11 _ (by kernel_rfl) rfl
      have e96 : a.tmps.getD 96 undef = .bool true := RA.dep 6 _ (by kernel_rfl) rfl
      cases ho
      have hF : Fits B A := Fits.of (x := 8) (y := 8) hsB.2 hsA.2 (by decide)
      have hq : (B.length + 2) * (A.length + 2) ≤ 10 * 10 := Nat.mul_le_mul (Nat.add_le_add_right hsB.2 2) (Nat.add_le_add_right hsA.2 2)
      refine wpOp_of2 rfl (wanted_yes rfl rfl e96) (wp_enter (by go_simp; first | done | rfl) (langAnd_any (.slice vba B.length vbc) (.slice vaa A.length vac) B A m wr HO2.inn HT.out HB.out HA.out hF) ?_)
      rintro e w' ⟨r, C, rfl, hb, hst, hl, hn⟩
      exact ⟨_, rfl, _, rfl, hb, langV_mk HO2.inn hb hst hl (by omega)⟩
    · have e99 : (Fact.mem m [9] (LangV (fun x => Sem A x && Sem B x) 101)).holds (a.tmps.getD 99 undef) win wr := RA.dep 9 _ (by kernel_rfl) rfl
      have e102 : (Fact.mem m [12] (LangV (fun x => Sem B x && Sem A x) 101)).holds (a.tmps.getD 102 undef) win wr := RA.dep 12 _ (by kernel_rfl) rfl
      have e96 : a.tmps.getD 96 undef = .bool true := RA.dep 6 _ (by kernel_rfl) rfl
      cases ho
      obtain ⟨x1, y1, C1, f1, s1, l1, n1⟩ : LangV _ _ _ _ := e99
      have s1 := statesAt_le (Mem.wins_le (ds := [9]) (es := [9, 12]) HO2.inn win (by simp)) s1
      obtain ⟨x2, y2, C2, f2, s2, l2, n2⟩ : LangV _ _ _ _ := e102
      have s2 := statesAt_le (Mem.wins_le (ds := [12]) (es := [9, 12]) HO2.inn win (by simp)) s2
      refine wpOp_of2 rfl (wanted_yes rfl rfl e96) (wp_enter (by go_simp; first | done | rfl) (r05Same_any (.slice x1 C1.length y1) (.slice x2 C2.length y2) C1 C2 _ wr (Mem.wins_inn HO2.inn win [9, 12]) s1 s2) ?_)
      rintro e w' ⟨rfl, hb⟩
      exact ⟨_, rfl, _, rfl, hb, congrArg Value.bool (tf_true (lang_unique l1 (l2.congr fun x => by cases Sem A x <;> cases Sem B x <;> first | rfl | (cases Sem C x <;> rfl))))⟩
    · have e96 : a.tmps.getD 96 undef = .bool true := RA.dep 6 _ (by kernel_rfl) rfl
      have e103 : a.tmps.getD 103 undef = .bool true := RA.dep 13 _ (by kernel_rfl) rfl
      cases ho
      refine wpOp_of rfl rfl (wp_value (by go_simp; first | done | rfl) ⟨_, rfl, Below.refl _ _, rfl⟩)
    · have e104 : a.tmps.getD 104 undef = .bool true := RA.dep 14 _ (by kernel_rfl) rfl
      cases ho
      refine wpOp_of rfl rfl (wp_value (by go_simp; first | done | rfl) ⟨_, rfl, Below.refl _ _, rfl⟩)
    · have e3 := (RA.keep 3 (by kernel_rfl)).trans h3
      have e105 : a.tmps.getD 105 undef = .bool true := RA.dep 15 _ (by kernel_rfl) rfl
      cases ho
      refine wpOp_of2 rfl (wanted_yes rfl rfl e105) (wp_value (by go_simp; first | done | rfl) ⟨_, rfl, Below.refl _ _, rfl⟩)
    · have e4 := (RA.keep 4 (by kernel_rfl)).trans h4
      have e105 : a.tmps.getD 105 undef = .bool true := RA.dep 15 _ (by kernel_rfl) rfl
      cases ho
      refine wpOp_of2 rfl (wanted_yes rfl rfl e105) (wp_value (by go_simp; first | done | rfl) ⟨_, rfl, Below.refl _ _, rfl⟩)
    · have e106 : a.tmps.getD 106 undef = .agg #[.slice vaa A.length vac] := RA.dep 16 _ (by kernel_rfl) rfl
      have e107 : a.tmps.getD 107 undef = .agg #[.slice vba B.length vbc] := RA.dep 17 _ (by kernel_rfl) rfl
      have e105 : a.tmps.getD 105 undef = .bool true := RA.dep 15 _ (by kernel_rfl) rfl
      cases ho
      refine wpOp_of2 rfl (wanted_yes rfl rfl e105) (wp_enter (by go_simp; first | done | rfl) (langSubset_any (.slice vaa A.length vac) (.slice vba B.length vbc) A B m wr HO2.inn HT.out HA.out HB.out hF0) ?_)
      rintro e w' ⟨rfl, hb⟩
      exact ⟨_, rfl, _, rfl, hb, congrArg Value.bool HBB.out⟩
    · have e3 := (RA.keep 3 (by kernel_rfl)).trans h3
      have e105 : a.tmps.getD 105 undef = .bool true := RA.dep 15 _ (by kernel_rfl) rfl
      cases ho
      refine wpOp_of2 rfl (wanted_yes rfl rfl e105) (wp_value (by go_simp; first | done | rfl) ⟨_, rfl, Below.refl _ _, rfl⟩)
    · have e4 := (RA.keep 4 (by kernel_rfl)).trans h4
      have e105 : a.tmps.getD 105 undef = .bool true := RA.dep 15 _ (by kernel_rfl) rfl
      cases ho
      refine wpOp_of2 rfl (wanted_yes rfl rfl e105) (wp_value (by go_simp; first | done | rfl) ⟨_, rfl, Below.refl _ _, rfl⟩)
    · have e109 : a.tmps.getD 109 undef = .agg #[.slice vaa A.length vac] := RA.dep 19 _ (by kernel_rfl) rfl
      have e110 : a.tmps.getD 110 undef = .agg #[.slice vba B.length vbc] := RA.dep 20 _ (by kernel_rfl) rfl
      have e105 : a.tmps.getD 105 undef = .bool true := RA.dep 15 _ (by kernel_rfl) rfl
      cases ho
      have hF : Fits A B := Fits.of (x := 8) (y := 8) hsA.2 hsB.2 (by decide)
      have hq : (A.length + 2) * (B.length + 2) ≤ 10 * 10 := Nat.mul_le_mul (Nat.add_le_add_right hsA.2 2) (Nat.add_le_add_right hsB.2 2)
      refine wpOp_of2 rfl (wanted_yes rfl rfl e105) (wp_enter (by go_simp; first | done | rfl) (langAnd_any (.slice vaa A.length vac) (.slice vba B.length vbc) A B m wr HO2.inn HT.out HA.out HB.out hF) ?_)
      rintro e w' ⟨r, C, rfl, hb, hst, hl, hn⟩
      exact ⟨_, rfl, _, rfl, hb, langV_mk HO2.inn hb hst hl (by omega)⟩
    · have e3 := (RA.keep 3 (by kernel_rfl)).trans h3
      have e105 : a.tmps.getD 105 undef = .bool true := RA.dep 15 _ (by kernel_rfl) rfl
      cases ho
      refine wpOp_of2 rfl (wanted_yes rfl rfl e105) (wp_value (by go_simp; first | done | rfl) ⟨_, rfl, Below.refl _ _, rfl⟩)
    · have e111 : (Fact.mem m [21] (LangV (fun x => Sem A x && Sem B x) 101)).holds (a.tmps.getD 111 undef) win wr := RA.dep 21 _ (by kernel_rfl) rfl
      have e112 : a.tmps.getD 112 undef = .agg #[.slice vaa A.length vac] := RA.dep 22 _ (by kernel_rfl) rfl
      have e105 : a.tmps.getD 105 undef = .bool true := RA.dep 15 _ (by kernel_rfl) rfl
      cases ho
      obtain ⟨x1, y1, C1, f1, s1, l1, n1⟩ : LangV _ _ _ _ := e111
      have s1 := statesAt_le (Mem.wins_le (ds := [21]) (es := [21]) HO2.inn win (by simp)) s1
      refine wpOp_of2 rfl (wanted_yes rfl rfl e105) (wp_enter (by go_simp; first | done | rfl) (r05Same_any (.slice x1 C1.length y1) (.slice vaa A.length vac) C1 A _ wr (Mem.wins_inn HO2.inn win [21]) s1 (statesAt_le (Mem.le_wins HO2.inn win [21]) HA.out)) ?_)
      rintro e w' ⟨rfl, hb⟩
      exact ⟨_, rfl, _, rfl, hb, congrArg Value.bool ((tf_congr ((lang_eq_iff l1 (lang_of_sem hcA)).trans ⟨fun h x => by have h2 := h x; revert h2; cases Sem A x <;> cases Sem B x <;> simp, fun h x => by have h2 := h x; revert h2; cases Sem A x <;> cases Sem B x <;> simp⟩)).trans HBB.out)⟩
    · have e108 : a.tmps.getD 108 undef = .bool bb := RA.dep 18 _ (by kernel_rfl) rfl
      have e113 : a.tmps.getD 113 undef = .bool bb := RA.dep 23 _ (by kernel_rfl) rfl
      have e105 : a.tmps.getD 105 undef = .bool true := RA.dep 15 _ (by kernel_rfl) rfl
      cases ho
      refine wpOp_of2 rfl (wanted_yes rfl rfl e105) (wp_value (by go_simp; first | done | rfl) ⟨_, rfl, Below.refl _ _, rfl⟩)
    · have e105 : a.tmps.getD 105 undef = .bool true := RA.dep 15 _ (by kernel_rfl) rfl
      have e114 : a.tmps.getD 114 undef = .bool true := RA.dep 24 _ (by kernel_rfl) rfl
      cases ho
      refine wpOp_of rfl rfl (wp_value (by go_simp; first | done | rfl) ⟨_, rfl, Below.refl _ _, rfl⟩)
    · have e115 : a.tmps.getD 115 undef = .bool true := RA.dep 25 _ (by kernel_rfl) rfl
      cases ho
      refine wpOp_of rfl rfl (wp_value (by go_simp; first | done | rfl) ⟨_, rfl, Below.refl _ _, rfl⟩)
    · have e116 : a.tmps.getD 116 undef = .bool true := RA.dep 26 _ (by kernel_rfl) rfl
      cases ho
      refine wpOp_of2 rfl (wanted_yes rfl rfl e116) (wp_enter (by go_simp; first | done | rfl) (HW.out wr HO2.inn) ?_)
      rintro e w' ⟨rfl, hb⟩
      exact ⟨_, rfl, _, rfl, hb, rfl⟩
    · have e116 : a.tmps.getD 116 undef = .bool true := RA.dep 26 _ (by kernel_rfl) rfl
      have e117 : a.tmps.getD 117 undef = .bool true := RA.dep 27 _ (by kernel_rfl) rfl
      cases ho
      refine wpOp_of rfl rfl (wp_value (by go_simp; first | done | rfl) ⟨_, rfl, Below.refl _ _, rfl⟩)
    · have e118 : a.tmps.getD 118 undef = .bool true := RA.dep 28 _ (by kernel_rfl) rfl
      cases ho
      refine wpOp_of rfl rfl (wp_value (by go_simp; first | done | rfl) ⟨_, rfl, Below.refl _ _, rfl⟩)
  · intro win a wr E
    have e3 := (E.keep 3 (by kernel_rfl)).trans h3
    have e4 := (E.keep 4 (by kernel_rfl)).trans h4
    have e5 := (E.keep 5 (by kernel_rfl)).trans h5
    have e6 : a.tmps.getD 6 undef = .bool true := E.fact 29 _ (by omega) rfl
    obtain ⟨t, d⟩ := a
    obtain rfl : d = [] := E.defers
    refine wpAny_none (by kernel_rfl) (hX.out _ _ E.size ⟨?_, HO.out.dr.move E.below⟩) _
    simp only [List.map_cons, List.map_nil, e3, e4, e5, e6]
end Cl
namespace Cl
open Go Go.RowKit Go.Proofs

set_option maxRecDepth 100000 in
set_option maxHeartbeats 16000000 in
theorem LangAlgebra_any (u0 u1 u2 : Value) (A B C : Table) (m : Mem) (w : World) (hm : m.inn w) (htab : TabM m) (hA : statesAt m u0 A) (hB : statesAt m u1 B) (hC : statesAt m u2 C)
    (haw : ∀ w, m.inn w → Calls Tryd.prog 11 #[] w fun e w' => e = .returned (.bool true) ∧ Below w.heap.size w w') :
    Calls Tryd.prog 6 #[.agg #[u0], .agg #[u1], .agg #[u2]] w fun e w' => e = .returned (.bool true) ∧ Below w.heap.size w w' := by
  have hO := (((Own.start hm).al #[u0] 24).al #[u1] 24).al #[u2] 24
  have hsz0 : (w.alloc (.cells #[u0] 24)).heap.size = w.heap.size + 1 := by simp
  have hsz1 : ((w.alloc (.cells #[u0] 24)).alloc (.cells #[u1] 24)).heap.size = w.heap.size + 1 + 1 := by simp
  rw [hsz1, hsz0] at hO
  have HO := Lib.hid hO
  have HA := Lib.hid hA
  have HB := Lib.hid hB
  have HC := Lib.hid hC
  have HT := Lib.hid htab
  have HW := Lib.hid haw
  have HM := Lib.hid hm
  clear hO hsz0 hsz1 htab haw hm
  refine calls_hide fun R hR => ?_
  obtain ⟨vaa, vac, rfl, -⟩ := hA
  obtain ⟨vba, vbc, rfl, -⟩ := hB
  obtain ⟨vca, vcc, rfl, -⟩ := hC
  go_enter Tryd.func6, Tryd.ntmps6
  go_upto_region 1 with (fail)
  refine wp_cut_keep [3, 4, 5, 34] (fun vs w' => ∃ c : Bool, vs = [.pointer (some ⟨w.heap.size, 0, none⟩), .pointer (some ⟨w.heap.size + 1, 0, none⟩), .pointer (some ⟨w.heap.size + 1 + 1, 0, none⟩), .bool c] ∧
    Own w m w' m [.obj (w.heap.size + 1 + 1) 24 #[.slice vca C.length vcc], .obj (w.heap.size + 1) 24 #[.slice vba B.length vbc], .obj w.heap.size 24 #[.slice vaa A.length vac]] ∧ (c = false → SmallT A ∧ SmallT B ∧ SmallT C ∧ Canon A ∧ Canon B ∧ Canon C)) ?_ ?_
  · intro X hX
    have c1 := HO.out.third.obj.cell (i := 0) rfl
    have HB := Lib.hid (fun wr (hi : m.inn wr) => Small_any (.slice vaa A.length vac) A m wr hi HA.out)
    go_wp2_with fail
    refine (HB.out _ HO.out.inn).mono ?_
    rintro e w3 ⟨rfl, hb⟩
    have HO := Lib.hid (HO.out.move hb)
    clear HB hb c1
    by_cases h : SmallT A
    case neg =>
      rw [tf_false h]
      clear h
      go_wp2
      exact hX.out _ _ rfl ⟨true, rfl, HO.out, fun h => by cases h⟩
    rw [tf_true h]
    have HSA := Lib.hid h
    clear h
    have c1 := HO.out.swap.obj.cell (i := 0) rfl
    have HB := Lib.hid (fun wr (hi : m.inn wr) => Small_any (.slice vba B.length vbc) B m wr hi HB.out)
    go_wp2_with fail
    refine (HB.out _ HO.out.inn).mono ?_
    rintro e w4 ⟨rfl, hb⟩
    have HO := Lib.hid (HO.out.move hb)
    clear HB hb c1
    by_cases h : SmallT B
    case neg =>
      rw [tf_false h]
      clear h
      go_wp2
      exact hX.out _ _ rfl ⟨true, rfl, HO.out, fun h => by cases h⟩
    rw [tf_true h]
    have HSB := Lib.hid h
    clear h
    have c1 := HO.out.obj.cell (i := 0) rfl
    have HB := Lib.hid (fun wr (hi : m.inn wr) => Small_any (.slice vca C.length vcc) C m wr hi HC.out)
    go_wp2_with fail
    refine (HB.out _ HO.out.inn).mono ?_
    rintro e w5 ⟨rfl, hb⟩
    have HO := Lib.hid (HO.out.move hb)
    clear HB hb c1
    by_cases h : SmallT C
    case neg =>
      rw [tf_false h]
      clear h
      go_wp2
      exact hX.out _ _ rfl ⟨true, rfl, HO.out, fun h => by cases h⟩
    rw [tf_true h]
    have HSC := Lib.hid h
    clear h
    have c1 := HO.out.third.obj.cell (i := 0) rfl
    have HB := Lib.hid (fun wr (hi : m.inn wr) => r05Valid_any (.slice vaa A.length vac) A m wr hi HA.out (by have := HSA.out.2; omega))
    go_wp2_with fail
    refine (HB.out _ HO.out.inn).mono ?_
    rintro e w6 ⟨rfl, hb⟩
    have HO := Lib.hid (HO.out.move hb)
    clear HB hb c1
    by_cases h : Canon A
    case neg =>
      rw [tf_false h]
      clear h
      go_wp2
      exact hX.out _ _ rfl ⟨true, rfl, HO.out, fun h => by cases h⟩
    rw [tf_true h]
    have HCA := Lib.hid h
    clear h
    have c1 := HO.out.swap.obj.cell (i := 0) rfl
    have HB := Lib.hid (fun wr (hi : m.inn wr) => r05Valid_any (.slice vba B.length vbc) B m wr hi HB.out (by have := HSB.out.2; omega))
    go_wp2_with fail
    refine (HB.out _ HO.out.inn).mono ?_
    rintro e w7 ⟨rfl, hb⟩
    have HO := Lib.hid (HO.out.move hb)
    clear HB hb c1
    by_cases h : Canon B
    case neg =>
      rw [tf_false h]
      clear h
      go_wp2
      exact hX.out _ _ rfl ⟨true, rfl, HO.out, fun h => by cases h⟩
    rw [tf_true h]
    have HCB := Lib.hid h
    clear h
    have c1 := HO.out.obj.cell (i := 0) rfl
    have HB := Lib.hid (fun wr (hi : m.inn wr) => r05Valid_any (.slice vca C.length vcc) C m wr hi HC.out (by have := HSC.out.2; omega))
    go_wp2_with fail
    refine (HB.out _ HO.out.inn).mono ?_
    rintro e w8 ⟨rfl, hb⟩
    have HO := Lib.hid (HO.out.move hb)
    clear HB hb c1
    by_cases h : Canon C
    case neg =>
      rw [tf_false h]
      clear h
      go_wp2
      exact hX.out _ _ rfl ⟨true, rfl, HO.out, fun h => by cases h⟩
    rw [tf_true h]
    have HCC := Lib.hid h
    clear h
    go_wp2
    exact hX.out _ _ rfl ⟨false, rfl, HO.out, fun _ => ⟨HSA.out, HSB.out, HSC.out, HCA.out, HCB.out, HCC.out⟩⟩
  rintro z vs w1 - ⟨c, rfl, hO, hc⟩
  simp [litL, lk]
  clear HO
  cases c with
  | true =>
    have HO := Lib.hid hO
    clear hO hc
    go_wp2_with fail
    refine (HW.out _ HO.out.inn).mono ?_
    rintro e w2 ⟨rfl, hb⟩
    have HO := Lib.hid (HO.out.move hb)
    clear hb
    go_wp2
    exact hR.out _ _ ⟨rfl, HO.out.below⟩
  | false =>
    obtain ⟨hsA, hsB, hsC, hcA, hcB, hcC⟩ := hc rfl
    have HO := Lib.hid hO
    clear hO hc
    go_wp2
    refine wp_cut_keep [3, 4, 5, 59] (fun vs w' => vs = [.pointer (some ⟨w.heap.size, 0, none⟩), .pointer (some ⟨w.heap.size + 1, 0, none⟩), .pointer (some ⟨w.heap.size + 1 + 1, 0, none⟩), .bool false] ∧ Own w m w' m [.obj (w.heap.size + 1 + 1) 24 #[.slice vca C.length vcc], .obj (w.heap.size + 1) 24 #[.slice vba B.length vbc], .obj w.heap.size 24 #[.slice vaa A.length vac]]) ?_ ?_
    · intro X hX
      exact LangAlgebra_r3 _ rfl rfl rfl rfl HT HA HB HC hsA hsB hsC hcA hcB hcC HO hX
    rintro z' vs w2 - ⟨rfl, hO⟩
    simp [litL, lk]
    clear HO
    have HO := Lib.hid hO
    clear hO
    go_wp2
    refine wp_cut_keep [3, 4, 5, 89] (fun vs w' => vs = [.pointer (some ⟨w.heap.size, 0, none⟩), .pointer (some ⟨w.heap.size + 1, 0, none⟩), .pointer (some ⟨w.heap.size + 1 + 1, 0, none⟩), .bool false] ∧ Own w m w' m [.obj (w.heap.size + 1 + 1) 24 #[.slice vca C.length vcc], .obj (w.heap.size + 1) 24 #[.slice vba B.length vbc], .obj w.heap.size 24 #[.slice vaa A.length vac]]) ?_ ?_
    · intro X hX
      exact LangAlgebra_r5 _ rfl rfl rfl rfl HT HA HB HC hsA hsB hsC hcA hcB hcC HO hX
    rintro z' vs w2 - ⟨rfl, hO⟩
    simp [litL, lk]
    clear HO
    have HO := Lib.hid hO
    clear hO
    obtain ⟨bb, hbb⟩ : ∃ b, tf (∀ x, (Sem A x && !Sem B x) = false) = b := ⟨_, rfl⟩
    have HBB := Lib.hid hbb
    clear hbb
    have hF0 : Fits A B := Fits.of hsA.2 hsB.2 (by decide)
    go_wp2
    refine wp_cut_keep [3, 4, 5, 6] (fun vs w' => vs = [.pointer (some ⟨w.heap.size, 0, none⟩), .pointer (some ⟨w.heap.size + 1, 0, none⟩), .pointer (some ⟨w.heap.size + 1 + 1, 0, none⟩), .bool true] ∧ Own w m w' m [.obj (w.heap.size + 1 + 1) 24 #[.slice vca C.length vcc], .obj (w.heap.size + 1) 24 #[.slice vba B.length vbc], .obj w.heap.size 24 #[.slice vaa A.length vac]]) ?_ ?_
    · intro X hX
      exact LangAlgebra_r7 _ rfl rfl rfl rfl HT HA HB HC hsA hsB hsC hcA hcB hcC HW HBB hF0 HO hX
    rintro z' vs w2 - ⟨rfl, hO⟩
    simp [litL, lk]
    clear HO
    have HO := Lib.hid hO
    clear hO
    go_wp2
    exact hR.out _ _ ⟨rfl, HO.out.below⟩
end Cl
namespace Go.Proofs.YtaolacbikbllcaaDoor.langAlgebra
open Go Go.RowKit Go.Proofs Go.ChangeShapes Go.WideShapes Go.ChangeAt Cl

set_option maxRecDepth 100000 in
theorem contract (H : Type) (enc : TypeId × Value → H) (W : World) (base : Nat) (args : Array Value) (ds gs : List (DataW H)) (before : List MemPlace)
    (hval0 : ∀ (j : Nat) t v, Tryd.f6.params[j]? = some t → args[j]? = some v → Value.okWide Tryd.prog W .any base t v)
    (hW : DataW.Whole enc Tryd.prog Tryd.f6.params.toList Rows.langAlgebraSpec.vars false W args.toList ds gs before) (hL : laidMetH Tryd.prog seatLaid W) :
    Calls Tryd.prog 6 args W fun e W' => ∃ v, e = .returned v ∧ Rows.langAlgebraSpec.post enc Tryd.prog Tryd.f6 false true false false W args v W' := by
  have hval := hval0
  have hW' := hW
  obtain ⟨p, q, hA0, hV, rfl, hfz, hnd⟩ := hW
  have hA : DataW.TrodAll enc Tryd.prog W 0 (fun _ => true) true Tryd.f6.params.toList args.toList ds p := hA0
  rw [Tryd.params6] at hA hval
  obtain ⟨v0, v1, v2, d0, d1, d2, p0, p1, p2, rfl, rfl, rfl, h0, h1, h2⟩ := trodAll_three hA
  obtain ⟨rfl, rfl⟩ := trodVars_none hV
  obtain ⟨u0, A0, rfl, hT0⟩ := lang_open (hval 0 _ _ rfl rfl) h0
  obtain ⟨u1, A1, rfl, hT1⟩ := lang_open (hval 1 _ _ rfl rfl) h1
  obtain ⟨u2, A2, rfl, hT2⟩ := lang_open (hval 2 _ _ rfl rfl) h2
  refine (LangAlgebra_any u0 u1 u2 A0 A1 A2 (Mem.of W) W (Mem.of_inn W) (seat_tab hL) hT0 hT1 hT2 (fun w hw => awake_any (Mem.of W) w hw (seat_tab hL))).mono fun e W' ⟨he, hb⟩ => ?_
  subst he
  exact ⟨_, rfl, law_post rfl (by kernel_rfl) (by kernel_rfl) rfl hW' hb⟩

theorem laid_met (os : Os) : laidMet Tryd.prog Rows.langAlgebraRow.laid ((laidWorld os).forCall (fun _ _ => 0) ⟨#[], #[.agg #[.slice none 0 0], .agg #[.slice none 0 0], .agg #[.slice none 0 0]], []⟩).memory :=
  laidMet_of_run' 8 (by kernel_rfl) (by kernel_rfl)
theorem reads (os : Os) {H : Type} (enc : TypeId × Value → H) : ∃ places, DataW.whole enc Tryd.prog ((laidWorld os).forCall (fun _ _ => 0) ⟨#[], #[.agg #[.slice none 0 0], .agg #[.slice none 0 0], .agg #[.slice none 0 0]], []⟩).memory Tryd.f6.params.toList Rows.langAlgebraSpec.vars false #[Value.agg #[.slice none 0 0], Value.agg #[.slice none 0 0], Value.agg #[.slice none 0 0]].toList 8 = some ([.agg [.nil], .agg [.nil], .agg [.nil]], [], places) :=
  ⟨[], by kernel_rfl⟩

set_option maxRecDepth 100000 in
theorem lifted (os : Os) (started : os.Started) (H : Type) (enc : TypeId × Value → H) (F : Stop.Interp) :
    ReturnsInHanded {} Tryd.checked os 6 .any ((OpenSpec.ofChange Rows.langAlgebraSpec).preRow enc Tryd.prog Tryd.f6 Rows.langAlgebraRow.domain false Rows.langAlgebraRow.laid) (((OpenSpec.ofChange Rows.langAlgebraSpec).at F).post enc Tryd.prog Tryd.f6 false true false false) := by
  obtain ⟨places, hx⟩ := reads os enc
  refine returnsInHanded_of_row (C := Tryd.checked) (s := OpenSpec.ofChange Rows.langAlgebraSpec) seat_own started (by kernel_rfl) Tryd.func6
    (witness_row_at (enc := enc) (C := Tryd.checked) false (laidWorld os) #[.agg #[.slice none 0 0], .agg #[.slice none 0 0], .agg #[.slice none 0 0]] rfl (by kernel_rfl) (by kernel_rfl) (by kernel_rfl)
      (OpenSpec.preRow_of_cond 8 hx (by kernel_rfl) (fun k hk => by cases hk) (by kernel_rfl) (laid_met os))) ?_
  intro W base args ds gs before hval hW _ _ _ hL _ _
  exact contract H enc W base args ds gs before hval hW hL

theorem said : Rows.LangAlgebraSaid :=
  OpenClaim.holds_of_cond 6 Tryd.f6 rfl rfl rfl rfl rfl rfl rfl ⟨rfl, rfl, rfl, rfl, rfl⟩ rfl rfl rfl rfl rfl (by kernel_rfl) Tryd.func6 (by kernel_rfl)
    (of_decide_eq_true (by kernel_rfl)) (by unfold Func.isWrapper; first | (rw [if_pos (by decide +kernel)]; kernel_rfl) | (rw [if_neg (by decide +kernel)]; exact ⟨rfl, rfl⟩))
    (fun os started H enc _ F => by rw [OpenClaim.pre_eq_preRow]; exact lifted os started H enc F)

theorem plain (f : FuncId) (fn : Func) (hf : Tryd.pinned.checked.prog.funcNamed "configlang/configlanglaw06.LangAlgebra" = some f) (hfn : Tryd.pinned.checked.prog.funcs[f]? = some fn) :
    false = Tryd.pinned.checked.prog.looks [] ∧ ∀ (j : Nat) t, fn.params[j]? = some t → Tryd.pinned.checked.prog.wantsStandIn t = false := by
  obtain rfl : f = 6 := Option.some.inj ((show Tryd.prog.funcNamed "configlang/configlanglaw06.LangAlgebra" = some 6 by kernel_rfl).symm.trans hf) |>.symm
  obtain rfl : fn = Tryd.f6 := (Option.some.inj (Tryd.func6.symm.trans hfn)).symm
  refine ⟨by kernel_rfl, fun j t ht => ?_⟩
  have hall : Tryd.f6.params.all (fun t => !Tryd.prog.wantsStandIn t) = true := by kernel_rfl
  have := Array.all_eq_true_iff_forall_mem.1 hall t (Array.mem_of_getElem? ht)
  show Tryd.prog.wantsStandIn t = false
  simpa using this

theorem langAlgebra_holds : Rows.LangAlgebraCardSaid :=
  Claim7.holds_tied_plain_at .later [] _ _ _ _ said (fun _ h => by cases h) (by kernel_rfl) (fun _ h => by cases h) langAlgebra_row_tie rfl ⟨rfl, rfl⟩ (by kernel_rfl) rfl plain (by kernel_rfl)
end Go.Proofs.YtaolacbikbllcaaDoor.langAlgebra

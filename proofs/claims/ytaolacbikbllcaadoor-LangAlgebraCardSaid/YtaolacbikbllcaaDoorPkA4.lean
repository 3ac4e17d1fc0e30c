/- Lemmas for the proofs: WalkN, WalkO, Region, WalkE, WalkP. -/
import Derived.WalkKit
import Derived.OrdersHeld
import Derived.Deep.RegionHeld
import Derived.Test.YtaolacbikbllcaaDoorPkA2
import Derived.Test.YtaolacbikbllcaaDoorPkA3
import Derived.Test.YtaolacbikbllcaaDoorPkA1
namespace Cl
open Go Go.RowKit Go.Proofs

/-- the text of a list of numbers -/
def txt (l : List Int) : List UInt8 := l.flatMap fun x => 44 :: Lib.itoa x
def sigTxt (l : List Int) : List UInt8 := (txt l).tail
def digVal (l : List UInt8) : Nat := l.foldl (fun a c => a * 10 + (c.toNat - 48)) 0
theorem dec_spec (u : Nat) : digVal (Lib.decDigits u) = u ∧ ∀ c ∈ Lib.decDigits u, c ≠ 44 := by
  induction u using Nat.strongRecOn with
  | _ u ih =>
    by_cases h : u < 10
    · rw [Lib.decDigits, dif_pos h]
      have : (UInt8.ofNat (48 + u)).toNat = 48 + u := by simp; omega
      refine ⟨by simp only [digVal, List.foldl]; omega, fun c hc e => ?_⟩
      simp only [List.mem_singleton] at hc
      subst hc
      rw [e] at this
      have h44 : (44 : UInt8).toNat = 44 := rfl
      omega
    · rw [Lib.decDigits, dif_neg h]
      have hv := ih (u / 10) (by omega)
      have : (UInt8.ofNat (48 + u % 10)).toNat = 48 + u % 10 := by simp; omega
      refine ⟨?_, fun c hc e => ?_⟩
      · unfold digVal at hv ⊢
        rw [List.foldl_append, hv.1]
        simp only [List.foldl]
        omega
      · rcases List.mem_append.1 hc with h1 | h1
        · exact hv.2 c h1 e
        · simp only [List.mem_singleton] at h1
          subst h1
          rw [e] at this
          have h44 : (44 : UInt8).toNat = 44 := rfl
          omega
theorem itoa_spec {x : Int} (h : 0 ≤ x) : digVal (Lib.itoa x) = x.toNat ∧ ∀ c ∈ Lib.itoa x, c ≠ 44 := by
  unfold Lib.itoa
  rw [if_neg (by omega)]
  exact dec_spec x.toNat
theorem split44 : ∀ (a a' r r' : List UInt8), (∀ c ∈ a, c ≠ 44) → (∀ c ∈ a', c ≠ 44) → (r = [] ∨ ∃ t, r = 44 :: t) → (r' = [] ∨ ∃ t, r' = 44 :: t) → a ++ r = a' ++ r' → a = a' ∧ r = r' := by
  intro a
  induction a with
  | nil =>
    intro a' r r' _ h2 h3 h4 e
    cases a' with
    | nil => exact ⟨rfl, by simpa using e⟩
    | cons c a' =>
      exfalso
      rcases h3 with rfl | ⟨t, rfl⟩
      · simp at e
      · simp at e; exact h2 c (by simp) e.1.symm
  | cons c a ih =>
    intro a' r r' h1 h2 h3 h4 e
    cases a' with
    | nil =>
      exfalso
      rcases h4 with rfl | ⟨t, rfl⟩
      · simp at e
      · simp at e; exact h1 c (by simp) e.1
    | cons d a' =>
      simp only [List.cons_append, List.cons.injEq] at e
      obtain ⟨e1, e2⟩ := ih a' r r' (fun x hx => h1 x (by simp [hx])) (fun x hx => h2 x (by simp [hx])) h3 h4 e.2
      exact ⟨by rw [e.1, e1], e2⟩
theorem txt_form (l : List Int) : txt l = [] ∨ ∃ t, txt l = 44 :: t := by
  cases l with
  | nil => exact .inl rfl
  | cons x l => exact .inr ⟨Lib.itoa x ++ txt l, by simp [txt]⟩
theorem txt_inj : ∀ (l l' : List Int), (∀ x ∈ l, 0 ≤ x) → (∀ x ∈ l', 0 ≤ x) → txt l = txt l' → l = l' := by
  intro l
  induction l with
  | nil =>
    intro l' _ _ e
    cases l' with
    | nil => rfl
    | cons x l' => simp [txt] at e
  | cons x l ih =>
    intro l' h1 h2 e
    cases l' with
    | nil => simp [txt] at e
    | cons y l' =>
      have e : 44 :: (Lib.itoa x ++ txt l) = 44 :: (Lib.itoa y ++ txt l') := by simpa [txt] using e
      simp only [List.cons.injEq, true_and] at e
      have hx := itoa_spec (h1 x (by simp))
      have hy := itoa_spec (h2 y (by simp))
      obtain ⟨e1, e2⟩ := split44 _ _ _ _ hx.2 hy.2 (txt_form l) (txt_form l') e
      have hxy : x = y := by
        have a := h1 x (by simp)
        have b := h2 y (by simp)
        have := hx.1.symm.trans ((congrArg digVal e1).trans hy.1)
        omega
      rw [hxy, ih l' (fun z hz => h1 z (by simp [hz])) (fun z hz => h2 z (by simp [hz])) e2]
theorem sigTxt_inj {l l' : List Int} (hl : l ≠ []) (hl' : l' ≠ []) (h1 : ∀ x ∈ l, 0 ≤ x) (h2 : ∀ x ∈ l', 0 ≤ x) (e : sigTxt l = sigTxt l') : l = l' := by
  apply txt_inj l l' h1 h2
  cases l with
  | nil => exact absurd rfl hl
  | cons x l =>
    cases l' with
    | nil => exact absurd rfl hl'
    | cons y l' =>
      have a : txt (x :: l) = 44 :: sigTxt (x :: l) := by simp [sigTxt, txt]
      have b : txt (y :: l') = 44 :: sigTxt (y :: l') := by simp [sigTxt, txt]
      rw [a, b, e]
theorem sigTxt_snoc (x y : Int) (l : List Int) : sigTxt (x :: (l ++ [y])) = sigTxt (x :: l) ++ 44 :: Lib.itoa y := by simp [sigTxt, txt]
theorem sigTxt_one (x : Int) : sigTxt [x] = Lib.itoa x := by simp [sigTxt, txt]

theorem strCells_mk (l : List UInt8) : Lib.strCells ⟨l.toArray⟩ = Lib.byteCells l := by simp [Lib.strCells, Lib.byteCells]
theorem byteCells_app (a b : List UInt8) : Lib.byteCells (a ++ b) = Lib.byteCells a ++ Lib.byteCells b := by simp [Lib.byteCells]
theorem grow_below (w : World) (k : Nat) (os : Array Obj) : Below w.heap.size w (Sort.grow (w.drewN k) os) := by
  refine (below_drewN (Below.refl _ w) k).trans ⟨rfl, rfl, rfl, ?_, fun j hj => ?_⟩
  · simp [Sort.grow]
  · show (w.heap ++ os)[j]? = w.heap[j]?
    exact Array.getElem?_append_left hj
theorem sigTxt_len (l : List Int) (h : ∀ x ∈ l, 0 ≤ x ∧ x ≤ 9223372036854775807) : (sigTxt l).length ≤ 22 * l.length := by
  have : (txt l).length ≤ 22 * l.length := by
    induction l with
    | nil => simp [txt]
    | cons x l ih =>
      have h1 := Lib.itoa_length_le x (by have := h x (by simp); omega) (h x (by simp)).2
      have h2 := ih fun y hy => h y (by simp [hy])
      simp only [txt, List.flatMap_cons, List.length_append, List.length_cons] at h2 ⊢
      omega
  unfold sigTxt
  rw [List.length_tail]
  omega

theorem row_move {B : Nat} {w w' : World} {e : TypeId} {v : Value} {n : Nat} {xs : List Value} (h : w.ownsRow B e 1 v n xs) (hb : Below w.heap.size w w') : w'.ownsRow B e 1 v n xs := by
  obtain ⟨h1, h2⟩ := h
  refine ⟨h1, ?_⟩
  rcases h2 with h2 | ⟨g, cap, cur, hv, hg, hh, r⟩
  · exact .inl h2
  · exact .inr ⟨g, cap, cur, hv, hg, by rw [hb.block g (Array.getElem?_eq_some_iff.1 hh).1]; exact hh, r⟩
theorem builder_move {T e : TypeId} {B b : Nat} {p : Value} {bs : List Value} {w w' : World} (h : Lib.BuilderAt T e B b p bs w) (hb : Below w.heap.size w w') : Lib.BuilderAt T e B b p bs w' := by
  obtain ⟨h1, v, h2, h3, h4⟩ := h
  exact ⟨h1, v, by rw [hb.block b (Array.getElem?_eq_some_iff.1 h2).1]; exact h2, row_move h3 hb, h4⟩

theorem Itoa_any (n : Int) (h : -9223372036854775808 ≤ n ∧ n ≤ 9223372036854775807) (m : Mem) (w : World) (hm : m.inn w) (htab : TabM m) :
    Calls Tryd.prog 98 #[.int .i64 n] w fun e w' => e = .returned (.string ⟨(Lib.itoa n).toArray⟩) ∧ Below w.heap.size w w' := by
  refine (Tryd.strconv_Itoa n h.1 h.2 w (htab.get w hm)).mono ?_
  rintro e w' ⟨rfl, k, os, rfl⟩
  exact ⟨rfl, grow_below w k os⟩

set_option maxRecDepth 100000 in
set_option maxHeartbeats 2000000 in
theorem signature_any (g s : Nat) (vc vn va vk : Value) (next : List (List Int)) (cls : List Int) (m : Mem) (w : World) (hm : m.inn w) (htab : TabM m) (hg : ObjAt w g 105 #[vc, vn, va, vk])
    (hn : intssAt m vn next) (hk : intsAt m vk cls) (hs : s < next.length) (hsk : s < cls.length) (hkr : ∀ x ∈ cls, 0 ≤ x) (hnr : ∀ x ∈ next[s], 0 ≤ x ∧ x < cls.length) (hlen : next[s].length ≤ 1000) :
    Calls Tryd.prog 90 #[.pointer (some ⟨g, 0, none⟩), .int .i64 s] w fun e w' => e = .returned (.string ⟨(sigTxt (cls.getD s 0 :: next[s].map fun x => cls.getD x.toNat 0)).toArray⟩) ∧ Below w.heap.size w w' := by
  have ecs : cls.getD s 0 = cls[s] := by simp [hsk]
  rw [ecs]
  clear ecs
  obtain ⟨na, nc, rfl, n1, n2, n3⟩ := hn
  obtain ⟨ka, kc, rfl, k1, k2, k3⟩ := hk
  obtain ⟨nb, no, rfl, n4⟩ := n3 (by intro h; simp [h] at hs)
  obtain ⟨kb, ko, rfl, k4⟩ := k3 (by intro h; simp [h] at hsk)
  obtain ⟨u, c1, ra, rc, rfl, r1, r2, r3⟩ := n4 s hs
  have c2 := k4 s hsk
  have hcs := hkr cls[s] (List.getElem_mem hsk)
  unfold maxLen at n2 k2 r2
  have hgl := hg.lt
  have Hrow : ∀ i (h : i < next[s].length), ∃ xn : Nat, next[s][i] = xn ∧ xn < cls.length := fun i h => by
    have := hnr next[s][i] (List.getElem_mem h)
    exact ⟨next[s][i].toNat, by omega, by omega⟩
  generalize next[s] = row at *
  generalize hx0 : cls[s] = x0 at *
  have hbnd : ∀ x ∈ x0 :: row.map (fun x => cls.getD x.toNat 0), 0 ≤ x ∧ x ≤ 9223372036854775807 := by
    intro x hx
    rcases List.mem_cons.1 hx with rfl | hx
    · exact ⟨hcs, c2.2.2⟩
    · obtain ⟨y, hy, rfl⟩ := List.mem_map.1 hx
      have := hnr y hy
      have hl : y.toNat < cls.length := by omega
      simp only [List.getD_eq_getElem?_getD, hl, List.getElem?_eq_getElem, Option.getD_some]
      exact ⟨hkr _ (List.getElem_mem hl), (k4 _ hl).2.2⟩
  refine calls_hide fun R hR => ?_
  have hB0 : Lib.BuilderAt 118 5 w.heap.size w.heap.size (.pointer none) (Lib.byteCells []) (w.alloc (.cells #[.pointer none, .slice none 0 0] 118)) := by
    refine ⟨Nat.le_refl _, .slice none 0 0, (ObjAt.new _ _ _).get, ?_, by simp [Value.ownBlock]⟩
    exact World.ownsRow_nil _ _ _ _
  have hbel0 := (Below.refl _ w).alloc (Nat.le_refl _) (.cells #[.pointer none, .slice none 0 0] 118)
  have h0 := hg.al (.cells #[.pointer none, .slice none 0 0] 118)
  have p3 := h0.cell (i := 3) rfl
  have p1 := h0.cell (i := 1) rfl
  have hm1 := Mem.inn_below hm hbel0
  have p4 := Mem.cell_w hm1 c2.1
  have Hb := Lib.hid (And.intro hB0 (And.intro hbel0 hm1))
  clear hB0 hbel0 h0 hm1
  go_enter Tryd.func90, Tryd.ntmps90
  go_wp2_with fail
  refine (Itoa_any _ c2.2 m _ Hb.out.2.2 htab).mono ?_
  rintro e w2 ⟨rfl, hb2⟩
  have hB1 : Lib.IsBuilder 118 5 w.heap.size w.heap.size (Lib.byteCells []) w2 := .inl (builder_move Hb.out.1 hb2)
  have hb3 := Hb.out.2.1.trans (hb2.mono (by simp))
  have hl1 := Lib.itoa_length_le x0 (by omega) c2.2.2
  go_wp2_with fail
  refine (WriteString_any w.heap.size w.heap.size _ _ _ hB1 (by simp [Lib.byteCells, ByteArray.size]; omega) hb3.size).mono ?_
  rintro e w4 ⟨rfl, hB4, hb4⟩
  have hb5 := hb3.trans hb4
  rw [strCells_mk, ← byteCells_app, List.nil_append, ← sigTxt_one] at hB4
  have hc3 := (hg.below hb5 hgl).cell (i := 3) rfl
  have hc1 := (hg.below hb5 hgl).cell (i := 1) rfl
  have hc5 := Mem.cell_w (Mem.inn_below hm hb5) c1
  have Hk := Lib.hid (And.intro hB4 (And.intro hb5 hbnd))
  clear Hb hb2 hB1 hb3 hl1 hB4 hb4 hb5 p3 p1 p4 hbnd
  go_wp2
  refine wp_loop_keep [0, 1, 5, 23, 24, 25] (fun n vs wr => ∃ j : Nat, j ≤ row.length ∧ n = row.length - j ∧
    vs = [.pointer (some ⟨g, 0, none⟩), .int .i64 s, .pointer (some ⟨w.heap.size, 0, none⟩), .slice ra row.length rc, .int .i64 row.length, .int .i64 j] ∧
    Lib.BuilderAt 118 5 w.heap.size w.heap.size (.pointer (some ⟨w.heap.size, 0, none⟩)) (Lib.byteCells (sigTxt (x0 :: (row.take j).map fun x => cls.getD x.toNat 0))) wr ∧ Below w.heap.size w wr) ?_ ?_
  · exact ⟨_, 0, Nat.zero_le _, rfl, rfl, by simpa using Hk.out.1, Hk.out.2.1⟩
  clear hc3 hc1 hc5
  rintro X z n vs wr hX - ⟨j, hj, rfl, rfl, hB, hbel⟩
  simp [litL, lk]
  have hbnd := Hk.out.2.2
  by_cases hlt : j < row.length
  · obtain ⟨rb, ro, rfl, r4⟩ := r3 (by intro h; simp [h] at hlt)
    have hmr := Mem.inn_below hm hbel
    have d1 := Mem.cell_w hmr (r4 j hlt).1
    obtain ⟨xn, hxn, hxl⟩ := Hrow j hlt
    have d2 := k4 xn hxl
    have d2w := Mem.cell_w hmr d2.1
    have hc3 := (hg.below hbel hgl).cell (i := 3) rfl
    have htk := List.take_succ_eq_append_getElem hlt
    have hst : sigTxt (x0 :: (row.take (j + 1)).map fun x => cls.getD x.toNat 0) = sigTxt (x0 :: (row.take j).map fun x => cls.getD x.toNat 0) ++ 44 :: Lib.itoa cls[xn] := by
      rw [htk, List.map_append, hxn]
      have : cls.getD ((xn : Int).toNat) 0 = cls[xn] := by simp [hxl]
      rw [List.map_cons, this, List.map_nil, sigTxt_snoc]
    have hlen2 : (sigTxt (x0 :: (row.take j).map fun x => cls.getD x.toNat 0)).length ≤ 22 * 1001 := by
      refine Nat.le_trans (sigTxt_len _ fun x hx => hbnd x ?_) ?_
      · rcases List.mem_cons.1 hx with rfl | hx
        · simp
        · obtain ⟨y, hy, rfl⟩ := List.mem_map.1 hx
          exact List.mem_cons_of_mem _ (List.mem_map.2 ⟨y, List.mem_of_mem_take hy, rfl⟩)
      · simp; omega
    rw [hxn] at d1
    have hl1 := Lib.itoa_length_le cls[xn] d2.2.1 d2.2.2
    have HS := Lib.hid hst
    clear hst htk hxn
    generalize sigTxt (x0 :: (row.take j).map fun x => cls.getD x.toNat 0) = tx at *
    have Hk2 := Lib.hid (And.intro hB (And.intro hbel hmr))
    clear hB hmr
    generalize cls[xn] = y at *
    go_wp2_with fail
    refine (Itoa_any _ d2.2 m _ Hk2.out.2.2 htab).mono ?_
    rintro e w2 ⟨rfl, hb2⟩
    have hB1 : Lib.IsBuilder 118 5 w.heap.size w.heap.size (Lib.byteCells tx) w2 := .inr (builder_move Hk2.out.1 hb2)
    have hb3 := hbel.trans (hb2.mono hbel.size)
    go_wp2_with fail
    refine (WriteString_any w.heap.size w.heap.size _ _ _ hB1 (by simp [Lib.byteCells, ByteArray.size]; omega) hb3.size).mono ?_
    rintro e w4 ⟨rfl, hB4, hb4⟩
    have e4 : ∀ l : List UInt8, Lib.strCells ((⟨#[44]⟩ : ByteArray) ++ (⟨l.toArray⟩ : ByteArray)) = Lib.byteCells (44 :: l) := fun l => by
      simp [Lib.strCells, Lib.byteCells]
    rw [e4, ← byteCells_app, ← HS.out] at hB4
    have hb5 := hb3.trans hb4
    have Hk3 := Lib.hid (And.intro hB4 hb5)
    clear hB4 hb4 hb5 hb3 hb2 hB1 hlen2 hl1 e4 hc3 d1 d2w
    go_wp2
    exact hX.out _ _ _ (by omega) rfl ⟨j + 1, by omega, rfl, rfl, Hk3.out.1, Hk3.out.2⟩
  · obtain rfl : j = row.length := by omega
    rw [List.take_length] at hB
    have Hk2 := Lib.hid (And.intro hB hbel)
    clear hB hbel hbnd
    go_wp2_with fail
    refine (Tryd.Builder_String_any w.heap.size w.heap.size _ _ (.inr Hk2.out.1) Hk2.out.2.size).mono ?_
    rintro e w5 ⟨rfl, hb⟩
    go_wp2
    exact hR.out _ _ ⟨rfl, Hk2.out.2.trans hb⟩
end Cl
namespace Cl
open Go Go.RowKit Go.Proofs

def taN (next : List (List Int)) (s i : Nat) : Int := (nx next s).getD i 0
theorem sig_eq {next : List (List Int)} {cls : List Int} {K s : Nat} (hs : s < next.length) (hK : next[s].length = K) (hr : ∀ x ∈ next[s], 0 ≤ x) (_ : s < cls.length) :
    sig cls (taN next) K s = cls.getD s 0 :: next[s].map fun x => cls.getD x.toNat 0 := by
  unfold sig taN nx
  have e1 : next.getD s [] = next[s] := by simp [hs]
  rw [e1]
  congr 1
  apply List.ext_getElem
  · simp [hK]
  · intro i h1 h2
    have hi : i < next[s].length := by simpa using h2
    have h0 := hr _ (List.getElem_mem hi)
    simp only [List.getElem_map, List.getElem_range]
    have e3 : next[s].getD i 0 = next[s][i] := by simp [hi]
    rw [e3]
    unfold clsOf
    rw [if_neg (by omega)]

/-- the map of the texts seen -/
def MapNum (f : Lit → Option Int) (sn : List (List Int)) : Prop :=
  ∀ l, l ≠ [] → (∀ x ∈ l, 0 ≤ x) → f (.string (sigTxt l)) = if sn.findIdx (· == l) < sn.length then some ((sn.findIdx (· == l) : Nat) : Int) else none
theorem mapNum_nil : MapNum (fun _ => none) [] := fun l _ _ => by simp
theorem mapNum_put {f : Lit → Option Int} {sn : List (List Int)} (h : MapNum f sn) {x : List Int} (hx : x ≠ []) (hx0 : ∀ y ∈ x, 0 ≤ y) (hn : ¬ sn.findIdx (· == x) < sn.length) :
    MapNum (fput f (.string (sigTxt x)) sn.length) (sn ++ [x]) := by
  intro l hl hl0
  by_cases c : l = x
  · subst c
    rw [fput_same, List.findIdx_append, if_neg hn]
    simp [List.findIdx_cons]
  · have hne : Lit.string (sigTxt l) ≠ Lit.string (sigTxt x) := fun e => c (sigTxt_inj hl hx hl0 hx0 (by simpa using e))
    rw [fput_other f _ hne, h l hl hl0, List.findIdx_append]
    by_cases d : sn.findIdx (· == l) < sn.length
    · rw [if_pos d, if_pos d, if_pos (by simp; omega)]
    · have hxl : ¬ (x == l) = true := by simpa using fun e => c (Eq.symm e)
      rw [if_neg d, if_neg d, if_neg]
      simp [List.findIdx_cons, hxl]
      omega
theorem numTo_succ (f : Nat → List Int) (k : Nat) : numTo f (k + 1) = (if (numTo f k).1.findIdx (· == f k) < (numTo f k).1.length then (numTo f k).1 else (numTo f k).1 ++ [f k], (numTo f k).2 ++ [((numTo f k).1.findIdx (· == f k) : Int)]) := rfl

/-- numbers so far, and zeros -/
def fillRow (nx : List Int) (r : Nat) : List Value := (nx ++ List.replicate r 0).map (Value.int .i64)
theorem fillRow_get {nx : List Int} {r k : Nat} (h : nx.length = k) (hr : 0 < r) : (fillRow nx r)[k]? = some (.int .i64 0) := by
  unfold fillRow
  rw [List.getElem?_map, List.getElem?_append_right (by omega)]
  simp [h, hr]
theorem fillRow_set {nx : List Int} {r k : Nat} (h : nx.length = k) (hr : 0 < r) (x : Int) : (fillRow nx r).set k (.int .i64 x) = fillRow (nx ++ [x]) (r - 1) := by
  unfold fillRow
  obtain ⟨q, rfl⟩ : ∃ q, r = q + 1 := ⟨r - 1, by omega⟩
  rw [List.map_append, List.set_append_right _ _ (by simp; omega), List.map_append, List.map_append]
  simp [h, List.replicate_succ]
theorem fillRow_all (nx : List Int) : fillRow nx 0 = nx.map (Value.int .i64) := by simp [fillRow]
theorem fillRow_zero (n : Nat) : List.replicate n (Value.int .i64 0) = fillRow [] n := by simp [fillRow]

/-- what the tables of a complete automaton tell -/
def b2i (b : Bool) : Int := if b = true then 1 else 0
theorem fillRow_b2i {acc : List Bool} {k N : Nat} (h : k < acc.length) (hN : acc.length = N) :
    fillRow ((acc.take (k + 1)).map b2i) (N - (k + 1)) = (fillRow ((acc.take k).map b2i) (N - k)).set k (.int .i64 (b2i acc[k])) := by
  rw [fillRow_set (by simp; omega) (by omega), List.take_succ_eq_append_getElem h, List.map_append]
  rfl
structure CompHyp (T : Table) (cuts : List Int) (next : List (List Int)) (acc : List Bool) (lo hi : Nat → Nat) : Prop where
  ta : TaHyp T next.length lo hi cuts.length (taN next)
  accs : ∀ s, s < next.length → acc.getD s false = accAt T s
  alen : acc.length = next.length
  rows : ∀ r ∈ next, r.length = cuts.length ∧ ∀ x ∈ r, 0 ≤ x ∧ x < next.length
  pos : 1 ≤ next.length
  clen : cuts.length ≤ 256
  nlen : next.length ≤ 1000001

theorem zeroI (w : World) : (zeroValue 3).run Tryd.prog w = .ok (.int .i64 0) w := by kernel_rfl
theorem smap_ty : Tryd.prog.underlying 107 = some (.map 9 3) := Tryd.underlying107
theorem keyStr (l : List UInt8) (h : l.length ≤ maxLen) : keyOf Tryd.prog 9 (.string ⟨l.toArray⟩) = some (.string l) := by
  simpa using WideMaps.keyOf_string_mk (P := Tryd.prog) Tryd.underlying9 (s := ⟨l.toArray⟩) (by simpa [ByteArray.size] using h)
theorem wfInt {n : Nat} (h : n ≤ 2000000) : (Lit.int .i64 (n : Int)).wf = true := by
  have h1 : IntKind.i64.min = -9223372036854775808 := by decide
  have h2 : IntKind.i64.max = 9223372036854775807 := by decide
  simp only [Lit.wf, h1, h2, Bool.and_eq_true, decide_eq_true_eq]
  omega

set_option maxRecDepth 100000 in
set_option maxHeartbeats 4000000 in
theorem refine_any (g : Nat) (vc vn va : Value) (T : Table) (cuts : List Int) (next : List (List Int)) (acc : List Bool) (lo hi : Nat → Nat) (H : CompHyp T cuts next acc lo hi) (m mk : Mem) (w0 w : World) (L : List Cl.Item) (htab : TabM mk)
    (hO : Own w0 m w mk (.obj g 105 #[vc, vn, va, .slice none 0 0] :: L)) (hn : intssAt mk vn next) (ha : boolsAt mk va acc) :
    Calls Tryd.prog 84 #[.pointer (some ⟨g, 0, none⟩)] w fun e w' => ∃ mk' vk cls, e = .returned (.tuple #[]) ∧ Own w0 m w' mk' (.obj g 105 #[vc, vn, va, vk] :: L) ∧ mk.le mk' ∧ intsAt mk' vk cls ∧ ClsOk T next.length cls := by
  obtain ⟨na, nc, rfl, n1, n2, n3⟩ := hn
  obtain ⟨aa, ac, rfl, a1, a2, a3⟩ := ha
  unfold maxLen at n2 a2
  have hpos := H.pos
  have hnlen := H.nlen
  have halen := H.alen.symm ▸ hnlen
  have hclen := H.clen
  refine calls_hide fun R hR => ?_
  have q1 := hO.obj.cell (i := 1) rfl
  have q2 := hO.obj.cell (i := 2) rfl
  have ql := hO.obj.lt
  go_enter Tryd.func84, Tryd.ntmps84
  go_step3
  go_wp2_with (refine wpList_make_row mkInts rfl (.tmp 17) (.tmp 17) rfl next.length rfl rfl (by omega) (by unfold maxLen; omega) ?_)
  intro w1 hown1 hgrow1
  have hO1 := (hO.make hown1 hgrow1).swap
  have f3 := hO1.obj.frozen 3
  have c3 := hO1.obj.cell (i := 3) rfl
  have c2 := hO1.obj.cell (i := 2) rfl
  have cl := hO1.obj.lt
  have hO2 : Own w0 m (w1.setCell ⟨g, 3, none⟩ (.slice (some ⟨w.heap.size, 0, none⟩) next.length next.length)) mk
      (.obj g 105 #[vc, .slice na next.length nc, .slice aa acc.length ac, .slice (some ⟨w.heap.size, 0, none⟩) next.length next.length] :: .row (.slice (some ⟨w.heap.size, 0, none⟩) next.length next.length) 3 1 next.length (List.replicate next.length (Value.int .i64 0)) :: L) :=
    hO1.set 3 (.slice (some ⟨w.heap.size, 0, none⟩) next.length next.length)
  rw [fillRow_zero] at hO2
  clear hown1 hgrow1 hO1 q1 q2 ql
  have HO2 := Lib.hid hO2
  clear hO2
  generalize w.heap.size = B at *
  go_wp2
  refine wp_loop_keep [0, 24, 25, 26] (fun n vs wr => ∃ k : Nat, k ≤ acc.length ∧ n = acc.length - k ∧ vs = [.pointer (some ⟨g, 0, none⟩), .slice aa acc.length ac, .int .i64 acc.length, .int .i64 k] ∧
    Own w0 m wr mk (.obj g 105 #[vc, .slice na next.length nc, .slice aa acc.length ac, .slice (some ⟨B, 0, none⟩) next.length next.length] :: .row (.slice (some ⟨B, 0, none⟩) next.length next.length) 3 1 next.length (fillRow ((acc.take k).map b2i) (next.length - k)) :: L)) ?_ ?_
  · exact ⟨_, 0, Nat.zero_le _, rfl, rfl, by simpa using HO2.out⟩
  clear HO2 f3 c3 c2 cl
  rintro X z n vs wr hX - ⟨k, hk, rfl, rfl, hO3⟩
  simp [litL, lk]
  by_cases hlt : k < acc.length
  · obtain ⟨ab, ao, rfl, a4⟩ := a3 (by intro h; simp [h] at hlt)
    have d1 := Mem.cell_w hO3.inn (a4 k hlt)
    have c3 := hO3.obj.cell (i := 3) rfl
    have cl := hO3.obj.lt
    have Hlen := Lib.hid H.alen
    have Hst := Lib.hid (fillRow_b2i hlt H.alen)
    have r1 := row_cellw (j := k) (u := .int .i64 0) hO3.swap.row (fillRow_get (by simp; omega) (by have := H.alen; omega))
    have r2 := row_frozen hO3.swap.row k
    have r3 : k < next.length := by have := H.alen; omega
    have hO4 := (hO3.swap.setRow k (.int .i64 1)).swap
    have HO := Lib.hid (And.intro hO3 hO4)
    clear hO3 hO4
    cases hb : acc[k] with
    | true =>
      rw [hb] at d1 Hst
      go_wp2
      refine hX.out _ _ _ (by omega) rfl ⟨k + 1, by omega, rfl, rfl, ?_⟩
      rw [Hst.out]
      exact HO.out.2
    | false =>
      rw [hb] at d1 Hst
      go_wp2
      refine hX.out _ _ _ (by omega) rfl ⟨k + 1, by omega, rfl, rfl, ?_⟩
      rw [Hst.out, show Value.int .i64 (b2i false) = .int .i64 0 from rfl]
      have : ∀ {xs : List Value}, xs[k]? = some (.int .i64 0) → xs.set k (.int .i64 0) = xs := fun {xs} h => by
        obtain ⟨h1, h2⟩ := List.getElem?_eq_some_iff.1 h
        rw [← h2, List.set_getElem_self]
      rw [this (fillRow_get (by simp; omega) (by have := H.alen; omega))]
      exact HO.out.1
  · obtain rfl : k = acc.length := by omega
    have efr : fillRow (acc.map b2i) (next.length - acc.length) = (acc.map b2i).map (Value.int .i64) := by rw [H.alen, Nat.sub_self, fillRow_all]
    rw [List.take_length, efr] at hO3
    clear efr
    have hstart : RefInv T next.length (acc.map b2i) 0 := ref_start H.pos (by simp [H.alen]) fun s hs => by
      rw [← H.accs s hs]
      have : s < acc.length := by have := H.alen; omega
      simp [this, b2i]
    have hS := hO3.swap
    have hin := intsAt_of_row (l := acc.map b2i) (m := mk) (by simpa [H.alen] using hS.row) (fun x hx => by
      obtain ⟨b, -, rfl⟩ := List.mem_map.1 hx
      unfold b2i; split <;> omega)
    have hO4 := hS.sealRow
    have hle := Mem.le_addv (w := wr) hS.free
    generalize mk.addv wr (.slice (some ⟨B, 0, none⟩) next.length next.length) = mk1 at *
    generalize Value.slice (some ⟨B, 0, none⟩) next.length next.length = vk at *
    generalize acc.map b2i = cls0 at *
    have Hk := Lib.hid (And.intro hstart (And.intro hin (And.intro hO4 hle)))
    clear hstart hin hO4 hle hO3 hS
    go_wp2
    go_step3
    go_wp2
    refine wp_loop_keep [0, 4, 5] (fun n vs wr => ∃ (many : Nat) (cls : List Int) (vk : Value) (mk' : Mem), n = next.length - many ∧ many ≤ next.length ∧
      vs = [.pointer (some ⟨g, 0, none⟩), .int .i64 many, .func (.func 90) #[.pointer (some ⟨g, 0, none⟩)] #[]] ∧
      RefInv T next.length cls many ∧ intsAt mk' vk cls ∧ Own w0 m wr mk' (.obj g 105 #[vc, .slice na next.length nc, .slice aa acc.length ac, vk] :: L) ∧ mk.le mk') ?_ ?_
    · exact ⟨_, 0, cls0, vk, mk1, rfl, Nat.zero_le _, rfl, Hk.out.1, Hk.out.2.1, Hk.out.2.2.1, Hk.out.2.2.2⟩
    clear Hk a3
    rintro Y z n vs wr hY - ⟨many, cls, vk, mk1, rfl, hmany, rfl, hri, hin, hO, hle⟩
    simp [litL, lk]
    have Hmm := @run_makeMap Tryd.prog
    have hO1 := hO.alBlob (.map #[] 0)
    have p1 := hO1.swap.obj.cell (i := 1) rfl
    have pl := hO1.swap.obj.lt
    have HO1 := Lib.hid hO1
    clear hO1
    go_wp2_with (refine wpList_make_row mkInts rfl (.tmp 46) (.tmp 46) rfl next.length rfl rfl (by omega) (by unfold maxLen; omega) ?_)
    intro w1 hown1 hgrow1
    have hO2 := (HO1.out.make (by simpa using hown1) hgrow1)
    have hsz : (wr.alloc (.map #[] 0)).heap.size = wr.heap.size + 1 := by simp
    rw [fillRow_zero, hsz] at hO2
    have p1 := hO2.third.obj.cell (i := 1) rfl
    have pl := hO2.third.obj.lt
    have HO2 := Lib.hid hO2
    clear hO2 hown1 hgrow1 HO1 hsz Hmm
    generalize hM : wr.heap.size = M at *
    go_wp2
    have hclen2 : cls.length = next.length := hri.len
    have Hrd := Lib.hid (ref_round H.ta H.pos hri)
    have hS : ∀ s (h : s < next.length), sig cls (taN next) cuts.length s = cls.getD s 0 :: next[s].map fun x => cls.getD x.toNat 0 := fun s h =>
      sig_eq h (H.rows _ (List.getElem_mem h)).1 (fun x hx => ((H.rows _ (List.getElem_mem h)).2 x hx).1) (by omega)
    have hcr : ∀ x ∈ cls, 0 ≤ x := fun x hx => by
      obtain ⟨i, hi, rfl⟩ := List.mem_iff_getElem.1 hx
      have := (hri.rng i (by omega)).1
      simpa [hi] using this
    have HS := Lib.hid (And.intro hS (And.intro hclen2 (And.intro hcr hri)))
    clear hS hclen2 hcr hri
    have hNum := num_inv (sig cls (taN next) cuts.length)
    have HN := Lib.hid hNum
    clear hNum
    refine wp_loop_keep [0, 4, 5, 6, 7, 52, 53] (fun n vs w3 => ∃ (k : Nat) (ob : Obj) (f : Lit → Option Int), k ≤ next.length ∧ n = next.length - k ∧
      vs = [.pointer (some ⟨g, 0, none⟩), .int .i64 many, .func (.func 90) #[.pointer (some ⟨g, 0, none⟩)] #[], .map (some M), .slice (some ⟨M + 1, 0, none⟩) next.length next.length, .int .i64 next.length, .int .i64 k] ∧
      Own w0 m w3 mk1 (.row (.slice (some ⟨M + 1, 0, none⟩) next.length next.length) 3 1 next.length (fillRow (numTo (sig cls (taN next) cuts.length) k).2 (next.length - k)) :: .blob M ob ::
        .obj g 105 #[vc, .slice na next.length nc, .slice aa acc.length ac, vk] :: L) ∧
      IMap Tryd.prog 9 3 ob k (numTo (sig cls (taN next) cuts.length) k).1.length f ∧ MapNum f (numTo (sig cls (taN next) cuts.length) k).1) ?_ ?_
    · exact ⟨_, 0, _, _, Nat.zero_le _, rfl, rfl, HO2.out, IMap.made _ _ _, mapNum_nil⟩
    clear HO2 p1 pl
    rintro Z z n vs w3 hZ - ⟨k, ob, f, hk, rfl, rfl, hO3, hI, hMN⟩
    simp [litL, lk]
    by_cases hlt : k < next.length
    · obtain ⟨hS, hcl, hcr, hri⟩ := HS.out
      have hrows := H.rows _ (List.getElem_mem hlt)
      have hcall := signature_any g k vc (.slice na next.length nc) (.slice aa acc.length ac) vk next cls mk1 w3 hO3.inn (htab.le hle) hO3.third.obj (intssAt_le hle ⟨na, nc, rfl, n1, by unfold maxLen; exact n2, n3⟩) hin hlt (by omega) hcr (fun x hx => by have := hrows.2 x hx; omega) (by omega)
      rw [← hS k hlt] at hcall
      have hxne : sig cls (taN next) cuts.length k ≠ [] := by rw [hS k hlt]; simp
      have hx0 : ∀ y ∈ sig cls (taN next) cuts.length k, 0 ≤ y := by
        rw [hS k hlt]
        intro y hy
        rcases List.mem_cons.1 hy with rfl | hy
        · exact (hri.rng k hlt).1
        · obtain ⟨u, hu, rfl⟩ := List.mem_map.1 hy
          have := hrows.2 u hu
          have hl : u.toNat < cls.length := by omega
          simp only [List.getD_eq_getElem?_getD, hl, List.getElem?_eq_getElem, Option.getD_some]
          exact hcr _ (List.getElem_mem hl)
      have hcbnd : (sigTxt (sig cls (taN next) cuts.length k)).length ≤ 22 * 300 := by
        refine Nat.le_trans (sigTxt_len _ fun x hx => ⟨hx0 x hx, ?_⟩) ?_
        · rw [hS k hlt] at hx
          have hcb : ∀ i (h : i < cls.length), cls[i] ≤ 9223372036854775807 := fun i h => by
            have := (hri.rng i (by omega)).2
            simp only [List.getD_eq_getElem?_getD, h, List.getElem?_eq_getElem, Option.getD_some] at this
            omega
          rcases List.mem_cons.1 hx with rfl | hx
          · have := (hri.rng k hlt).2; omega
          · obtain ⟨u, hu, rfl⟩ := List.mem_map.1 hx
            have := hrows.2 u hu
            have hl : u.toNat < cls.length := by omega
            simp only [List.getD_eq_getElem?_getD, hl, List.getElem?_eq_getElem, Option.getD_some]
            exact hcb _ _
        · simp [sig]; omega
      have hfx := hMN _ hxne hx0
      have hput := mapNum_put hMN hxne hx0
      have hnum := HN.out k
      have hsn := numTo_succ (sig cls (taN next) cuts.length) k
      generalize numTo (sig cls (taN next) cuts.length) k = r at *
      generalize sig cls (taN next) cuts.length k = x at *
      clear hS hcl hcr hri hrows
      have hkey := keyStr (sigTxt x) (by unfold maxLen; omega)
      have hle2 := hnum.le
      have hfl : r.1.findIdx (· == x) ≤ r.1.length := List.findIdx_le_length
      have hl2 := hnum.len
      have hmw := hO3.swap.blob
      have Hk := Lib.hid (And.intro hput (And.intro hsn (And.intro hl2 hMN)))
      clear hput hsn hnum hl2 hMN
      generalize sigTxt x = tx at *
      obtain ⟨sn, nx⟩ := r
      simp only at hfx hle2 hfl hI hO3 Hk
      by_cases hf : sn.findIdx (· == x) < sn.length
      · rw [if_pos hf] at hfx
        generalize sn.findIdx (· == x) = idx at *
        have HF := Lib.hid (And.intro hfx hkey)
        clear hfx hkey hxne hx0
        go_wp2_with (go_at_call 90; refine hcall.mono ?_; rintro e w4 ⟨rfl, hb4⟩)
        have hO4 := hO3.move hb4
        have hrun := hI.run_ok (Maps.string_keyed Tryd.underlying9) smap_ty Tryd.underlying3 zeroI hO4.swap.blob HF.out.2
        rw [HF.out.1] at hrun
        simp only [Option.getD_some, Option.isSome_some] at hrun
        have r1 := row_cellw (j := k) (u := .int .i64 0) hO4.row (fillRow_get Hk.out.2.2.1 (by omega))
        have r2 := row_frozen hO4.row k
        have r3 := (World.ownsRow.lt hO4.row _ rfl).2
        have hO5 := hO4.setRow k (.int .i64 idx)
        rw [fillRow_set Hk.out.2.2.1 (by omega)] at hO5
        have HO5 := Lib.hid hO5
        clear hO5 hO4
        go_wp2
        refine hZ.out _ _ _ (by omega) rfl ⟨k + 1, ob, f, by omega, rfl, rfl, ?_, ?_, ?_⟩
        · rw [Hk.out.2.1, if_pos hf]
          exact HO5.out
        · rw [Hk.out.2.1, if_pos hf]
          exact hI.mono (by omega)
        · rw [Hk.out.2.1, if_pos hf]
          exact Hk.out.2.2.2
      · rw [if_neg hf] at hfx
        have hidx : sn.findIdx (· == x) = sn.length := by omega
        have hput := Hk.out.1 hf
        have hnx := Hk.out.2.2.1
        have hsn := Hk.out.2.1
        rw [if_neg hf, hidx] at hsn
        clear hidx Hk hf hfl
        have HF := Lib.hid (And.intro hfx (And.intro hkey (And.intro hput hsn)))
        clear hfx hkey hxne hx0 hput hsn
        go_wp2_with (go_at_call 90; refine hcall.mono ?_; rintro e w4 ⟨rfl, hb4⟩)
        have hO4 := hO3.move hb4
        have hmb := hO4.swap.blob
        have hrun := hI.run_ok (Maps.string_keyed Tryd.underlying9) smap_ty Tryd.underlying3 zeroI hmb HF.out.2.1
        rw [HF.out.1] at hrun
        simp only [Option.getD_none, Option.isSome_none] at hrun
        have hln := fun ty => hI.run_len smap_ty hmb ty
        obtain ⟨w5, ob5, hr5, hb5, hI5, hg5⟩ := hI.run_put (Maps.string_keyed Tryd.underlying9) smap_ty Tryd.underlying3 hmb (by unfold maxLen; omega) HF.out.2.1 (wfInt (n := sn.length) (by omega))
        rw [HF.out.1] at hI5
        simp only [Option.isSome_none] at hI5
        have hO5 := (hO4.swap.setBlob hb5 hg5).swap
        have r1 := row_cellw (j := k) (u := .int .i64 0) hO5.row (fillRow_get hnx (by omega))
        have r2 := row_frozen hO5.row k
        have r3 := (World.ownsRow.lt hO5.row _ rfl).2
        have hO6 := hO5.setRow k (.int .i64 sn.length)
        rw [fillRow_set hnx (by omega)] at hO6
        have HO5 := Lib.hid (And.intro hO6 hI5)
        clear hO6 hO5 hO4 hI5 hnx hb5 hg5 hmb hmw
        go_wp2
        refine hZ.out _ _ _ (by omega) rfl ⟨k + 1, ob5, fput f (.string tx) sn.length, by omega, rfl, rfl, ?_, ?_, ?_⟩
        · rw [HF.out.2.2.2]
          exact HO5.out.1
        · rw [HF.out.2.2.2]
          simpa using HO5.out.2
        · rw [HF.out.2.2.2]
          exact HF.out.2.2.1
    · obtain rfl : k = next.length := by omega
      rw [Nat.sub_self, fillRow_all] at hO3
      have hnum := HN.out next.length
      have hrd := Hrd.out
      generalize numTo (sig cls (taN next) cuts.length) next.length = r at *
      obtain ⟨sn, nx⟩ := r
      simp only at hO3 hI hrd hnum
      have hin2 := intsAt_of_row (l := nx) (m := mk1) (by rw [hnum.len]; exact hO3.row) (fun y hy => by
        obtain ⟨i, hi, rfl⟩ := List.mem_iff_getElem.1 hy
        have := hnum.rng (s := i) (by rw [← hnum.len]; exact hi)
        simp only [List.getD_eq_getElem?_getD, hi, List.getElem?_eq_getElem, Option.getD_some] at this
        have := hnum.le
        simp only at this
        omega)
      have hle2 := Mem.le_addv (w := w3) hO3.free
      have hO4 := hO3.sealRow.swap
      have f3 := hO4.obj.frozen 3
      have c3 := hO4.obj.cell (i := 3) rfl
      have cl := hO4.obj.lt
      have hO6 : Own w0 m (w3.setCell ⟨g, 3, none⟩ (.slice (some ⟨M + 1, 0, none⟩) next.length next.length)) (mk1.addv w3 (.slice (some ⟨M + 1, 0, none⟩) next.length next.length))
          (.obj g 105 #[vc, .slice na next.length nc, .slice aa acc.length ac, .slice (some ⟨M + 1, 0, none⟩) next.length next.length] :: .blob M ob :: L) := hO4.set 3 (.slice (some ⟨M + 1, 0, none⟩) next.length next.length)
      have hmb := hO6.swap.blob
      have hln := fun ty => hI.run_len smap_ty hmb ty
      have hO5 := hO6.swap.tail
      clear hO6 hmb
      generalize mk1.addv w3 (.slice (some ⟨M + 1, 0, none⟩) next.length next.length) = mk2 at *
      have Hk := Lib.hid (And.intro hin2 (And.intro hle2 (And.intro hO5 hrd)))
      clear hin2 hle2 hO5 hO4 hO3 hrd hI hMN
      by_cases hstop : sn.length = many
      · have hdec : ((sn.length : Int) == (many : Int)) = true := by simp [hstop]
        have HT := Lib.hid hstop
        clear hstop
        go_wp2
        go_end0
        exact hR.out _ _ ⟨mk2, _, nx, rfl, Hk.out.2.2.1, Mem.le_trans hle Hk.out.2.1, Hk.out.1, Hk.out.2.2.2.2.2.2.2 HT.out⟩
      · have hdec : ((sn.length : Int) == (many : Int)) = false := by simp; omega
        have hq1 := Hk.out.2.2.2.2.1
        have hq2 := Hk.out.2.2.2.2.2.1
        go_wp2
        exact hY.out _ _ _ (by omega) rfl ⟨sn.length, nx, _, mk2, rfl, by omega, rfl, Hk.out.2.2.2.1, Hk.out.1, Hk.out.2.2.1, Mem.le_trans hle Hk.out.2.1⟩
end Cl
namespace Cl
open Go

section
variable {P : Program} {ops : Array Oper} {Q : Exit → Act → World → Prop} {S : World → Prop} {last : Nat}

def wpAnyT (P : Program) (ops : Array Oper) (Q : Exit → Act → World → Prop) (S : World → Prop) (last : Nat) : Nat → Array Bool → Act → World → Prop
  | 0, listed, a, w => Region.ready .any ops listed = [] ∧ Q .normal a w
  | fuel + 1, listed, a, w =>
    (Region.ready .any ops listed = [] → Q .normal a w) ∧
    ∀ i ∈ Region.ready .any ops listed, wpOp P ops Q i (fun a' w' => (i ≠ last → S w') ∧ wpAnyT P ops Q S last fuel (listed.setIfInBounds i true) a' w') a w

theorem wpAny_of_T : ∀ (fuel : Nat) (listed : Array Bool) (a : Act) (w : World), wpAnyT P ops Q S last fuel listed a w → wpAny P .any ops Q fuel listed a w
  | 0, _, _, _, h => h
  | fuel + 1, _, _, _, h => ⟨h.1, fun i hi => wpOp_mono (fun a' w' h' => wpAny_of_T fuel _ a' w' h'.2) (h.2 i hi)⟩

/-- does number 'last' wait for number i? -/
def waits (ops : Array Oper) (last i : Nat) : Bool := ((ops[last]?).map fun o => o.after.any fun e => Region.binds .any e && e.on == i).getD false

theorem not_ready_last {listed : Array Bool} {i : Nat} (hw : waits ops last i = true) (hr : i ∈ Region.ready .any ops listed) : last ∉ Region.ready .any ops listed := by
  intro hl
  obtain ⟨-, ol, hol, hall⟩ := mem_ready.1 hl
  simp only [waits, hol, Option.map_some, Option.getD_some, Array.any_eq_true', Bool.and_eq_true, beq_iff_eq] at hw
  obtain ⟨e, he, hb, hon⟩ := hw
  have h1 := hall e he hb
  have h0 := (mem_ready.1 hr).1
  rw [hon] at h1
  rcases Nat.lt_or_ge i listed.size with h' | h'
  · simp [h'] at h0 h1; rw [h0] at h1; cases h1
  · simp [Array.getElem?_eq_none h'] at h1

theorem wpAnyT_first {i : Nat} {oi : Oper} {v : Value} (hi : ops[i]? = some oi) (hsel : ∀ (j : Nat) (o : Oper) cs b, ops[j]? = some o → o.op ≠ .select cs b)
    (hQ : ∀ c a w, Q (.panic c) (a.put oi.dst v) w → Q (.panic c) a w) (hlast : waits ops last i = true) :
    ∀ (fuel : Nat) (listed : Array Bool) (a : Act) (w : World),
      (∀ j oj, ops[j]? = some oj → j ≠ i → listed.getD j true = false → (∀ e ∈ oj.after, Region.binds .any e = true → e.on ≠ i) → oi.apart ops oj = true) →
      i ∈ Region.ready .any ops listed → YieldsIf P ops S oi v a → S w →
      wpAnyT P ops Q S last fuel (listed.setIfInBounds i true) (a.put oi.dst v) w → wpAnyT P ops Q S last (fuel + 1) listed a w := by
  intro fuel
  induction fuel with
  | zero =>
    intro listed a w _ hr hy hS H
    refine ⟨fun h => (by rw [h] at hr; cases hr), fun j hj => ?_⟩
    by_cases hji : j = i
    · subst hji; exact hy.wpOp hi hS ⟨fun _ => hS, H⟩
    · have := ready_mono hj hji
      rw [H.1] at this
      cases this
  | succ fuel ih =>
    intro listed a w hfree hr hy hS H
    refine ⟨fun h => (by rw [h] at hr; cases hr), fun j hj => ?_⟩
    by_cases hji : j = i
    · subst hji; exact hy.wpOp hi hS ⟨fun _ => hS, H⟩
    · have h1 := H.2 j (ready_mono hj hji)
      have hjl : j ≠ last := fun e => not_ready_last hlast hr (e ▸ hj)
      obtain ⟨hjun, oj, hoj, hall⟩ := mem_ready.1 hj
      have hnot : ∀ e ∈ oj.after, Region.binds .any e = true → e.on ≠ i := fun e he hb heq => by
        have h1 := hall e he hb
        have h0 := (mem_ready.1 hr).1
        rw [heq] at h1
        rcases Nat.lt_or_ge i listed.size with h' | h'
        · simp [h'] at h0 h1; rw [h0] at h1; cases h1
        · simp [Array.getElem?_eq_none h'] at h1
      have h2 := wpOp_putIf hoj (hfree j oj hoj hji hjun hnot) (fun cs b => hsel i oi cs b hi) (fun cs b => hsel j oj cs b hoj) hQ hy h1
      have hfree' : ∀ k ok, ops[k]? = some ok → k ≠ i → (listed.setIfInBounds j true).getD k true = false →
          (∀ e ∈ ok.after, Region.binds .any e = true → e.on ≠ i) → oi.apart ops ok = true := fun k ok hk hki hun hno => by
        refine hfree k ok hk hki ?_ hno
        by_cases hjk : j = k
        · subst hjk; exact hjun
        · rw [getD_set_ne true hjk] at hun; exact hun
      refine wpOp_mono (fun a' w' h3 => ⟨fun _ => h3.2.1 hjl, ih (listed.setIfInBounds j true) a' w' hfree' (ready_mono hr (Ne.symm hji)) h3.1 (h3.2.1 hjl) ?_⟩) h2
      rw [Array.setIfInBounds_comm _ _ hji]
      exact h3.2.2

/-- Take number 'i' first. -/
theorem wpAnyT_take (i : Nat) {oi : Oper} {v : Value} {fuel : Nat} {listed : Array Bool} {a : Act} {w : World} (hi : ops[i]? = some oi)
    (hs : (Region.noSelect ops && Region.free .any ops listed i && (Region.ready .any ops listed).contains i && waits ops last i) = true)
    (hQ : ∀ c a w, Q (.panic c) (a.put oi.dst v) w → Q (.panic c) a w) (hS : S w) (hy : YieldsIf P ops S oi v a)
    (h : wpAnyT P ops Q S last fuel (listed.setIfInBounds i true) (a.put oi.dst v) w) : wpAnyT P ops Q S last (fuel + 1) listed a w := by
  simp only [Bool.and_eq_true] at hs
  obtain ⟨⟨⟨h1, h2⟩, h3⟩, h4⟩ := hs
  exact wpAnyT_first hi (Region.noSelect_spec h1) hQ h4 fuel listed a w (Region.free_spec hi h2) (by simpa using h3) hy hS h
/-- Only number i may come up. -/
theorem wpAnyT_only (i : Nat) {fuel : Nat} {listed : Array Bool} {a : Act} {w : World} (hr : (Region.ready .any ops listed == [i]) = true)
    (h : wpOp P ops Q i (fun a' w' => (i ≠ last → S w') ∧ wpAnyT P ops Q S last fuel (listed.setIfInBounds i true) a' w') a w) : wpAnyT P ops Q S last (fuel + 1) listed a w := by
  have hr' : Region.ready .any ops listed = [i] := by simpa using hr
  exact ⟨fun h0 => (by rw [hr'] at h0; cases h0), fun j hj => (by rw [hr'] at hj; obtain rfl := List.mem_singleton.1 hj; exact h)⟩
theorem wpAnyT_two (i j : Nat) {fuel : Nat} {listed : Array Bool} {a : Act} {w : World} (hr : (Region.ready .any ops listed == [i, j]) = true)
    (h : wpOp P ops Q i (fun a' w' => (i ≠ last → S w') ∧ wpAnyT P ops Q S last fuel (listed.setIfInBounds i true) a' w') a w)
    (h' : wpOp P ops Q j (fun a' w' => (j ≠ last → S w') ∧ wpAnyT P ops Q S last fuel (listed.setIfInBounds j true) a' w') a w) : wpAnyT P ops Q S last (fuel + 1) listed a w := by
  have hr' : Region.ready .any ops listed = [i, j] := by simpa using hr
  refine ⟨fun h0 => (by rw [hr'] at h0; cases h0), fun k hj => ?_⟩
  rw [hr'] at hj
  simp only [List.mem_cons, List.not_mem_nil, or_false] at hj
  rcases hj with rfl | rfl
  · exact h
  · exact h'
theorem wpAnyT_done {listed : Array Bool} {a : Act} {w : World} (hr : (Region.ready .any ops listed == []) = true) (h : Q .normal a w) : ∀ fuel, wpAnyT P ops Q S last fuel listed a w := by
  have hr' : Region.ready .any ops listed = [] := by simpa using hr
  intro fuel
  cases fuel with
  | zero => exact ⟨hr', h⟩
  | succ n => exact ⟨fun _ => h, by rw [hr']; simp⟩
theorem wp_region_T {id : Nat} {a : Act} {w : World} (S : World → Prop) (last : Nat) (hm : P.follows .mixedOrders = true)
    (h : wpAnyT P ops Q S last ops.size (Array.replicate ops.size false) a w.drew) : (Code.region id ops true).wp P Q a w :=
  wp_region_any hm (wpAny_of_T _ _ _ _ h)

theorem andS {i last : Nat} {A B : Prop} (h : A) (k : A → B) : (i ≠ last → A) ∧ B := ⟨fun _ => h, k h⟩
theorem andLast {i last : Nat} {A B : Prop} (e : i = last) (k : B) : (i ≠ last → A) ∧ B := ⟨fun h => absurd e h, k⟩
/-- an operation that runs -/
theorem wpOp_of {i : Nat} {o : Oper} {K : Act → World → Prop} {a : Act} {w : World} (hi : ops[i]? = some o) (hg : o.guard = none) (h : o.wp P a w K Q) : wpOp P ops Q i K a w := by
  unfold wpOp
  rw [hi]
  simp only [Region.wanted, hg, if_true]
  exact .inl h
theorem yields_of {o : Oper} {v : Value} {a : Act} (hg : Region.wanted o (yielded ops a.tmps) = true) (h : ∀ w, S w → (execOp a.eval o).run P w = .ok (.value v) w) : YieldsIf P ops S o v a := .inl ⟨hg, h⟩
theorem wp_value {o : Oper} {K : Act → World → Prop} {a : Act} {w w' : World} {v : Value} (hr : (execOp a.eval o).run P w = .ok (.value v) w') (h : K (a.put o.dst v) w') : o.wp P a w K Q := by
  unfold Oper.wp
  rw [hr]
  exact h
theorem wp_enter {o : Oper} {K : Act → World → Prop} {a : Act} {w w' : World} {f : FuncId} {args : Array Value} (hr : (execOp a.eval o).run P w = .ok (.enter f args) w') {X : Ending → World → Prop}
    (hc : Calls P f args w' X) (h : ∀ e w'', X e w'' → ∃ v, e = .returned v ∧ K (a.put o.dst v) w'') : o.wp P a w K Q := by
  unfold Oper.wp
  rw [hr]
  refine hc.mono fun e w'' hx => ?_
  obtain ⟨v, rfl, hk⟩ := h e w'' hx
  exact hk
theorem wp_skipped {o : Oper} {K : Act → World → Prop} {a : Act} {w w' : World} (hr : (execOp a.eval o).run P w = .ok .skip w') (h : K (a.put o.dst undef) w') : o.wp P a w K Q := by
  unfold Oper.wp
  rw [hr]
  exact h
end
end Cl
namespace Cl
open Go Go.RowKit Go.Proofs

theorem tyEdges : SliceTy Tryd.prog 46 51 3 16 := ⟨Tryd.underlying46, by omega, by
  obtain ⟨i, h1, h2, h3, h4⟩ := info_parts (P := Tryd.prog) (e := 51) (z := .agg #[.int .u8 0, .int .u8 0, .int .i64 0]) (size := 3) (bytes := 16) (by kernel_rfl)
  exact ⟨i, _, h1, h2, h3, h4, rfl⟩⟩
theorem tyStates : SliceTy Tryd.prog 22 48 2 32 := ⟨Tryd.underlying22, by omega, by
  obtain ⟨i, h1, h2, h3, h4⟩ := info_parts (P := Tryd.prog) (e := 48) (z := .agg #[.bool false, .slice none 0 0]) (size := 2) (bytes := 32) (by kernel_rfl)
  exact ⟨i, _, h1, h2, h3, h4, rfl⟩⟩

/-- the cells of a slice that is read -/
theorem edges_cells {m : Mem} {b off : Nat} {es : List Ed} (h : ∀ i (h : i < es.length), edgeAt m b (off + i * 3) es[i]) : ∀ j u, (edCells es)[j]? = some u → m.cell b (off + j) = some u := by
  intro j u hj
  have hlt : j < es.length * 3 := by rw [← edCells_length]; exact (List.getElem?_eq_some_iff.1 hj).1
  have hi : j / 3 < es.length := by omega
  obtain ⟨h1, h2, h3⟩ := edCells_get es (j / 3) hi
  obtain ⟨g1, g2, g3, -⟩ := h (j / 3) hi
  have : j % 3 = 0 ∨ j % 3 = 1 ∨ j % 3 = 2 := by omega
  rcases this with e | e | e
  · rw [show j = j / 3 * 3 by omega, h1] at hj; cases hj; rw [show off + j = off + j / 3 * 3 by omega]; exact g1
  · rw [show j = j / 3 * 3 + 1 by omega, h2] at hj; cases hj; rw [show off + j = off + j / 3 * 3 + 1 by omega]; exact g2
  · rw [show j = j / 3 * 3 + 2 by omega, h3] at hj; cases hj; rw [show off + j = off + j / 3 * 3 + 2 by omega]; exact g3
theorem edCells_one (es : List Ed) : ∀ u ∈ edCells es, u.oneCell' = true := by
  intro u hu
  simp only [edCells, List.mem_flatMap, List.mem_cons, List.not_mem_nil, or_false] at hu
  obtain ⟨e, -, rfl | rfl | rfl⟩ := hu <;> rfl

set_option maxRecDepth 100000 in
set_option maxHeartbeats 1000000 in
theorem Clone_any (v : Value) (es : List Ed) (m : Mem) (w : World) (hm : m.inn w) (hl : edgesAt m v es) (hlen : es.length * 16 ≤ 140737488355328) :
    Calls Tryd.prog 68 #[v] w fun e w' => ∃ r, e = .returned r ∧ Below w.heap.size w w' ∧ edgesAt (m.grow w w') r es := by
  obtain ⟨a, c, rfl, h1, h2, h3⟩ := hl
  unfold maxLen at h2
  refine calls_hide fun R hR => ?_
  cases a with
  | none =>
    have h0 : es = [] := by
      apply Classical.byContradiction
      intro hne
      obtain ⟨b, off, h, -⟩ := h3 hne
      cases h
    subst h0
    have hnil := fun w => Lib.run_eql_slice_nil (P := Tryd.prog) w 46 51 none 0 c 0 0 Tryd.underlying46
    go_enter Tryd.func68, Tryd.ntmps68
    go_wp2
    exact hR.out _ _ ⟨_, rfl, Below.refl _ _, none, 0, rfl, by simp, by simp [maxLen], fun h => absurd rfl h⟩
  | some ad =>
    have hnil := fun w => Lib.run_eql_slice_nil (P := Tryd.prog) w 46 51 (some ad) es.length c 0 0 Tryd.underlying46
    have hown : (w.alloc (.cells #[] 51)).ownsRow 0 51 3 (.slice (some ⟨w.heap.size, 0, none⟩) 0 0) 0 [] := World.ownsRow_made w #[] 0 (Nat.zero_le _) (Nat.zero_le _) (by simp)
    have hcells : ∀ j u, (edCells es)[j]? = some u → (w.alloc (.cells #[] 51)).cell? (ad.add j) = some u := by
      intro j u hj
      have hne : es ≠ [] := by intro h; subst h; simp [edCells] at hj
      obtain ⟨b, off, he, h4⟩ := h3 hne
      cases he
      rw [Addr.add_lit]
      exact Mem.cell_w (Mem.inn_al hm _) (edges_cells h4 j u hj)
    have hed : ∀ e ∈ es, edOk e := by
      intro e he
      obtain ⟨b, off, -, h4⟩ := h3 (List.ne_nil_of_mem he)
      obtain ⟨i, hi, rfl⟩ := List.getElem_of_mem he
      exact (h4 i hi).2.2.2
    go_enter Tryd.func68, Tryd.ntmps68
    go_wp2_with (at_builtin; refine wpList_append_row tyEdges rfl (.tmp 5) (.tmp 6) rfl (.slice (some ⟨w.heap.size, 0, none⟩) 0 0) 0 [] rfl hown ad es.length c (edCells es) rfl (edCells_length es) hcells (edCells_one es) (by unfold maxLen; omega) (by omega) ?_)
    intro va vc w' hown' hgrow hrow
    have hm1 := Mem.inn_al hm (.cells #[] 51)
    have hf : m.free (.slice (some ⟨w.heap.size, 0, none⟩) 0 0) := fun k hk => by simp [Value.ownBlock] at hk; exact Mem.none_of_ge hm (by omega)
    have hge : ∀ k, Value.ownBlock (.slice (some ⟨w.heap.size, 0, none⟩) 0 0) = some k → w.heap.size ≤ k := fun k hk => by simp [Value.ownBlock] at hk; omega
    have hb1 := below_grown (below_al (Below.refl _ _) _) hgrow hge
    have hf' := free_next hm1 hf hrow (by simp)
    have hge' := ge_next hge hrow (by omega)
    have hm2 := Mem.inn_grown hm1 hgrow (fun k hk => hf k hk)
    have hres := edgesAt_le (le_done (Mem.ext_refl m w) hm2 hf' hge') (edgesAt_of_row (m := m) hown' hed)
    have Hfin := Lib.hid (And.intro hb1 hres)
    clear hm1 hf hge hb1 hf' hge' hm2 hres hown' hgrow hrow
    go_wp2
    exact hR.out _ _ ⟨_, rfl, Hfin.out.1, Hfin.out.2⟩
end Cl
namespace Cl
open Go Go.RowKit Go.Proofs

/-- where a state leads to, if it is live -/
def dlN (next : List (List Int)) (cls : List Int) (lv : List Bool) (s i : Nat) : Option Nat := if bt lv (cl cls (taN next s i).toNat) = true then some (taN next s i).toNat else none
def OrdMap (f : Lit → Option Int) (cf : Nat → Int) (o : List Nat) : Prop := ∀ c : Int, f (.int .i64 c) = if posC cf o c < o.length then some ((posC cf o c : Nat) : Int) else none
theorem ordMap_put {f : Lit → Option Int} {cf : Nat → Int} {o : List Nat} (h : OrdMap f cf o) (t : Nat) (hn : ¬ posC cf o (cf t) < o.length) : OrdMap (fput f (.int .i64 (cf t)) o.length) cf (o ++ [t]) := by
  intro c
  rw [posC_app]
  by_cases e : c = cf t
  · subst e
    rw [fput_same, if_neg hn, if_pos rfl]
    simp
  · rw [fput_other f _ (by simpa using e), h c]
    by_cases d : posC cf o c < o.length
    · rw [if_pos d, if_pos d, if_pos (by simp; omega)]
    · have e' : ¬ cf t = c := fun x => e x.symm
      rw [if_neg d, if_neg d, if_neg e', if_neg (by simp)]
theorem ordMap_one (cf : Nat → Int) (s : Nat) : OrdMap (fput (fun _ => none) (.int .i64 (cf s)) 0) cf [s] := by
  have := ordMap_put (f := fun _ => none) (cf := cf) (o := []) (fun c => by simp [posC]) s (by simp [posC])
  simpa using this
def ordCells (o : List Nat) : List Value := o.map fun (s : Nat) => Value.int .i64 (s : Int)

theorem Own.pull {w0 w : World} {m mk : Mem} {l₁ l₂ : List Cl.Item} {a : Cl.Item} (h : Own w0 m w mk (l₁ ++ a :: l₂)) : Own w0 m w mk (a :: (l₁ ++ l₂)) := h.perm List.perm_middle.symm
theorem Own.unpull {w0 w : World} {m mk : Mem} {l₁ l₂ : List Cl.Item} {a : Cl.Item} (h : Own w0 m w mk (a :: (l₁ ++ l₂))) : Own w0 m w mk (l₁ ++ a :: l₂) := h.perm List.perm_middle
theorem last_iff (fs : List Ed) (e : Ed) (t : Int) (b : Nat) : (∃ (fs' : List Ed) (e' : Ed), fs ++ [e] = fs' ++ [e'] ∧ e'.to = t ∧ e'.hi + 1 = b) ↔ (e.to = t ∧ e.hi + 1 = b) := by
  constructor
  · rintro ⟨fs', e', h, h1⟩
    have := congrArg List.getLast? h
    simp at this
    rw [this]; exact h1
  · intro h
    exact ⟨fs, e, rfl, h⟩
theorem edCells_set (fs : List Ed) (e : Ed) (h : Nat) : (edCells (fs ++ [e])).set (fs.length * 3 + 1) (.int .u8 h) = edCells (fs ++ [⟨e.lo, h, e.to⟩]) := by
  rw [edCells_append, edCells_append, List.set_append_right _ _ (by rw [edCells_length]; omega), edCells_length]
  simp
/-- an object of one cell as a row -/
theorem Own.asRow {w0 w : World} {m mk : Mem} {L : List Cl.Item} {g : Nat} {t : TypeId} {x : Value} (h : Own w0 m w mk (.obj g t #[x] :: L)) : Own w0 m w mk (.row (.slice (some ⟨g, 0, none⟩) 1 1) t 1 1 [x] :: L) := by
  have hap := List.pairwise_cons.1 h.apart
  refine ⟨h.m0, h.below, h.ext, h.inn, ?_, ?_, .cons (fun b hb k h1 h2 => hap.1 b hb k h1 h2) hap.2⟩
  · simp only [List.mem_cons, forall_eq_or_imp]
    refine ⟨⟨rfl, .inr ⟨g, 1, #[x], rfl, Nat.zero_le _, h.obj.get, Nat.le_refl _, by simp [maxLen], rfl, rfl⟩⟩, fun it hi => h.ok it (List.mem_cons_of_mem _ hi)⟩
  · simp only [List.mem_cons, forall_eq_or_imp]
    exact ⟨fun k hk => h.fresh _ (List.mem_cons_self ..) k hk, fun it hi => h.fresh it (List.mem_cons_of_mem _ hi)⟩

/-- the cuts as numbers -/
structure CutHyp (cuts : List Int) (lo hi : Nat → Nat) : Prop where
  lo : ∀ i, (h : i < cuts.length) → cuts[i] = lo i
  hi : ∀ i, i < cuts.length → endOf cuts i = hi i

theorem bfsTo_succ (cf : Nat → Int) (dl : Nat → Nat → Option Nat) (lo hi : Nat → Nat) (ac : Nat → Bool) (K k : Nat) :
    bfsTo cf dl lo hi ac K (k + 1) = ((rowTo cf dl lo hi ((bfsTo cf dl lo hi ac K k).1.getD k 0) (bfsTo cf dl lo hi ac K k).1 K).1, (bfsTo cf dl lo hi ac K k).2 ++ [⟨ac ((bfsTo cf dl lo hi ac K k).1.getD k 0), (rowTo cf dl lo hi ((bfsTo cf dl lo hi ac K k).1.getD k 0) (bfsTo cf dl lo hi ac K k).1 K).2⟩]) := rfl

set_option maxRecDepth 100000 in
set_option maxHeartbeats 8000000 in
theorem canonical_any (g : Nat) (T : Table) (cuts : List Int) (next : List (List Int)) (acc : List Bool) (cls : List Int) (lo hi : Nat → Nat) (H : CompHyp T cuts next acc lo hi) (hC : CutHyp cuts lo hi) (hcls : ClsOk T next.length cls)
    (hB : ∀ lv : List Bool, (∀ c, bt lv c = true ↔ LiveC next acc cls c) → bt lv (cl cls 0) = true → BfsHyp T next.length (fun s => cls.getD s 0) (dlN next cls lv) lo hi (fun s => acc.getD s false) cuts.length)
    (hD : ∀ lv : List Bool, (∀ c, bt lv c = true ↔ LiveC next acc cls c) → bt lv (cl cls 0) = false → ∀ w, accFrom T 0 w = false)
    (m : Mem) (w : World) (hm : m.inn w) (ht : TabAt m g cuts next acc cls) :
    Calls Tryd.prog 85 #[.pointer (some ⟨g, 0, none⟩)] w fun e w' => ∃ r C, e = .returned (.agg #[r]) ∧ Below w.heap.size w w' ∧ statesAt (m.grow w w') r C ∧ Canon C ∧ (∀ x, accFrom C 0 x = accFrom T 0 x) ∧ C.length ≤ next.length := by
  have hpos := H.pos
  have hnlen := H.nlen
  have hclen := H.clen
  have hlive := fun w (hw : m.inn w) => live_any g cuts next acc cls m w hw ht H.alen hcls.len (fun r hr => (H.rows r hr).2) hcls.rng H.nlen
  have HL := Lib.hid hlive
  clear hlive
  obtain ⟨vc, vn, va, vk, e1, e2, e3, e4, ⟨ca, cc, rfl, c1, c2, c3⟩, ⟨na, nc, rfl, n1, n2, n3⟩, ⟨aa, ac, rfl, a1, a2, a3⟩, ⟨ka, kc, rfl, k1, k2, k3⟩⟩ := ht.ex
  unfold maxLen at c2 n2 a2 k2
  have hkl := hcls.len
  refine calls_hide fun R hR => ?_
  have hO := (Own.start hm).al #[.slice none 0 0] 24
  have HO := Lib.hid hO
  clear hO
  go_enter Tryd.func85, Tryd.ntmps85
  go_wp2_with fail
  refine (HL.out _ HO.out.inn).mono ?_
  rintro e w1 ⟨r, lv, rfl, hb1, hr1, hlv, hlc⟩
  have hO1 := HO.out.call hb1
  have q3 := Mem.cell_w hm e4
  obtain ⟨kb, ko, rfl, k4⟩ := k3 (by intro h; simp [h] at hkl; omega)
  obtain ⟨la, lc, rfl, l1, l2, l3⟩ := hr1
  obtain ⟨lb, lo', rfl, l4⟩ := l3 (by intro h; simp [h] at hlv; omega)
  have hk0 := hcls.rng cls[0] (List.getElem_mem (by omega))
  obtain ⟨kn, hkn⟩ := Int.eq_ofNat_of_zero_le hk0.1
  have d1 := k4 0 (by omega)
  rw [Nat.add_zero] at d1
  have d1w := Mem.cell_w (Mem.inn_le (Mem.le_trans (Mem.le_refl m) hO1.ext.le) hO1.inn) d1.1
  have e4w := Mem.cell_w (Mem.inn_le hO1.ext.le hO1.inn) e4
  have egl := Mem.cell_lt (Mem.inn_le hO1.ext.le hO1.inn) e4
  rw [hkn] at d1w hk0
  have d2 := l4 kn (by omega)
  have d2w := Mem.cell_w hO1.inn d2
  have hcl0 : bt lv (cl cls 0) = lv[kn] := by
    have : cl cls 0 = kn := by simp [cl, show 0 < cls.length by omega, hkn]
    rw [this, bt_get]
  have Hd := Lib.hid (And.intro (hB lv hlc) (hD lv hlc))
  have Hcl := Lib.hid hcl0
  clear hcl0 hB hD hlc
  generalize lv[kn] = b0 at *
  have hO1b := hO1.obj.frozen 0
  have hO1l := hO1.obj.lt
  have hO1c := hO1.obj.cell (i := 0) rfl
  cases b0 with
  | false =>
    have hO2 := hO1.set 0 (.slice none 0 0)
    have Hfin := Lib.hid hO2
    clear hO2 hO1 HO
    go_wp2
    refine bodyPost_ret (v := .agg #[.slice none 0 0]) (by simp [results, Tryd.results85, go_sem, hO1c]) rfl ?_
    refine hR.out _ _ ⟨_, [], rfl, Hfin.out.below, ⟨none, 0, rfl, Nat.le_refl _, by simp [maxLen], fun h => absurd rfl h⟩, ?_, fun x => ?_, by simp⟩
    · exact ⟨fun s hs => by simp at hs, fun s hs => by simp at hs, fun s hs => by simp at hs, fun k hk => by simp at hk, fun i j hi => by simp at hi, fun k b t hb ht => by
        rw [tstep_out [] k b (by simp)] at ht; omega, fun t h1 h2 => by simp at h2⟩
    · rw [Hd.out.2 Hcl.out x]
      exact accFrom_out [] 0 x (by simp)
  | true =>
    have HB := Lib.hid (Hd.out.1 Hcl.out)
    clear Hd Hcl
    have hO2 := hO1.al #[.int .i64 0] 3
    have hO3 := hO2.asRow
    have hO4 := hO3.alBlob (.map #[] 0)
    have hsz : (w1.alloc (.cells #[.int .i64 0] 3)).heap.size = w1.heap.size + 1 := by simp
    rw [hsz] at hO4
    have Hmm := @run_makeMap Tryd.prog
    have e4w2 := Mem.cell_w (Mem.inn_le hO4.ext.le hO4.inn) e4
    have d1w2 := Mem.cell_w (Mem.inn_le hO4.ext.le hO4.inn) d1.1
    rw [hkn] at d1w2
    have hI := IMap.made Tryd.prog 3 3
    obtain ⟨w5, ob5, hr5, hb5, hI5, hg5⟩ := hI.run_put (Maps.int_keyed Tryd.underlying3) Tryd.underlying110 Tryd.underlying3 hO4.blob (by unfold maxLen; omega) (Maps.keyOf_int_mk Tryd.underlying3 (wfInt (n := kn) (by omega))) (x := 0) (by decide)
    have hO5 := hO4.setBlob hb5 hg5
    have HO5 := Lib.hid (And.intro hO5 hI5)
    clear hO5 hO4 hO3 hO2 hI5 hb5 hg5 hI
    have hO6 := HO5.out.1.al #[.slice none 0 0] 24
    have hI5 := HO5.out.2
    simp only [Option.isSome_none] at hI5
    clear HO5 hsz
    have hO7 := (hO6.nilRow 48 2)
    have HO7 := Lib.hid (And.intro hO7 hI5)
    clear hO7 hO6 hI5
    generalize hOo : w5.heap.size = Oo at *
    obtain ⟨cf, hcf⟩ : ∃ cf : Nat → Int, cf = fun s => cls.getD s 0 := ⟨_, rfl⟩
    obtain ⟨dl, hdl⟩ : ∃ dl : Nat → Nat → Option Nat, dl = dlN next cls lv := ⟨_, rfl⟩
    obtain ⟨ah, hah⟩ : ∃ ah : Nat → Bool, ah = fun s => acc.getD s false := ⟨_, rfl⟩
    rw [← hcf, ← hdl, ← hah] at HB
    have hcf0 : cf 0 = kn := by rw [hcf, ← hkn]; simp [show 0 < cls.length by omega]
    have hI7 := HO7.out.2
    rw [← hcf0] at hI7
    have HI := Lib.hid (fun k hk => bfs_inv (cf := cf) (ac := ah) HB.out.iv HB.out.pos (fun s i t h1 h2 h3 => (HB.out.some s i t h1 h2 h3).1) k hk)
    have Hfun := Lib.hid (And.intro hcf (And.intro hdl hah))
    clear hcf hdl hah
    go_wp2
    refine wp_loop_keep [0, 2, 3, 4, 5, 6, 7] (fun n vs wr => ∃ (k : Nat) (vo vst : Value) (ob : Obj) (f : Lit → Option Int) (xs : List Value) (mk : Mem),
      (∀ j, j < k → j < (bfsTo cf dl lo hi ah cuts.length j).1.length) ∧ k ≤ (bfsTo cf dl lo hi ah cuts.length k).1.length ∧ n = next.length - k ∧
      vs = [.pointer (some ⟨g, 0, none⟩), .pointer (some ⟨w.heap.size, 0, none⟩), .slice (some ⟨lb, lo', none⟩) next.length lc, vo, .map (some (w1.heap.size + 1)), .pointer (some ⟨Oo, 0, none⟩), .int .i64 k] ∧
      Own w m wr mk [.row vst 48 2 k xs, .obj Oo 24 #[vst], .blob (w1.heap.size + 1) ob, .row vo 3 1 (bfsTo cf dl lo hi ah cuts.length k).1.length (ordCells (bfsTo cf dl lo hi ah cuts.length k).1), .obj w.heap.size 24 #[.slice none 0 0]] ∧
      StRow mk xs (bfsTo cf dl lo hi ah cuts.length k).2 ∧ IMap Tryd.prog 3 3 ob (bfsTo cf dl lo hi ah cuts.length k).1.length (bfsTo cf dl lo hi ah cuts.length k).1.length f ∧ OrdMap f cf (bfsTo cf dl lo hi ah cuts.length k).1 ∧
      (m.grow (w.alloc (.cells #[.slice none 0 0] 24)) w1).le mk) ?_ ?_
    · exact ⟨_, 0, .slice (some ⟨w1.heap.size, 0, none⟩) 1 1, .slice none 0 0, ob5, _, [], _, fun j hj => by omega, Nat.zero_le _, rfl, rfl, HO7.out.1, StRow.nil _, hI7, ordMap_one cf 0, Mem.le_refl _⟩
    clear HO7 hI7 hr5 d2w d1w d1w2 e4w e4w2 q3 hO1b hO1l hO1c
    rintro X z n vs wr hX - ⟨k, vo, vst, ob, f, xs, mk, hk1, hk2, rfl, rfl, hO, hrow, hI, hOM, hmk⟩
    simp [litL, lk]
    have hBI := HI.out k hk1
    obtain ⟨voa, voc, rfl⟩ := row_slice hO.fourth.row
    by_cases hlt : k < (bfsTo cf dl lo hi ah cuts.length k).1.length
    · have hsN := hBI.lt _ (List.getElem_mem hlt)
      have hoN := dif_len hBI.dif hBI.lt
      have hmr := Mem.inn_le hO.ext.le hO.inn
      have hrowi : ∃ vo', voa = some ⟨vo', 0, none⟩ := by
        rcases hO.fourth.row.2 with ⟨h, -⟩ | ⟨gg, cap, cur, h, -⟩
        · injection h with h1 h2 h3; omega
        · injection h with h1 h2 h3; exact ⟨_, h1⟩
      obtain ⟨vob, rfl⟩ := hrowi
      have hr1s : (ordCells (bfsTo cf dl lo hi ah cuts.length k).1)[k]? = some (.int .i64 ((bfsTo cf dl lo hi ah cuts.length k).1[k] : Nat)) := by simp [ordCells, hlt]
      have r1 := row_cellw (j := k) hO.fourth.row hr1s
      have hgd : (bfsTo cf dl lo hi ah cuts.length k).1.getD k 0 = (bfsTo cf dl lo hi ah cuts.length k).1[k] := by simp [hlt]
      have HBI := Lib.hid hBI
      clear hBI
      have hl4 := fun c (h : c < lv.length) => Mem.cell_le hmk (l4 c h)
      obtain ⟨nb, no, rfl, n4⟩ := n3 (by intro h; simp [h] at hpos)
      obtain ⟨ab, ao, rfl, a4⟩ := a3 (by intro h; have := H.alen; simp [h] at this; omega)
      have hE := bfsTo_succ cf dl lo hi ah cuts.length k
      rw [hgd] at hE
      generalize (bfsTo cf dl lo hi ah cuts.length k).1[k] = s at *
      have ha1 := a4 s (by have := H.alen; omega)
      obtain ⟨u, m1, ra, rc, rfl, m2, m3, m4⟩ := n4 s hsN
      have ha1w := Mem.cell_w hmr ha1
      have ha1l := Mem.cell_lt hmr ha1
      have m1w := Mem.cell_w hmr m1
      have e2w := Mem.cell_w hmr e2
      have e3w := Mem.cell_w hmr e3
      have e4w := Mem.cell_w hmr e4
      have egw := Mem.cell_lt hmr e4
      have Hrows := H.rows _ (List.getElem_mem hsN)
      have hahs : ah s = acc[s]'(by have := H.alen; omega) := by
        have h1 := congrFun Hfun.out.2.2 s
        have : s < acc.length := by have := H.alen; omega
        simpa [this] using h1
      rw [← hahs] at ha1w
      unfold maxLen at m3
      have hahN : s < acc.length := by have := H.alen; omega
      clear hahs ha1 hgd
      generalize hrw : next[s] = row at *
      have Hob := Lib.hid (show ∀ j, j < k + 1 → j < (bfsTo cf dl lo hi ah cuts.length j).1.length from fun j hj => by
        by_cases c : j < k
        · exact hk1 j c
        · have : j = k := by omega
          subst this
          exact hlt)
      generalize bfsTo cf dl lo hi ah cuts.length k = r at *
      obtain ⟨o, out⟩ := r
      simp only at *
      have hvo := hO.fourth.row
      have hol := (World.ownsRow.lt hvo _ rfl).2
      unfold maxLen at *
      go_wp2
      refine wp_cut_keep [0, 2, 3, 4, 5, 6, 7, 8] (fun vs w1' => vs = [.pointer (some ⟨g, 0, none⟩), .pointer (some ⟨w.heap.size, 0, none⟩), .slice (some ⟨lb, lo', none⟩) next.length lc, .slice (some ⟨vob, 0, none⟩) o.length voc, .map (some (w1.heap.size + 1)), .pointer (some ⟨Oo, 0, none⟩), .int .i64 k, .pointer (some ⟨wr.heap.size, 0, none⟩)] ∧
        w1' = (wr.alloc (.cells #[.bool (ah s), .slice none 0 0] 48)).drew) ?_ ?_
      · intro Y hY
        go_region
        all_goals exact hY.out _ _ rfl ⟨rfl, rfl⟩
      rintro z1 vs w1' - ⟨rfl, rfl⟩
      simp [litL, lk]
      have hO1 := ((hO.al #[.bool (ah s), .slice none 0 0] 48).dr).nilRow 51 3
      have HO1 := Lib.hid hO1
      clear hO1 hO
      have hSz : wr.heap.size < (wr.alloc (.cells #[.bool (ah s), .slice none 0 0] 48)).drew.heap.size := by simp
      generalize hS : wr.heap.size = S at *
      generalize (wr.alloc (.cells #[.bool (ah s), .slice none 0 0] 48)).drew = w2 at *
      have hmr2 := Mem.inn_le HO1.out.ext.le HO1.out.inn
      have m1w := Mem.cell_w hmr2 m1
      have m1l := Mem.cell_lt hmr2 m1
      have e2w := Mem.cell_w hmr2 e2
      have e2l := Mem.cell_lt hmr2 e2
      have r1 := row_cellw (j := k) (u := .int .i64 s) (HO1.out.at_row (v := .slice (some ⟨vob, 0, none⟩) o.length voc) (t := 3) (size := 1) (n := o.length) (xs := ordCells o) (by simp)) hr1s
      go_wp2
      go_quiet (fail)
      go_wp2

      have hRI : ∀ i, i ≤ cuts.length → RowInv cf dl lo hi cuts.length next.length s o i (rowTo cf dl lo hi s o i) :=
        row_inv HB.out.iv HBI.out.dif HBI.out.lt (fun i t hi' ht => (HB.out.some s i t hsN hi' ht).1)
      have HRI := Lib.hid hRI
      clear hRI
      refine wp_loop_keep [0, 2, 3, 4, 5, 6, 7, 8, 63, 64, 65] (fun n vs wr2 => ∃ (i : Nat) (vo ve : Value) (ob : Obj) (f : Lit → Option Int), i ≤ cuts.length ∧ n = cuts.length - i ∧
        vs = [.pointer (some ⟨g, 0, none⟩), .pointer (some ⟨w.heap.size, 0, none⟩), .slice (some ⟨lb, lo', none⟩) next.length lc, vo, .map (some (w1.heap.size + 1)), .pointer (some ⟨Oo, 0, none⟩), .int .i64 k, .pointer (some ⟨S, 0, none⟩), .slice ra cuts.length rc, .int .i64 cuts.length, .int .i64 i] ∧
        Own w m wr2 mk [.row ve 51 3 (rowTo cf dl lo hi s o i).2.length (edCells (rowTo cf dl lo hi s o i).2), .obj S 48 #[.bool (ah s), ve], .row vst 48 2 k xs, .obj Oo 24 #[vst], .blob (w1.heap.size + 1) ob,
          .row vo 3 1 (rowTo cf dl lo hi s o i).1.length (ordCells (rowTo cf dl lo hi s o i).1), .obj w.heap.size 24 #[.slice none 0 0]] ∧
        IMap Tryd.prog 3 3 ob (rowTo cf dl lo hi s o i).1.length (rowTo cf dl lo hi s o i).1.length f ∧ OrdMap f cf (rowTo cf dl lo hi s o i).1) ?_ ?_
      · exact ⟨_, 0, .slice (some ⟨vob, 0, none⟩) o.length voc, .slice none 0 0, ob, f, Nat.zero_le _, rfl, rfl, HO1.out.drN _, hI, hOM⟩
      clear HO1 hI hOM r1 m1w m1l e2w e2l hSz hmr2
      rintro Y z2 n vs wr2 hY - ⟨i, vo, ve, ob, f, hi1, rfl, rfl, hO, hI, hOM⟩
      simp [litL, lk]
      have hri := HRI.out i hi1
      obtain ⟨voa, vocc, rfl⟩ := row_slice (hO.at_row (v := vo) (t := 3) (size := 1) (n := (rowTo cf dl lo hi s o i).1.length) (xs := ordCells (rowTo cf dl lo hi s o i).1) (by simp))
      obtain ⟨vea, vec, rfl⟩ := row_slice hO.row
      have hqN := dif_len hri.dif hri.lt
      have hqe := rowTo_len cf dl lo hi s o i
      by_cases hlt3 : i < cuts.length
      · have hilr : i < row.length := by omega
        obtain ⟨rb, ro, rfl, m5⟩ := m4 (by intro h; simp [h] at hilr)
        have hmr3 := Mem.inn_le hO.ext.le hO.inn
        have x1 := Mem.cell_w hmr3 (m5 i hilr).1
        have hxr := Hrows.2 row[i] (List.getElem_mem hilr)
        obtain ⟨xn, hxn⟩ := Int.eq_ofNat_of_zero_le hxr.1
        have hta : taN next s i = row[i] := by
          unfold taN nx
          have : next.getD s [] = row := by rw [← hrw]; simp [hsN]
          rw [this]
          simp [hilr]
        rw [hxn] at x1 hxr hta
        have hxl : xn < cls.length := by omega
        have y1 := k4 xn hxl
        have y1w := Mem.cell_w hmr3 y1.1
        have hyr := hcls.rng cls[xn] (List.getElem_mem hxl)
        obtain ⟨cn, hcn⟩ := Int.eq_ofNat_of_zero_le hyr.1
        rw [hcn] at y1w hyr
        have hcfx : cf xn = cn := by
          have h1 := congrFun Hfun.out.1 xn
          simpa [hxl, hcn] using h1
        have z1w := Mem.cell_w hO.inn (hl4 cn (by omega))
        have hdlx : dl s i = if lv[cn]'(by omega) = true then some xn else none := by
          have h1 := congrFun (congrFun Hfun.out.2.1 s) i
          rw [h1]
          unfold dlN
          rw [hta]
          have h2 : cl cls ((xn : Int).toNat) = cn := by simp [cl, hxl, hcn]
          rw [h2, bt_get (by omega)]
          rfl
        have e4w := Mem.cell_w hmr3 e4
        have egw := Mem.cell_lt hmr3 e4
        generalize hlvb : lv[cn]'(by omega) = b at *
        clear hta hcn hxn hlvb
        cases b with
        | false =>
          have hN := rowTo_none (cf := cf) (lo := lo) (hi := hi) (o := o) (by simpa using hdlx)
          have HN := Lib.hid hN
          clear hN hdlx hcfx
          go_wp2
          refine hY.out _ _ _ (by omega) rfl ⟨i + 1, .slice voa (rowTo cf dl lo hi s o i).1.length vocc, .slice vea (rowTo cf dl lo hi s o i).2.length vec, ob, f, by omega, rfl, rfl, ?_, ?_, ?_⟩
          · rw [HN.out]; exact hO
          · rw [HN.out]; exact hI
          · rw [HN.out]; exact hOM
        | true =>
          have hN := rowTo_some (cf := cf) (lo := lo) (hi := hi) (o := o) (t := xn) (by simpa using hdlx)
          have hri2 := HRI.out (i + 1) (by omega)
          have HN := Lib.hid (And.intro hN (And.intro hri2 hri))
          clear hN hdlx hri2 hri
          generalize rowTo cf dl lo hi s o i = q at *
          obtain ⟨o', es⟩ := q
          simp only at hO hI hOM hqN hqe
          have hkey := Maps.keyOf_int_mk Tryd.underlying3 (wfInt (n := cn) (by omega))
          have hrun := hI.run_ok (Maps.int_keyed Tryd.underlying3) Tryd.underlying110 Tryd.underlying3 zeroI (hO.at_blob (g := w1.heap.size + 1) (o := ob) (by simp)) hkey
          go_upto_if 89 with (fail)
          refine wp_cut_keep [0, 2, 3, 4, 5, 6, 7, 8, 9, 10, 11, 63, 64, 65] (fun vs w' => ∃ (vo2 : Value) (ob2 : Obj) (f2 : Lit → Option Int),
            vs = [.pointer (some ⟨g, 0, none⟩), .pointer (some ⟨w.heap.size, 0, none⟩), .slice (some ⟨lb, lo', none⟩) next.length lc, vo2, .map (some (w1.heap.size + 1)), .pointer (some ⟨Oo, 0, none⟩), .int .i64 k, .pointer (some ⟨S, 0, none⟩), .int .i64 i, .int .i64 xn, .int .i64 cn, .slice (some ⟨rb, ro, none⟩) cuts.length rc, .int .i64 cuts.length, .int .i64 i] ∧
            Own w m w' mk [.row (.slice vea es.length vec) 51 3 es.length (edCells es), .obj S 48 #[.bool (ah s), .slice vea es.length vec], .row vst 48 2 k xs, .obj Oo 24 #[vst], .blob (w1.heap.size + 1) ob2,
              .row vo2 3 1 (ordAdd cf o' xn).length (ordCells (ordAdd cf o' xn)), .obj w.heap.size 24 #[.slice none 0 0]] ∧
            IMap Tryd.prog 3 3 ob2 (ordAdd cf o' xn).length (ordAdd cf o' xn).length f2 ∧ OrdMap f2 cf (ordAdd cf o' xn)) ?_ ?_
          · intro Z hZ
            have hfc := hOM (cn : Int)
            by_cases hp : posC cf o' cn < o'.length
            · rw [if_pos hp] at hfc
              have hoa : ordAdd cf o' xn = o' := by
                unfold ordAdd
                rw [← posC_of, hcfx, if_pos hp]
              have Hoa := Lib.hid (And.intro hoa (And.intro hI hOM))
              rw [hfc]
              simp only [Option.isNone_some, Option.isSome_some, Option.getD_some]
              clear hoa hp hI hOM hrun hfc
              go_wp2
              refine hZ.out _ _ rfl ⟨.slice voa o'.length vocc, ob, f, rfl, ?_, ?_, ?_⟩
              · rw [Hoa.out.1]; exact hO
              · rw [Hoa.out.1]; exact Hoa.out.2.1
              · rw [Hoa.out.1]; exact Hoa.out.2.2
            · rw [if_neg hp] at hfc
              have hoa : ordAdd cf o' xn = o' ++ [xn] := by
                unfold ordAdd
                rw [← posC_of, hcfx, if_neg hp]
              have hOM2 := ordMap_put hOM xn (by rw [hcfx]; exact hp)
              rw [hcfx] at hOM2
              have hO1 := hO.pull (l₁ := [_, _, _, _])
              obtain ⟨w4, ob4, hr4, hb4, hI4, hg4⟩ := hI.run_put (Maps.int_keyed Tryd.underlying3) Tryd.underlying110 Tryd.underlying3 hO1.blob (by unfold maxLen; omega) hkey (wfInt (n := o'.length) (by omega))
              rw [hfc] at hI4
              simp only [Option.isSome_none] at hI4
              have hO2 := (hO1.setBlob hb4 hg4).unpull (l₁ := [_, _, _, _])
              have hO3 := (hO2.al #[.int .i64 xn] 3)
              have Hk := Lib.hid (And.intro hoa (And.intro hOM2 hI4))
              rw [hfc]
              simp only [Option.isNone_none, Option.isSome_none, Option.getD_none]
              clear hoa hOM2 hI4 hOM hI hrun hp hb4 hg4 hO1 hO2 hfc
              go_wp2_with (at_builtin; refine wpList_append_row tyInts rfl (.tmp 94) (.tmp 96) rfl (.slice voa o'.length vocc) o'.length (ordCells o') rfl (hO3.at_row (by simp)) ⟨w4.heap.size, 0, none⟩ 1 1 [.int .i64 xn] rfl rfl (hO3.obj.news rfl) (by simp [Value.oneCell']) (by unfold maxLen; omega) (by omega) ?_)
              intro va vc' w5 hown5 hgrow5 hrow5
              have hO4 := (hO3.pull (l₁ := [_, _, _, _, _, _])).app hown5 hgrow5 hrow5 (by simp)
              have hO5 := hO4.unpull (l₁ := [_, _, _, _, _, _])
              have HO5 := Lib.hid hO5.tail
              clear hO5 hO4 hO3 hown5 hgrow5 hrow5
              go_wp2
              refine hZ.out _ _ rfl ⟨.slice va (o'.length + 1) vc', ob4, fput f (.int .i64 cn) o'.length, rfl, ?_, ?_, ?_⟩
              · rw [Hk.out.1]
                have := HO5.out
                simpa [ordCells] using this
              · rw [Hk.out.1]
                simpa using Hk.out.2.2
              · rw [Hk.out.1]
                exact Hk.out.2.1
          rintro z3 vs w4 - ⟨vo2, ob2, f2, rfl, hO4, hI4, hOM4⟩
          simp [litL, lk]
          clear hO hI hOM hrun
          obtain ⟨voa2, voc2, rfl⟩ := row_slice (hO4.at_row (v := vo2) (t := 3) (size := 1) (n := (ordAdd cf o' xn).length) (xs := ordCells (ordAdd cf o' xn)) (by simp))
          have hap := ordAdd_pos cf o' xn
          have hfp := hOM4 (cn : Int)
          have hpc : posC cf (ordAdd cf o' xn) cn = posOf cf o' xn := by rw [← hcfx, posC_of]; exact hap.1
          rw [hpc, if_pos hap.2] at hfp
          have hlk := fun nq => hI4.run_get (w := w4.drewN nq) (Maps.int_keyed Tryd.underlying3) Tryd.underlying110 Tryd.underlying3 zeroI (hO4.at_blob (g := w1.heap.size + 1) (o := ob2) (by simp)) hkey
          rw [hfp] at hlk
          simp only [Option.getD_some] at hlk
          generalize posOf cf o' xn = p at *
          have hpN : p ≤ 2000000 := by
            have := HN.out.2.1.pre
            have h2 := dif_len HN.out.2.1.dif HN.out.2.1.lt
            rw [HN.out.1] at h2
            simp only at h2
            omega
          have s1 := (hO4.swap.obj).cell (i := 1) rfl
          obtain ⟨cb, co, rfl, c4⟩ := c3 (by intro h; simp [h] at hlt3)
          have hcell := c4 i hlt3
          rw [hC.lo i hlt3] at hcell
          have hle := HB.out.iv.le i hlt3
          have hmr4 := Mem.inn_le hO4.ext.le hO4.inn
          have c4w := Mem.cell_w hmr4 hcell.1
          have e1w := Mem.cell_w hmr4 e1
          have e1l := Mem.cell_lt hmr4 e1
          have hedok := row_edok (N := next.length) HN.out.2.2 (by omega)
          simp only at hedok
          clear e4w egw x1 y1w z1w
          go_wp2
          refine wp_cut_keep [0, 2, 3, 4, 5, 6, 7, 8, 9, 10, 11, 14, 63, 64, 65, 134] (fun vs w' => ∃ (bb : Bool) (nq : Nat),
            vs = [.pointer (some ⟨g, 0, none⟩), .pointer (some ⟨w.heap.size, 0, none⟩), .slice (some ⟨lb, lo', none⟩) next.length lc, .slice voa2 (ordAdd cf o' xn).length voc2, .map (some (w1.heap.size + 1)), .pointer (some ⟨Oo, 0, none⟩), .int .i64 k, .pointer (some ⟨S, 0, none⟩), .int .i64 i, .int .i64 xn, .int .i64 cn, .int .i64 es.length, .slice (some ⟨rb, ro, none⟩) cuts.length rc, .int .i64 cuts.length, .int .i64 i, .bool bb] ∧
            w' = w4.drewN nq ∧ (bb = true ↔ ∃ (fs : List Ed) (e : Ed), es = fs ++ [e] ∧ e.to = (p : Int) ∧ e.hi + 1 = lo i)) ?_ ?_
          · intro Z hZ
            rcases List.eq_nil_or_concat es with rfl | ⟨fs, e, he⟩
            · refine wp_region_quiet_lit (by kernel_rfl) (by kernel_rfl) ?_
              repeat (any_goals (first | go_big_quiet_step (fail) | quiet_step (fail) | (refine wpQuiet_step (fun K hK => ?_); go_simp; split <;> (refine hK _ ?_; clear hK K))))
              all_goals (refine wpQuiet_nil ?_; intro _ hw'; obtain ⟨nq, hw''⟩ := hw'; subst hw'')
              all_goals go_wp2
              all_goals exact hZ.out _ _ rfl ⟨false, nq, rfl, rfl, by simp⟩
            · rw [List.concat_eq_append] at he
              subst he
              have hvea : ∃ eb, vea = some ⟨eb, 0, none⟩ := by
                rcases hO4.row.2 with ⟨h, -⟩ | ⟨gg, cap, cur, h, -⟩
                · injection h with h1 h2 h3; simp at h2
                · injection h with h1 h2 h3; exact ⟨_, h1⟩
              obtain ⟨eb, rfl⟩ := hvea
              have hec := edCells_get (fs ++ [e]) fs.length (by simp)
              have hel : (fs ++ [e])[fs.length]'(by simp) = e := by simp
              rw [hel] at hec
              have t1 := row_cellw hO4.row hec.2.1
              have t2 := row_cellw hO4.row hec.2.2
              have hek := hedok e (by simp)
              clear hel hec
              have hqe2 := hqe
              simp only [List.length_append, List.length_cons, List.length_nil] at hqe2
              have hw1 : IntKind.i64.wrap ((((fs ++ [e]).length : Nat) : Int) - 1) = (fs.length : Int) := by
                rw [IntWalk.i64_in _ (by simp; omega)]
                simp
              have hw2 : IntKind.i64.wrap ((e.hi : Int) + 1) = (e.hi : Int) + 1 := IntWalk.i64_in _ (by omega)
              have hw3 : fs.length < (fs ++ [e]).length := by simp
              have HL := Lib.hid (last_iff fs e (p : Int) (lo i))
              refine wp_region_quiet_lit (by kernel_rfl) (by kernel_rfl) ?_
              repeat (any_goals (first | go_big_quiet_step (fail) | quiet_step (fail) | (refine wpQuiet_step (fun K hK => ?_); go_simp; split <;> (refine hK _ ?_; clear hK K))))
              all_goals (refine wpQuiet_nil ?_; intro _ hw'; obtain ⟨nq, hw''⟩ := hw'; subst hw'')
              all_goals go_wp2
              all_goals first
                | (refine hZ.out _ _ rfl ⟨true, nq, by simp, rfl, ?_⟩; rw [HL.out]; simp only [true_iff]; omega)
                | (refine hZ.out _ _ rfl ⟨false, nq, by simp, rfl, ?_⟩; rw [HL.out]; simp only [Bool.false_eq_true, false_iff]; omega)
                | (refine hZ.out _ _ rfl ⟨(e.hi : Int) + 1 == (lo i : Int), nq, by simp, rfl, ?_⟩; rw [HL.out]; simp only [beq_iff_eq]; omega)
          rintro z5 vs w5 - ⟨bb, nq, rfl, rfl, hbb⟩
          simp [litL, lk]
          have hO5 := (hO4.drN nq).dr
          have hEnd := fun w' (hw : m.inn w') => end_any g cuts next acc cls i m w' hw ht hlt3 (fun h => by
            have h1 := HB.out.iv.sep i (i + 1) (by omega) h
            have h2 := HB.out.iv.le (i + 1) h
            have h3 := hC.lo (i + 1) h
            omega)
          rw [hC.hi i hlt3] at hEnd
          have HEnd := Lib.hid hEnd
          clear hEnd c4w e1w e1l s1 hlk
          have hle2 := HB.out.iv.le i hlt3
          cases bb with
          | true =>
            obtain ⟨fs, e, hes, he1, he2⟩ := hbb.1 rfl
            subst hes
            have hvea : ∃ eb, vea = some ⟨eb, 0, none⟩ := by
              rcases hO5.row.2 with ⟨h, -⟩ | ⟨gg, cap, cur, h, -⟩
              · injection h with h1 h2 h3; simp at h2
              · injection h with h1 h2 h3; exact ⟨_, h1⟩
            obtain ⟨eb, rfl⟩ := hvea
            have hqe2 := hqe
            simp only [List.length_append, List.length_cons, List.length_nil] at hqe2
            have hw1 : IntKind.i64.wrap ((((fs ++ [e]).length : Nat) : Int) - 1) = (fs.length : Int) := by
              rw [IntWalk.i64_in _ (by simp; omega)]
              simp
            have hw3 : fs.length < (fs ++ [e]).length := by simp
            have hw4 : IntKind.i64.wrap (fs.length : Int) = (fs.length : Int) := IntWalk.i64_in _ (by omega)
            have hw5 : (fs.length : Int) < (fs.length : Int) + 1 := by omega
            have hpe := pushEd_set (lo := lo i) (hi := hi i) (fs := fs) (And.intro he1 he2)
            have Hpe := Lib.hid hpe
            clear hpe he1 he2 hbb
            go_wp2
            have s1 := hO5.swap.obj.cell (i := 1) rfl
            have hm5 := Mem.inn_le hO5.ext.le hO5.inn
            have f1 := row_frozen hO5.row (fs.length * 3 + 1)
            have c1 := row_cellw hO5.row (edCells_get (fs ++ [e]) fs.length (by simp)).2.1
            have hO6 := hO5.setRow (fs.length * 3 + 1) (.int .u8 (hi i))
            rw [edCells_set] at hO6
            have Hfin := Lib.hid hO6
            clear hO6 hO5 hO4
            refine wp_region_still_tail 9 (by kernel_rfl) (by kernel_rfl) ?_
            change wpStill _ _ (w4.drewN nq).drew (fun a' => wpList _ _ _ _ a' (w4.drewN nq).drew) _ _
            generalize (w4.drewN nq).drew = w6 at *
            simp only [List.take_succ_cons, List.take_zero, List.drop_succ_cons, List.drop_zero]
            repeat still_step
            still_call (HEnd.out _ hm5)
            repeat still_step
            refine wpStill_nil ?_
            go_wp2
            refine hY.out _ _ _ (by omega) rfl ⟨i + 1, .slice voa2 (ordAdd cf o' xn).length voc2, .slice (some ⟨eb, 0, none⟩) (fs ++ [e]).length vec, ob2, f2, by omega, rfl, rfl, ?_, ?_, ?_⟩
            · rw [HN.out.1, Hpe.out]
              have := Hfin.out
              simpa using this
            · rw [HN.out.1]; exact hI4
            · rw [HN.out.1]; exact hOM4
          | false =>
            have hpe : pushEd es (lo i) (hi i) p = es ++ [⟨lo i, hi i, (p : Int)⟩] := by
              rcases List.eq_nil_or_concat es with rfl | ⟨fs, e, he⟩
              · rfl
              · rw [List.concat_eq_append] at he
                subst he
                exact pushEd_app fun h => by have := hbb.2 ⟨fs, e, rfl, h.1, h.2⟩; cases this
            have Hpe := Lib.hid hpe
            clear hpe hbb
            have hlk := fun nq => hI4.run_get (w := w4.drewN nq) (Maps.int_keyed Tryd.underlying3) Tryd.underlying110 Tryd.underlying3 zeroI (hO4.at_blob (g := w1.heap.size + 1) (o := ob2) (by simp)) hkey
            rw [hfp] at hlk
            simp only [Option.getD_some] at hlk
            have hwu : IntKind.u8.wrap (lo i : Int) = (lo i : Int) := IntWalk.u8_in _ (by omega)
            have hO5 := hO4.drN (nq + 1)
            have mkS : ∀ {w' : World} {L : List Cl.Item}, Own w m w' mk L → Item.obj S 48 #[.bool (ah s), .slice vea es.length vec] ∈ L → Item.blob (w1.heap.size + 1) ob2 ∈ L →
                (ObjAt w' S 48 #[.bool (ah s), .slice vea es.length vec] ∧ w'.cell? ⟨g, 0, none⟩ = some (.slice (some ⟨cb, co, none⟩) cuts.length cc) ∧ w'.cell? ⟨cb, co + i, none⟩ = some (.int .i64 (lo i)) ∧ (Instr.lookup 110 (.map (some (w1.heap.size + 1))) (.int .i64 cn) false).run Tryd.prog w' = .ok (.int .i64 p) w') := by
              intro w' L hO h1 h2
              refine ⟨hO.at_obj h1, Mem.cell_w (Mem.inn_le hO.ext.le hO.inn) e1, Mem.cell_w (Mem.inn_le hO.ext.le hO.inn) hcell.1, ?_⟩
              have := hI4.run_get (Maps.int_keyed Tryd.underlying3) Tryd.underlying110 Tryd.underlying3 zeroI (hO.at_blob h2) hkey
              rw [hfp] at this
              exact this
            go_wp2
            refine wp_region_T (fun w' => ObjAt w' S 48 #[.bool (ah s), .slice vea es.length vec] ∧ w'.cell? ⟨g, 0, none⟩ = some (.slice (some ⟨cb, co, none⟩) cuts.length cc) ∧ w'.cell? ⟨cb, co + i, none⟩ = some (.int .i64 (lo i)) ∧ (Instr.lookup 110 (.map (some (w1.heap.size + 1))) (.int .i64 cn) false).run Tryd.prog w' = .ok (.int .i64 p) w') 20 (by kernel_rfl) ?_
            have hS := mkS hO5 (by simp) (by simp)
            refine wpAnyT_take 0 rfl (by kernel_rfl) (fun _ _ _ h => h) hS (yields_of rfl fun w' hS' => by have q := hS'.1.cell (i := 1) rfl; have q1 := hS'.2.1; have q2 := hS'.2.2.1; have q3 := hS'.2.2.2; go_simp; rfl) ?_
            refine wpAnyT_take 1 rfl (by kernel_rfl) (fun _ _ _ h => h) hS (yields_of rfl fun w' hS' => by have q := hS'.1.cell (i := 1) rfl; have q1 := hS'.2.1; have q2 := hS'.2.2.1; have q3 := hS'.2.2.2; go_simp; rfl) ?_
            refine wpAnyT_take 2 rfl (by kernel_rfl) (fun _ _ _ h => h) hS (yields_of rfl fun w' hS' => by have q := hS'.1.cell (i := 1) rfl; have q1 := hS'.2.1; have q2 := hS'.2.2.1; have q3 := hS'.2.2.2; go_simp; rfl) ?_
            refine wpAnyT_take 3 rfl (by kernel_rfl) (fun _ _ _ h => h) hS (yields_of rfl fun w' hS' => by have q := hS'.1.cell (i := 1) rfl; have q1 := hS'.2.1; have q2 := hS'.2.2.1; have q3 := hS'.2.2.2; go_simp; rfl) ?_
            refine wpAnyT_take 4 rfl (by kernel_rfl) (fun _ _ _ h => h) hS (yields_of rfl fun w' hS' => by have q := hS'.1.cell (i := 1) rfl; have q1 := hS'.2.1; have q2 := hS'.2.2.1; have q3 := hS'.2.2.2; go_simp; rfl) ?_
            refine wpAnyT_take 5 rfl (by kernel_rfl) (fun _ _ _ h => h) hS (yields_of rfl fun w' hS' => by have q := hS'.1.cell (i := 1) rfl; have q1 := hS'.2.1; have q2 := hS'.2.2.1; have q3 := hS'.2.2.2; go_simp; rfl) ?_
            refine wpAnyT_take 6 rfl (by kernel_rfl) (fun _ _ _ h => h) hS (yields_of rfl fun w' hS' => by have q := hS'.1.cell (i := 1) rfl; have q1 := hS'.2.1; have q2 := hS'.2.2.1; have q3 := hS'.2.2.2; go_simp; rfl) ?_
            refine wpAnyT_take 7 rfl (by kernel_rfl) (fun _ _ _ h => h) hS (yields_of rfl fun w' hS' => by have q := hS'.1.cell (i := 1) rfl; have q1 := hS'.2.1; have q2 := hS'.2.2.1; have q3 := hS'.2.2.2; go_simp; rfl) ?_
            refine wpAnyT_take 8 rfl (by kernel_rfl) (fun _ _ _ h => h) hS (yields_of rfl fun w' hS' => by have q := hS'.1.cell (i := 1) rfl; have q1 := hS'.2.1; have q2 := hS'.2.2.1; have q3 := hS'.2.2.2; go_simp; rfl) ?_
            refine wpAnyT_take 9 rfl (by kernel_rfl) (fun _ _ _ h => h) hS (yields_of rfl fun w' hS' => by have q := hS'.1.cell (i := 1) rfl; have q1 := hS'.2.1; have q2 := hS'.2.2.1; have q3 := hS'.2.2.2; go_simp; rfl) ?_
            refine wpAnyT_take 10 rfl (by kernel_rfl) (fun _ _ _ h => h) hS (yields_of rfl fun w' hS' => by have q := hS'.1.cell (i := 1) rfl; have q1 := hS'.2.1; have q2 := hS'.2.2.1; have q3 := hS'.2.2.2; go_simp; rfl) ?_
            refine wpAnyT_take 11 rfl (by kernel_rfl) (fun _ _ _ h => h) hS (yields_of rfl fun w' hS' => by have q := hS'.1.cell (i := 1) rfl; have q1 := hS'.2.1; have q2 := hS'.2.2.1; have q3 := hS'.2.2.2; go_simp; rfl) ?_
            refine wpAnyT_take 13 rfl (by kernel_rfl) (fun _ _ _ h => h) hS (yields_of rfl fun w' hS' => by have q := hS'.1.cell (i := 1) rfl; have q1 := hS'.2.1; have q2 := hS'.2.2.1; have q3 := hS'.2.2.2; go_simp; rfl) ?_
            refine wpAnyT_take 14 rfl (by kernel_rfl) (fun _ _ _ h => h) hS (yields_of rfl fun w' hS' => by have q := hS'.1.cell (i := 1) rfl; have q1 := hS'.2.1; have q2 := hS'.2.2.1; have q3 := hS'.2.2.2; go_simp; rfl) ?_
            refine wpAnyT_take 15 rfl (by kernel_rfl) (fun _ _ _ h => h) hS (yields_of rfl fun w' hS' => by have q := hS'.1.cell (i := 1) rfl; have q1 := hS'.2.1; have q2 := hS'.2.2.1; have q3 := hS'.2.2.2; go_simp; rfl) ?_
            go_simp
            refine wpAnyT_only 12 (by kernel_rfl) (wpOp_of rfl rfl (wp_enter (by go_simp) (HEnd.out _ (Mem.inn_le hO5.ext.le hO5.inn)) ?_))
            rintro e' w6 ⟨rfl, rfl⟩
            refine ⟨_, rfl, andS hS fun hS1 => ?_⟩
            go_simp
            refine wpAnyT_only 16 (by kernel_rfl) (wpOp_of rfl rfl (wp_value (by go_simp; first | exact ⟨rfl, rfl⟩ | rfl) (andS hS fun _ => ?_)))
            go_simp
            have hO6 := hO5.al #[.int .u8 (lo i), .int .u8 (hi i), .int .i64 p] 51
            refine wpAnyT_only 17 (by kernel_rfl) (wpOp_of rfl rfl (wp_value (by go_simp; first | exact ⟨rfl, rfl⟩ | rfl) (andS (mkS hO6 (by simp) (by simp)) fun _ => ?_)))
            go_simp
            refine wpAnyT_only 18 (by kernel_rfl) (wpOp_of rfl rfl (wp_append_row tyEdges (.tmp 145) (.tmp 161) rfl (.slice vea es.length vec) es.length (edCells es) rfl hO6.swap.row ⟨w4.heap.size, 0, none⟩ 1 1 [.int .u8 (lo i), .int .u8 (hi i), .int .i64 p] rfl rfl (hO6.obj.news rfl) (by simp [Value.oneCell']) (by unfold maxLen; omega) (by omega) (fun na' nc' w7 hown7 hgrow7 hrow7 => ?_)))
            have hO7 := hO6.swap.app hown7 hgrow7 hrow7 (Nat.le_refl _)
            refine andS (mkS hO7 (by simp) (by simp)) fun hS3 => ?_
            go_simp
            refine wpAnyT_only 19 (by kernel_rfl) (wpOp_of rfl rfl (wp_value (by go_simp; first | exact ⟨rfl, rfl⟩ | rfl) (andS hS3 fun _ => ?_)))
            go_simp
            have f3 := hS3.1.frozen 1
            have c3 := hS3.1.cell (i := 1) rfl
            refine wpAnyT_only 20 (by kernel_rfl) (wpOp_of rfl rfl (wp_skipped (by go_simp; rfl) (andLast rfl ?_)))
            refine wpAnyT_done (by kernel_rfl) ?_ _
            have hO8 := ((hO7.third.set 1 (.slice na' (es.length + 1) nc')).drop3).swap
            have Hfin := Lib.hid hO8
            clear hO8 hO7 hO6 hO5 hO4 hS hS1 hS3 f3 c3 hown7 hgrow7 hrow7
            go_wp2
            refine hY.out _ _ _ (by omega) rfl ⟨i + 1, .slice voa2 (ordAdd cf o' xn).length voc2, .slice na' (es.length + 1) nc', ob2, f2, by omega, rfl, rfl, ?_, ?_, ?_⟩
            · rw [HN.out.1, Hpe.out]
              have := Hfin.out
              simpa [edCells_append] using this
            · rw [HN.out.1]; exact hI4
            · rw [HN.out.1]; exact hOM4
      · obtain rfl : i = cuts.length := by omega
        have s0 := hO.swap.obj.cell (i := 0) rfl
        have s1 := hO.swap.obj.cell (i := 1) rfl
        have sl := hO.swap.obj.lt
        have u0 := (hO.at_obj (g := Oo) (t := 24) (arr := #[vst]) (by simp)).cell (i := 0) rfl
        have hes := edgesAt_of_row (l := (rowTo cf dl lo hi s o cuts.length).2) (m := mk) hO.row (row_edok (N := next.length) hri (by omega))
        have hO2 := hO.sealRow
        have hmk2 := Mem.le_addv (w := wr2) hO.free
        have hrow2 := (hrow.mono hmk2).push (s := ⟨ah s, (rowTo cf dl lo hi s o cuts.length).2⟩) hes
        obtain ⟨vsta, vstc, rfl⟩ := row_slice hO2.swap.row
        have hO3 := hO2.al #[.bool (ah s), .slice vea (rowTo cf dl lo hi s o cuts.length).2.length vec] 48
        have hoN2 := dif_len HBI.out.dif HBI.out.lt
        simp only at hoN2
        have Hk := Lib.hid (And.intro hrow2 (And.intro (Mem.le_trans hmk hmk2) (And.intro hI hOM)))
        clear hrow2 hes hI hOM hmk2
        generalize mk.addv wr2 (.slice vea (rowTo cf dl lo hi s o cuts.length).2.length vec) = mk2 at *
        have hnews := hO3.obj.news rfl
        have hvr := hO3.third.row
        clear hO hO2
        go_wp2_with (at_builtin; refine wpList_append_row tyStates rfl (.tmp 166) (.tmp 168) rfl (.slice vsta k vstc) k xs rfl hvr ⟨wr2.heap.size, 0, none⟩ 1 1 [.bool (ah s), .slice vea (rowTo cf dl lo hi s o cuts.length).2.length vec] rfl rfl hnews (by simp [Value.oneCell']) (by unfold maxLen; omega) (by omega) ?_)
        intro va vc w7 hown7 hgrow7 hrow7
        have hO4 := (hO3.third.app hown7 hgrow7 hrow7 (by simp)).fourth
        clear hown7 hgrow7 hrow7 hO3 hvr hnews
        have u2 := hO4.obj.cell (i := 0) rfl
        have u3 := hO4.obj.frozen 0
        have u4 := hO4.obj.lt
        have hO5 := ((hO4.set 0 (.slice va (k + 1) vc)).swap).drop3.drop3
        have HO5 := Lib.hid hO5
        clear hO5 hO4
        go_wp2
        have hpre := hri.pre.length_le
        refine hX.out _ _ _ (by omega) rfl ⟨k + 1, .slice voa (rowTo cf dl lo hi s o cuts.length).1.length vocc, .slice va (k + 1) vc, ob, f, xs ++ [.bool (ah s), .slice vea (rowTo cf dl lo hi s o cuts.length).2.length vec], mk2, ?_, ?_, rfl, rfl, ?_, ?_, ?_, ?_, Hk.out.2.1⟩
        · exact Hob.out
        · rw [hE]; show k + 1 ≤ (rowTo cf dl lo hi s o cuts.length).1.length; omega
        · rw [hE]; exact HO5.out
        · rw [hE]; exact Hk.out.1
        · rw [hE]; exact Hk.out.2.2.1
        · rw [hE]; exact Hk.out.2.2.2
    · have hkl2 : (bfsTo cf dl lo hi ah cuts.length k).1.length = k := by omega
      have hcan := bfs_canon HB.out hk1 hkl2
      have hNl := dif_len hBI.dif hBI.lt
      rw [hkl2] at hNl
      have hclen := hBI.len
      generalize bfsTo cf dl lo hi ah cuts.length k = r at *
      obtain ⟨vsta, vstc, rfl⟩ := row_slice hO.row
      have u1 := (hO.at_obj (g := Oo) (t := 24) (arr := #[.slice vsta k vstc]) (by simp)).cell (i := 0) rfl
      have hO2 := (hO.pull (l₁ := [_, _, _, _]))
      have u2 := hO2.obj.cell (i := 0) rfl
      have u3 := hO2.obj.frozen 0
      have u4 := hO2.obj.lt
      have hO3 := (hO2.set 0 (.slice vsta k vstc)).swap
      have hst := statesAt_of_row (l := r.2) (m := mk) (by rw [hclen]; exact hO3.row) hrow hO3.free
      have hst2 := statesAt_le hO3.sealRow.done hst
      have hbel := hO3.below
      have Hk := Lib.hid (And.intro hcan (And.intro hst2 (And.intro hbel (And.intro hNl hclen))))
      clear hcan hst hst2 hbel hNl hclen hO3 hO2 hO hI hOM hBI hrow hkl2
      go_wp2
      refine bodyPost_ret (v := .agg #[.slice vsta k vstc]) (by simp [results, Tryd.results85, go_sem, u2]) rfl ?_
      refine hR.out _ _ ⟨_, r.2, rfl, Hk.out.2.2.1, Hk.out.2.1, Hk.out.1.1, Hk.out.1.2, ?_⟩
      have h1 := Hk.out.2.2.2.1
      have h2 := Hk.out.2.2.2.2
      omega
end Cl

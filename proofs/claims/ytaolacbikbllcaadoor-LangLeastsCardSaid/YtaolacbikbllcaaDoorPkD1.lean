/- Lemmas for the proofs: Strs, Mat, WalkCD, WalkCE, WalkCF, WalkCG. -/
import Derived.WalkKit
import Derived.RegionTactic
import Derived.ChangeAlike
import Derived.Test.YtaolacbikbllcaaDoorPkA2
import Derived.Test.YtaolacbikbllcaaDoorPkA3
import Derived.Test.YtaolacbikbllcaaDoorPkA1
import Derived.Test.YtaolacbikbllcaaDoorPkB1
import Derived.Test.YtaolacbikbllcaaDoorPkA4
import Derived.Test.YtaolacbikbllcaaDoorPkA9
import Derived.Test.YtaolacbikbllcaaDoorPkA10
import Derived.Test.YtaolacbikbllcaaDoorPkA7
import Derived.Test.YtaolacbikbllcaaDoorPkA8
import Derived.Test.YtaolacbikbllcaaDoorPkC1
namespace Cl
open Go Go.RowKit

/-- an append whose source is whatever slice, nil or empty too -/
theorem run_append_any2 {P : Program} {t e : TypeId} {size bytes : Nat} (S : SliceTy P t e size bytes) (w : World) (ty : TypeId) (v : Value) (n : Nat) (xs : List Value) (hown : w.ownsRow 0 e size v n xs)
    (ad : Option Addr) (m c : Nat) (news : List Value) (hl : news.length = m * size) (hnews : 0 < m → ∃ a, ad = some a ∧ ∀ j u, news[j]? = some u → w.cell? (a.add j) = some u) (h1 : ∀ u ∈ news, u.oneCell' = true)
    (h63 : n + m ≤ maxLen) (hbytes : (n + m) * bytes ≤ 140737488355328) :
    ∃ v' w', (Builtin.append_ #[t, t] ty #[v, .slice ad m c]).run P w = .ok v' w' ∧ w'.ownsRow 0 e size v' (n + m) (xs ++ news) ∧ w.grownBy w' v.ownBlock ∧
      (∀ k, v'.ownBlock = some k → v.ownBlock = some k ∨ w.heap.size ≤ k) := by
  cases ad with
  | some a =>
    refine run_append_row S w ty v n xs hown a m c news hl ?_ h1 h63 hbytes
    rcases Nat.eq_zero_or_pos m with h | h
    · subst h
      have : news = [] := List.eq_nil_of_length_eq_zero (by rw [hl, Nat.zero_mul])
      subst this
      intro j u hj
      simp at hj
    · obtain ⟨a', e, h2⟩ := hnews h
      cases e
      exact h2
  | none =>
    have hm : m = 0 := by
      rcases Nat.eq_zero_or_pos m with h | h
      · exact h
      · obtain ⟨a', e, -⟩ := hnews h
        cases e
    subst hm
    have : news = [] := List.eq_nil_of_length_eq_zero (by rw [hl, Nat.zero_mul])
    subst this
    obtain ⟨i, z, hi, hz, hsize, hby, hzs⟩ := S.info
    refine ⟨v, w, ?_, by simpa using hown, World.grownBy.refl w _, fun k hk => .inl hk⟩
    rcases hown.2 with ⟨rfl, rfl⟩ | ⟨g, cap, cur, rfl, -, -, hnc, -⟩
    · simp [Builtin.append_, run_underlying S.ht, Go.sizeOf, Go.typeInfo, hi, Builtin.lenOf, Builtin.firstCells]
    · simp [Builtin.append_, run_underlying S.ht, Go.sizeOf, Go.typeInfo, hi, Builtin.lenOf, Builtin.firstCells, hnc, storeCells]
theorem wpList_append_any2 {P : Program} {t e : TypeId} {size bytes : Nat} (S : SliceTy P t e size bytes) {w : World} {ops : Array Oper} {rest : List Oper} {o : Oper} {a : Act} {Q : Exit → Act → World → Prop} (hgd : o.guard = none) (s x : Operand)
    (ho : o.op = .call { callee := .builtin .append, args := #[s, x], argTypes := #[t, t] })
    (v : Value) (n : Nat) (xs : List Value) (hs : a.eval s = v) (hown : w.ownsRow 0 e size v n xs)
    (ad : Option Addr) (m c : Nat) (news : List Value) (hx : a.eval x = .slice ad m c) (hl : news.length = m * size) (hnews : 0 < m → ∃ a, ad = some a ∧ ∀ j u, news[j]? = some u → w.cell? (a.add j) = some u) (h1 : ∀ u ∈ news, u.oneCell' = true)
    (h63 : n + m ≤ maxLen) (hbytes : (n + m) * bytes ≤ 140737488355328)
    (h : ∀ va vc w', w'.ownsRow 0 e size (.slice va (n + m) vc) (n + m) (xs ++ news) → w.grownBy w' v.ownBlock → (∀ k, (Value.slice va (n + m) vc).ownBlock = some k → v.ownBlock = some k ∨ w.heap.size ≤ k) → wpList P ops Q rest (a.put o.dst (.slice va (n + m) vc)) w') : wpList P ops Q (o :: rest) a w := by
  refine wpList_plain hgd fun _ hK => ?_
  obtain ⟨v', w', hr, h2, h3, h4⟩ := run_append_any2 S w o.type v n xs hown ad m c news hl hnews h1 h63 hbytes
  obtain ⟨va, vc, rfl⟩ := row_slice h2
  unfold Oper.wp execOp
  simp only [ho, resolve, invoke, builtin, Sem.run_bind, Sem.run_pure, Result.andThen_ok, List.map_toArray, List.map_cons, List.map_nil, hs, hx, hr]
  exact hK _ _ (h va vc w' h2 h3 h4)
/-- what such a source holds -/
theorem strs_news {m : Mem} {w : World} (hm : m.inn w) {ad : Option Addr} {c : Nat} {l : List ByteArray} (h : strsAt m (.slice ad l.length c) l) :
    0 < l.length → ∃ a, ad = some a ∧ ∀ j u, (l.map Value.string)[j]? = some u → w.cell? (a.add j) = some u := fun hp => by
  obtain ⟨a', c', e, -, -, h4⟩ := h
  cases e
  obtain ⟨b, off, rfl, h5⟩ := h4 (fun e => by rw [e] at hp; cases hp)
  refine ⟨_, rfl, fun j u hj => ?_⟩
  rw [Addr.add_lit]
  have hlt : j < l.length := by
    have := (List.getElem?_eq_some_iff.1 hj).1
    simpa using this
  have := Mem.cell_w hm (h5 j hlt).1
  rw [this]
  simp [hlt] at hj
  rw [hj]
end Cl
namespace Cl
open Go Go.RowKit

theorem set_split {α : Type} {l : List α} {s : Nat} (h : s < l.length) (x : α) : l.set s x = l.take s ++ x :: l.drop (s + 1) := by
  rw [List.set_eq_take_append_cons_drop, if_pos h]
theorem own_split {α : Type} {l : List α} {s : Nat} (h : s < l.length) : l = l.take s ++ l[s] :: l.drop (s + 1) := by
  rw [← List.drop_eq_getElem_cons h, List.take_append_drop]
section
variable {w0 w w' : World} {m mk : Mem} {L : List Item}
theorem Own.toFront {l : List Item} {s : Nat} (hs : s < l.length) (h : Own w0 m w mk (l ++ L)) : Own w0 m w mk (l[s] :: (l.take s ++ (l.drop (s + 1) ++ L))) := by
  refine h.perm ?_
  have e : l ++ L = l.take s ++ l[s] :: (l.drop (s + 1) ++ L) := by
    rw [← List.cons_append, ← List.append_assoc, ← own_split hs]
  rw [e]
  exact List.perm_middle.symm
/-- one of many items turns -/
theorem Own.setAt {l : List Item} {s : Nat} {it : Item} (hs : s < l.length) (h : Own w0 m w mk (l ++ L)) (hstep : ∀ L', Own w0 m w mk (l[s] :: L') → Own w0 m w' mk (it :: L')) : Own w0 m w' mk (l.set s it ++ L) := by
  have h1 := hstep _ (h.toFront hs)
  refine h1.perm ?_
  rw [set_split hs, List.append_assoc, List.cons_append]
  exact List.perm_middle
end

theorem Own.fore {w0 w : World} {m mk : Mem} {l₁ l₂ : List Item} {a : Item} (h : Own w0 m w mk (l₁ ++ a :: l₂)) : Own w0 m w mk (a :: (l₁ ++ l₂)) := h.perm List.perm_middle.symm
theorem Own.unfore {w0 w : World} {m mk : Mem} {l₁ l₂ : List Item} {a : Item} (h : Own w0 m w mk (a :: (l₁ ++ l₂))) : Own w0 m w mk (l₁ ++ a :: l₂) := h.perm List.perm_middle
theorem grow_cell {m : Mem} {w w' : World} {g i : Nat} {v : Value} (hg : w.heap.size ≤ g) (h : w'.cell? ⟨g, i, none⟩ = some v) : (m.grow w w').cell g i = some v := by
  unfold World.cell? at h
  unfold Mem.cell Mem.grow
  rw [if_neg (by omega)]
  split at h
  · rename_i hb
    rw [hb]
    simpa using h
  · cases h
def brow (b : Nat → Nat → Bool) (M s : Nat) : List Value := (List.range (M + 1)).map fun n => .bool (b s n)
def rsl (g : Nat → Nat) (M s : Nat) : Value := .slice (some ⟨g s, 0, none⟩) (M + 1) (M + 1)
def ritem (t : TypeId) (g : Nat → Nat) (b : Nat → Nat → Bool) (M s : Nat) : Item := .row (rsl g M s) t 1 (M + 1) (brow b M s)
def ritems (t : TypeId) (g : Nat → Nat) (b : Nat → Nat → Bool) (M N : Nat) : List Item := (List.range N).map (ritem t g b M)
def bset (b : Nat → Nat → Bool) (s n : Nat) (x : Bool) : Nat → Nat → Bool := fun s' n' => if s' = s ∧ n' = n then x else b s' n'
theorem brow_get (b : Nat → Nat → Bool) {M s n : Nat} (h : n ≤ M) : (brow b M s)[n]? = some (.bool (b s n)) := by
  have : n < M + 1 := by omega
  simp [brow, this]
theorem brow_set (b : Nat → Nat → Bool) {M s n : Nat} (x : Bool) : (brow b M s).set n (.bool x) = brow (bset b s n x) M s := by
  apply List.ext_getElem?
  intro i
  rw [List.getElem?_set]
  by_cases e : n = i
  · subst e
    by_cases h : n < M + 1
    · simp [brow, bset, h]
    · simp [brow, h]
  · rw [if_neg e]
    simp only [brow, List.getElem?_map, bset]
    by_cases h : i < M + 1
    · have : ¬ i = n := fun x => e x.symm
      simp [h, this]
    · simp [h]
theorem brow_congr {b b' : Nat → Nat → Bool} {M s : Nat} (h : ∀ n, n ≤ M → b s n = b' s n) : brow b M s = brow b' M s := by
  unfold brow
  apply List.map_congr_left
  intro n hn
  rw [h n (by have := List.mem_range.1 hn; omega)]
theorem ritems_congr {t : TypeId} {g g' : Nat → Nat} {b b' : Nat → Nat → Bool} {M N : Nat} (hg : ∀ s, s < N → g s = g' s) (h : ∀ s n, s < N → n ≤ M → b s n = b' s n) : ritems t g b M N = ritems t g' b' M N := by
  unfold ritems
  apply List.map_congr_left
  intro s hs
  have hs := List.mem_range.1 hs
  unfold ritem rsl
  rw [hg s hs, brow_congr fun n hn => h s n hs hn]
theorem ritems_len (t : TypeId) (g : Nat → Nat) (b : Nat → Nat → Bool) (M N : Nat) : (ritems t g b M N).length = N := by simp [ritems]
theorem ritems_at {t : TypeId} {g : Nat → Nat} {b : Nat → Nat → Bool} {M N s : Nat} (h : s < (ritems t g b M N).length) : (ritems t g b M N)[s] = ritem t g b M s := by simp [ritems]
theorem ritems_set {t : TypeId} {g : Nat → Nat} {b : Nat → Nat → Bool} {M N s n : Nat} (x : Bool) : (ritems t g b M N).set s (ritem t g (bset b s n x) M s) = ritems t g (bset b s n x) M N := by
  apply List.ext_getElem?
  intro i
  rw [List.getElem?_set]
  by_cases e : s = i
  · subst e
    rw [ritems_len]
    by_cases h : s < N
    · simp [ritems, h]
    · simp [ritems, h]
  · rw [if_neg e]
    by_cases h : i < N
    · simp only [ritems, List.getElem?_map, List.getElem?_range h, Option.map_some, Option.some.injEq]
      unfold ritem
      rw [brow_congr fun n' _ => ?_]
      have : ¬ i = s := fun x => e x.symm
      simp [bset, this]
    · simp [ritems, h]
theorem ritems_succ (t : TypeId) (g : Nat → Nat) (b : Nat → Nat → Bool) (M N : Nat) : ritems t g b M (N + 1) = ritems t g b M N ++ [ritem t g b M N] := by simp [ritems, List.range_succ]

section
variable {w0 w w' : World} {m mk : Mem} {L : List Item} {t : TypeId} {g : Nat → Nat} {b : Nat → Nat → Bool} {M N : Nat}
theorem Own.matRow {s : Nat} (h : Own w0 m w mk (ritems t g b M N ++ L)) (hs : s < N) : w.ownsRow 0 t 1 (rsl g M s) (M + 1) (brow b M s) := by
  have := h.toFront (s := s) (by rw [ritems_len]; exact hs)
  rw [ritems_at] at this
  exact this.row
theorem Own.matCell {s n : Nat} (h : Own w0 m w mk (ritems t g b M N ++ L)) (hs : s < N) (hn : n ≤ M) : w.cell? ⟨g s, n, none⟩ = some (.bool (b s n)) := row_cellw (h.matRow hs) (brow_get b hn)
theorem Own.matFrozen {s : Nat} (h : Own w0 m w mk (ritems t g b M N ++ L)) (hs : s < N) (n : Nat) : w.frozen? ⟨g s, n, none⟩ = false := row_frozen (h.matRow hs) n
theorem Own.matLt {s : Nat} (h : Own w0 m w mk (ritems t g b M N ++ L)) (hs : s < N) : g s < w.heap.size := (World.ownsRow.lt (h.matRow hs) _ rfl).2
theorem Own.matNew {s : Nat} (h : Own w0 m w mk (ritems t g b M N ++ L)) (hs : s < N) : w0.heap.size ≤ g s := by
  have := h.toFront (s := s) (by rw [ritems_len]; exact hs)
  rw [ritems_at] at this
  exact (this.fresh _ (List.mem_cons_self ..) (g s) rfl).1
theorem Own.matSet {s n : Nat} (h : Own w0 m w mk (ritems t g b M N ++ L)) (hs : s < N) (x : Bool) : Own w0 m (w.setCell ⟨g s, n, none⟩ (.bool x)) mk (ritems t g (bset b s n x) M N ++ L) := by
  rw [← ritems_set x]
  refine h.setAt (by rw [ritems_len]; exact hs) fun L' hL => ?_
  rw [ritems_at] at hL
  have := Own.setRow (g := g s) (n := M + 1) (cap := M + 1) (xs := brow b M s) hL n (.bool x)
  rw [brow_set] at this
  exact this
/-- a row more -/
theorem Own.matPush {k : Nat} (h : Own w0 m w mk (ritem t g b M k :: (ritems t g b M k ++ L))) : Own w0 m w mk (ritems t g b M (k + 1) ++ L) := by
  rw [ritems_succ, List.append_assoc]
  exact h.perm List.perm_middle
end
/-- the row of the rows: k of them are there -/
def outer (g : Nat → Nat) (M k N : Nat) : List Value := (List.range N).map fun s => if s < k then rsl g M s else .slice none 0 0
theorem outer_get {g : Nat → Nat} {M k N s : Nat} (h : s < N) : (outer g M k N)[s]? = some (if s < k then rsl g M s else .slice none 0 0) := by simp [outer, h]
theorem outer_set {g : Nat → Nat} {M k N : Nat} (x : Nat) : (outer g M k N).set k (.slice (some ⟨x, 0, none⟩) (M + 1) (M + 1)) = outer (fun s => if s = k then x else g s) M (k + 1) N := by
  apply List.ext_getElem?
  intro i
  rw [List.getElem?_set]
  by_cases h : i < N
  · rw [outer_get h, outer_get h]
    have hl : (outer g M k N).length = N := by simp [outer]
    by_cases e : k = i
    · subst e
      simp [hl, h, rsl]
    · rw [if_neg e]
      have e' : ¬ i = k := fun x => e x.symm
      by_cases h1 : i < k
      · simp [h1, e', rsl, show i < k + 1 by omega]
      · simp [h1, show ¬ i < k + 1 by omega]
  · have hl : (outer g M k N).length = N := by simp [outer]
    have hl2 : (outer (fun s => if s = k then x else g s) M (k + 1) N).length = N := by simp [outer]
    have e1 : (outer g M k N)[i]? = none := List.getElem?_eq_none (by omega)
    have e2 : (outer (fun s => if s = k then x else g s) M (k + 1) N)[i]? = none := List.getElem?_eq_none (by omega)
    rw [e1, e2, hl]
    by_cases e : k = i
    · rw [if_pos e, if_neg (by omega)]
    · rw [if_neg e]
end Cl
namespace Cl
open Go Go.RowKit Go.Proofs

theorem mkBoolss : MakeTy Tryd.prog 57 41 24 (.slice none 0 0) := ⟨Tryd.underlying57, by kernel_rfl, rfl⟩

/-- the table, as rows of memory -/
def canTab (A : Table) (M : Nat) : List (List Bool) := (List.range A.length).map fun s => (List.range (M + 1)).map fun n => cb A s n

set_option maxRecDepth 100000 in
set_option maxHeartbeats 8000000 in
theorem r06can_any (v : Value) (A : Table) (M : Nat) (m : Mem) (w : World) (hm : m.inn w) (hA : statesAt m v A) (hw : WF A) (hb : Bytes A) (hM : M ≤ 1000000) (hl : A.length ≤ 100000) :
    Calls Tryd.prog 43 #[.agg #[v], .int .i64 M] w fun e w' => ∃ r, e = .returned r ∧ Below w.heap.size w w' ∧ boolssAt (m.grow w w') r (canTab A M) := by
  have hO := (Own.start hm).al #[v] 24
  have HO := Lib.hid hO
  obtain ⟨va, vc, rfl, a1, a2, a3⟩ := hA
  unfold maxLen at a2
  have HA := Lib.hid a3
  have HW := Lib.hid (And.intro hw hb)
  clear hO a3 hw hb
  refine calls_hide fun R hR => ?_
  have b0 := HO.out.obj.cell (i := 0) rfl
  go_enter Tryd.func43, Tryd.ntmps43
  go_wp2_with (refine wpList_make_row mkBoolss rfl (.tmp 12) (.tmp 12) rfl A.length rfl rfl (by omega) (by unfold maxLen; omega) ?_)
  intro w1 hown hgr
  have hO1 := HO.out.make (by simpa using hown) hgr
  have hsz : (w.alloc (.cells #[.slice va A.length vc] 24)).heap.size = w.heap.size + 1 := by simp
  rw [hsz] at hO1
  have ho0 : List.replicate A.length (Value.slice none 0 0) = outer (fun _ => 0) M 0 A.length := by
    apply List.ext_getElem <;> simp [outer]
  rw [ho0] at hO1
  have HO1 := Lib.hid hO1
  clear hown hgr hO1 hsz ho0 b0 HO
  generalize w.heap.size + 1 = OB at *
  have hb0 := HO1.out.swap.obj.cell (i := 0) rfl
  have hb1 := HO1.out.swap.obj.lt
  go_wp2
  refine wp_loop_keep [1, 2, 5, 6] (fun n vs w2 => ∃ (k : Nat) (g : Nat → Nat), k ≤ A.length ∧ n = A.length - k ∧ vs = [.int .i64 M, .pointer (some ⟨w.heap.size, 0, none⟩), .slice (some ⟨OB, 0, none⟩) A.length A.length, .int .i64 k] ∧
    Own w m w2 m (ritems 4 g (f1 A) M k ++ [.row (.slice (some ⟨OB, 0, none⟩) A.length A.length) 41 1 A.length (outer g M k A.length), .obj w.heap.size 24 #[.slice va A.length vc]])) ?_ ?_
  · exact ⟨_, 0, fun _ => 0, Nat.zero_le _, rfl, rfl, HO1.out⟩
  clear HO1 hb0 hb1
  rintro X z n vs w2 hX - ⟨k, g, hk, rfl, rfl, hO⟩
  simp [litL, lk]
  have hbox := hO.at_obj (g := w.heap.size) (t := 24) (arr := #[.slice va A.length vc]) (by simp)
  have c1 := hbox.cell (i := 0) rfl
  have c2 := hbox.lt
  by_cases hlt : k < A.length
  · obtain ⟨tb, toff, rfl, h4⟩ := HA.out (by intro h; simp [h] at hlt)
    obtain ⟨e1, -⟩ := h4 k hlt
    have hc0 := cb_zero hlt
    rw [← hc0] at e1
    obtain ⟨ac, hac⟩ : ∃ x, cb A k 0 = x := ⟨_, rfl⟩
    rw [hac] at e1
    have HAC := Lib.hid hac
    have d1 := Mem.cell_w hO.inn e1
    have d2 := Mem.cell_lt hO.inn e1
    have HO := Lib.hid hO
    clear hO hc0 hac h4 hbox
    go_wp2_with (refine wpList_make_row mkBools rfl (.tmp 24) (.tmp 24) rfl (M + 1) rfl rfl (by omega) (by unfold maxLen; omega) ?_)
    intro w3 hown hgr
    have hO2 := HO.out.make hown hgr
    generalize w2.heap.size = G at *
    have hP := hO2.fore (l₁ := .row (.slice (some ⟨G, 0, none⟩) (M + 1) (M + 1)) 4 1 (M + 1) (List.replicate (M + 1) (.bool false)) :: ritems 4 g (f1 A) M k) (a := .row (.slice (some ⟨OB, 0, none⟩) A.length A.length) 41 1 A.length (outer g M k A.length))
    have x1 := row_cellw hP.row (outer_get (g := g) (M := M) (k := k) hlt)
    have x2 := row_frozen hP.row k
    have x3 := (World.ownsRow.lt hP.row _ rfl).2
    have hQ := (hP.setRow k (.slice (some ⟨G, 0, none⟩) (M + 1) (M + 1))).unfore (l₁ := .row (.slice (some ⟨G, 0, none⟩) (M + 1) (M + 1)) 4 1 (M + 1) (List.replicate (M + 1) (.bool false)) :: ritems 4 g (f1 A) M k)
    rw [outer_set] at hQ
    have hnk : ¬ k < k := Nat.lt_irrefl k
    simp only [hnk, if_false] at x1
    have HQ := Lib.hid hQ
    clear hown hgr hO2 hP hQ HO c1 c2 d1 d2
    go_wp2
    generalize w3.setCell ⟨OB, k, none⟩ (.slice (some ⟨G, 0, none⟩) (M + 1) (M + 1)) = w4 at *
    clear x1 x2 x3
    have hR2 := HQ.out.fore (l₁ := .row (.slice (some ⟨G, 0, none⟩) (M + 1) (M + 1)) 4 1 (M + 1) (List.replicate (M + 1) (.bool false)) :: ritems 4 g (f1 A) M k)
    have x1 := row_cellw hR2.row (outer_get (g := fun s => if s = k then G else g s) (M := M) (k := k + 1) hlt)
    have hkk : k < k + 1 := Nat.lt_succ_self k
    simp only [hkk, if_true, rsl] at x1
    have x2 := HQ.out.row
    have x3 := row_cellw x2 (j := 0) (u := .bool false) (by simp)
    have x4 := row_frozen x2 0
    have x5 := (World.ownsRow.lt x2 _ rfl).2
    have hbox := HQ.out.at_obj (g := w.heap.size) (t := 24) (arr := #[.slice (some ⟨tb, toff, none⟩) A.length vc]) (by simp)
    have c1 := hbox.cell (i := 0) rfl
    have d1 := Mem.cell_w HQ.out.inn e1
    clear hR2 x2 hbox
    refine wp_cut_keep [1, 2, 5, 6] (fun vs w' => vs = [.int .i64 M, .pointer (some ⟨w.heap.size, 0, none⟩), .slice (some ⟨OB, 0, none⟩) A.length A.length, .int .i64 k] ∧ w' = (w4.setCell ⟨G, 0, none⟩ (.bool ac)).drew) ?_ ?_
    · intro Y hY
      go_region
      all_goals exact hY.out _ _ rfl ⟨rfl, rfl⟩
    rintro z1 vs w5 - ⟨rfl, rfl⟩
    simp [litL, lk]
    have hF := (HQ.out.setRow 0 (.bool ac)).dr
    have hrow : (List.replicate (M + 1) (Value.bool false)).set 0 (.bool ac) = brow (f1 A) M k := by
      apply List.ext_getElem?
      intro i
      rw [List.getElem?_set]
      by_cases h : 0 = i
      · subst h
        rw [if_pos rfl, brow_get _ (Nat.zero_le _), if_pos (by simp)]
        simp [f1, HAC.out]
      · rw [if_neg h]
        by_cases h2 : i ≤ M
        · rw [brow_get _ h2]
          have h0 : ¬ i = 0 := fun x => h x.symm
          have h3 : i < M + 1 := by omega
          simp [f1, h0, h3]
        · rw [List.getElem?_eq_none (by simp; omega), List.getElem?_eq_none (by simp [brow]; omega)]
    rw [hrow] at hF
    have hcg : ritems 4 g (f1 A) M k = ritems 4 (fun s => if s = k then G else g s) (f1 A) M k := ritems_congr (fun s hs => by show g s = if s = k then G else g s; rw [if_neg (by omega)]) (fun _ _ _ _ => rfl)
    rw [hcg] at hF
    have hF2 : Own w m (w4.setCell ⟨G, 0, none⟩ (.bool ac)).drew m (ritem 4 (fun s => if s = k then G else g s) (f1 A) M k :: (ritems 4 (fun s => if s = k then G else g s) (f1 A) M k ++ [.row (.slice (some ⟨OB, 0, none⟩) A.length A.length) 41 1 A.length (outer (fun s => if s = k then G else g s) M (k + 1) A.length), .obj w.heap.size 24 #[.slice (some ⟨tb, toff, none⟩) A.length vc]])) := by
      have e : ritem 4 (fun s => if s = k then G else g s) (f1 A) M k = .row (.slice (some ⟨G, 0, none⟩) (M + 1) (M + 1)) 4 1 (M + 1) (brow (f1 A) M k) := by simp [ritem, rsl]
      rw [e]
      exact hF
    have HF := Lib.hid hF2.matPush
    clear hF hF2 hrow hcg HQ x1 x3 x4 x5 c1 d1 HAC
    go_wp2
    exact hX.out _ _ _ (by omega) rfl ⟨k + 1, fun s => if s = k then G else g s, by omega, rfl, rfl, HF.out⟩
  · obtain rfl : k = A.length := by omega
    have hO2 : Own w m w2 m (ritems 4 g (f2 A 1) M A.length ++ [.row (.slice (some ⟨OB, 0, none⟩) A.length A.length) 41 1 A.length (outer g M A.length A.length), .obj w.heap.size 24 #[.slice va A.length vc]]) := by
      rw [← ritems_congr (fun _ _ => rfl) (fun s n _ _ => f1_f2 A s n)]
      exact hO
    have HO := Lib.hid hO2
    clear hO hO2 hk
    go_wp2
    refine wp_loop_keep [1, 2, 5, 7] (fun n vs w3 => ∃ j : Nat, j ≤ M ∧ n = M - j ∧ vs = [.int .i64 M, .pointer (some ⟨w.heap.size, 0, none⟩), .slice (some ⟨OB, 0, none⟩) A.length A.length, .int .i64 ((j + 1 : Nat) : Int)] ∧
      Own w m w3 m (ritems 4 g (f2 A (j + 1)) M A.length ++ [.row (.slice (some ⟨OB, 0, none⟩) A.length A.length) 41 1 A.length (outer g M A.length A.length), .obj w.heap.size 24 #[.slice va A.length vc]])) ?_ ?_
    · exact ⟨_, 0, Nat.zero_le _, rfl, rfl, HO.out⟩
    clear HO c1 c2 hbox
    rintro X1 z1 n1 vs1 w3 hX1 - ⟨j, hj, rfl, rfl, hO⟩
    simp [litL, lk]
    by_cases hltj : j < M
    · have hd : decide ((j : Int) + 1 ≤ (M : Int)) = true := decide_eq_true (by omega)
      have hO2 : Own w m w3 m (ritems 4 g (f3 A (j + 1) 0) M A.length ++ [.row (.slice (some ⟨OB, 0, none⟩) A.length A.length) 41 1 A.length (outer g M A.length A.length), .obj w.heap.size 24 #[.slice va A.length vc]]) := by
        rw [← ritems_congr (fun _ _ => rfl) (fun s n _ _ => f2_f3 A (j + 1) s n)]
        exact hO
      have HO := Lib.hid hO2
      clear hO hO2
      go_wp2
      refine wp_loop_keep [1, 2, 5, 7, 8] (fun n vs w4 => ∃ t : Nat, t ≤ A.length ∧ n = A.length - t ∧ vs = [.int .i64 M, .pointer (some ⟨w.heap.size, 0, none⟩), .slice (some ⟨OB, 0, none⟩) A.length A.length, .int .i64 ((j + 1 : Nat) : Int), .int .i64 t] ∧
        Own w m w4 m (ritems 4 g (f3 A (j + 1) t) M A.length ++ [.row (.slice (some ⟨OB, 0, none⟩) A.length A.length) 41 1 A.length (outer g M A.length A.length), .obj w.heap.size 24 #[.slice va A.length vc]])) ?_ ?_
      · exact ⟨_, 0, Nat.zero_le _, rfl, rfl, HO.out⟩
      clear HO
      rintro X2 z2 n2 vs2 w4 hX2 - ⟨t, ht, rfl, rfl, hO⟩
      simp [litL, lk]
      have hbox := hO.at_obj (g := w.heap.size) (t := 24) (arr := #[.slice va A.length vc]) (by simp)
      have c1 := hbox.cell (i := 0) rfl
      have c2 := hbox.lt
      clear hbox
      by_cases hltt : t < A.length
      · obtain ⟨tb, toff, rfl, h4⟩ := HA.out (by intro h; simp [h] at hltt)
        obtain ⟨-, ve, g2, ea, ec, rfl, g4, g5, g6⟩ := h4 t hltt
        unfold maxLen at g5
        have hf3 := fun s n => f4_f3 HW.out.1 HW.out.2 (k := j + 1) (by omega) hltt s n
        have hwe := wfEdges_sep (HW.out.1 _ (List.getElem_mem hltt))
        have hO2 : Own w m w4 m (ritems 4 g (f4 A (j + 1) t ((A[t]).edges.take 0)) M A.length ++ [.row (.slice (some ⟨OB, 0, none⟩) A.length A.length) 41 1 A.length (outer g M A.length A.length), .obj w.heap.size 24 #[.slice (some ⟨tb, toff, none⟩) A.length vc]]) := by
          rw [← ritems_congr (fun _ _ => rfl) (fun s n _ _ => (show f3 A (j + 1) t s n = f4 A (j + 1) t ((A[t]).edges.take 0) s n from f3_f4 A (j + 1) t s n))]
          exact hO
        have HO := Lib.hid (And.intro hO2 (And.intro hf3 hwe))
        have HG6 := Lib.hid g6
        clear hO hO2 hf3 hwe h4 g6
        generalize (A[t]).edges = es at *
        go_wp2
        refine wp_loop_keep [1, 2, 5, 7, 8, 9] (fun n vs w5 => ∃ i : Nat, i ≤ es.length ∧ n = es.length - i ∧ vs = [.int .i64 M, .pointer (some ⟨w.heap.size, 0, none⟩), .slice (some ⟨OB, 0, none⟩) A.length A.length, .int .i64 ((j + 1 : Nat) : Int), .int .i64 t, .int .i64 i] ∧
          Own w m w5 m (ritems 4 g (f4 A (j + 1) t (es.take i)) M A.length ++ [.row (.slice (some ⟨OB, 0, none⟩) A.length A.length) 41 1 A.length (outer g M A.length A.length), .obj w.heap.size 24 #[.slice (some ⟨tb, toff, none⟩) A.length vc]])) ?_ ?_
        · exact ⟨_, 0, Nat.zero_le _, rfl, rfl, HO.out.1⟩
        have HF3 := Lib.hid HO.out.2
        clear HO c1 c2
        rintro X3 z3 n3 vs3 w5 hX3 - ⟨i, hi, rfl, rfl, hO⟩
        simp [litL, lk]
        have hbox := hO.at_obj (g := w.heap.size) (t := 24) (arr := #[.slice (some ⟨tb, toff, none⟩) A.length vc]) (by simp)
        have c1 := hbox.cell (i := 0) rfl
        have c2 := hbox.lt
        have d1 := Mem.cell_w hO.inn g2
        have d2 := Mem.cell_lt hO.inn g2
        clear hbox
        by_cases hlti : i < es.length
        · obtain ⟨eb, eo, rfl, h10⟩ := HG6.out (by intro h; simp [h] at hlti)
          obtain ⟨-, -, e3, -⟩ := h10 i hlti
          have hsep := HF3.out.2 es[i] (List.getElem_mem hlti)
          have hstep := fun s n => f4_step A (j + 1) t (es.take i) es[i] s n
          rw [← List.take_succ_eq_append_getElem hlti] at hstep
          obtain ⟨to, hto⟩ := Int.eq_ofNat_of_zero_le hsep.2.2.1
          have htl : to < A.length := by have := hsep.2.2.2; omega
          have hton : (es[i]).to.toNat = to := by rw [hto]; rfl
          rw [hton] at hstep
          rw [hto] at e3
          have d3 := Mem.cell_w hO.inn e3
          have d4 := Mem.cell_lt hO.inn e3
          have hP := hO.fore (l₁ := ritems 4 g (f4 A (j + 1) t (es.take i)) M A.length)
          have x1 := row_cellw hP.row (outer_get (g := g) (M := M) (k := A.length) htl)
          have x2 := row_cellw hP.row (outer_get (g := g) (M := M) (k := A.length) hltt)
          simp only [htl, hltt, if_true, rsl] at x1 x2
          have x3 := (World.ownsRow.lt hP.row _ rfl).2
          have y1 := hO.matCell htl (n := j) (by omega)
          rw [f4_low (Nat.lt_succ_self j)] at y1
          have y2 := hO.matLt htl
          have y3 := hO.matCell hltt (n := j + 1) (by omega)
          have y4 := hO.matLt hltt
          have y5 := hO.matFrozen hltt (j + 1)
          obtain ⟨bc, hbc⟩ : ∃ x, cb A to j = x := ⟨_, rfl⟩
          rw [hbc] at y1
          have HS := Lib.hid (And.intro hstep (And.intro hbc hO))
          clear hstep hbc hsep hto hton hP h10 hO
          cases bc with
          | false =>
            have hO2 : Own w m w5 m (ritems 4 g (f4 A (j + 1) t (es.take (i + 1))) M A.length ++ [.row (.slice (some ⟨OB, 0, none⟩) A.length A.length) 41 1 A.length (outer g M A.length A.length), .obj w.heap.size 24 #[.slice (some ⟨tb, toff, none⟩) A.length vc]]) := by
              rw [← ritems_congr (fun _ _ => rfl) (fun s n _ _ => (show f4 A (j + 1) t (es.take i) s n = f4 A (j + 1) t (es.take (i + 1)) s n by
                rw [HS.out.1 s n, Nat.add_sub_cancel, HS.out.2.1, Bool.or_false]
                split <;> rfl))]
              exact HS.out.2.2
            have HO2 := Lib.hid hO2
            clear hO2
            go_wp2
            exact hX3.out _ _ _ (by omega) rfl ⟨i + 1, by omega, rfl, rfl, HO2.out⟩
          | true =>
            have hO2 : Own w m (w5.setCell ⟨g t, j + 1, none⟩ (.bool true)) m (ritems 4 g (f4 A (j + 1) t (es.take (i + 1))) M A.length ++ [.row (.slice (some ⟨OB, 0, none⟩) A.length A.length) 41 1 A.length (outer g M A.length A.length), .obj w.heap.size 24 #[.slice (some ⟨tb, toff, none⟩) A.length vc]]) := by
              rw [← ritems_congr (g := g) (b := bset (f4 A (j + 1) t (es.take i)) t (j + 1) true) (fun _ _ => rfl) (fun s n _ _ => (show _ = f4 A (j + 1) t (es.take (i + 1)) s n by
                rw [HS.out.1 s n, Nat.add_sub_cancel, HS.out.2.1, Bool.or_true]
                rfl))]
              exact HS.out.2.2.matSet hltt true
            have HO2 := Lib.hid hO2
            clear hO2
            go_wp2
            exact hX3.out _ _ _ (by omega) rfl ⟨i + 1, by omega, rfl, rfl, HO2.out⟩
        · obtain rfl : i = es.length := by omega
          have hO2 : Own w m w5 m (ritems 4 g (f3 A (j + 1) (t + 1)) M A.length ++ [.row (.slice (some ⟨OB, 0, none⟩) A.length A.length) 41 1 A.length (outer g M A.length A.length), .obj w.heap.size 24 #[.slice (some ⟨tb, toff, none⟩) A.length vc]]) := by
            rw [← ritems_congr (fun _ _ => rfl) (fun s n _ _ => (show f4 A (j + 1) t (es.take es.length) s n = f3 A (j + 1) (t + 1) s n by
              rw [List.take_length]; exact HF3.out.1 s n))]
            exact hO
          have HO2 := Lib.hid hO2
          clear hO2 hO hi
          go_wp2
          exact hX2.out _ _ _ (by omega) rfl ⟨t + 1, by omega, rfl, rfl, HO2.out⟩
      · obtain rfl : t = A.length := by omega
        have hO2 : Own w m w4 m (ritems 4 g (f2 A (j + 1 + 1)) M A.length ++ [.row (.slice (some ⟨OB, 0, none⟩) A.length A.length) 41 1 A.length (outer g M A.length A.length), .obj w.heap.size 24 #[.slice va A.length vc]]) := by
          rw [← ritems_congr (fun _ _ => rfl) (fun s n hs _ => f3_f2 A (j + 1) s n hs)]
          exact hO
        have HO2 := Lib.hid hO2
        clear hO2 hO ht
        go_wp2
        refine hX1.out _ _ _ (by omega) rfl ⟨j + 1, by omega, rfl, rfl, HO2.out⟩
    · obtain rfl : j = M := by omega
      have hd : decide ((j : Int) + 1 ≤ (j : Int)) = false := decide_eq_false (by omega)
      have HO := Lib.hid hO
      clear hO hj
      go_wp2
      refine hR.out _ _ ⟨_, rfl, HO.out.below, ?_⟩
      have hP := HO.out.fore (l₁ := ritems 4 g (f2 A (j + 1)) j A.length)
      have hOB := (hP.fresh _ (List.mem_cons_self ..) OB rfl).1
      have hlen : (canTab A j).length = A.length := by simp [canTab]
      rw [← hlen]
      refine ⟨_, _, rfl, Nat.le_refl _, by rw [hlen]; unfold maxLen; omega, fun _ => ⟨OB, 0, rfl, fun s hs => ?_⟩⟩
      rw [hlen] at hs
      rw [Nat.zero_add]
      have h1 := row_cellw hP.row (outer_get (g := g) (M := j) (k := A.length) hs)
      rw [if_pos hs] at h1
      refine ⟨rsl g j s, grow_cell hOB h1, ?_⟩
      have e : (canTab A j)[s]'(by rw [hlen]; exact hs) = (List.range (j + 1)).map fun n => cb A s n := by simp [canTab]
      rw [e]
      have hl2 : ((List.range (j + 1)).map fun n => cb A s n).length = j + 1 := by simp
      have hgs := HO.out.matNew hs
      refine ⟨some ⟨g s, 0, none⟩, j + 1, by rw [hl2]; rfl, by omega, by unfold maxLen; omega, fun _ => ⟨g s, 0, rfl, fun n hn => ?_⟩⟩
      rw [hl2] at hn
      rw [Nat.zero_add]
      have h2 := HO.out.matCell hs (n := n) (by omega)
      rw [f2_at hn] at h2
      have e2 : ((List.range (j + 1)).map fun n => cb A s n)[n]'(by rw [hl2]; exact hn) = cb A s n := by simp
      rw [e2]
      exact grow_cell hgs h2
end Cl
namespace Cl
open Go Go.RowKit Go.Proofs

/-- words behind a prefix, as strings -/
def preS (p : List UInt8) (l : List (List UInt8)) : List ByteArray := l.map fun x => bstr (p ++ x)
theorem preS_len (p : List UInt8) (l : List (List UInt8)) : (preS p l).length = l.length := by simp [preS]

theorem bstr_app (a b : List UInt8) : bstr a ++ bstr b = bstr (a ++ b) := by
  unfold bstr
  apply ByteArray.ext
  simp
theorem conv_byte (w : World) (x : Int) (b : UInt8) (hb : x = b.toNat) :
    (convert 90 9 (.slice (some ⟨w.heap.size, 0, none⟩) 1 1)).run Tryd.prog (w.alloc (.cells #[.int .u8 x] 5)) = .ok (.string (bstr [b])) (w.alloc (.cells #[.int .u8 x] 5)) := by
  subst hb
  have := run_convert_bytes_arg (w.alloc (.cells #[.int .u8 (b.toNat : Int)] 5)) 90 5 Tryd.underlying90 Tryd.underlying5 w.heap.size 0 1 1 [(b.toNat : Int)] rfl (fun i hi => by
    obtain rfl : i = 0 := by omega
    simp) _ Tryd.underlying9
  rw [this]
  have := strOfNums_bytes [b]
  simp only [List.map_cons, List.map_nil] at this
  rw [this]
  rfl
set_option maxRecDepth 100000 in
set_option maxHeartbeats 8000000 in
theorem r06words_any (v vt : Value) (A : Table) (M : Nat) (m : Mem) (hA : statesAt m v A) (ht : boolssAt m vt (canTab A M)) (hw : WF A) (hb : Bytes A) (hM : M ≤ 1000000) (_ : A.length ≤ 100000) :
    ∀ (len : Nat), len ≤ M → ∀ (s : Nat) (n : Int) (p : List UInt8) (mm : Mem) (w : World), s < A.length → -9223372036854775808 ≤ n → n ≤ 1000 → p.length + len ≤ 2000000 → m.le mm → mm.inn w →
      Calls Tryd.prog 44 #[.agg #[v], vt, .int .i64 s, .int .i64 len, .int .i64 n, .string (bstr p)] w fun e w' => ∃ r, e = .returned r ∧ Below w.heap.size w w' ∧ strsAt (mm.grow w w') r (preS p ((wex A len s).take n.toNat)) := by
  have hA' := hA
  have ht' := ht
  obtain ⟨va, vc, rfl, a1, a2, a3⟩ := hA
  obtain ⟨ta, tc, rfl, t1, t2, t3⟩ := ht
  unfold maxLen at a2 t2
  have hct : (canTab A M).length = A.length := by simp [canTab]
  rw [hct] at t1 ht' ⊢
  have HA := Lib.hid (And.intro a3 (And.intro t3 (And.intro hw hb)))
  clear a3 t3 hw hb hct
  intro len
  induction len with
  | zero =>
    intro hlen s n p mm w hs hn1 hn2 hp hmm hm
    refine calls_hide fun R hR => ?_
    obtain ⟨tb, toff, rfl, ht3⟩ := HA.out.2.1 (by intro h; have := congrArg List.length h; simp [canTab] at this; rw [this] at hs; simp at hs)
    obtain ⟨u, u1, ua, uc, rfl, u2, u3, u4⟩ := ht3 s (by simpa [canTab] using hs)
    have e1 : (canTab A M)[s]'(by simpa [canTab] using hs) = (List.range (M + 1)).map fun n => cb A s n := by simp [canTab]
    rw [e1] at u1 u2 u4
    simp only [List.length_map, List.length_range] at u1 u2 u4
    obtain ⟨ub, uoff, rfl, u5⟩ := u4 (by simp)
    have u6 := u5 0 (by omega)
    simp at u6
    unfold boolAt at u6
    have d1 := Mem.cell_w hm (Mem.cell_le hmm u1)
    have d2 := Mem.cell_lt hm (Mem.cell_le hmm u1)
    have d3 := Mem.cell_w hm (Mem.cell_le hmm u6)
    have d4 := Mem.cell_lt hm (Mem.cell_le hmm u6)
    unfold maxLen at u3
    obtain ⟨bb, hbb⟩ : ∃ x, cb A s 0 = x := ⟨_, rfl⟩
    rw [hbb] at d3 u6
    have hO := (Own.start hm).al #[.slice va A.length vc] 24
    have HO := Lib.hid hO
    have HBB := Lib.hid hbb
    clear hO hbb ht3 u4 u5 e1
    cases bb with
    | false =>
      have hnil : wex A 0 s = [] := by
        have := HBB.out
        unfold cb at this
        simpa using this
      have HN := Lib.hid hnil
      clear hnil
      go_enter Tryd.func44, Tryd.ntmps44
      go_wp2
      refine hR.out _ _ ⟨_, rfl, HO.out.below, ?_⟩
      rw [HN.out]
      exact ⟨none, 0, by simp [preS], by simp [preS], Nat.zero_le _, fun h => absurd (by simp [preS]) h⟩
    | true =>
      by_cases hn : n ≤ 0
      · have hd : decide (n ≤ 0) = true := decide_eq_true hn
        go_enter Tryd.func44, Tryd.ntmps44
        go_wp2
        refine hR.out _ _ ⟨_, rfl, HO.out.below, ?_⟩
        have : n.toNat = 0 := by omega
        rw [this]
        exact ⟨none, 0, by simp [preS], by simp [preS], Nat.zero_le _, fun h => absurd (by simp [preS]) h⟩
      · have hd : decide (n ≤ 0) = false := decide_eq_false hn
        have hw0 : wex A 0 s = [[]] := by
          have h1 := HBB.out
          unfold cb at h1
          have h2 : ∀ x ∈ wex A 0 s, x = [] := fun x hx => List.eq_nil_of_length_eq_zero ((mem_wex A 0 s x).1 hx).1
          have h3 := (wex_sorted A 0 s)
          match hq : wex A 0 s, h1, h2, h3 with
          | [], h1, _, _ => simp at h1
          | [x], _, h2, _ => rw [h2 x (by simp)]
          | x :: y :: r, _, h2, h3 =>
            have e1 := h2 x (by simp)
            have e2 := h2 y (by simp)
            rw [e1, e2] at h3
            simp at h3
            exact absurd h3.1.1 (slt_irrefl [])
        have HN := Lib.hid hw0
        have hO2 := HO.out.al #[.string (bstr p)] 9
        have hsz : (w.alloc (.cells #[.slice va A.length vc] 24)).heap.size = w.heap.size + 1 := by simp
        rw [hsz] at hO2
        have HO2 := Lib.hid hO2
        clear hw0 hO2 hsz
        go_enter Tryd.func44, Tryd.ntmps44
        go_wp2
        refine hR.out _ _ ⟨_, rfl, HO2.out.below, ?_⟩
        have hge := (HO2.out.fresh _ (List.mem_cons_self ..) _ rfl).1
        have e : preS p ((wex A 0 s).take n.toNat) = [bstr p] := by
          rw [HN.out]
          have : 1 ≤ n.toNat := by omega
          rw [List.take_of_length_le (by simpa using this)]
          simp [preS]
        rw [e]
        refine ⟨_, _, rfl, Nat.le_refl _, by simp [maxLen], fun _ => ⟨_, 0, rfl, fun i hi => ?_⟩⟩
        obtain rfl : i = 0 := by simpa using hi
        exact ⟨grow_cell hge (HO2.out.obj.cell (i := 0) rfl), by simp [bstr, ByteArray.size, maxLen]; omega⟩
  | succ len ih =>
    intro hlen s n p mm w hs hn1 hn2 hp hmm hm
    have IH := Lib.hid ih
    clear ih
    refine calls_hide fun R hR => ?_
    obtain ⟨tb, toff, rfl, ht3⟩ := HA.out.2.1 (by intro h; have := congrArg List.length h; simp [canTab] at this; rw [this] at hs; simp at hs)
    obtain ⟨u, u1, ua, uc, rfl, u2, u3, u4⟩ := ht3 s (by simpa [canTab] using hs)
    have e1 : (canTab A M)[s]'(by simpa [canTab] using hs) = (List.range (M + 1)).map fun n => cb A s n := by simp [canTab]
    rw [e1] at u1 u2 u4
    simp only [List.length_map, List.length_range] at u1 u2 u4
    obtain ⟨ub, uoff, rfl, u5⟩ := u4 (by simp)
    have u6 := u5 (len + 1) (by omega)
    simp at u6
    unfold boolAt at u6
    have d1 := Mem.cell_w hm (Mem.cell_le hmm u1)
    have d2 := Mem.cell_lt hm (Mem.cell_le hmm u1)
    have d3 := Mem.cell_w hm (Mem.cell_le hmm u6)
    have d4 := Mem.cell_lt hm (Mem.cell_le hmm u6)
    unfold maxLen at u3
    obtain ⟨bb, hbb⟩ : ∃ x, cb A s (len + 1) = x := ⟨_, rfl⟩
    rw [hbb] at d3 u6
    have hO := (Own.start hm).al #[.slice va A.length vc] 24
    have HO := Lib.hid hO
    have HBB := Lib.hid hbb
    clear hO hbb ht3 u4 u5 e1
    cases bb with
    | false =>
      have hnil : wex A (len + 1) s = [] := by
        have := HBB.out
        unfold cb at this
        simpa using this
      have HN := Lib.hid hnil
      clear hnil
      go_enter Tryd.func44, Tryd.ntmps44
      go_wp2
      refine hR.out _ _ ⟨_, rfl, HO.out.below, ?_⟩
      rw [HN.out]
      exact ⟨none, 0, by simp [preS], by simp [preS], Nat.zero_le _, fun h => absurd (by simp [preS]) h⟩
    | true =>
      by_cases hn : n ≤ 0
      · have hd : decide (n ≤ 0) = true := decide_eq_true hn
        go_enter Tryd.func44, Tryd.ntmps44
        go_wp2
        refine hR.out _ _ ⟨_, rfl, HO.out.below, ?_⟩
        have : n.toNat = 0 := by omega
        rw [this]
        exact ⟨none, 0, by simp [preS], by simp [preS], Nat.zero_le _, fun h => absurd (by simp [preS]) h⟩
      · have hd : decide (n ≤ 0) = false := decide_eq_false hn
        have hd2 : (((len + 1 : Nat) : Int) == 0) = false := beq_eq_false_iff_ne.2 (by omega)
        obtain ⟨sb, soff, rfl, h4⟩ := HA.out.1 (by intro h; simp [h] at hs)
        obtain ⟨-, ve, g2, ea, ec, rfl, g4, g5, g6⟩ := h4 s hs
        have hwx := wex_esW HA.out.2.2.1 HA.out.2.2.2 hs len
        have hsep := wfEdges_sep (HA.out.2.2.1 _ (List.getElem_mem hs))
        have hby := HA.out.2.2.2 _ (List.getElem_mem hs)
        generalize (A[s]).edges = es at *
        have HX := Lib.hid (And.intro hwx (And.intro hsep hby))
        have G6 := Lib.hid g6
        have g2' := Mem.cell_le hmm g2
        have hb0 := HO.out.obj.cell (i := 0) rfl
        unfold maxLen at g5
        obtain ⟨k, rfl⟩ : ∃ k : Nat, n = k := ⟨n.toNat, by omega⟩
        have hO2 := HO.out.nilRow 9 1
        have HO2 := Lib.hid hO2
        clear hwx hsep hby g6 h4 hO2 HO
        go_enter Tryd.func44, Tryd.ntmps44
        go_wp2
        refine wp_loop_keep [1, 2, 3, 4, 5, 6, 13, 14] (fun n vs w2 => ∃ (i : Nat) (vo : Value) (out : List (List UInt8)) (mk : Mem), i ≤ es.length ∧ n = es.length - i ∧ vs = [.slice (some ⟨tb, toff, none⟩) A.length tc, .int .i64 s, .int .i64 ((len + 1 : Nat) : Int), .int .i64 k, .string (bstr p), .pointer (some ⟨w.heap.size, 0, none⟩), vo, .int .i64 i] ∧
          out = (esW A len (es.take i)).take k ∧ Own w mm w2 mk [.row vo 9 1 out.length ((preS p out).map Value.string), .obj w.heap.size 24 #[.slice (some ⟨sb, soff, none⟩) A.length vc]] ∧ mm.le mk) ?_ ?_
        · exact ⟨_, 0, .slice none 0 0, [], mm, Nat.zero_le _, rfl, rfl, by simp [esW], HO2.out, Mem.le_refl _⟩
        clear HO2 d1 d2 d3 d4 hb0
        rintro X z n vs w2 hX - ⟨i, vo, out, mk, hi, rfl, rfl, hout, hO, hmk⟩
        simp [litL, lk]
        obtain ⟨voa, voc, rfl⟩ := row_slice hO.row
        have hb0 := hO.swap.obj.cell (i := 0) rfl
        have hb1 := hO.swap.obj.lt
        have d1 := Mem.cell_w hO.inn (Mem.cell_le hmk g2')
        have d2 := Mem.cell_lt hO.inn (Mem.cell_le hmk g2')
        have hok : out.length ≤ k := by rw [hout]; exact List.length_take_le _ _
        by_cases hlt : i < es.length
        · by_cases hk2 : out.length < k
          · obtain ⟨eb, eo, rfl, h10⟩ := G6.out (by intro h; simp [h] at hlt)
            obtain ⟨x1, x2, x3, x4, x5, -⟩ := h10 i hlt
            have f1 := Mem.cell_w hO.inn (Mem.cell_le hmk (Mem.cell_le hmm x1))
            have f2 := Mem.cell_w hO.inn (Mem.cell_le hmk (Mem.cell_le hmm x2))
            have f3 := Mem.cell_w hO.inn (Mem.cell_le hmk (Mem.cell_le hmm x3))
            have f4 := Mem.cell_lt hO.inn (Mem.cell_le hmk (Mem.cell_le hmm x1))
            have hse := HX.out.2.1 es[i] (List.getElem_mem hlt)
            have hcp := fun c (hc : c ≤ (es[i]).hi + 1 - (es[i]).lo) => catW_pre A len es hlt hc
            have hca := catW_all A len es hlt
            have hc0 := catW_zero A len es i es[i]
            generalize es[i] = e at *
            obtain ⟨to, hto⟩ := Int.eq_ofNat_of_zero_le hse.2.2.1
            have htl : to < A.length := by have := hse.2.2.2; omega
            have hlh := hse.2.1
            have hO3 := (hO.al #[.int .u8 e.lo, .int .u8 e.hi, .int .i64 e.to] 51).swap
            have HO3 := Lib.hid hO3
            have HC0 := Lib.hid (And.intro hcp (And.intro hca (And.intro (show out = (catW A len es i e 0).take k by rw [hc0]; exact hout) hto)))
            clear hcp hca hc0 hto hO hO3 hout h10 hse
            go_wp2
            generalize w2.alloc (.cells #[.int .u8 e.lo, .int .u8 e.hi, .int .i64 e.to] 51) = w3 at *
            generalize w2.heap.size = E at *
            refine wp_loop_keep [1, 2, 3, 4, 5, 6, 13, 14, 15, 16] (fun n vs w4 => ∃ (c : Nat) (vo : Value) (out : List (List UInt8)) (mk : Mem), c ≤ e.hi + 1 - e.lo ∧ n = e.hi + 1 - e.lo - c ∧ vs = [.slice (some ⟨tb, toff, none⟩) A.length tc, .int .i64 s, .int .i64 ((len + 1 : Nat) : Int), .int .i64 k, .string (bstr p), .pointer (some ⟨w.heap.size, 0, none⟩), vo, .int .i64 i, .pointer (some ⟨E, 0, none⟩), .int .i64 ((e.lo + c : Nat) : Int)] ∧
              out = (catW A len es i e c).take k ∧ Own w mm w4 mk [.row vo 9 1 out.length ((preS p out).map Value.string), .obj E 51 #[.int .u8 e.lo, .int .u8 e.hi, .int .i64 e.to], .obj w.heap.size 24 #[.slice (some ⟨sb, soff, none⟩) A.length vc]] ∧ mm.le mk) ?_ ?_
            · exact ⟨_, 0, _, out, mk, Nat.zero_le _, rfl, rfl, HC0.out.2.2.1, HO3.out, hmk⟩
            have HC := Lib.hid (And.intro HC0.out.1 (And.intro HC0.out.2.1 HC0.out.2.2.2))
            clear HC0 HO3 f1 f2 f3 f4 hb0 hb1 d1 d2 hk2 hok hmk
            rintro Y z1 n1 vs1 w4 hY - ⟨c, vo, out, mk, hc, rfl, rfl, hout, hO, hmk⟩
            simp [litL, lk]
            obtain ⟨voa, voc, rfl⟩ := row_slice hO.row
            have hb0 := hO.third.obj.cell (i := 0) rfl
            have hb1 := hO.third.obj.lt
            have q0 := hO.swap.obj.cell (i := 0) rfl
            have q1 := hO.swap.obj.cell (i := 1) rfl
            have q2 := hO.swap.obj.cell (i := 2) rfl
            have q3 := hO.swap.obj.lt
            have hok : out.length ≤ k := by rw [hout]; exact List.length_take_le _ _
            by_cases hcl : c < e.hi + 1 - e.lo
            · by_cases hk2 : out.length < k
              · have hd1 : decide ((e.lo : Int) + (c : Int) ≤ (e.hi : Int)) = true := decide_eq_true (by omega)
                have hd2 : decide ((out.length : Int) < (k : Int)) = true := decide_eq_true (by omega)
                have HO := Lib.hid hO
                have HOUT := Lib.hid hout
                have hto := HC.out.2.2
                rw [hto] at q2
                clear hO hout hto
                obtain ⟨bt, hbt⟩ := byteOf (e.lo + c) (by omega)
                have hcv := conv_byte w4 ((e.lo : Int) + (c : Int)) bt (by omega)
                have hcat := bstr_app p [bt]
                have hwu : IntKind.u8.wrap ((e.lo : Int) + (c : Int)) = (e.lo : Int) + (c : Int) := IntWalk.u8_in _ (by omega)
                have hOa := HO.out.al' (.cells #[.int .u8 ((e.lo : Int) + (c : Int))] 5)
                have HI := Lib.hid (IH.out (by omega) to ((k - out.length : Nat) : Int) (p ++ [bt]) mk _ htl (by omega) (by omega) (by simp; omega) (Mem.le_trans hmm hmk) hOa.inn)
                have hsub : ((k - out.length : Nat) : Int) = (k : Int) - (out.length : Int) := by omega
                rw [hsub] at HI
                have HOa := Lib.hid hOa
                have HBT := Lib.hid (And.intro hbt hsub)
                clear hbt hsub hOa HO
                have hns : ¬ 9223372036854775807 < (bstr p).size + (bstr [bt]).size := by
                  have h1 : (bstr p).size = p.length := by simp [bstr, ByteArray.size]
                  have h2 : (bstr [bt]).size = 1 := rfl
                  omega
                go_wp2_with fail
                refine HI.out.mono ?_
                rintro e' w5 ⟨r, rfl, hb5, hst⟩
                have hO5 := HOa.out.call hb5
                have hle5 := Mem.le_grow (w := w5) HOa.out.inn
                have hkn : ((k : Int) - (out.length : Int)).toNat = k - out.length := by omega
                rw [hkn] at hst
                obtain ⟨q, hq⟩ : ∃ q, (wex A len to).take (k - out.length) = q := ⟨_, rfl⟩
                rw [hq] at hst
                have hql : q.length ≤ k - out.length := by rw [← hq]; exact List.length_take_le _ _
                obtain ⟨ra, rc, rfl⟩ : ∃ ra rc, r = .slice ra (preS (p ++ [bt]) q).length rc := by obtain ⟨x, y, e, -⟩ := hst; exact ⟨x, y, e⟩
                have hnews := strs_news hO5.inn hst
                have hvr := hO5.row
                have hpl : (preS (p ++ [bt]) q).length = q.length := preS_len _ _
                rw [hpl] at hnews ⊢
                have HO5 := Lib.hid hO5
                have HQ := Lib.hid (And.intro hq (And.intro hpl hle5))
                clear HI HOa hst hO5 hb5 hcv hcat hns hq hpl hkn hle5
                go_wp2_with (at_builtin; refine wpList_append_any2 tyStrs rfl (.tmp 75) (.tmp 92) rfl (.slice voa out.length voc) out.length ((preS p out).map Value.string) rfl hvr ra q.length rc ((preS (p ++ [bt]) q).map Value.string) rfl (by rw [List.length_map, HQ.out.2.1, Nat.mul_one]) hnews (by simp [Value.oneCell']) (by unfold maxLen; omega) (by omega) ?_)
                intro na nc w6 hown hgrow hrow
                have hO6 := HO5.out.app hown hgrow hrow (Nat.le_refl _)
                have hnew : (preS p out).map Value.string ++ (preS (p ++ [bt]) q).map Value.string = (preS p (out ++ q.map (bt :: ·))).map Value.string := by
                  simp [preS]
                rw [hnew] at hO6
                have hlen2 : (out ++ q.map (bt :: ·)).length = out.length + q.length := by simp
                have hsucc := catW_succ A len es i e c
                have hbW : byteW A len e.to (e.lo + c) = (wex A len to).map (bt :: ·) := by
                  unfold byteW
                  rw [HC.out.2.2, ← HBT.out.1, u8_of]
                have hout2 : out ++ q.map (bt :: ·) = (catW A len es i e (c + 1)).take k := by
                  rw [hsucc, hbW, ← HQ.out.1, HOUT.out, List.map_take]
                  refine take_more ?_
                  rw [← HOUT.out]; exact hk2
                have HO6 := Lib.hid (And.intro hO6 (And.intro hout2 (Mem.le_trans hmk HQ.out.2.2)))
                clear hown hgrow hrow hO6 hnew hsucc hbW hout2 hvr hnews HO5
                go_wp2
                refine hY.out _ _ _ (by omega) rfl ⟨c + 1, .slice na (out.length + q.length) nc, out ++ q.map (bt :: ·), _, by omega, rfl, ?_, HO6.out.2.1, ?_, HO6.out.2.2⟩
                · rfl
                · rw [hlen2]; exact HO6.out.1
              · have hd1 : decide ((e.lo : Int) + (c : Int) ≤ (e.hi : Int)) = true := decide_eq_true (by omega)
                have hd2 : decide ((out.length : Int) < (k : Int)) = false := decide_eq_false (by omega)
                have hkl : k ≤ (catW A len es i e c).length := by
                  have := congrArg List.length hout
                  rw [List.length_take] at this
                  omega
                have hout2 : out = (esW A len (es.take (i + 1))).take k := by rw [hout]; exact take_pre (HC.out.1 c hc) hkl
                have HO := Lib.hid (And.intro hO.drop2 (And.intro hout2 hmk))
                clear hO hout hout2 hkl
                go_wp2
                exact hX.out _ _ _ (by omega) rfl ⟨i + 1, _, out, mk, by omega, rfl, rfl, HO.out.2.1, HO.out.1, HO.out.2.2⟩
            · have hd1 : decide ((e.lo : Int) + (c : Int) ≤ (e.hi : Int)) = false := decide_eq_false (by omega)
              have hout2 : out = (esW A len (es.take (i + 1))).take k := by
                rw [hout, ← HC.out.2.1, show c = e.hi + 1 - e.lo by omega]
              have HO := Lib.hid (And.intro hO.drop2 (And.intro hout2 hmk))
              clear hO hout hout2
              go_wp2
              exact hX.out _ _ _ (by omega) rfl ⟨i + 1, _, out, mk, by omega, rfl, rfl, HO.out.2.1, HO.out.1, HO.out.2.2⟩
          · have hd2 : decide ((out.length : Int) < (k : Int)) = false := decide_eq_false (by omega)
            have hkl : k ≤ (esW A len (es.take i)).length := by
              have := congrArg List.length hout
              rw [List.length_take] at this
              omega
            have hout2 : out = (esW A len es).take k := by
              have := take_pre (esW_pre A len es (i := i) (j := es.length) (by omega) (Nat.le_refl _)) hkl
              rw [List.take_length] at this
              rw [hout]; exact this
            have HOUT := Lib.hid hout2
            clear hout hkl hout2
            have hall : (wex A (len + 1) s).take k = out := by rw [HX.out.1]; exact HOUT.out.symm
            have hmem : ∀ x ∈ preS p out, x.size ≤ maxLen := fun x hx => by
              obtain ⟨y, hy, rfl⟩ := List.mem_map.1 hx
              rw [← hall] at hy
              have := ((mem_wex A (len + 1) s y).1 (List.mem_of_mem_take hy)).1
              have h1 : (bstr (p ++ y)).size = p.length + y.length := by simp [bstr, ByteArray.size]
              rw [h1]; unfold maxLen; omega
            have hpl : (preS p out).length = out.length := preS_len _ _
            have hst := strsAt_of_row (m := mk) (l := preS p out) (by rw [hpl]; exact hO.row) hmem
            have hst := strsAt_le hO.sealRow.done hst
            have Hk := Lib.hid (And.intro hO.below (And.intro hst hall))
            clear hst hmem hall hpl hO
            go_wp2
            refine hR.out _ _ ⟨_, rfl, Hk.out.1, ?_⟩
            rw [show ((k : Int)).toNat = k from rfl, Hk.out.2.2]
            exact Hk.out.2.1
        · obtain rfl : i = es.length := by omega
          have hout2 : out = (esW A len es).take k := by rw [hout, List.take_length]
          have HOUT := Lib.hid hout2
          clear hout hout2 hi
          have hall : (wex A (len + 1) s).take k = out := by rw [HX.out.1]; exact HOUT.out.symm
          have hmem : ∀ x ∈ preS p out, x.size ≤ maxLen := fun x hx => by
            obtain ⟨y, hy, rfl⟩ := List.mem_map.1 hx
            rw [← hall] at hy
            have := ((mem_wex A (len + 1) s y).1 (List.mem_of_mem_take hy)).1
            have h1 : (bstr (p ++ y)).size = p.length + y.length := by simp [bstr, ByteArray.size]
            rw [h1]; unfold maxLen; omega
          have hpl : (preS p out).length = out.length := preS_len _ _
          have hst := strsAt_of_row (m := mk) (l := preS p out) (by rw [hpl]; exact hO.row) hmem
          have hst := strsAt_le hO.sealRow.done hst
          have Hk := Lib.hid (And.intro hO.below (And.intro hst hall))
          clear hst hmem hall hpl hO
          go_wp2
          refine hR.out _ _ ⟨_, rfl, Hk.out.1, ?_⟩
          rw [show ((k : Int)).toNat = k from rfl, Hk.out.2.2]
          exact Hk.out.2.1
end Cl
namespace Cl
open Go Go.RowKit Go.Proofs

theorem first_nil {f : List UInt8 → Bool} {k : Nat} (h : k = 0 ∨ ∀ x, f x = false) : IsFirst f k [] := by
  refine ⟨.nil, (fun x hx => by cases hx), Nat.zero_le _, fun y hy _ => ?_⟩
  rcases h with h | h
  · exact ⟨(by rw [h]; rfl), fun x hx => by cases hx⟩
  · rw [h y] at hy; cases hy
theorem goodT_acc (A : Table) (x : List UInt8) : accFrom (goodT A) 0 x = Sem A x := by
  unfold goodT Sem
  by_cases h : Canon A
  · simp [tf_true h]
  · simp [tf_false h]; exact accFrom_nil x

set_option maxRecDepth 100000 in
set_option maxHeartbeats 8000000 in
theorem r06Words_any (v0 : Value) (A : Table) (n' : Int) (m : Mem) (w : World) (hm : m.inn w) (hA : statesAt m v0 A) (hn1 : -9223372036854775808 ≤ n') (hn2 : n' ≤ 9223372036854775807) (hlA : A.length ≤ 100000) (hlen : (A.length + 1) * (want1 n' + 1) ≤ 1000000) :
    Calls Tryd.prog 19 #[.agg #[v0], .int .i64 n'] w fun e w' => ∃ r ws, e = .returned r ∧ Below w.heap.size w w' ∧ strsAt (m.grow w w') r (ws.map bstr) ∧ IsFirst (Sem A) (want1 n') ws := by
  have hO := (Own.start hm).al #[v0] 24
  have HM := Lib.hid (sound_any v0 A m _ hO.inn hA (by omega))
  have HO := Lib.hid hO
  obtain ⟨va, vc, rfl, -⟩ := hA
  have hgc := goodT_canon A
  have hgl := goodT_len A
  have hsem : accFrom (goodT A) 0 = Sem A := funext (goodT_acc A)
  have hmul : ((goodT A).length + 1) * (want1 n' + 1) ≤ (A.length + 1) * (want1 n' + 1) := Nat.mul_le_mul (by omega) (Nat.le_refl _)
  generalize goodT A = T at *
  clear hO
  refine calls_hide fun R hR => ?_
  go_enter Tryd.func19, Tryd.ntmps19
  go_wp2_with fail
  refine HM.out.mono ?_
  rintro e w1 ⟨r, rfl, hb1, hst⟩
  obtain ⟨ra, rc, rfl⟩ : ∃ ra rc, r = .slice ra T.length rc := by obtain ⟨x, y, e, -⟩ := hst; exact ⟨x, y, e⟩
  have hO1 := (HO.out.call hb1).al #[.slice ra T.length rc] 24
  have hle1 := Mem.le_grow (w := w1) HO.out.inn
  have HO1 := Lib.hid hO1
  have HS := Lib.hid (And.intro hst (And.intro hgc hsem))
  clear hO1 HM HO hb1 hst hgc hsem hle1
  generalize m.grow _ w1 = mk at *
  have c1 := HO1.out.obj.cell (i := 0) rfl
  have c2 := HO1.out.obj.lt
  have c3 := HO1.out.obj.frozen 0
  by_cases h0 : T.length = 0
  · have hd : ((T.length : Int) == 0) = true := by simp [h0]
    have H0 := Lib.hid h0
    clear h0
    go_wp2
    refine hR.out _ _ ⟨_, [], rfl, HO1.out.below, ⟨none, 0, rfl, Nat.le_refl _, Nat.zero_le _, fun h => absurd rfl h⟩, first_nil (.inr fun x => ?_)⟩
    rw [← HS.out.2.2, List.eq_nil_of_length_eq_zero H0.out]
    exact accFrom_nil x
  · have hd : ((T.length : Int) == 0) = false := beq_eq_false_iff_ne.2 (by omega)
    obtain ⟨wv, hwv⟩ : ∃ x : Int, min n' 1000 = x := ⟨_, rfl⟩
    have hwk : max wv 0 = ((want1 n' : Nat) : Int) := by unfold want1; omega
    obtain ⟨M, hM⟩ : ∃ x : Nat, (T.length + 1) * (want1 n' + 1) = x := ⟨_, rfl⟩
    have hMi : ((T.length : Int) + 1) * (((want1 n' : Nat) : Int) + 1) = (M : Int) := by
      rw [← hM, Int.natCast_mul]; rfl
    have hMb : M ≤ 1000000 := by omega
    have hTl : T.length ≤ 100000 := by omega
    have hwr : wrap64 (M : Int) = (M : Int) := by unfold wrap64; omega
    have hbig : want1 n' * T.length ≤ M := by
      rw [← hM, Nat.mul_comm]
      exact Nat.mul_le_mul (by omega) (by omega)
    have hwv1 : wv ≤ 1000 := by omega
    have hwv2 : -9223372036854775808 ≤ wv := by omega
    have HK := Lib.hid (And.intro hbig hwk)
    have hkw : want1 n' ≤ 1000 := by unfold want1; omega
    have hkv : wv ≤ 0 ∨ wv = ((want1 n' : Nat) : Int) := by omega
    have HKV := Lib.hid hkv
    have HCan := Lib.hid (fun w (hw : mk.inn w) => r06can_any (.slice ra T.length rc) T M mk w hw HS.out.1 HS.out.2.1.wf HS.out.2.1.bytes (by omega) (by omega))
    have H0 := Lib.hid (show 0 < T.length by omega)
    clear hM hbig hmul hgl h0 hkv
    go_wp2_with fail
    refine (HCan.out _ HO1.out.inn).mono ?_
    rintro e w2 ⟨vt, rfl, hb2, hct⟩
    obtain ⟨tb, tc, rfl⟩ : ∃ x y, vt = .slice x T.length y := by obtain ⟨x, y, e, -⟩ := hct; exact ⟨x, y, by rw [e]; simp [canTab]⟩
    have hO2 := (HO1.out.call hb2).nilRow 9 1
    have hle2 := Mem.le_grow (w := w2) HO1.out.inn
    have HWd := Lib.hid (r06words_any (.slice ra T.length rc) (.slice tb T.length tc) T M _ (statesAt_le hle2 HS.out.1) hct HS.out.2.1.wf HS.out.2.1.bytes (by omega) (by omega))
    have HO2 := Lib.hid hO2
    have HS2 := Lib.hid HS.out.2
    clear hO2 hct HCan HO1 hb2 c1 c2 c3 hle2 HS hwv
    generalize mk.grow _ w2 = mk2 at *
    generalize w1.heap.size = G at *
    go_wp2
    refine wp_loop_keep [5, 6, 7, 8, 9, 10] (fun n vs w3 => ∃ (L : Nat) (vo : Value) (out : List (List UInt8)) (mk' : Mem), L ≤ M + 1 ∧ n = M + 1 - L ∧ vs = [.pointer (some ⟨G, 0, none⟩), .int .i64 wv, .int .i64 M, .slice tb T.length tc, vo, .int .i64 L] ∧
      out = (enum T 0 L).take (want1 n') ∧ Own w m w3 mk' [.row vo 9 1 out.length ((preS [] out).map Value.string), .obj G 24 #[.slice ra T.length rc], .obj w.heap.size 24 #[.slice va A.length vc]] ∧ mk2.le mk') ?_ ?_
    · exact ⟨_, 0, .slice none 0 0, [], mk2, Nat.zero_le _, rfl, rfl, by simp [enum], HO2.out, Mem.le_refl _⟩
    clear HO2
    rintro X z n vs w3 hX - ⟨L, vo, out, mk', hL, rfl, rfl, hout, hO, hmk⟩
    simp [litL, lk]
    obtain ⟨voa, voc, rfl⟩ := row_slice hO.row
    have b0 := hO.swap.obj.cell (i := 0) rfl
    have b1 := hO.swap.obj.lt
    have hok : out.length ≤ want1 n' := by rw [hout]; exact List.length_take_le _ _
    by_cases hlt : L ≤ M
    · by_cases hk2 : out.length < want1 n'
      · have hwk2 : wv = ((want1 n' : Nat) : Int) := by have := HKV.out; omega
        have hd1 : decide ((L : Int) ≤ (M : Int)) = true := decide_eq_true (by omega)
        have hd2 : decide ((out.length : Int) < wv) = true := decide_eq_true (by omega)
        have HI := Lib.hid (HWd.out L (by omega) 0 (wv - (out.length : Int)) [] mk' w3 H0.out (by omega) (by omega) (by simp; omega) hmk hO.inn)
        have hkn : (wv - (out.length : Int)).toNat = want1 n' - out.length := by omega
        have HO := Lib.hid (And.intro hO (And.intro hout hkn))
        clear hO hout hkn hwk2
        go_wp2_with fail
        refine HI.out.mono ?_
        rintro e' w5 ⟨r, rfl, hb5, hst⟩
        have hO5 := HO.out.1.call hb5
        have hle5 := Mem.le_grow (w := w5) HO.out.1.inn
        rw [HO.out.2.2] at hst
        obtain ⟨q, hq⟩ : ∃ q, (wex T L ((0 : Nat) : Int)).take (want1 n' - out.length) = q := ⟨_, rfl⟩
        rw [hq] at hst
        have hql : q.length ≤ want1 n' - out.length := by rw [← hq]; exact List.length_take_le _ _
        obtain ⟨ra2, rc2, rfl⟩ : ∃ ra rc, r = .slice ra (preS [] q).length rc := by obtain ⟨x, y, e, -⟩ := hst; exact ⟨x, y, e⟩
        have hnews := strs_news hO5.inn hst
        have hvr := hO5.row
        have hpl : (preS [] q).length = q.length := preS_len _ _
        rw [hpl] at hnews ⊢
        have HO5 := Lib.hid hO5
        have HQ := Lib.hid (And.intro hq (And.intro hpl (And.intro hle5 HO.out.2.1)))
        clear HI HO hst hO5 hb5 hq hpl hle5
        go_wp2_with (at_builtin; refine wpList_append_any2 tyStrs rfl (.tmp 41) (.tmp 49) rfl (.slice voa out.length voc) out.length ((preS [] out).map Value.string) rfl hvr ra2 q.length rc2 ((preS [] q).map Value.string) rfl (by rw [List.length_map, HQ.out.2.1, Nat.mul_one]) hnews (by simp [Value.oneCell']) (by unfold maxLen; omega) (by omega) ?_)
        intro na nc w6 hown hgrow hrow
        have hO6 := HO5.out.app hown hgrow hrow (Nat.le_refl _)
        have hnew : (preS [] out).map Value.string ++ (preS [] q).map Value.string = (preS [] (out ++ q)).map Value.string := by simp [preS]
        rw [hnew] at hO6
        have hlen2 : (out ++ q).length = out.length + q.length := by simp
        have hout2 : out ++ q = (enum T 0 (L + 1)).take (want1 n') := by
          rw [enum_succ, ← HQ.out.1, HQ.out.2.2.2]
          refine take_more ?_
          rw [← HQ.out.2.2.2]; exact hk2
        have HO6 := Lib.hid (And.intro hO6 (And.intro hout2 (Mem.le_trans hmk HQ.out.2.2.1)))
        clear hown hgrow hrow hO6 hnew hout2 hvr hnews HO5
        go_wp2
        refine hX.out _ _ _ (by omega) rfl ⟨L + 1, .slice na (out.length + q.length) nc, out ++ q, _, by omega, rfl, rfl, HO6.out.2.1, ?_, HO6.out.2.2⟩
        rw [hlen2]; exact HO6.out.1
      · have hd1 : decide ((L : Int) ≤ (M : Int)) = true := decide_eq_true (by omega)
        have hd2 : decide ((out.length : Int) < wv) = false := decide_eq_false (by have := HKV.out; omega)
        have hkl : want1 n' ≤ (enum T 0 L).length := by
          have := congrArg List.length hout
          rw [List.length_take] at this
          omega
        have hmem : ∀ x ∈ preS [] out, x.size ≤ maxLen := fun x hx => by
          obtain ⟨y, hy, rfl⟩ := List.mem_map.1 hx
          rw [hout] at hy
          have := ((mem_enum T 0 L y).1 (List.mem_of_mem_take hy)).1
          have h1 : (bstr ([] ++ y)).size = y.length := by simp [bstr, ByteArray.size]
          rw [h1]; unfold maxLen; omega
        have hpl : (preS [] out).length = out.length := preS_len _ _
        have hst := strsAt_of_row (m := mk') (l := preS [] out) (by rw [hpl]; exact hO.row) hmem
        have hst := strsAt_le hO.sealRow.done hst
        have hpe : preS [] out = out.map bstr := by simp [preS]
        rw [hpe] at hst
        have hfi : IsFirst (Sem A) (want1 n') out := by
          rw [hout, ← HS2.out.2]
          exact first_enum (.inl hkl)
        have Hk := Lib.hid (And.intro hO.below (And.intro hst hfi))
        clear hst hmem hpl hO hpe hfi hout
        go_wp2
        exact hR.out _ _ ⟨_, out, rfl, Hk.out.1, Hk.out.2.1, Hk.out.2.2⟩
    · obtain rfl : L = M + 1 := by omega
      have hd1 : decide (((M + 1 : Nat) : Int) ≤ (M : Int)) = false := decide_eq_false (by omega)
      have hmem : ∀ x ∈ preS [] out, x.size ≤ maxLen := fun x hx => by
        obtain ⟨y, hy, rfl⟩ := List.mem_map.1 hx
        rw [hout] at hy
        have := ((mem_enum T 0 (M + 1) y).1 (List.mem_of_mem_take hy)).1
        have h1 : (bstr ([] ++ y)).size = y.length := by simp [bstr, ByteArray.size]
        rw [h1]; unfold maxLen; omega
      have hpl : (preS [] out).length = out.length := preS_len _ _
      have hst := strsAt_of_row (m := mk') (l := preS [] out) (by rw [hpl]; exact hO.row) hmem
      have hst := strsAt_le hO.sealRow.done hst
      have hpe : preS [] out = out.map bstr := by simp [preS]
      rw [hpe] at hst
      have hfi : IsFirst (Sem A) (want1 n') out := by
        rw [hout, ← HS2.out.2]
        exact first_most (by have := HK.out.1; omega)
      have Hk := Lib.hid (And.intro hO.below (And.intro hst hfi))
      clear hst hmem hpl hO hpe hfi hout
      go_wp2
      exact hR.out _ _ ⟨_, out, rfl, Hk.out.1, Hk.out.2.1, Hk.out.2.2⟩
end Cl
namespace Cl
open Go Go.RowKit Go.Proofs

set_option maxRecDepth 100000 in
set_option maxHeartbeats 1000000 in
theorem r06Least_any (v0 : Value) (A : Table) (m : Mem) (w : World) (hm : m.inn w) (hA : statesAt m v0 A) (hlen : A.length ≤ 100000) :
    Calls Tryd.prog 21 #[.agg #[v0]] w fun e w' => ∃ o, e = .returned (optV o) ∧ Below w.heap.size w w' ∧ IsLeast (Sem A) o := by
  have hO := (Own.start hm).al #[v0] 24
  have HW := Lib.hid (r06Words_any v0 A 1 m _ hO.inn hA (by omega) (by omega) hlen (by have : want1 1 = 1 := rfl; rw [this]; omega))
  have HO := Lib.hid hO
  clear hO
  refine calls_hide fun R hR => ?_
  go_enter Tryd.func21, Tryd.ntmps21
  go_wp2_with fail
  refine HW.out.mono ?_
  rintro e w1 ⟨r, ws, rfl, hb1, hst, hfirst⟩
  have hO1 := HO.out.call hb1
  have hl := least_first hfirst
  cases ws with
  | nil =>
    obtain ⟨ra, rc, rfl, r2, r3, r4⟩ := hst
    have Hk := Lib.hid (And.intro hO1.below hl)
    clear hO1 hl hfirst HW HO hb1 r4
    go_wp2
    exact hR.out _ _ ⟨none, rfl, Hk.out.1, Hk.out.2⟩
  | cons x ws =>
    obtain ⟨ra, rc, rfl, r2, r3, r4⟩ := hst
    obtain ⟨rb, ro, rfl, r5⟩ := r4 (by simp)
    have z := (r5 0 (by simp)).1
    rw [Nat.add_zero] at z
    have z1 := Mem.cell_w hO1.inn z
    have z2 := Mem.cell_lt hO1.inn z
    simp only [List.map_cons, List.getElem_cons_zero] at z1
    have hw0 : 0 < (List.map bstr (x :: ws)).length := by simp
    have hdec : (((List.map bstr (x :: ws)).length : Int) == 0) = false := beq_eq_false_iff_ne.2 (by omega)
    have Hk := Lib.hid (And.intro hO1.below hl)
    clear hO1 hl hfirst HW HO hb1 r4 r5 z
    generalize (List.map bstr (x :: ws)).length = N at *
    go_wp2
    exact hR.out _ _ ⟨some x, rfl, Hk.out.1, Hk.out.2⟩
set_option maxRecDepth 100000 in
set_option maxHeartbeats 1000000 in
theorem r06Single_any (v0 : Value) (A : Table) (m : Mem) (w : World) (hm : m.inn w) (hA : statesAt m v0 A) (hlen : A.length ≤ 100000) :
    Calls Tryd.prog 23 #[.agg #[v0]] w fun e w' => ∃ o, e = .returned (optV o) ∧ Below w.heap.size w w' ∧ SingIs (Sem A) o := by
  have hO := (Own.start hm).al #[v0] 24
  have HW := Lib.hid (r06Words_any v0 A 2 m _ hO.inn hA (by omega) (by omega) hlen (by have : want1 2 = 2 := rfl; rw [this]; omega))
  have HO := Lib.hid hO
  clear hO
  refine calls_hide fun R hR => ?_
  go_enter Tryd.func23, Tryd.ntmps23
  go_wp2_with fail
  refine HW.out.mono ?_
  rintro e w1 ⟨r, ws, rfl, hb1, hst, hfirst⟩
  have hO1 := HO.out.call hb1
  have hl := sing_first hfirst
  obtain ⟨ra, rc, rfl, r2, r3, r4⟩ := hst
  by_cases h1 : ws.length = 1
  · rw [if_pos h1] at hl
    cases ws with
    | nil => simp at h1
    | cons x ws =>
      obtain ⟨rb, ro, rfl, r5⟩ := r4 (by simp)
      have z := (r5 0 (by simp)).1
      rw [Nat.add_zero] at z
      have z1 := Mem.cell_w hO1.inn z
      have z2 := Mem.cell_lt hO1.inn z
      simp only [List.map_cons, List.getElem_cons_zero] at z1
      have hN : (List.map bstr (x :: ws)).length = 1 := by simpa using h1
      rw [hN] at r2
      have Hk := Lib.hid (And.intro hO1.below hl)
      rw [hN]
      clear hO1 hl hfirst HW HO hb1 r4 r5 z h1 hN
      go_wp2
      exact hR.out _ _ ⟨some x, rfl, Hk.out.1, Hk.out.2⟩
  · rw [if_neg h1] at hl
    have hN : ((List.map bstr ws).length : Int) ≠ 1 := by simp; omega
    have hdec : (((List.map bstr ws).length : Int) != 1) = true := bne_iff_ne.2 hN
    have Hk := Lib.hid (And.intro hO1.below hl)
    clear hO1 hl hfirst HW HO hb1 r4 h1 hN
    generalize (List.map bstr ws).length = N at *
    go_wp2
    exact hR.out _ _ ⟨none, rfl, Hk.out.1, Hk.out.2⟩
set_option maxRecDepth 100000 in
set_option maxHeartbeats 4000000 in
theorem r06Finite_any (v0 : Value) (A : Table) (m : Mem) (w : World) (hm : m.inn w) (hA : statesAt m v0 A) (hlen : A.length ≤ 100000) :
    Calls Tryd.prog 25 #[.agg #[v0]] w fun e w' => e = .returned (.bool (tf (FinSet (Sem A)))) ∧ Below w.heap.size w w' := by
  have hO := (Own.start hm).al #[v0] 24
  have HM := Lib.hid (sound_any v0 A m _ hO.inn hA (by omega))
  have HO := Lib.hid hO
  obtain ⟨va, vc, rfl, -⟩ := hA
  have hgc := goodT_canon A
  have hgl := goodT_len A
  have hsem : accFrom (goodT A) 0 = Sem A := funext (goodT_acc A)
  generalize goodT A = T at *
  clear hO
  refine calls_hide fun R hR => ?_
  go_enter Tryd.func25, Tryd.ntmps25
  go_wp2_with fail
  refine HM.out.mono ?_
  rintro e w1 ⟨r, rfl, hb1, hst⟩
  obtain ⟨ra, rc, rfl⟩ : ∃ ra rc, r = .slice ra T.length rc := by obtain ⟨x, y, e, -⟩ := hst; exact ⟨x, y, e⟩
  have hO1 := (HO.out.call hb1).al #[.slice ra T.length rc] 24
  have HO1 := Lib.hid hO1
  have hfi := fin_iff T 0
  rw [hsem] at hfi
  have HS := Lib.hid (And.intro hst (And.intro hgc (And.intro hsem hfi)))
  clear hO1 HM HO hb1 hst hgc hsem hfi
  generalize m.grow _ w1 = mk at *
  have c1 := HO1.out.obj.cell (i := 0) rfl
  have c2 := HO1.out.obj.lt
  have c3 := HO1.out.obj.frozen 0
  by_cases h0 : T.length = 0
  · have hd : ((T.length : Int) == 0) = true := by simp [h0]
    have hfs : FinSet (Sem A) := by
      rw [← HS.out.2.2.1, List.eq_nil_of_length_eq_zero h0]
      exact ⟨0, fun y hy => by rw [accFrom_nil] at hy; cases hy⟩
    have HF := Lib.hid (tf_true hfs)
    clear h0 hfs
    go_wp2
    exact hR.out _ _ ⟨ret_bool HF.out.symm, HO1.out.below⟩
  · have hd : ((T.length : Int) == 0) = false := beq_eq_false_iff_ne.2 (by omega)
    have HCan := Lib.hid (fun w (hw : mk.inn w) => r06can_any (.slice ra T.length rc) T (2 * T.length) mk w hw HS.out.1 HS.out.2.1.wf HS.out.2.1.bytes (by omega) (by omega))
    have H0 := Lib.hid (show 0 < T.length by omega)
    have hTl : T.length ≤ 100000 := by omega
    clear hgl h0
    go_wp2_with fail
    refine (HCan.out _ HO1.out.inn).mono ?_
    rintro e w2 ⟨vt, rfl, hb2, hct⟩
    obtain ⟨tb, tc, rfl, k1, k2, k3⟩ := hct
    have hcl : (canTab T (2 * T.length)).length = T.length := by simp [canTab]
    obtain ⟨gb, go, rfl, k4⟩ := k3 (by intro h; rw [h] at hcl; have := H0.out; simp at hcl; omega)
    obtain ⟨u, u1, ua, uc, rfl, u2, u3, u4⟩ := k4 0 (by rw [hcl]; exact H0.out)
    have e1 : (canTab T (2 * T.length))[0]'(by rw [hcl]; exact H0.out) = (List.range (2 * T.length + 1)).map fun n => cb T 0 n := by simp [canTab]
    rw [e1] at u1 u2 u4
    simp only [List.length_map, List.length_range] at u1 u2 u4
    obtain ⟨ub, uo, rfl, u5⟩ := u4 (by simp)
    have hO2 := HO1.out.call hb2
    rw [Nat.add_zero] at u1
    rw [hcl] at k1 ⊢
    have hU : ∀ n, n ≤ 2 * T.length → (mk.grow _ w2).cell ub (uo + n) = some (.bool (cb T 0 n)) := fun n hn => by
      have := u5 n (by omega)
      simp at this
      exact this
    have HO2 := Lib.hid (And.intro hO2 hU)
    have HS2 := Lib.hid HS.out.2
    have hpos := H0.out
    clear hO2 hU HCan HO1 hb2 c1 c2 c3 HS k3 k4 u4 u5 e1 hcl
    generalize mk.grow _ w2 = mk2 at *
    unfold maxLen at u3 k2
    go_wp2
    refine wp_loop_keep [4, 5, 6] (fun n vs w3 => ∃ j : Nat, j ≤ T.length + 1 ∧ n = T.length + 1 - j ∧ vs = [.int .i64 T.length, .slice (some ⟨gb, go, none⟩) T.length tc, .int .i64 ((T.length + j : Nat) : Int)] ∧
      w3 = w2 ∧ ∀ i, i < j → cb T 0 (T.length + i) = false) ?_ ?_
    · exact ⟨_, 0, Nat.zero_le _, rfl, rfl, rfl, fun i hi => by omega⟩
    rintro X z n vs w3 hX - ⟨j, hj, rfl, rfl, rfl, hall⟩
    simp [litL, lk]
    by_cases hlt : j ≤ T.length
    · have hd1 : decide ((T.length : Int) + (j : Int) ≤ 2 * (T.length : Int)) = true := decide_eq_true (by omega)
      have x1 := Mem.cell_w HO2.out.1.inn u1
      have x2 := Mem.cell_lt HO2.out.1.inn u1
      have x3 := Mem.cell_w HO2.out.1.inn (HO2.out.2 (T.length + j) (by omega))
      have x4 := Mem.cell_lt HO2.out.1.inn (HO2.out.2 (T.length + j) (by omega))
      obtain ⟨bb, hbb⟩ : ∃ x, cb T 0 (T.length + j) = x := ⟨_, rfl⟩
      rw [hbb] at x3
      have HB := Lib.hid (And.intro hbb hall)
      clear hbb hall
      cases bb with
      | true =>
        have hnf : ¬ FinSet (Sem A) := fun h => by
          have := (HS2.out.2.2.1 h) (T.length + j) (by omega) (by omega)
          have h2 := HB.out.1
          unfold cb at h2
          rw [show wex T (T.length + j) ((0 : Nat) : Int) = [] from this] at h2
          cases h2
        have HF := Lib.hid (tf_false hnf)
        clear hnf
        go_wp2
        exact hR.out _ _ ⟨ret_bool HF.out.symm, HO2.out.1.below⟩
      | false =>
        go_wp2
        refine hX.out _ _ _ (by omega) rfl ⟨j + 1, by omega, rfl, rfl, rfl, fun i hi => ?_⟩
        by_cases h : i < j
        · exact HB.out.2 i h
        · obtain rfl : i = j := by omega
          exact HB.out.1
    · obtain rfl : j = T.length + 1 := by omega
      have hd1 : decide ((T.length : Int) + ((T.length : Int) + 1) ≤ 2 * (T.length : Int)) = false := decide_eq_false (by omega)
      have hfs : FinSet (Sem A) := HS2.out.2.2.2 fun n h1 h2 => by
        have := hall (n - T.length) (by omega)
        rw [show T.length + (n - T.length) = n by omega] at this
        unfold cb at this
        simpa using this
      have HF := Lib.hid (tf_true hfs)
      clear hfs hall
      go_wp2
      exact hR.out _ _ ⟨ret_bool HF.out.symm, HO2.out.1.below⟩
end Cl

/- Lemmas for the proofs: Range, WalkBB, WalkBC, WalkBD, Region3, WalkBE, WalkBF. -/
import Derived.RangeFuncNested
import Derived.RangeFuncBound
import Derived.RangeFuncCalls
import Derived.RangeFuncLeaves
import Derived.WalkKit
import Derived.OwnWalkIn
import Derived.TacticsInMore
import Derived.LoopNIn
import Derived.LoopIn
import Derived.Laws.BytesArg
import Derived.RegionTactic
import Derived.ChangeAlike
import Derived.Laws.EntriesVeiled
import Derived.Test.YtaolacbikbllcaaDoorPkA2
import Derived.Test.YtaolacbikbllcaaDoorPkA1
import Derived.Test.YtaolacbikbllcaaDoorPkA5
import Derived.Test.YtaolacbikbllcaaDoorPkA3
import Derived.Test.YtaolacbikbllcaaDoorPkA4
import Derived.Test.YtaolacbikbllcaaDoorPkA6
namespace Cl
open Go Go.RowKit

/-- a call of yield: one round; whatever else is owned stays -/
def YieldOK {α : Type} (P : Program) (l : Nat) (encs : α → Array Value) (w0 : World) (m mk1 : Mem) (B Bx : List α → List Item → Prop) : Prop :=
  ∀ (pre : List α) (x : α) (W : World) (mk : Mem) (Lt Lr : List Item), B pre Lt → Own w0 m W mk (Lt ++ Lr) → mk1.le mk → YieldAt Fence.wide 0 P l (encs x) W fun e W' =>
    (e = .returned (.bool true) ∧ ∃ mk' Lt', B (pre ++ [x]) Lt' ∧ Own w0 m W' mk' (Lt' ++ Lr) ∧ mk.le mk') ∨
    (e = .returned (.bool false) ∧ ∃ mk' Lt', Bx (pre ++ [x]) Lt' ∧ Own w0 m W' mk' (Lt' ++ Lr) ∧ mk.le mk')
def SeqEnd {α : Type} (w0 : World) (m mk1 : Mem) (B Bx : List α → List Item → Prop) (S Sp : List α → Prop) (e : Ending) (W' : World) : Prop :=
  (∃ v, e = .returned v) ∧ ((∃ xs mk' Lt, S xs ∧ B xs Lt ∧ Own w0 m W' mk' Lt ∧ mk1.le mk') ∨ (∃ xs mk' Lt, Sp xs ∧ Bx xs Lt ∧ Own w0 m W' mk' Lt ∧ mk1.le mk'))
/-- how a round's body may end -/
def RoundEnd {α : Type} (w0 : World) (m mk : Mem) (Lr : List Item) (I : List α → List Item → Prop) (Ix : Code → List α → List Item → Prop) (xs : List α) : Exit → Act → World → Prop
  | .normal, _, W' => ∃ mk' Lt, I xs Lt ∧ Own w0 m W' mk' (Lt ++ Lr) ∧ mk.le mk'
  | .ret, _, W' => ∃ mk' Lt, Ix .ret xs Lt ∧ Own w0 m W' mk' (Lt ++ Lr) ∧ mk.le mk'
  | .exit id, _, W' => ∃ mk' Lt, Ix (.exit id) xs Lt ∧ Own w0 m W' mk' (Lt ++ Lr) ∧ mk.le mk'
  | .goto t, _, W' => ∃ mk' Lt, Ix (.goto t) xs Lt ∧ Own w0 m W' mk' (Lt ++ Lr) ∧ mk.le mk'
  | .panic _, _, _ => False
  | .outgrown, _, _ => False

theorem perm_two {α : Type} (a b : α) (L R : List α) : (L ++ (a :: b :: R)).Perm (a :: b :: (L ++ R)) := List.perm_middle.trans (List.Perm.cons _ List.perm_middle)

theorem wp_rangeOwn {α : Type} {P : Program} {g : Operand} {ps : Array Tmp} {assign body : Code} {Q : Exit → Act → World → Prop} {a : Act} {w : World} {gf : Nat} {lb : Array Value}
    (hg : a.eval g = .func (.func gf) #[] lb) (eg : ∀ args w, (callFunc gf args).run P w = .ok (.enter gf args) w) {encs : α → Array Value} (hps : ∀ x, (encs x).size = ps.size)
    {w0 : World} {m mk : Mem} {L0 : List Item} (hO : Own w0 m w mk L0) (I : List α → List Item → Prop) (Ix : Code → List α → List Item → Prop) (S Sp : List α → Prop) (h0 : I [] L0)
    (hseq : ∀ (l : Nat) (W1 : World) (L1 : List Item) (B Bx : List α → List Item → Prop), B [] L1 → Own w0 m W1 mk L1 → YieldOK P l encs w0 m mk B Bx →
      Calls P gf (#[.func (.yield l) #[] #[]] ++ lb) W1 (SeqEnd w0 m mk B Bx S Sp))
    (a₁ : α → Act)
    (hassign : ∀ (l : Nat) (x : α) (W : World) (K : Act → World → Prop), K (a₁ x) W →
      assign.wpIn (Fence.wide.inRound l) 0 P (Exit.then K (fun _ _ _ => False)) { tmps := (ps.zip (encs x)).foldl (fun t (p, v) => t.setIfInBounds p v) a.tmps, defers := [] } W)
    (hbody : ∀ (l : Nat) (pre : List α) (x : α) (W : World) (mk1 : Mem) (Lt Lr : List Item), I pre Lt → Own w0 m W mk1 (Lt ++ Lr) → mk.le mk1 →
      body.wpIn (Fence.wide.inRound l) 0 P (RoundEnd w0 m mk1 Lr I Ix (pre ++ [x])) (a₁ x) W)
    (hdone : ∀ (D : Nat) (xs : List α) (W : World) (mk1 : Mem) (L : List Item), S xs → I xs L → Own w0 m W mk1 (.blob D (.deferred (some [])) :: L) → mk.le mk1 → Q .normal { a with defers := { target := .collected D, args := #[] } :: a.defers } W)
    (hstop : ∀ (D : Nat) (c : Code) (xs : List α) (W : World) (mk1 : Mem) (L : List Item), Sp xs → Ix c xs L → Own w0 m W mk1 (.blob D (.deferred (some [])) :: L) → mk.le mk1 →
      c.wpIn Fence.wide 0 P Q { a with defers := { target := .collected D, args := #[] } :: a.defers } W) :
    (Code.rangeFunc g ps assign body).wpIn Fence.wide 0 P Q a w := by
  refine wpIn_rangeFunc ?_
  intro fn _
  obtain ⟨rec, hrec⟩ : ∃ rec : LoopState → Option Code → Loop, rec = fun st pe => { state := st, pending := pe, fn, tmps := a.tmps, params := ps, assign, body, defers := w.heap.size } := ⟨_, rfl⟩
  have hO1 := (hO.alBlob (.deferred (some []))).alBlob (.loop (rec .ready none))
  have hsz : (w.alloc (.deferred (some []))).heap.size = w.heap.size + 1 := by simp
  rw [hsz] at hO1
  have hent := run_enterLoop_outer (P := P) (w := w) fn a.tmps ps assign body
  have hre : (Obj.loop { state := .ready, pending := none, fn, tmps := a.tmps, params := ps, assign, body, defers := w.heap.size }) = .loop (rec .ready none) := by rw [hrec]
  rw [hre] at hent
  generalize (w.alloc (.deferred (some []))).alloc (.loop (rec .ready none)) = W1 at *
  generalize w.heap.size = D at *
  have hround : YieldOK P (D + 1) encs w0 m mk (fun pre Lt => ∃ L, I pre L ∧ Lt = .blob (D + 1) (.loop (rec .ready none)) :: .blob D (.deferred (some [])) :: L)
      (fun pre Lt => ∃ c L, Ix c pre L ∧ Lt = .blob (D + 1) (.loop (rec .done (some c))) :: .blob D (.deferred (some [])) :: L) := by
    rintro pre x W mk1 Lt Lr ⟨L, hI, rfl⟩ hOw hle
    have hl := hOw.blob
    have hy := run_yield (P := P) (args := encs x) hl (by rw [hrec]; exact hps x)
    rw [hrec] at hy
    refine ⟨fn, _, assign, body, hy, roundIn_of_wpIn trivial (hassign _ x W _ ⟨_, run_beginRound hl (by rw [hrec]), ?_⟩)⟩
    have hO2 := hOw.setBlob (o' := .loop { rec .ready none with state := .busy }) (World.putObj_heap_same (Array.getElem?_eq_some_iff.1 hl).1) (grownBy_putObj' _ _ _)
    have hO3 := hO2.perm (perm_two _ _ L Lr)
    refine wpIn_mono (hbody _ pre x _ mk1 L _ hI hO3 hle) ?_
    have fin : ∀ (jump : Option Code) (W3 : World) (mk2 : Mem) (L2 : List Item), Own w0 m W3 mk2 (L2 ++ (.blob (D + 1) (.loop { rec .ready none with state := .busy }) :: .blob D (.deferred (some [])) :: Lr)) →
        ∃ W4, (Instr.endRound (D + 1) jump).run P W3 = .ok (.bool jump.isNone) W4 ∧ Own w0 m W4 mk2 (.blob (D + 1) (.loop (rec (if jump.isNone then .ready else .done) jump)) :: .blob D (.deferred (some [])) :: (L2 ++ Lr)) := by
      intro jump W3 mk2 L2 h3
      have h4 := h3.perm (perm_two _ _ L2 Lr).symm
      have hl3 := h4.blob
      have hr := run_endRound (P := P) jump hl3
      refine ⟨_, hr, ?_⟩
      have := h4.setBlob (o' := .loop { rec .ready none with state := if jump.isNone then .ready else .done, pending := jump }) (World.putObj_heap_same (Array.getElem?_eq_some_iff.1 hl3).1) (grownBy_putObj' _ _ _)
      rw [hrec] at this ⊢
      exact this
    rintro e a3 W3 hp
    cases e with
    | normal =>
      obtain ⟨mk2, L2, hi, ho, hm⟩ := hp
      obtain ⟨W4, hr, ho4⟩ := fin none W3 mk2 L2 ho
      exact ⟨_, _, hr, .inl ⟨rfl, mk2, _, ⟨L2, hi, rfl⟩, ho4, hm⟩⟩
    | ret =>
      obtain ⟨mk2, L2, hi, ho, hm⟩ := hp
      obtain ⟨W4, hr, ho4⟩ := fin (some .ret) W3 mk2 L2 ho
      exact ⟨_, _, hr, .inr ⟨rfl, mk2, _, ⟨.ret, L2, hi, rfl⟩, ho4, hm⟩⟩
    | exit id =>
      obtain ⟨mk2, L2, hi, ho, hm⟩ := hp
      obtain ⟨W4, hr, ho4⟩ := fin (some (.exit id)) W3 mk2 L2 ho
      exact ⟨_, _, hr, .inr ⟨rfl, mk2, _, ⟨.exit id, L2, hi, rfl⟩, ho4, hm⟩⟩
    | goto t =>
      obtain ⟨mk2, L2, hi, ho, hm⟩ := hp
      obtain ⟨W4, hr, ho4⟩ := fin (some (.goto t)) W3 mk2 L2 ho
      exact ⟨_, _, hr, .inr ⟨rfl, mk2, _, ⟨.goto t, L2, hi, rfl⟩, ho4, hm⟩⟩
    | panic ch => exact hp.elim
    | outgrown => exact hp.elim
  refine ⟨D + 1, [{ target := .collected D, args := #[] }], W1, { target := .fn (.func gf) lb, args := #[.func (.yield (D + 1)) #[] #[]] }, W1, gf,
    #[.func (.yield (D + 1)) #[] #[]] ++ lb, W1, hent, ?_, fun _ _ => trivial, ?_, fun h => absurd h (by simp [Fence.wide]), ?_⟩
  · simp only [resolve, hg]
    simp [go_sem]
  · simp [invoke, go_sem, eg]
  · refine callsIn_wide.2 ((hseq (D + 1) W1 _ _ _ ⟨L0, h0, rfl⟩ hO1 hround).mono ?_)
    rintro e W3 ⟨⟨v, rfl⟩, hend⟩
    rcases hend with ⟨xs, mk2, Lt, hS, ⟨L, hI, rfl⟩, ho, hm⟩ | ⟨xs, mk2, Lt, hS, ⟨c, L, hI, rfl⟩, ho, hm⟩
    · have hl3 := ho.blob
      have hO4 := ho.setBlob (o' := .loop { rec .ready none with state := .exhausted }) (World.putObj_heap_same (Array.getElem?_eq_some_iff.1 hl3).1) (grownBy_putObj' _ _ _)
      refine ⟨none, _, ?_, hdone D xs _ mk2 L hS hI hO4.tail hm⟩
      have := run_endLoop (P := P) hl3 (by rw [hrec]; simp)
      rw [this, hrec]
    · have hl3 := ho.blob
      have hO4 := ho.setBlob (o' := .loop { rec .done (some c) with state := .exhausted }) (World.putObj_heap_same (Array.getElem?_eq_some_iff.1 hl3).1) (grownBy_putObj' _ _ _)
      refine ⟨some c, _, ?_, hstop D c xs _ mk2 L hS hI hO4.tail hm⟩
      have := run_endLoop (P := P) hl3 (by rw [hrec]; simp)
      rw [this, hrec]
end Cl
namespace Cl
open Go Go.RowKit Go.Proofs
attribute [local go_sem] Oper.semAt_some

/-- a slice of bytes that nobody writes: nil, or a whole array of its own -/
def PrefAt (mk : Mem) (v : Value) (u : List UInt8) : Prop :=
  (u = [] ∧ v = .slice none 0 0) ∨ (u ≠ [] ∧ ∃ g c, v = .slice (some ⟨g, 0, none⟩) u.length c ∧ u.length ≤ c ∧ c ≤ maxLen ∧ ∀ i, (h : i < u.length) → mk.cell g i = some (.int .u8 (u[i]).toNat))
theorem PrefAt.le {mk mk' : Mem} {v : Value} {u : List UInt8} (h : PrefAt mk v u) (hl : mk.le mk') : PrefAt mk' v u := by
  rcases h with h | ⟨h1, g, c, h2, h3, h4, h5⟩
  · exact .inl h
  · exact .inr ⟨h1, g, c, h2, h3, h4, fun i hi => Mem.cell_le hl (h5 i hi)⟩
theorem strOfNums_bytes (u : List UInt8) : strOfNums (u.map fun b => (b.toNat : Int)) = ⟨u.toArray⟩ := by
  unfold strOfNums
  congr 1
  rw [List.map_map]
  congr 1
  conv => rhs; rw [← List.map_id u]
  apply List.map_congr_left
  intro b _
  simp
theorem run_pref_string {mk : Mem} {w : World} {v : Value} {u : List UInt8} (h : PrefAt mk v u) (hm : mk.inn w) : (convert 90 9 v).run Tryd.prog w = .ok (.string ⟨u.toArray⟩) w := by
  rcases h with ⟨rfl, rfl⟩ | ⟨h1, g, c, rfl, h3, h4, h5⟩
  · exact run_convert_bytes_nil w 90 5 Tryd.underlying90 Tryd.underlying5 0 0 _ Tryd.underlying9
  · have := run_convert_bytes_arg w 90 5 Tryd.underlying90 Tryd.underlying5 g 0 u.length c (u.map fun b => (b.toNat : Int)) (by simp) (fun i hi => by
      rw [Nat.zero_add, Mem.cell_w hm (h5 i hi)]
      simp [List.getD, hi]) _ Tryd.underlying9
    rw [this, strOfNums_bytes]

/-- what the yielding functions know -/
structure VisEnv (T : Table) (l : Nat) (w0 : World) (m mk0 : Mem) (B Bx : List (List UInt8) → List Item → Prop) (Lr : List Item) (gy ga gt gv tb ntab ctab : Nat) (va : Value) : Prop where
  yield : YieldOK Tryd.prog l (fun x : List UInt8 => #[Value.string ⟨x.toArray⟩]) w0 m mk0 B Bx
  cy : mk0.cell gy 0 = some (.func (.yield l) #[] #[])
  ca : mk0.cell ga 0 = some va
  ct : mk0.cell gt 0 = some (.slice (some ⟨tb, 0, none⟩) ntab ctab)
  cv : mk0.cell gv 0 = some (.func (.func 87) #[] #[.pointer (some ⟨gy, 0, none⟩), .pointer (some ⟨ga, 0, none⟩), .pointer (some ⟨gt, 0, none⟩), .pointer (some ⟨gv, 0, none⟩)])
  tab : statesAt mk0 va T
  rows : ∀ W mk Lt, Own w0 m W mk (Lt ++ Lr) → ∀ i, i < ntab → ∃ u, W.cell? ⟨tb, i, none⟩ = some u ∧ boolsAt mk0 u (canN T i)
  ntab : ntab ≤ maxLen
def VisEnd (w0 : World) (m mk : Mem) (B Bx : List (List UInt8) → List Item → Prop) (Lr : List Item) (pre ws : List (List UInt8)) (e : Ending) (W' : World) : Prop :=
  (e = .returned (.bool true) ∧ ∃ mk' Lt, B (pre ++ ws) Lt ∧ Own w0 m W' mk' (Lt ++ Lr) ∧ mk.le mk') ∨
  (e = .returned (.bool false) ∧ ∃ q mk' Lt, q ≠ [] ∧ q <+: ws ∧ Bx (pre ++ q) Lt ∧ Own w0 m W' mk' (Lt ++ Lr) ∧ mk.le mk')

set_option maxRecDepth 100000 in
set_option maxHeartbeats 2000000 in
theorem visit_leaf {T : Table} {l : Nat} {w0 : World} {m mk0 : Mem} {B Bx : List (List UInt8) → List Item → Prop} {Lr : List Item} {gy ga gt gv tb ntab ctab : Nat} {va : Value} (hE : VisEnv T l w0 m mk0 B Bx Lr gy ga gt gv tb ntab ctab va)
    (s : Nat) (u : List UInt8) (vp : Value) (pre : List (List UInt8)) (mk : Mem) (W : World) (Lt : List Item) (hle : mk0.le mk) (hp : PrefAt mk vp u) (hB : B pre Lt) (hO : Own w0 m W mk (Lt ++ Lr)) :
    Calls Tryd.prog 87 #[.int .i64 s, .int .i64 0, vp, .pointer (some ⟨gy, 0, none⟩), .pointer (some ⟨ga, 0, none⟩), .pointer (some ⟨gt, 0, none⟩), .pointer (some ⟨gv, 0, none⟩)] W (VisEnd w0 m mk B Bx Lr pre [u]) := by
  have hcy := Mem.cell_w hO.inn (Mem.cell_le hle hE.cy)
  have hcyl := Mem.cell_lt hO.inn (Mem.cell_le hle hE.cy)
  have hcv := run_pref_string hp hO.inn
  obtain ⟨fn, tmps, assign, body, hy, hR⟩ := hE.yield pre u W mk Lt Lr hB hO hle
  refine calls_hide fun R hR' => ?_
  clear hO hB hp hE hle
  go_enter Tryd.func87, Tryd.ntmps87
  refine (wpIn_wide (n := 0)).1 ?_
  gi_wp2
  refine ⟨rfl, hR.mono ?_⟩
  rintro e W' (⟨rfl, mk', Lt', h1, h2, h3⟩ | ⟨rfl, mk', Lt', h1, h2, h3⟩)
  · have Hk := Lib.hid (And.intro h1 (And.intro h2 h3))
    clear h1 h2 h3
    gi_wp2
    exact hR'.out _ _ (.inl ⟨rfl, mk', Lt', Hk.out.1, Hk.out.2.1, Hk.out.2.2⟩)
  · have Hk := Lib.hid (And.intro h1 (And.intro h2 h3))
    clear h1 h2 h3
    gi_wp2
    exact hR'.out _ _ (.inr ⟨rfl, [u], mk', Lt', by simp, List.prefix_refl _, Hk.out.1, Hk.out.2.1, Hk.out.2.2⟩)
end Cl
namespace Cl
open Go Go.RowKit Go.Proofs

theorem tyBytes : SliceTy Tryd.prog 90 5 1 1 := ⟨Tryd.underlying90, by omega, by
  obtain ⟨i, h1, h2, h3, h4⟩ := info_parts (P := Tryd.prog) (e := 5) (z := .int .u8 0) (size := 1) (bytes := 1) (by kernel_rfl)
  exact ⟨i, _, h1, h2, h3, h4, rfl⟩⟩
def cutV (v : Value) (u : List UInt8) : Value := match v with
  | .slice a _ _ => .slice a u.length u.length
  | v => v
/-- one byte more behind a slice without room -/
theorem run_push_byte {w0 w : World} {m mk : Mem} {L : List Cl.Item} {v : Value} {u : List UInt8} {c : Nat} (h : PrefAt mk v u) (hc : c < 256) (hO : Own w0 m w mk L) (ga : Nat) (hga : w.cell? ⟨ga, 0, none⟩ = some (.int .u8 c)) (hu : u.length ≤ 1000000) :
    ∃ v' w' mk', (Builtin.append_ #[90, 90] 90 #[cutV v u, .slice (some ⟨ga, 0, none⟩) 1 1]).run Tryd.prog w = .ok v' w' ∧ Own w0 m w' mk' L ∧ mk.le mk' ∧ PrefAt mk' v' (u ++ [UInt8.ofNat c]) := by
  have hnews : ∀ j x, [Value.int .u8 c][j]? = some x → w.cell? ((⟨ga, 0, none⟩ : Addr).add j) = some x := by
    intro j x hj
    rw [Addr.add_lit, Nat.zero_add]
    cases j with
    | zero => simp at hj; rw [← hj]; exact hga
    | succ j => simp at hj
  have hof : ((UInt8.ofNat c).toNat : Int) = (c : Int) := by
    rw [UInt8.toNat_ofNat']; omega
  rcases h with ⟨rfl, rfl⟩ | ⟨hne, g, cc, rfl, h3, h4, h5⟩
  · have hO1 := hO.nilRow 5 1
    obtain ⟨v', w', hr, hown, hg, hrow⟩ := run_append_row tyBytes w 90 (.slice none 0 0) 0 [] hO1.row ⟨ga, 0, none⟩ 1 1 [.int .u8 c] rfl hnews (by simp [Value.oneCell']) (by simp [maxLen]) (by simp)
    have hO2 := hO1.app hown hg hrow (Nat.le_refl _)
    obtain ⟨va, vc, rfl⟩ := row_slice hO2.row
    obtain ⟨gb, rfl⟩ := row_some hO2.row (by omega)
    refine ⟨_, w', mk.addv w' (.slice (some ⟨gb, 0, none⟩) (0 + 1) vc), hr, hO2.sealRow, Mem.le_addv hO2.free, .inr ⟨by simp, gb, vc, rfl, ?_, ?_, fun i hi => ?_⟩⟩
    · rcases hO2.row.2 with ⟨h, -⟩ | ⟨g', cap, cur, h, -, -, hnc, -⟩
      · cases h
      · injection h with h1 h2 h3; subst h3; simpa using hnc
    · rcases hO2.row.2 with ⟨h, -⟩ | ⟨g', cap, cur, h, -, -, -, hcm, -⟩
      · cases h
      · injection h with h1 h2 h3; subst h3; exact hcm
    · obtain rfl : i = 0 := by simp at hi; exact hi
      have := row_cell hO2.row (g := gb) rfl mk (j := 0) (u := .int .u8 c) rfl
      rw [this]
      simp only [List.nil_append, List.getElem_cons_zero]
      rw [hof]
  · obtain ⟨i, hi, hz, hs, hb⟩ := info_parts (P := Tryd.prog) (e := 5) (z := .int .u8 0) (size := 1) (bytes := 1) (by kernel_rfl)
    have holds : ∀ j x, (u.map fun b => Value.int .u8 b.toNat)[j]? = some x → w.cell? ((⟨g, 0, none⟩ : Addr).add j) = some x := by
      intro j x hj
      rw [Addr.add_lit, Nat.zero_add]
      have hjl : j < u.length := by
        have := (List.getElem?_eq_some_iff.1 hj).1
        simpa using this
      rw [Mem.cell_w hO.inn (h5 j hjl)]
      simp [hjl] at hj
      rw [← hj]
    have hr := run_append_grow (P := Tryd.prog) (w := w) 90 90 5 i (.int .u8 0) Tryd.underlying90 hi hz ⟨g, 0, none⟩ u.length u.length (u.map fun b => Value.int .u8 b.toNat) (by simp [hs]) holds ⟨ga, 0, none⟩ 1 1 [.int .u8 c] (by simp [hs]) hnews (by omega) (by omega) (growslice_fits (by omega) (by rw [hb]; omega))
    have hO1 := hO.dr.al ((u.map fun b => Value.int .u8 b.toNat).toArray ++ [Value.int .u8 c].toArray ++ Builtin.zeroCells (Value.int .u8 0).cells (grownCap w (u.length + 1) u.length 5 - (u.length + 1))) 5
    have hO2 := hO1.sealObj
    refine ⟨_, _, mk.add _ w.heap.size, hr, hO2, Mem.le_add hO1.objFree, .inr ⟨by simp, w.heap.size, grownCap w (u.length + 1) u.length 5, ?_, ?_, ?_, fun j hj => ?_⟩⟩
    · simp
    · simpa using grownCap_ge w _ _ _
    · exact grownCap_le_maxLen w _ _ _ (by unfold maxLen; omega)
    · refine Mem.add_cell hO1.obj ?_
      simp only [List.length_append, List.length_cons, List.length_nil] at hj
      by_cases hju : j < u.length
      · rw [Array.getElem?_append_left (by simp; omega), Array.getElem?_append_left (by simpa using hju)]
        simp [hju, List.getElem_append_left hju]
      · obtain rfl : j = u.length := by omega
        rw [Array.getElem?_append_left (by simp), Array.getElem?_append_right (by simp)]
        simp
        rw [← hof]; simp
theorem wp_append_run {P : Program} {w w' : World} {o : Oper} {a : Act} {K : Act → World → Prop} {Q : Exit → Act → World → Prop} (s x : Operand) (t : TypeId)
    (ho : o.op = .call { callee := .builtin .append, args := #[s, x], argTypes := #[t, t] }) {v v2 v' : Value} (hs : a.eval s = v) (hx : a.eval x = v2)
    (hr : (Builtin.append_ #[t, t] o.type #[v, v2]).run P w = .ok v' w') (h : K (a.put o.dst v') w') : o.wp P a w K Q := by
  unfold Oper.wp execOp
  simp only [ho, resolve, invoke, builtin, Sem.run_bind, Sem.run_pure, Result.andThen_ok, List.map_toArray, List.map_cons, List.map_nil, hs, hx, hr]
  exact h
end Cl
namespace Cl
open Go Go.RowKit Go.Proofs

def VisOK (T : Table) (w0 : World) (m mk0 : Mem) (B Bx : List (List UInt8) → List Item → Prop) (Lr : List Item) (gy ga gt gv n : Nat) : Prop :=
  ∀ (s : Nat) (u : List UInt8) (vp : Value) (pre : List (List UInt8)) (mk : Mem) (W : World) (Lt : List Item), s < T.length → wex T n s ≠ [] → u.length + n ≤ 1000000 → mk0.le mk → PrefAt mk vp u → B pre Lt → Own w0 m W mk (Lt ++ Lr) →
    Calls Tryd.prog 87 #[.int .i64 s, .int .i64 n, vp, .pointer (some ⟨gy, 0, none⟩), .pointer (some ⟨ga, 0, none⟩), .pointer (some ⟨gt, 0, none⟩), .pointer (some ⟨gv, 0, none⟩)] W (VisEnd w0 m mk B Bx Lr pre ((wex T n s).map (u ++ ·)))

theorem visit_zero {T : Table} {l : Nat} {w0 : World} {m mk0 : Mem} {B Bx : List (List UInt8) → List Item → Prop} {Lr : List Item} {gy ga gt gv tb ntab ctab : Nat} {va : Value} (hE : VisEnv T l w0 m mk0 B Bx Lr gy ga gt gv tb ntab ctab va) :
    VisOK T w0 m mk0 B Bx Lr gy ga gt gv 0 := by
  intro s u vp pre mk W Lt hs hne _ hle hp hB hO
  have : wex T 0 (s : Int) = [[]] := by
    unfold wex at hne ⊢
    split
    · rfl
    · rename_i h; rw [if_neg h] at hne; exact absurd rfl hne
  rw [this]
  simpa using visit_leaf hE s u vp pre mk W Lt hle hp hB hO

/-- what has been yielded when some edges and some bytes are through -/
def doneW (T : Table) (n : Nat) (u : List UInt8) (es : List Ed) (i : Nat) (e : Ed) (b : Nat) : List (List UInt8) := (esW T n (es.take i) ++ edW T n e.to e.lo (b - e.lo)).map (u ++ ·)
theorem doneW_next (T : Table) (n : Nat) (u : List UInt8) (es : List Ed) (i : Nat) (e : Ed) (b : Nat) (h : e.lo ≤ b) :
    doneW T n u es i e (b + 1) = doneW T n u es i e b ++ (wex T n e.to).map ((u ++ [UInt8.ofNat b]) ++ ·) := by
  unfold doneW
  rw [show b + 1 - e.lo = (b - e.lo) + 1 by omega, edW_succ, ← List.append_assoc, List.map_append, show e.lo + (b - e.lo) = b by omega]
  congr 1
  unfold byteW
  rw [List.map_map]
  apply List.map_congr_left
  intro x _
  simp
theorem doneW_pre {T : Table} {n : Nat} {u : List UInt8} {es : List Ed} {i : Nat} (h : i < es.length) {b : Nat} (h2 : b ≤ (es[i]).hi) : doneW T n u es i es[i] (b + 1) <+: (esW T n es).map (u ++ ·) := by
  unfold doneW
  have h1 : esW T n (es.take i) ++ edW T n (es[i]).to (es[i]).lo (b + 1 - (es[i]).lo) <+: esW T n es := by
    have a1 : edW T n (es[i]).to (es[i]).lo (b + 1 - (es[i]).lo) <+: edW T n (es[i]).to (es[i]).lo ((es[i]).hi + 1 - (es[i]).lo) := by
      unfold edW
      have := List.range'_append_1 (s := (es[i]).lo) (m := b + 1 - (es[i]).lo) (n := ((es[i]).hi + 1 - (es[i]).lo) - (b + 1 - (es[i]).lo))
      rw [show (b + 1 - (es[i]).lo) + (((es[i]).hi + 1 - (es[i]).lo) - (b + 1 - (es[i]).lo)) = (es[i]).hi + 1 - (es[i]).lo by omega] at this
      rw [← this, List.flatMap_append]
      exact List.prefix_append _ _
    have a2 : esW T n (es.take (i + 1)) <+: esW T n es := by
      unfold esW
      conv => rhs; rw [← List.take_append_drop (i + 1) es, List.flatMap_append]
      exact List.prefix_append _ _
    rw [esW_take T n es h] at a2
    exact ((List.prefix_append_right_inj _).2 a1).trans a2
  exact h1.map _
theorem doneW_last {T : Table} {n : Nat} {u : List UInt8} {es : List Ed} {i : Nat} (h : i < es.length) {b : Nat} (hx : b = (es[i]).hi + 1 ∨ wex T n (es[i]).to = []) : doneW T n u es i es[i] b = (esW T n (es.take (i + 1))).map (u ++ ·) := by
  unfold doneW
  rw [esW_take T n es h]
  rcases hx with rfl | hx
  · rfl
  · rw [edW_nil hx, edW_nil hx]

set_option maxRecDepth 100000 in
set_option maxHeartbeats 8000000 in
theorem visit_step {T : Table} {l : Nat} {w0 : World} {m mk0 : Mem} {B Bx : List (List UInt8) → List Item → Prop} {Lr : List Item} {gy ga gt gv tb ntab ctab : Nat} {va : Value} (hE : VisEnv T l w0 m mk0 B Bx Lr gy ga gt gv tb ntab ctab va)
    (hwf : WF T) (hby : Bytes T) (n : Nat) (hn : n < ntab) (ih : VisOK T w0 m mk0 B Bx Lr gy ga gt gv n) : VisOK T w0 m mk0 B Bx Lr gy ga gt gv (n + 1) := by
  intro s u vp pre mk W Lt hs _ hun hle hp hB hO
  have hE0 := hE
  have hm0 := Mem.inn_le hle hO.inn
  have ha := Mem.cell_w hm0 hE.ca
  have hal := Mem.cell_lt hm0 hE.ca
  obtain ⟨aa, ac, rfl, a1, a2, a3⟩ := hE.tab
  obtain ⟨ab, ao, rfl, a4⟩ := a3 (by intro h; simp [h] at hs)
  obtain ⟨-, ve, s2, ea, ec, rfl, g4, g5, g6⟩ := a4 s hs
  have s2w := Mem.cell_w hm0 s2
  have s2l := Mem.cell_lt hm0 s2
  have Hex := Lib.hid (wex_esW hwf hby hs n)
  have hwfs := hwf T[s] (List.getElem_mem hs)
  have hbys := hby T[s] (List.getElem_mem hs)
  generalize T[s].edges = es at *
  have HW := Lib.hid (And.intro hwfs hbys)
  have HE := Lib.hid hE0
  have HIH := Lib.hid ih
  have HO := Lib.hid (And.intro hO hB)
  have Hle := Lib.hid hle
  have Hp := Lib.hid hp
  unfold maxLen at a2 g5
  have hdec : ((n : Int) + 1 == 0) = false := beq_eq_false_iff_ne.2 (by omega)
  rw [Hex.out]
  refine calls_hide fun R hR => ?_
  clear hE hE0 ih hO hB hle a3 a4 hwfs hbys hm0 s2 hp hwf hby
  rw [show ((n + 1 : Nat) : Int) = (n : Int) + 1 by omega]
  go_enter Tryd.func87, Tryd.ntmps87
  go_wp2
  refine wp_loop_keep [0, 1, 2, 3, 4, 5, 6, 25, 26, 27] (fun q vs W1 => ∃ (i : Nat) (mk1 : Mem) (Lt1 : List Item), i ≤ es.length ∧ q = es.length - i ∧
    vs = [.int .i64 s, .int .i64 ((n : Int) + 1), vp, .pointer (some ⟨gy, 0, none⟩), .pointer (some ⟨ga, 0, none⟩), .pointer (some ⟨gt, 0, none⟩), .pointer (some ⟨gv, 0, none⟩), .slice ea es.length ec, .int .i64 es.length, .int .i64 i] ∧
    mk.le mk1 ∧ B (pre ++ (esW T n (es.take i)).map (u ++ ·)) Lt1 ∧ Own w0 m W1 mk1 (Lt1 ++ Lr)) ?_ ?_
  · exact ⟨_, 0, mk, Lt, Nat.zero_le _, rfl, rfl, Mem.le_refl _, by simpa [esW] using HO.out.2, HO.out.1⟩
  clear HO s2w s2l ha hal
  rintro X z q vs W1 hX - ⟨i, mk1, Lt1, hi, rfl, rfl, hle1, hB1, hO1⟩
  simp [litL, lk]
  have hm1 := Mem.inn_le (Mem.le_trans Hle.out hle1) hO1.inn
  by_cases hlt : i < es.length
  · obtain ⟨eb, eo, rfl, g7⟩ := g6 (by intro h; simp [h] at hlt)
    obtain ⟨e1, e2, e3, e4, e5, e6⟩ := g7 i hlt
    have e1w := Mem.cell_w hm1 e1
    have e2w := Mem.cell_w hm1 e2
    have e3w := Mem.cell_w hm1 e3
    have el := Mem.cell_lt hm1 e1
    have hlh := wfEdges_lohi HW.out.1 es[i] (List.getElem_mem hlt)
    have HDp := Lib.hid (fun b (hb : b ≤ (es[i]).hi) => doneW_pre (T := T) (n := n) (u := u) hlt hb)
    have HDl := Lib.hid (fun b (hx : b = (es[i]).hi + 1 ∨ wex T n (es[i]).to = []) => doneW_last (T := T) (n := n) (u := u) hlt (b := b) hx)
    have HDn := Lib.hid (fun b (hb : (es[i]).lo ≤ b) => doneW_next T n u es i es[i] b hb)
    have hD0 : doneW T n u es i es[i] (es[i]).lo = (esW T n (es.take i)).map (u ++ ·) := by
      unfold doneW; rw [Nat.sub_self, edW_zero, List.append_nil]
    rw [← hD0] at hB1
    clear hD0
    generalize es[i] = e at *
    generalize hDD : doneW T n u es i e = DD at *
    clear hDD
    have hO2 := (hO1.al #[.int .u8 e.lo, .int .u8 e.hi, .int .i64 e.to] 51)
    have hO3 := hO2.sealObj
    have hle2 := Mem.le_trans hle1 (Mem.le_add (w := W1.alloc (.cells #[.int .u8 e.lo, .int .u8 e.hi, .int .i64 e.to] 51)) hO2.objFree)
    have x1 := Mem.add_cell (m := mk1) hO2.obj (i := 0) rfl
    have x2 := Mem.add_cell (m := mk1) hO2.obj (i := 1) rfl
    have x3 := Mem.add_cell (m := mk1) hO2.obj (i := 2) rfl
    have Hk := Lib.hid (And.intro hO3 (And.intro hle2 hB1))
    obtain ⟨t, ht⟩ := Int.eq_ofNat_of_zero_le hlh.2.1
    have htl : t < T.length := by omega
    have Ht := Lib.hid ht
    clear hO2 hO3 hO1 hB1 hle2 ht hm1
    go_wp2
    generalize W1.heap.size = E at *
    generalize mk1.add (W1.alloc (.cells #[.int .u8 e.lo, .int .u8 e.hi, .int .i64 e.to] 51)) E = mk2 at *
    refine wp_loop_keep [0, 1, 2, 3, 4, 5, 6, 12, 13, 25, 26, 27] (fun q vs W2 => ∃ (b : Nat) (mk3 : Mem) (Lt3 : List Item), e.lo ≤ b ∧ b ≤ e.hi + 1 ∧ q = e.hi + 1 - b ∧
      vs = [.int .i64 s, .int .i64 ((n : Int) + 1), vp, .pointer (some ⟨gy, 0, none⟩), .pointer (some ⟨ga, 0, none⟩), .pointer (some ⟨gt, 0, none⟩), .pointer (some ⟨gv, 0, none⟩), .pointer (some ⟨E, 0, none⟩), .int .i64 b, .slice (some ⟨eb, eo, none⟩) es.length ec, .int .i64 es.length, .int .i64 i] ∧
      mk2.le mk3 ∧ B (pre ++ DD b) Lt3 ∧ Own w0 m W2 mk3 (Lt3 ++ Lr)) ?_ ?_
    · exact ⟨_, e.lo, mk2, Lt1, Nat.le_refl _, by omega, rfl, rfl, Mem.le_refl _, Hk.out.2.2, Hk.out.1⟩
    clear e1w e2w e3w el
    rintro Y z2 q vs W2 hY - ⟨b, mk3, Lt3, hb1, hb2, rfl, rfl, hle3, hB3, hO3⟩
    simp [litL, lk]
    have hm3 := hO3.inn
    have y1 := Mem.cell_w hm3 (Mem.cell_le hle3 x1)
    have y2 := Mem.cell_w hm3 (Mem.cell_le hle3 x2)
    have y3 := Mem.cell_w hm3 (Mem.cell_le hle3 x3)
    simp only [List.getElem_toArray, List.getElem_cons_succ, List.getElem_cons_zero] at y3
    rw [Ht.out] at y3
    have yl := Mem.cell_lt hm3 (Mem.cell_le hle3 x1)
    have hle03 := Mem.le_trans (Mem.le_trans Hle.out Hk.out.2.1) hle3
    have hct := Mem.cell_w hm3 (Mem.cell_le hle03 HE.out.ct)
    have hctl := Mem.cell_lt hm3 (Mem.cell_le hle03 HE.out.ct)
    obtain ⟨ur, hur, ra, rc, rfl, r2, r3, r4⟩ := HE.out.rows _ _ _ hO3 n hn
    have hcl := canN_len T n
    obtain ⟨rb, ro, rfl, r5⟩ := r4 (by intro h; rw [h] at hcl; simp at hcl; omega)
    have hcn : t < (canN T n).length := by omega
    have z1 := r5 t hcn
    have z1w := Mem.cell_w hm3 (Mem.cell_le hle03 z1)
    have z1l := Mem.cell_lt hm3 (Mem.cell_le hle03 z1)
    have hurl : tb < W2.heap.size := by
      simp only [World.cell?] at hur
      split at hur
      · rename_i hb; exact (Array.getElem?_eq_some_iff.1 hb).1
      · cases hur
    have hcv : (canN T n)[t] = true ↔ wex T n (t : Int) ≠ [] := by
      have h1 := canN_get T n htl
      rw [List.getElem?_eq_getElem hcn] at h1
      rw [Option.some.inj h1]
      simp
    have Hcv := Lib.hid hcv
    obtain ⟨cb, hcb⟩ : ∃ cb, (canN T n)[t] = cb := ⟨_, rfl⟩
    rw [hcb] at z1w
    have Hcb := Lib.hid hcb
    have hw1 : IntKind.i64.wrap ((n : Int) + 1 - 1) = (n : Int) := by rw [IntWalk.i64_in _ (by omega)]; omega
    have hcl2 : T.length ≤ (canN T n).length := by omega
    have Hst := Lib.hid (And.intro hB3 (And.intro hO3 (And.intro hle3 hle03)))
    have hnt := HE.out.ntab
    unfold maxLen at r3 hnt
    generalize canN T n = cl at *
    clear hcl hcv hcb z1 r4 r5 hB3 hO3 hle03
    go_wp2
    refine wp_cut_keep [0, 1, 2, 3, 4, 5, 6, 12, 13, 25, 26, 27, 49] (fun vs w' => ∃ (bb : Bool) (nq : Nat), vs = [.int .i64 s, .int .i64 ((n : Int) + 1), vp, .pointer (some ⟨gy, 0, none⟩), .pointer (some ⟨ga, 0, none⟩), .pointer (some ⟨gt, 0, none⟩), .pointer (some ⟨gv, 0, none⟩), .pointer (some ⟨E, 0, none⟩), .int .i64 b, .slice (some ⟨eb, eo, none⟩) es.length ec, .int .i64 es.length, .int .i64 i, .bool bb] ∧
      w' = W2.drewN nq ∧ (bb = true → b ≤ e.hi ∧ wex T n (t : Int) ≠ []) ∧ (bb = false → b = e.hi + 1 ∨ wex T n (t : Int) = [])) ?_ ?_
    · intro V hV
      by_cases hbh : b ≤ e.hi
      · have hdb : decide ((b : Int) ≤ (e.hi : Int)) = true := decide_eq_true (by omega)
        refine wp_region_quiet_lit (by kernel_rfl) (by kernel_rfl) ?_
        repeat (any_goals (first | go_big_quiet_step (fail) | quiet_step (fail) | (refine wpQuiet_step (fun K hK => ?_); go_simp; split <;> (refine hK _ ?_; clear hK K))))
        all_goals (refine wpQuiet_nil ?_; intro _ hw'; obtain ⟨nq, hw''⟩ := hw'; subst hw'')
        all_goals go_wp2
        all_goals
          refine hV.out _ _ rfl ⟨cb, nq, rfl, rfl, fun h => ⟨hbh, Hcv.out.1 (Hcb.out.trans h)⟩, fun h => .inr (Classical.byContradiction fun hx => ?_)⟩
          have := Hcv.out.2 hx
          rw [Hcb.out, h] at this; cases this
      · have hdb : decide ((b : Int) ≤ (e.hi : Int)) = false := decide_eq_false (by omega)
        refine wp_region_quiet_lit (by kernel_rfl) (by kernel_rfl) ?_
        repeat (any_goals (first | go_big_quiet_step (fail) | quiet_step (fail) | (refine wpQuiet_step (fun K hK => ?_); go_simp; split <;> (refine hK _ ?_; clear hK K))))
        all_goals (refine wpQuiet_nil ?_; intro _ hw'; obtain ⟨nq, hw''⟩ := hw'; subst hw'')
        all_goals go_wp2
        all_goals exact hV.out _ _ rfl ⟨false, nq, rfl, rfl, (fun h => by cases h), fun _ => .inl (by omega)⟩
    rintro z3 vs w3 - ⟨bb, nq, rfl, rfl, hbt, hbf⟩
    simp [litL, lk]
    cases bb with
    | false =>
      have Hbf := Lib.hid (hbf rfl)
      clear hbt hbf
      go_wp2
      refine hX.out _ _ _ (by omega) rfl ⟨i + 1, mk3, Lt3, by omega, rfl, rfl, Mem.le_trans Hk.out.2.1 Hst.out.2.2.1, ?_, Hst.out.2.1.drN nq⟩
      rw [← HDl.out b (by rw [Ht.out]; exact Hbf.out)]
      exact Hst.out.1
    | true =>
      have Hbt := Lib.hid (hbt rfl)
      clear hbt hbf
      go_wp2
      refine wp_cut_keep [0, 1, 2, 3, 4, 5, 6, 12, 13, 25, 26, 27, 68] (fun vs w' => ∃ (bb : Bool) (mk4 : Mem) (Lt4 : List Item), vs = [.int .i64 s, .int .i64 ((n : Int) + 1), vp, .pointer (some ⟨gy, 0, none⟩), .pointer (some ⟨ga, 0, none⟩), .pointer (some ⟨gt, 0, none⟩), .pointer (some ⟨gv, 0, none⟩), .pointer (some ⟨E, 0, none⟩), .int .i64 b, .slice (some ⟨eb, eo, none⟩) es.length ec, .int .i64 es.length, .int .i64 i, .bool bb] ∧
        mk3.le mk4 ∧ Own w0 m w' mk4 (Lt4 ++ Lr) ∧ (bb = false → B (pre ++ DD (b + 1)) Lt4) ∧ (bb = true → ∃ qq, qq ≠ [] ∧ qq <+: (wex T n e.to).map ((u ++ [UInt8.ofNat b]) ++ ·) ∧ Bx ((pre ++ DD b) ++ qq) Lt4)) ?_ ?_
      · intro V hV
        have hpp := Hp.out.le (Mem.le_trans Hk.out.2.1 Hst.out.2.2.1)
        obtain ⟨hbh, hne⟩ := Hbt.out
        have hwu : IntKind.u8.wrap (b : Int) = (b : Int) := IntWalk.u8_in _ (by omega)
        have hcvf := fun w' (h : mk3.inn w') => Mem.cell_w h (Mem.cell_le Hst.out.2.2.2 HE.out.cv)
        have hx3 := fun w' (h : mk3.inn w') => Mem.cell_w h (Mem.cell_le hle3 x3)
        simp only [List.getElem_toArray, List.getElem_cons_succ, List.getElem_cons_zero] at hx3
        rw [Ht.out] at hx3
        have hw2 : IntKind.i64.wrap (n : Int) = (n : Int) := IntWalk.i64_in _ (by omega)
        have Hcvf := Lib.hid hcvf
        have Hx3 := Lib.hid hx3
        clear hcvf hx3
        have hul : u.length ≤ 1000000 := by omega
        refine wp_region_D (fun _ w' => mk3.inn w') (by kernel_rfl) ?_
        have hO := (Hst.out.2.1.drN nq).dr
        have hS : mk3.inn (W2.drewN nq).drew := hO.inn
        have hxl := Mem.cell_lt hS (Mem.cell_le hle3 x3)
        generalize (W2.drewN nq).drew = w4 at *
        rcases hpp with ⟨hu, hv⟩ | ⟨hu, g, c, hv, hp3, hp4, hp5⟩
        · subst hv
          have hpf : PrefAt mk3 (.slice none 0 0) u := .inl ⟨hu, rfl⟩
          have hcut : cutV (.slice none 0 0) u = .slice none 0 0 := by simp [cutV, hu]
          clear hu
          refine wpAnyS_take 0 rfl (by kernel_rfl) (fun _ _ _ h => h) hS (yields_of rfl fun w' hS' => by have q := Hcvf.out _ hS'; have q1 := Hx3.out _ hS'; have q2 := Mem.cell_lt hS' (Mem.cell_le hle3 x3); have q3 := Mem.cell_lt hS' (Mem.cell_le Hst.out.2.2.2 HE.out.cv); go_simp; rfl) ?_
          refine wpAnyS_take 1 rfl (by kernel_rfl) (fun _ _ _ h => h) hS (yields_of rfl fun w' hS' => by have q := Hcvf.out _ hS'; have q1 := Hx3.out _ hS'; have q2 := Mem.cell_lt hS' (Mem.cell_le hle3 x3); have q3 := Mem.cell_lt hS' (Mem.cell_le Hst.out.2.2.2 HE.out.cv); go_simp; rfl) ?_
          refine wpAnyS_take 2 rfl (by kernel_rfl) (fun _ _ _ h => h) hS (yields_of rfl fun w' hS' => by have q := Hcvf.out _ hS'; have q1 := Hx3.out _ hS'; have q2 := Mem.cell_lt hS' (Mem.cell_le hle3 x3); have q3 := Mem.cell_lt hS' (Mem.cell_le Hst.out.2.2.2 HE.out.cv); go_simp; rfl) ?_
          refine wpAnyS_take 3 rfl (by kernel_rfl) (fun _ _ _ h => h) hS (yields_of rfl fun w' hS' => by have q := Hcvf.out _ hS'; have q1 := Hx3.out _ hS'; have q2 := Mem.cell_lt hS' (Mem.cell_le hle3 x3); have q3 := Mem.cell_lt hS' (Mem.cell_le Hst.out.2.2.2 HE.out.cv); go_simp; rfl) ?_
          refine wpAnyS_take 4 rfl (by kernel_rfl) (fun _ _ _ h => h) hS (yields_of rfl fun w' hS' => by have q := Hcvf.out _ hS'; have q1 := Hx3.out _ hS'; have q2 := Mem.cell_lt hS' (Mem.cell_le hle3 x3); have q3 := Mem.cell_lt hS' (Mem.cell_le Hst.out.2.2.2 HE.out.cv); go_simp; rfl) ?_
          refine wpAnyS_take 5 rfl (by kernel_rfl) (fun _ _ _ h => h) hS (yields_of rfl fun w' hS' => by have q := Hcvf.out _ hS'; have q1 := Hx3.out _ hS'; have q2 := Mem.cell_lt hS' (Mem.cell_le hle3 x3); have q3 := Mem.cell_lt hS' (Mem.cell_le Hst.out.2.2.2 HE.out.cv); go_simp; rfl) ?_
          refine wpAnyS_take 6 rfl (by kernel_rfl) (fun _ _ _ h => h) hS (yields_of rfl fun w' hS' => by have q := Hcvf.out _ hS'; have q1 := Hx3.out _ hS'; have q2 := Mem.cell_lt hS' (Mem.cell_le hle3 x3); have q3 := Mem.cell_lt hS' (Mem.cell_le Hst.out.2.2.2 HE.out.cv); go_simp; rfl) ?_
          refine wpAnyS_take 7 rfl (by kernel_rfl) (fun _ _ _ h => h) hS (yields_of rfl fun w' hS' => by have q := Hcvf.out _ hS'; have q1 := Hx3.out _ hS'; have q2 := Mem.cell_lt hS' (Mem.cell_le hle3 x3); have q3 := Mem.cell_lt hS' (Mem.cell_le Hst.out.2.2.2 HE.out.cv); go_simp; rfl) ?_
          refine wpAnyS_take 8 rfl (by kernel_rfl) (fun _ _ _ h => h) hS (yields_of rfl fun w' hS' => by have q := Hcvf.out _ hS'; have q1 := Hx3.out _ hS'; have q2 := Mem.cell_lt hS' (Mem.cell_le hle3 x3); have q3 := Mem.cell_lt hS' (Mem.cell_le Hst.out.2.2.2 HE.out.cv); go_simp; rfl) ?_
          refine wpAnyS_take 9 rfl (by kernel_rfl) (fun _ _ _ h => h) hS (yields_of rfl fun w' hS' => by have q := Hcvf.out _ hS'; have q1 := Hx3.out _ hS'; have q2 := Mem.cell_lt hS' (Mem.cell_le hle3 x3); have q3 := Mem.cell_lt hS' (Mem.cell_le Hst.out.2.2.2 HE.out.cv); go_simp; rfl) ?_
          refine wpAnyS_take 10 rfl (by kernel_rfl) (fun _ _ _ h => h) hS (yields_of rfl fun w' hS' => by have q := Hcvf.out _ hS'; have q1 := Hx3.out _ hS'; have q2 := Mem.cell_lt hS' (Mem.cell_le hle3 x3); have q3 := Mem.cell_lt hS' (Mem.cell_le Hst.out.2.2.2 HE.out.cv); go_simp; rfl) ?_
          refine wpAnyS_take 11 rfl (by kernel_rfl) (fun _ _ _ h => h) hS (yields_of rfl fun w' hS' => by have q := Hcvf.out _ hS'; have q1 := Hx3.out _ hS'; have q2 := Mem.cell_lt hS' (Mem.cell_le hle3 x3); have q3 := Mem.cell_lt hS' (Mem.cell_le Hst.out.2.2.2 HE.out.cv); go_simp; rfl) ?_
          refine wpAnyS_take 12 rfl (by kernel_rfl) (fun _ _ _ h => h) hS (yields_of rfl fun w' hS' => by have q := Hcvf.out _ hS'; have q1 := Hx3.out _ hS'; have q2 := Mem.cell_lt hS' (Mem.cell_le hle3 x3); have q3 := Mem.cell_lt hS' (Mem.cell_le Hst.out.2.2.2 HE.out.cv); go_simp; rfl) ?_
          refine wpAnyD_only 13 (by kernel_rfl) (wpOp_of rfl rfl (wp_value (by go_simp; first | exact ⟨rfl, rfl⟩ | rfl) ⟨.inr (hO.al #[.int .u8 b] 5).inn, ?_⟩))
          go_simp
          have hO6 := hO.al #[.int .u8 b] 5
          obtain ⟨v', w6, mk4, hr, hO7, hle7, hpf7⟩ := run_push_byte hpf (by omega : b < 256) hO6 w4.heap.size (hO6.obj.cell (i := 0) rfl) hul
          rw [hcut] at hr
          refine wpAnyD_only 14 (by kernel_rfl) (wpOp_of rfl rfl (wp_append_run (.tmp 62) (.tmp 65) 90 rfl rfl rfl hr ⟨.inr (Mem.inn_le hle7 hO7.inn), ?_⟩))
          go_simp
          have hIH := HIH.out t (u ++ [UInt8.ofNat b]) v' (pre ++ DD b) mk4 w6 Lt3 htl hne (by simp; omega) (Mem.le_trans Hst.out.2.2.2 hle7) hpf7 Hst.out.1 (hO7.perm (List.Perm.refl _)).tail
          refine wpAnyD_only 15 (by kernel_rfl) (wpOp_of rfl rfl (wp_enter (by go_simp) hIH ?_))
          rintro e' w7 (⟨rfl, mk5, Lt5, k1, k2, k3⟩ | ⟨rfl, qq, mk5, Lt5, k0, k1, k2, k3, k4⟩)
          · refine ⟨_, rfl, .inr (Mem.inn_le (Mem.le_trans hle7 k3) k2.inn), ?_⟩
            go_simp
            refine wpAnyD_only 16 (by kernel_rfl) (wpOp_of rfl rfl (wp_value (by go_simp; first | done | exact ⟨rfl, rfl⟩ | rfl) ⟨.inl rfl, ?_⟩))
            refine wpAnyD_done (by kernel_rfl) ?_ _
            refine hV.out _ _ rfl ⟨false, mk5, Lt5, rfl, Mem.le_trans hle7 k3, k2, fun _ => ?_, fun h => by cases h⟩
            rw [HDn.out b hb1, ← List.append_assoc, Ht.out]; exact k1
          · refine ⟨_, rfl, .inr (Mem.inn_le (Mem.le_trans hle7 k4) k3.inn), ?_⟩
            go_simp
            refine wpAnyD_only 16 (by kernel_rfl) (wpOp_of rfl rfl (wp_value (by go_simp; first | done | exact ⟨rfl, rfl⟩ | rfl) ⟨.inl rfl, ?_⟩))
            refine wpAnyD_done (by kernel_rfl) ?_ _
            exact hV.out _ _ rfl ⟨true, mk5, Lt5, rfl, Mem.le_trans hle7 k4, k3, (fun h => by cases h), fun _ => ⟨qq, k0, by rw [Ht.out]; exact k1, k2⟩⟩
        · subst hv
          have hpf : PrefAt mk3 (.slice (some ⟨g, 0, none⟩) u.length c) u := .inr ⟨hu, g, c, rfl, hp3, hp4, hp5⟩
          have hcut : cutV (.slice (some ⟨g, 0, none⟩) u.length c) u = .slice (some ⟨g, 0, none⟩) u.length u.length := rfl
          have hu2 : 0 < u.length := List.length_pos_iff.2 hu
          unfold maxLen at hp4
          clear hu hp5
          refine wpAnyS_take 0 rfl (by kernel_rfl) (fun _ _ _ h => h) hS (yields_of rfl fun w' hS' => by have q := Hcvf.out _ hS'; have q1 := Hx3.out _ hS'; have q2 := Mem.cell_lt hS' (Mem.cell_le hle3 x3); have q3 := Mem.cell_lt hS' (Mem.cell_le Hst.out.2.2.2 HE.out.cv); go_simp; rfl) ?_
          refine wpAnyS_take 1 rfl (by kernel_rfl) (fun _ _ _ h => h) hS (yields_of rfl fun w' hS' => by have q := Hcvf.out _ hS'; have q1 := Hx3.out _ hS'; have q2 := Mem.cell_lt hS' (Mem.cell_le hle3 x3); have q3 := Mem.cell_lt hS' (Mem.cell_le Hst.out.2.2.2 HE.out.cv); go_simp; rfl) ?_
          refine wpAnyS_take 2 rfl (by kernel_rfl) (fun _ _ _ h => h) hS (yields_of rfl fun w' hS' => by have q := Hcvf.out _ hS'; have q1 := Hx3.out _ hS'; have q2 := Mem.cell_lt hS' (Mem.cell_le hle3 x3); have q3 := Mem.cell_lt hS' (Mem.cell_le Hst.out.2.2.2 HE.out.cv); go_simp; rfl) ?_
          refine wpAnyS_take 3 rfl (by kernel_rfl) (fun _ _ _ h => h) hS (yields_of rfl fun w' hS' => by have q := Hcvf.out _ hS'; have q1 := Hx3.out _ hS'; have q2 := Mem.cell_lt hS' (Mem.cell_le hle3 x3); have q3 := Mem.cell_lt hS' (Mem.cell_le Hst.out.2.2.2 HE.out.cv); go_simp; rfl) ?_
          refine wpAnyS_take 4 rfl (by kernel_rfl) (fun _ _ _ h => h) hS (yields_of rfl fun w' hS' => by have q := Hcvf.out _ hS'; have q1 := Hx3.out _ hS'; have q2 := Mem.cell_lt hS' (Mem.cell_le hle3 x3); have q3 := Mem.cell_lt hS' (Mem.cell_le Hst.out.2.2.2 HE.out.cv); go_simp; rfl) ?_
          refine wpAnyS_take 5 rfl (by kernel_rfl) (fun _ _ _ h => h) hS (yields_of rfl fun w' hS' => by have q := Hcvf.out _ hS'; have q1 := Hx3.out _ hS'; have q2 := Mem.cell_lt hS' (Mem.cell_le hle3 x3); have q3 := Mem.cell_lt hS' (Mem.cell_le Hst.out.2.2.2 HE.out.cv); go_simp; rfl) ?_
          refine wpAnyS_take 6 rfl (by kernel_rfl) (fun _ _ _ h => h) hS (yields_of rfl fun w' hS' => by have q := Hcvf.out _ hS'; have q1 := Hx3.out _ hS'; have q2 := Mem.cell_lt hS' (Mem.cell_le hle3 x3); have q3 := Mem.cell_lt hS' (Mem.cell_le Hst.out.2.2.2 HE.out.cv); go_simp; rfl) ?_
          refine wpAnyS_take 7 rfl (by kernel_rfl) (fun _ _ _ h => h) hS (yields_of rfl fun w' hS' => by have q := Hcvf.out _ hS'; have q1 := Hx3.out _ hS'; have q2 := Mem.cell_lt hS' (Mem.cell_le hle3 x3); have q3 := Mem.cell_lt hS' (Mem.cell_le Hst.out.2.2.2 HE.out.cv); go_simp; rfl) ?_
          refine wpAnyS_take 8 rfl (by kernel_rfl) (fun _ _ _ h => h) hS (yields_of rfl fun w' hS' => by have q := Hcvf.out _ hS'; have q1 := Hx3.out _ hS'; have q2 := Mem.cell_lt hS' (Mem.cell_le hle3 x3); have q3 := Mem.cell_lt hS' (Mem.cell_le Hst.out.2.2.2 HE.out.cv); go_simp; rfl) ?_
          refine wpAnyS_take 9 rfl (by kernel_rfl) (fun _ _ _ h => h) hS (yields_of rfl fun w' hS' => by have q := Hcvf.out _ hS'; have q1 := Hx3.out _ hS'; have q2 := Mem.cell_lt hS' (Mem.cell_le hle3 x3); have q3 := Mem.cell_lt hS' (Mem.cell_le Hst.out.2.2.2 HE.out.cv); go_simp; rfl) ?_
          refine wpAnyS_take 10 rfl (by kernel_rfl) (fun _ _ _ h => h) hS (yields_of rfl fun w' hS' => by have q := Hcvf.out _ hS'; have q1 := Hx3.out _ hS'; have q2 := Mem.cell_lt hS' (Mem.cell_le hle3 x3); have q3 := Mem.cell_lt hS' (Mem.cell_le Hst.out.2.2.2 HE.out.cv); go_simp; rfl) ?_
          refine wpAnyS_take 11 rfl (by kernel_rfl) (fun _ _ _ h => h) hS (yields_of rfl fun w' hS' => by have q := Hcvf.out _ hS'; have q1 := Hx3.out _ hS'; have q2 := Mem.cell_lt hS' (Mem.cell_le hle3 x3); have q3 := Mem.cell_lt hS' (Mem.cell_le Hst.out.2.2.2 HE.out.cv); go_simp; rfl) ?_
          refine wpAnyS_take 12 rfl (by kernel_rfl) (fun _ _ _ h => h) hS (yields_of rfl fun w' hS' => by have q := Hcvf.out _ hS'; have q1 := Hx3.out _ hS'; have q2 := Mem.cell_lt hS' (Mem.cell_le hle3 x3); have q3 := Mem.cell_lt hS' (Mem.cell_le Hst.out.2.2.2 HE.out.cv); go_simp; rfl) ?_
          refine wpAnyD_only 13 (by kernel_rfl) (wpOp_of rfl rfl (wp_value (by go_simp; first | exact ⟨rfl, rfl⟩ | rfl) ⟨.inr (hO.al #[.int .u8 b] 5).inn, ?_⟩))
          go_simp
          have hO6 := hO.al #[.int .u8 b] 5
          obtain ⟨v', w6, mk4, hr, hO7, hle7, hpf7⟩ := run_push_byte hpf (by omega : b < 256) hO6 w4.heap.size (hO6.obj.cell (i := 0) rfl) hul
          rw [hcut] at hr
          refine wpAnyD_only 14 (by kernel_rfl) (wpOp_of rfl rfl (wp_append_run (.tmp 62) (.tmp 65) 90 rfl rfl rfl hr ⟨.inr (Mem.inn_le hle7 hO7.inn), ?_⟩))
          go_simp
          have hIH := HIH.out t (u ++ [UInt8.ofNat b]) v' (pre ++ DD b) mk4 w6 Lt3 htl hne (by simp; omega) (Mem.le_trans Hst.out.2.2.2 hle7) hpf7 Hst.out.1 (hO7.perm (List.Perm.refl _)).tail
          refine wpAnyD_only 15 (by kernel_rfl) (wpOp_of rfl rfl (wp_enter (by go_simp) hIH ?_))
          rintro e' w7 (⟨rfl, mk5, Lt5, k1, k2, k3⟩ | ⟨rfl, qq, mk5, Lt5, k0, k1, k2, k3, k4⟩)
          · refine ⟨_, rfl, .inr (Mem.inn_le (Mem.le_trans hle7 k3) k2.inn), ?_⟩
            go_simp
            refine wpAnyD_only 16 (by kernel_rfl) (wpOp_of rfl rfl (wp_value (by go_simp; first | done | exact ⟨rfl, rfl⟩ | rfl) ⟨.inl rfl, ?_⟩))
            refine wpAnyD_done (by kernel_rfl) ?_ _
            refine hV.out _ _ rfl ⟨false, mk5, Lt5, rfl, Mem.le_trans hle7 k3, k2, fun _ => ?_, fun h => by cases h⟩
            rw [HDn.out b hb1, ← List.append_assoc, Ht.out]; exact k1
          · refine ⟨_, rfl, .inr (Mem.inn_le (Mem.le_trans hle7 k4) k3.inn), ?_⟩
            go_simp
            refine wpAnyD_only 16 (by kernel_rfl) (wpOp_of rfl rfl (wp_value (by go_simp; first | done | exact ⟨rfl, rfl⟩ | rfl) ⟨.inl rfl, ?_⟩))
            refine wpAnyD_done (by kernel_rfl) ?_ _
            exact hV.out _ _ rfl ⟨true, mk5, Lt5, rfl, Mem.le_trans hle7 k4, k3, (fun h => by cases h), fun _ => ⟨qq, k0, by rw [Ht.out]; exact k1, k2⟩⟩
      rintro z5 vs w5 - ⟨bb, mk4, Lt4, rfl, hle4, hO4, hB4, hX4⟩
      simp [litL, lk]
      cases bb with
      | true =>
        obtain ⟨qq, hq1, hq2, hq3⟩ := hX4 rfl
        have Hq := Lib.hid (And.intro hq1 (And.intro hq2 (And.intro hq3 (And.intro hO4 hle4))))
        clear hX4 hB4 hq1 hq2 hq3 hO4 hle4 y1 y2 y3 hct z1w hur
        go_wp2
        refine hR.out _ _ (.inr ⟨rfl, DD b ++ qq, mk4, Lt4, ?_, ?_, ?_, Hq.out.2.2.2.1, Mem.le_trans (Mem.le_trans Hk.out.2.1 Hst.out.2.2.1) Hq.out.2.2.2.2⟩)
        · intro h; exact Hq.out.1 (List.append_eq_nil_iff.1 h).2
        · have h1 := HDp.out b Hbt.out.1
          rw [HDn.out b hb1] at h1
          exact ((List.prefix_append_right_inj _).2 Hq.out.2.1).trans h1
        · rw [← List.append_assoc]; exact Hq.out.2.2.1
      | false =>
        have hB5 := hB4 rfl
        have Hq := Lib.hid (And.intro hB5 (And.intro hO4 hle4))
        clear hX4 hB4 hB5 hO4 hle4 y1 y2 y3 hct z1w hur
        go_wp2
        exact hY.out _ _ _ (by have := Hbt.out.1; omega) rfl ⟨b + 1, mk4, Lt4, by omega, by have := Hbt.out.1; omega, rfl, rfl, Mem.le_trans Hst.out.2.2.1 Hq.out.2.2, Hq.out.1, Hq.out.2.1⟩
  · obtain rfl : i = es.length := by omega
    rw [List.take_length] at hB1
    have Hq := Lib.hid (And.intro hB1 (And.intro hO1 hle1))
    clear hB1 hO1 hle1
    go_wp2
    exact hR.out _ _ (.inl ⟨rfl, mk1, Lt1, Hq.out.1, Hq.out.2.1, Hq.out.2.2⟩)
end Cl
namespace Cl
open Go

section
variable {P : Program} {ops : Array Oper} {Q : Exit → Act → World → Prop} {D : Nat → World → Prop}

/-- does number j wait for number i, be it through others? -/
def waitsT (ops : Array Oper) : Nat → Nat → Nat → Bool
  | 0, _, _ => false
  | n + 1, j, i => ((ops[j]?).map fun o => o.after.any fun e => Region.binds .any e && (e.on == i || waitsT ops n e.on i)).getD false
def closedL (ops : Array Oper) (listed : Array Bool) : Bool :=
  (List.range ops.size).all fun k => !(listed.getD k true) || ((ops[k]?).map fun o => o.after.all fun e => !(Region.binds .any e) || listed.getD e.on true).getD true
theorem closedL_spec {listed : Array Bool} (h : closedL ops listed = true) {k : Nat} {ok : Oper} (hk : ops[k]? = some ok) (hl : listed.getD k true = true) : ∀ e ∈ ok.after, Region.binds .any e = true → listed.getD e.on true = true := by
  intro e he hb
  have hks := (Array.getElem?_eq_some_iff.1 hk).1
  have h1 := List.all_eq_true.1 h k (List.mem_range.2 hks)
  rw [hl, hk] at h1
  simp only [Bool.not_true, Bool.false_or, Option.map_some, Option.getD_some] at h1
  have h2 := (Array.all_eq_true_iff_forall_mem.1 h1) e he
  rw [hb] at h2
  simpa using h2
theorem waits_listed {listed : Array Bool} (hc : ∀ k ok, ops[k]? = some ok → listed.getD k true = true → ∀ e ∈ ok.after, Region.binds .any e = true → listed.getD e.on true = true) {i : Nat} :
    ∀ (n j : Nat), listed.getD j true = true → waitsT ops n j i = true → listed.getD i true = true := by
  intro n
  induction n with
  | zero => intro j _ h; cases h
  | succ n ih =>
    intro j hj h
    unfold waitsT at h
    cases ho : ops[j]? with
    | none => rw [ho] at h; cases h
    | some o =>
      rw [ho] at h
      simp only [Option.map_some, Option.getD_some, Array.any_eq_true', Bool.and_eq_true, Bool.or_eq_true, beq_iff_eq] at h
      obtain ⟨e, he, hb, h1⟩ := h
      have h2 := hc j o ho hj e he hb
      rcases h1 with h1 | h1
      · rw [← h1]; exact h2
      · exact ih e.on h2 h1
theorem not_ready_T {listed : Array Bool} (hc : ∀ k ok, ops[k]? = some ok → listed.getD k true = true → ∀ e ∈ ok.after, Region.binds .any e = true → listed.getD e.on true = true) {i j n : Nat} (hr : i ∈ Region.ready .any ops listed) (hj : j ∈ Region.ready .any ops listed) : waitsT ops n j i = false := by
  cases h : waitsT ops n j i with
  | false => rfl
  | true =>
    obtain ⟨hiu, -⟩ := mem_ready.1 hr
    obtain ⟨-, oj, hoj, hall⟩ := mem_ready.1 hj
    have hui : ¬ listed.getD i true = true := by
      rcases Nat.lt_or_ge i listed.size with h' | h'
      · simp [h'] at hiu ⊢; exact hiu
      · simp [Array.getElem?_eq_none h'] at hiu
    cases n with
    | zero => cases h
    | succ n =>
      unfold waitsT at h
      rw [hoj] at h
      simp only [Option.map_some, Option.getD_some, Array.any_eq_true', Bool.and_eq_true, Bool.or_eq_true, beq_iff_eq] at h
      obtain ⟨e, he, hb, h1⟩ := h
      have h2 := hall e he hb
      have h3 : listed.getD e.on true = true := by
        rcases Nat.lt_or_ge e.on listed.size with h' | h'
        · simp [h'] at h2 ⊢; exact h2
        · simp [Array.getElem?_eq_none h']
      rcases h1 with h1 | h1
      · rw [h1] at h3; exact absurd h3 hui
      · exact absurd (waits_listed hc n e.on h3 h1) hui

theorem wpAnyD_firstT {n i : Nat} {oi : Oper} {v : Value} (hi : ops[i]? = some oi) (hsel : ∀ (j : Nat) (o : Oper) cs b, ops[j]? = some o → o.op ≠ .select cs b)
    (hQ : ∀ c a w, Q (.panic c) (a.put oi.dst v) w → Q (.panic c) a w) {S : World → Prop} (hlast : ∀ j w', waitsT ops n j i = false → D j w' → S w') :
    ∀ (fuel : Nat) (listed : Array Bool) (a : Act) (w : World),
      (∀ k ok, ops[k]? = some ok → listed.getD k true = true → ∀ e ∈ ok.after, Region.binds .any e = true → listed.getD e.on true = true) →
      (∀ j oj, ops[j]? = some oj → j ≠ i → listed.getD j true = false → (∀ e ∈ oj.after, Region.binds .any e = true → e.on ≠ i) → oi.apart ops oj = true) →
      i ∈ Region.ready .any ops listed → YieldsIf P ops S oi v a → S w →
      wpAnyD P ops Q D fuel (listed.setIfInBounds i true) (a.put oi.dst v) w → wpAnyD P ops Q D (fuel + 1) listed a w := by
  intro fuel
  induction fuel with
  | zero =>
    intro listed a w _ _ hr hy hS H
    refine ⟨fun h => (by rw [h] at hr; cases hr), fun j hj => ?_⟩
    by_cases hji : j = i
    · subst hji; exact hy.wpOp hi hS ⟨.inl rfl, H⟩
    · have := ready_mono hj hji
      rw [H.1] at this
      cases this
  | succ fuel ih =>
    intro listed a w hcl hfree hr hy hS H
    refine ⟨fun h => (by rw [h] at hr; cases hr), fun j hj => ?_⟩
    by_cases hji : j = i
    · subst hji; exact hy.wpOp hi hS ⟨.inl rfl, H⟩
    · have h1 := H.2 j (ready_mono hj hji)
      have hjl := fun w' => hlast j w' (not_ready_T hcl hr hj)
      obtain ⟨hjun, oj, hoj, hall⟩ := mem_ready.1 hj
      have hcl' : ∀ k ok, ops[k]? = some ok → (listed.setIfInBounds j true).getD k true = true → ∀ e ∈ ok.after, Region.binds .any e = true → (listed.setIfInBounds j true).getD e.on true = true := by
        have up : ∀ x, listed.getD x true = true → (listed.setIfInBounds j true).getD x true = true := fun x hx => by
          by_cases e : j = x
          · subst e
            by_cases hs : j < listed.size
            · simp [hs]
            · simp
          · rw [getD_set_ne true e]; exact hx
        intro k ok hk hl e he hb
        by_cases hkj : j = k
        · subst hkj
          rw [hoj] at hk
          cases hk
          refine up _ ?_
          have h2 := hall e he hb
          rcases Nat.lt_or_ge e.on listed.size with h' | h'
          · simp [h'] at h2 ⊢; exact h2
          · simp [Array.getElem?_eq_none h']
        · rw [getD_set_ne true hkj] at hl
          exact up _ (hcl k ok hk hl e he hb)
      have hnot : ∀ e ∈ oj.after, Region.binds .any e = true → e.on ≠ i := fun e he hb heq => by
        have h1 := hall e he hb
        have h0 := (mem_ready.1 hr).1
        rw [heq] at h1
        rcases Nat.lt_or_ge i listed.size with h' | h'
        · simp [h'] at h0 h1; rw [h0] at h1; cases h1
        · simp [Array.getElem?_eq_none h'] at h1
      have h2 := wpOp_putIf hoj (hfree j oj hoj hji hjun hnot) (fun cs b => hsel i oi cs b hi) (fun cs b => hsel j oj cs b hoj) hQ hy h1
      have hfree' : ∀ k ok, ops[k]? = some ok → k ≠ i → (listed.setIfInBounds j true).getD k true = false →
          (∀ e ∈ ok.after, Region.binds .any e = true → e.on ≠ i) → oi.apart ops ok = true := fun k ok hk hki hun hno => by
        refine hfree k ok hk hki ?_ hno
        by_cases hjk : j = k
        · subst hjk; exact hjun
        · rw [getD_set_ne true hjk] at hun; exact hun
      refine wpOp_mono (fun a' w' h3 => ⟨h3.2.1, ih (listed.setIfInBounds j true) a' w' hcl' hfree' (ready_mono hr (Ne.symm hji)) h3.1 (h3.2.1.elim (fun e => by rw [e]; exact hS) (hjl w')) ?_⟩) h2
      rw [Array.setIfInBounds_comm _ _ hji]
      exact h3.2.2
/-- Take number 'i' first: whatever waits for it, be it through others, need not keep S. -/
theorem wpAnyD_takeT (i n : Nat) (S : World → Prop) {oi : Oper} {v : Value} {fuel : Nat} {listed : Array Bool} {a : Act} {w : World} (hi : ops[i]? = some oi)
    (hs : (Region.noSelect ops && Region.free .any ops listed i && (Region.ready .any ops listed).contains i && closedL ops listed) = true)
    (hQ : ∀ c a w, Q (.panic c) (a.put oi.dst v) w → Q (.panic c) a w) (hlast : ∀ j w', waitsT ops n j i = false → D j w' → S w') (hS : S w) (hy : YieldsIf P ops S oi v a)
    (h : wpAnyD P ops Q D fuel (listed.setIfInBounds i true) (a.put oi.dst v) w) : wpAnyD P ops Q D (fuel + 1) listed a w := by
  simp only [Bool.and_eq_true] at hs
  obtain ⟨⟨⟨h1, h2⟩, h3⟩, h4⟩ := hs
  exact wpAnyD_firstT hi (Region.noSelect_spec h1) hQ hlast fuel listed a w (fun k ok hk hl => closedL_spec h4 hk hl) (Region.free_spec hi h2) (by simpa using h3) hy hS h
theorem waitsT_no {n j i : Nat} (h : waitsT ops n j i = true) (k : waitsT ops n j i = false) : False := by rw [h] at k; cases k
/-- an operation whose guard says yes; no -/
theorem wpOp_of2 {i : Nat} {o : Oper} {K : Act → World → Prop} {a : Act} {w : World} (hi : ops[i]? = some o) (hw : Region.wanted o (yielded ops a.tmps) = true) (h : o.wp P a w K Q) : wpOp P ops Q i K a w := by
  unfold wpOp
  rw [hi]
  simp only [hw, if_true]
  exact .inl h
theorem wpOp_no {i : Nat} {o : Oper} {K : Act → World → Prop} {a : Act} {w : World} (hi : ops[i]? = some o) (hw : Region.wanted o (yielded ops a.tmps) = false) (h : K (a.put o.dst undef) w) : wpOp P ops Q i K a w := by
  unfold wpOp
  rw [hi]
  simp only [hw]
  simpa using h
end
end Cl
namespace Cl
open Go Go.RowKit Go.Proofs

theorem visit_all {T : Table} {l : Nat} {w0 : World} {m mk0 : Mem} {B Bx : List (List UInt8) → List Item → Prop} {Lr : List Item} {gy ga gt gv tb ntab ctab : Nat} {va : Value} (hE : VisEnv T l w0 m mk0 B Bx Lr gy ga gt gv tb ntab ctab va)
    (hwf : WF T) (hby : Bytes T) : ∀ n, n ≤ ntab → VisOK T w0 m mk0 B Bx Lr gy ga gt gv n
  | 0, _ => visit_zero hE
  | n + 1, h => visit_step hE hwf hby n h (visit_all hE hwf hby n (by omega))

theorem Own.seal1 {w0 w : World} {m mk : Mem} {L : List Cl.Item} {g : Nat} {t : TypeId} {v : Value} (h : Own w0 m w mk (.obj g t #[v] :: L)) : ∃ mk', Own w0 m w mk' L ∧ mk.le mk' ∧ mk'.cell g 0 = some v :=
  ⟨_, h.sealObj, Mem.le_add h.objFree, Mem.add_cell h.obj rfl⟩

set_option maxRecDepth 100000 in
set_option maxHeartbeats 2000000 in
theorem some_any {T : Table} {l : Nat} {w0 : World} {m mk0 : Mem} {B Bx : List (List UInt8) → List Item → Prop} {Lr : List Item} {tb n ctab clast ntab : Nat} {va : Value} (hwf : WF T) (hby : Bytes T)
    (hY : YieldOK Tryd.prog l (fun x : List UInt8 => #[Value.string ⟨x.toArray⟩]) w0 m mk0 B Bx) (htab : statesAt mk0 va T) (hpos : 0 < T.length) (hnt : ntab ≤ maxLen) (hn : n < ntab) (hn2 : n ≤ 1000000) (_ : clast ≤ maxLen)
    (rows : ∀ W mk Lt, Own w0 m W mk (Lt ++ Lr) → ∀ i, i < ntab → ∃ u, W.cell? ⟨tb, i, none⟩ = some u ∧ boolsAt mk0 u (canN T i))
    (pre : List (List UInt8)) (mk : Mem) (W : World) (Lt : List Item) (hle : mk0.le mk) (hB : B pre Lt) (hO : Own w0 m W mk (Lt ++ Lr)) :
    Calls Tryd.prog 72 #[.agg #[va], .slice (some ⟨tb, n, none⟩) 1 clast, .int .i64 n, .func (.yield l) #[] #[], .slice (some ⟨tb, 0, none⟩) ntab ctab] W (VisEnd w0 m mk B Bx Lr pre (wex T n 0)) := by
  have hO1 := ((hO.al #[va] 24).al #[.func (.yield l) #[] #[]] 87).al #[.slice (some ⟨tb, 0, none⟩) ntab ctab] 57
  have hsz1 : (W.alloc (.cells #[va] 24)).heap.size = W.heap.size + 1 := by simp
  have hsz2 : ((W.alloc (.cells #[va] 24)).alloc (.cells #[.func (.yield l) #[] #[]] 87)).heap.size = W.heap.size + 1 + 1 := by simp
  rw [hsz2, hsz1] at hO1
  obtain ⟨ur, hur, hb⟩ := rows W mk Lt hO n hn
  obtain ⟨ra, rc, rfl, r2, r3, r4⟩ := hb
  have hcl0 := canN_len T n
  obtain ⟨rb, ro, rfl, r5⟩ := r4 (by intro h; rw [h] at hcl0; simp at hcl0; omega)
  have h0 : 0 < (canN T n).length := by omega
  have z1 := r5 0 h0
  rw [Nat.add_zero] at z1
  have z1w := Mem.cell_w hO.inn (Mem.cell_le hle z1)
  have z1l := Mem.cell_lt hO.inn (Mem.cell_le hle z1)
  have hurl : tb < W.heap.size := by
    simp only [World.cell?] at hur
    split at hur
    · rename_i hb; exact (Array.getElem?_eq_some_iff.1 hb).1
    · cases hur
  have hcv : (canN T n)[0] = true ↔ wex T n ((0 : Nat) : Int) ≠ [] := by
    have h1 := canN_get T n hpos
    rw [List.getElem?_eq_getElem h0] at h1
    rw [Option.some.inj h1]
    simp
  obtain ⟨cb, hcb⟩ : ∃ cb, (canN T n)[0] = cb := ⟨_, rfl⟩
  rw [hcb] at z1w hcv
  have hcl2 : 0 < (canN T n).length := h0
  have hta := htab
  obtain ⟨aa, ac, rfl, -⟩ := htab
  have HO1 := Lib.hid (And.intro hO1 (And.intro hB (And.intro hle (And.intro rows (And.intro hY (And.intro hta (And.intro hwf hby)))))))
  have Hcv := Lib.hid hcv
  unfold maxLen at r3 hnt
  generalize canN T n = cl at *
  clear hO1 hO hB hle hcl0 hcv hcb z1 r4 r5 hsz1 hsz2 rows hY hta hwf hby
  have hurl1 : tb < W.heap.size + 1 := by omega
  have hurl2 : tb < W.heap.size + 1 + 1 := by omega
  have hurl3 : tb < W.heap.size + 1 + 1 + 1 := by omega
  have z1l1 : rb < W.heap.size + 1 := by omega
  have z1l2 : rb < W.heap.size + 1 + 1 := by omega
  have z1l3 : rb < W.heap.size + 1 + 1 + 1 := by omega
  refine calls_hide fun R hR => ?_
  cases cb with
  | false =>
    go_enter Tryd.func72, Tryd.ntmps72
    go_wp2
    have hw0 : wex T n 0 = [] := Classical.byContradiction fun h => by have := Hcv.out.2 h; cases this
    refine hR.out _ _ (.inl ⟨rfl, mk, Lt, by rw [hw0, List.append_nil]; exact HO1.out.2.1, ?_, Mem.le_refl _⟩)
    exact HO1.out.1.tail.tail.tail
  | true =>
    have hO2 := (HO1.out.1.al #[.func (.func 87) #[] #[.pointer (some ⟨W.heap.size + 1, 0, none⟩), .pointer (some ⟨W.heap.size, 0, none⟩), .pointer (some ⟨W.heap.size + 1 + 1, 0, none⟩), .pointer (some ⟨W.heap.size + 1 + 1 + 1, 0, none⟩)]] 100)
    have hsz3 : (((W.alloc (.cells #[.slice aa T.length ac] 24)).alloc (.cells #[.func (.yield l) #[] #[]] 87)).alloc (.cells #[.slice (some ⟨tb, 0, none⟩) ntab ctab] 57)).heap.size = W.heap.size + 1 + 1 + 1 := by simp
    rw [hsz3] at hO2
    obtain ⟨m1, hO3, l1, c1⟩ := hO2.seal1
    obtain ⟨m2, hO4, l2, c2⟩ := hO3.seal1
    obtain ⟨m3, hO5, l3, c3⟩ := hO4.seal1
    obtain ⟨m4, hO6, l4, c4⟩ := hO5.seal1
    have hle := HO1.out.2.2.1
    have hle4 := Mem.le_trans (Mem.le_trans (Mem.le_trans l1 l2) l3) l4
    have hE : VisEnv T l w0 m m4 B Bx Lr (W.heap.size + 1) W.heap.size (W.heap.size + 1 + 1) (W.heap.size + 1 + 1 + 1) tb ntab ctab (.slice aa T.length ac) := by
      refine ⟨fun pre x W' mk' Lt' Lr' h1 h2 h3 => HO1.out.2.2.2.2.1 pre x W' mk' Lt' Lr' h1 h2 (Mem.le_trans (Mem.le_trans hle hle4) h3), Mem.cell_le l4 c3, c4, Mem.cell_le (Mem.le_trans l3 l4) c2,
        Mem.cell_le (Mem.le_trans (Mem.le_trans l2 l3) l4) c1, statesAt_le (Mem.le_trans hle hle4) HO1.out.2.2.2.2.2.1, fun W' mk' Lt' h i hi => ?_, by unfold maxLen; exact hnt⟩
      obtain ⟨u, h1, h2⟩ := HO1.out.2.2.2.1 W' mk' Lt' h i hi
      exact ⟨u, h1, boolsAt_le (Mem.le_trans hle hle4) h2⟩
    have hV := visit_all hE HO1.out.2.2.2.2.2.2.1 HO1.out.2.2.2.2.2.2.2 n (by omega) 0 [] (.slice none 0 0) pre m4 _ Lt hpos (Hcv.out.1 rfl) (by simp; omega) (Mem.le_refl _) (.inl ⟨rfl, rfl⟩) HO1.out.2.1 hO6
    rw [show ((0 : Nat) : Int) = (0 : Int) from rfl] at hV
    have HV := Lib.hid (And.intro hV hle4)
    clear hV hE hO6 hO5 hO4 hO3 hO2 c1 c2 c3 c4 l1 l2 l3 l4 hle hle4 hsz3 m1 m2 m3
    go_enter Tryd.func72, Tryd.ntmps72
    go_wp2_with fail
    refine HV.out.1.mono ?_
    rintro e' w7 (⟨rfl, mk5, Lt5, k1, k2, k3⟩ | ⟨rfl, qq, mk5, Lt5, k0, k1, k2, k3, k4⟩)
    · have Hq := Lib.hid (And.intro k1 (And.intro k2 k3))
      clear k1 k2 k3
      go_wp2
      exact hR.out _ _ (.inl ⟨rfl, mk5, Lt5, by simpa using Hq.out.1, Hq.out.2.1, Mem.le_trans HV.out.2 Hq.out.2.2⟩)
    · have Hq := Lib.hid (And.intro k0 (And.intro k1 (And.intro k2 (And.intro k3 k4))))
      clear k0 k1 k2 k3 k4
      go_wp2
      exact hR.out _ _ (.inr ⟨rfl, qq, mk5, Lt5, Hq.out.1, by simpa using Hq.out.2.1, Hq.out.2.2.1, Hq.out.2.2.2.1, Mem.le_trans HV.out.2 Hq.out.2.2.2.2⟩)
end Cl
namespace Cl
open Go Go.RowKit Go.Proofs

theorem set_mid {α : Type} (A C : List α) (x y : α) {k : Nat} (h : A.length = k) : (A ++ x :: C).set k y = A ++ y :: C := by
  subst h
  simp
theorem get_mid {α : Type} (A C : List α) (x : α) {k : Nat} (h : A.length = k) : (A ++ x :: C)[k]? = some x := by
  subst h
  simp
def canF (less : List Bool) (s : Sn) : Bool := s.edges.any fun e => less.getD e.to.toNat false

set_option maxRecDepth 100000 in
set_option maxHeartbeats 2000000 in
theorem can_any (v0 v1 : Value) (l : Table) (less : List Bool) (m : Mem) (w : World) (hm : m.inn w) (hl : statesAt m v0 l) (hb : boolsAt m v1 less) (hwf : WF l) (hlen : l.length ≤ 1000000) (hle : less.length = l.length) :
    Calls Tryd.prog 71 #[.agg #[v0], v1] w fun e w' => ∃ r, e = .returned r ∧ Below w.heap.size w w' ∧ boolsAt (m.grow w w') r (l.map (canF less)) := by
  obtain ⟨a, c, rfl, h1, h2, h3⟩ := hl
  obtain ⟨ba, bc, rfl, b1, b2, b3⟩ := hb
  unfold maxLen at h2 b2
  have hO := (Own.start hm).al #[.slice a l.length c] 24
  have HO := Lib.hid hO
  have hle1 : l.length ≤ less.length := by omega
  have hle2 : less.length ≤ l.length := by omega
  have g1 := hO.obj.cell (i := 0) rfl
  have g2 := hO.obj.lt
  clear hO hle
  refine calls_hide fun R hR => ?_
  go_enter Tryd.func71, Tryd.ntmps71
  go_wp2_with (refine wpList_make_row mkBools rfl (.tmp 11) (.tmp 11) rfl l.length rfl rfl (by omega) (by unfold maxLen; omega) ?_)
  intro w5 hown hgrow
  have hszz : (w.alloc (.cells #[.slice a l.length c] 24)).heap.size = w.heap.size + 1 := by simp
  have hO := HO.out.make (by rw [hszz]; exact hown) hgrow
  rw [hszz] at hO
  have hrep : List.replicate l.length (Value.bool false) = ((l.take 0).map (canF less) ++ List.replicate (l.length - 0) false).map Value.bool := by simp
  rw [hrep] at hO
  have hg1 := hO.swap.obj.cell (i := 0) rfl
  have hg2 := hO.swap.obj.lt
  clear hszz
  generalize w.heap.size + 1 = B at *
  have HO2 := Lib.hid hO
  clear hown hgrow hrep HO g1 g2 hO
  go_wp2
  refine wp_loop_keep [1, 2, 5, 15, 16] (fun n vs wr => ∃ (k : Nat), k ≤ l.length ∧ n = l.length - k ∧ vs = [.slice ba less.length bc, .pointer (some ⟨w.heap.size, 0, none⟩), .slice (some ⟨B, 0, none⟩) l.length l.length, .int .i64 l.length, .int .i64 k] ∧
    Own w m wr m [.row (.slice (some ⟨B, 0, none⟩) l.length l.length) 4 1 l.length (((l.take k).map (canF less) ++ List.replicate (l.length - k) false).map Value.bool), .obj w.heap.size 24 #[.slice a l.length c]]) ?_ ?_
  · exact ⟨_, 0, Nat.zero_le _, rfl, rfl, HO2.out⟩
  clear HO2 hg1 hg2
  rintro X z n vs wr hX - ⟨k, hk, rfl, rfl, hO⟩
  simp [litL, lk]
  have g1 := hO.swap.obj.cell (i := 0) rfl
  have g2 := hO.swap.obj.lt
  by_cases hlt : k < l.length
  · obtain ⟨b, off, rfl, h4⟩ := h3 (by intro h; simp [h] at hlt)
    obtain ⟨-, ve, s2, ea, ec, rfl, g4, g5, g6⟩ := h4 k hlt
    have s2w := Mem.cell_w hO.inn s2
    have s2l := Mem.cell_lt hO.inn s2
    have htk : (l.take (k + 1)).map (canF less) = (l.take k).map (canF less) ++ [canF less l[k]] := by
      rw [List.take_succ_eq_append_getElem hlt, List.map_append]; rfl
    have hrp : List.replicate (l.length - k) false = false :: List.replicate (l.length - (k + 1)) false := by
      rw [show l.length - k = (l.length - (k + 1)) + 1 by omega]; rfl
    have hAl : ((l.take k).map (canF less)).length = k := by simp; omega
    have hcf : canF less l[k] = (l[k]).edges.any fun e => less.getD e.to.toNat false := rfl
    have hlh := wfEdges_lohi (hwf l[k] (List.getElem_mem hlt))
    rw [hrp] at hO
    have Htk := Lib.hid (And.intro htk hcf)
    generalize (l[k]).edges = es at *
    have HO := Lib.hid hO
    unfold maxLen at g5
    generalize hAA : (l.take k).map (canF less) = AA at *
    clear htk hrp hcf hAA h4 hO
    go_wp2
    refine wp_loop_keep [1, 2, 5, 15, 16, 6, 24, 25, 26] (fun n vs w2 => ∃ (j : Nat), j ≤ es.length ∧ n = es.length - j ∧ vs = [.slice ba less.length bc, .pointer (some ⟨w.heap.size, 0, none⟩), .slice (some ⟨B, 0, none⟩) l.length l.length, .int .i64 l.length, .int .i64 k, .int .i64 k, .slice ea es.length ec, .int .i64 es.length, .int .i64 j] ∧
      Own w m w2 m [.row (.slice (some ⟨B, 0, none⟩) l.length l.length) 4 1 l.length ((AA ++ ((es.take j).any fun e => less.getD e.to.toNat false) :: List.replicate (l.length - (k + 1)) false).map Value.bool), .obj w.heap.size 24 #[.slice (some ⟨b, off, none⟩) l.length c]]) ?_ ?_
    · exact ⟨_, 0, Nat.zero_le _, rfl, rfl, HO.out⟩
    clear HO
    rintro Y z2 n vs w2 hY - ⟨j, hj, rfl, rfl, hO⟩
    simp [litL, lk]
    by_cases hlt2 : j < es.length
    · obtain ⟨eb, eo, rfl, g7⟩ := g6 (by intro h; simp [h] at hlt2)
      obtain ⟨e1, e2, e3, e4, e5, -⟩ := g7 j hlt2
      have e1w := Mem.cell_w hO.inn e1
      have e2w := Mem.cell_w hO.inn e2
      have e3w := Mem.cell_w hO.inn e3
      have el := Mem.cell_lt hO.inn e1
      have hte := hlh es[j] (List.getElem_mem hlt2)
      have han : ((es.take (j + 1)).any fun e => less.getD e.to.toNat false) = (((es.take j).any fun e => less.getD e.to.toNat false) || less.getD (es[j]).to.toNat false) := by
        rw [List.take_succ_eq_append_getElem hlt2, List.any_append]; simp
      obtain ⟨t, ht⟩ := Int.eq_ofNat_of_zero_le hte.2.1
      have htl : t < less.length := by omega
      rw [ht, Int.toNat_natCast] at han
      have hlg : less.getD t false = less[t] := by simp [htl]
      rw [hlg] at han
      obtain ⟨bb, bo, rfl, b4⟩ := b3 (by intro h; simp [h] at htl)
      have hbt := b4 t htl
      have hbw := Mem.cell_w hO.inn hbt
      have hbl := Mem.cell_lt hO.inn hbt
      generalize less[t] = y at *
      rw [ht] at e3w
      obtain ⟨cur, hcur⟩ : ∃ cur, ((es.take j).any fun e => less.getD e.to.toNat false) = cur := ⟨_, rfl⟩
      rw [hcur] at hO han
      have Han := Lib.hid han
      generalize es[j] = e at *
      have r1 := row_cellw (j := k) (u := .bool cur) hO.row (by rw [List.getElem?_map, get_mid _ _ _ hAl]; rfl)
      have r2 := row_frozen hO.row k
      have r3 := (World.ownsRow.lt hO.row _ rfl).2
      have hO2 := (hO.setRow k (.bool (cur || y))).al' (.cells #[.int .u8 e.lo, .int .u8 e.hi, .int .i64 t] 51)
      rw [← List.map_set, set_mid _ _ _ _ hAl] at hO2
      have HO2 := Lib.hid hO2
      clear han hcur hO2 hO hlg ht hbt
      cases cur with
      | true =>
        go_wp2
        refine hY.out _ _ _ (by omega) rfl ⟨j + 1, by omega, rfl, rfl, ?_⟩
        rw [Han.out]
        exact HO2.out
      | false =>
        go_wp2
        refine hY.out _ _ _ (by omega) rfl ⟨j + 1, by omega, rfl, rfl, ?_⟩
        rw [Han.out]
        exact HO2.out
    · obtain rfl : j = es.length := by omega
      rw [List.take_length] at hO
      have HO := Lib.hid hO
      clear hO
      go_wp2
      refine hX.out _ _ _ (by omega) rfl ⟨k + 1, by omega, rfl, rfl, ?_⟩
      rw [Htk.out.1, Htk.out.2, List.append_assoc]
      exact HO.out
  · obtain rfl : k = l.length := by omega
    rw [List.take_length, Nat.sub_self, List.replicate_zero, List.append_nil] at hO
    have hbs := boolsAt_of_row (l := l.map (canF less)) (m := m) (by rw [List.length_map]; exact hO.row)
    have hfin := boolsAt_le hO.sealRow.done hbs
    have Hk := Lib.hid (And.intro hO.below hfin)
    clear hO hbs hfin
    go_wp2
    exact hR.out _ _ ⟨_, rfl, Hk.out.1, Hk.out.2⟩
end Cl

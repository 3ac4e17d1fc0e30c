/-
  NARROWER THAN 'FOR EVERY INPUT', by the rows' own cells (each row's printed sentence says how): LangJoins: laid · LangWords: laid · LangLeasts: laid · LangAlgebra: laid · LangMembers: laid · LangOrders: laid · LangBounded: laid.
  DERIVED. THE GIVEN ROWS OF THIS SEAT. 7 by the template 'for every input the law returns true; each argument reads behind the call as it read before'; 0 by the template 'total and deterministic' (their statements: YtaolacbikbllcaaDoorTotals.lean).
  GIVEN WITH THE SEED: the statements are not yours to turn. If you find one false, say at which input.
  Laid BY PROGRAM, IN A SANDBOX (cutbox-rows.mjs): the forced cells as the released guide's own fill.sh prints them over the translation 19aba59863554cef… (all of the seat's roots in one cut). By AI agents, Wed Nov 11 2026. No macro, syntax, notation, axiom, sorry.
-/
import Derived.Test.YtaolacbikbllcaaDoorChecked
import GoSem.Claim
import GoSem.ClaimJoined
import GoSem.ClaimMapViews
import Derived.JoinedTies
import Derived.KernelRfl
namespace Go.Proofs.YtaolacbikbllcaaDoor
/- THE CELL 'sum', in the pinned program and in every row, IS THE sha256 OF THE DUMP (.gsa) THAT YtaolacbikbllcaaDoorProg.lean LOADS. Nothing in Lean hashes anything: it is a label: what it is worth is what the hold of that sum in a sandbox is worth. -/
noncomputable def Tryd.pinned : Pinned := { name := "ytaolacbikbllcaadoor", sum := "19aba59863554cef43deeca15f6bff8931311a21bf77ab95034d37e6da203e9e", checked := Tryd.checked }
namespace Rows
def none {H : Type} : Left H := { results := [], args := [] }

/- WHAT THE LISTED PACKAGE-LEVEL VARIABLES READ AS WHEN THE CALL BEGINS. Each datum BY PROGRAM (the guide's laid-datum.mjs) off the statement by which the dump's own 'gosem.cut.vars' lays the variable. In a bare row this is a premise. The card (YtaolacbikbllcaaDoorCards.lean) ties it to the program's text. -/
def laid_math_bits_deBruijn32tab {H : Type} : DataW H := .agg [.lit (.int .u8 0), .lit (.int .u8 1), .lit (.int .u8 28), .lit (.int .u8 2), .lit (.int .u8 29), .lit (.int .u8 14), .lit (.int .u8 24), .lit (.int .u8 3), .lit (.int .u8 30), .lit (.int .u8 22), .lit (.int .u8 20), .lit (.int .u8 15), .lit (.int .u8 25), .lit (.int .u8 17), .lit (.int .u8 4), .lit (.int .u8 8), .lit (.int .u8 31), .lit (.int .u8 27), .lit (.int .u8 13), .lit (.int .u8 23), .lit (.int .u8 21), .lit (.int .u8 19), .lit (.int .u8 16), .lit (.int .u8 7), .lit (.int .u8 26), .lit (.int .u8 12), .lit (.int .u8 18), .lit (.int .u8 6), .lit (.int .u8 11), .lit (.int .u8 5), .lit (.int .u8 10), .lit (.int .u8 9)]
def laid_math_bits_deBruijn64tab {H : Type} : DataW H := .agg [.lit (.int .u8 0), .lit (.int .u8 1), .lit (.int .u8 56), .lit (.int .u8 2), .lit (.int .u8 57), .lit (.int .u8 49), .lit (.int .u8 28), .lit (.int .u8 3), .lit (.int .u8 61), .lit (.int .u8 58), .lit (.int .u8 42), .lit (.int .u8 50), .lit (.int .u8 38), .lit (.int .u8 29), .lit (.int .u8 17), .lit (.int .u8 4), .lit (.int .u8 62), .lit (.int .u8 47), .lit (.int .u8 59), .lit (.int .u8 36), .lit (.int .u8 45), .lit (.int .u8 43), .lit (.int .u8 51), .lit (.int .u8 22), .lit (.int .u8 53), .lit (.int .u8 39), .lit (.int .u8 33), .lit (.int .u8 30), .lit (.int .u8 24), .lit (.int .u8 18), .lit (.int .u8 12), .lit (.int .u8 5), .lit (.int .u8 63), .lit (.int .u8 55), .lit (.int .u8 48), .lit (.int .u8 27), .lit (.int .u8 60), .lit (.int .u8 41), .lit (.int .u8 37), .lit (.int .u8 16), .lit (.int .u8 46), .lit (.int .u8 35), .lit (.int .u8 44), .lit (.int .u8 21), .lit (.int .u8 52), .lit (.int .u8 32), .lit (.int .u8 23), .lit (.int .u8 11), .lit (.int .u8 54), .lit (.int .u8 26), .lit (.int .u8 40), .lit (.int .u8 15), .lit (.int .u8 34), .lit (.int .u8 20), .lit (.int .u8 31), .lit (.int .u8 10), .lit (.int .u8 25), .lit (.int .u8 14), .lit (.int .u8 19), .lit (.int .u8 9), .lit (.int .u8 13), .lit (.int .u8 8), .lit (.int .u8 7), .lit (.int .u8 6)]
def laid_internal_strconv_uint64pow10 {H : Type} : DataW H := .agg [.lit (.int .u64 1), .lit (.int .u64 10), .lit (.int .u64 100), .lit (.int .u64 1000), .lit (.int .u64 10000), .lit (.int .u64 100000), .lit (.int .u64 1000000), .lit (.int .u64 10000000), .lit (.int .u64 100000000), .lit (.int .u64 1000000000), .lit (.int .u64 10000000000), .lit (.int .u64 100000000000), .lit (.int .u64 1000000000000), .lit (.int .u64 10000000000000), .lit (.int .u64 100000000000000), .lit (.int .u64 1000000000000000), .lit (.int .u64 10000000000000000), .lit (.int .u64 100000000000000000), .lit (.int .u64 1000000000000000000), .lit (.int .u64 10000000000000000000)]

/-- 'configlanglaw06.LangJoins': WHATEVER THE INPUT: true; the input reads as it did. -/
def langJoinsSpec : ChangeSpec := { name := "langJoins", fn := fun _ => fun
  | [d1, d2] => { results := [.lit (.bool true)], args := [d1, d2] }
  | _ => none }
def langJoinsRow : OpenClaim := { program := "ytaolacbikbllcaadoor", sum := "19aba59863554cef43deeca15f6bff8931311a21bf77ab95034d37e6da203e9e", func := "configlang/configlanglaw06.LangJoins", spec := "langJoins", inPlace := ["internal/abi.NoEscape"], unfollowed := true, recurses := true, named := ["internal/strconv.uint64pow10", "math/bits.deBruijn32tab", "math/bits.deBruijn64tab"], apart := false, laid := [("math/bits.deBruijn32tab", laid_math_bits_deBruijn32tab), ("math/bits.deBruijn64tab", laid_math_bits_deBruijn64tab), ("internal/strconv.uint64pow10", laid_internal_strconv_uint64pow10)] }
def LangJoinsSaid : Prop := langJoinsRow.holds Tryd.pinned (OpenSpec.ofChange langJoinsSpec)

/-- ITS FALSE NEIGHBOUR: 'it returns false'. Refute it at one input. -/
def langJoinsWrong : ChangeSpec := { name := "langJoins", fn := fun _ => fun
  | [d1, d2] => { results := [.lit (.bool false)], args := [d1, d2] }
  | _ => none }
def LangJoinsWrongFalsely : Prop := langJoinsRow.holds Tryd.pinned (OpenSpec.ofChange langJoinsWrong)

/-- 'configlanglaw06.LangWords': WHATEVER THE INPUT: true; the input reads as it did. -/
def langWordsSpec : ChangeSpec := { name := "langWords", fn := fun _ => fun
  | [d1, d2] => { results := [.lit (.bool true)], args := [d1, d2] }
  | _ => none }
def langWordsRow : OpenClaim := { program := "ytaolacbikbllcaadoor", sum := "19aba59863554cef43deeca15f6bff8931311a21bf77ab95034d37e6da203e9e", func := "configlang/configlanglaw06.LangWords", spec := "langWords", inPlace := ["internal/abi.NoEscape"], unfollowed := true, recurses := true, named := ["internal/strconv.uint64pow10", "math/bits.deBruijn32tab", "math/bits.deBruijn64tab"], apart := false, laid := [("math/bits.deBruijn32tab", laid_math_bits_deBruijn32tab), ("math/bits.deBruijn64tab", laid_math_bits_deBruijn64tab), ("internal/strconv.uint64pow10", laid_internal_strconv_uint64pow10)] }
def LangWordsSaid : Prop := langWordsRow.holds Tryd.pinned (OpenSpec.ofChange langWordsSpec)

/-- ITS FALSE NEIGHBOUR: 'it returns false'. Refute it at one input. -/
def langWordsWrong : ChangeSpec := { name := "langWords", fn := fun _ => fun
  | [d1, d2] => { results := [.lit (.bool false)], args := [d1, d2] }
  | _ => none }
def LangWordsWrongFalsely : Prop := langWordsRow.holds Tryd.pinned (OpenSpec.ofChange langWordsWrong)

/-- 'configlanglaw06.LangLeasts': WHATEVER THE INPUT: true; the input reads as it did. -/
def langLeastsSpec : ChangeSpec := { name := "langLeasts", fn := fun _ => fun
  | [d] => { results := [.lit (.bool true)], args := [d] }
  | _ => none }
def langLeastsRow : OpenClaim := { program := "ytaolacbikbllcaadoor", sum := "19aba59863554cef43deeca15f6bff8931311a21bf77ab95034d37e6da203e9e", func := "configlang/configlanglaw06.LangLeasts", spec := "langLeasts", inPlace := ["internal/abi.NoEscape"], unfollowed := true, recurses := true, named := ["internal/strconv.uint64pow10", "math/bits.deBruijn32tab", "math/bits.deBruijn64tab"], apart := false, laid := [("math/bits.deBruijn32tab", laid_math_bits_deBruijn32tab), ("math/bits.deBruijn64tab", laid_math_bits_deBruijn64tab), ("internal/strconv.uint64pow10", laid_internal_strconv_uint64pow10)] }
def LangLeastsSaid : Prop := langLeastsRow.holds Tryd.pinned (OpenSpec.ofChange langLeastsSpec)

/-- ITS FALSE NEIGHBOUR: 'it returns false'. Refute it at one input. -/
def langLeastsWrong : ChangeSpec := { name := "langLeasts", fn := fun _ => fun
  | [d] => { results := [.lit (.bool false)], args := [d] }
  | _ => none }
def LangLeastsWrongFalsely : Prop := langLeastsRow.holds Tryd.pinned (OpenSpec.ofChange langLeastsWrong)

/-- 'configlanglaw06.LangAlgebra': WHATEVER THE INPUT: true; the input reads as it did. -/
def langAlgebraSpec : ChangeSpec := { name := "langAlgebra", fn := fun _ => fun
  | [d1, d2, d3] => { results := [.lit (.bool true)], args := [d1, d2, d3] }
  | _ => none }
def langAlgebraRow : OpenClaim := { program := "ytaolacbikbllcaadoor", sum := "19aba59863554cef43deeca15f6bff8931311a21bf77ab95034d37e6da203e9e", func := "configlang/configlanglaw06.LangAlgebra", spec := "langAlgebra", inPlace := ["internal/abi.NoEscape"], unfollowed := true, recurses := true, named := ["internal/strconv.uint64pow10", "math/bits.deBruijn32tab", "math/bits.deBruijn64tab"], apart := false, laid := [("math/bits.deBruijn32tab", laid_math_bits_deBruijn32tab), ("math/bits.deBruijn64tab", laid_math_bits_deBruijn64tab), ("internal/strconv.uint64pow10", laid_internal_strconv_uint64pow10)] }
def LangAlgebraSaid : Prop := langAlgebraRow.holds Tryd.pinned (OpenSpec.ofChange langAlgebraSpec)

/-- ITS FALSE NEIGHBOUR: 'it returns false'. Refute it at one input. -/
def langAlgebraWrong : ChangeSpec := { name := "langAlgebra", fn := fun _ => fun
  | [d1, d2, d3] => { results := [.lit (.bool false)], args := [d1, d2, d3] }
  | _ => none }
def LangAlgebraWrongFalsely : Prop := langAlgebraRow.holds Tryd.pinned (OpenSpec.ofChange langAlgebraWrong)

/-- 'configlanglaw06.LangMembers': WHATEVER THE INPUT: true; the input reads as it did. -/
def langMembersSpec : ChangeSpec := { name := "langMembers", fn := fun _ => fun
  | [d1, d2, d3] => { results := [.lit (.bool true)], args := [d1, d2, d3] }
  | _ => none }
def langMembersRow : OpenClaim := { program := "ytaolacbikbllcaadoor", sum := "19aba59863554cef43deeca15f6bff8931311a21bf77ab95034d37e6da203e9e", func := "configlang/configlanglaw06.LangMembers", spec := "langMembers", inPlace := ["internal/abi.NoEscape"], unfollowed := true, recurses := true, named := ["internal/strconv.uint64pow10", "math/bits.deBruijn32tab", "math/bits.deBruijn64tab"], apart := false, laid := [("math/bits.deBruijn32tab", laid_math_bits_deBruijn32tab), ("math/bits.deBruijn64tab", laid_math_bits_deBruijn64tab), ("internal/strconv.uint64pow10", laid_internal_strconv_uint64pow10)] }
def LangMembersSaid : Prop := langMembersRow.holds Tryd.pinned (OpenSpec.ofChange langMembersSpec)

/-- ITS FALSE NEIGHBOUR: 'it returns false'. Refute it at one input. -/
def langMembersWrong : ChangeSpec := { name := "langMembers", fn := fun _ => fun
  | [d1, d2, d3] => { results := [.lit (.bool false)], args := [d1, d2, d3] }
  | _ => none }
def LangMembersWrongFalsely : Prop := langMembersRow.holds Tryd.pinned (OpenSpec.ofChange langMembersWrong)

/-- 'configlanglaw06.LangOrders': WHATEVER THE INPUT: true; the input reads as it did. -/
def langOrdersSpec : ChangeSpec := { name := "langOrders", fn := fun _ => fun
  | [d1, d2, d3] => { results := [.lit (.bool true)], args := [d1, d2, d3] }
  | _ => none }
def langOrdersRow : OpenClaim := { program := "ytaolacbikbllcaadoor", sum := "19aba59863554cef43deeca15f6bff8931311a21bf77ab95034d37e6da203e9e", func := "configlang/configlanglaw06.LangOrders", spec := "langOrders", inPlace := ["internal/abi.NoEscape"], unfollowed := true, recurses := true, named := ["internal/strconv.uint64pow10", "math/bits.deBruijn32tab", "math/bits.deBruijn64tab"], apart := false, laid := [("math/bits.deBruijn32tab", laid_math_bits_deBruijn32tab), ("math/bits.deBruijn64tab", laid_math_bits_deBruijn64tab), ("internal/strconv.uint64pow10", laid_internal_strconv_uint64pow10)] }
def LangOrdersSaid : Prop := langOrdersRow.holds Tryd.pinned (OpenSpec.ofChange langOrdersSpec)

/-- ITS FALSE NEIGHBOUR: 'it returns false'. Refute it at one input. -/
def langOrdersWrong : ChangeSpec := { name := "langOrders", fn := fun _ => fun
  | [d1, d2, d3] => { results := [.lit (.bool false)], args := [d1, d2, d3] }
  | _ => none }
def LangOrdersWrongFalsely : Prop := langOrdersRow.holds Tryd.pinned (OpenSpec.ofChange langOrdersWrong)

/-- 'configlanglaw06.LangBounded': WHATEVER THE INPUT: true; the input reads as it did. -/
def langBoundedSpec : ChangeSpec := { name := "langBounded", fn := fun _ => fun
  | [d1, d2] => { results := [.lit (.bool true)], args := [d1, d2] }
  | _ => none }
def langBoundedRow : OpenClaim := { program := "ytaolacbikbllcaadoor", sum := "19aba59863554cef43deeca15f6bff8931311a21bf77ab95034d37e6da203e9e", func := "configlang/configlanglaw06.LangBounded", spec := "langBounded", inPlace := ["internal/abi.NoEscape"], unfollowed := true, recurses := true, named := ["internal/strconv.uint64pow10", "math/bits.deBruijn32tab", "math/bits.deBruijn64tab"], apart := false, laid := [("math/bits.deBruijn32tab", laid_math_bits_deBruijn32tab), ("math/bits.deBruijn64tab", laid_math_bits_deBruijn64tab), ("internal/strconv.uint64pow10", laid_internal_strconv_uint64pow10)] }
def LangBoundedSaid : Prop := langBoundedRow.holds Tryd.pinned (OpenSpec.ofChange langBoundedSpec)

/-- ITS FALSE NEIGHBOUR: 'it returns false'. Refute it at one input. -/
def langBoundedWrong : ChangeSpec := { name := "langBounded", fn := fun _ => fun
  | [d1, d2] => { results := [.lit (.bool false)], args := [d1, d2] }
  | _ => none }
def LangBoundedWrongFalsely : Prop := langBoundedRow.holds Tryd.pinned (OpenSpec.ofChange langBoundedWrong)

/- THE SECOND FORM. 'bulk': how many values and letters a reading holds, each counted each time it is reached (what is shared counts as often as it is met; a slice's spare places count too). A statement '..UptoSaid' is the law's where the arguments, and the package variables that the reading takes, are together of bulk at most 1048576: NARROWER than '..Said'. Prove '..Said' where nothing that the law and all that it calls make is longer than what came in: it says more and counts as full. Else prove '..UptoSaid'. A law counts once. -/
mutual
def uptoBulk {H : Type} : DataW H → Nat
  | .lit (.string bytes) => bytes.length + 1
  | .lit _ => 1
  | .nil => 1
  | .ptr d => uptoBulk d + 1
  | .slice elems spare => uptoBulkAll elems + uptoBulkAll spare + 1
  | .agg parts => uptoBulkAll parts + 1
  | .iface _ d => uptoBulk d + 1
  | .map entries => uptoBulkEntries entries + 1
  | .held _ => 1
def uptoBulkAll {H : Type} : List (DataW H) → Nat
  | [] => 0
  | d :: r => uptoBulk d + uptoBulkAll r
def uptoBulkEntries {H : Type} : List (Lit × DataW H) → Nat
  | [] => 0
  | x :: r => uptoBulkEntry x + uptoBulkEntries r
def uptoBulkEntry {H : Type} : Lit × DataW H → Nat
  | (.string bytes, d) => bytes.length + uptoBulk d + 1
  | (_, d) => uptoBulk d + 1
 end
def uptoSmall : (H : Type) → List (DataW H) → Bool := fun _ ds => decide (uptoBulkAll ds ≤ 1048576)
def OpenSpec.upto (s : _root_.Go.ChangeSpec) : _root_.Go.OpenSpec := { _root_.Go.OpenSpec.ofChange s with cond := some uptoSmall }

/-- 'configlanglaw06.LangJoins', WHERE WHAT IT READS IS OF BULK AT MOST 1048576: true; the input reads as it did. -/
def langJoinsUptoRow : OpenClaim := { program := "ytaolacbikbllcaadoor", sum := "19aba59863554cef43deeca15f6bff8931311a21bf77ab95034d37e6da203e9e", func := "configlang/configlanglaw06.LangJoins", spec := "langJoins", inPlace := ["internal/abi.NoEscape"], unfollowed := true, recurses := true, named := ["internal/strconv.uint64pow10", "math/bits.deBruijn32tab", "math/bits.deBruijn64tab"], apart := false, laid := [("math/bits.deBruijn32tab", laid_math_bits_deBruijn32tab), ("math/bits.deBruijn64tab", laid_math_bits_deBruijn64tab), ("internal/strconv.uint64pow10", laid_internal_strconv_uint64pow10)], narrowed := true }
def LangJoinsUptoSaid : Prop := langJoinsUptoRow.holds Tryd.pinned (OpenSpec.upto langJoinsSpec)

/-- 'configlanglaw06.LangWords', WHERE WHAT IT READS IS OF BULK AT MOST 1048576: true; the input reads as it did. -/
def langWordsUptoRow : OpenClaim := { program := "ytaolacbikbllcaadoor", sum := "19aba59863554cef43deeca15f6bff8931311a21bf77ab95034d37e6da203e9e", func := "configlang/configlanglaw06.LangWords", spec := "langWords", inPlace := ["internal/abi.NoEscape"], unfollowed := true, recurses := true, named := ["internal/strconv.uint64pow10", "math/bits.deBruijn32tab", "math/bits.deBruijn64tab"], apart := false, laid := [("math/bits.deBruijn32tab", laid_math_bits_deBruijn32tab), ("math/bits.deBruijn64tab", laid_math_bits_deBruijn64tab), ("internal/strconv.uint64pow10", laid_internal_strconv_uint64pow10)], narrowed := true }
def LangWordsUptoSaid : Prop := langWordsUptoRow.holds Tryd.pinned (OpenSpec.upto langWordsSpec)

/-- 'configlanglaw06.LangLeasts', WHERE WHAT IT READS IS OF BULK AT MOST 1048576: true; the input reads as it did. -/
def langLeastsUptoRow : OpenClaim := { program := "ytaolacbikbllcaadoor", sum := "19aba59863554cef43deeca15f6bff8931311a21bf77ab95034d37e6da203e9e", func := "configlang/configlanglaw06.LangLeasts", spec := "langLeasts", inPlace := ["internal/abi.NoEscape"], unfollowed := true, recurses := true, named := ["internal/strconv.uint64pow10", "math/bits.deBruijn32tab", "math/bits.deBruijn64tab"], apart := false, laid := [("math/bits.deBruijn32tab", laid_math_bits_deBruijn32tab), ("math/bits.deBruijn64tab", laid_math_bits_deBruijn64tab), ("internal/strconv.uint64pow10", laid_internal_strconv_uint64pow10)], narrowed := true }
def LangLeastsUptoSaid : Prop := langLeastsUptoRow.holds Tryd.pinned (OpenSpec.upto langLeastsSpec)

/-- 'configlanglaw06.LangAlgebra', WHERE WHAT IT READS IS OF BULK AT MOST 1048576: true; the input reads as it did. -/
def langAlgebraUptoRow : OpenClaim := { program := "ytaolacbikbllcaadoor", sum := "19aba59863554cef43deeca15f6bff8931311a21bf77ab95034d37e6da203e9e", func := "configlang/configlanglaw06.LangAlgebra", spec := "langAlgebra", inPlace := ["internal/abi.NoEscape"], unfollowed := true, recurses := true, named := ["internal/strconv.uint64pow10", "math/bits.deBruijn32tab", "math/bits.deBruijn64tab"], apart := false, laid := [("math/bits.deBruijn32tab", laid_math_bits_deBruijn32tab), ("math/bits.deBruijn64tab", laid_math_bits_deBruijn64tab), ("internal/strconv.uint64pow10", laid_internal_strconv_uint64pow10)], narrowed := true }
def LangAlgebraUptoSaid : Prop := langAlgebraUptoRow.holds Tryd.pinned (OpenSpec.upto langAlgebraSpec)

/-- 'configlanglaw06.LangMembers', WHERE WHAT IT READS IS OF BULK AT MOST 1048576: true; the input reads as it did. -/
def langMembersUptoRow : OpenClaim := { program := "ytaolacbikbllcaadoor", sum := "19aba59863554cef43deeca15f6bff8931311a21bf77ab95034d37e6da203e9e", func := "configlang/configlanglaw06.LangMembers", spec := "langMembers", inPlace := ["internal/abi.NoEscape"], unfollowed := true, recurses := true, named := ["internal/strconv.uint64pow10", "math/bits.deBruijn32tab", "math/bits.deBruijn64tab"], apart := false, laid := [("math/bits.deBruijn32tab", laid_math_bits_deBruijn32tab), ("math/bits.deBruijn64tab", laid_math_bits_deBruijn64tab), ("internal/strconv.uint64pow10", laid_internal_strconv_uint64pow10)], narrowed := true }
def LangMembersUptoSaid : Prop := langMembersUptoRow.holds Tryd.pinned (OpenSpec.upto langMembersSpec)

/-- 'configlanglaw06.LangOrders', WHERE WHAT IT READS IS OF BULK AT MOST 1048576: true; the input reads as it did. -/
def langOrdersUptoRow : OpenClaim := { program := "ytaolacbikbllcaadoor", sum := "19aba59863554cef43deeca15f6bff8931311a21bf77ab95034d37e6da203e9e", func := "configlang/configlanglaw06.LangOrders", spec := "langOrders", inPlace := ["internal/abi.NoEscape"], unfollowed := true, recurses := true, named := ["internal/strconv.uint64pow10", "math/bits.deBruijn32tab", "math/bits.deBruijn64tab"], apart := false, laid := [("math/bits.deBruijn32tab", laid_math_bits_deBruijn32tab), ("math/bits.deBruijn64tab", laid_math_bits_deBruijn64tab), ("internal/strconv.uint64pow10", laid_internal_strconv_uint64pow10)], narrowed := true }
def LangOrdersUptoSaid : Prop := langOrdersUptoRow.holds Tryd.pinned (OpenSpec.upto langOrdersSpec)

/-- 'configlanglaw06.LangBounded', WHERE WHAT IT READS IS OF BULK AT MOST 1048576: true; the input reads as it did. -/
def langBoundedUptoRow : OpenClaim := { program := "ytaolacbikbllcaadoor", sum := "19aba59863554cef43deeca15f6bff8931311a21bf77ab95034d37e6da203e9e", func := "configlang/configlanglaw06.LangBounded", spec := "langBounded", inPlace := ["internal/abi.NoEscape"], unfollowed := true, recurses := true, named := ["internal/strconv.uint64pow10", "math/bits.deBruijn32tab", "math/bits.deBruijn64tab"], apart := false, laid := [("math/bits.deBruijn32tab", laid_math_bits_deBruijn32tab), ("math/bits.deBruijn64tab", laid_math_bits_deBruijn64tab), ("internal/strconv.uint64pow10", laid_internal_strconv_uint64pow10)], narrowed := true }
def LangBoundedUptoSaid : Prop := langBoundedUptoRow.holds Tryd.pinned (OpenSpec.upto langBoundedSpec)

end Rows
end Go.Proofs.YtaolacbikbllcaaDoor

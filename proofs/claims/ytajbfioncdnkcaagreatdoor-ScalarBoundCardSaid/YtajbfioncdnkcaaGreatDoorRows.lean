/-
  NARROWER THAN 'FOR EVERY INPUT', by the rows' own cells (each row's printed sentence says how): ScalarBasics: loops, laid · ScalarBound: loops, laid · ScalarBoundMembers: loops, laid · ScalarAlgebra: laid · ScalarMembers: loops, laid · ScalarLaws: laid · ScalarSingles: loops, laid · ScalarMeasures: loops, laid · ScalarCompare: laid.
  DERIVED. THE GIVEN ROWS OF THIS SEAT. 9 by the template 'for every input the law returns true; each argument reads behind the call as it read before'; 0 by the template 'total and deterministic' (their statements: YtajbfioncdnkcaaGreatDoorTotals.lean).
  GIVEN WITH THE SEED: the statements are not yours to turn. If you find one false, say at which input.
  Laid BY PROGRAM, IN A SANDBOX (cutbox-rows.mjs): the forced cells as the released guide's own fill.sh prints them over the translation 195b8048ca0526c4… (all of the seat's roots in one cut). By AI agents, Wed Nov 11 2026. No macro, syntax, notation, axiom, sorry.
-/
import Derived.Test.YtajbfioncdnkcaaGreatDoorChecked
import GoSem.Claim
import GoSem.ClaimJoined
import GoSem.ClaimMapViews
import Derived.JoinedTies
import Derived.KernelRfl
namespace Go.Proofs.YtajbfioncdnkcaaGreatDoor
/- THE CELL 'sum', in the pinned program and in every row, IS THE sha256 OF THE DUMP (.gsa) THAT YtajbfioncdnkcaaGreatDoorProg.lean LOADS. Nothing in Lean hashes anything: it is a label: what it is worth is what the hold of that sum in a sandbox is worth. -/
noncomputable def Tryz.pinned : Pinned := { name := "ytajbfioncdnkcaagreatdoor", sum := "195b8048ca0526c423da1c1ceb8d2863c8aedab22b1df61def7bb80a990c05df", checked := Tryz.checked }
namespace Rows
def none {H : Type} : Left H := { results := [], args := [] }

/- WHAT THE LISTED PACKAGE-LEVEL VARIABLES READ AS WHEN THE CALL BEGINS. Each datum BY PROGRAM (the guide's laid-datum.mjs) off the statement by which the dump's own 'gosem.cut.vars' lays the variable. In a bare row this is a premise. The card (YtajbfioncdnkcaaGreatDoorCards.lean) ties it to the program's text. -/
def laid_math_bits_deBruijn32tab {H : Type} : DataW H := .agg [.lit (.int .u8 0), .lit (.int .u8 1), .lit (.int .u8 28), .lit (.int .u8 2), .lit (.int .u8 29), .lit (.int .u8 14), .lit (.int .u8 24), .lit (.int .u8 3), .lit (.int .u8 30), .lit (.int .u8 22), .lit (.int .u8 20), .lit (.int .u8 15), .lit (.int .u8 25), .lit (.int .u8 17), .lit (.int .u8 4), .lit (.int .u8 8), .lit (.int .u8 31), .lit (.int .u8 27), .lit (.int .u8 13), .lit (.int .u8 23), .lit (.int .u8 21), .lit (.int .u8 19), .lit (.int .u8 16), .lit (.int .u8 7), .lit (.int .u8 26), .lit (.int .u8 12), .lit (.int .u8 18), .lit (.int .u8 6), .lit (.int .u8 11), .lit (.int .u8 5), .lit (.int .u8 10), .lit (.int .u8 9)]
def laid_math_bits_deBruijn64tab {H : Type} : DataW H := .agg [.lit (.int .u8 0), .lit (.int .u8 1), .lit (.int .u8 56), .lit (.int .u8 2), .lit (.int .u8 57), .lit (.int .u8 49), .lit (.int .u8 28), .lit (.int .u8 3), .lit (.int .u8 61), .lit (.int .u8 58), .lit (.int .u8 42), .lit (.int .u8 50), .lit (.int .u8 38), .lit (.int .u8 29), .lit (.int .u8 17), .lit (.int .u8 4), .lit (.int .u8 62), .lit (.int .u8 47), .lit (.int .u8 59), .lit (.int .u8 36), .lit (.int .u8 45), .lit (.int .u8 43), .lit (.int .u8 51), .lit (.int .u8 22), .lit (.int .u8 53), .lit (.int .u8 39), .lit (.int .u8 33), .lit (.int .u8 30), .lit (.int .u8 24), .lit (.int .u8 18), .lit (.int .u8 12), .lit (.int .u8 5), .lit (.int .u8 63), .lit (.int .u8 55), .lit (.int .u8 48), .lit (.int .u8 27), .lit (.int .u8 60), .lit (.int .u8 41), .lit (.int .u8 37), .lit (.int .u8 16), .lit (.int .u8 46), .lit (.int .u8 35), .lit (.int .u8 44), .lit (.int .u8 21), .lit (.int .u8 52), .lit (.int .u8 32), .lit (.int .u8 23), .lit (.int .u8 11), .lit (.int .u8 54), .lit (.int .u8 26), .lit (.int .u8 40), .lit (.int .u8 15), .lit (.int .u8 34), .lit (.int .u8 20), .lit (.int .u8 31), .lit (.int .u8 10), .lit (.int .u8 25), .lit (.int .u8 14), .lit (.int .u8 19), .lit (.int .u8 9), .lit (.int .u8 13), .lit (.int .u8 8), .lit (.int .u8 7), .lit (.int .u8 6)]
def laid_internal_strconv_uint64pow10 {H : Type} : DataW H := .agg [.lit (.int .u64 1), .lit (.int .u64 10), .lit (.int .u64 100), .lit (.int .u64 1000), .lit (.int .u64 10000), .lit (.int .u64 100000), .lit (.int .u64 1000000), .lit (.int .u64 10000000), .lit (.int .u64 100000000), .lit (.int .u64 1000000000), .lit (.int .u64 10000000000), .lit (.int .u64 100000000000), .lit (.int .u64 1000000000000), .lit (.int .u64 10000000000000), .lit (.int .u64 100000000000000), .lit (.int .u64 1000000000000000), .lit (.int .u64 10000000000000000), .lit (.int .u64 100000000000000000), .lit (.int .u64 1000000000000000000), .lit (.int .u64 10000000000000000000)]

/-- 'configlanglaw11.ScalarBasics': WHATEVER THE INPUT: true; the input reads as it did. -/
def scalarBasicsSpec : ChangeSpec := { name := "scalarBasics", fn := fun _ => fun
  | [d1, d2, d3] => { results := [.lit (.bool true)], args := [d1, d2, d3] }
  | _ => none }
def scalarBasicsRow : OpenClaim := { program := "ytajbfioncdnkcaagreatdoor", sum := "195b8048ca0526c423da1c1ceb8d2863c8aedab22b1df61def7bb80a990c05df", func := "configlang/configlanglaw11.ScalarBasics", spec := "scalarBasics", inPlace := ["internal/abi.NoEscape"], unfollowed := true, recurses := true, named := ["internal/strconv.uint64pow10", "math/bits.deBruijn32tab", "math/bits.deBruijn64tab"], loops := true, apart := false, laid := [("math/bits.deBruijn32tab", laid_math_bits_deBruijn32tab), ("math/bits.deBruijn64tab", laid_math_bits_deBruijn64tab), ("internal/strconv.uint64pow10", laid_internal_strconv_uint64pow10)] }
def ScalarBasicsSaid : Prop := scalarBasicsRow.holds Tryz.pinned (OpenSpec.ofChange scalarBasicsSpec)

/-- ITS FALSE NEIGHBOUR: 'it returns false'. Refute it at one input. -/
def scalarBasicsWrong : ChangeSpec := { name := "scalarBasics", fn := fun _ => fun
  | [d1, d2, d3] => { results := [.lit (.bool false)], args := [d1, d2, d3] }
  | _ => none }
def ScalarBasicsWrongFalsely : Prop := scalarBasicsRow.holds Tryz.pinned (OpenSpec.ofChange scalarBasicsWrong)

/-- 'configlanglaw11.ScalarBound': WHATEVER THE INPUT: true; the input reads as it did. -/
def scalarBoundSpec : ChangeSpec := { name := "scalarBound", fn := fun _ => fun
  | [d1, d2] => { results := [.lit (.bool true)], args := [d1, d2] }
  | _ => none }
def scalarBoundRow : OpenClaim := { program := "ytajbfioncdnkcaagreatdoor", sum := "195b8048ca0526c423da1c1ceb8d2863c8aedab22b1df61def7bb80a990c05df", func := "configlang/configlanglaw11.ScalarBound", spec := "scalarBound", inPlace := ["internal/abi.NoEscape"], unfollowed := true, recurses := true, named := ["internal/strconv.uint64pow10", "math/bits.deBruijn32tab", "math/bits.deBruijn64tab"], loops := true, apart := false, laid := [("math/bits.deBruijn32tab", laid_math_bits_deBruijn32tab), ("math/bits.deBruijn64tab", laid_math_bits_deBruijn64tab), ("internal/strconv.uint64pow10", laid_internal_strconv_uint64pow10)] }
def ScalarBoundSaid : Prop := scalarBoundRow.holds Tryz.pinned (OpenSpec.ofChange scalarBoundSpec)

/-- ITS FALSE NEIGHBOUR: 'it returns false'. Refute it at one input. -/
def scalarBoundWrong : ChangeSpec := { name := "scalarBound", fn := fun _ => fun
  | [d1, d2] => { results := [.lit (.bool false)], args := [d1, d2] }
  | _ => none }
def ScalarBoundWrongFalsely : Prop := scalarBoundRow.holds Tryz.pinned (OpenSpec.ofChange scalarBoundWrong)

/-- 'configlanglaw11.ScalarBoundMembers': WHATEVER THE INPUT: true; the input reads as it did. -/
def scalarBoundMembersSpec : ChangeSpec := { name := "scalarBoundMembers", fn := fun _ => fun
  | [d1, d2, d3] => { results := [.lit (.bool true)], args := [d1, d2, d3] }
  | _ => none }
def scalarBoundMembersRow : OpenClaim := { program := "ytajbfioncdnkcaagreatdoor", sum := "195b8048ca0526c423da1c1ceb8d2863c8aedab22b1df61def7bb80a990c05df", func := "configlang/configlanglaw11.ScalarBoundMembers", spec := "scalarBoundMembers", inPlace := ["internal/abi.NoEscape"], unfollowed := true, recurses := true, named := ["internal/strconv.uint64pow10", "math/bits.deBruijn32tab", "math/bits.deBruijn64tab"], loops := true, apart := false, laid := [("math/bits.deBruijn32tab", laid_math_bits_deBruijn32tab), ("math/bits.deBruijn64tab", laid_math_bits_deBruijn64tab), ("internal/strconv.uint64pow10", laid_internal_strconv_uint64pow10)] }
def ScalarBoundMembersSaid : Prop := scalarBoundMembersRow.holds Tryz.pinned (OpenSpec.ofChange scalarBoundMembersSpec)

/-- ITS FALSE NEIGHBOUR: 'it returns false'. Refute it at one input. -/
def scalarBoundMembersWrong : ChangeSpec := { name := "scalarBoundMembers", fn := fun _ => fun
  | [d1, d2, d3] => { results := [.lit (.bool false)], args := [d1, d2, d3] }
  | _ => none }
def ScalarBoundMembersWrongFalsely : Prop := scalarBoundMembersRow.holds Tryz.pinned (OpenSpec.ofChange scalarBoundMembersWrong)

/-- 'configlanglaw11.ScalarAlgebra': WHATEVER THE INPUT: true; the input reads as it did. -/
def scalarAlgebraSpec : ChangeSpec := { name := "scalarAlgebra", fn := fun _ => fun
  | [d1, d2] => { results := [.lit (.bool true)], args := [d1, d2] }
  | _ => none }
def scalarAlgebraRow : OpenClaim := { program := "ytajbfioncdnkcaagreatdoor", sum := "195b8048ca0526c423da1c1ceb8d2863c8aedab22b1df61def7bb80a990c05df", func := "configlang/configlanglaw11.ScalarAlgebra", spec := "scalarAlgebra", inPlace := ["internal/abi.NoEscape"], unfollowed := true, recurses := true, named := ["internal/strconv.uint64pow10", "math/bits.deBruijn32tab", "math/bits.deBruijn64tab"], apart := false, laid := [("math/bits.deBruijn32tab", laid_math_bits_deBruijn32tab), ("math/bits.deBruijn64tab", laid_math_bits_deBruijn64tab), ("internal/strconv.uint64pow10", laid_internal_strconv_uint64pow10)] }
def ScalarAlgebraSaid : Prop := scalarAlgebraRow.holds Tryz.pinned (OpenSpec.ofChange scalarAlgebraSpec)

/-- ITS FALSE NEIGHBOUR: 'it returns false'. Refute it at one input. -/
def scalarAlgebraWrong : ChangeSpec := { name := "scalarAlgebra", fn := fun _ => fun
  | [d1, d2] => { results := [.lit (.bool false)], args := [d1, d2] }
  | _ => none }
def ScalarAlgebraWrongFalsely : Prop := scalarAlgebraRow.holds Tryz.pinned (OpenSpec.ofChange scalarAlgebraWrong)

/-- 'configlanglaw11.ScalarMembers': WHATEVER THE INPUT: true; the input reads as it did. -/
def scalarMembersSpec : ChangeSpec := { name := "scalarMembers", fn := fun _ => fun
  | [d1, d2, d3] => { results := [.lit (.bool true)], args := [d1, d2, d3] }
  | _ => none }
def scalarMembersRow : OpenClaim := { program := "ytajbfioncdnkcaagreatdoor", sum := "195b8048ca0526c423da1c1ceb8d2863c8aedab22b1df61def7bb80a990c05df", func := "configlang/configlanglaw11.ScalarMembers", spec := "scalarMembers", inPlace := ["internal/abi.NoEscape"], unfollowed := true, recurses := true, named := ["internal/strconv.uint64pow10", "math/bits.deBruijn32tab", "math/bits.deBruijn64tab"], loops := true, apart := false, laid := [("math/bits.deBruijn32tab", laid_math_bits_deBruijn32tab), ("math/bits.deBruijn64tab", laid_math_bits_deBruijn64tab), ("internal/strconv.uint64pow10", laid_internal_strconv_uint64pow10)] }
def ScalarMembersSaid : Prop := scalarMembersRow.holds Tryz.pinned (OpenSpec.ofChange scalarMembersSpec)

/-- ITS FALSE NEIGHBOUR: 'it returns false'. Refute it at one input. -/
def scalarMembersWrong : ChangeSpec := { name := "scalarMembers", fn := fun _ => fun
  | [d1, d2, d3] => { results := [.lit (.bool false)], args := [d1, d2, d3] }
  | _ => none }
def ScalarMembersWrongFalsely : Prop := scalarMembersRow.holds Tryz.pinned (OpenSpec.ofChange scalarMembersWrong)

/-- 'configlanglaw11.ScalarLaws': WHATEVER THE INPUT: true; the input reads as it did. -/
def scalarLawsSpec : ChangeSpec := { name := "scalarLaws", fn := fun _ => fun
  | [d1, d2, d3] => { results := [.lit (.bool true)], args := [d1, d2, d3] }
  | _ => none }
def scalarLawsRow : OpenClaim := { program := "ytajbfioncdnkcaagreatdoor", sum := "195b8048ca0526c423da1c1ceb8d2863c8aedab22b1df61def7bb80a990c05df", func := "configlang/configlanglaw11.ScalarLaws", spec := "scalarLaws", inPlace := ["internal/abi.NoEscape"], unfollowed := true, recurses := true, named := ["internal/strconv.uint64pow10", "math/bits.deBruijn32tab", "math/bits.deBruijn64tab"], apart := false, laid := [("math/bits.deBruijn32tab", laid_math_bits_deBruijn32tab), ("math/bits.deBruijn64tab", laid_math_bits_deBruijn64tab), ("internal/strconv.uint64pow10", laid_internal_strconv_uint64pow10)] }
def ScalarLawsSaid : Prop := scalarLawsRow.holds Tryz.pinned (OpenSpec.ofChange scalarLawsSpec)

/-- ITS FALSE NEIGHBOUR: 'it returns false'. Refute it at one input. -/
def scalarLawsWrong : ChangeSpec := { name := "scalarLaws", fn := fun _ => fun
  | [d1, d2, d3] => { results := [.lit (.bool false)], args := [d1, d2, d3] }
  | _ => none }
def ScalarLawsWrongFalsely : Prop := scalarLawsRow.holds Tryz.pinned (OpenSpec.ofChange scalarLawsWrong)

/-- 'configlanglaw11.ScalarSingles': WHATEVER THE INPUT: true; the input reads as it did. -/
def scalarSinglesSpec : ChangeSpec := { name := "scalarSingles", fn := fun _ => fun
  | [d1, d2, d3] => { results := [.lit (.bool true)], args := [d1, d2, d3] }
  | _ => none }
def scalarSinglesRow : OpenClaim := { program := "ytajbfioncdnkcaagreatdoor", sum := "195b8048ca0526c423da1c1ceb8d2863c8aedab22b1df61def7bb80a990c05df", func := "configlang/configlanglaw11.ScalarSingles", spec := "scalarSingles", inPlace := ["internal/abi.NoEscape"], unfollowed := true, recurses := true, named := ["internal/strconv.uint64pow10", "math/bits.deBruijn32tab", "math/bits.deBruijn64tab"], loops := true, apart := false, laid := [("math/bits.deBruijn32tab", laid_math_bits_deBruijn32tab), ("math/bits.deBruijn64tab", laid_math_bits_deBruijn64tab), ("internal/strconv.uint64pow10", laid_internal_strconv_uint64pow10)] }
def ScalarSinglesSaid : Prop := scalarSinglesRow.holds Tryz.pinned (OpenSpec.ofChange scalarSinglesSpec)

/-- ITS FALSE NEIGHBOUR: 'it returns false'. Refute it at one input. -/
def scalarSinglesWrong : ChangeSpec := { name := "scalarSingles", fn := fun _ => fun
  | [d1, d2, d3] => { results := [.lit (.bool false)], args := [d1, d2, d3] }
  | _ => none }
def ScalarSinglesWrongFalsely : Prop := scalarSinglesRow.holds Tryz.pinned (OpenSpec.ofChange scalarSinglesWrong)

/-- 'configlanglaw11.ScalarMeasures': WHATEVER THE INPUT: true; the input reads as it did. -/
def scalarMeasuresSpec : ChangeSpec := { name := "scalarMeasures", fn := fun _ => fun
  | [d1, d2, d3] => { results := [.lit (.bool true)], args := [d1, d2, d3] }
  | _ => none }
def scalarMeasuresRow : OpenClaim := { program := "ytajbfioncdnkcaagreatdoor", sum := "195b8048ca0526c423da1c1ceb8d2863c8aedab22b1df61def7bb80a990c05df", func := "configlang/configlanglaw11.ScalarMeasures", spec := "scalarMeasures", inPlace := ["internal/abi.NoEscape"], unfollowed := true, recurses := true, named := ["internal/strconv.uint64pow10", "math/bits.deBruijn32tab", "math/bits.deBruijn64tab"], loops := true, apart := false, laid := [("math/bits.deBruijn32tab", laid_math_bits_deBruijn32tab), ("math/bits.deBruijn64tab", laid_math_bits_deBruijn64tab), ("internal/strconv.uint64pow10", laid_internal_strconv_uint64pow10)] }
def ScalarMeasuresSaid : Prop := scalarMeasuresRow.holds Tryz.pinned (OpenSpec.ofChange scalarMeasuresSpec)

/-- ITS FALSE NEIGHBOUR: 'it returns false'. Refute it at one input. -/
def scalarMeasuresWrong : ChangeSpec := { name := "scalarMeasures", fn := fun _ => fun
  | [d1, d2, d3] => { results := [.lit (.bool false)], args := [d1, d2, d3] }
  | _ => none }
def ScalarMeasuresWrongFalsely : Prop := scalarMeasuresRow.holds Tryz.pinned (OpenSpec.ofChange scalarMeasuresWrong)

/-- 'configlanglaw11.ScalarCompare': WHATEVER THE INPUT: true; the input reads as it did. -/
def scalarCompareSpec : ChangeSpec := { name := "scalarCompare", fn := fun _ => fun
  | [d1, d2, d3] => { results := [.lit (.bool true)], args := [d1, d2, d3] }
  | _ => none }
def scalarCompareRow : OpenClaim := { program := "ytajbfioncdnkcaagreatdoor", sum := "195b8048ca0526c423da1c1ceb8d2863c8aedab22b1df61def7bb80a990c05df", func := "configlang/configlanglaw11.ScalarCompare", spec := "scalarCompare", inPlace := ["internal/abi.NoEscape"], unfollowed := true, recurses := true, named := ["internal/strconv.uint64pow10", "math/bits.deBruijn32tab", "math/bits.deBruijn64tab"], apart := false, laid := [("math/bits.deBruijn32tab", laid_math_bits_deBruijn32tab), ("math/bits.deBruijn64tab", laid_math_bits_deBruijn64tab), ("internal/strconv.uint64pow10", laid_internal_strconv_uint64pow10)] }
def ScalarCompareSaid : Prop := scalarCompareRow.holds Tryz.pinned (OpenSpec.ofChange scalarCompareSpec)

/-- ITS FALSE NEIGHBOUR: 'it returns false'. Refute it at one input. -/
def scalarCompareWrong : ChangeSpec := { name := "scalarCompare", fn := fun _ => fun
  | [d1, d2, d3] => { results := [.lit (.bool false)], args := [d1, d2, d3] }
  | _ => none }
def ScalarCompareWrongFalsely : Prop := scalarCompareRow.holds Tryz.pinned (OpenSpec.ofChange scalarCompareWrong)

/- THE SECOND FORM. 'bulk': how many values and letters a reading holds, each counted each time it is reached (what is shared counts as often as it is met; a slice's spare places count too). A statement '..UptoSaid' is the law's where the arguments, and the package variables that the reading takes, are together of bulk at most 1048576: NARROWER than '..Said'. Prove '..Said' where nothing that the law and all that it calls make is longer than what came in: it says more and counts as full. Else prove '..UptoSaid'. A law counts once. -/
mutual
def uptoBulk {H : Type} : DataW H → Nat
  | .lit (.string bytes) => bytes.length + 1
  | .lit _ => 1
  | .nil => 1
  | .ptr d => uptoBulk d + 1
  | .slice elems spare => uptoBulkAll elems + uptoBulkAll spare + 1
  | .agg parts => uptoBulkAll parts + 1
  | .iface _ d => uptoBulk d + 1
  | .map entries => uptoBulkEntries entries + 1
  | .held _ => 1
def uptoBulkAll {H : Type} : List (DataW H) → Nat
  | [] => 0
  | d :: r => uptoBulk d + uptoBulkAll r
def uptoBulkEntries {H : Type} : List (Lit × DataW H) → Nat
  | [] => 0
  | x :: r => uptoBulkEntry x + uptoBulkEntries r
def uptoBulkEntry {H : Type} : Lit × DataW H → Nat
  | (.string bytes, d) => bytes.length + uptoBulk d + 1
  | (_, d) => uptoBulk d + 1
 end
def uptoSmall : (H : Type) → List (DataW H) → Bool := fun _ ds => decide (uptoBulkAll ds ≤ 1048576)
def OpenSpec.upto (s : _root_.Go.ChangeSpec) : _root_.Go.OpenSpec := { _root_.Go.OpenSpec.ofChange s with cond := some uptoSmall }

/-- 'configlanglaw11.ScalarBasics', WHERE WHAT IT READS IS OF BULK AT MOST 1048576: true; the input reads as it did. -/
def scalarBasicsUptoRow : OpenClaim := { program := "ytajbfioncdnkcaagreatdoor", sum := "195b8048ca0526c423da1c1ceb8d2863c8aedab22b1df61def7bb80a990c05df", func := "configlang/configlanglaw11.ScalarBasics", spec := "scalarBasics", inPlace := ["internal/abi.NoEscape"], unfollowed := true, recurses := true, named := ["internal/strconv.uint64pow10", "math/bits.deBruijn32tab", "math/bits.deBruijn64tab"], loops := true, apart := false, laid := [("math/bits.deBruijn32tab", laid_math_bits_deBruijn32tab), ("math/bits.deBruijn64tab", laid_math_bits_deBruijn64tab), ("internal/strconv.uint64pow10", laid_internal_strconv_uint64pow10)], narrowed := true }
def ScalarBasicsUptoSaid : Prop := scalarBasicsUptoRow.holds Tryz.pinned (OpenSpec.upto scalarBasicsSpec)

/-- 'configlanglaw11.ScalarBound', WHERE WHAT IT READS IS OF BULK AT MOST 1048576: true; the input reads as it did. -/
def scalarBoundUptoRow : OpenClaim := { program := "ytajbfioncdnkcaagreatdoor", sum := "195b8048ca0526c423da1c1ceb8d2863c8aedab22b1df61def7bb80a990c05df", func := "configlang/configlanglaw11.ScalarBound", spec := "scalarBound", inPlace := ["internal/abi.NoEscape"], unfollowed := true, recurses := true, named := ["internal/strconv.uint64pow10", "math/bits.deBruijn32tab", "math/bits.deBruijn64tab"], loops := true, apart := false, laid := [("math/bits.deBruijn32tab", laid_math_bits_deBruijn32tab), ("math/bits.deBruijn64tab", laid_math_bits_deBruijn64tab), ("internal/strconv.uint64pow10", laid_internal_strconv_uint64pow10)], narrowed := true }
def ScalarBoundUptoSaid : Prop := scalarBoundUptoRow.holds Tryz.pinned (OpenSpec.upto scalarBoundSpec)

/-- 'configlanglaw11.ScalarBoundMembers', WHERE WHAT IT READS IS OF BULK AT MOST 1048576: true; the input reads as it did. -/
def scalarBoundMembersUptoRow : OpenClaim := { program := "ytajbfioncdnkcaagreatdoor", sum := "195b8048ca0526c423da1c1ceb8d2863c8aedab22b1df61def7bb80a990c05df", func := "configlang/configlanglaw11.ScalarBoundMembers", spec := "scalarBoundMembers", inPlace := ["internal/abi.NoEscape"], unfollowed := true, recurses := true, named := ["internal/strconv.uint64pow10", "math/bits.deBruijn32tab", "math/bits.deBruijn64tab"], loops := true, apart := false, laid := [("math/bits.deBruijn32tab", laid_math_bits_deBruijn32tab), ("math/bits.deBruijn64tab", laid_math_bits_deBruijn64tab), ("internal/strconv.uint64pow10", laid_internal_strconv_uint64pow10)], narrowed := true }
def ScalarBoundMembersUptoSaid : Prop := scalarBoundMembersUptoRow.holds Tryz.pinned (OpenSpec.upto scalarBoundMembersSpec)

/-- 'configlanglaw11.ScalarAlgebra', WHERE WHAT IT READS IS OF BULK AT MOST 1048576: true; the input reads as it did. -/
def scalarAlgebraUptoRow : OpenClaim := { program := "ytajbfioncdnkcaagreatdoor", sum := "195b8048ca0526c423da1c1ceb8d2863c8aedab22b1df61def7bb80a990c05df", func := "configlang/configlanglaw11.ScalarAlgebra", spec := "scalarAlgebra", inPlace := ["internal/abi.NoEscape"], unfollowed := true, recurses := true, named := ["internal/strconv.uint64pow10", "math/bits.deBruijn32tab", "math/bits.deBruijn64tab"], apart := false, laid := [("math/bits.deBruijn32tab", laid_math_bits_deBruijn32tab), ("math/bits.deBruijn64tab", laid_math_bits_deBruijn64tab), ("internal/strconv.uint64pow10", laid_internal_strconv_uint64pow10)], narrowed := true }
def ScalarAlgebraUptoSaid : Prop := scalarAlgebraUptoRow.holds Tryz.pinned (OpenSpec.upto scalarAlgebraSpec)

/-- 'configlanglaw11.ScalarMembers', WHERE WHAT IT READS IS OF BULK AT MOST 1048576: true; the input reads as it did. -/
def scalarMembersUptoRow : OpenClaim := { program := "ytajbfioncdnkcaagreatdoor", sum := "195b8048ca0526c423da1c1ceb8d2863c8aedab22b1df61def7bb80a990c05df", func := "configlang/configlanglaw11.ScalarMembers", spec := "scalarMembers", inPlace := ["internal/abi.NoEscape"], unfollowed := true, recurses := true, named := ["internal/strconv.uint64pow10", "math/bits.deBruijn32tab", "math/bits.deBruijn64tab"], loops := true, apart := false, laid := [("math/bits.deBruijn32tab", laid_math_bits_deBruijn32tab), ("math/bits.deBruijn64tab", laid_math_bits_deBruijn64tab), ("internal/strconv.uint64pow10", laid_internal_strconv_uint64pow10)], narrowed := true }
def ScalarMembersUptoSaid : Prop := scalarMembersUptoRow.holds Tryz.pinned (OpenSpec.upto scalarMembersSpec)

/-- 'configlanglaw11.ScalarLaws', WHERE WHAT IT READS IS OF BULK AT MOST 1048576: true; the input reads as it did. -/
def scalarLawsUptoRow : OpenClaim := { program := "ytajbfioncdnkcaagreatdoor", sum := "195b8048ca0526c423da1c1ceb8d2863c8aedab22b1df61def7bb80a990c05df", func := "configlang/configlanglaw11.ScalarLaws", spec := "scalarLaws", inPlace := ["internal/abi.NoEscape"], unfollowed := true, recurses := true, named := ["internal/strconv.uint64pow10", "math/bits.deBruijn32tab", "math/bits.deBruijn64tab"], apart := false, laid := [("math/bits.deBruijn32tab", laid_math_bits_deBruijn32tab), ("math/bits.deBruijn64tab", laid_math_bits_deBruijn64tab), ("internal/strconv.uint64pow10", laid_internal_strconv_uint64pow10)], narrowed := true }
def ScalarLawsUptoSaid : Prop := scalarLawsUptoRow.holds Tryz.pinned (OpenSpec.upto scalarLawsSpec)

/-- 'configlanglaw11.ScalarSingles', WHERE WHAT IT READS IS OF BULK AT MOST 1048576: true; the input reads as it did. -/
def scalarSinglesUptoRow : OpenClaim := { program := "ytajbfioncdnkcaagreatdoor", sum := "195b8048ca0526c423da1c1ceb8d2863c8aedab22b1df61def7bb80a990c05df", func := "configlang/configlanglaw11.ScalarSingles", spec := "scalarSingles", inPlace := ["internal/abi.NoEscape"], unfollowed := true, recurses := true, named := ["internal/strconv.uint64pow10", "math/bits.deBruijn32tab", "math/bits.deBruijn64tab"], loops := true, apart := false, laid := [("math/bits.deBruijn32tab", laid_math_bits_deBruijn32tab), ("math/bits.deBruijn64tab", laid_math_bits_deBruijn64tab), ("internal/strconv.uint64pow10", laid_internal_strconv_uint64pow10)], narrowed := true }
def ScalarSinglesUptoSaid : Prop := scalarSinglesUptoRow.holds Tryz.pinned (OpenSpec.upto scalarSinglesSpec)

/-- 'configlanglaw11.ScalarMeasures', WHERE WHAT IT READS IS OF BULK AT MOST 1048576: true; the input reads as it did. -/
def scalarMeasuresUptoRow : OpenClaim := { program := "ytajbfioncdnkcaagreatdoor", sum := "195b8048ca0526c423da1c1ceb8d2863c8aedab22b1df61def7bb80a990c05df", func := "configlang/configlanglaw11.ScalarMeasures", spec := "scalarMeasures", inPlace := ["internal/abi.NoEscape"], unfollowed := true, recurses := true, named := ["internal/strconv.uint64pow10", "math/bits.deBruijn32tab", "math/bits.deBruijn64tab"], loops := true, apart := false, laid := [("math/bits.deBruijn32tab", laid_math_bits_deBruijn32tab), ("math/bits.deBruijn64tab", laid_math_bits_deBruijn64tab), ("internal/strconv.uint64pow10", laid_internal_strconv_uint64pow10)], narrowed := true }
def ScalarMeasuresUptoSaid : Prop := scalarMeasuresUptoRow.holds Tryz.pinned (OpenSpec.upto scalarMeasuresSpec)

/-- 'configlanglaw11.ScalarCompare', WHERE WHAT IT READS IS OF BULK AT MOST 1048576: true; the input reads as it did. -/
def scalarCompareUptoRow : OpenClaim := { program := "ytajbfioncdnkcaagreatdoor", sum := "195b8048ca0526c423da1c1ceb8d2863c8aedab22b1df61def7bb80a990c05df", func := "configlang/configlanglaw11.ScalarCompare", spec := "scalarCompare", inPlace := ["internal/abi.NoEscape"], unfollowed := true, recurses := true, named := ["internal/strconv.uint64pow10", "math/bits.deBruijn32tab", "math/bits.deBruijn64tab"], apart := false, laid := [("math/bits.deBruijn32tab", laid_math_bits_deBruijn32tab), ("math/bits.deBruijn64tab", laid_math_bits_deBruijn64tab), ("internal/strconv.uint64pow10", laid_internal_strconv_uint64pow10)], narrowed := true }
def ScalarCompareUptoSaid : Prop := scalarCompareUptoRow.holds Tryz.pinned (OpenSpec.upto scalarCompareSpec)

end Rows
end Go.Proofs.YtajbfioncdnkcaaGreatDoor

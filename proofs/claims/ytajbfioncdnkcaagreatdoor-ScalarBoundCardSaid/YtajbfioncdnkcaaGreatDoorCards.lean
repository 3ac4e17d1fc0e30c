/-
  DERIVED. GIVEN WITH THE SEED: THE CARDS: each row of YtajbfioncdnkcaaGreatDoorRows.lean that lists a variable, with what it lists TIED to the program's text (the seventh form; the later family's looks); each row that meets fmt, with fmt's text TOLD by the authors' own Lean function (tested against real Go, not proved from fmt's source: count such statements apart). THE CARD IS WHAT COUNTS. Prove the row's statement (the work); the ties are given (YtajbfioncdnkcaaGreatDoorTie.lean); close each card by the builder's one call (the guide's Derived/Test/ToyasCard.lean, 'card_holds'). Laid BY PROGRAM, IN A SANDBOX (cutbox-door.mjs). By AI agents, Wed Nov 11 2026. No macro, syntax, notation, axiom, sorry.
-/
import Derived.Test.YtajbfioncdnkcaaGreatDoorRows
import GoSem.ClaimSeven
namespace Go.Proofs.YtajbfioncdnkcaaGreatDoor
namespace Rows

/-- THE TIED CARD OF 'configlanglaw11.ScalarBasics'. -/
def scalarBasicsCard : Claim7 := { stood := { row := scalarBasicsRow, standIns := [], harness := (true, "d7fd101d70636a0c9a798d156bfb9a2d142aeff992526c18f2d51f497e1cd984"), looks := false }, kinds := [], alts := [], laidByText := true, laidKinds := [.data, .data, .data], laidTests := true, laidLooks := .later }
def ScalarBasicsCardSaid : Prop := Claim7.holds Tryz.pinned (.plain (OpenSpec.ofChange scalarBasicsSpec)) scalarBasicsCard

/-- THE TIED CARD OF 'configlanglaw11.ScalarBound'. -/
def scalarBoundCard : Claim7 := { stood := { row := scalarBoundRow, standIns := [], harness := (true, "d7fd101d70636a0c9a798d156bfb9a2d142aeff992526c18f2d51f497e1cd984"), looks := false }, kinds := [], alts := [], laidByText := true, laidKinds := [.data, .data, .data], laidTests := true, laidLooks := .later }
def ScalarBoundCardSaid : Prop := Claim7.holds Tryz.pinned (.plain (OpenSpec.ofChange scalarBoundSpec)) scalarBoundCard

/-- THE TIED CARD OF 'configlanglaw11.ScalarBoundMembers'. -/
def scalarBoundMembersCard : Claim7 := { stood := { row := scalarBoundMembersRow, standIns := [], harness := (true, "d7fd101d70636a0c9a798d156bfb9a2d142aeff992526c18f2d51f497e1cd984"), looks := false }, kinds := [], alts := [], laidByText := true, laidKinds := [.data, .data, .data], laidTests := true, laidLooks := .later }
def ScalarBoundMembersCardSaid : Prop := Claim7.holds Tryz.pinned (.plain (OpenSpec.ofChange scalarBoundMembersSpec)) scalarBoundMembersCard

/-- THE TIED CARD OF 'configlanglaw11.ScalarAlgebra'. -/
def scalarAlgebraCard : Claim7 := { stood := { row := scalarAlgebraRow, standIns := [], harness := (true, "d7fd101d70636a0c9a798d156bfb9a2d142aeff992526c18f2d51f497e1cd984"), looks := false }, kinds := [], alts := [], laidByText := true, laidKinds := [.data, .data, .data], laidTests := true, laidLooks := .later }
def ScalarAlgebraCardSaid : Prop := Claim7.holds Tryz.pinned (.plain (OpenSpec.ofChange scalarAlgebraSpec)) scalarAlgebraCard

/-- THE TIED CARD OF 'configlanglaw11.ScalarMembers'. -/
def scalarMembersCard : Claim7 := { stood := { row := scalarMembersRow, standIns := [], harness := (true, "d7fd101d70636a0c9a798d156bfb9a2d142aeff992526c18f2d51f497e1cd984"), looks := false }, kinds := [], alts := [], laidByText := true, laidKinds := [.data, .data, .data], laidTests := true, laidLooks := .later }
def ScalarMembersCardSaid : Prop := Claim7.holds Tryz.pinned (.plain (OpenSpec.ofChange scalarMembersSpec)) scalarMembersCard

/-- THE TIED CARD OF 'configlanglaw11.ScalarLaws'. -/
def scalarLawsCard : Claim7 := { stood := { row := scalarLawsRow, standIns := [], harness := (true, "d7fd101d70636a0c9a798d156bfb9a2d142aeff992526c18f2d51f497e1cd984"), looks := false }, kinds := [], alts := [], laidByText := true, laidKinds := [.data, .data, .data], laidTests := true, laidLooks := .later }
def ScalarLawsCardSaid : Prop := Claim7.holds Tryz.pinned (.plain (OpenSpec.ofChange scalarLawsSpec)) scalarLawsCard

/-- THE TIED CARD OF 'configlanglaw11.ScalarSingles'. -/
def scalarSinglesCard : Claim7 := { stood := { row := scalarSinglesRow, standIns := [], harness := (true, "d7fd101d70636a0c9a798d156bfb9a2d142aeff992526c18f2d51f497e1cd984"), looks := false }, kinds := [], alts := [], laidByText := true, laidKinds := [.data, .data, .data], laidTests := true, laidLooks := .later }
def ScalarSinglesCardSaid : Prop := Claim7.holds Tryz.pinned (.plain (OpenSpec.ofChange scalarSinglesSpec)) scalarSinglesCard

/-- THE TIED CARD OF 'configlanglaw11.ScalarMeasures'. -/
def scalarMeasuresCard : Claim7 := { stood := { row := scalarMeasuresRow, standIns := [], harness := (true, "d7fd101d70636a0c9a798d156bfb9a2d142aeff992526c18f2d51f497e1cd984"), looks := false }, kinds := [], alts := [], laidByText := true, laidKinds := [.data, .data, .data], laidTests := true, laidLooks := .later }
def ScalarMeasuresCardSaid : Prop := Claim7.holds Tryz.pinned (.plain (OpenSpec.ofChange scalarMeasuresSpec)) scalarMeasuresCard

/-- THE TIED CARD OF 'configlanglaw11.ScalarCompare'. -/
def scalarCompareCard : Claim7 := { stood := { row := scalarCompareRow, standIns := [], harness := (true, "d7fd101d70636a0c9a798d156bfb9a2d142aeff992526c18f2d51f497e1cd984"), looks := false }, kinds := [], alts := [], laidByText := true, laidKinds := [.data, .data, .data], laidTests := true, laidLooks := .later }
def ScalarCompareCardSaid : Prop := Claim7.holds Tryz.pinned (.plain (OpenSpec.ofChange scalarCompareSpec)) scalarCompareCard

/-- THE SECOND FORM's CARD OF 'configlanglaw11.ScalarBasics'. -/
def scalarBasicsUptoCard : Claim7 := { stood := { row := scalarBasicsUptoRow, standIns := [], harness := (true, "d7fd101d70636a0c9a798d156bfb9a2d142aeff992526c18f2d51f497e1cd984"), looks := false }, kinds := [], alts := [], laidByText := true, laidKinds := [.data, .data, .data], laidTests := true, laidLooks := .later }
def ScalarBasicsUptoCardSaid : Prop := Claim7.holds Tryz.pinned (.plain (OpenSpec.upto scalarBasicsSpec)) scalarBasicsUptoCard

/-- THE SECOND FORM's CARD OF 'configlanglaw11.ScalarBound'. -/
def scalarBoundUptoCard : Claim7 := { stood := { row := scalarBoundUptoRow, standIns := [], harness := (true, "d7fd101d70636a0c9a798d156bfb9a2d142aeff992526c18f2d51f497e1cd984"), looks := false }, kinds := [], alts := [], laidByText := true, laidKinds := [.data, .data, .data], laidTests := true, laidLooks := .later }
def ScalarBoundUptoCardSaid : Prop := Claim7.holds Tryz.pinned (.plain (OpenSpec.upto scalarBoundSpec)) scalarBoundUptoCard

/-- THE SECOND FORM's CARD OF 'configlanglaw11.ScalarBoundMembers'. -/
def scalarBoundMembersUptoCard : Claim7 := { stood := { row := scalarBoundMembersUptoRow, standIns := [], harness := (true, "d7fd101d70636a0c9a798d156bfb9a2d142aeff992526c18f2d51f497e1cd984"), looks := false }, kinds := [], alts := [], laidByText := true, laidKinds := [.data, .data, .data], laidTests := true, laidLooks := .later }
def ScalarBoundMembersUptoCardSaid : Prop := Claim7.holds Tryz.pinned (.plain (OpenSpec.upto scalarBoundMembersSpec)) scalarBoundMembersUptoCard

/-- THE SECOND FORM's CARD OF 'configlanglaw11.ScalarAlgebra'. -/
def scalarAlgebraUptoCard : Claim7 := { stood := { row := scalarAlgebraUptoRow, standIns := [], harness := (true, "d7fd101d70636a0c9a798d156bfb9a2d142aeff992526c18f2d51f497e1cd984"), looks := false }, kinds := [], alts := [], laidByText := true, laidKinds := [.data, .data, .data], laidTests := true, laidLooks := .later }
def ScalarAlgebraUptoCardSaid : Prop := Claim7.holds Tryz.pinned (.plain (OpenSpec.upto scalarAlgebraSpec)) scalarAlgebraUptoCard

/-- THE SECOND FORM's CARD OF 'configlanglaw11.ScalarMembers'. -/
def scalarMembersUptoCard : Claim7 := { stood := { row := scalarMembersUptoRow, standIns := [], harness := (true, "d7fd101d70636a0c9a798d156bfb9a2d142aeff992526c18f2d51f497e1cd984"), looks := false }, kinds := [], alts := [], laidByText := true, laidKinds := [.data, .data, .data], laidTests := true, laidLooks := .later }
def ScalarMembersUptoCardSaid : Prop := Claim7.holds Tryz.pinned (.plain (OpenSpec.upto scalarMembersSpec)) scalarMembersUptoCard

/-- THE SECOND FORM's CARD OF 'configlanglaw11.ScalarLaws'. -/
def scalarLawsUptoCard : Claim7 := { stood := { row := scalarLawsUptoRow, standIns := [], harness := (true, "d7fd101d70636a0c9a798d156bfb9a2d142aeff992526c18f2d51f497e1cd984"), looks := false }, kinds := [], alts := [], laidByText := true, laidKinds := [.data, .data, .data], laidTests := true, laidLooks := .later }
def ScalarLawsUptoCardSaid : Prop := Claim7.holds Tryz.pinned (.plain (OpenSpec.upto scalarLawsSpec)) scalarLawsUptoCard

/-- THE SECOND FORM's CARD OF 'configlanglaw11.ScalarSingles'. -/
def scalarSinglesUptoCard : Claim7 := { stood := { row := scalarSinglesUptoRow, standIns := [], harness := (true, "d7fd101d70636a0c9a798d156bfb9a2d142aeff992526c18f2d51f497e1cd984"), looks := false }, kinds := [], alts := [], laidByText := true, laidKinds := [.data, .data, .data], laidTests := true, laidLooks := .later }
def ScalarSinglesUptoCardSaid : Prop := Claim7.holds Tryz.pinned (.plain (OpenSpec.upto scalarSinglesSpec)) scalarSinglesUptoCard

/-- THE SECOND FORM's CARD OF 'configlanglaw11.ScalarMeasures'. -/
def scalarMeasuresUptoCard : Claim7 := { stood := { row := scalarMeasuresUptoRow, standIns := [], harness := (true, "d7fd101d70636a0c9a798d156bfb9a2d142aeff992526c18f2d51f497e1cd984"), looks := false }, kinds := [], alts := [], laidByText := true, laidKinds := [.data, .data, .data], laidTests := true, laidLooks := .later }
def ScalarMeasuresUptoCardSaid : Prop := Claim7.holds Tryz.pinned (.plain (OpenSpec.upto scalarMeasuresSpec)) scalarMeasuresUptoCard

/-- THE SECOND FORM's CARD OF 'configlanglaw11.ScalarCompare'. -/
def scalarCompareUptoCard : Claim7 := { stood := { row := scalarCompareUptoRow, standIns := [], harness := (true, "d7fd101d70636a0c9a798d156bfb9a2d142aeff992526c18f2d51f497e1cd984"), looks := false }, kinds := [], alts := [], laidByText := true, laidKinds := [.data, .data, .data], laidTests := true, laidLooks := .later }
def ScalarCompareUptoCardSaid : Prop := Claim7.holds Tryz.pinned (.plain (OpenSpec.upto scalarCompareSpec)) scalarCompareUptoCard
end Rows
end Go.Proofs.YtajbfioncdnkcaaGreatDoor

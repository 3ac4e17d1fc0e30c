/-
  DERIVED. GIVEN WITH THE SEED: THE CARDS: each row of YtaolacbikbllcaaGreatDoorRows.lean that lists a variable, with what it lists TIED to the program's text (the seventh form; the later family's looks); each row that meets fmt, with fmt's text TOLD by the authors' own Lean function (tested against real Go, not proved from fmt's source: count such statements apart). THE CARD IS WHAT COUNTS. Prove the row's statement (the work); the ties are given (YtaolacbikbllcaaGreatDoorTie.lean); close each card by the builder's one call (the guide's Derived/Test/ToyasCard.lean, 'card_holds'). Laid BY PROGRAM, IN A SANDBOX (cutbox-door.mjs). By AI agents, Wed Nov 11 2026. No macro, syntax, notation, axiom, sorry.
-/
import Derived.Test.YtaolacbikbllcaaGreatDoorRows
import GoSem.ClaimSeven
namespace Go.Proofs.YtaolacbikbllcaaGreatDoor
namespace Rows

/-- THE TIED CARD OF 'configlanglaw06.LangCuts'. -/
def langCutsCard : Claim7 := { stood := { row := langCutsRow, standIns := [], harness := (true, "a6ee6396d2e2ffa34b26172c8b474968e3e97f7c57f4e3cc48ba7e8b4bd65d6f"), looks := false }, kinds := [], alts := [], laidByText := true, laidKinds := [.data, .data, .data], laidTests := true, laidLooks := .later }
def LangCutsCardSaid : Prop := Claim7.holds Tryz.pinned (.plain (OpenSpec.ofChange langCutsSpec)) langCutsCard

/-- THE TIED CARD OF 'configlanglaw06.LangSubsets'. -/
def langSubsetsCard : Claim7 := { stood := { row := langSubsetsRow, standIns := [], harness := (true, "a6ee6396d2e2ffa34b26172c8b474968e3e97f7c57f4e3cc48ba7e8b4bd65d6f"), looks := false }, kinds := [], alts := [], laidByText := true, laidKinds := [.data, .data, .data], laidTests := true, laidLooks := .later }
def LangSubsetsCardSaid : Prop := Claim7.holds Tryz.pinned (.plain (OpenSpec.ofChange langSubsetsSpec)) langSubsetsCard

/-- THE TIED CARD OF 'configlanglaw06.LangBounds'. -/
def langBoundsCard : Claim7 := { stood := { row := langBoundsRow, standIns := [], harness := (true, "a6ee6396d2e2ffa34b26172c8b474968e3e97f7c57f4e3cc48ba7e8b4bd65d6f"), looks := false }, kinds := [], alts := [], laidByText := true, laidKinds := [.data, .data, .data], laidTests := true, laidLooks := .later }
def LangBoundsCardSaid : Prop := Claim7.holds Tryz.pinned (.plain (OpenSpec.ofChange langBoundsSpec)) langBoundsCard

/-- THE TIED CARD OF 'configlanglaw06.LangCompares'. -/
def langComparesCard : Claim7 := { stood := { row := langComparesRow, standIns := [], harness := (true, "a6ee6396d2e2ffa34b26172c8b474968e3e97f7c57f4e3cc48ba7e8b4bd65d6f"), looks := false }, kinds := [], alts := [], laidByText := true, laidKinds := [.data, .data, .data], laidTests := true, laidLooks := .later }
def LangComparesCardSaid : Prop := Claim7.holds Tryz.pinned (.plain (OpenSpec.ofChange langComparesSpec)) langComparesCard

/-- THE SECOND FORM's CARD OF 'configlanglaw06.LangCuts'. -/
def langCutsUptoCard : Claim7 := { stood := { row := langCutsUptoRow, standIns := [], harness := (true, "a6ee6396d2e2ffa34b26172c8b474968e3e97f7c57f4e3cc48ba7e8b4bd65d6f"), looks := false }, kinds := [], alts := [], laidByText := true, laidKinds := [.data, .data, .data], laidTests := true, laidLooks := .later }
def LangCutsUptoCardSaid : Prop := Claim7.holds Tryz.pinned (.plain (OpenSpec.upto langCutsSpec)) langCutsUptoCard

/-- THE SECOND FORM's CARD OF 'configlanglaw06.LangSubsets'. -/
def langSubsetsUptoCard : Claim7 := { stood := { row := langSubsetsUptoRow, standIns := [], harness := (true, "a6ee6396d2e2ffa34b26172c8b474968e3e97f7c57f4e3cc48ba7e8b4bd65d6f"), looks := false }, kinds := [], alts := [], laidByText := true, laidKinds := [.data, .data, .data], laidTests := true, laidLooks := .later }
def LangSubsetsUptoCardSaid : Prop := Claim7.holds Tryz.pinned (.plain (OpenSpec.upto langSubsetsSpec)) langSubsetsUptoCard

/-- THE SECOND FORM's CARD OF 'configlanglaw06.LangBounds'. -/
def langBoundsUptoCard : Claim7 := { stood := { row := langBoundsUptoRow, standIns := [], harness := (true, "a6ee6396d2e2ffa34b26172c8b474968e3e97f7c57f4e3cc48ba7e8b4bd65d6f"), looks := false }, kinds := [], alts := [], laidByText := true, laidKinds := [.data, .data, .data], laidTests := true, laidLooks := .later }
def LangBoundsUptoCardSaid : Prop := Claim7.holds Tryz.pinned (.plain (OpenSpec.upto langBoundsSpec)) langBoundsUptoCard

/-- THE SECOND FORM's CARD OF 'configlanglaw06.LangCompares'. -/
def langComparesUptoCard : Claim7 := { stood := { row := langComparesUptoRow, standIns := [], harness := (true, "a6ee6396d2e2ffa34b26172c8b474968e3e97f7c57f4e3cc48ba7e8b4bd65d6f"), looks := false }, kinds := [], alts := [], laidByText := true, laidKinds := [.data, .data, .data], laidTests := true, laidLooks := .later }
def LangComparesUptoCardSaid : Prop := Claim7.holds Tryz.pinned (.plain (OpenSpec.upto langComparesSpec)) langComparesUptoCard
end Rows
end Go.Proofs.YtaolacbikbllcaaGreatDoor

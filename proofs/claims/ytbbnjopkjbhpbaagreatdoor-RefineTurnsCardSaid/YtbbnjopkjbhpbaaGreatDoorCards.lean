/-
  DERIVED. GIVEN WITH THE SEED: THE CARDS: each row of YtbbnjopkjbhpbaaGreatDoorRows.lean that lists a variable, with what it lists TIED to the program's text (the seventh form; the later family's looks); each row that meets fmt, with fmt's text TOLD by the authors' own Lean function (tested against real Go, not proved from fmt's source: count such statements apart). THE CARD IS WHAT COUNTS. Prove the row's statement (the work); the ties are given (YtbbnjopkjbhpbaaGreatDoorTie.lean); close each card by the builder's one call (the guide's Derived/Test/ToyasCard.lean, 'card_holds'). Laid BY PROGRAM, IN A SANDBOX (cutbox-door.mjs). By AI agents, Wed Nov 11 2026. No macro, syntax, notation, axiom, sorry.
-/
import Derived.Test.YtbbnjopkjbhpbaaGreatDoorRows
import GoSem.ClaimSeven
namespace Go.Proofs.YtbbnjopkjbhpbaaGreatDoor
namespace Rows

/-- THE TIED CARD OF 'configlanglaw13.RefinePartial'. -/
def refinePartialCard : Claim7 := { stood := { row := refinePartialRow, standIns := [], harness := (true, "7398ce0d3c61f8689198ce5f1f2aca8c2959328ea8ad78c6fb23f7f34d079189"), looks := false }, kinds := [], alts := [], laidByText := true, laidKinds := [.data, .data, .data], laidTests := true, laidLooks := .later }
def RefinePartialCardSaid : Prop := Claim7.holds Tryz.pinned (.plain (OpenSpec.ofChange refinePartialSpec)) refinePartialCard

/-- THE TIED CARD OF 'configlanglaw13.RefineExtremes'. -/
def refineExtremesCard : Claim7 := { stood := { row := refineExtremesRow, standIns := [], harness := (true, "7398ce0d3c61f8689198ce5f1f2aca8c2959328ea8ad78c6fb23f7f34d079189"), looks := false }, kinds := [], alts := [], laidByText := true, laidKinds := [.data, .data, .data], laidTests := true, laidLooks := .later }
def RefineExtremesCardSaid : Prop := Claim7.holds Tryz.pinned (.plain (OpenSpec.ofChange refineExtremesSpec)) refineExtremesCard

/-- THE TIED CARD OF 'configlanglaw13.RefineTurns'. -/
def refineTurnsCard : Claim7 := { stood := { row := refineTurnsRow, standIns := [], harness := (true, "7398ce0d3c61f8689198ce5f1f2aca8c2959328ea8ad78c6fb23f7f34d079189"), looks := false }, kinds := [], alts := [], laidByText := true, laidKinds := [.data, .data, .data], laidTests := true, laidLooks := .later }
def RefineTurnsCardSaid : Prop := Claim7.holds Tryz.pinned (.plain (OpenSpec.ofChange refineTurnsSpec)) refineTurnsCard

/-- THE TIED CARD OF 'configlanglaw13.RefineDepth'. -/
def refineDepthCard : Claim7 := { stood := { row := refineDepthRow, standIns := [], harness := (true, "7398ce0d3c61f8689198ce5f1f2aca8c2959328ea8ad78c6fb23f7f34d079189"), looks := false }, kinds := [], alts := [], laidByText := true, laidKinds := [.data, .data, .data], laidTests := true, laidLooks := .later }
def RefineDepthCardSaid : Prop := Claim7.holds Tryz.pinned (.plain (OpenSpec.ofChange refineDepthSpec)) refineDepthCard

/-- THE SECOND FORM's CARD OF 'configlanglaw13.RefinePartial'. -/
def refinePartialUptoCard : Claim7 := { stood := { row := refinePartialUptoRow, standIns := [], harness := (true, "7398ce0d3c61f8689198ce5f1f2aca8c2959328ea8ad78c6fb23f7f34d079189"), looks := false }, kinds := [], alts := [], laidByText := true, laidKinds := [.data, .data, .data], laidTests := true, laidLooks := .later }
def RefinePartialUptoCardSaid : Prop := Claim7.holds Tryz.pinned (.plain (OpenSpec.upto refinePartialSpec)) refinePartialUptoCard

/-- THE SECOND FORM's CARD OF 'configlanglaw13.RefineExtremes'. -/
def refineExtremesUptoCard : Claim7 := { stood := { row := refineExtremesUptoRow, standIns := [], harness := (true, "7398ce0d3c61f8689198ce5f1f2aca8c2959328ea8ad78c6fb23f7f34d079189"), looks := false }, kinds := [], alts := [], laidByText := true, laidKinds := [.data, .data, .data], laidTests := true, laidLooks := .later }
def RefineExtremesUptoCardSaid : Prop := Claim7.holds Tryz.pinned (.plain (OpenSpec.upto refineExtremesSpec)) refineExtremesUptoCard

/-- THE SECOND FORM's CARD OF 'configlanglaw13.RefineTurns'. -/
def refineTurnsUptoCard : Claim7 := { stood := { row := refineTurnsUptoRow, standIns := [], harness := (true, "7398ce0d3c61f8689198ce5f1f2aca8c2959328ea8ad78c6fb23f7f34d079189"), looks := false }, kinds := [], alts := [], laidByText := true, laidKinds := [.data, .data, .data], laidTests := true, laidLooks := .later }
def RefineTurnsUptoCardSaid : Prop := Claim7.holds Tryz.pinned (.plain (OpenSpec.upto refineTurnsSpec)) refineTurnsUptoCard

/-- THE SECOND FORM's CARD OF 'configlanglaw13.RefineDepth'. -/
def refineDepthUptoCard : Claim7 := { stood := { row := refineDepthUptoRow, standIns := [], harness := (true, "7398ce0d3c61f8689198ce5f1f2aca8c2959328ea8ad78c6fb23f7f34d079189"), looks := false }, kinds := [], alts := [], laidByText := true, laidKinds := [.data, .data, .data], laidTests := true, laidLooks := .later }
def RefineDepthUptoCardSaid : Prop := Claim7.holds Tryz.pinned (.plain (OpenSpec.upto refineDepthSpec)) refineDepthUptoCard
end Rows
end Go.Proofs.YtbbnjopkjbhpbaaGreatDoor

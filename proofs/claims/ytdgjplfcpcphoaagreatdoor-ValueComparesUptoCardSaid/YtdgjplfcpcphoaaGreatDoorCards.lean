/-
  DERIVED. GIVEN WITH THE SEED: THE CARDS: each row of YtdgjplfcpcphoaaGreatDoorRows.lean that lists a variable, with what it lists TIED to the program's text (the seventh form; the later family's looks); each row that meets fmt, with fmt's text TOLD by the authors' own Lean function (tested against real Go, not proved from fmt's source: count such statements apart). THE CARD IS WHAT COUNTS. Prove the row's statement (the work); the ties are given (YtdgjplfcpcphoaaGreatDoorTie.lean); close each card by the builder's one call (the guide's Derived/Test/ToyasCard.lean, 'card_holds'). Laid BY PROGRAM, IN A SANDBOX (cutbox-door.mjs). By AI agents, Wed Nov 11 2026. No macro, syntax, notation, axiom, sorry.
-/
import Derived.Test.YtdgjplfcpcphoaaGreatDoorRows
import GoSem.ClaimSeven
namespace Go.Proofs.YtdgjplfcpcphoaaGreatDoor
namespace Rows

/-- THE TIED CARD OF 'configlanglaw12.ValueTells'. -/
def valueTellsCard : Claim7 := { stood := { row := valueTellsRow, standIns := [], harness := (true, "ce00fac4b894d6f729d3efc372edfae2b3c3a54791028ffe8a22228271bb4162"), looks := false }, kinds := [], alts := [], laidByText := true, laidKinds := [.data, .data, .data], laidTests := true, laidLooks := .later }
def ValueTellsCardSaid : Prop := Claim7.holds Tryz.pinned (.plain (OpenSpec.ofChange valueTellsSpec)) valueTellsCard

/-- THE TIED CARD OF 'configlanglaw12.ValueSounds'. -/
def valueSoundsCard : Claim7 := { stood := { row := valueSoundsRow, standIns := [], harness := (true, "ce00fac4b894d6f729d3efc372edfae2b3c3a54791028ffe8a22228271bb4162"), looks := false }, kinds := [], alts := [], laidByText := true, laidKinds := [.data, .data, .data], laidTests := true, laidLooks := .later }
def ValueSoundsCardSaid : Prop := Claim7.holds Tryz.pinned (.plain (OpenSpec.ofChange valueSoundsSpec)) valueSoundsCard

/-- THE TIED CARD OF 'configlanglaw12.ValueCounts'. -/
def valueCountsCard : Claim7 := { stood := { row := valueCountsRow, standIns := [], harness := (true, "ce00fac4b894d6f729d3efc372edfae2b3c3a54791028ffe8a22228271bb4162"), looks := false }, kinds := [], alts := [], laidByText := true, laidKinds := [.data, .data, .data], laidTests := true, laidLooks := .later }
def ValueCountsCardSaid : Prop := Claim7.holds Tryz.pinned (.plain (OpenSpec.ofChange valueCountsSpec)) valueCountsCard

/-- THE TIED CARD OF 'configlanglaw12.ValueCompares'. -/
def valueComparesCard : Claim7 := { stood := { row := valueComparesRow, standIns := [], harness := (true, "ce00fac4b894d6f729d3efc372edfae2b3c3a54791028ffe8a22228271bb4162"), looks := false }, kinds := [], alts := [], laidByText := true, laidKinds := [.data, .data, .data], laidTests := true, laidLooks := .later }
def ValueComparesCardSaid : Prop := Claim7.holds Tryz.pinned (.plain (OpenSpec.ofChange valueComparesSpec)) valueComparesCard

/-- THE TIED CARD OF 'configlanglaw12.ValueViews'. -/
def valueViewsCard : Claim7 := { stood := { row := valueViewsRow, standIns := [], harness := (true, "ce00fac4b894d6f729d3efc372edfae2b3c3a54791028ffe8a22228271bb4162"), looks := false }, kinds := [], alts := [], laidByText := true, laidKinds := [.data, .data, .data], laidTests := true, laidLooks := .later }
def ValueViewsCardSaid : Prop := Claim7.holds Tryz.pinned (.plain (OpenSpec.ofChange valueViewsSpec)) valueViewsCard

/-- THE TIED CARD OF 'configlanglaw12.ValueItems'. -/
def valueItemsCard : Claim7 := { stood := { row := valueItemsRow, standIns := [], harness := (true, "ce00fac4b894d6f729d3efc372edfae2b3c3a54791028ffe8a22228271bb4162"), looks := false }, kinds := [], alts := [], laidByText := true, laidKinds := [.data, .data, .data], laidTests := true, laidLooks := .later }
def ValueItemsCardSaid : Prop := Claim7.holds Tryz.pinned (.plain (OpenSpec.ofChange valueItemsSpec)) valueItemsCard

/-- THE TIED CARD OF 'configlanglaw12.ValueOrders'. -/
def valueOrdersCard : Claim7 := { stood := { row := valueOrdersRow, standIns := [], harness := (true, "ce00fac4b894d6f729d3efc372edfae2b3c3a54791028ffe8a22228271bb4162"), looks := false }, kinds := [], alts := [], laidByText := true, laidKinds := [.data, .data, .data], laidTests := true, laidLooks := .later }
def ValueOrdersCardSaid : Prop := Claim7.holds Tryz.pinned (.plain (OpenSpec.ofChange valueOrdersSpec)) valueOrdersCard

/-- THE TIED CARD OF 'configlanglaw12.ValueEquals'. -/
def valueEqualsCard : Claim7 := { stood := { row := valueEqualsRow, standIns := [], harness := (true, "ce00fac4b894d6f729d3efc372edfae2b3c3a54791028ffe8a22228271bb4162"), looks := false }, kinds := [], alts := [], laidByText := true, laidKinds := [.data, .data, .data], laidTests := true, laidLooks := .later }
def ValueEqualsCardSaid : Prop := Claim7.holds Tryz.pinned (.plain (OpenSpec.ofChange valueEqualsSpec)) valueEqualsCard

/-- THE TIED CARD OF 'configlanglaw12.ValueLabels'. -/
def valueLabelsCard : Claim7 := { stood := { row := valueLabelsRow, standIns := [], harness := (true, "ce00fac4b894d6f729d3efc372edfae2b3c3a54791028ffe8a22228271bb4162"), looks := false }, kinds := [], alts := [], laidByText := true, laidKinds := [.data, .data, .data], laidTests := true, laidLooks := .later }
def ValueLabelsCardSaid : Prop := Claim7.holds Tryz.pinned (.plain (OpenSpec.ofChange valueLabelsSpec)) valueLabelsCard

/-- THE TIED CARD OF 'configlanglaw12.ValueMakes'. -/
def valueMakesCard : Claim7 := { stood := { row := valueMakesRow, standIns := [], harness := (true, "ce00fac4b894d6f729d3efc372edfae2b3c3a54791028ffe8a22228271bb4162"), looks := false }, kinds := [], alts := [], laidByText := true, laidKinds := [.data, .data, .data], laidTests := true, laidLooks := .later }
def ValueMakesCardSaid : Prop := Claim7.holds Tryz.pinned (.plain (OpenSpec.ofChange valueMakesSpec)) valueMakesCard

/-- THE SECOND FORM's CARD OF 'configlanglaw12.ValueTells'. -/
def valueTellsUptoCard : Claim7 := { stood := { row := valueTellsUptoRow, standIns := [], harness := (true, "ce00fac4b894d6f729d3efc372edfae2b3c3a54791028ffe8a22228271bb4162"), looks := false }, kinds := [], alts := [], laidByText := true, laidKinds := [.data, .data, .data], laidTests := true, laidLooks := .later }
def ValueTellsUptoCardSaid : Prop := Claim7.holds Tryz.pinned (.plain (OpenSpec.upto valueTellsSpec)) valueTellsUptoCard

/-- THE SECOND FORM's CARD OF 'configlanglaw12.ValueSounds'. -/
def valueSoundsUptoCard : Claim7 := { stood := { row := valueSoundsUptoRow, standIns := [], harness := (true, "ce00fac4b894d6f729d3efc372edfae2b3c3a54791028ffe8a22228271bb4162"), looks := false }, kinds := [], alts := [], laidByText := true, laidKinds := [.data, .data, .data], laidTests := true, laidLooks := .later }
def ValueSoundsUptoCardSaid : Prop := Claim7.holds Tryz.pinned (.plain (OpenSpec.upto valueSoundsSpec)) valueSoundsUptoCard

/-- THE SECOND FORM's CARD OF 'configlanglaw12.ValueCounts'. -/
def valueCountsUptoCard : Claim7 := { stood := { row := valueCountsUptoRow, standIns := [], harness := (true, "ce00fac4b894d6f729d3efc372edfae2b3c3a54791028ffe8a22228271bb4162"), looks := false }, kinds := [], alts := [], laidByText := true, laidKinds := [.data, .data, .data], laidTests := true, laidLooks := .later }
def ValueCountsUptoCardSaid : Prop := Claim7.holds Tryz.pinned (.plain (OpenSpec.upto valueCountsSpec)) valueCountsUptoCard

/-- THE SECOND FORM's CARD OF 'configlanglaw12.ValueCompares'. -/
def valueComparesUptoCard : Claim7 := { stood := { row := valueComparesUptoRow, standIns := [], harness := (true, "ce00fac4b894d6f729d3efc372edfae2b3c3a54791028ffe8a22228271bb4162"), looks := false }, kinds := [], alts := [], laidByText := true, laidKinds := [.data, .data, .data], laidTests := true, laidLooks := .later }
def ValueComparesUptoCardSaid : Prop := Claim7.holds Tryz.pinned (.plain (OpenSpec.upto valueComparesSpec)) valueComparesUptoCard

/-- THE SECOND FORM's CARD OF 'configlanglaw12.ValueViews'. -/
def valueViewsUptoCard : Claim7 := { stood := { row := valueViewsUptoRow, standIns := [], harness := (true, "ce00fac4b894d6f729d3efc372edfae2b3c3a54791028ffe8a22228271bb4162"), looks := false }, kinds := [], alts := [], laidByText := true, laidKinds := [.data, .data, .data], laidTests := true, laidLooks := .later }
def ValueViewsUptoCardSaid : Prop := Claim7.holds Tryz.pinned (.plain (OpenSpec.upto valueViewsSpec)) valueViewsUptoCard

/-- THE SECOND FORM's CARD OF 'configlanglaw12.ValueItems'. -/
def valueItemsUptoCard : Claim7 := { stood := { row := valueItemsUptoRow, standIns := [], harness := (true, "ce00fac4b894d6f729d3efc372edfae2b3c3a54791028ffe8a22228271bb4162"), looks := false }, kinds := [], alts := [], laidByText := true, laidKinds := [.data, .data, .data], laidTests := true, laidLooks := .later }
def ValueItemsUptoCardSaid : Prop := Claim7.holds Tryz.pinned (.plain (OpenSpec.upto valueItemsSpec)) valueItemsUptoCard

/-- THE SECOND FORM's CARD OF 'configlanglaw12.ValueOrders'. -/
def valueOrdersUptoCard : Claim7 := { stood := { row := valueOrdersUptoRow, standIns := [], harness := (true, "ce00fac4b894d6f729d3efc372edfae2b3c3a54791028ffe8a22228271bb4162"), looks := false }, kinds := [], alts := [], laidByText := true, laidKinds := [.data, .data, .data], laidTests := true, laidLooks := .later }
def ValueOrdersUptoCardSaid : Prop := Claim7.holds Tryz.pinned (.plain (OpenSpec.upto valueOrdersSpec)) valueOrdersUptoCard

/-- THE SECOND FORM's CARD OF 'configlanglaw12.ValueEquals'. -/
def valueEqualsUptoCard : Claim7 := { stood := { row := valueEqualsUptoRow, standIns := [], harness := (true, "ce00fac4b894d6f729d3efc372edfae2b3c3a54791028ffe8a22228271bb4162"), looks := false }, kinds := [], alts := [], laidByText := true, laidKinds := [.data, .data, .data], laidTests := true, laidLooks := .later }
def ValueEqualsUptoCardSaid : Prop := Claim7.holds Tryz.pinned (.plain (OpenSpec.upto valueEqualsSpec)) valueEqualsUptoCard

/-- THE SECOND FORM's CARD OF 'configlanglaw12.ValueLabels'. -/
def valueLabelsUptoCard : Claim7 := { stood := { row := valueLabelsUptoRow, standIns := [], harness := (true, "ce00fac4b894d6f729d3efc372edfae2b3c3a54791028ffe8a22228271bb4162"), looks := false }, kinds := [], alts := [], laidByText := true, laidKinds := [.data, .data, .data], laidTests := true, laidLooks := .later }
def ValueLabelsUptoCardSaid : Prop := Claim7.holds Tryz.pinned (.plain (OpenSpec.upto valueLabelsSpec)) valueLabelsUptoCard

/-- THE SECOND FORM's CARD OF 'configlanglaw12.ValueMakes'. -/
def valueMakesUptoCard : Claim7 := { stood := { row := valueMakesUptoRow, standIns := [], harness := (true, "ce00fac4b894d6f729d3efc372edfae2b3c3a54791028ffe8a22228271bb4162"), looks := false }, kinds := [], alts := [], laidByText := true, laidKinds := [.data, .data, .data], laidTests := true, laidLooks := .later }
def ValueMakesUptoCardSaid : Prop := Claim7.holds Tryz.pinned (.plain (OpenSpec.upto valueMakesSpec)) valueMakesUptoCard
end Rows
end Go.Proofs.YtdgjplfcpcphoaaGreatDoor

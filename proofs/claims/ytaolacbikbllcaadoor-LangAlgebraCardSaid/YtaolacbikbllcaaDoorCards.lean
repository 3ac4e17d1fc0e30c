/-
  DERIVED. GIVEN WITH THE SEED: THE CARDS: each row of YtaolacbikbllcaaDoorRows.lean that lists a variable, with what it lists TIED to the program's text (the seventh form; the later family's looks); each row that meets fmt, with fmt's text TOLD by the authors' own Lean function (tested against real Go, not proved from fmt's source: count such statements apart). THE CARD IS WHAT COUNTS. Prove the row's statement (the work); the ties are given (YtaolacbikbllcaaDoorTie.lean); close each card by the builder's one call (the guide's Derived/Test/ToyasCard.lean, 'card_holds'). Laid BY PROGRAM, IN A SANDBOX (cutbox-door.mjs). By AI agents, Wed Nov 11 2026. No macro, syntax, notation, axiom, sorry.
-/
import Derived.Test.YtaolacbikbllcaaDoorRows
import GoSem.ClaimSeven
namespace Go.Proofs.YtaolacbikbllcaaDoor
namespace Rows

/-- THE TIED CARD OF 'configlanglaw06.LangJoins'. -/
def langJoinsCard : Claim7 := { stood := { row := langJoinsRow, standIns := [], harness := (true, "85570061da318c1e415e9a9babdbc8be0522fa41d413e3b757da32caf365ecaa"), looks := false }, kinds := [], alts := [], laidByText := true, laidKinds := [.data, .data, .data], laidTests := true, laidLooks := .later }
def LangJoinsCardSaid : Prop := Claim7.holds Tryd.pinned (.plain (OpenSpec.ofChange langJoinsSpec)) langJoinsCard

/-- THE TIED CARD OF 'configlanglaw06.LangWords'. -/
def langWordsCard : Claim7 := { stood := { row := langWordsRow, standIns := [], harness := (true, "85570061da318c1e415e9a9babdbc8be0522fa41d413e3b757da32caf365ecaa"), looks := false }, kinds := [], alts := [], laidByText := true, laidKinds := [.data, .data, .data], laidTests := true, laidLooks := .later }
def LangWordsCardSaid : Prop := Claim7.holds Tryd.pinned (.plain (OpenSpec.ofChange langWordsSpec)) langWordsCard

/-- THE TIED CARD OF 'configlanglaw06.LangLeasts'. -/
def langLeastsCard : Claim7 := { stood := { row := langLeastsRow, standIns := [], harness := (true, "85570061da318c1e415e9a9babdbc8be0522fa41d413e3b757da32caf365ecaa"), looks := false }, kinds := [], alts := [], laidByText := true, laidKinds := [.data, .data, .data], laidTests := true, laidLooks := .later }
def LangLeastsCardSaid : Prop := Claim7.holds Tryd.pinned (.plain (OpenSpec.ofChange langLeastsSpec)) langLeastsCard

/-- THE TIED CARD OF 'configlanglaw06.LangAlgebra'. -/
def langAlgebraCard : Claim7 := { stood := { row := langAlgebraRow, standIns := [], harness := (true, "85570061da318c1e415e9a9babdbc8be0522fa41d413e3b757da32caf365ecaa"), looks := false }, kinds := [], alts := [], laidByText := true, laidKinds := [.data, .data, .data], laidTests := true, laidLooks := .later }
def LangAlgebraCardSaid : Prop := Claim7.holds Tryd.pinned (.plain (OpenSpec.ofChange langAlgebraSpec)) langAlgebraCard

/-- THE TIED CARD OF 'configlanglaw06.LangMembers'. -/
def langMembersCard : Claim7 := { stood := { row := langMembersRow, standIns := [], harness := (true, "85570061da318c1e415e9a9babdbc8be0522fa41d413e3b757da32caf365ecaa"), looks := false }, kinds := [], alts := [], laidByText := true, laidKinds := [.data, .data, .data], laidTests := true, laidLooks := .later }
def LangMembersCardSaid : Prop := Claim7.holds Tryd.pinned (.plain (OpenSpec.ofChange langMembersSpec)) langMembersCard

/-- THE TIED CARD OF 'configlanglaw06.LangOrders'. -/
def langOrdersCard : Claim7 := { stood := { row := langOrdersRow, standIns := [], harness := (true, "85570061da318c1e415e9a9babdbc8be0522fa41d413e3b757da32caf365ecaa"), looks := false }, kinds := [], alts := [], laidByText := true, laidKinds := [.data, .data, .data], laidTests := true, laidLooks := .later }
def LangOrdersCardSaid : Prop := Claim7.holds Tryd.pinned (.plain (OpenSpec.ofChange langOrdersSpec)) langOrdersCard

/-- THE TIED CARD OF 'configlanglaw06.LangBounded'. -/
def langBoundedCard : Claim7 := { stood := { row := langBoundedRow, standIns := [], harness := (true, "85570061da318c1e415e9a9babdbc8be0522fa41d413e3b757da32caf365ecaa"), looks := false }, kinds := [], alts := [], laidByText := true, laidKinds := [.data, .data, .data], laidTests := true, laidLooks := .later }
def LangBoundedCardSaid : Prop := Claim7.holds Tryd.pinned (.plain (OpenSpec.ofChange langBoundedSpec)) langBoundedCard

/-- THE SECOND FORM's CARD OF 'configlanglaw06.LangJoins'. -/
def langJoinsUptoCard : Claim7 := { stood := { row := langJoinsUptoRow, standIns := [], harness := (true, "85570061da318c1e415e9a9babdbc8be0522fa41d413e3b757da32caf365ecaa"), looks := false }, kinds := [], alts := [], laidByText := true, laidKinds := [.data, .data, .data], laidTests := true, laidLooks := .later }
def LangJoinsUptoCardSaid : Prop := Claim7.holds Tryd.pinned (.plain (OpenSpec.upto langJoinsSpec)) langJoinsUptoCard

/-- THE SECOND FORM's CARD OF 'configlanglaw06.LangWords'. -/
def langWordsUptoCard : Claim7 := { stood := { row := langWordsUptoRow, standIns := [], harness := (true, "85570061da318c1e415e9a9babdbc8be0522fa41d413e3b757da32caf365ecaa"), looks := false }, kinds := [], alts := [], laidByText := true, laidKinds := [.data, .data, .data], laidTests := true, laidLooks := .later }
def LangWordsUptoCardSaid : Prop := Claim7.holds Tryd.pinned (.plain (OpenSpec.upto langWordsSpec)) langWordsUptoCard

/-- THE SECOND FORM's CARD OF 'configlanglaw06.LangLeasts'. -/
def langLeastsUptoCard : Claim7 := { stood := { row := langLeastsUptoRow, standIns := [], harness := (true, "85570061da318c1e415e9a9babdbc8be0522fa41d413e3b757da32caf365ecaa"), looks := false }, kinds := [], alts := [], laidByText := true, laidKinds := [.data, .data, .data], laidTests := true, laidLooks := .later }
def LangLeastsUptoCardSaid : Prop := Claim7.holds Tryd.pinned (.plain (OpenSpec.upto langLeastsSpec)) langLeastsUptoCard

/-- THE SECOND FORM's CARD OF 'configlanglaw06.LangAlgebra'. -/
def langAlgebraUptoCard : Claim7 := { stood := { row := langAlgebraUptoRow, standIns := [], harness := (true, "85570061da318c1e415e9a9babdbc8be0522fa41d413e3b757da32caf365ecaa"), looks := false }, kinds := [], alts := [], laidByText := true, laidKinds := [.data, .data, .data], laidTests := true, laidLooks := .later }
def LangAlgebraUptoCardSaid : Prop := Claim7.holds Tryd.pinned (.plain (OpenSpec.upto langAlgebraSpec)) langAlgebraUptoCard

/-- THE SECOND FORM's CARD OF 'configlanglaw06.LangMembers'. -/
def langMembersUptoCard : Claim7 := { stood := { row := langMembersUptoRow, standIns := [], harness := (true, "85570061da318c1e415e9a9babdbc8be0522fa41d413e3b757da32caf365ecaa"), looks := false }, kinds := [], alts := [], laidByText := true, laidKinds := [.data, .data, .data], laidTests := true, laidLooks := .later }
def LangMembersUptoCardSaid : Prop := Claim7.holds Tryd.pinned (.plain (OpenSpec.upto langMembersSpec)) langMembersUptoCard

/-- THE SECOND FORM's CARD OF 'configlanglaw06.LangOrders'. -/
def langOrdersUptoCard : Claim7 := { stood := { row := langOrdersUptoRow, standIns := [], harness := (true, "85570061da318c1e415e9a9babdbc8be0522fa41d413e3b757da32caf365ecaa"), looks := false }, kinds := [], alts := [], laidByText := true, laidKinds := [.data, .data, .data], laidTests := true, laidLooks := .later }
def LangOrdersUptoCardSaid : Prop := Claim7.holds Tryd.pinned (.plain (OpenSpec.upto langOrdersSpec)) langOrdersUptoCard

/-- THE SECOND FORM's CARD OF 'configlanglaw06.LangBounded'. -/
def langBoundedUptoCard : Claim7 := { stood := { row := langBoundedUptoRow, standIns := [], harness := (true, "85570061da318c1e415e9a9babdbc8be0522fa41d413e3b757da32caf365ecaa"), looks := false }, kinds := [], alts := [], laidByText := true, laidKinds := [.data, .data, .data], laidTests := true, laidLooks := .later }
def LangBoundedUptoCardSaid : Prop := Claim7.holds Tryd.pinned (.plain (OpenSpec.upto langBoundedSpec)) langBoundedUptoCard
end Rows
end Go.Proofs.YtaolacbikbllcaaDoor

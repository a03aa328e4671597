/-
  DERIVED. GIVEN WITH THE SEED: THE CARDS: each row of YtnhgfmbmfjmonaaGreatDoorRows.lean that lists a variable, with what it lists TIED to the program's text (the seventh form; the later family's looks); each row that meets fmt, with fmt's text TOLD by the authors' own Lean function (tested against real Go, not proved from fmt's source: count such statements apart). THE CARD IS WHAT COUNTS. Prove the row's statement (the work); the ties are given (YtnhgfmbmfjmonaaGreatDoorTie.lean); close each card by the builder's one call (the guide's Derived/Test/ToyasCard.lean, 'card_holds'). Laid BY PROGRAM, IN A SANDBOX (cutbox-door.mjs). By AI agents, Wed Nov 11 2026. No macro, syntax, notation, axiom, sorry.
-/
import Derived.Test.YtnhgfmbmfjmonaaGreatDoorRows
import GoSem.ClaimSeven
namespace Go.Proofs.YtnhgfmbmfjmonaaGreatDoor
namespace Rows

/-- THE TIED CARD OF 'floodgatelaw06.CellsPlays'. -/
def cellsPlaysCard : Claim7 := { stood := { row := cellsPlaysRow, standIns := [], harness := (true, "73711585cddefe1ee72eca2ed90a1f6b4f5b27c1aef754d9af12a1de1c579a62"), looks := false }, kinds := [], alts := [], laidByText := true, laidKinds := [.data, .data, .data], laidTests := true, laidLooks := .later }
def CellsPlaysCardSaid : Prop := Claim7.holds Tryz.pinned (.plain (OpenSpec.ofChange cellsPlaysSpec)) cellsPlaysCard

/-- THE TIED CARD OF 'floodgatelaw06.CellsDraws'. -/
def cellsDrawsCard : Claim7 := { stood := { row := cellsDrawsRow, standIns := [], harness := (true, "73711585cddefe1ee72eca2ed90a1f6b4f5b27c1aef754d9af12a1de1c579a62"), looks := false }, kinds := [], alts := [], laidByText := true, laidKinds := [.data, .data, .data], laidTests := true, laidLooks := .later }
def CellsDrawsCardSaid : Prop := Claim7.holds Tryz.pinned (.plain (OpenSpec.ofChange cellsDrawsSpec)) cellsDrawsCard

/-- THE TIED CARD OF 'floodgatelaw06.CellsStrict'. -/
def cellsStrictCard : Claim7 := { stood := { row := cellsStrictRow, standIns := [], harness := (true, "73711585cddefe1ee72eca2ed90a1f6b4f5b27c1aef754d9af12a1de1c579a62"), looks := false }, kinds := [], alts := [], laidByText := true, laidKinds := [.data, .data, .data], laidTests := true, laidLooks := .later }
def CellsStrictCardSaid : Prop := Claim7.holds Tryz.pinned (.plain (OpenSpec.ofChange cellsStrictSpec)) cellsStrictCard

/-- THE TIED CARD OF 'floodgatelaw06.CellsReckons'. -/
def cellsReckonsCard : Claim7 := { stood := { row := cellsReckonsRow, standIns := [], harness := (true, "73711585cddefe1ee72eca2ed90a1f6b4f5b27c1aef754d9af12a1de1c579a62"), looks := false }, kinds := [], alts := [], laidByText := true, laidKinds := [.data, .data, .data], laidTests := true, laidLooks := .later }
def CellsReckonsCardSaid : Prop := Claim7.holds Tryz.pinned (.plain (OpenSpec.ofChange cellsReckonsSpec)) cellsReckonsCard

/-- THE TIED CARD OF 'floodgatelaw06.CellsDrawn'. -/
def cellsDrawnCard : Claim7 := { stood := { row := cellsDrawnRow, standIns := [], harness := (true, "73711585cddefe1ee72eca2ed90a1f6b4f5b27c1aef754d9af12a1de1c579a62"), looks := false }, kinds := [], alts := [], laidByText := true, laidKinds := [.data, .data, .data], laidTests := true, laidLooks := .later }
def CellsDrawnCardSaid : Prop := Claim7.holds Tryz.pinned (.plain (OpenSpec.ofChange cellsDrawnSpec)) cellsDrawnCard

/-- THE TIED CARD OF 'floodgatelaw06.CellsDoes'. -/
def cellsDoesCard : Claim7 := { stood := { row := cellsDoesRow, standIns := [], harness := (true, "73711585cddefe1ee72eca2ed90a1f6b4f5b27c1aef754d9af12a1de1c579a62"), looks := false }, kinds := [], alts := [], laidByText := true, laidKinds := [.data, .data, .data], laidTests := true, laidLooks := .later }
def CellsDoesCardSaid : Prop := Claim7.holds Tryz.pinned (.plain (OpenSpec.ofChange cellsDoesSpec)) cellsDoesCard

/-- THE TIED CARD OF 'floodgatelaw06.CellsOrder'. -/
def cellsOrderCard : Claim7 := { stood := { row := cellsOrderRow, standIns := [], harness := (true, "73711585cddefe1ee72eca2ed90a1f6b4f5b27c1aef754d9af12a1de1c579a62"), looks := false }, kinds := [], alts := [], laidByText := true, laidKinds := [.data, .data, .data], laidTests := true, laidLooks := .later }
def CellsOrderCardSaid : Prop := Claim7.holds Tryz.pinned (.plain (OpenSpec.ofChange cellsOrderSpec)) cellsOrderCard

/-- THE TIED CARD OF 'floodgatelaw06.CellsStreams'. -/
def cellsStreamsCard : Claim7 := { stood := { row := cellsStreamsRow, standIns := [], harness := (true, "73711585cddefe1ee72eca2ed90a1f6b4f5b27c1aef754d9af12a1de1c579a62"), looks := false }, kinds := [], alts := [], laidByText := true, laidKinds := [.data, .data, .data], laidTests := true, laidLooks := .later }
def CellsStreamsCardSaid : Prop := Claim7.holds Tryz.pinned (.plain (OpenSpec.ofChange cellsStreamsSpec)) cellsStreamsCard

/-- THE TIED CARD OF 'floodgatelaw06.CellsChecks'. -/
def cellsChecksCard : Claim7 := { stood := { row := cellsChecksRow, standIns := [], harness := (true, "73711585cddefe1ee72eca2ed90a1f6b4f5b27c1aef754d9af12a1de1c579a62"), looks := false }, kinds := [], alts := [], laidByText := true, laidKinds := [.data, .data, .data], laidTests := true, laidLooks := .later }
def CellsChecksCardSaid : Prop := Claim7.holds Tryz.pinned (.plain (OpenSpec.ofChange cellsChecksSpec)) cellsChecksCard

/-- THE TIED CARD OF 'floodgatelaw06.CellsBelow'. -/
def cellsBelowCard : Claim7 := { stood := { row := cellsBelowRow, standIns := [], harness := (true, "73711585cddefe1ee72eca2ed90a1f6b4f5b27c1aef754d9af12a1de1c579a62"), looks := false }, kinds := [], alts := [], laidByText := true, laidKinds := [.data, .data, .data], laidTests := true, laidLooks := .later }
def CellsBelowCardSaid : Prop := Claim7.holds Tryz.pinned (.plain (OpenSpec.ofChange cellsBelowSpec)) cellsBelowCard

/-- THE TIED CARD OF 'floodgatelaw06.CellsLess'. -/
def cellsLessCard : Claim7 := { stood := { row := cellsLessRow, standIns := [], harness := (true, "73711585cddefe1ee72eca2ed90a1f6b4f5b27c1aef754d9af12a1de1c579a62"), looks := false }, kinds := [], alts := [], laidByText := true, laidKinds := [.data, .data, .data], laidTests := true, laidLooks := .later }
def CellsLessCardSaid : Prop := Claim7.holds Tryz.pinned (.plain (OpenSpec.ofChange cellsLessSpec)) cellsLessCard

/-- THE TIED CARD OF 'floodgatelaw06.CellsMore'. -/
def cellsMoreCard : Claim7 := { stood := { row := cellsMoreRow, standIns := [], harness := (true, "73711585cddefe1ee72eca2ed90a1f6b4f5b27c1aef754d9af12a1de1c579a62"), looks := false }, kinds := [], alts := [], laidByText := true, laidKinds := [.data, .data, .data], laidTests := true, laidLooks := .later }
def CellsMoreCardSaid : Prop := Claim7.holds Tryz.pinned (.plain (OpenSpec.ofChange cellsMoreSpec)) cellsMoreCard

/-- THE TIED CARD OF 'floodgatelaw06.CellsBuilds'. -/
def cellsBuildsCard : Claim7 := { stood := { row := cellsBuildsRow, standIns := [], harness := (true, "73711585cddefe1ee72eca2ed90a1f6b4f5b27c1aef754d9af12a1de1c579a62"), looks := false }, kinds := [], alts := [], laidByText := true, laidKinds := [.data, .data, .data], laidTests := true, laidLooks := .later }
def CellsBuildsCardSaid : Prop := Claim7.holds Tryz.pinned (.plain (OpenSpec.ofChange cellsBuildsSpec)) cellsBuildsCard

/-- THE TIED CARD OF 'floodgatelaw06.CellsBuilt'. -/
def cellsBuiltCard : Claim7 := { stood := { row := cellsBuiltRow, standIns := [], harness := (true, "73711585cddefe1ee72eca2ed90a1f6b4f5b27c1aef754d9af12a1de1c579a62"), looks := false }, kinds := [], alts := [], laidByText := true, laidKinds := [.data, .data, .data], laidTests := true, laidLooks := .later }
def CellsBuiltCardSaid : Prop := Claim7.holds Tryz.pinned (.plain (OpenSpec.ofChange cellsBuiltSpec)) cellsBuiltCard

/-- THE TIED CARD OF 'floodgatelaw06.CellsNames'. -/
def cellsNamesCard : Claim7 := { stood := { row := cellsNamesRow, standIns := [], harness := (true, "73711585cddefe1ee72eca2ed90a1f6b4f5b27c1aef754d9af12a1de1c579a62"), looks := false }, kinds := [], alts := [], laidByText := true, laidKinds := [.data, .data, .data], laidTests := true, laidLooks := .later }
def CellsNamesCardSaid : Prop := Claim7.holds Tryz.pinned (.plain (OpenSpec.ofChange cellsNamesSpec)) cellsNamesCard

/-- THE SECOND FORM's CARD OF 'floodgatelaw06.CellsPlays'. -/
def cellsPlaysUptoCard : Claim7 := { stood := { row := cellsPlaysUptoRow, standIns := [], harness := (true, "73711585cddefe1ee72eca2ed90a1f6b4f5b27c1aef754d9af12a1de1c579a62"), looks := false }, kinds := [], alts := [], laidByText := true, laidKinds := [.data, .data, .data], laidTests := true, laidLooks := .later }
def CellsPlaysUptoCardSaid : Prop := Claim7.holds Tryz.pinned (.plain (OpenSpec.upto cellsPlaysSpec)) cellsPlaysUptoCard

/-- THE SECOND FORM's CARD OF 'floodgatelaw06.CellsDraws'. -/
def cellsDrawsUptoCard : Claim7 := { stood := { row := cellsDrawsUptoRow, standIns := [], harness := (true, "73711585cddefe1ee72eca2ed90a1f6b4f5b27c1aef754d9af12a1de1c579a62"), looks := false }, kinds := [], alts := [], laidByText := true, laidKinds := [.data, .data, .data], laidTests := true, laidLooks := .later }
def CellsDrawsUptoCardSaid : Prop := Claim7.holds Tryz.pinned (.plain (OpenSpec.upto cellsDrawsSpec)) cellsDrawsUptoCard

/-- THE SECOND FORM's CARD OF 'floodgatelaw06.CellsStrict'. -/
def cellsStrictUptoCard : Claim7 := { stood := { row := cellsStrictUptoRow, standIns := [], harness := (true, "73711585cddefe1ee72eca2ed90a1f6b4f5b27c1aef754d9af12a1de1c579a62"), looks := false }, kinds := [], alts := [], laidByText := true, laidKinds := [.data, .data, .data], laidTests := true, laidLooks := .later }
def CellsStrictUptoCardSaid : Prop := Claim7.holds Tryz.pinned (.plain (OpenSpec.upto cellsStrictSpec)) cellsStrictUptoCard

/-- THE SECOND FORM's CARD OF 'floodgatelaw06.CellsReckons'. -/
def cellsReckonsUptoCard : Claim7 := { stood := { row := cellsReckonsUptoRow, standIns := [], harness := (true, "73711585cddefe1ee72eca2ed90a1f6b4f5b27c1aef754d9af12a1de1c579a62"), looks := false }, kinds := [], alts := [], laidByText := true, laidKinds := [.data, .data, .data], laidTests := true, laidLooks := .later }
def CellsReckonsUptoCardSaid : Prop := Claim7.holds Tryz.pinned (.plain (OpenSpec.upto cellsReckonsSpec)) cellsReckonsUptoCard

/-- THE SECOND FORM's CARD OF 'floodgatelaw06.CellsDrawn'. -/
def cellsDrawnUptoCard : Claim7 := { stood := { row := cellsDrawnUptoRow, standIns := [], harness := (true, "73711585cddefe1ee72eca2ed90a1f6b4f5b27c1aef754d9af12a1de1c579a62"), looks := false }, kinds := [], alts := [], laidByText := true, laidKinds := [.data, .data, .data], laidTests := true, laidLooks := .later }
def CellsDrawnUptoCardSaid : Prop := Claim7.holds Tryz.pinned (.plain (OpenSpec.upto cellsDrawnSpec)) cellsDrawnUptoCard

/-- THE SECOND FORM's CARD OF 'floodgatelaw06.CellsDoes'. -/
def cellsDoesUptoCard : Claim7 := { stood := { row := cellsDoesUptoRow, standIns := [], harness := (true, "73711585cddefe1ee72eca2ed90a1f6b4f5b27c1aef754d9af12a1de1c579a62"), looks := false }, kinds := [], alts := [], laidByText := true, laidKinds := [.data, .data, .data], laidTests := true, laidLooks := .later }
def CellsDoesUptoCardSaid : Prop := Claim7.holds Tryz.pinned (.plain (OpenSpec.upto cellsDoesSpec)) cellsDoesUptoCard

/-- THE SECOND FORM's CARD OF 'floodgatelaw06.CellsOrder'. -/
def cellsOrderUptoCard : Claim7 := { stood := { row := cellsOrderUptoRow, standIns := [], harness := (true, "73711585cddefe1ee72eca2ed90a1f6b4f5b27c1aef754d9af12a1de1c579a62"), looks := false }, kinds := [], alts := [], laidByText := true, laidKinds := [.data, .data, .data], laidTests := true, laidLooks := .later }
def CellsOrderUptoCardSaid : Prop := Claim7.holds Tryz.pinned (.plain (OpenSpec.upto cellsOrderSpec)) cellsOrderUptoCard

/-- THE SECOND FORM's CARD OF 'floodgatelaw06.CellsStreams'. -/
def cellsStreamsUptoCard : Claim7 := { stood := { row := cellsStreamsUptoRow, standIns := [], harness := (true, "73711585cddefe1ee72eca2ed90a1f6b4f5b27c1aef754d9af12a1de1c579a62"), looks := false }, kinds := [], alts := [], laidByText := true, laidKinds := [.data, .data, .data], laidTests := true, laidLooks := .later }
def CellsStreamsUptoCardSaid : Prop := Claim7.holds Tryz.pinned (.plain (OpenSpec.upto cellsStreamsSpec)) cellsStreamsUptoCard

/-- THE SECOND FORM's CARD OF 'floodgatelaw06.CellsChecks'. -/
def cellsChecksUptoCard : Claim7 := { stood := { row := cellsChecksUptoRow, standIns := [], harness := (true, "73711585cddefe1ee72eca2ed90a1f6b4f5b27c1aef754d9af12a1de1c579a62"), looks := false }, kinds := [], alts := [], laidByText := true, laidKinds := [.data, .data, .data], laidTests := true, laidLooks := .later }
def CellsChecksUptoCardSaid : Prop := Claim7.holds Tryz.pinned (.plain (OpenSpec.upto cellsChecksSpec)) cellsChecksUptoCard

/-- THE SECOND FORM's CARD OF 'floodgatelaw06.CellsBelow'. -/
def cellsBelowUptoCard : Claim7 := { stood := { row := cellsBelowUptoRow, standIns := [], harness := (true, "73711585cddefe1ee72eca2ed90a1f6b4f5b27c1aef754d9af12a1de1c579a62"), looks := false }, kinds := [], alts := [], laidByText := true, laidKinds := [.data, .data, .data], laidTests := true, laidLooks := .later }
def CellsBelowUptoCardSaid : Prop := Claim7.holds Tryz.pinned (.plain (OpenSpec.upto cellsBelowSpec)) cellsBelowUptoCard

/-- THE SECOND FORM's CARD OF 'floodgatelaw06.CellsLess'. -/
def cellsLessUptoCard : Claim7 := { stood := { row := cellsLessUptoRow, standIns := [], harness := (true, "73711585cddefe1ee72eca2ed90a1f6b4f5b27c1aef754d9af12a1de1c579a62"), looks := false }, kinds := [], alts := [], laidByText := true, laidKinds := [.data, .data, .data], laidTests := true, laidLooks := .later }
def CellsLessUptoCardSaid : Prop := Claim7.holds Tryz.pinned (.plain (OpenSpec.upto cellsLessSpec)) cellsLessUptoCard

/-- THE SECOND FORM's CARD OF 'floodgatelaw06.CellsMore'. -/
def cellsMoreUptoCard : Claim7 := { stood := { row := cellsMoreUptoRow, standIns := [], harness := (true, "73711585cddefe1ee72eca2ed90a1f6b4f5b27c1aef754d9af12a1de1c579a62"), looks := false }, kinds := [], alts := [], laidByText := true, laidKinds := [.data, .data, .data], laidTests := true, laidLooks := .later }
def CellsMoreUptoCardSaid : Prop := Claim7.holds Tryz.pinned (.plain (OpenSpec.upto cellsMoreSpec)) cellsMoreUptoCard

/-- THE SECOND FORM's CARD OF 'floodgatelaw06.CellsBuilds'. -/
def cellsBuildsUptoCard : Claim7 := { stood := { row := cellsBuildsUptoRow, standIns := [], harness := (true, "73711585cddefe1ee72eca2ed90a1f6b4f5b27c1aef754d9af12a1de1c579a62"), looks := false }, kinds := [], alts := [], laidByText := true, laidKinds := [.data, .data, .data], laidTests := true, laidLooks := .later }
def CellsBuildsUptoCardSaid : Prop := Claim7.holds Tryz.pinned (.plain (OpenSpec.upto cellsBuildsSpec)) cellsBuildsUptoCard

/-- THE SECOND FORM's CARD OF 'floodgatelaw06.CellsBuilt'. -/
def cellsBuiltUptoCard : Claim7 := { stood := { row := cellsBuiltUptoRow, standIns := [], harness := (true, "73711585cddefe1ee72eca2ed90a1f6b4f5b27c1aef754d9af12a1de1c579a62"), looks := false }, kinds := [], alts := [], laidByText := true, laidKinds := [.data, .data, .data], laidTests := true, laidLooks := .later }
def CellsBuiltUptoCardSaid : Prop := Claim7.holds Tryz.pinned (.plain (OpenSpec.upto cellsBuiltSpec)) cellsBuiltUptoCard

/-- THE SECOND FORM's CARD OF 'floodgatelaw06.CellsNames'. -/
def cellsNamesUptoCard : Claim7 := { stood := { row := cellsNamesUptoRow, standIns := [], harness := (true, "73711585cddefe1ee72eca2ed90a1f6b4f5b27c1aef754d9af12a1de1c579a62"), looks := false }, kinds := [], alts := [], laidByText := true, laidKinds := [.data, .data, .data], laidTests := true, laidLooks := .later }
def CellsNamesUptoCardSaid : Prop := Claim7.holds Tryz.pinned (.plain (OpenSpec.upto cellsNamesSpec)) cellsNamesUptoCard
end Rows
end Go.Proofs.YtnhgfmbmfjmonaaGreatDoor

/-
  DERIVED. GIVEN WITH THE SEED: THE CARDS: each row of YtlfclnkoimfhmaaDoorRows.lean that lists a variable, with what it lists TIED to the program's text (the seventh form; the later family's looks); each row that meets fmt, with fmt's text TOLD by the authors' own Lean function (tested against real Go, not proved from fmt's source: count such statements apart). THE CARD IS WHAT COUNTS. Prove the row's statement (the work); the ties are given (YtlfclnkoimfhmaaDoorTie.lean); close each card by the builder's one call (the guide's Derived/Test/ToyasCard.lean, 'card_holds'). Laid BY PROGRAM, IN A SANDBOX (cutbox-door.mjs). By AI agents, Wed Nov 11 2026. No macro, syntax, notation, axiom, sorry.
-/
import Derived.Test.YtlfclnkoimfhmaaDoorRows
import GoSem.ClaimSeven
namespace Go.Proofs.YtlfclnkoimfhmaaDoor
namespace Rows

/-- THE TIED CARD OF 'floodgatelaw16.CubeNews'. -/
def cubeNewsCard : Claim7 := { stood := { row := cubeNewsRow, standIns := [], harness := (true, "bb5cb244968d0c9601cfb1c7df9b622efcae7f1efe3b1dc592f2c85b6a19d4f7"), looks := false }, kinds := [], alts := [], laidByText := true, laidKinds := [.data, .data], laidTests := true, laidLooks := .later }
def CubeNewsCardSaid : Prop := Claim7.holds Tryd.pinned (.plain (OpenSpec.ofChange cubeNewsSpec)) cubeNewsCard

/-- THE TIED CARD OF 'floodgatelaw16.CubeChecks'. -/
def cubeChecksCard : Claim7 := { stood := { row := cubeChecksRow, standIns := [], harness := (true, "bb5cb244968d0c9601cfb1c7df9b622efcae7f1efe3b1dc592f2c85b6a19d4f7"), looks := false }, kinds := [], alts := [], laidByText := true, laidKinds := [.data, .data], laidTests := true, laidLooks := .later }
def CubeChecksCardSaid : Prop := Claim7.holds Tryd.pinned (.plain (OpenSpec.ofChange cubeChecksSpec)) cubeChecksCard

/-- THE TIED CARD OF 'floodgatelaw16.CubePuts'. -/
def cubePutsCard : Claim7 := { stood := { row := cubePutsRow, standIns := [], harness := (true, "bb5cb244968d0c9601cfb1c7df9b622efcae7f1efe3b1dc592f2c85b6a19d4f7"), looks := false }, kinds := [], alts := [], laidByText := true, laidKinds := [.data, .data], laidTests := true, laidLooks := .later }
def CubePutsCardSaid : Prop := Claim7.holds Tryd.pinned (.plain (OpenSpec.ofChange cubePutsSpec)) cubePutsCard

/-- THE TIED CARD OF 'floodgatelaw16.CubeMoves'. -/
def cubeMovesCard : Claim7 := { stood := { row := cubeMovesRow, standIns := [], harness := (true, "bb5cb244968d0c9601cfb1c7df9b622efcae7f1efe3b1dc592f2c85b6a19d4f7"), looks := false }, kinds := [], alts := [], laidByText := true, laidKinds := [.data, .data], laidTests := true, laidLooks := .later }
def CubeMovesCardSaid : Prop := Claim7.holds Tryd.pinned (.plain (OpenSpec.ofChange cubeMovesSpec)) cubeMovesCard

/-- THE TIED CARD OF 'floodgatelaw16.CubeRuns'. -/
def cubeRunsCard : Claim7 := { stood := { row := cubeRunsRow, standIns := [], harness := (true, "bb5cb244968d0c9601cfb1c7df9b622efcae7f1efe3b1dc592f2c85b6a19d4f7"), looks := false }, kinds := [], alts := [], laidByText := true, laidKinds := [.data, .data], laidTests := true, laidLooks := .later }
def CubeRunsCardSaid : Prop := Claim7.holds Tryd.pinned (.plain (OpenSpec.ofChange cubeRunsSpec)) cubeRunsCard

/-- THE TIED CARD OF 'floodgatelaw16.CubeWays'. -/
def cubeWaysCard : Claim7 := { stood := { row := cubeWaysRow, standIns := [], harness := (true, "bb5cb244968d0c9601cfb1c7df9b622efcae7f1efe3b1dc592f2c85b6a19d4f7"), looks := false }, kinds := [], alts := [], laidByText := true, laidKinds := [.data, .data], laidTests := true, laidLooks := .later }
def CubeWaysCardSaid : Prop := Claim7.holds Tryd.pinned (.plain (OpenSpec.ofChange cubeWaysSpec)) cubeWaysCard

/-- THE TIED CARD OF 'floodgatelaw16.CubeNever'. -/
def cubeNeverCard : Claim7 := { stood := { row := cubeNeverRow, standIns := [], harness := (true, "bb5cb244968d0c9601cfb1c7df9b622efcae7f1efe3b1dc592f2c85b6a19d4f7"), looks := false }, kinds := [], alts := [], laidByText := true, laidKinds := [.data, .data], laidTests := true, laidLooks := .later }
def CubeNeverCardSaid : Prop := Claim7.holds Tryd.pinned (.plain (OpenSpec.ofChange cubeNeverSpec)) cubeNeverCard

/-- THE TIED CARD OF 'floodgatelaw16.CubeOnce'. -/
def cubeOnceCard : Claim7 := { stood := { row := cubeOnceRow, standIns := [], harness := (true, "bb5cb244968d0c9601cfb1c7df9b622efcae7f1efe3b1dc592f2c85b6a19d4f7"), looks := false }, kinds := [], alts := [], laidByText := true, laidKinds := [.data, .data], laidTests := true, laidLooks := .later }
def CubeOnceCardSaid : Prop := Claim7.holds Tryd.pinned (.plain (OpenSpec.ofChange cubeOnceSpec)) cubeOnceCard

/-- THE TIED CARD OF 'floodgatelaw16.CubeLonger'. -/
def cubeLongerCard : Claim7 := { stood := { row := cubeLongerRow, standIns := [], harness := (true, "bb5cb244968d0c9601cfb1c7df9b622efcae7f1efe3b1dc592f2c85b6a19d4f7"), looks := false }, kinds := [], alts := [], laidByText := true, laidKinds := [.data, .data], laidTests := true, laidLooks := .later }
def CubeLongerCardSaid : Prop := Claim7.holds Tryd.pinned (.plain (OpenSpec.ofChange cubeLongerSpec)) cubeLongerCard

/-- THE TIED CARD OF 'floodgatelaw16.CubeApart'. -/
def cubeApartCard : Claim7 := { stood := { row := cubeApartRow, standIns := [], harness := (true, "bb5cb244968d0c9601cfb1c7df9b622efcae7f1efe3b1dc592f2c85b6a19d4f7"), looks := false }, kinds := [], alts := [], laidByText := true, laidKinds := [.data, .data], laidTests := true, laidLooks := .later }
def CubeApartCardSaid : Prop := Claim7.holds Tryd.pinned (.plain (OpenSpec.ofChange cubeApartSpec)) cubeApartCard

/-- THE TIED CARD OF 'floodgatelaw16.CubeRounds'. -/
def cubeRoundsCard : Claim7 := { stood := { row := cubeRoundsRow, standIns := [], harness := (true, "bb5cb244968d0c9601cfb1c7df9b622efcae7f1efe3b1dc592f2c85b6a19d4f7"), looks := false }, kinds := [], alts := [], laidByText := true, laidKinds := [.data, .data], laidTests := true, laidLooks := .later }
def CubeRoundsCardSaid : Prop := Claim7.holds Tryd.pinned (.plain (OpenSpec.ofChange cubeRoundsSpec)) cubeRoundsCard

/-- THE TIED CARD OF 'floodgatelaw16.CubeLess'. -/
def cubeLessCard : Claim7 := { stood := { row := cubeLessRow, standIns := [], harness := (true, "bb5cb244968d0c9601cfb1c7df9b622efcae7f1efe3b1dc592f2c85b6a19d4f7"), looks := false }, kinds := [], alts := [], laidByText := true, laidKinds := [.data, .data], laidTests := true, laidLooks := .later }
def CubeLessCardSaid : Prop := Claim7.holds Tryd.pinned (.plain (OpenSpec.ofChange cubeLessSpec)) cubeLessCard

/-- THE SECOND FORM's CARD OF 'floodgatelaw16.CubeNews'. -/
def cubeNewsUptoCard : Claim7 := { stood := { row := cubeNewsUptoRow, standIns := [], harness := (true, "bb5cb244968d0c9601cfb1c7df9b622efcae7f1efe3b1dc592f2c85b6a19d4f7"), looks := false }, kinds := [], alts := [], laidByText := true, laidKinds := [.data, .data], laidTests := true, laidLooks := .later }
def CubeNewsUptoCardSaid : Prop := Claim7.holds Tryd.pinned (.plain (OpenSpec.upto cubeNewsSpec)) cubeNewsUptoCard

/-- THE SECOND FORM's CARD OF 'floodgatelaw16.CubeChecks'. -/
def cubeChecksUptoCard : Claim7 := { stood := { row := cubeChecksUptoRow, standIns := [], harness := (true, "bb5cb244968d0c9601cfb1c7df9b622efcae7f1efe3b1dc592f2c85b6a19d4f7"), looks := false }, kinds := [], alts := [], laidByText := true, laidKinds := [.data, .data], laidTests := true, laidLooks := .later }
def CubeChecksUptoCardSaid : Prop := Claim7.holds Tryd.pinned (.plain (OpenSpec.upto cubeChecksSpec)) cubeChecksUptoCard

/-- THE SECOND FORM's CARD OF 'floodgatelaw16.CubePuts'. -/
def cubePutsUptoCard : Claim7 := { stood := { row := cubePutsUptoRow, standIns := [], harness := (true, "bb5cb244968d0c9601cfb1c7df9b622efcae7f1efe3b1dc592f2c85b6a19d4f7"), looks := false }, kinds := [], alts := [], laidByText := true, laidKinds := [.data, .data], laidTests := true, laidLooks := .later }
def CubePutsUptoCardSaid : Prop := Claim7.holds Tryd.pinned (.plain (OpenSpec.upto cubePutsSpec)) cubePutsUptoCard

/-- THE SECOND FORM's CARD OF 'floodgatelaw16.CubeMoves'. -/
def cubeMovesUptoCard : Claim7 := { stood := { row := cubeMovesUptoRow, standIns := [], harness := (true, "bb5cb244968d0c9601cfb1c7df9b622efcae7f1efe3b1dc592f2c85b6a19d4f7"), looks := false }, kinds := [], alts := [], laidByText := true, laidKinds := [.data, .data], laidTests := true, laidLooks := .later }
def CubeMovesUptoCardSaid : Prop := Claim7.holds Tryd.pinned (.plain (OpenSpec.upto cubeMovesSpec)) cubeMovesUptoCard

/-- THE SECOND FORM's CARD OF 'floodgatelaw16.CubeRuns'. -/
def cubeRunsUptoCard : Claim7 := { stood := { row := cubeRunsUptoRow, standIns := [], harness := (true, "bb5cb244968d0c9601cfb1c7df9b622efcae7f1efe3b1dc592f2c85b6a19d4f7"), looks := false }, kinds := [], alts := [], laidByText := true, laidKinds := [.data, .data], laidTests := true, laidLooks := .later }
def CubeRunsUptoCardSaid : Prop := Claim7.holds Tryd.pinned (.plain (OpenSpec.upto cubeRunsSpec)) cubeRunsUptoCard

/-- THE SECOND FORM's CARD OF 'floodgatelaw16.CubeWays'. -/
def cubeWaysUptoCard : Claim7 := { stood := { row := cubeWaysUptoRow, standIns := [], harness := (true, "bb5cb244968d0c9601cfb1c7df9b622efcae7f1efe3b1dc592f2c85b6a19d4f7"), looks := false }, kinds := [], alts := [], laidByText := true, laidKinds := [.data, .data], laidTests := true, laidLooks := .later }
def CubeWaysUptoCardSaid : Prop := Claim7.holds Tryd.pinned (.plain (OpenSpec.upto cubeWaysSpec)) cubeWaysUptoCard

/-- THE SECOND FORM's CARD OF 'floodgatelaw16.CubeNever'. -/
def cubeNeverUptoCard : Claim7 := { stood := { row := cubeNeverUptoRow, standIns := [], harness := (true, "bb5cb244968d0c9601cfb1c7df9b622efcae7f1efe3b1dc592f2c85b6a19d4f7"), looks := false }, kinds := [], alts := [], laidByText := true, laidKinds := [.data, .data], laidTests := true, laidLooks := .later }
def CubeNeverUptoCardSaid : Prop := Claim7.holds Tryd.pinned (.plain (OpenSpec.upto cubeNeverSpec)) cubeNeverUptoCard

/-- THE SECOND FORM's CARD OF 'floodgatelaw16.CubeOnce'. -/
def cubeOnceUptoCard : Claim7 := { stood := { row := cubeOnceUptoRow, standIns := [], harness := (true, "bb5cb244968d0c9601cfb1c7df9b622efcae7f1efe3b1dc592f2c85b6a19d4f7"), looks := false }, kinds := [], alts := [], laidByText := true, laidKinds := [.data, .data], laidTests := true, laidLooks := .later }
def CubeOnceUptoCardSaid : Prop := Claim7.holds Tryd.pinned (.plain (OpenSpec.upto cubeOnceSpec)) cubeOnceUptoCard

/-- THE SECOND FORM's CARD OF 'floodgatelaw16.CubeLonger'. -/
def cubeLongerUptoCard : Claim7 := { stood := { row := cubeLongerUptoRow, standIns := [], harness := (true, "bb5cb244968d0c9601cfb1c7df9b622efcae7f1efe3b1dc592f2c85b6a19d4f7"), looks := false }, kinds := [], alts := [], laidByText := true, laidKinds := [.data, .data], laidTests := true, laidLooks := .later }
def CubeLongerUptoCardSaid : Prop := Claim7.holds Tryd.pinned (.plain (OpenSpec.upto cubeLongerSpec)) cubeLongerUptoCard

/-- THE SECOND FORM's CARD OF 'floodgatelaw16.CubeApart'. -/
def cubeApartUptoCard : Claim7 := { stood := { row := cubeApartUptoRow, standIns := [], harness := (true, "bb5cb244968d0c9601cfb1c7df9b622efcae7f1efe3b1dc592f2c85b6a19d4f7"), looks := false }, kinds := [], alts := [], laidByText := true, laidKinds := [.data, .data], laidTests := true, laidLooks := .later }
def CubeApartUptoCardSaid : Prop := Claim7.holds Tryd.pinned (.plain (OpenSpec.upto cubeApartSpec)) cubeApartUptoCard

/-- THE SECOND FORM's CARD OF 'floodgatelaw16.CubeRounds'. -/
def cubeRoundsUptoCard : Claim7 := { stood := { row := cubeRoundsUptoRow, standIns := [], harness := (true, "bb5cb244968d0c9601cfb1c7df9b622efcae7f1efe3b1dc592f2c85b6a19d4f7"), looks := false }, kinds := [], alts := [], laidByText := true, laidKinds := [.data, .data], laidTests := true, laidLooks := .later }
def CubeRoundsUptoCardSaid : Prop := Claim7.holds Tryd.pinned (.plain (OpenSpec.upto cubeRoundsSpec)) cubeRoundsUptoCard

/-- THE SECOND FORM's CARD OF 'floodgatelaw16.CubeLess'. -/
def cubeLessUptoCard : Claim7 := { stood := { row := cubeLessUptoRow, standIns := [], harness := (true, "bb5cb244968d0c9601cfb1c7df9b622efcae7f1efe3b1dc592f2c85b6a19d4f7"), looks := false }, kinds := [], alts := [], laidByText := true, laidKinds := [.data, .data], laidTests := true, laidLooks := .later }
def CubeLessUptoCardSaid : Prop := Claim7.holds Tryd.pinned (.plain (OpenSpec.upto cubeLessSpec)) cubeLessUptoCard
end Rows
end Go.Proofs.YtlfclnkoimfhmaaDoor

/-
  DERIVED. GIVEN WITH THE SEED: THE CARDS: each row of YtgnnegfnpgnbbaaGreatDoorRows.lean that lists a variable, with what it lists TIED to the program's text (the seventh form; the later family's looks); each row that meets fmt, with fmt's text TOLD by the authors' own Lean function (tested against real Go, not proved from fmt's source: count such statements apart). THE CARD IS WHAT COUNTS. Prove the row's statement (the work); the ties are given (YtgnnegfnpgnbbaaGreatDoorTie.lean); close each card by the builder's one call (the guide's Derived/Test/ToyasCard.lean, 'card_holds'). Laid BY PROGRAM, IN A SANDBOX (cutbox-door.mjs). By AI agents, Wed Nov 11 2026. No macro, syntax, notation, axiom, sorry.
-/
import Derived.Test.YtgnnegfnpgnbbaaGreatDoorRows
import GoSem.ClaimSeven
namespace Go.Proofs.YtgnnegfnpgnbbaaGreatDoor
namespace Rows

/-- THE TIED CARD OF 'floodgatelaw15.ElementHomes'. -/
def elementHomesCard : Claim7 := { stood := { row := elementHomesRow, standIns := [], harness := (true, "2a35e1919b4f092190c829c5f0193c29a9042887b65f0ace86fde564b809aa59"), looks := false }, kinds := [], alts := [], laidByText := true, laidKinds := [.data, .pinned], laidTests := true, laidLooks := .later }
def ElementHomesCardSaid : Prop := Claim7.holds Tryz.pinned (.plain (OpenSpec.ofChange elementHomesSpec)) elementHomesCard

/-- THE SECOND FORM's CARD OF 'floodgatelaw15.ElementHomes'. -/
def elementHomesUptoCard : Claim7 := { stood := { row := elementHomesUptoRow, standIns := [], harness := (true, "2a35e1919b4f092190c829c5f0193c29a9042887b65f0ace86fde564b809aa59"), looks := false }, kinds := [], alts := [], laidByText := true, laidKinds := [.data, .pinned], laidTests := true, laidLooks := .later }
def ElementHomesUptoCardSaid : Prop := Claim7.holds Tryz.pinned (.plain (OpenSpec.upto elementHomesSpec)) elementHomesUptoCard
end Rows
end Go.Proofs.YtgnnegfnpgnbbaaGreatDoor

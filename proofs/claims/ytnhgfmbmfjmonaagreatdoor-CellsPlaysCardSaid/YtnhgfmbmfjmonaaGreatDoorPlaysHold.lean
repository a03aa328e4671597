/- What the row of the law CellsPlays asks of the program, reckoned. -/
import Derived.Test.YtnhgfmbmfjmonaaGreatDoorRows
import Derived.JoinedCond
set_option maxRecDepth 100000
set_option linter.unusedVariables false
set_option linter.unusedSimpArgs false
namespace Go.Proofs.YtnhgfmbmfjmonaaGreatDoor
open Go
theorem cellsPlays_named : Tryz.pinned.checked.prog.funcNamed Rows.cellsPlaysRow.func = some 3 := by kernel_rfl
theorem cellsPlays_facts : joinedFacts Tryz.pinned.checked.prog 3 Tryz.f3 (OpenSpec.ofChange Rows.cellsPlaysSpec).bare Rows.cellsPlaysRow = true := by kernel_rfl
theorem cellsPlays_inst : Tryz.f3.isInstance Tryz.pinned.checked.prog Rows.cellsPlaysRow.origin Rows.cellsPlaysRow.targs := of_decide_eq_true (by kernel_rfl)
theorem cellsPlays_wrap : Tryz.f3.isWrapper Tryz.pinned.checked.prog Rows.cellsPlaysRow.wrapper Rows.cellsPlaysRow.mainSum := by unfold Func.isWrapper; first | (rw [if_pos (by decide +kernel)]; kernel_rfl) | (rw [if_neg (by decide +kernel)]; exact ⟨rfl, rfl⟩)
end Go.Proofs.YtnhgfmbmfjmonaaGreatDoor

/- What the row of the law CellsNames asks of the program, reckoned. -/
import Derived.Test.YtnhgfmbmfjmonaaGreatDoorRows
import Derived.JoinedCond
set_option maxRecDepth 100000
set_option linter.unusedVariables false
set_option linter.unusedSimpArgs false
namespace Go.Proofs.YtnhgfmbmfjmonaaGreatDoor
open Go
theorem cellsNames_named : Tryz.pinned.checked.prog.funcNamed Rows.cellsNamesRow.func = some 17 := by kernel_rfl
theorem cellsNames_facts : joinedFacts Tryz.pinned.checked.prog 17 Tryz.f17 (OpenSpec.ofChange Rows.cellsNamesSpec).bare Rows.cellsNamesRow = true := by kernel_rfl
theorem cellsNames_inst : Tryz.f17.isInstance Tryz.pinned.checked.prog Rows.cellsNamesRow.origin Rows.cellsNamesRow.targs := of_decide_eq_true (by kernel_rfl)
theorem cellsNames_wrap : Tryz.f17.isWrapper Tryz.pinned.checked.prog Rows.cellsNamesRow.wrapper Rows.cellsNamesRow.mainSum := by unfold Func.isWrapper; first | (rw [if_pos (by decide +kernel)]; kernel_rfl) | (rw [if_neg (by decide +kernel)]; exact ⟨rfl, rfl⟩)
end Go.Proofs.YtnhgfmbmfjmonaaGreatDoor

/- What the row of the law CellsOrder asks of the program, reckoned. -/
import Derived.Test.YtnhgfmbmfjmonaaGreatDoorRows
import Derived.JoinedCond
set_option maxRecDepth 100000
set_option linter.unusedVariables false
set_option linter.unusedSimpArgs false
namespace Go.Proofs.YtnhgfmbmfjmonaaGreatDoor
open Go
theorem cellsOrder_named : Tryz.pinned.checked.prog.funcNamed Rows.cellsOrderRow.func = some 9 := by kernel_rfl
theorem cellsOrder_facts : joinedFacts Tryz.pinned.checked.prog 9 Tryz.f9 (OpenSpec.ofChange Rows.cellsOrderSpec).bare Rows.cellsOrderRow = true := by kernel_rfl
theorem cellsOrder_inst : Tryz.f9.isInstance Tryz.pinned.checked.prog Rows.cellsOrderRow.origin Rows.cellsOrderRow.targs := of_decide_eq_true (by kernel_rfl)
theorem cellsOrder_wrap : Tryz.f9.isWrapper Tryz.pinned.checked.prog Rows.cellsOrderRow.wrapper Rows.cellsOrderRow.mainSum := by unfold Func.isWrapper; first | (rw [if_pos (by decide +kernel)]; kernel_rfl) | (rw [if_neg (by decide +kernel)]; exact ⟨rfl, rfl⟩)
end Go.Proofs.YtnhgfmbmfjmonaaGreatDoor

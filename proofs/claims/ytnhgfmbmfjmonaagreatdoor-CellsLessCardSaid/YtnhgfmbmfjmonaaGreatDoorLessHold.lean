/- What the row of the law CellsLess asks of the program, reckoned. -/
import Derived.Test.YtnhgfmbmfjmonaaGreatDoorRows
import Derived.JoinedCond
set_option maxRecDepth 100000
set_option linter.unusedVariables false
set_option linter.unusedSimpArgs false
namespace Go.Proofs.YtnhgfmbmfjmonaaGreatDoor
open Go
theorem cellsLess_named : Tryz.pinned.checked.prog.funcNamed Rows.cellsLessRow.func = some 13 := by kernel_rfl
theorem cellsLess_facts : joinedFacts Tryz.pinned.checked.prog 13 Tryz.f13 (OpenSpec.ofChange Rows.cellsLessSpec).bare Rows.cellsLessRow = true := by kernel_rfl
theorem cellsLess_inst : Tryz.f13.isInstance Tryz.pinned.checked.prog Rows.cellsLessRow.origin Rows.cellsLessRow.targs := of_decide_eq_true (by kernel_rfl)
theorem cellsLess_wrap : Tryz.f13.isWrapper Tryz.pinned.checked.prog Rows.cellsLessRow.wrapper Rows.cellsLessRow.mainSum := by unfold Func.isWrapper; first | (rw [if_pos (by decide +kernel)]; kernel_rfl) | (rw [if_neg (by decide +kernel)]; exact ⟨rfl, rfl⟩)
end Go.Proofs.YtnhgfmbmfjmonaaGreatDoor

/- What the row of the law CellsMore asks of the program, reckoned. -/
import Derived.Test.YtnhgfmbmfjmonaaGreatDoorRows
import Derived.JoinedCond
set_option maxRecDepth 100000
set_option linter.unusedVariables false
set_option linter.unusedSimpArgs false
namespace Go.Proofs.YtnhgfmbmfjmonaaGreatDoor
open Go
theorem cellsMore_named : Tryz.pinned.checked.prog.funcNamed Rows.cellsMoreRow.func = some 14 := by kernel_rfl
theorem cellsMore_facts : joinedFacts Tryz.pinned.checked.prog 14 Tryz.f14 (OpenSpec.ofChange Rows.cellsMoreSpec).bare Rows.cellsMoreRow = true := by kernel_rfl
theorem cellsMore_inst : Tryz.f14.isInstance Tryz.pinned.checked.prog Rows.cellsMoreRow.origin Rows.cellsMoreRow.targs := of_decide_eq_true (by kernel_rfl)
theorem cellsMore_wrap : Tryz.f14.isWrapper Tryz.pinned.checked.prog Rows.cellsMoreRow.wrapper Rows.cellsMoreRow.mainSum := by unfold Func.isWrapper; first | (rw [if_pos (by decide +kernel)]; kernel_rfl) | (rw [if_neg (by decide +kernel)]; exact ⟨rfl, rfl⟩)
end Go.Proofs.YtnhgfmbmfjmonaaGreatDoor

/- What the row of the law CellsDrawn asks of the program, reckoned. -/
import Derived.Test.YtnhgfmbmfjmonaaGreatDoorRows
import Derived.JoinedCond
set_option maxRecDepth 100000
set_option linter.unusedVariables false
set_option linter.unusedSimpArgs false
namespace Go.Proofs.YtnhgfmbmfjmonaaGreatDoor
open Go
theorem cellsDrawn_named : Tryz.pinned.checked.prog.funcNamed Rows.cellsDrawnRow.func = some 7 := by kernel_rfl
theorem cellsDrawn_facts : joinedFacts Tryz.pinned.checked.prog 7 Tryz.f7 (OpenSpec.ofChange Rows.cellsDrawnSpec).bare Rows.cellsDrawnRow = true := by kernel_rfl
theorem cellsDrawn_inst : Tryz.f7.isInstance Tryz.pinned.checked.prog Rows.cellsDrawnRow.origin Rows.cellsDrawnRow.targs := of_decide_eq_true (by kernel_rfl)
theorem cellsDrawn_wrap : Tryz.f7.isWrapper Tryz.pinned.checked.prog Rows.cellsDrawnRow.wrapper Rows.cellsDrawnRow.mainSum := by unfold Func.isWrapper; first | (rw [if_pos (by decide +kernel)]; kernel_rfl) | (rw [if_neg (by decide +kernel)]; exact ⟨rfl, rfl⟩)
end Go.Proofs.YtnhgfmbmfjmonaaGreatDoor

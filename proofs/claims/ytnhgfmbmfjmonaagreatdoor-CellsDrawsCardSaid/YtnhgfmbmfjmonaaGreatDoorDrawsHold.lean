/- What the row of the law CellsDraws asks of the program, reckoned. -/
import Derived.Test.YtnhgfmbmfjmonaaGreatDoorRows
import Derived.JoinedCond
set_option maxRecDepth 100000
set_option linter.unusedVariables false
set_option linter.unusedSimpArgs false
namespace Go.Proofs.YtnhgfmbmfjmonaaGreatDoor
open Go
theorem cellsDraws_named : Tryz.pinned.checked.prog.funcNamed Rows.cellsDrawsRow.func = some 4 := by kernel_rfl
theorem cellsDraws_facts : joinedFacts Tryz.pinned.checked.prog 4 Tryz.f4 (OpenSpec.ofChange Rows.cellsDrawsSpec).bare Rows.cellsDrawsRow = true := by kernel_rfl
theorem cellsDraws_inst : Tryz.f4.isInstance Tryz.pinned.checked.prog Rows.cellsDrawsRow.origin Rows.cellsDrawsRow.targs := of_decide_eq_true (by kernel_rfl)
theorem cellsDraws_wrap : Tryz.f4.isWrapper Tryz.pinned.checked.prog Rows.cellsDrawsRow.wrapper Rows.cellsDrawsRow.mainSum := by unfold Func.isWrapper; first | (rw [if_pos (by decide +kernel)]; kernel_rfl) | (rw [if_neg (by decide +kernel)]; exact ⟨rfl, rfl⟩)
end Go.Proofs.YtnhgfmbmfjmonaaGreatDoor

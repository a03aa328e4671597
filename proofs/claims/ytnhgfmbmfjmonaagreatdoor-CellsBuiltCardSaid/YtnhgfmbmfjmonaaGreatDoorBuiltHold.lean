/- What the row of the law CellsBuilt asks of the program, reckoned. -/
import Derived.Test.YtnhgfmbmfjmonaaGreatDoorRows
import Derived.JoinedCond
set_option maxRecDepth 100000
set_option linter.unusedVariables false
set_option linter.unusedSimpArgs false
namespace Go.Proofs.YtnhgfmbmfjmonaaGreatDoor
open Go
theorem cellsBuilt_named : Tryz.pinned.checked.prog.funcNamed Rows.cellsBuiltRow.func = some 16 := by kernel_rfl
theorem cellsBuilt_facts : joinedFacts Tryz.pinned.checked.prog 16 Tryz.f16 (OpenSpec.ofChange Rows.cellsBuiltSpec).bare Rows.cellsBuiltRow = true := by kernel_rfl
theorem cellsBuilt_inst : Tryz.f16.isInstance Tryz.pinned.checked.prog Rows.cellsBuiltRow.origin Rows.cellsBuiltRow.targs := of_decide_eq_true (by kernel_rfl)
theorem cellsBuilt_wrap : Tryz.f16.isWrapper Tryz.pinned.checked.prog Rows.cellsBuiltRow.wrapper Rows.cellsBuiltRow.mainSum := by unfold Func.isWrapper; first | (rw [if_pos (by decide +kernel)]; kernel_rfl) | (rw [if_neg (by decide +kernel)]; exact ⟨rfl, rfl⟩)
end Go.Proofs.YtnhgfmbmfjmonaaGreatDoor

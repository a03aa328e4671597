/- What the row of the law CellsBuilds asks of the program, reckoned. -/
import Derived.Test.YtnhgfmbmfjmonaaGreatDoorRows
import Derived.JoinedCond
set_option maxRecDepth 100000
set_option linter.unusedVariables false
set_option linter.unusedSimpArgs false
namespace Go.Proofs.YtnhgfmbmfjmonaaGreatDoor
open Go
theorem cellsBuilds_named : Tryz.pinned.checked.prog.funcNamed Rows.cellsBuildsRow.func = some 15 := by kernel_rfl
theorem cellsBuilds_facts : joinedFacts Tryz.pinned.checked.prog 15 Tryz.f15 (OpenSpec.ofChange Rows.cellsBuildsSpec).bare Rows.cellsBuildsRow = true := by kernel_rfl
theorem cellsBuilds_inst : Tryz.f15.isInstance Tryz.pinned.checked.prog Rows.cellsBuildsRow.origin Rows.cellsBuildsRow.targs := of_decide_eq_true (by kernel_rfl)
theorem cellsBuilds_wrap : Tryz.f15.isWrapper Tryz.pinned.checked.prog Rows.cellsBuildsRow.wrapper Rows.cellsBuildsRow.mainSum := by unfold Func.isWrapper; first | (rw [if_pos (by decide +kernel)]; kernel_rfl) | (rw [if_neg (by decide +kernel)]; exact ⟨rfl, rfl⟩)
end Go.Proofs.YtnhgfmbmfjmonaaGreatDoor

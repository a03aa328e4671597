/- What the row of the law CellsBelow asks of the program, reckoned. -/
import Derived.Test.YtnhgfmbmfjmonaaGreatDoorRows
import Derived.JoinedCond
set_option maxRecDepth 100000
set_option linter.unusedVariables false
set_option linter.unusedSimpArgs false
namespace Go.Proofs.YtnhgfmbmfjmonaaGreatDoor
open Go
theorem cellsBelow_named : Tryz.pinned.checked.prog.funcNamed Rows.cellsBelowRow.func = some 12 := by kernel_rfl
theorem cellsBelow_facts : joinedFacts Tryz.pinned.checked.prog 12 Tryz.f12 (OpenSpec.ofChange Rows.cellsBelowSpec).bare Rows.cellsBelowRow = true := by kernel_rfl
theorem cellsBelow_inst : Tryz.f12.isInstance Tryz.pinned.checked.prog Rows.cellsBelowRow.origin Rows.cellsBelowRow.targs := of_decide_eq_true (by kernel_rfl)
theorem cellsBelow_wrap : Tryz.f12.isWrapper Tryz.pinned.checked.prog Rows.cellsBelowRow.wrapper Rows.cellsBelowRow.mainSum := by unfold Func.isWrapper; first | (rw [if_pos (by decide +kernel)]; kernel_rfl) | (rw [if_neg (by decide +kernel)]; exact ⟨rfl, rfl⟩)
end Go.Proofs.YtnhgfmbmfjmonaaGreatDoor

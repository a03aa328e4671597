/- What the row of the law CellsStreams asks of the program, reckoned. -/
import Derived.Test.YtnhgfmbmfjmonaaGreatDoorRows
import Derived.JoinedCond
set_option maxRecDepth 100000
set_option linter.unusedVariables false
set_option linter.unusedSimpArgs false
namespace Go.Proofs.YtnhgfmbmfjmonaaGreatDoor
open Go
theorem cellsStreams_named : Tryz.pinned.checked.prog.funcNamed Rows.cellsStreamsRow.func = some 10 := by kernel_rfl
theorem cellsStreams_facts : joinedFacts Tryz.pinned.checked.prog 10 Tryz.f10 (OpenSpec.ofChange Rows.cellsStreamsSpec).bare Rows.cellsStreamsRow = true := by kernel_rfl
theorem cellsStreams_inst : Tryz.f10.isInstance Tryz.pinned.checked.prog Rows.cellsStreamsRow.origin Rows.cellsStreamsRow.targs := of_decide_eq_true (by kernel_rfl)
theorem cellsStreams_wrap : Tryz.f10.isWrapper Tryz.pinned.checked.prog Rows.cellsStreamsRow.wrapper Rows.cellsStreamsRow.mainSum := by unfold Func.isWrapper; first | (rw [if_pos (by decide +kernel)]; kernel_rfl) | (rw [if_neg (by decide +kernel)]; exact ⟨rfl, rfl⟩)
end Go.Proofs.YtnhgfmbmfjmonaaGreatDoor

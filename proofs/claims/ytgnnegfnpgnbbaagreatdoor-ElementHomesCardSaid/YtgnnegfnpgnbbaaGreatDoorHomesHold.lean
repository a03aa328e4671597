/- What the row of the law ElementHomes asks of the program, reckoned. -/
import Derived.Test.YtgnnegfnpgnbbaaGreatDoorRows
import Derived.JoinedCond
set_option maxRecDepth 100000
set_option linter.unusedVariables false
set_option linter.unusedSimpArgs false
namespace Go.Proofs.YtgnnegfnpgnbbaaGreatDoor
open Go
theorem elementHomes_named : Tryz.pinned.checked.prog.funcNamed Rows.elementHomesRow.func = some 3 := by kernel_rfl
theorem elementHomes_facts : joinedFacts Tryz.pinned.checked.prog 3 Tryz.f3 (OpenSpec.ofChange Rows.elementHomesSpec).bare Rows.elementHomesRow = true := by kernel_rfl
theorem elementHomes_inst : Tryz.f3.isInstance Tryz.pinned.checked.prog Rows.elementHomesRow.origin Rows.elementHomesRow.targs := of_decide_eq_true (by kernel_rfl)
theorem elementHomes_wrap : Tryz.f3.isWrapper Tryz.pinned.checked.prog Rows.elementHomesRow.wrapper Rows.elementHomesRow.mainSum := by unfold Func.isWrapper; first | (rw [if_pos (by decide +kernel)]; kernel_rfl) | (rw [if_neg (by decide +kernel)]; exact ⟨rfl, rfl⟩)
end Go.Proofs.YtgnnegfnpgnbbaaGreatDoor

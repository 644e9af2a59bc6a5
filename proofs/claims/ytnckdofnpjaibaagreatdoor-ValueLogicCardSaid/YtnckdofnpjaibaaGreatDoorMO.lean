/- What is proved: ValueLogic's row and tied card. Conditions: none. -/
import Derived.Test.YtnckdofnpjaibaaGreatDoorMN
set_option linter.unusedSimpArgs false
set_option linter.unusedVariables false
namespace Go.Proofs.YtnckdofnpjaibaaGreatDoor
open Go Go.Ab Go.Deep Go.ChangeShapes Go.WideShapes Go.ChangeAt Go.RowKit
set_option maxRecDepth 100000
namespace valueLogicCardProof
theorem nm : Tryz.pinned.checked.prog.funcNamed Rows.valueLogicRow.func = some 5 := by kernel_rfl
theorem closed : joinedFacts Tryz.pinned.checked.prog 5 Tryz.f5 (OpenSpec.ofChange Rows.valueLogicSpec).bare Rows.valueLogicRow = true := by kernel_rfl
theorem inst : Tryz.f5.isInstance Tryz.pinned.checked.prog Rows.valueLogicRow.origin Rows.valueLogicRow.targs := of_decide_eq_true (by kernel_rfl)
theorem wrapper : Tryz.f5.isWrapper Tryz.pinned.checked.prog Rows.valueLogicRow.wrapper Rows.valueLogicRow.mainSum := by
  unfold Func.isWrapper; first | (rw [if_pos (by decide +kernel)]; kernel_rfl) | (rw [if_neg (by decide +kernel)]; exact ⟨rfl, rfl⟩)
end valueLogicCardProof
end Go.Proofs.YtnckdofnpjaibaaGreatDoor

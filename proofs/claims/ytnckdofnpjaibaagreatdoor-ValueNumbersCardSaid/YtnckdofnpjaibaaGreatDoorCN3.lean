/- What is proved: ValueNumbers's row and tied card. Conditions: none. -/
import Derived.Test.YtnckdofnpjaibaaGreatDoorCN2
set_option linter.unusedSimpArgs false
set_option linter.unusedVariables false
namespace Go.Proofs.YtnckdofnpjaibaaGreatDoor
open Go Go.Ab Go.Deep Go.ChangeShapes Go.WideShapes Go.ChangeAt Go.RowKit
set_option maxRecDepth 100000
namespace valueNumbersCardProof
theorem nm : Tryz.pinned.checked.prog.funcNamed Rows.valueNumbersRow.func = some 6 := by kernel_rfl
theorem closed : joinedFacts Tryz.pinned.checked.prog 6 Tryz.f6 (OpenSpec.ofChange Rows.valueNumbersSpec).bare Rows.valueNumbersRow = true := by kernel_rfl
theorem inst : Tryz.f6.isInstance Tryz.pinned.checked.prog Rows.valueNumbersRow.origin Rows.valueNumbersRow.targs := of_decide_eq_true (by kernel_rfl)
theorem wrapper : Tryz.f6.isWrapper Tryz.pinned.checked.prog Rows.valueNumbersRow.wrapper Rows.valueNumbersRow.mainSum := by
  unfold Func.isWrapper; first | (rw [if_pos (by decide +kernel)]; kernel_rfl) | (rw [if_neg (by decide +kernel)]; exact ⟨rfl, rfl⟩)
end valueNumbersCardProof
end Go.Proofs.YtnckdofnpjaibaaGreatDoor

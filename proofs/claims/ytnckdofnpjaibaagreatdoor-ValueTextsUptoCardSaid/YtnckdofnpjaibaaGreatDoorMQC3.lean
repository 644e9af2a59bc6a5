/- What is proved: ValueTexts's row and tied card. Conditions: none. -/
import Derived.Test.YtnckdofnpjaibaaGreatDoorMQC2
set_option linter.unusedSimpArgs false
set_option linter.unusedVariables false
namespace Go.Proofs.YtnckdofnpjaibaaGreatDoor
open Go Go.Ab Go.Deep Go.ChangeShapes Go.WideShapes Go.ChangeAt Go.RowKit
set_option maxRecDepth 100000
namespace valueTextsUptoCardProof
theorem nm : Tryz.pinned.checked.prog.funcNamed Rows.valueTextsUptoRow.func = some 3 := by kernel_rfl
theorem closed : joinedFacts Tryz.pinned.checked.prog 3 Tryz.f3 (Rows.OpenSpec.upto Rows.valueTextsSpec).bare Rows.valueTextsUptoRow = true := by kernel_rfl
theorem inst : Tryz.f3.isInstance Tryz.pinned.checked.prog Rows.valueTextsUptoRow.origin Rows.valueTextsUptoRow.targs := of_decide_eq_true (by kernel_rfl)
theorem wrapper : Tryz.f3.isWrapper Tryz.pinned.checked.prog Rows.valueTextsUptoRow.wrapper Rows.valueTextsUptoRow.mainSum := by
  unfold Func.isWrapper; first | (rw [if_pos (by decide +kernel)]; kernel_rfl) | (rw [if_neg (by decide +kernel)]; exact ⟨rfl, rfl⟩)
end valueTextsUptoCardProof
end Go.Proofs.YtnckdofnpjaibaaGreatDoor

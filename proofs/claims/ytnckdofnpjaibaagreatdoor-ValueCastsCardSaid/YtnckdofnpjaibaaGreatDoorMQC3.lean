/- What is proved: ValueCasts's row and tied card. Conditions: none. -/
import Derived.Test.YtnckdofnpjaibaaGreatDoorMQC2
set_option linter.unusedSimpArgs false
set_option linter.unusedVariables false
namespace Go.Proofs.YtnckdofnpjaibaaGreatDoor
open Go Go.Ab Go.Deep Go.ChangeShapes Go.WideShapes Go.ChangeAt Go.RowKit
set_option maxRecDepth 100000
namespace valueCastsCardProof
theorem nm : Tryz.pinned.checked.prog.funcNamed Rows.valueCastsRow.func = some 4 := by kernel_rfl
theorem closed : joinedFacts Tryz.pinned.checked.prog 4 Tryz.f4 (OpenSpec.ofChange Rows.valueCastsSpec).bare Rows.valueCastsRow = true := by kernel_rfl
theorem inst : Tryz.f4.isInstance Tryz.pinned.checked.prog Rows.valueCastsRow.origin Rows.valueCastsRow.targs := of_decide_eq_true (by kernel_rfl)
theorem wrapper : Tryz.f4.isWrapper Tryz.pinned.checked.prog Rows.valueCastsRow.wrapper Rows.valueCastsRow.mainSum := by
  unfold Func.isWrapper; first | (rw [if_pos (by decide +kernel)]; kernel_rfl) | (rw [if_neg (by decide +kernel)]; exact ⟨rfl, rfl⟩)
end valueCastsCardProof
end Go.Proofs.YtnckdofnpjaibaaGreatDoor

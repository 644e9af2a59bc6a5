/- What is proved: ValueWords's row and tied card. Conditions: none. -/
import Derived.Test.YtnckdofnpjaibaaGreatDoorCW2
set_option linter.unusedSimpArgs false
set_option linter.unusedVariables false
namespace Go.Proofs.YtnckdofnpjaibaaGreatDoor
open Go Go.Ab Go.Deep Go.ChangeShapes Go.WideShapes Go.ChangeAt Go.RowKit
set_option maxRecDepth 100000
namespace valueWordsCardProof
theorem nm : Tryz.pinned.checked.prog.funcNamed Rows.valueWordsRow.func = some 7 := by kernel_rfl
theorem closed : joinedFacts Tryz.pinned.checked.prog 7 Tryz.f7 (OpenSpec.ofChange Rows.valueWordsSpec).bare Rows.valueWordsRow = true := by kernel_rfl
theorem inst : Tryz.f7.isInstance Tryz.pinned.checked.prog Rows.valueWordsRow.origin Rows.valueWordsRow.targs := of_decide_eq_true (by kernel_rfl)
theorem wrapper : Tryz.f7.isWrapper Tryz.pinned.checked.prog Rows.valueWordsRow.wrapper Rows.valueWordsRow.mainSum := by
  unfold Func.isWrapper; first | (rw [if_pos (by decide +kernel)]; kernel_rfl) | (rw [if_neg (by decide +kernel)]; exact ⟨rfl, rfl⟩)
end valueWordsCardProof
end Go.Proofs.YtnckdofnpjaibaaGreatDoor

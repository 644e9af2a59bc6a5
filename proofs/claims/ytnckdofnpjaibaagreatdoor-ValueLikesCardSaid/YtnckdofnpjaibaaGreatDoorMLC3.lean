/- What is proved: ValueLikes's row and tied card. Conditions: none. -/
import Derived.Test.YtnckdofnpjaibaaGreatDoorMLC2
set_option linter.unusedSimpArgs false
set_option linter.unusedVariables false
namespace Go.Proofs.YtnckdofnpjaibaaGreatDoor
open Go Go.Ab Go.Deep Go.ChangeShapes Go.WideShapes Go.ChangeAt Go.RowKit
set_option maxRecDepth 100000
namespace valueLikesCardProof
theorem nm : Tryz.pinned.checked.prog.funcNamed Rows.valueLikesRow.func = some 8 := by kernel_rfl
theorem closed : joinedFacts Tryz.pinned.checked.prog 8 Tryz.f8 (OpenSpec.ofChange Rows.valueLikesSpec).bare Rows.valueLikesRow = true := by kernel_rfl
theorem inst : Tryz.f8.isInstance Tryz.pinned.checked.prog Rows.valueLikesRow.origin Rows.valueLikesRow.targs := of_decide_eq_true (by kernel_rfl)
theorem wrapper : Tryz.f8.isWrapper Tryz.pinned.checked.prog Rows.valueLikesRow.wrapper Rows.valueLikesRow.mainSum := by
  unfold Func.isWrapper; first | (rw [if_pos (by decide +kernel)]; kernel_rfl) | (rw [if_neg (by decide +kernel)]; exact ⟨rfl, rfl⟩)
end valueLikesCardProof
end Go.Proofs.YtnckdofnpjaibaaGreatDoor

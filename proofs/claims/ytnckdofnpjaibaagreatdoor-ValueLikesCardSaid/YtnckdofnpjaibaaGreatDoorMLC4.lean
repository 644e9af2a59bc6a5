/- What is proved: ValueLikes's row and tied card. Conditions: none. -/
import Derived.Test.YtnckdofnpjaibaaGreatDoorMLC3
set_option linter.unusedSimpArgs false
set_option linter.unusedVariables false
namespace Go.Proofs.YtnckdofnpjaibaaGreatDoor
open Go Go.Ab Go.Deep Go.ChangeShapes Go.WideShapes Go.ChangeAt Go.RowKit
set_option maxRecDepth 100000
namespace valueLikesCardProof
theorem said : Rows.ValueLikesSaid :=
  OpenClaim.holds_of_cond 8 Tryz.f8 rfl rfl rfl rfl rfl rfl rfl ⟨rfl, rfl, rfl, rfl, rfl⟩ rfl rfl rfl rfl rfl nm Tryz.func8 closed
    inst wrapper
    (fun os started H enc _ F => by rw [OpenClaim.pre_eq_preRow]; exact lifted os started H enc F)
theorem card : Rows.ValueLikesCardSaid :=
  Claim7.holds_tied_plain_at .later [] _ _ _ _ said (fun _ h => by cases h) (by kernel_rfl) (fun _ h => by cases h) valueLikes_row_tie rfl ⟨rfl, rfl⟩ (by kernel_rfl) rfl plain (by kernel_rfl)
end valueLikesCardProof
#print axioms valueLikesCardProof.card
end Go.Proofs.YtnckdofnpjaibaaGreatDoor

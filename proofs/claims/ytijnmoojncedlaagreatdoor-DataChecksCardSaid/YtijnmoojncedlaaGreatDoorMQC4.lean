/- What is proved: DataChecks's row and tied card. Conditions: none. -/
import Derived.Test.YtijnmoojncedlaaGreatDoorMQC2
import Derived.Test.YtijnmoojncedlaaGreatDoorMQC3
import Derived.Test.YtijnmoojncedlaaGreatDoorCP9
import Derived.Test.YtijnmoojncedlaaGreatDoorCP10
import Derived.Test.YtijnmoojncedlaaGreatDoorCP11
set_option linter.unusedSimpArgs false
set_option linter.unusedVariables false
namespace Go.Proofs.YtijnmoojncedlaaGreatDoor
open Go Go.Ab Go.Deep Go.ChangeShapes Go.WideShapes Go.ChangeAt Go.RowKit
set_option maxRecDepth 100000
namespace dataChecksCardProof
theorem said:Rows.DataChecksSaid :=
 OpenClaim.holds_of_cond 3 Tryz.f3 rfl rfl rfl rfl rfl rfl rfl ⟨rfl,rfl,rfl,rfl,rfl⟩ rfl rfl rfl rfl rfl nm Tryz.func3 closed
  inst wrapper
  (fun os started H enc _ F=>by rw [OpenClaim.pre_eq_preRow];exact lifted os started H enc F)
theorem card:Rows.DataChecksCardSaid :=
 Claim7.holds_tied_plain_at .later (har:=Rows.dataChecksCard.stood.harness) [] _ _ _ said (fun _ h=>by cases h) card_wf (fun _ h=>by cases h) dataChecks_row_tie rfl ⟨rfl,rfl⟩ card_main rfl plain card_goes
end dataChecksCardProof
#print axioms dataChecksCardProof.card
end Go.Proofs.YtijnmoojncedlaaGreatDoor

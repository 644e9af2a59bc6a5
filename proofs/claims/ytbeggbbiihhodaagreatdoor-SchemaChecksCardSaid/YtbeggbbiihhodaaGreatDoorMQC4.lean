/- What is proved: SchemaChecks's row and tied card. Conditions: none. -/
import Derived.Test.YtbeggbbiihhodaaGreatDoorMQC2
import Derived.Test.YtbeggbbiihhodaaGreatDoorMQC3
import Derived.Test.YtbeggbbiihhodaaGreatDoorCP9
import Derived.Test.YtbeggbbiihhodaaGreatDoorCP10
import Derived.Test.YtbeggbbiihhodaaGreatDoorCP11
set_option linter.unusedSimpArgs false
set_option linter.unusedVariables false
namespace Go.Proofs.YtbeggbbiihhodaaGreatDoor
open Go Go.Ab Go.Deep Go.ChangeShapes Go.WideShapes Go.ChangeAt Go.RowKit
set_option maxRecDepth 100000
namespace schemaChecksCardProof
theorem said : Rows.SchemaChecksSaid :=
  OpenClaim.holds_of_cond 3 Tryz.f3 rfl rfl rfl rfl rfl rfl rfl ⟨rfl, rfl, rfl, rfl, rfl⟩ rfl rfl rfl rfl rfl nm Tryz.func3 closed
    inst wrapper
    (fun os started H enc _ F => by rw [OpenClaim.pre_eq_preRow]; exact lifted os started H enc F)
theorem card : Rows.SchemaChecksCardSaid :=
  Claim7.holds_tied_plain_at .later (har := Rows.schemaChecksCard.stood.harness) [] _ _ _ said (fun _ h => by cases h) card_wf (fun _ h => by cases h) schemaChecks_row_tie rfl ⟨rfl, rfl⟩ card_main rfl plain card_goes
end schemaChecksCardProof
#print axioms schemaChecksCardProof.card
end Go.Proofs.YtbeggbbiihhodaaGreatDoor

/- What is proved: SchemaTexts's row and tied card. Conditions: none. -/
import Derived.Test.YtaebljhlgbbjnaaGreatDoorMQC2
import Derived.Test.YtaebljhlgbbjnaaGreatDoorMQC3
import Derived.Test.YtaebljhlgbbjnaaGreatDoorCP9
import Derived.Test.YtaebljhlgbbjnaaGreatDoorCP10
import Derived.Test.YtaebljhlgbbjnaaGreatDoorCP11
set_option linter.unusedSimpArgs false
set_option linter.unusedVariables false
namespace Go.Proofs.YtaebljhlgbbjnaaGreatDoor
open Go Go.Ab Go.Deep Go.ChangeShapes Go.WideShapes Go.ChangeAt Go.RowKit
set_option maxRecDepth 100000
namespace schemaTextsCardProof
theorem said:Rows.SchemaTextsSaid :=
 OpenClaim.holds_of_cond 3 Tryz.f3 rfl rfl rfl rfl rfl rfl rfl ⟨rfl,rfl,rfl,rfl,rfl⟩ rfl rfl rfl rfl rfl nm Tryz.func3 closed
  inst wrapper
  (fun os started H enc _ F=>by rw [OpenClaim.pre_eq_preRow];exact lifted os started H enc F)
theorem card:Rows.SchemaTextsCardSaid :=
 Claim7.holds_tied_plain_at .later (har:=Rows.schemaTextsCard.stood.harness) [] _ _ _ said (fun _ h=>by cases h) card_wf (fun _ h=>by cases h) schemaTexts_row_tie rfl ⟨rfl,rfl⟩ card_main rfl plain card_goes
end schemaTextsCardProof
#print axioms schemaTextsCardProof.card
end Go.Proofs.YtaebljhlgbbjnaaGreatDoor

/- What is proved: ChangeChecks's row and tied card. Conditions: none. -/
import Derived.Test.YtddclolilenlkaaGreatDoorMQC2
import Derived.Test.YtddclolilenlkaaGreatDoorMQC3
import Derived.Test.YtddclolilenlkaaGreatDoorCP9
import Derived.Test.YtddclolilenlkaaGreatDoorCP10
import Derived.Test.YtddclolilenlkaaGreatDoorCP11
set_option linter.unusedSimpArgs false
set_option linter.unusedVariables false
namespace Go.Proofs.YtddclolilenlkaaGreatDoor
open Go Go.Ab Go.Deep Go.ChangeShapes Go.WideShapes Go.ChangeAt Go.RowKit
set_option maxRecDepth 100000
namespace changeChecksCardProof
theorem said:Rows.ChangeChecksSaid :=
 OpenClaim.holds_of_cond 3 Tryz.f3 rfl rfl rfl rfl rfl rfl rfl ⟨rfl,rfl,rfl,rfl,rfl⟩ rfl rfl rfl rfl rfl nm Tryz.func3 closed
  inst wrapper
  (fun os started H enc _ F=>by rw [OpenClaim.pre_eq_preRow];exact lifted os started H enc F)
theorem card:Rows.ChangeChecksCardSaid :=
 Claim7.holds_tied_plain_at .later (har:=Rows.changeChecksCard.stood.harness) [] _ _ _ said (fun _ h=>by cases h) card_wf (fun _ h=>by cases h) changeChecks_row_tie rfl ⟨rfl,rfl⟩ card_main rfl plain card_goes
end changeChecksCardProof
#print axioms changeChecksCardProof.card
end Go.Proofs.YtddclolilenlkaaGreatDoor

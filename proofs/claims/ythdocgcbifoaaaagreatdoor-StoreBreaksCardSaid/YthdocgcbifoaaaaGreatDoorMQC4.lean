/- What is proved: StoreBreaks's row and tied card. Conditions: none. -/
import Derived.Test.YthdocgcbifoaaaaGreatDoorMQC2
import Derived.Test.YthdocgcbifoaaaaGreatDoorMQC3
import Derived.Test.YthdocgcbifoaaaaGreatDoorCP9
import Derived.Test.YthdocgcbifoaaaaGreatDoorCP10
import Derived.Test.YthdocgcbifoaaaaGreatDoorCP11
set_option linter.unusedSimpArgs false
set_option linter.unusedVariables false
namespace Go.Proofs.YthdocgcbifoaaaaGreatDoor
open Go Go.Ab Go.Deep Go.ChangeShapes Go.WideShapes Go.ChangeAt Go.RowKit
set_option maxRecDepth 100000
namespace storeBreaksCardProof
theorem said:Rows.StoreBreaksSaid :=
 OpenClaim.holds_of_cond 3 Tryz.f3 rfl rfl rfl rfl rfl rfl rfl ⟨rfl,rfl,rfl,rfl,rfl⟩ rfl rfl rfl rfl rfl nm Tryz.func3 closed
  inst wrapper
  (fun os started H enc _ F=>by rw [OpenClaim.pre_eq_preRow];exact lifted os started H enc F)
theorem card:Rows.StoreBreaksCardSaid :=
 Claim7.holds_tied_plain_at .later (har:=Rows.storeBreaksCard.stood.harness) [] _ _ _ said (fun _ h=>by cases h) card_wf (fun _ h=>by cases h) storeBreaks_row_tie rfl ⟨rfl,rfl⟩ card_main rfl plain card_goes
end storeBreaksCardProof
#print axioms storeBreaksCardProof.card
end Go.Proofs.YthdocgcbifoaaaaGreatDoor

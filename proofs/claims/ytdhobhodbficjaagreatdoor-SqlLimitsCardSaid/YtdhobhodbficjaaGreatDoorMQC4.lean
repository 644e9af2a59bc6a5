/- What is proved: SqlLimits's row and tied card. Conditions: none. -/
import Derived.Test.YtdhobhodbficjaaGreatDoorMQC2
import Derived.Test.YtdhobhodbficjaaGreatDoorMQC3
import Derived.Test.YtdhobhodbficjaaGreatDoorCP9
import Derived.Test.YtdhobhodbficjaaGreatDoorCP10
import Derived.Test.YtdhobhodbficjaaGreatDoorCP11
set_option linter.unusedSimpArgs false
set_option linter.unusedVariables false
namespace Go.Proofs.YtdhobhodbficjaaGreatDoor
open Go Go.Ab Go.Deep Go.ChangeShapes Go.WideShapes Go.ChangeAt Go.RowKit
set_option maxRecDepth 100000
namespace sqlLimitsCardProof
theorem said:Rows.SqlLimitsSaid :=
 OpenClaim.holds_of_cond 3 Tryz.f3 rfl rfl rfl rfl rfl rfl rfl ⟨rfl,rfl,rfl,rfl,rfl⟩ rfl rfl rfl rfl rfl nm Tryz.func3 closed
  inst wrapper
  (fun os started H enc _ F=>by rw [OpenClaim.pre_eq_preRow];exact lifted os started H enc F)
theorem card:Rows.SqlLimitsCardSaid :=
 Claim7.holds_tied_plain_at .later (har:=Rows.sqlLimitsCard.stood.harness) [] _ _ _ said (fun _ h=>by cases h) card_wf (fun _ h=>by cases h) sqlLimits_row_tie rfl ⟨rfl,rfl⟩ card_main rfl plain card_goes
end sqlLimitsCardProof
#print axioms sqlLimitsCardProof.card
end Go.Proofs.YtdhobhodbficjaaGreatDoor

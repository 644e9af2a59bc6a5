/- What is proved: SqlLimits's card: closed facts. Conditions: none. -/
import Derived.Test.YtdhobhodbficjaaGreatDoorRows
import Derived.Test.YtdhobhodbficjaaGreatDoorU7
import Derived.Test.YtdhobhodbficjaaGreatDoorCards
import Derived.ProofKit
import Derived.OpenShut
import Derived.Lay
import Derived.MakeChecks
import Derived.Deep.Strs
import Derived.Deep.DeepHandedRow
import Derived.Stop.LaidErr
import Derived.Lib.LaidTab
import Derived.SevenTiedAt
import Derived.Stop.Joined
import Derived.JoinedCond
import Derived.LaidLaws
namespace Go.Proofs.YtdhobhodbficjaaGreatDoor
open Go Go.Deep Go.ChangeShapes Go.WideShapes Go.ChangeAt Go.RowKit
set_option maxRecDepth 100000
namespace sqlLimitsCardProof
theorem card_main:Tryz.pinned.checked.prog.mainIs=some (Rows.sqlLimitsCard.stood.harness.1,Rows.sqlLimitsCard.stood.harness.2.toList):=by kernel_rfl
end sqlLimitsCardProof
end Go.Proofs.YtdhobhodbficjaaGreatDoor

/- What is proved: SqlLimits's row: closed facts. Conditions: none. -/
import Derived.Test.YtdhobhodbficjaaGreatDoorRows
import Derived.Test.YtdhobhodbficjaaGreatDoorU7
import Derived.Test.YtdhobhodbficjaaGreatDoorCards
import Derived.ProofKit
import Derived.OpenShut
import Derived.Lay
import Derived.MakeChecks
import Derived.Deep.Strs
import Derived.Deep.DeepHandedRow
import Derived.Stop.LaidErr
import Derived.Lib.LaidTab
import Derived.SevenTiedAt
import Derived.Stop.Joined
import Derived.JoinedCond
import Derived.LaidLaws
namespace Go.Proofs.YtdhobhodbficjaaGreatDoor
open Go Go.Deep Go.ChangeShapes Go.WideShapes Go.ChangeAt Go.RowKit
set_option maxRecDepth 100000
namespace sqlLimitsCardProof
theorem k21:((Rows.sqlLimitsRow.ifacesOut==Tryz.f3.resultTypes.toList.any (Tryz.pinned.checked.prog.ifacesRec ·)))=true:=by kernel_rfl
theorem k22:((Rows.sqlLimitsRow.loopsOut==Tryz.f3.resultTypes.toList.any (Tryz.pinned.checked.prog.loopsFrom ·)))=true:=by kernel_rfl
theorem k23:((Rows.sqlLimitsRow.plainKeys==Tryz.pinned.checked.prog.plainKeys))=true:=by kernel_rfl
theorem k24:(Rows.sqlLimitsRow.shortTexts.isNone)=true:=by kernel_rfl
end sqlLimitsCardProof
end Go.Proofs.YtdhobhodbficjaaGreatDoor

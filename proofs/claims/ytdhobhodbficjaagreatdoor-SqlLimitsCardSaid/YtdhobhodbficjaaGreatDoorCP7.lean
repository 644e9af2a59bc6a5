/- What is proved: SqlLimits's row: closed facts. Conditions: none. -/
import Derived.Test.YtdhobhodbficjaaGreatDoorRows
import Derived.Test.YtdhobhodbficjaaGreatDoorU7
import Derived.Test.YtdhobhodbficjaaGreatDoorCards
import Derived.ProofKit
import Derived.OpenShut
import Derived.Lay
import Derived.MakeChecks
import Derived.Deep.Strs
import Derived.Deep.DeepHandedRow
import Derived.Stop.LaidErr
import Derived.Lib.LaidTab
import Derived.SevenTiedAt
import Derived.Stop.Joined
import Derived.JoinedCond
import Derived.LaidLaws
namespace Go.Proofs.YtdhobhodbficjaaGreatDoor
open Go Go.Deep Go.ChangeShapes Go.WideShapes Go.ChangeAt Go.RowKit
set_option maxRecDepth 100000
namespace sqlLimitsCardProof
theorem k25:(Tryz.pinned.checked.prog.stopsHeard)=true:=by kernel_rfl
theorem k26:(Tryz.pinned.checked.prog.mayEnter)=true:=by kernel_rfl
theorem k27:((Rows.sqlLimitsRow.lifted==Tryz.pinned.checked.prog.liftsFinal))=true:=by kernel_rfl
theorem k28:((Tryz.pinned.checked.prog.make==some Rows.sqlLimitsRow.make))=true:=by kernel_rfl
end sqlLimitsCardProof
end Go.Proofs.YtdhobhodbficjaaGreatDoor

/- What is proved: SqlLimits's row: closed facts. Conditions: none. -/
import Derived.Test.YtdhobhodbficjaaGreatDoorRows
import Derived.Test.YtdhobhodbficjaaGreatDoorU7
import Derived.Test.YtdhobhodbficjaaGreatDoorCards
import Derived.ProofKit
import Derived.OpenShut
import Derived.Lay
import Derived.MakeChecks
import Derived.Deep.Strs
import Derived.Deep.DeepHandedRow
import Derived.Stop.LaidErr
import Derived.Lib.LaidTab
import Derived.SevenTiedAt
import Derived.Stop.Joined
import Derived.JoinedCond
import Derived.LaidLaws
namespace Go.Proofs.YtdhobhodbficjaaGreatDoor
open Go Go.Deep Go.ChangeShapes Go.WideShapes Go.ChangeAt Go.RowKit
set_option maxRecDepth 100000
namespace sqlLimitsCardProof
theorem k29:((Rows.sqlLimitsRow.kinds==(if Rows.sqlLimitsRow.domain.isEmpty then [] else Tryz.f3.params.toList.map fun t=>match Tryz.pinned.checked.prog.underlying t with | some (.int k)=>some k | _=>none)))=true:=by kernel_rfl
theorem k30:((Rows.sqlLimitsRow.pinned==Rows.sqlLimitsRow.pinnedBy))=true:=by kernel_rfl
theorem k31:((Rows.sqlLimitsRow.veiled==(Tryz.f3.params.toList++(OpenSpec.ofChange Rows.sqlLimitsSpec).bare.plain.varTypes Tryz.pinned.checked.prog++Tryz.f3.resultTypes.toList).any (Tryz.pinned.checked.prog.veiledRec ·)))=true:=by kernel_rfl
theorem k32:(Rows.sqlLimitsRow.veiledFits Tryz.pinned.checked.prog Tryz.f3.params.toList (Tryz.f3.params.toList++(OpenSpec.ofChange Rows.sqlLimitsSpec).bare.plain.varTypes Tryz.pinned.checked.prog++Tryz.f3.resultTypes.toList))=true:=by kernel_rfl
end sqlLimitsCardProof
end Go.Proofs.YtdhobhodbficjaaGreatDoor

/- What is proved: DataChecks's row: closed facts. Conditions: none. -/
import Derived.Test.YtijnmoojncedlaaGreatDoorRows
import Derived.Test.YtijnmoojncedlaaGreatDoorU7
import Derived.Test.YtijnmoojncedlaaGreatDoorCards
import Derived.ProofKit
import Derived.OpenShut
import Derived.Lay
import Derived.MakeChecks
import Derived.Deep.Strs
import Derived.Deep.DeepHandedRow
import Derived.Stop.LaidErr
import Derived.Lib.LaidTab
import Derived.SevenTiedAt
import Derived.Stop.Joined
import Derived.JoinedCond
import Derived.LaidLaws
namespace Go.Proofs.YtijnmoojncedlaaGreatDoor
open Go Go.Deep Go.ChangeShapes Go.WideShapes Go.ChangeAt Go.RowKit
set_option maxRecDepth 100000
namespace dataChecksCardProof
theorem k29:((Rows.dataChecksRow.kinds==(if Rows.dataChecksRow.domain.isEmpty then [] else Tryz.f3.params.toList.map fun t=>match Tryz.pinned.checked.prog.underlying t with | some (.int k)=>some k | _=>none)))=true:=by kernel_rfl
theorem k30:((Rows.dataChecksRow.pinned==Rows.dataChecksRow.pinnedBy))=true:=by kernel_rfl
theorem k31:((Rows.dataChecksRow.veiled==(Tryz.f3.params.toList++(OpenSpec.ofChange Rows.dataChecksSpec).bare.plain.varTypes Tryz.pinned.checked.prog++Tryz.f3.resultTypes.toList).any (Tryz.pinned.checked.prog.veiledRec ·)))=true:=by kernel_rfl
theorem k32:(Rows.dataChecksRow.veiledFits Tryz.pinned.checked.prog Tryz.f3.params.toList (Tryz.f3.params.toList++(OpenSpec.ofChange Rows.dataChecksSpec).bare.plain.varTypes Tryz.pinned.checked.prog++Tryz.f3.resultTypes.toList))=true:=by kernel_rfl
end dataChecksCardProof
end Go.Proofs.YtijnmoojncedlaaGreatDoor

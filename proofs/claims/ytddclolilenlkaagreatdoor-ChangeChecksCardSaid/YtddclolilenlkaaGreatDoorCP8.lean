/- What is proved: ChangeChecks's row: closed facts. Conditions: none. -/
import Derived.Test.YtddclolilenlkaaGreatDoorRows
import Derived.Test.YtddclolilenlkaaGreatDoorU7
import Derived.Test.YtddclolilenlkaaGreatDoorCards
import Derived.ProofKit
import Derived.OpenShut
import Derived.Lay
import Derived.MakeChecks
import Derived.Deep.Strs
import Derived.Deep.DeepHandedRow
import Derived.Stop.LaidErr
import Derived.Lib.LaidTab
import Derived.SevenTiedAt
import Derived.Stop.Joined
import Derived.JoinedCond
import Derived.LaidLaws
namespace Go.Proofs.YtddclolilenlkaaGreatDoor
open Go Go.Deep Go.ChangeShapes Go.WideShapes Go.ChangeAt Go.RowKit
set_option maxRecDepth 100000
namespace changeChecksCardProof
theorem k29:((Rows.changeChecksRow.kinds==(if Rows.changeChecksRow.domain.isEmpty then [] else Tryz.f3.params.toList.map fun t=>match Tryz.pinned.checked.prog.underlying t with | some (.int k)=>some k | _=>none)))=true:=by kernel_rfl
theorem k30:((Rows.changeChecksRow.pinned==Rows.changeChecksRow.pinnedBy))=true:=by kernel_rfl
theorem k31:((Rows.changeChecksRow.veiled==(Tryz.f3.params.toList++(OpenSpec.ofChange Rows.changeChecksSpec).bare.plain.varTypes Tryz.pinned.checked.prog++Tryz.f3.resultTypes.toList).any (Tryz.pinned.checked.prog.veiledRec ·)))=true:=by kernel_rfl
theorem k32:(Rows.changeChecksRow.veiledFits Tryz.pinned.checked.prog Tryz.f3.params.toList (Tryz.f3.params.toList++(OpenSpec.ofChange Rows.changeChecksSpec).bare.plain.varTypes Tryz.pinned.checked.prog++Tryz.f3.resultTypes.toList))=true:=by kernel_rfl
end changeChecksCardProof
end Go.Proofs.YtddclolilenlkaaGreatDoor

/- What is proved: DataChecks's row: closed facts. Conditions: none. -/
import Derived.Test.YtijnmoojncedlaaGreatDoorRows
import Derived.Test.YtijnmoojncedlaaGreatDoorU7
import Derived.Test.YtijnmoojncedlaaGreatDoorCards
import Derived.ProofKit
import Derived.OpenShut
import Derived.Lay
import Derived.MakeChecks
import Derived.Deep.Strs
import Derived.Deep.DeepHandedRow
import Derived.Stop.LaidErr
import Derived.Lib.LaidTab
import Derived.SevenTiedAt
import Derived.Stop.Joined
import Derived.JoinedCond
import Derived.LaidLaws
namespace Go.Proofs.YtijnmoojncedlaaGreatDoor
open Go Go.Deep Go.ChangeShapes Go.WideShapes Go.ChangeAt Go.RowKit
set_option maxRecDepth 100000
namespace dataChecksCardProof
theorem k25:(Tryz.pinned.checked.prog.stopsHeard)=true:=by kernel_rfl
theorem k26:(Tryz.pinned.checked.prog.mayEnter)=true:=by kernel_rfl
theorem k27:((Rows.dataChecksRow.lifted==Tryz.pinned.checked.prog.liftsFinal))=true:=by kernel_rfl
theorem k28:((Tryz.pinned.checked.prog.make==some Rows.dataChecksRow.make))=true:=by kernel_rfl
end dataChecksCardProof
end Go.Proofs.YtijnmoojncedlaaGreatDoor

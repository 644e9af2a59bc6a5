/- What is proved: DataChecks's row: closed facts. Conditions: none. -/
import Derived.Test.YtijnmoojncedlaaGreatDoorRows
import Derived.Test.YtijnmoojncedlaaGreatDoorU7
import Derived.Test.YtijnmoojncedlaaGreatDoorCards
import Derived.ProofKit
import Derived.OpenShut
import Derived.Lay
import Derived.MakeChecks
import Derived.Deep.Strs
import Derived.Deep.DeepHandedRow
import Derived.Stop.LaidErr
import Derived.Lib.LaidTab
import Derived.SevenTiedAt
import Derived.Stop.Joined
import Derived.JoinedCond
import Derived.LaidLaws
namespace Go.Proofs.YtijnmoojncedlaaGreatDoor
open Go Go.Deep Go.ChangeShapes Go.WideShapes Go.ChangeAt Go.RowKit
set_option maxRecDepth 100000
namespace dataChecksCardProof
theorem k21:((Rows.dataChecksRow.ifacesOut==Tryz.f3.resultTypes.toList.any (Tryz.pinned.checked.prog.ifacesRec ·)))=true:=by kernel_rfl
theorem k22:((Rows.dataChecksRow.loopsOut==Tryz.f3.resultTypes.toList.any (Tryz.pinned.checked.prog.loopsFrom ·)))=true:=by kernel_rfl
theorem k23:((Rows.dataChecksRow.plainKeys==Tryz.pinned.checked.prog.plainKeys))=true:=by kernel_rfl
theorem k24:(Rows.dataChecksRow.shortTexts.isNone)=true:=by kernel_rfl
end dataChecksCardProof
end Go.Proofs.YtijnmoojncedlaaGreatDoor

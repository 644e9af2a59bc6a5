/- What is proved: StoreBreaks's row: closed facts. Conditions: none. -/
import Derived.Test.YthdocgcbifoaaaaGreatDoorRows
import Derived.Test.YthdocgcbifoaaaaGreatDoorTie
import Derived.Test.YthdocgcbifoaaaaGreatDoorCards
import Derived.ProofKit
import Derived.OpenShut
import Derived.Lay
import Derived.MakeChecks
import Derived.Deep.Strs
import Derived.Deep.DeepHandedRow
import Derived.Stop.LaidErr
import Derived.Lib.LaidTab
import Derived.SevenTiedAt
import Derived.Stop.Joined
import Derived.JoinedCond
import Derived.LaidLaws
namespace Go.Proofs.YthdocgcbifoaaaaGreatDoor
open Go Go.Deep Go.ChangeShapes Go.WideShapes Go.ChangeAt Go.RowKit
set_option maxRecDepth 100000
namespace storeBreaksCardProof
theorem k21:((Rows.storeBreaksRow.ifacesOut==Tryz.f3.resultTypes.toList.any (Tryz.pinned.checked.prog.ifacesRec ·)))=true:=by kernel_rfl
theorem k22:((Rows.storeBreaksRow.loopsOut==Tryz.f3.resultTypes.toList.any (Tryz.pinned.checked.prog.loopsFrom ·)))=true:=by kernel_rfl
theorem k23:((Rows.storeBreaksRow.plainKeys==Tryz.pinned.checked.prog.plainKeys))=true:=by kernel_rfl
theorem k24:(Rows.storeBreaksRow.shortTexts.isNone)=true:=by kernel_rfl
end storeBreaksCardProof
end Go.Proofs.YthdocgcbifoaaaaGreatDoor

/- What is proved: StoreBreaks's row: closed facts. Conditions: none. -/
import Derived.Test.YthdocgcbifoaaaaGreatDoorRows
import Derived.Test.YthdocgcbifoaaaaGreatDoorTie
import Derived.Test.YthdocgcbifoaaaaGreatDoorCards
import Derived.ProofKit
import Derived.OpenShut
import Derived.Lay
import Derived.MakeChecks
import Derived.Deep.Strs
import Derived.Deep.DeepHandedRow
import Derived.Stop.LaidErr
import Derived.Lib.LaidTab
import Derived.SevenTiedAt
import Derived.Stop.Joined
import Derived.JoinedCond
import Derived.LaidLaws
namespace Go.Proofs.YthdocgcbifoaaaaGreatDoor
open Go Go.Deep Go.ChangeShapes Go.WideShapes Go.ChangeAt Go.RowKit
set_option maxRecDepth 100000
namespace storeBreaksCardProof
theorem k25:(Tryz.pinned.checked.prog.stopsHeard)=true:=by kernel_rfl
theorem k26:(Tryz.pinned.checked.prog.mayEnter)=true:=by kernel_rfl
theorem k27:((Rows.storeBreaksRow.lifted==Tryz.pinned.checked.prog.liftsFinal))=true:=by kernel_rfl
theorem k28:((Tryz.pinned.checked.prog.make==some Rows.storeBreaksRow.make))=true:=by kernel_rfl
end storeBreaksCardProof
end Go.Proofs.YthdocgcbifoaaaaGreatDoor

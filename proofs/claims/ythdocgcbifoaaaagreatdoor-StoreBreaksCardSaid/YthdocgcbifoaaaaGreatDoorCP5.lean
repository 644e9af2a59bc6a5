/- What is proved: StoreBreaks's row: closed facts. Conditions: none. -/
import Derived.Test.YthdocgcbifoaaaaGreatDoorRows
import Derived.Test.YthdocgcbifoaaaaGreatDoorTie
import Derived.Test.YthdocgcbifoaaaaGreatDoorCards
import Derived.ProofKit
import Derived.OpenShut
import Derived.Lay
import Derived.MakeChecks
import Derived.Deep.Strs
import Derived.Deep.DeepHandedRow
import Derived.Stop.LaidErr
import Derived.Lib.LaidTab
import Derived.SevenTiedAt
import Derived.Stop.Joined
import Derived.JoinedCond
import Derived.LaidLaws
namespace Go.Proofs.YthdocgcbifoaaaaGreatDoor
open Go Go.Deep Go.ChangeShapes Go.WideShapes Go.ChangeAt Go.RowKit
set_option maxRecDepth 100000
namespace storeBreaksCardProof
theorem k17:((Rows.storeBreaksRow.loops==(Tryz.f3.params.toList++(OpenSpec.ofChange Rows.storeBreaksSpec).bare.plain.varTypes Tryz.pinned.checked.prog).any (Tryz.pinned.checked.prog.loopsFrom ·)))=true:=by kernel_rfl
theorem k18:((Rows.storeBreaksRow.wideKeys==(Tryz.f3.params.toList++(OpenSpec.ofChange Rows.storeBreaksSpec).bare.plain.varTypes Tryz.pinned.checked.prog++Tryz.f3.resultTypes.toList).any (Tryz.pinned.checked.prog.wideKeysFrom ·)))=true:=by kernel_rfl
theorem k19:((OpenSpec.ofChange Rows.storeBreaksSpec).bare.vars.all (Tryz.pinned.checked.prog.varReadable ·))=true:=by kernel_rfl
theorem k20:(Tryz.f3.resultTypes.all (fun t=>Tryz.pinned.checked.prog.readableRec t&&decide (t < Tryz.pinned.checked.prog.types.size)))=true:=by kernel_rfl
end storeBreaksCardProof
end Go.Proofs.YthdocgcbifoaaaaGreatDoor

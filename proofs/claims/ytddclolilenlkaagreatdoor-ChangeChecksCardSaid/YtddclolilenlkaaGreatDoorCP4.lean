/- What is proved: ChangeChecks's row: closed facts. Conditions: none. -/
import Derived.Test.YtddclolilenlkaaGreatDoorRows
import Derived.Test.YtddclolilenlkaaGreatDoorU7
import Derived.Test.YtddclolilenlkaaGreatDoorCards
import Derived.ProofKit
import Derived.OpenShut
import Derived.Lay
import Derived.MakeChecks
import Derived.Deep.Strs
import Derived.Deep.DeepHandedRow
import Derived.Stop.LaidErr
import Derived.Lib.LaidTab
import Derived.SevenTiedAt
import Derived.Stop.Joined
import Derived.JoinedCond
import Derived.LaidLaws
namespace Go.Proofs.YtddclolilenlkaaGreatDoor
open Go Go.Deep Go.ChangeShapes Go.WideShapes Go.ChangeAt Go.RowKit
set_option maxRecDepth 100000
namespace changeChecksCardProof
theorem k13:((Rows.changeChecksRow.named==Tryz.pinned.checked.prog.varsNamed 3))=true:=by kernel_rfl
theorem k14:((Rows.changeChecksRow.maps==(Tryz.f3.params.toList++(OpenSpec.ofChange Rows.changeChecksSpec).bare.plain.varTypes Tryz.pinned.checked.prog).any (Tryz.pinned.checked.prog.mapsRec ·)))=true:=by kernel_rfl
theorem k15:((Rows.changeChecksRow.ifaces==(Tryz.f3.params.toList++(OpenSpec.ofChange Rows.changeChecksSpec).bare.plain.varTypes Tryz.pinned.checked.prog).any (Tryz.pinned.checked.prog.ifacesRec ·)))=true:=by kernel_rfl
theorem k16:((Rows.changeChecksRow.mapsOut==Tryz.pinned.checked.prog.mapsAmong Tryz.f3.resultTypes.toList))=true:=by kernel_rfl
end changeChecksCardProof
end Go.Proofs.YtddclolilenlkaaGreatDoor

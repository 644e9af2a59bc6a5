/- What is proved: ChangeChecks's row: closed facts. Conditions: none. -/
import Derived.Test.YtddclolilenlkaaGreatDoorRows
import Derived.Test.YtddclolilenlkaaGreatDoorU7
import Derived.Test.YtddclolilenlkaaGreatDoorCards
import Derived.ProofKit
import Derived.OpenShut
import Derived.Lay
import Derived.MakeChecks
import Derived.Deep.Strs
import Derived.Deep.DeepHandedRow
import Derived.Stop.LaidErr
import Derived.Lib.LaidTab
import Derived.SevenTiedAt
import Derived.Stop.Joined
import Derived.JoinedCond
import Derived.LaidLaws
namespace Go.Proofs.YtddclolilenlkaaGreatDoor
open Go Go.Deep Go.ChangeShapes Go.WideShapes Go.ChangeAt Go.RowKit
set_option maxRecDepth 100000
namespace changeChecksCardProof
theorem k17:((Rows.changeChecksRow.loops==(Tryz.f3.params.toList++(OpenSpec.ofChange Rows.changeChecksSpec).bare.plain.varTypes Tryz.pinned.checked.prog).any (Tryz.pinned.checked.prog.loopsFrom ·)))=true:=by kernel_rfl
theorem k18:((Rows.changeChecksRow.wideKeys==(Tryz.f3.params.toList++(OpenSpec.ofChange Rows.changeChecksSpec).bare.plain.varTypes Tryz.pinned.checked.prog++Tryz.f3.resultTypes.toList).any (Tryz.pinned.checked.prog.wideKeysFrom ·)))=true:=by kernel_rfl
theorem k19:((OpenSpec.ofChange Rows.changeChecksSpec).bare.vars.all (Tryz.pinned.checked.prog.varReadable ·))=true:=by kernel_rfl
theorem k20:(Tryz.f3.resultTypes.all (fun t=>Tryz.pinned.checked.prog.readableRec t&&decide (t < Tryz.pinned.checked.prog.types.size)))=true:=by kernel_rfl
end changeChecksCardProof
end Go.Proofs.YtddclolilenlkaaGreatDoor

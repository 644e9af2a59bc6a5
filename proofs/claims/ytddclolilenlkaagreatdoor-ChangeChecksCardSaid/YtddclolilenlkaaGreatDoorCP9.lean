/- What is proved: ChangeChecks's card: closed facts. Conditions: none. -/
import Derived.Test.YtddclolilenlkaaGreatDoorRows
import Derived.Test.YtddclolilenlkaaGreatDoorU7
import Derived.Test.YtddclolilenlkaaGreatDoorCards
import Derived.ProofKit
import Derived.OpenShut
import Derived.Lay
import Derived.MakeChecks
import Derived.Deep.Strs
import Derived.Deep.DeepHandedRow
import Derived.Stop.LaidErr
import Derived.Lib.LaidTab
import Derived.SevenTiedAt
import Derived.Stop.Joined
import Derived.JoinedCond
import Derived.LaidLaws
namespace Go.Proofs.YtddclolilenlkaaGreatDoor
open Go Go.Deep Go.ChangeShapes Go.WideShapes Go.ChangeAt Go.RowKit
set_option maxRecDepth 100000
namespace changeChecksCardProof
theorem card_wf:Rows.changeChecksRow.wfByText (OpenSpec.ofChange Rows.changeChecksSpec)=true:=by kernel_rfl
end changeChecksCardProof
end Go.Proofs.YtddclolilenlkaaGreatDoor

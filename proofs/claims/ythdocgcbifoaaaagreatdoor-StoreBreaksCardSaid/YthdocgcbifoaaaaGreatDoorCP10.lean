/- What is proved: StoreBreaks's card: closed facts. Conditions: none. -/
import Derived.Test.YthdocgcbifoaaaaGreatDoorRows
import Derived.Test.YthdocgcbifoaaaaGreatDoorTie
import Derived.Test.YthdocgcbifoaaaaGreatDoorCards
import Derived.ProofKit
import Derived.OpenShut
import Derived.Lay
import Derived.MakeChecks
import Derived.Deep.Strs
import Derived.Deep.DeepHandedRow
import Derived.Stop.LaidErr
import Derived.Lib.LaidTab
import Derived.SevenTiedAt
import Derived.Stop.Joined
import Derived.JoinedCond
import Derived.LaidLaws
namespace Go.Proofs.YthdocgcbifoaaaaGreatDoor
open Go Go.Deep Go.ChangeShapes Go.WideShapes Go.ChangeAt Go.RowKit
set_option maxRecDepth 100000
namespace storeBreaksCardProof
theorem card_main:Tryz.pinned.checked.prog.mainIs=some (Rows.storeBreaksCard.stood.harness.1,Rows.storeBreaksCard.stood.harness.2.toList):=by kernel_rfl
end storeBreaksCardProof
end Go.Proofs.YthdocgcbifoaaaaGreatDoor

/- What is proved: DataChecks's card: closed facts. Conditions: none. -/
import Derived.Test.YtijnmoojncedlaaGreatDoorRows
import Derived.Test.YtijnmoojncedlaaGreatDoorU7
import Derived.Test.YtijnmoojncedlaaGreatDoorCards
import Derived.ProofKit
import Derived.OpenShut
import Derived.Lay
import Derived.MakeChecks
import Derived.Deep.Strs
import Derived.Deep.DeepHandedRow
import Derived.Stop.LaidErr
import Derived.Lib.LaidTab
import Derived.SevenTiedAt
import Derived.Stop.Joined
import Derived.JoinedCond
import Derived.LaidLaws
namespace Go.Proofs.YtijnmoojncedlaaGreatDoor
open Go Go.Deep Go.ChangeShapes Go.WideShapes Go.ChangeAt Go.RowKit
set_option maxRecDepth 100000
namespace dataChecksCardProof
theorem card_main:Tryz.pinned.checked.prog.mainIs=some (Rows.dataChecksCard.stood.harness.1,Rows.dataChecksCard.stood.harness.2.toList):=by kernel_rfl
end dataChecksCardProof
end Go.Proofs.YtijnmoojncedlaaGreatDoor

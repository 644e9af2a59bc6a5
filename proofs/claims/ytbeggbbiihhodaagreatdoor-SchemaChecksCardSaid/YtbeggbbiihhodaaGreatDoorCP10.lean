/- What is proved: SchemaChecks's card: closed facts. Conditions: none. -/
import Derived.Test.YtbeggbbiihhodaaGreatDoorRows
import Derived.Test.YtbeggbbiihhodaaGreatDoorU7
import Derived.Test.YtbeggbbiihhodaaGreatDoorCards
import Derived.ProofKit
import Derived.OpenShut
import Derived.Lay
import Derived.MakeChecks
import Derived.Deep.Strs
import Derived.Deep.DeepHandedRow
import Derived.Stop.LaidErr
import Derived.Lib.LaidTab
import Derived.SevenTiedAt
import Derived.Stop.Joined
import Derived.JoinedCond
import Derived.LaidLaws
namespace Go.Proofs.YtbeggbbiihhodaaGreatDoor
open Go Go.Deep Go.ChangeShapes Go.WideShapes Go.ChangeAt Go.RowKit
set_option maxRecDepth 100000
namespace schemaChecksCardProof
theorem card_main : Tryz.pinned.checked.prog.mainIs = some (Rows.schemaChecksCard.stood.harness.1, Rows.schemaChecksCard.stood.harness.2.toList) := by kernel_rfl
end schemaChecksCardProof
end Go.Proofs.YtbeggbbiihhodaaGreatDoor

/- What is proved: SchemaTexts's card: closed facts. Conditions: none. -/
import Derived.Test.YtaebljhlgbbjnaaGreatDoorRows
import Derived.Test.YtaebljhlgbbjnaaGreatDoorU7
import Derived.Test.YtaebljhlgbbjnaaGreatDoorCards
import Derived.ProofKit
import Derived.OpenShut
import Derived.Lay
import Derived.MakeChecks
import Derived.Deep.Strs
import Derived.Deep.DeepHandedRow
import Derived.Stop.LaidErr
import Derived.Lib.LaidTab
import Derived.SevenTiedAt
import Derived.Stop.Joined
import Derived.JoinedCond
import Derived.LaidLaws
namespace Go.Proofs.YtaebljhlgbbjnaaGreatDoor
open Go Go.Deep Go.ChangeShapes Go.WideShapes Go.ChangeAt Go.RowKit
set_option maxRecDepth 100000
namespace schemaTextsCardProof
theorem card_main : Tryz.pinned.checked.prog.mainIs = some (Rows.schemaTextsCard.stood.harness.1, Rows.schemaTextsCard.stood.harness.2.toList) := by kernel_rfl
end schemaTextsCardProof
end Go.Proofs.YtaebljhlgbbjnaaGreatDoor

/- What is proved: SchemaChecks's row: closed facts. Conditions: none. -/
import Derived.Test.YtbeggbbiihhodaaGreatDoorRows
import Derived.Test.YtbeggbbiihhodaaGreatDoorU7
import Derived.Test.YtbeggbbiihhodaaGreatDoorCards
import Derived.ProofKit
import Derived.OpenShut
import Derived.Lay
import Derived.MakeChecks
import Derived.Deep.Strs
import Derived.Deep.DeepHandedRow
import Derived.Stop.LaidErr
import Derived.Lib.LaidTab
import Derived.SevenTiedAt
import Derived.Stop.Joined
import Derived.JoinedCond
import Derived.LaidLaws
namespace Go.Proofs.YtbeggbbiihhodaaGreatDoor
open Go Go.Deep Go.ChangeShapes Go.WideShapes Go.ChangeAt Go.RowKit
set_option maxRecDepth 100000
namespace schemaChecksCardProof
theorem k21 : ((Rows.schemaChecksRow.ifacesOut == Tryz.f3.resultTypes.toList.any (Tryz.pinned.checked.prog.ifacesRec ·))) = true := by kernel_rfl
theorem k22 : ((Rows.schemaChecksRow.loopsOut == Tryz.f3.resultTypes.toList.any (Tryz.pinned.checked.prog.loopsFrom ·))) = true := by kernel_rfl
theorem k23 : ((Rows.schemaChecksRow.plainKeys == Tryz.pinned.checked.prog.plainKeys)) = true := by kernel_rfl
theorem k24 : (Rows.schemaChecksRow.shortTexts.isNone) = true := by kernel_rfl
end schemaChecksCardProof
end Go.Proofs.YtbeggbbiihhodaaGreatDoor

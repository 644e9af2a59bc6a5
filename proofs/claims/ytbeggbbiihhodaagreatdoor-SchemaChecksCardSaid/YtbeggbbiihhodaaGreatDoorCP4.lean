/- What is proved: SchemaChecks's row: closed facts. Conditions: none. -/
import Derived.Test.YtbeggbbiihhodaaGreatDoorRows
import Derived.Test.YtbeggbbiihhodaaGreatDoorU7
import Derived.Test.YtbeggbbiihhodaaGreatDoorCards
import Derived.ProofKit
import Derived.OpenShut
import Derived.Lay
import Derived.MakeChecks
import Derived.Deep.Strs
import Derived.Deep.DeepHandedRow
import Derived.Stop.LaidErr
import Derived.Lib.LaidTab
import Derived.SevenTiedAt
import Derived.Stop.Joined
import Derived.JoinedCond
import Derived.LaidLaws
namespace Go.Proofs.YtbeggbbiihhodaaGreatDoor
open Go Go.Deep Go.ChangeShapes Go.WideShapes Go.ChangeAt Go.RowKit
set_option maxRecDepth 100000
namespace schemaChecksCardProof
theorem k13 : ((Rows.schemaChecksRow.named == Tryz.pinned.checked.prog.varsNamed 3)) = true := by kernel_rfl
theorem k14 : ((Rows.schemaChecksRow.maps == (Tryz.f3.params.toList ++ (OpenSpec.ofChange Rows.schemaChecksSpec).bare.plain.varTypes Tryz.pinned.checked.prog).any (Tryz.pinned.checked.prog.mapsRec ·))) = true := by kernel_rfl
theorem k15 : ((Rows.schemaChecksRow.ifaces == (Tryz.f3.params.toList ++ (OpenSpec.ofChange Rows.schemaChecksSpec).bare.plain.varTypes Tryz.pinned.checked.prog).any (Tryz.pinned.checked.prog.ifacesRec ·))) = true := by kernel_rfl
theorem k16 : ((Rows.schemaChecksRow.mapsOut == Tryz.pinned.checked.prog.mapsAmong Tryz.f3.resultTypes.toList)) = true := by kernel_rfl
end schemaChecksCardProof
end Go.Proofs.YtbeggbbiihhodaaGreatDoor

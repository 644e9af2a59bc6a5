/- What is proved: SchemaChecks's row: closed facts. Conditions: none. -/
import Derived.Test.YtbeggbbiihhodaaGreatDoorRows
import Derived.Test.YtbeggbbiihhodaaGreatDoorU7
import Derived.Test.YtbeggbbiihhodaaGreatDoorCards
import Derived.ProofKit
import Derived.OpenShut
import Derived.Lay
import Derived.MakeChecks
import Derived.Deep.Strs
import Derived.Deep.DeepHandedRow
import Derived.Stop.LaidErr
import Derived.Lib.LaidTab
import Derived.SevenTiedAt
import Derived.Stop.Joined
import Derived.JoinedCond
import Derived.LaidLaws
namespace Go.Proofs.YtbeggbbiihhodaaGreatDoor
open Go Go.Deep Go.ChangeShapes Go.WideShapes Go.ChangeAt Go.RowKit
set_option maxRecDepth 100000
namespace schemaChecksCardProof
theorem k29 : ((Rows.schemaChecksRow.kinds == (if Rows.schemaChecksRow.domain.isEmpty then [] else Tryz.f3.params.toList.map fun t => match Tryz.pinned.checked.prog.underlying t with | some (.int k) => some k | _ => none))) = true := by kernel_rfl
theorem k30 : ((Rows.schemaChecksRow.pinned == Rows.schemaChecksRow.pinnedBy)) = true := by kernel_rfl
theorem k31 : ((Rows.schemaChecksRow.veiled == (Tryz.f3.params.toList ++ (OpenSpec.ofChange Rows.schemaChecksSpec).bare.plain.varTypes Tryz.pinned.checked.prog ++ Tryz.f3.resultTypes.toList).any (Tryz.pinned.checked.prog.veiledRec ·))) = true := by kernel_rfl
theorem k32 : (Rows.schemaChecksRow.veiledFits Tryz.pinned.checked.prog Tryz.f3.params.toList (Tryz.f3.params.toList ++ (OpenSpec.ofChange Rows.schemaChecksSpec).bare.plain.varTypes Tryz.pinned.checked.prog ++ Tryz.f3.resultTypes.toList)) = true := by kernel_rfl
end schemaChecksCardProof
end Go.Proofs.YtbeggbbiihhodaaGreatDoor

/- What is proved: SchemaTexts's row: closed facts. Conditions: none. -/
import Derived.Test.YtaebljhlgbbjnaaGreatDoorRows
import Derived.Test.YtaebljhlgbbjnaaGreatDoorU7
import Derived.Test.YtaebljhlgbbjnaaGreatDoorCards
import Derived.ProofKit
import Derived.OpenShut
import Derived.Lay
import Derived.MakeChecks
import Derived.Deep.Strs
import Derived.Deep.DeepHandedRow
import Derived.Stop.LaidErr
import Derived.Lib.LaidTab
import Derived.SevenTiedAt
import Derived.Stop.Joined
import Derived.JoinedCond
import Derived.LaidLaws
namespace Go.Proofs.YtaebljhlgbbjnaaGreatDoor
open Go Go.Deep Go.ChangeShapes Go.WideShapes Go.ChangeAt Go.RowKit
set_option maxRecDepth 100000
namespace schemaTextsCardProof
theorem k5 : (namedTie Tryz.pinned.checked.prog Rows.schemaTextsRow.named (OpenSpec.ofChange Rows.schemaTextsSpec).bare.vars) = true := by kernel_rfl
theorem k6 : ((Rows.schemaTextsRow.stops == [])) = true := by kernel_rfl
theorem k7 : ((Tryz.pinned.checked.prog.stops == [])) = true := by kernel_rfl
theorem k8 : ((Rows.schemaTextsRow.knobs == [])) = true := by kernel_rfl
end schemaTextsCardProof
end Go.Proofs.YtaebljhlgbbjnaaGreatDoor

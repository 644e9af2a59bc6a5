/- What is proved: SchemaTexts's row: closed facts. Conditions: none. -/
import Derived.Test.YtaebljhlgbbjnaaGreatDoorRows
import Derived.Test.YtaebljhlgbbjnaaGreatDoorU7
import Derived.Test.YtaebljhlgbbjnaaGreatDoorCards
import Derived.ProofKit
import Derived.OpenShut
import Derived.Lay
import Derived.MakeChecks
import Derived.Deep.Strs
import Derived.Deep.DeepHandedRow
import Derived.Stop.LaidErr
import Derived.Lib.LaidTab
import Derived.SevenTiedAt
import Derived.Stop.Joined
import Derived.JoinedCond
import Derived.LaidLaws
namespace Go.Proofs.YtaebljhlgbbjnaaGreatDoor
open Go Go.Deep Go.ChangeShapes Go.WideShapes Go.ChangeAt Go.RowKit
set_option maxRecDepth 100000
namespace schemaTextsCardProof
theorem k21 : ((Rows.schemaTextsRow.ifacesOut == Tryz.f3.resultTypes.toList.any (Tryz.pinned.checked.prog.ifacesRec ·))) = true := by kernel_rfl
theorem k22 : ((Rows.schemaTextsRow.loopsOut == Tryz.f3.resultTypes.toList.any (Tryz.pinned.checked.prog.loopsFrom ·))) = true := by kernel_rfl
theorem k23 : ((Rows.schemaTextsRow.plainKeys == Tryz.pinned.checked.prog.plainKeys)) = true := by kernel_rfl
theorem k24 : (Rows.schemaTextsRow.shortTexts.isNone) = true := by kernel_rfl
end schemaTextsCardProof
end Go.Proofs.YtaebljhlgbbjnaaGreatDoor

/- What is proved: SchemaTexts's row: closed facts. Conditions: none. -/
import Derived.Test.YtaebljhlgbbjnaaGreatDoorRows
import Derived.Test.YtaebljhlgbbjnaaGreatDoorU7
import Derived.Test.YtaebljhlgbbjnaaGreatDoorCards
import Derived.ProofKit
import Derived.OpenShut
import Derived.Lay
import Derived.MakeChecks
import Derived.Deep.Strs
import Derived.Deep.DeepHandedRow
import Derived.Stop.LaidErr
import Derived.Lib.LaidTab
import Derived.SevenTiedAt
import Derived.Stop.Joined
import Derived.JoinedCond
import Derived.LaidLaws
namespace Go.Proofs.YtaebljhlgbbjnaaGreatDoor
open Go Go.Deep Go.ChangeShapes Go.WideShapes Go.ChangeAt Go.RowKit
set_option maxRecDepth 100000
namespace schemaTextsCardProof
theorem k9 : ((Tryz.pinned.checked.prog.stopKnobs == [])) = true := by kernel_rfl
theorem k10 : ((Rows.schemaTextsRow.inPlace == Tryz.pinned.checked.prog.inPlace 3)) = true := by kernel_rfl
theorem k11 : ((Rows.schemaTextsRow.unfollowed == Tryz.pinned.checked.prog.unfollowed 3)) = true := by kernel_rfl
theorem k12 : ((Rows.schemaTextsRow.recurses == Tryz.pinned.checked.prog.recurses 3)) = true := by kernel_rfl
end schemaTextsCardProof
end Go.Proofs.YtaebljhlgbbjnaaGreatDoor

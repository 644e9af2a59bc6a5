/- What is proved: DataChecks's row: closed facts. Conditions: none. -/
import Derived.Test.YtijnmoojncedlaaGreatDoorRows
import Derived.Test.YtijnmoojncedlaaGreatDoorU7
import Derived.Test.YtijnmoojncedlaaGreatDoorCards
import Derived.ProofKit
import Derived.OpenShut
import Derived.Lay
import Derived.MakeChecks
import Derived.Deep.Strs
import Derived.Deep.DeepHandedRow
import Derived.Stop.LaidErr
import Derived.Lib.LaidTab
import Derived.SevenTiedAt
import Derived.Stop.Joined
import Derived.JoinedCond
import Derived.LaidLaws
namespace Go.Proofs.YtijnmoojncedlaaGreatDoor
open Go Go.Deep Go.ChangeShapes Go.WideShapes Go.ChangeAt Go.RowKit
set_option maxRecDepth 100000
namespace dataChecksCardProof
theorem k9:((Tryz.pinned.checked.prog.stopKnobs==[]))=true:=by kernel_rfl
theorem k10:((Rows.dataChecksRow.inPlace==Tryz.pinned.checked.prog.inPlace 3))=true:=by kernel_rfl
theorem k11:((Rows.dataChecksRow.unfollowed==Tryz.pinned.checked.prog.unfollowed 3))=true:=by kernel_rfl
theorem k12:((Rows.dataChecksRow.recurses==Tryz.pinned.checked.prog.recurses 3))=true:=by kernel_rfl
end dataChecksCardProof
end Go.Proofs.YtijnmoojncedlaaGreatDoor

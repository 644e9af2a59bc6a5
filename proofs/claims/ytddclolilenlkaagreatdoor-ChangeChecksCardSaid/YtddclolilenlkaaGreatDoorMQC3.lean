/- What is proved: ChangeChecks's row and tied card. Conditions: none. -/
import Derived.Test.YtddclolilenlkaaGreatDoorRows
import Derived.Test.YtddclolilenlkaaGreatDoorU7
import Derived.Test.YtddclolilenlkaaGreatDoorCards
import Derived.Test.YtddclolilenlkaaGreatDoorCP1
import Derived.Test.YtddclolilenlkaaGreatDoorCP2
import Derived.Test.YtddclolilenlkaaGreatDoorCP3
import Derived.Test.YtddclolilenlkaaGreatDoorCP4
import Derived.Test.YtddclolilenlkaaGreatDoorCP5
import Derived.Test.YtddclolilenlkaaGreatDoorCP6
import Derived.Test.YtddclolilenlkaaGreatDoorCP7
import Derived.Test.YtddclolilenlkaaGreatDoorCP8
import Derived.ProofKit
import Derived.OpenShut
import Derived.Lay
import Derived.MakeChecks
import Derived.Deep.Strs
import Derived.Deep.DeepHandedRow
import Derived.Stop.LaidErr
import Derived.Lib.LaidTab
import Derived.SevenTiedAt
import Derived.Stop.Joined
import Derived.JoinedCond
import Derived.LaidLaws
set_option linter.unusedSimpArgs false
set_option linter.unusedVariables false
namespace Go.Proofs.YtddclolilenlkaaGreatDoor
open Go Go.Deep Go.ChangeShapes Go.WideShapes Go.ChangeAt Go.RowKit
set_option maxRecDepth 100000
namespace changeChecksCardProof
theorem nm:Tryz.pinned.checked.prog.funcNamed Rows.changeChecksRow.func=some 3:=by kernel_rfl
theorem and2 {a b:Bool} (h1:a=true) (h2:b=true):(a&&b)=true:=by rw [h1,h2];rfl
theorem closed:joinedFacts Tryz.pinned.checked.prog 3 Tryz.f3 (OpenSpec.ofChange Rows.changeChecksSpec).bare Rows.changeChecksRow=true:=by
 unfold joinedFacts
 exact (and2 (and2 (and2 (and2 (and2 (and2 (and2 (and2 (and2 (and2 (and2 (and2 (and2 (and2 (and2 (and2 (and2 (and2 (and2 (and2 (and2 (and2 (and2 (and2 (and2 (and2 (and2 (and2 (and2 (and2 (and2 k1 k2) k3) k4) k5) k6) k7) k8) k9) k10) k11) k12) k13) k14) k15) k16) k17) k18) k19) k20) k21) k22) k23) k24) k25) k26) k27) k28) k29) k30) k31) k32)
theorem inst:Tryz.f3.isInstance Tryz.pinned.checked.prog Rows.changeChecksRow.origin Rows.changeChecksRow.targs:=of_decide_eq_true (by kernel_rfl)
theorem wrapper:Tryz.f3.isWrapper Tryz.pinned.checked.prog Rows.changeChecksRow.wrapper Rows.changeChecksRow.mainSum:=by
 unfold Func.isWrapper;first | (rw [if_pos (by decide +kernel)];kernel_rfl) | (rw [if_neg (by decide +kernel)];exact ⟨rfl,rfl⟩)
end changeChecksCardProof
end Go.Proofs.YtddclolilenlkaaGreatDoor

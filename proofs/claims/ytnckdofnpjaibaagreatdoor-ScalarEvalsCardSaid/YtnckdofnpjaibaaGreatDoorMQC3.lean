/- What is proved: ScalarEvals's row and tied card. Conditions: none. -/
import Derived.Test.YtnckdofnpjaibaaGreatDoorRows
import Derived.Test.YtnckdofnpjaibaaGreatDoorTie
import Derived.Test.YtnckdofnpjaibaaGreatDoorCards
import Derived.ProofKit
import Derived.OpenShut
import Derived.Lay
import Derived.MakeChecks
import Derived.Deep.Strs
import Derived.Deep.DeepHandedRow
import Derived.Stop.LaidErr
import Derived.Lib.LaidTab
import Derived.SevenTiedAt
import Derived.Stop.Joined
import Derived.JoinedCond
import Derived.LaidLaws
set_option linter.unusedSimpArgs false
set_option linter.unusedVariables false
namespace Go.Proofs.YtnckdofnpjaibaaGreatDoor
open Go Go.Deep Go.ChangeShapes Go.WideShapes Go.ChangeAt Go.RowKit
set_option maxRecDepth 100000
namespace scalarEvalsCardProof
theorem nm : Tryz.pinned.checked.prog.funcNamed Rows.scalarEvalsRow.func = some 9 := by kernel_rfl
theorem and2 {a b : Bool} (h1 : a = true) (h2 : b = true) : (a && b) = true := by rw [h1, h2]; rfl
theorem k1 : (Rows.scalarEvalsRow.wf (OpenSpec.ofChange (OpenSpec.ofChange Rows.scalarEvalsSpec).bare)) = true := by kernel_rfl
theorem k2 : (laidOutB Tryz.pinned.checked.prog) = true := by kernel_rfl
theorem k3 : (mapsRowed Tryz.pinned.checked.prog) = true := by kernel_rfl
theorem k4 : (Tryz.f9.params.all (Tryz.pinned.checked.prog.readableRec ·)) = true := by kernel_rfl
theorem k5 : (namedTie Tryz.pinned.checked.prog Rows.scalarEvalsRow.named (OpenSpec.ofChange Rows.scalarEvalsSpec).bare.vars) = true := by kernel_rfl
theorem k6 : ((Rows.scalarEvalsRow.stops == [])) = true := by kernel_rfl
theorem k7 : ((Tryz.pinned.checked.prog.stops == [])) = true := by kernel_rfl
theorem k8 : ((Rows.scalarEvalsRow.knobs == [])) = true := by kernel_rfl
theorem k9 : ((Tryz.pinned.checked.prog.stopKnobs == [])) = true := by kernel_rfl
theorem k10 : ((Rows.scalarEvalsRow.inPlace == Tryz.pinned.checked.prog.inPlace 9)) = true := by kernel_rfl
theorem k11 : ((Rows.scalarEvalsRow.unfollowed == Tryz.pinned.checked.prog.unfollowed 9)) = true := by kernel_rfl
theorem k12 : ((Rows.scalarEvalsRow.recurses == Tryz.pinned.checked.prog.recurses 9)) = true := by kernel_rfl
theorem k13 : ((Rows.scalarEvalsRow.named == Tryz.pinned.checked.prog.varsNamed 9)) = true := by kernel_rfl
theorem k14 : ((Rows.scalarEvalsRow.maps == (Tryz.f9.params.toList ++ (OpenSpec.ofChange Rows.scalarEvalsSpec).bare.plain.varTypes Tryz.pinned.checked.prog).any (Tryz.pinned.checked.prog.mapsRec ·))) = true := by kernel_rfl
theorem k15 : ((Rows.scalarEvalsRow.ifaces == (Tryz.f9.params.toList ++ (OpenSpec.ofChange Rows.scalarEvalsSpec).bare.plain.varTypes Tryz.pinned.checked.prog).any (Tryz.pinned.checked.prog.ifacesRec ·))) = true := by kernel_rfl
theorem k16 : ((Rows.scalarEvalsRow.mapsOut == Tryz.pinned.checked.prog.mapsAmong Tryz.f9.resultTypes.toList)) = true := by kernel_rfl
theorem k17 : ((Rows.scalarEvalsRow.loops == (Tryz.f9.params.toList ++ (OpenSpec.ofChange Rows.scalarEvalsSpec).bare.plain.varTypes Tryz.pinned.checked.prog).any (Tryz.pinned.checked.prog.loopsFrom ·))) = true := by kernel_rfl
theorem k18 : ((Rows.scalarEvalsRow.wideKeys == (Tryz.f9.params.toList ++ (OpenSpec.ofChange Rows.scalarEvalsSpec).bare.plain.varTypes Tryz.pinned.checked.prog ++ Tryz.f9.resultTypes.toList).any (Tryz.pinned.checked.prog.wideKeysFrom ·))) = true := by kernel_rfl
theorem k19 : ((OpenSpec.ofChange Rows.scalarEvalsSpec).bare.vars.all (Tryz.pinned.checked.prog.varReadable ·)) = true := by kernel_rfl
theorem k20 : (Tryz.f9.resultTypes.all (fun t => Tryz.pinned.checked.prog.readableRec t && decide (t < Tryz.pinned.checked.prog.types.size))) = true := by kernel_rfl
theorem k21 : ((Rows.scalarEvalsRow.ifacesOut == Tryz.f9.resultTypes.toList.any (Tryz.pinned.checked.prog.ifacesRec ·))) = true := by kernel_rfl
theorem k22 : ((Rows.scalarEvalsRow.loopsOut == Tryz.f9.resultTypes.toList.any (Tryz.pinned.checked.prog.loopsFrom ·))) = true := by kernel_rfl
theorem k23 : ((Rows.scalarEvalsRow.plainKeys == Tryz.pinned.checked.prog.plainKeys)) = true := by kernel_rfl
theorem k24 : (Rows.scalarEvalsRow.shortTexts.isNone) = true := by kernel_rfl
theorem k25 : (Tryz.pinned.checked.prog.stopsHeard) = true := by kernel_rfl
theorem k26 : (Tryz.pinned.checked.prog.mayEnter) = true := by kernel_rfl
theorem k27 : ((Rows.scalarEvalsRow.lifted == Tryz.pinned.checked.prog.liftsFinal)) = true := by kernel_rfl
theorem k28 : ((Tryz.pinned.checked.prog.make == some Rows.scalarEvalsRow.make)) = true := by kernel_rfl
theorem k29 : ((Rows.scalarEvalsRow.kinds == (if Rows.scalarEvalsRow.domain.isEmpty then [] else Tryz.f9.params.toList.map fun t => match Tryz.pinned.checked.prog.underlying t with | some (.int k) => some k | _ => none))) = true := by kernel_rfl
theorem k30 : ((Rows.scalarEvalsRow.pinned == Rows.scalarEvalsRow.pinnedBy)) = true := by kernel_rfl
theorem k31 : ((Rows.scalarEvalsRow.veiled == (Tryz.f9.params.toList ++ (OpenSpec.ofChange Rows.scalarEvalsSpec).bare.plain.varTypes Tryz.pinned.checked.prog ++ Tryz.f9.resultTypes.toList).any (Tryz.pinned.checked.prog.veiledRec ·))) = true := by kernel_rfl
theorem k32 : (Rows.scalarEvalsRow.veiledFits Tryz.pinned.checked.prog Tryz.f9.params.toList (Tryz.f9.params.toList ++ (OpenSpec.ofChange Rows.scalarEvalsSpec).bare.plain.varTypes Tryz.pinned.checked.prog ++ Tryz.f9.resultTypes.toList)) = true := by kernel_rfl
theorem closed : joinedFacts Tryz.pinned.checked.prog 9 Tryz.f9 (OpenSpec.ofChange Rows.scalarEvalsSpec).bare Rows.scalarEvalsRow = true := by
  unfold joinedFacts
  exact (and2 (and2 (and2 (and2 (and2 (and2 (and2 (and2 (and2 (and2 (and2 (and2 (and2 (and2 (and2 (and2 (and2 (and2 (and2 (and2 (and2 (and2 (and2 (and2 (and2 (and2 (and2 (and2 (and2 (and2 (and2 k1 k2) k3) k4) k5) k6) k7) k8) k9) k10) k11) k12) k13) k14) k15) k16) k17) k18) k19) k20) k21) k22) k23) k24) k25) k26) k27) k28) k29) k30) k31) k32)
theorem inst : Tryz.f9.isInstance Tryz.pinned.checked.prog Rows.scalarEvalsRow.origin Rows.scalarEvalsRow.targs := of_decide_eq_true (by kernel_rfl)
theorem wrapper : Tryz.f9.isWrapper Tryz.pinned.checked.prog Rows.scalarEvalsRow.wrapper Rows.scalarEvalsRow.mainSum := by
  unfold Func.isWrapper; first | (rw [if_pos (by decide +kernel)]; kernel_rfl) | (rw [if_neg (by decide +kernel)]; exact ⟨rfl, rfl⟩)
end scalarEvalsCardProof
end Go.Proofs.YtnckdofnpjaibaaGreatDoor

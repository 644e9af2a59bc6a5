/- What is proved: what the run lays. Conditions: none. -/
import Derived.Test.YtddclolilenlkaaGreatDoorU1
namespace Go.Proofs.YtddclolilenlkaaGreatDoor
open Go
set_option maxRecDepth 100000
theorem tie_laid : ∀ os tape, (DataW.laidRun Tryz.prog (varsWorld Tryz.prog 400 (varsId Tryz.prog) os tape).memory 8 (tieL.map (·.1))).map (·.1) = some tieL := fun _ _ => by kernel_rfl
end Go.Proofs.YtddclolilenlkaaGreatDoor

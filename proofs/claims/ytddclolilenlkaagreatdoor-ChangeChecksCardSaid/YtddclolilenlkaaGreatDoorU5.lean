/- What is proved: where the run lays it. Conditions: none. -/
import Derived.Test.YtddclolilenlkaaGreatDoorU1
namespace Go.Proofs.YtddclolilenlkaaGreatDoor
open Go
set_option maxRecDepth 100000
theorem tie_places : ∀ os tape, (DataW.laidRun Tryz.prog (varsWorld Tryz.prog 400 (varsId Tryz.prog) os tape).memory 8 (tieL.map (·.1))).map (·.2) = some tieP := fun _ _ => by kernel_rfl
end Go.Proofs.YtddclolilenlkaaGreatDoor

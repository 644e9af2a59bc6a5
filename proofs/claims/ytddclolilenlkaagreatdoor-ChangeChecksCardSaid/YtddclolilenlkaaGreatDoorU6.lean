/- What is proved: that these places are whole rows of memory. Conditions: none. -/
import Derived.Test.YtddclolilenlkaaGreatDoorU1
namespace Go.Proofs.YtddclolilenlkaaGreatDoor
open Go
set_option maxRecDepth 100000
theorem tie_rows : ∀ os tape, laidRowsB Tryz.prog (varsWorld Tryz.prog 400 (varsId Tryz.prog) os tape).memory tieP = true := fun _ _ => by kernel_rfl
end Go.Proofs.YtddclolilenlkaaGreatDoor

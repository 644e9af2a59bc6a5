/- What is proved: that the run which lays the listed variables ends. Conditions: none. -/
import Derived.Test.YtddclolilenlkaaGreatDoorU1
namespace Go.Proofs.YtddclolilenlkaaGreatDoor
open Go
set_option maxRecDepth 100000
theorem tie_done : ∀ os tape, varsDone Tryz.prog 400 (varsId Tryz.prog) os tape = true := fun _ _ => by kernel_rfl
end Go.Proofs.YtddclolilenlkaaGreatDoor

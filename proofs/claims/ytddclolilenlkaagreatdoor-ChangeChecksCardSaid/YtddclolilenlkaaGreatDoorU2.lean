/- What is proved: that the listed variables are named as they should be. Conditions: none. -/
import Derived.Test.YtddclolilenlkaaGreatDoorU1
namespace Go.Proofs.YtddclolilenlkaaGreatDoor
open Go
set_option maxRecDepth 100000
theorem tie_named : varsNamedLaterB Tryz.prog (varsId Tryz.prog) tieL = true := by kernel_rfl
end Go.Proofs.YtddclolilenlkaaGreatDoor

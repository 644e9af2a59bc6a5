/- What is proved: ChangeChecks's card: closed facts. Conditions: none. -/
import Derived.Test.YtddclolilenlkaaGreatDoorRows
import Derived.Test.YtddclolilenlkaaGreatDoorU7
import Derived.Test.YtddclolilenlkaaGreatDoorCards
import Derived.ProofKit
import Derived.OpenShut
import Derived.Lay
import Derived.MakeChecks
import Derived.Deep.Strs
import Derived.Deep.DeepHandedRow
import Derived.Stop.LaidErr
import Derived.Lib.LaidTab
import Derived.SevenTiedAt
import Derived.Stop.Joined
import Derived.JoinedCond
import Derived.LaidLaws
namespace Go.Proofs.YtddclolilenlkaaGreatDoor
open Go Go.Deep Go.ChangeShapes Go.WideShapes Go.ChangeAt Go.RowKit
set_option maxRecDepth 100000
namespace changeChecksCardProof
theorem none_goes:Tryz.pinned.checked.prog.funcs.any Func.goes=false:=by kernel_rfl
theorem goes_no {P:Program} (h:P.funcs.any Func.goes=false) (f:FuncId):P.goes f=false:=by
 unfold Program.goes
 rw [h,Bool.and_false,Bool.or_false,List.any_eq_false]
 intro g _
 cases e:P.funcs[g]? with
 | none=>simp
 | some fn =>
 rw [Array.any_eq_false] at h
 obtain ⟨h1,h2⟩:=Array.getElem?_eq_some_iff.1 e
 have:=h g h1
 rw [h2] at this
 simpa using this
theorem from_no {P:Program} (h:P.funcs.any Func.goes=false) (s:String):P.goesFrom s=false:=by
 unfold Program.goesFrom
 cases P.funcNamed s with
 | none=>rfl
 | some f=>exact goes_no h f
theorem at_no {P:Program} (h:P.funcs.any Func.goes=false) (c:OpenClaim) (hs:c.start=.entering):c.goesBy P=false:=by
 unfold OpenClaim.goesBy Program.goesAt
 rw [from_no h,hs]
 rfl
theorem card_goes:false=Rows.changeChecksRow.goesBy Tryz.pinned.checked.prog:=(at_no none_goes Rows.changeChecksRow rfl).symm
end changeChecksCardProof
end Go.Proofs.YtddclolilenlkaaGreatDoor

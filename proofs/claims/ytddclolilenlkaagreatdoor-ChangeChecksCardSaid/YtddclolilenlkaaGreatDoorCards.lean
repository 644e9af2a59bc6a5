/-
  DERIVED. GIVEN WITH THE SEED: THE CARDS: each row of YtddclolilenlkaaGreatDoorRows.lean that lists a variable, with what it lists TIED to the program's text (the seventh form; the later family's looks); each row that meets fmt, with fmt's text TOLD by the authors' own Lean function (tested against real Go, not proved from fmt's source: count such statements apart). THE CARD IS WHAT COUNTS. Prove the row's statement (the work); the ties are given (YtddclolilenlkaaGreatDoorTie.lean); close each card by the builder's one call (the guide's Derived/Test/ToyasCard.lean, 'card_holds'). Laid BY PROGRAM, IN A SANDBOX (cutbox-door.mjs). By AI agents, Wed Nov 11 2026. No macro, syntax, notation, axiom, sorry.
-/
import Derived.Test.YtddclolilenlkaaGreatDoorRows
import GoSem.ClaimSeven
namespace Go.Proofs.YtddclolilenlkaaGreatDoor
namespace Rows

/-- THE TIED CARD OF 'dumblaw1.ChangeChecks'. -/
def changeChecksCard : Claim7 := { stood := { row := changeChecksRow, standIns := [], harness := (true, "7ed706cef1f45b5a14e1098243e97e701732c49ed49d3943350fbe3c493c9a23"), looks := true }, kinds := [], alts := [], laidByText := true, laidKinds := [.pinned, .data, .data, .data, .data, .sentinel, .sentinel, .data, .listed], laidTests := true, laidLooks := .later }
def ChangeChecksCardSaid : Prop := Claim7.holds Tryz.pinned (.plain (OpenSpec.ofChange changeChecksSpec)) changeChecksCard

/-- THE SECOND FORM's CARD OF 'dumblaw1.ChangeChecks'. -/
def changeChecksUptoCard : Claim7 := { stood := { row := changeChecksUptoRow, standIns := [], harness := (true, "7ed706cef1f45b5a14e1098243e97e701732c49ed49d3943350fbe3c493c9a23"), looks := true }, kinds := [], alts := [], laidByText := true, laidKinds := [.pinned, .data, .data, .data, .data, .sentinel, .sentinel, .data, .listed], laidTests := true, laidLooks := .later }
def ChangeChecksUptoCardSaid : Prop := Claim7.holds Tryz.pinned (.plain (OpenSpec.upto changeChecksSpec)) changeChecksUptoCard
end Rows
end Go.Proofs.YtddclolilenlkaaGreatDoor

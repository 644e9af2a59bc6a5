/-
  DERIVED. GIVEN WITH THE SEED: THE CARDS: each row of YthdocgcbifoaaaaGreatDoorRows.lean that lists a variable, with what it lists TIED to the program's text (the seventh form; the later family's looks); each row that meets fmt, with fmt's text TOLD by the authors' own Lean function (tested against real Go, not proved from fmt's source: count such statements apart). THE CARD IS WHAT COUNTS. Prove the row's statement (the work); the ties are given (YthdocgcbifoaaaaGreatDoorTie.lean); close each card by the builder's one call (the guide's Derived/Test/ToyasCard.lean, 'card_holds'). Laid BY PROGRAM, IN A SANDBOX (cutbox-door.mjs). By AI agents, Wed Nov 11 2026. No macro, syntax, notation, axiom, sorry.
-/
import Derived.Test.YthdocgcbifoaaaaGreatDoorRows
import GoSem.ClaimSeven
namespace Go.Proofs.YthdocgcbifoaaaaGreatDoor
namespace Rows

/-- THE TIED CARD OF 'dumblaw1.StoreBreaks'. -/
def storeBreaksCard : Claim7 := { stood := { row := storeBreaksRow, standIns := [], harness := (true, "27e64e63b1979eb1cb3bfa5ff5388d01525a02dcf2805e312162e13bc2dee8f3"), looks := true }, kinds := [], alts := [], laidByText := true, laidKinds := [.data, .data, .data, .data, .sentinel, .sentinel, .listed, .data, .pinned], laidTests := true, laidLooks := .later }
def StoreBreaksCardSaid : Prop := Claim7.holds Tryz.pinned (.plain (OpenSpec.ofChange storeBreaksSpec)) storeBreaksCard

/-- THE SECOND FORM's CARD OF 'dumblaw1.StoreBreaks'. -/
def storeBreaksUptoCard : Claim7 := { stood := { row := storeBreaksUptoRow, standIns := [], harness := (true, "27e64e63b1979eb1cb3bfa5ff5388d01525a02dcf2805e312162e13bc2dee8f3"), looks := true }, kinds := [], alts := [], laidByText := true, laidKinds := [.data, .data, .data, .data, .sentinel, .sentinel, .listed, .data, .pinned], laidTests := true, laidLooks := .later }
def StoreBreaksUptoCardSaid : Prop := Claim7.holds Tryz.pinned (.plain (OpenSpec.upto storeBreaksSpec)) storeBreaksUptoCard
end Rows
end Go.Proofs.YthdocgcbifoaaaaGreatDoor

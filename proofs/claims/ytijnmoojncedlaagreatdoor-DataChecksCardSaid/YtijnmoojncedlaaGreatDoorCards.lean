/-
  DERIVED. GIVEN WITH THE SEED: THE CARDS: each row of YtijnmoojncedlaaGreatDoorRows.lean that lists a variable, with what it lists TIED to the program's text (the seventh form; the later family's looks); each row that meets fmt, with fmt's text TOLD by the authors' own Lean function (tested against real Go, not proved from fmt's source: count such statements apart). THE CARD IS WHAT COUNTS. Prove the row's statement (the work); the ties are given (YtijnmoojncedlaaGreatDoorTie.lean); close each card by the builder's one call (the guide's Derived/Test/ToyasCard.lean, 'card_holds'). Laid BY PROGRAM, IN A SANDBOX (cutbox-door.mjs). By AI agents, Wed Nov 11 2026. No macro, syntax, notation, axiom, sorry.
-/
import Derived.Test.YtijnmoojncedlaaGreatDoorRows
import GoSem.ClaimSeven
namespace Go.Proofs.YtijnmoojncedlaaGreatDoor
namespace Rows

/-- THE TIED CARD OF 'dumblaw1.DataChecks'. -/
def dataChecksCard : Claim7 := { stood := { row := dataChecksRow, standIns := [], harness := (true, "829397771c86aa0dd14bd458f30545b62c0e21cabe7212b4e555a007b601d7c8"), looks := true }, kinds := [], alts := [], laidByText := true, laidKinds := [.pinned, .data, .data, .listed, .sentinel, .sentinel, .data, .data, .data], laidTests := true, laidLooks := .later }
def DataChecksCardSaid : Prop := Claim7.holds Tryz.pinned (.plain (OpenSpec.ofChange dataChecksSpec)) dataChecksCard

/-- THE SECOND FORM's CARD OF 'dumblaw1.DataChecks'. -/
def dataChecksUptoCard : Claim7 := { stood := { row := dataChecksUptoRow, standIns := [], harness := (true, "829397771c86aa0dd14bd458f30545b62c0e21cabe7212b4e555a007b601d7c8"), looks := true }, kinds := [], alts := [], laidByText := true, laidKinds := [.pinned, .data, .data, .listed, .sentinel, .sentinel, .data, .data, .data], laidTests := true, laidLooks := .later }
def DataChecksUptoCardSaid : Prop := Claim7.holds Tryz.pinned (.plain (OpenSpec.upto dataChecksSpec)) dataChecksUptoCard
end Rows
end Go.Proofs.YtijnmoojncedlaaGreatDoor

/-
  DERIVED. GIVEN WITH THE SEED: THE CARDS: each row of YtdhobhodbficjaaGreatDoorRows.lean that lists a variable, with what it lists TIED to the program's text (the seventh form; the later family's looks); each row that meets fmt, with fmt's text TOLD by the authors' own Lean function (tested against real Go, not proved from fmt's source: count such statements apart). THE CARD IS WHAT COUNTS. Prove the row's statement (the work); the ties are given (YtdhobhodbficjaaGreatDoorTie.lean); close each card by the builder's one call (the guide's Derived/Test/ToyasCard.lean, 'card_holds'). Laid BY PROGRAM, IN A SANDBOX (cutbox-door.mjs). By AI agents, Wed Nov 11 2026. No macro, syntax, notation, axiom, sorry.
-/
import Derived.Test.YtdhobhodbficjaaGreatDoorRows
import GoSem.ClaimSeven
namespace Go.Proofs.YtdhobhodbficjaaGreatDoor
namespace Rows

/-- THE TIED CARD OF 'dumblaw1.SqlLimits'. -/
def sqlLimitsCard : Claim7 := { stood := { row := sqlLimitsRow, standIns := [], harness := (true, "fe7fbc599fb33b7801acd93a36d717d084e197be9631b85347e8aaf59d6d503c"), looks := true }, kinds := [], alts := [], laidByText := true, laidKinds := [.sentinel, .sentinel, .data, .data, .data, .pinned, .data, .data, .listed, .pinned, .pinned, .pinned, .pinned, .pinned, .pinned], laidTests := true, laidLooks := .later }
def SqlLimitsCardSaid : Prop := Claim7.holds Tryz.pinned (.plain (OpenSpec.ofChange sqlLimitsSpec)) sqlLimitsCard

/-- THE SECOND FORM's CARD OF 'dumblaw1.SqlLimits'. -/
def sqlLimitsUptoCard : Claim7 := { stood := { row := sqlLimitsUptoRow, standIns := [], harness := (true, "fe7fbc599fb33b7801acd93a36d717d084e197be9631b85347e8aaf59d6d503c"), looks := true }, kinds := [], alts := [], laidByText := true, laidKinds := [.sentinel, .sentinel, .data, .data, .data, .pinned, .data, .data, .listed, .pinned, .pinned, .pinned, .pinned, .pinned, .pinned], laidTests := true, laidLooks := .later }
def SqlLimitsUptoCardSaid : Prop := Claim7.holds Tryz.pinned (.plain (OpenSpec.upto sqlLimitsSpec)) sqlLimitsUptoCard
end Rows
end Go.Proofs.YtdhobhodbficjaaGreatDoor

/-
  DERIVED. GIVEN WITH THE SEED: THE CARDS: each row of YtnckdofnpjaibaaGreatDoorRows.lean that lists a variable, with what it lists TIED to the program's text (the seventh form; the later family's looks); each row that meets fmt, with fmt's text TOLD by the authors' own Lean function (tested against real Go, not proved from fmt's source: count such statements apart). THE CARD IS WHAT COUNTS. Prove the row's statement (the work); the ties are given (YtnckdofnpjaibaaGreatDoorTie.lean); close each card by the builder's one call (the guide's Derived/Test/ToyasCard.lean, 'card_holds'). Laid BY PROGRAM, IN A SANDBOX (cutbox-door.mjs). By AI agents, Wed Nov 11 2026. No macro, syntax, notation, axiom, sorry.
-/
import Derived.Test.YtnckdofnpjaibaaGreatDoorRows
import GoSem.ClaimSeven
namespace Go.Proofs.YtnckdofnpjaibaaGreatDoor
namespace Rows

/-- THE TIED CARD OF 'dumblaw1.ValueTexts'. -/
def valueTextsCard : Claim7 := { stood := { row := valueTextsRow, standIns := [], harness := (true, "7f6b798664c2dcae1da8c485376fa3a02dabf10a21e64708fb3c7a753d3e81ac"), looks := true }, kinds := [], alts := [], laidByText := true, laidKinds := [.data, .data, .data, .data, .sentinel, .sentinel, .listed, .data, .pinned, .pinned], laidTests := true, laidLooks := .later }
def ValueTextsCardSaid : Prop := Claim7.holds Tryz.pinned (.plain (OpenSpec.ofChange valueTextsSpec)) valueTextsCard

/-- THE TIED CARD OF 'dumblaw1.ValueCasts'. -/
def valueCastsCard : Claim7 := { stood := { row := valueCastsRow, standIns := [], harness := (true, "7f6b798664c2dcae1da8c485376fa3a02dabf10a21e64708fb3c7a753d3e81ac"), looks := true }, kinds := [], alts := [], laidByText := true, laidKinds := [.data, .data, .data, .data, .sentinel, .sentinel, .listed, .data, .pinned, .pinned], laidTests := true, laidLooks := .later }
def ValueCastsCardSaid : Prop := Claim7.holds Tryz.pinned (.plain (OpenSpec.ofChange valueCastsSpec)) valueCastsCard

/-- THE TIED CARD OF 'dumblaw1.ValueLogic'. -/
def valueLogicCard : Claim7 := { stood := { row := valueLogicRow, standIns := [], harness := (true, "7f6b798664c2dcae1da8c485376fa3a02dabf10a21e64708fb3c7a753d3e81ac"), looks := true }, kinds := [], alts := [], laidByText := true, laidKinds := [.data, .data, .data, .data, .sentinel, .sentinel, .listed, .data, .pinned, .pinned], laidTests := true, laidLooks := .later }
def ValueLogicCardSaid : Prop := Claim7.holds Tryz.pinned (.plain (OpenSpec.ofChange valueLogicSpec)) valueLogicCard

/-- THE TIED CARD OF 'dumblaw1.ValueNumbers'. -/
def valueNumbersCard : Claim7 := { stood := { row := valueNumbersRow, standIns := [], harness := (true, "7f6b798664c2dcae1da8c485376fa3a02dabf10a21e64708fb3c7a753d3e81ac"), looks := true }, kinds := [], alts := [], laidByText := true, laidKinds := [.data, .data, .data, .data, .sentinel, .sentinel, .listed, .data, .pinned, .pinned], laidTests := true, laidLooks := .later }
def ValueNumbersCardSaid : Prop := Claim7.holds Tryz.pinned (.plain (OpenSpec.ofChange valueNumbersSpec)) valueNumbersCard

/-- THE TIED CARD OF 'dumblaw1.ValueWords'. -/
def valueWordsCard : Claim7 := { stood := { row := valueWordsRow, standIns := [], harness := (true, "7f6b798664c2dcae1da8c485376fa3a02dabf10a21e64708fb3c7a753d3e81ac"), looks := true }, kinds := [], alts := [], laidByText := true, laidKinds := [.data, .data, .data, .data, .sentinel, .sentinel, .listed, .data, .pinned, .pinned], laidTests := true, laidLooks := .later }
def ValueWordsCardSaid : Prop := Claim7.holds Tryz.pinned (.plain (OpenSpec.ofChange valueWordsSpec)) valueWordsCard

/-- THE TIED CARD OF 'dumblaw1.ValueLikes'. -/
def valueLikesCard : Claim7 := { stood := { row := valueLikesRow, standIns := [], harness := (true, "7f6b798664c2dcae1da8c485376fa3a02dabf10a21e64708fb3c7a753d3e81ac"), looks := true }, kinds := [], alts := [], laidByText := true, laidKinds := [.data, .data, .data, .data, .sentinel, .sentinel, .listed, .data, .pinned, .pinned], laidTests := true, laidLooks := .later }
def ValueLikesCardSaid : Prop := Claim7.holds Tryz.pinned (.plain (OpenSpec.ofChange valueLikesSpec)) valueLikesCard

/-- THE TIED CARD OF 'dumblaw1.ScalarEvals'. -/
def scalarEvalsCard : Claim7 := { stood := { row := scalarEvalsRow, standIns := [], harness := (true, "7f6b798664c2dcae1da8c485376fa3a02dabf10a21e64708fb3c7a753d3e81ac"), looks := true }, kinds := [], alts := [], laidByText := true, laidKinds := [.data, .data, .data, .data, .sentinel, .sentinel, .listed, .data, .pinned, .pinned], laidTests := true, laidLooks := .later }
def ScalarEvalsCardSaid : Prop := Claim7.holds Tryz.pinned (.plain (OpenSpec.ofChange scalarEvalsSpec)) scalarEvalsCard

/-- THE TIED CARD OF 'dumblaw1.ScalarTexts'. -/
def scalarTextsCard : Claim7 := { stood := { row := scalarTextsRow, standIns := [], harness := (true, "7f6b798664c2dcae1da8c485376fa3a02dabf10a21e64708fb3c7a753d3e81ac"), looks := true }, kinds := [], alts := [], laidByText := true, laidKinds := [.data, .data, .data, .data, .sentinel, .sentinel, .listed, .data, .pinned, .pinned], laidTests := true, laidLooks := .later }
def ScalarTextsCardSaid : Prop := Claim7.holds Tryz.pinned (.plain (OpenSpec.ofChange scalarTextsSpec)) scalarTextsCard

/-- THE SECOND FORM's CARD OF 'dumblaw1.ValueTexts'. -/
def valueTextsUptoCard : Claim7 := { stood := { row := valueTextsUptoRow, standIns := [], harness := (true, "7f6b798664c2dcae1da8c485376fa3a02dabf10a21e64708fb3c7a753d3e81ac"), looks := true }, kinds := [], alts := [], laidByText := true, laidKinds := [.data, .data, .data, .data, .sentinel, .sentinel, .listed, .data, .pinned, .pinned], laidTests := true, laidLooks := .later }
def ValueTextsUptoCardSaid : Prop := Claim7.holds Tryz.pinned (.plain (OpenSpec.upto valueTextsSpec)) valueTextsUptoCard

/-- THE SECOND FORM's CARD OF 'dumblaw1.ValueCasts'. -/
def valueCastsUptoCard : Claim7 := { stood := { row := valueCastsUptoRow, standIns := [], harness := (true, "7f6b798664c2dcae1da8c485376fa3a02dabf10a21e64708fb3c7a753d3e81ac"), looks := true }, kinds := [], alts := [], laidByText := true, laidKinds := [.data, .data, .data, .data, .sentinel, .sentinel, .listed, .data, .pinned, .pinned], laidTests := true, laidLooks := .later }
def ValueCastsUptoCardSaid : Prop := Claim7.holds Tryz.pinned (.plain (OpenSpec.upto valueCastsSpec)) valueCastsUptoCard

/-- THE SECOND FORM's CARD OF 'dumblaw1.ValueLogic'. -/
def valueLogicUptoCard : Claim7 := { stood := { row := valueLogicUptoRow, standIns := [], harness := (true, "7f6b798664c2dcae1da8c485376fa3a02dabf10a21e64708fb3c7a753d3e81ac"), looks := true }, kinds := [], alts := [], laidByText := true, laidKinds := [.data, .data, .data, .data, .sentinel, .sentinel, .listed, .data, .pinned, .pinned], laidTests := true, laidLooks := .later }
def ValueLogicUptoCardSaid : Prop := Claim7.holds Tryz.pinned (.plain (OpenSpec.upto valueLogicSpec)) valueLogicUptoCard

/-- THE SECOND FORM's CARD OF 'dumblaw1.ValueNumbers'. -/
def valueNumbersUptoCard : Claim7 := { stood := { row := valueNumbersUptoRow, standIns := [], harness := (true, "7f6b798664c2dcae1da8c485376fa3a02dabf10a21e64708fb3c7a753d3e81ac"), looks := true }, kinds := [], alts := [], laidByText := true, laidKinds := [.data, .data, .data, .data, .sentinel, .sentinel, .listed, .data, .pinned, .pinned], laidTests := true, laidLooks := .later }
def ValueNumbersUptoCardSaid : Prop := Claim7.holds Tryz.pinned (.plain (OpenSpec.upto valueNumbersSpec)) valueNumbersUptoCard

/-- THE SECOND FORM's CARD OF 'dumblaw1.ValueWords'. -/
def valueWordsUptoCard : Claim7 := { stood := { row := valueWordsUptoRow, standIns := [], harness := (true, "7f6b798664c2dcae1da8c485376fa3a02dabf10a21e64708fb3c7a753d3e81ac"), looks := true }, kinds := [], alts := [], laidByText := true, laidKinds := [.data, .data, .data, .data, .sentinel, .sentinel, .listed, .data, .pinned, .pinned], laidTests := true, laidLooks := .later }
def ValueWordsUptoCardSaid : Prop := Claim7.holds Tryz.pinned (.plain (OpenSpec.upto valueWordsSpec)) valueWordsUptoCard

/-- THE SECOND FORM's CARD OF 'dumblaw1.ValueLikes'. -/
def valueLikesUptoCard : Claim7 := { stood := { row := valueLikesUptoRow, standIns := [], harness := (true, "7f6b798664c2dcae1da8c485376fa3a02dabf10a21e64708fb3c7a753d3e81ac"), looks := true }, kinds := [], alts := [], laidByText := true, laidKinds := [.data, .data, .data, .data, .sentinel, .sentinel, .listed, .data, .pinned, .pinned], laidTests := true, laidLooks := .later }
def ValueLikesUptoCardSaid : Prop := Claim7.holds Tryz.pinned (.plain (OpenSpec.upto valueLikesSpec)) valueLikesUptoCard

/-- THE SECOND FORM's CARD OF 'dumblaw1.ScalarEvals'. -/
def scalarEvalsUptoCard : Claim7 := { stood := { row := scalarEvalsUptoRow, standIns := [], harness := (true, "7f6b798664c2dcae1da8c485376fa3a02dabf10a21e64708fb3c7a753d3e81ac"), looks := true }, kinds := [], alts := [], laidByText := true, laidKinds := [.data, .data, .data, .data, .sentinel, .sentinel, .listed, .data, .pinned, .pinned], laidTests := true, laidLooks := .later }
def ScalarEvalsUptoCardSaid : Prop := Claim7.holds Tryz.pinned (.plain (OpenSpec.upto scalarEvalsSpec)) scalarEvalsUptoCard

/-- THE SECOND FORM's CARD OF 'dumblaw1.ScalarTexts'. -/
def scalarTextsUptoCard : Claim7 := { stood := { row := scalarTextsUptoRow, standIns := [], harness := (true, "7f6b798664c2dcae1da8c485376fa3a02dabf10a21e64708fb3c7a753d3e81ac"), looks := true }, kinds := [], alts := [], laidByText := true, laidKinds := [.data, .data, .data, .data, .sentinel, .sentinel, .listed, .data, .pinned, .pinned], laidTests := true, laidLooks := .later }
def ScalarTextsUptoCardSaid : Prop := Claim7.holds Tryz.pinned (.plain (OpenSpec.upto scalarTextsSpec)) scalarTextsUptoCard
end Rows
end Go.Proofs.YtnckdofnpjaibaaGreatDoor

/-
  DERIVED. GIVEN WITH THE SEED: THE CARDS: each row of YtjdgdinalodjfaaGreatDoorRows.lean that lists a variable, with what it lists TIED to the program's text (the seventh form; the later family's looks); each row that meets fmt, with fmt's text TOLD by the authors' own Lean function (tested against real Go, not proved from fmt's source: count such statements apart). THE CARD IS WHAT COUNTS. Prove the row's statement (the work); the ties are given (YtjdgdinalodjfaaGreatDoorTie.lean); close each card by the builder's one call (the guide's Derived/Test/ToyasCard.lean, 'card_holds'). Laid BY PROGRAM, IN A SANDBOX (cutbox-door.mjs). By AI agents, Wed Nov 11 2026. No macro, syntax, notation, axiom, sorry.
-/
import Derived.Test.YtjdgdinalodjfaaGreatDoorRows
import GoSem.ClaimSeven
namespace Go.Proofs.YtjdgdinalodjfaaGreatDoor
namespace Rows

/-- THE TIED CARD OF 'mahlsticklaw01.LetterPlaced'. -/
def letterPlacedCard : Claim7 := { stood := { row := letterPlacedRow, standIns := [], harness := (true, "c6c35c26350f8f1001e286baba07dbfbfaca16fe3311917b4f7043a2b45b2948"), looks := true }, kinds := [], alts := [], laidByText := true, laidKinds := [.data, .data, .data, .data, .pinned], laidTests := true, laidLooks := .later }
def LetterPlacedCardSaid : Prop := Claim7.holds Tryz.pinned (.plain (OpenSpec.ofChange letterPlacedSpec)) letterPlacedCard

/-- THE TIED CARD OF 'mahlsticklaw01.LetterStretches'. -/
def letterStretchesCard : Claim7 := { stood := { row := letterStretchesRow, standIns := [], harness := (true, "c6c35c26350f8f1001e286baba07dbfbfaca16fe3311917b4f7043a2b45b2948"), looks := true }, kinds := [], alts := [], laidByText := true, laidKinds := [.data, .data, .data, .data, .pinned], laidTests := true, laidLooks := .later }
def LetterStretchesCardSaid : Prop := Claim7.holds Tryz.pinned (.plain (OpenSpec.ofChange letterStretchesSpec)) letterStretchesCard

/-- THE TIED CARD OF 'mahlsticklaw01.LetterWide'. -/
def letterWideCard : Claim7 := { stood := { row := letterWideRow, standIns := [], harness := (true, "c6c35c26350f8f1001e286baba07dbfbfaca16fe3311917b4f7043a2b45b2948"), looks := true }, kinds := [], alts := [], laidByText := true, laidKinds := [.data, .data, .data, .data, .pinned], laidTests := true, laidLooks := .later }
def LetterWideCardSaid : Prop := Claim7.holds Tryz.pinned (.plain (OpenSpec.ofChange letterWideSpec)) letterWideCard

/-- THE TIED CARD OF 'mahlsticklaw01.LetterSets'. -/
def letterSetsCard : Claim7 := { stood := { row := letterSetsRow, standIns := [], harness := (true, "c6c35c26350f8f1001e286baba07dbfbfaca16fe3311917b4f7043a2b45b2948"), looks := true }, kinds := [], alts := [], laidByText := true, laidKinds := [.data, .data, .data, .data, .pinned], laidTests := true, laidLooks := .later }
def LetterSetsCardSaid : Prop := Claim7.holds Tryz.pinned (.plain (OpenSpec.ofChange letterSetsSpec)) letterSetsCard

/-- THE TIED CARD OF 'mahlsticklaw01.LetterRival'. -/
def letterRivalCard : Claim7 := { stood := { row := letterRivalRow, standIns := [], harness := (true, "c6c35c26350f8f1001e286baba07dbfbfaca16fe3311917b4f7043a2b45b2948"), looks := true }, kinds := [], alts := [], laidByText := true, laidKinds := [.data, .data, .data, .data, .pinned], laidTests := true, laidLooks := .later }
def LetterRivalCardSaid : Prop := Claim7.holds Tryz.pinned (.plain (OpenSpec.ofChange letterRivalSpec)) letterRivalCard

/-- THE TIED CARD OF 'mahlsticklaw01.LetterCounts'. -/
def letterCountsCard : Claim7 := { stood := { row := letterCountsRow, standIns := [], harness := (true, "c6c35c26350f8f1001e286baba07dbfbfaca16fe3311917b4f7043a2b45b2948"), looks := true }, kinds := [], alts := [], laidByText := true, laidKinds := [.data, .data, .data, .data, .pinned], laidTests := true, laidLooks := .later }
def LetterCountsCardSaid : Prop := Claim7.holds Tryz.pinned (.plain (OpenSpec.ofChange letterCountsSpec)) letterCountsCard

/-- THE TIED CARD OF 'mahlsticklaw01.LetterListed'. -/
def letterListedCard : Claim7 := { stood := { row := letterListedRow, standIns := [], harness := (true, "c6c35c26350f8f1001e286baba07dbfbfaca16fe3311917b4f7043a2b45b2948"), looks := true }, kinds := [], alts := [], laidByText := true, laidKinds := [.data, .data, .data, .data, .pinned], laidTests := true, laidLooks := .later }
def LetterListedCardSaid : Prop := Claim7.holds Tryz.pinned (.plain (OpenSpec.ofChange letterListedSpec)) letterListedCard

/-- THE TIED CARD OF 'mahlsticklaw01.LetterDrops'. -/
def letterDropsCard : Claim7 := { stood := { row := letterDropsRow, standIns := [], harness := (true, "c6c35c26350f8f1001e286baba07dbfbfaca16fe3311917b4f7043a2b45b2948"), looks := true }, kinds := [], alts := [], laidByText := true, laidKinds := [.data, .data, .data, .data, .pinned], laidTests := true, laidLooks := .later }
def LetterDropsCardSaid : Prop := Claim7.holds Tryz.pinned (.plain (OpenSpec.ofChange letterDropsSpec)) letterDropsCard

/-- THE TIED CARD OF 'mahlsticklaw01.LetterLess'. -/
def letterLessCard : Claim7 := { stood := { row := letterLessRow, standIns := [], harness := (true, "c6c35c26350f8f1001e286baba07dbfbfaca16fe3311917b4f7043a2b45b2948"), looks := true }, kinds := [], alts := [], laidByText := true, laidKinds := [.data, .data, .data, .data, .pinned], laidTests := true, laidLooks := .later }
def LetterLessCardSaid : Prop := Claim7.holds Tryz.pinned (.plain (OpenSpec.ofChange letterLessSpec)) letterLessCard

/-- THE TIED CARD OF 'mahlsticklaw01.LetterOvers'. -/
def letterOversCard : Claim7 := { stood := { row := letterOversRow, standIns := [], harness := (true, "c6c35c26350f8f1001e286baba07dbfbfaca16fe3311917b4f7043a2b45b2948"), looks := true }, kinds := [], alts := [], laidByText := true, laidKinds := [.data, .data, .data, .data, .pinned], laidTests := true, laidLooks := .later }
def LetterOversCardSaid : Prop := Claim7.holds Tryz.pinned (.plain (OpenSpec.ofChange letterOversSpec)) letterOversCard

/-- THE TIED CARD OF 'mahlsticklaw01.LetterCutOff'. -/
def letterCutOffCard : Claim7 := { stood := { row := letterCutOffRow, standIns := [], harness := (true, "c6c35c26350f8f1001e286baba07dbfbfaca16fe3311917b4f7043a2b45b2948"), looks := true }, kinds := [], alts := [], laidByText := true, laidKinds := [.data, .data, .data, .data, .pinned], laidTests := true, laidLooks := .later }
def LetterCutOffCardSaid : Prop := Claim7.holds Tryz.pinned (.plain (OpenSpec.ofChange letterCutOffSpec)) letterCutOffCard

/-- THE TIED CARD OF 'mahlsticklaw01.LetterFronts'. -/
def letterFrontsCard : Claim7 := { stood := { row := letterFrontsRow, standIns := [], harness := (true, "c6c35c26350f8f1001e286baba07dbfbfaca16fe3311917b4f7043a2b45b2948"), looks := true }, kinds := [], alts := [], laidByText := true, laidKinds := [.data, .data, .data, .data, .pinned], laidTests := true, laidLooks := .later }
def LetterFrontsCardSaid : Prop := Claim7.holds Tryz.pinned (.plain (OpenSpec.ofChange letterFrontsSpec)) letterFrontsCard

/-- THE TIED CARD OF 'mahlsticklaw01.LetterAlikes'. -/
def letterAlikesCard : Claim7 := { stood := { row := letterAlikesRow, standIns := [], harness := (true, "c6c35c26350f8f1001e286baba07dbfbfaca16fe3311917b4f7043a2b45b2948"), looks := true }, kinds := [], alts := [], laidByText := true, laidKinds := [.data, .data, .data, .data, .pinned], laidTests := true, laidLooks := .later }
def LetterAlikesCardSaid : Prop := Claim7.holds Tryz.pinned (.plain (OpenSpec.ofChange letterAlikesSpec)) letterAlikesCard

/-- THE TIED CARD OF 'mahlsticklaw01.LetterFell'. -/
def letterFellCard : Claim7 := { stood := { row := letterFellRow, standIns := [], harness := (true, "c6c35c26350f8f1001e286baba07dbfbfaca16fe3311917b4f7043a2b45b2948"), looks := true }, kinds := [], alts := [], laidByText := true, laidKinds := [.data, .data, .data, .data, .pinned], laidTests := true, laidLooks := .later }
def LetterFellCardSaid : Prop := Claim7.holds Tryz.pinned (.plain (OpenSpec.ofChange letterFellSpec)) letterFellCard

/-- THE TIED CARD OF 'mahlsticklaw01.LetterMore'. -/
def letterMoreCard : Claim7 := { stood := { row := letterMoreRow, standIns := [], harness := (true, "c6c35c26350f8f1001e286baba07dbfbfaca16fe3311917b4f7043a2b45b2948"), looks := true }, kinds := [], alts := [], laidByText := true, laidKinds := [.data, .data, .data, .data, .pinned], laidTests := true, laidLooks := .later }
def LetterMoreCardSaid : Prop := Claim7.holds Tryz.pinned (.plain (OpenSpec.ofChange letterMoreSpec)) letterMoreCard

/-- THE TIED CARD OF 'mahlsticklaw01.LetterWidths'. -/
def letterWidthsCard : Claim7 := { stood := { row := letterWidthsRow, standIns := [], harness := (true, "c6c35c26350f8f1001e286baba07dbfbfaca16fe3311917b4f7043a2b45b2948"), looks := true }, kinds := [], alts := [], laidByText := true, laidKinds := [.data, .data, .data, .data, .pinned], laidTests := true, laidLooks := .later }
def LetterWidthsCardSaid : Prop := Claim7.holds Tryz.pinned (.plain (OpenSpec.ofChange letterWidthsSpec)) letterWidthsCard

/-- THE TIED CARD OF 'mahlsticklaw01.LetterPrints'. -/
def letterPrintsCard : Claim7 := { stood := { row := letterPrintsRow, standIns := [], harness := (true, "c6c35c26350f8f1001e286baba07dbfbfaca16fe3311917b4f7043a2b45b2948"), looks := true }, kinds := [], alts := [], laidByText := true, laidKinds := [.data, .data, .data, .data, .pinned], laidTests := true, laidLooks := .later }
def LetterPrintsCardSaid : Prop := Claim7.holds Tryz.pinned (.plain (OpenSpec.ofChange letterPrintsSpec)) letterPrintsCard

/-- THE TIED CARD OF 'mahlsticklaw01.LetterReads'. -/
def letterReadsCard : Claim7 := { stood := { row := letterReadsRow, standIns := [], harness := (true, "c6c35c26350f8f1001e286baba07dbfbfaca16fe3311917b4f7043a2b45b2948"), looks := true }, kinds := [], alts := [], laidByText := true, laidKinds := [.data, .data, .data, .data, .pinned], laidTests := true, laidLooks := .later }
def LetterReadsCardSaid : Prop := Claim7.holds Tryz.pinned (.plain (OpenSpec.ofChange letterReadsSpec)) letterReadsCard

/-- THE TIED CARD OF 'mahlsticklaw01.LetterSpoilt'. -/
def letterSpoiltCard : Claim7 := { stood := { row := letterSpoiltRow, standIns := [], harness := (true, "c6c35c26350f8f1001e286baba07dbfbfaca16fe3311917b4f7043a2b45b2948"), looks := true }, kinds := [], alts := [], laidByText := true, laidKinds := [.data, .data, .data, .data, .pinned], laidTests := true, laidLooks := .later }
def LetterSpoiltCardSaid : Prop := Claim7.holds Tryz.pinned (.plain (OpenSpec.ofChange letterSpoiltSpec)) letterSpoiltCard

/-- THE SECOND FORM's CARD OF 'mahlsticklaw01.LetterPlaced'. -/
def letterPlacedUptoCard : Claim7 := { stood := { row := letterPlacedUptoRow, standIns := [], harness := (true, "c6c35c26350f8f1001e286baba07dbfbfaca16fe3311917b4f7043a2b45b2948"), looks := true }, kinds := [], alts := [], laidByText := true, laidKinds := [.data, .data, .data, .data, .pinned], laidTests := true, laidLooks := .later }
def LetterPlacedUptoCardSaid : Prop := Claim7.holds Tryz.pinned (.plain (OpenSpec.upto letterPlacedSpec)) letterPlacedUptoCard

/-- THE SECOND FORM's CARD OF 'mahlsticklaw01.LetterStretches'. -/
def letterStretchesUptoCard : Claim7 := { stood := { row := letterStretchesUptoRow, standIns := [], harness := (true, "c6c35c26350f8f1001e286baba07dbfbfaca16fe3311917b4f7043a2b45b2948"), looks := true }, kinds := [], alts := [], laidByText := true, laidKinds := [.data, .data, .data, .data, .pinned], laidTests := true, laidLooks := .later }
def LetterStretchesUptoCardSaid : Prop := Claim7.holds Tryz.pinned (.plain (OpenSpec.upto letterStretchesSpec)) letterStretchesUptoCard

/-- THE SECOND FORM's CARD OF 'mahlsticklaw01.LetterWide'. -/
def letterWideUptoCard : Claim7 := { stood := { row := letterWideUptoRow, standIns := [], harness := (true, "c6c35c26350f8f1001e286baba07dbfbfaca16fe3311917b4f7043a2b45b2948"), looks := true }, kinds := [], alts := [], laidByText := true, laidKinds := [.data, .data, .data, .data, .pinned], laidTests := true, laidLooks := .later }
def LetterWideUptoCardSaid : Prop := Claim7.holds Tryz.pinned (.plain (OpenSpec.upto letterWideSpec)) letterWideUptoCard

/-- THE SECOND FORM's CARD OF 'mahlsticklaw01.LetterSets'. -/
def letterSetsUptoCard : Claim7 := { stood := { row := letterSetsUptoRow, standIns := [], harness := (true, "c6c35c26350f8f1001e286baba07dbfbfaca16fe3311917b4f7043a2b45b2948"), looks := true }, kinds := [], alts := [], laidByText := true, laidKinds := [.data, .data, .data, .data, .pinned], laidTests := true, laidLooks := .later }
def LetterSetsUptoCardSaid : Prop := Claim7.holds Tryz.pinned (.plain (OpenSpec.upto letterSetsSpec)) letterSetsUptoCard

/-- THE SECOND FORM's CARD OF 'mahlsticklaw01.LetterRival'. -/
def letterRivalUptoCard : Claim7 := { stood := { row := letterRivalUptoRow, standIns := [], harness := (true, "c6c35c26350f8f1001e286baba07dbfbfaca16fe3311917b4f7043a2b45b2948"), looks := true }, kinds := [], alts := [], laidByText := true, laidKinds := [.data, .data, .data, .data, .pinned], laidTests := true, laidLooks := .later }
def LetterRivalUptoCardSaid : Prop := Claim7.holds Tryz.pinned (.plain (OpenSpec.upto letterRivalSpec)) letterRivalUptoCard

/-- THE SECOND FORM's CARD OF 'mahlsticklaw01.LetterCounts'. -/
def letterCountsUptoCard : Claim7 := { stood := { row := letterCountsUptoRow, standIns := [], harness := (true, "c6c35c26350f8f1001e286baba07dbfbfaca16fe3311917b4f7043a2b45b2948"), looks := true }, kinds := [], alts := [], laidByText := true, laidKinds := [.data, .data, .data, .data, .pinned], laidTests := true, laidLooks := .later }
def LetterCountsUptoCardSaid : Prop := Claim7.holds Tryz.pinned (.plain (OpenSpec.upto letterCountsSpec)) letterCountsUptoCard

/-- THE SECOND FORM's CARD OF 'mahlsticklaw01.LetterListed'. -/
def letterListedUptoCard : Claim7 := { stood := { row := letterListedUptoRow, standIns := [], harness := (true, "c6c35c26350f8f1001e286baba07dbfbfaca16fe3311917b4f7043a2b45b2948"), looks := true }, kinds := [], alts := [], laidByText := true, laidKinds := [.data, .data, .data, .data, .pinned], laidTests := true, laidLooks := .later }
def LetterListedUptoCardSaid : Prop := Claim7.holds Tryz.pinned (.plain (OpenSpec.upto letterListedSpec)) letterListedUptoCard

/-- THE SECOND FORM's CARD OF 'mahlsticklaw01.LetterDrops'. -/
def letterDropsUptoCard : Claim7 := { stood := { row := letterDropsUptoRow, standIns := [], harness := (true, "c6c35c26350f8f1001e286baba07dbfbfaca16fe3311917b4f7043a2b45b2948"), looks := true }, kinds := [], alts := [], laidByText := true, laidKinds := [.data, .data, .data, .data, .pinned], laidTests := true, laidLooks := .later }
def LetterDropsUptoCardSaid : Prop := Claim7.holds Tryz.pinned (.plain (OpenSpec.upto letterDropsSpec)) letterDropsUptoCard

/-- THE SECOND FORM's CARD OF 'mahlsticklaw01.LetterLess'. -/
def letterLessUptoCard : Claim7 := { stood := { row := letterLessUptoRow, standIns := [], harness := (true, "c6c35c26350f8f1001e286baba07dbfbfaca16fe3311917b4f7043a2b45b2948"), looks := true }, kinds := [], alts := [], laidByText := true, laidKinds := [.data, .data, .data, .data, .pinned], laidTests := true, laidLooks := .later }
def LetterLessUptoCardSaid : Prop := Claim7.holds Tryz.pinned (.plain (OpenSpec.upto letterLessSpec)) letterLessUptoCard

/-- THE SECOND FORM's CARD OF 'mahlsticklaw01.LetterOvers'. -/
def letterOversUptoCard : Claim7 := { stood := { row := letterOversUptoRow, standIns := [], harness := (true, "c6c35c26350f8f1001e286baba07dbfbfaca16fe3311917b4f7043a2b45b2948"), looks := true }, kinds := [], alts := [], laidByText := true, laidKinds := [.data, .data, .data, .data, .pinned], laidTests := true, laidLooks := .later }
def LetterOversUptoCardSaid : Prop := Claim7.holds Tryz.pinned (.plain (OpenSpec.upto letterOversSpec)) letterOversUptoCard

/-- THE SECOND FORM's CARD OF 'mahlsticklaw01.LetterCutOff'. -/
def letterCutOffUptoCard : Claim7 := { stood := { row := letterCutOffUptoRow, standIns := [], harness := (true, "c6c35c26350f8f1001e286baba07dbfbfaca16fe3311917b4f7043a2b45b2948"), looks := true }, kinds := [], alts := [], laidByText := true, laidKinds := [.data, .data, .data, .data, .pinned], laidTests := true, laidLooks := .later }
def LetterCutOffUptoCardSaid : Prop := Claim7.holds Tryz.pinned (.plain (OpenSpec.upto letterCutOffSpec)) letterCutOffUptoCard

/-- THE SECOND FORM's CARD OF 'mahlsticklaw01.LetterFronts'. -/
def letterFrontsUptoCard : Claim7 := { stood := { row := letterFrontsUptoRow, standIns := [], harness := (true, "c6c35c26350f8f1001e286baba07dbfbfaca16fe3311917b4f7043a2b45b2948"), looks := true }, kinds := [], alts := [], laidByText := true, laidKinds := [.data, .data, .data, .data, .pinned], laidTests := true, laidLooks := .later }
def LetterFrontsUptoCardSaid : Prop := Claim7.holds Tryz.pinned (.plain (OpenSpec.upto letterFrontsSpec)) letterFrontsUptoCard

/-- THE SECOND FORM's CARD OF 'mahlsticklaw01.LetterAlikes'. -/
def letterAlikesUptoCard : Claim7 := { stood := { row := letterAlikesUptoRow, standIns := [], harness := (true, "c6c35c26350f8f1001e286baba07dbfbfaca16fe3311917b4f7043a2b45b2948"), looks := true }, kinds := [], alts := [], laidByText := true, laidKinds := [.data, .data, .data, .data, .pinned], laidTests := true, laidLooks := .later }
def LetterAlikesUptoCardSaid : Prop := Claim7.holds Tryz.pinned (.plain (OpenSpec.upto letterAlikesSpec)) letterAlikesUptoCard

/-- THE SECOND FORM's CARD OF 'mahlsticklaw01.LetterFell'. -/
def letterFellUptoCard : Claim7 := { stood := { row := letterFellUptoRow, standIns := [], harness := (true, "c6c35c26350f8f1001e286baba07dbfbfaca16fe3311917b4f7043a2b45b2948"), looks := true }, kinds := [], alts := [], laidByText := true, laidKinds := [.data, .data, .data, .data, .pinned], laidTests := true, laidLooks := .later }
def LetterFellUptoCardSaid : Prop := Claim7.holds Tryz.pinned (.plain (OpenSpec.upto letterFellSpec)) letterFellUptoCard

/-- THE SECOND FORM's CARD OF 'mahlsticklaw01.LetterMore'. -/
def letterMoreUptoCard : Claim7 := { stood := { row := letterMoreUptoRow, standIns := [], harness := (true, "c6c35c26350f8f1001e286baba07dbfbfaca16fe3311917b4f7043a2b45b2948"), looks := true }, kinds := [], alts := [], laidByText := true, laidKinds := [.data, .data, .data, .data, .pinned], laidTests := true, laidLooks := .later }
def LetterMoreUptoCardSaid : Prop := Claim7.holds Tryz.pinned (.plain (OpenSpec.upto letterMoreSpec)) letterMoreUptoCard

/-- THE SECOND FORM's CARD OF 'mahlsticklaw01.LetterWidths'. -/
def letterWidthsUptoCard : Claim7 := { stood := { row := letterWidthsUptoRow, standIns := [], harness := (true, "c6c35c26350f8f1001e286baba07dbfbfaca16fe3311917b4f7043a2b45b2948"), looks := true }, kinds := [], alts := [], laidByText := true, laidKinds := [.data, .data, .data, .data, .pinned], laidTests := true, laidLooks := .later }
def LetterWidthsUptoCardSaid : Prop := Claim7.holds Tryz.pinned (.plain (OpenSpec.upto letterWidthsSpec)) letterWidthsUptoCard

/-- THE SECOND FORM's CARD OF 'mahlsticklaw01.LetterPrints'. -/
def letterPrintsUptoCard : Claim7 := { stood := { row := letterPrintsUptoRow, standIns := [], harness := (true, "c6c35c26350f8f1001e286baba07dbfbfaca16fe3311917b4f7043a2b45b2948"), looks := true }, kinds := [], alts := [], laidByText := true, laidKinds := [.data, .data, .data, .data, .pinned], laidTests := true, laidLooks := .later }
def LetterPrintsUptoCardSaid : Prop := Claim7.holds Tryz.pinned (.plain (OpenSpec.upto letterPrintsSpec)) letterPrintsUptoCard

/-- THE SECOND FORM's CARD OF 'mahlsticklaw01.LetterReads'. -/
def letterReadsUptoCard : Claim7 := { stood := { row := letterReadsUptoRow, standIns := [], harness := (true, "c6c35c26350f8f1001e286baba07dbfbfaca16fe3311917b4f7043a2b45b2948"), looks := true }, kinds := [], alts := [], laidByText := true, laidKinds := [.data, .data, .data, .data, .pinned], laidTests := true, laidLooks := .later }
def LetterReadsUptoCardSaid : Prop := Claim7.holds Tryz.pinned (.plain (OpenSpec.upto letterReadsSpec)) letterReadsUptoCard

/-- THE SECOND FORM's CARD OF 'mahlsticklaw01.LetterSpoilt'. -/
def letterSpoiltUptoCard : Claim7 := { stood := { row := letterSpoiltUptoRow, standIns := [], harness := (true, "c6c35c26350f8f1001e286baba07dbfbfaca16fe3311917b4f7043a2b45b2948"), looks := true }, kinds := [], alts := [], laidByText := true, laidKinds := [.data, .data, .data, .data, .pinned], laidTests := true, laidLooks := .later }
def LetterSpoiltUptoCardSaid : Prop := Claim7.holds Tryz.pinned (.plain (OpenSpec.upto letterSpoiltSpec)) letterSpoiltUptoCard
end Rows
end Go.Proofs.YtjdgdinalodjfaaGreatDoor

/-
  DERIVED. GIVEN WITH THE SEED: THE CARDS: each row of YtdiflocclemeaaaGreatDoorRows.lean that lists a variable, with what it lists TIED to the program's text (the seventh form; the later family's looks); each row that meets fmt, with fmt's text TOLD by the authors' own Lean function (tested against real Go, not proved from fmt's source: count such statements apart). THE CARD IS WHAT COUNTS. Prove the row's statement (the work); the ties are given (YtdiflocclemeaaaGreatDoorTie.lean); close each card by the builder's one call (the guide's Derived/Test/ToyasCard.lean, 'card_holds'). Laid BY PROGRAM, IN A SANDBOX (cutbox-door.mjs). By AI agents, Wed Nov 11 2026. No macro, syntax, notation, axiom, sorry.
-/
import Derived.Test.YtdiflocclemeaaaGreatDoorRows
import GoSem.ClaimSeven
namespace Go.Proofs.YtdiflocclemeaaaGreatDoor
namespace Rows

/-- THE TIED CARD OF 'mahlsticklaw09.TramSet'. -/
def tramSetCard : Claim7 := { stood := { row := tramSetRow, standIns := [], harness := (true, "6409d79c938881258cf6c01a4bbb5b9da95cffe89bf69844c1f6e37b46348158"), looks := true }, kinds := [], alts := [], laidByText := true, laidKinds := [.data, .data, .data, .data, .pinned], laidTests := true, laidLooks := .later }
def TramSetCardSaid : Prop := Claim7.holds Tryz.pinned (.plain (OpenSpec.ofChange tramSetSpec)) tramSetCard

/-- THE TIED CARD OF 'mahlsticklaw09.TramViewed'. -/
def tramViewedCard : Claim7 := { stood := { row := tramViewedRow, standIns := [], harness := (true, "6409d79c938881258cf6c01a4bbb5b9da95cffe89bf69844c1f6e37b46348158"), looks := true }, kinds := [], alts := [], laidByText := true, laidKinds := [.data, .data, .data, .data, .pinned], laidTests := true, laidLooks := .later }
def TramViewedCardSaid : Prop := Claim7.holds Tryz.pinned (.plain (OpenSpec.ofChange tramViewedSpec)) tramViewedCard

/-- THE TIED CARD OF 'mahlsticklaw09.TramSees'. -/
def tramSeesCard : Claim7 := { stood := { row := tramSeesRow, standIns := [], harness := (true, "6409d79c938881258cf6c01a4bbb5b9da95cffe89bf69844c1f6e37b46348158"), looks := true }, kinds := [], alts := [], laidByText := true, laidKinds := [.data, .data, .data, .data, .pinned], laidTests := true, laidLooks := .later }
def TramSeesCardSaid : Prop := Claim7.holds Tryz.pinned (.plain (OpenSpec.ofChange tramSeesSpec)) tramSeesCard

/-- THE TIED CARD OF 'mahlsticklaw09.TramWords'. -/
def tramWordsCard : Claim7 := { stood := { row := tramWordsRow, standIns := [], harness := (true, "6409d79c938881258cf6c01a4bbb5b9da95cffe89bf69844c1f6e37b46348158"), looks := true }, kinds := [], alts := [], laidByText := true, laidKinds := [.data, .data, .data, .data, .pinned], laidTests := true, laidLooks := .later }
def TramWordsCardSaid : Prop := Claim7.holds Tryz.pinned (.plain (OpenSpec.ofChange tramWordsSpec)) tramWordsCard

/-- THE TIED CARD OF 'mahlsticklaw09.TramTrue'. -/
def tramTrueCard : Claim7 := { stood := { row := tramTrueRow, standIns := [], harness := (true, "6409d79c938881258cf6c01a4bbb5b9da95cffe89bf69844c1f6e37b46348158"), looks := true }, kinds := [], alts := [], laidByText := true, laidKinds := [.data, .data, .data, .data, .pinned], laidTests := true, laidLooks := .later }
def TramTrueCardSaid : Prop := Claim7.holds Tryz.pinned (.plain (OpenSpec.ofChange tramTrueSpec)) tramTrueCard

/-- THE TIED CARD OF 'mahlsticklaw09.TramStops'. -/
def tramStopsCard : Claim7 := { stood := { row := tramStopsRow, standIns := [], harness := (true, "6409d79c938881258cf6c01a4bbb5b9da95cffe89bf69844c1f6e37b46348158"), looks := true }, kinds := [], alts := [], laidByText := true, laidKinds := [.data, .data, .data, .data, .pinned], laidTests := true, laidLooks := .later }
def TramStopsCardSaid : Prop := Claim7.holds Tryz.pinned (.plain (OpenSpec.ofChange tramStopsSpec)) tramStopsCard

/-- THE TIED CARD OF 'mahlsticklaw09.TramWaited'. -/
def tramWaitedCard : Claim7 := { stood := { row := tramWaitedRow, standIns := [], harness := (true, "6409d79c938881258cf6c01a4bbb5b9da95cffe89bf69844c1f6e37b46348158"), looks := true }, kinds := [], alts := [], laidByText := true, laidKinds := [.data, .data, .data, .data, .pinned], laidTests := true, laidLooks := .later }
def TramWaitedCardSaid : Prop := Claim7.holds Tryz.pinned (.plain (OpenSpec.ofChange tramWaitedSpec)) tramWaitedCard

/-- THE TIED CARD OF 'mahlsticklaw09.TramFars'. -/
def tramFarsCard : Claim7 := { stood := { row := tramFarsRow, standIns := [], harness := (true, "6409d79c938881258cf6c01a4bbb5b9da95cffe89bf69844c1f6e37b46348158"), looks := true }, kinds := [], alts := [], laidByText := true, laidKinds := [.data, .data, .data, .data, .pinned], laidTests := true, laidLooks := .later }
def TramFarsCardSaid : Prop := Claim7.holds Tryz.pinned (.plain (OpenSpec.ofChange tramFarsSpec)) tramFarsCard

/-- THE TIED CARD OF 'mahlsticklaw09.TramPaced'. -/
def tramPacedCard : Claim7 := { stood := { row := tramPacedRow, standIns := [], harness := (true, "6409d79c938881258cf6c01a4bbb5b9da95cffe89bf69844c1f6e37b46348158"), looks := true }, kinds := [], alts := [], laidByText := true, laidKinds := [.data, .data, .data, .data, .pinned], laidTests := true, laidLooks := .later }
def TramPacedCardSaid : Prop := Claim7.holds Tryz.pinned (.plain (OpenSpec.ofChange tramPacedSpec)) tramPacedCard

/-- THE TIED CARD OF 'mahlsticklaw09.TramHangs'. -/
def tramHangsCard : Claim7 := { stood := { row := tramHangsRow, standIns := [], harness := (true, "6409d79c938881258cf6c01a4bbb5b9da95cffe89bf69844c1f6e37b46348158"), looks := true }, kinds := [], alts := [], laidByText := true, laidKinds := [.data, .data, .data, .data, .pinned], laidTests := true, laidLooks := .later }
def TramHangsCardSaid : Prop := Claim7.holds Tryz.pinned (.plain (OpenSpec.ofChange tramHangsSpec)) tramHangsCard

/-- THE TIED CARD OF 'mahlsticklaw09.TramHung'. -/
def tramHungCard : Claim7 := { stood := { row := tramHungRow, standIns := [], harness := (true, "6409d79c938881258cf6c01a4bbb5b9da95cffe89bf69844c1f6e37b46348158"), looks := true }, kinds := [], alts := [], laidByText := true, laidKinds := [.data, .data, .data, .data, .pinned], laidTests := true, laidLooks := .later }
def TramHungCardSaid : Prop := Claim7.holds Tryz.pinned (.plain (OpenSpec.ofChange tramHungSpec)) tramHungCard

/-- THE TIED CARD OF 'mahlsticklaw09.TramLeaves'. -/
def tramLeavesCard : Claim7 := { stood := { row := tramLeavesRow, standIns := [], harness := (true, "6409d79c938881258cf6c01a4bbb5b9da95cffe89bf69844c1f6e37b46348158"), looks := true }, kinds := [], alts := [], laidByText := true, laidKinds := [.data, .data, .data, .data, .pinned], laidTests := true, laidLooks := .later }
def TramLeavesCardSaid : Prop := Claim7.holds Tryz.pinned (.plain (OpenSpec.ofChange tramLeavesSpec)) tramLeavesCard

/-- THE TIED CARD OF 'mahlsticklaw09.TramMore'. -/
def tramMoreCard : Claim7 := { stood := { row := tramMoreRow, standIns := [], harness := (true, "6409d79c938881258cf6c01a4bbb5b9da95cffe89bf69844c1f6e37b46348158"), looks := true }, kinds := [], alts := [], laidByText := true, laidKinds := [.data, .data, .data, .data, .pinned], laidTests := true, laidLooks := .later }
def TramMoreCardSaid : Prop := Claim7.holds Tryz.pinned (.plain (OpenSpec.ofChange tramMoreSpec)) tramMoreCard

/-- THE TIED CARD OF 'mahlsticklaw09.TramNeeds'. -/
def tramNeedsCard : Claim7 := { stood := { row := tramNeedsRow, standIns := [], harness := (true, "6409d79c938881258cf6c01a4bbb5b9da95cffe89bf69844c1f6e37b46348158"), looks := true }, kinds := [], alts := [], laidByText := true, laidKinds := [.data, .data, .data, .data, .pinned], laidTests := true, laidLooks := .later }
def TramNeedsCardSaid : Prop := Claim7.holds Tryz.pinned (.plain (OpenSpec.ofChange tramNeedsSpec)) tramNeedsCard

/-- THE TIED CARD OF 'mahlsticklaw09.TramPrints'. -/
def tramPrintsCard : Claim7 := { stood := { row := tramPrintsRow, standIns := [], harness := (true, "6409d79c938881258cf6c01a4bbb5b9da95cffe89bf69844c1f6e37b46348158"), looks := true }, kinds := [], alts := [], laidByText := true, laidKinds := [.data, .data, .data, .data, .pinned], laidTests := true, laidLooks := .later }
def TramPrintsCardSaid : Prop := Claim7.holds Tryz.pinned (.plain (OpenSpec.ofChange tramPrintsSpec)) tramPrintsCard

/-- THE TIED CARD OF 'mahlsticklaw09.TramReads'. -/
def tramReadsCard : Claim7 := { stood := { row := tramReadsRow, standIns := [], harness := (true, "6409d79c938881258cf6c01a4bbb5b9da95cffe89bf69844c1f6e37b46348158"), looks := true }, kinds := [], alts := [], laidByText := true, laidKinds := [.data, .data, .data, .data, .pinned], laidTests := true, laidLooks := .later }
def TramReadsCardSaid : Prop := Claim7.holds Tryz.pinned (.plain (OpenSpec.ofChange tramReadsSpec)) tramReadsCard

/-- THE TIED CARD OF 'mahlsticklaw09.TramSpoilt'. -/
def tramSpoiltCard : Claim7 := { stood := { row := tramSpoiltRow, standIns := [], harness := (true, "6409d79c938881258cf6c01a4bbb5b9da95cffe89bf69844c1f6e37b46348158"), looks := true }, kinds := [], alts := [], laidByText := true, laidKinds := [.data, .data, .data, .data, .pinned], laidTests := true, laidLooks := .later }
def TramSpoiltCardSaid : Prop := Claim7.holds Tryz.pinned (.plain (OpenSpec.ofChange tramSpoiltSpec)) tramSpoiltCard

/-- THE TIED CARD OF 'mahlsticklaw09.TramLeft'. -/
def tramLeftCard : Claim7 := { stood := { row := tramLeftRow, standIns := [], harness := (true, "6409d79c938881258cf6c01a4bbb5b9da95cffe89bf69844c1f6e37b46348158"), looks := true }, kinds := [], alts := [], laidByText := true, laidKinds := [.data, .data, .data, .data, .pinned], laidTests := true, laidLooks := .later }
def TramLeftCardSaid : Prop := Claim7.holds Tryz.pinned (.plain (OpenSpec.ofChange tramLeftSpec)) tramLeftCard

/-- THE SECOND FORM's CARD OF 'mahlsticklaw09.TramSet'. -/
def tramSetUptoCard : Claim7 := { stood := { row := tramSetUptoRow, standIns := [], harness := (true, "6409d79c938881258cf6c01a4bbb5b9da95cffe89bf69844c1f6e37b46348158"), looks := true }, kinds := [], alts := [], laidByText := true, laidKinds := [.data, .data, .data, .data, .pinned], laidTests := true, laidLooks := .later }
def TramSetUptoCardSaid : Prop := Claim7.holds Tryz.pinned (.plain (OpenSpec.upto tramSetSpec)) tramSetUptoCard

/-- THE SECOND FORM's CARD OF 'mahlsticklaw09.TramViewed'. -/
def tramViewedUptoCard : Claim7 := { stood := { row := tramViewedUptoRow, standIns := [], harness := (true, "6409d79c938881258cf6c01a4bbb5b9da95cffe89bf69844c1f6e37b46348158"), looks := true }, kinds := [], alts := [], laidByText := true, laidKinds := [.data, .data, .data, .data, .pinned], laidTests := true, laidLooks := .later }
def TramViewedUptoCardSaid : Prop := Claim7.holds Tryz.pinned (.plain (OpenSpec.upto tramViewedSpec)) tramViewedUptoCard

/-- THE SECOND FORM's CARD OF 'mahlsticklaw09.TramSees'. -/
def tramSeesUptoCard : Claim7 := { stood := { row := tramSeesUptoRow, standIns := [], harness := (true, "6409d79c938881258cf6c01a4bbb5b9da95cffe89bf69844c1f6e37b46348158"), looks := true }, kinds := [], alts := [], laidByText := true, laidKinds := [.data, .data, .data, .data, .pinned], laidTests := true, laidLooks := .later }
def TramSeesUptoCardSaid : Prop := Claim7.holds Tryz.pinned (.plain (OpenSpec.upto tramSeesSpec)) tramSeesUptoCard

/-- THE SECOND FORM's CARD OF 'mahlsticklaw09.TramWords'. -/
def tramWordsUptoCard : Claim7 := { stood := { row := tramWordsUptoRow, standIns := [], harness := (true, "6409d79c938881258cf6c01a4bbb5b9da95cffe89bf69844c1f6e37b46348158"), looks := true }, kinds := [], alts := [], laidByText := true, laidKinds := [.data, .data, .data, .data, .pinned], laidTests := true, laidLooks := .later }
def TramWordsUptoCardSaid : Prop := Claim7.holds Tryz.pinned (.plain (OpenSpec.upto tramWordsSpec)) tramWordsUptoCard

/-- THE SECOND FORM's CARD OF 'mahlsticklaw09.TramTrue'. -/
def tramTrueUptoCard : Claim7 := { stood := { row := tramTrueUptoRow, standIns := [], harness := (true, "6409d79c938881258cf6c01a4bbb5b9da95cffe89bf69844c1f6e37b46348158"), looks := true }, kinds := [], alts := [], laidByText := true, laidKinds := [.data, .data, .data, .data, .pinned], laidTests := true, laidLooks := .later }
def TramTrueUptoCardSaid : Prop := Claim7.holds Tryz.pinned (.plain (OpenSpec.upto tramTrueSpec)) tramTrueUptoCard

/-- THE SECOND FORM's CARD OF 'mahlsticklaw09.TramStops'. -/
def tramStopsUptoCard : Claim7 := { stood := { row := tramStopsUptoRow, standIns := [], harness := (true, "6409d79c938881258cf6c01a4bbb5b9da95cffe89bf69844c1f6e37b46348158"), looks := true }, kinds := [], alts := [], laidByText := true, laidKinds := [.data, .data, .data, .data, .pinned], laidTests := true, laidLooks := .later }
def TramStopsUptoCardSaid : Prop := Claim7.holds Tryz.pinned (.plain (OpenSpec.upto tramStopsSpec)) tramStopsUptoCard

/-- THE SECOND FORM's CARD OF 'mahlsticklaw09.TramWaited'. -/
def tramWaitedUptoCard : Claim7 := { stood := { row := tramWaitedUptoRow, standIns := [], harness := (true, "6409d79c938881258cf6c01a4bbb5b9da95cffe89bf69844c1f6e37b46348158"), looks := true }, kinds := [], alts := [], laidByText := true, laidKinds := [.data, .data, .data, .data, .pinned], laidTests := true, laidLooks := .later }
def TramWaitedUptoCardSaid : Prop := Claim7.holds Tryz.pinned (.plain (OpenSpec.upto tramWaitedSpec)) tramWaitedUptoCard

/-- THE SECOND FORM's CARD OF 'mahlsticklaw09.TramFars'. -/
def tramFarsUptoCard : Claim7 := { stood := { row := tramFarsUptoRow, standIns := [], harness := (true, "6409d79c938881258cf6c01a4bbb5b9da95cffe89bf69844c1f6e37b46348158"), looks := true }, kinds := [], alts := [], laidByText := true, laidKinds := [.data, .data, .data, .data, .pinned], laidTests := true, laidLooks := .later }
def TramFarsUptoCardSaid : Prop := Claim7.holds Tryz.pinned (.plain (OpenSpec.upto tramFarsSpec)) tramFarsUptoCard

/-- THE SECOND FORM's CARD OF 'mahlsticklaw09.TramPaced'. -/
def tramPacedUptoCard : Claim7 := { stood := { row := tramPacedUptoRow, standIns := [], harness := (true, "6409d79c938881258cf6c01a4bbb5b9da95cffe89bf69844c1f6e37b46348158"), looks := true }, kinds := [], alts := [], laidByText := true, laidKinds := [.data, .data, .data, .data, .pinned], laidTests := true, laidLooks := .later }
def TramPacedUptoCardSaid : Prop := Claim7.holds Tryz.pinned (.plain (OpenSpec.upto tramPacedSpec)) tramPacedUptoCard

/-- THE SECOND FORM's CARD OF 'mahlsticklaw09.TramHangs'. -/
def tramHangsUptoCard : Claim7 := { stood := { row := tramHangsUptoRow, standIns := [], harness := (true, "6409d79c938881258cf6c01a4bbb5b9da95cffe89bf69844c1f6e37b46348158"), looks := true }, kinds := [], alts := [], laidByText := true, laidKinds := [.data, .data, .data, .data, .pinned], laidTests := true, laidLooks := .later }
def TramHangsUptoCardSaid : Prop := Claim7.holds Tryz.pinned (.plain (OpenSpec.upto tramHangsSpec)) tramHangsUptoCard

/-- THE SECOND FORM's CARD OF 'mahlsticklaw09.TramHung'. -/
def tramHungUptoCard : Claim7 := { stood := { row := tramHungUptoRow, standIns := [], harness := (true, "6409d79c938881258cf6c01a4bbb5b9da95cffe89bf69844c1f6e37b46348158"), looks := true }, kinds := [], alts := [], laidByText := true, laidKinds := [.data, .data, .data, .data, .pinned], laidTests := true, laidLooks := .later }
def TramHungUptoCardSaid : Prop := Claim7.holds Tryz.pinned (.plain (OpenSpec.upto tramHungSpec)) tramHungUptoCard

/-- THE SECOND FORM's CARD OF 'mahlsticklaw09.TramLeaves'. -/
def tramLeavesUptoCard : Claim7 := { stood := { row := tramLeavesUptoRow, standIns := [], harness := (true, "6409d79c938881258cf6c01a4bbb5b9da95cffe89bf69844c1f6e37b46348158"), looks := true }, kinds := [], alts := [], laidByText := true, laidKinds := [.data, .data, .data, .data, .pinned], laidTests := true, laidLooks := .later }
def TramLeavesUptoCardSaid : Prop := Claim7.holds Tryz.pinned (.plain (OpenSpec.upto tramLeavesSpec)) tramLeavesUptoCard

/-- THE SECOND FORM's CARD OF 'mahlsticklaw09.TramMore'. -/
def tramMoreUptoCard : Claim7 := { stood := { row := tramMoreUptoRow, standIns := [], harness := (true, "6409d79c938881258cf6c01a4bbb5b9da95cffe89bf69844c1f6e37b46348158"), looks := true }, kinds := [], alts := [], laidByText := true, laidKinds := [.data, .data, .data, .data, .pinned], laidTests := true, laidLooks := .later }
def TramMoreUptoCardSaid : Prop := Claim7.holds Tryz.pinned (.plain (OpenSpec.upto tramMoreSpec)) tramMoreUptoCard

/-- THE SECOND FORM's CARD OF 'mahlsticklaw09.TramNeeds'. -/
def tramNeedsUptoCard : Claim7 := { stood := { row := tramNeedsUptoRow, standIns := [], harness := (true, "6409d79c938881258cf6c01a4bbb5b9da95cffe89bf69844c1f6e37b46348158"), looks := true }, kinds := [], alts := [], laidByText := true, laidKinds := [.data, .data, .data, .data, .pinned], laidTests := true, laidLooks := .later }
def TramNeedsUptoCardSaid : Prop := Claim7.holds Tryz.pinned (.plain (OpenSpec.upto tramNeedsSpec)) tramNeedsUptoCard

/-- THE SECOND FORM's CARD OF 'mahlsticklaw09.TramPrints'. -/
def tramPrintsUptoCard : Claim7 := { stood := { row := tramPrintsUptoRow, standIns := [], harness := (true, "6409d79c938881258cf6c01a4bbb5b9da95cffe89bf69844c1f6e37b46348158"), looks := true }, kinds := [], alts := [], laidByText := true, laidKinds := [.data, .data, .data, .data, .pinned], laidTests := true, laidLooks := .later }
def TramPrintsUptoCardSaid : Prop := Claim7.holds Tryz.pinned (.plain (OpenSpec.upto tramPrintsSpec)) tramPrintsUptoCard

/-- THE SECOND FORM's CARD OF 'mahlsticklaw09.TramReads'. -/
def tramReadsUptoCard : Claim7 := { stood := { row := tramReadsUptoRow, standIns := [], harness := (true, "6409d79c938881258cf6c01a4bbb5b9da95cffe89bf69844c1f6e37b46348158"), looks := true }, kinds := [], alts := [], laidByText := true, laidKinds := [.data, .data, .data, .data, .pinned], laidTests := true, laidLooks := .later }
def TramReadsUptoCardSaid : Prop := Claim7.holds Tryz.pinned (.plain (OpenSpec.upto tramReadsSpec)) tramReadsUptoCard

/-- THE SECOND FORM's CARD OF 'mahlsticklaw09.TramSpoilt'. -/
def tramSpoiltUptoCard : Claim7 := { stood := { row := tramSpoiltUptoRow, standIns := [], harness := (true, "6409d79c938881258cf6c01a4bbb5b9da95cffe89bf69844c1f6e37b46348158"), looks := true }, kinds := [], alts := [], laidByText := true, laidKinds := [.data, .data, .data, .data, .pinned], laidTests := true, laidLooks := .later }
def TramSpoiltUptoCardSaid : Prop := Claim7.holds Tryz.pinned (.plain (OpenSpec.upto tramSpoiltSpec)) tramSpoiltUptoCard

/-- THE SECOND FORM's CARD OF 'mahlsticklaw09.TramLeft'. -/
def tramLeftUptoCard : Claim7 := { stood := { row := tramLeftUptoRow, standIns := [], harness := (true, "6409d79c938881258cf6c01a4bbb5b9da95cffe89bf69844c1f6e37b46348158"), looks := true }, kinds := [], alts := [], laidByText := true, laidKinds := [.data, .data, .data, .data, .pinned], laidTests := true, laidLooks := .later }
def TramLeftUptoCardSaid : Prop := Claim7.holds Tryz.pinned (.plain (OpenSpec.upto tramLeftSpec)) tramLeftUptoCard
end Rows
end Go.Proofs.YtdiflocclemeaaaGreatDoor

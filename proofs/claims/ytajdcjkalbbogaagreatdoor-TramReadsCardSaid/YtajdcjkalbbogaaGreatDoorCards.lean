/-
  DERIVED. GIVEN WITH THE SEED: THE CARDS: each row of YtajdcjkalbbogaaGreatDoorRows.lean that lists a variable, with what it lists TIED to the program's text (the seventh form; the later family's looks); each row that meets fmt, with fmt's text TOLD by the authors' own Lean function (tested against real Go, not proved from fmt's source: count such statements apart). THE CARD IS WHAT COUNTS. Prove the row's statement (the work); the ties are given (YtajdcjkalbbogaaGreatDoorTie.lean); close each card by the builder's one call (the guide's Derived/Test/ToyasCard.lean, 'card_holds'). Laid BY PROGRAM, IN A SANDBOX (cutbox-door.mjs). By AI agents, Wed Nov 11 2026. No macro, syntax, notation, axiom, sorry.
-/
import Derived.Test.YtajdcjkalbbogaaGreatDoorRows
import GoSem.ClaimSeven
namespace Go.Proofs.YtajdcjkalbbogaaGreatDoor
namespace Rows

/-- THE TIED CARD OF 'mahlsticklaw09.TramPrints'. -/
def tramPrintsCard : Claim7 := { stood := { row := tramPrintsRow, standIns := [], harness := (true, "82171092be9143676f45a3056eb5c6b4af787ddf9532c329b36358d498a216de"), looks := true }, kinds := [], alts := [], laidByText := true, laidKinds := [.data, .data, .data, .data, .pinned], laidTests := true, laidLooks := .later }
def TramPrintsCardSaid : Prop := Claim7.holds Tryz.pinned (.plain (OpenSpec.ofChange tramPrintsSpec)) tramPrintsCard

/-- THE TIED CARD OF 'mahlsticklaw09.TramReads'. -/
def tramReadsCard : Claim7 := { stood := { row := tramReadsRow, standIns := [], harness := (true, "82171092be9143676f45a3056eb5c6b4af787ddf9532c329b36358d498a216de"), looks := true }, kinds := [], alts := [], laidByText := true, laidKinds := [.data, .data, .data, .data, .pinned], laidTests := true, laidLooks := .later }
def TramReadsCardSaid : Prop := Claim7.holds Tryz.pinned (.plain (OpenSpec.ofChange tramReadsSpec)) tramReadsCard

/-- THE TIED CARD OF 'mahlsticklaw09.TramSpoilt'. -/
def tramSpoiltCard : Claim7 := { stood := { row := tramSpoiltRow, standIns := [], harness := (true, "82171092be9143676f45a3056eb5c6b4af787ddf9532c329b36358d498a216de"), looks := true }, kinds := [], alts := [], laidByText := true, laidKinds := [.data, .data, .data, .data, .pinned], laidTests := true, laidLooks := .later }
def TramSpoiltCardSaid : Prop := Claim7.holds Tryz.pinned (.plain (OpenSpec.ofChange tramSpoiltSpec)) tramSpoiltCard

/-- THE SECOND FORM's CARD OF 'mahlsticklaw09.TramPrints'. -/
def tramPrintsUptoCard : Claim7 := { stood := { row := tramPrintsUptoRow, standIns := [], harness := (true, "82171092be9143676f45a3056eb5c6b4af787ddf9532c329b36358d498a216de"), looks := true }, kinds := [], alts := [], laidByText := true, laidKinds := [.data, .data, .data, .data, .pinned], laidTests := true, laidLooks := .later }
def TramPrintsUptoCardSaid : Prop := Claim7.holds Tryz.pinned (.plain (OpenSpec.upto tramPrintsSpec)) tramPrintsUptoCard

/-- THE SECOND FORM's CARD OF 'mahlsticklaw09.TramReads'. -/
def tramReadsUptoCard : Claim7 := { stood := { row := tramReadsUptoRow, standIns := [], harness := (true, "82171092be9143676f45a3056eb5c6b4af787ddf9532c329b36358d498a216de"), looks := true }, kinds := [], alts := [], laidByText := true, laidKinds := [.data, .data, .data, .data, .pinned], laidTests := true, laidLooks := .later }
def TramReadsUptoCardSaid : Prop := Claim7.holds Tryz.pinned (.plain (OpenSpec.upto tramReadsSpec)) tramReadsUptoCard

/-- THE SECOND FORM's CARD OF 'mahlsticklaw09.TramSpoilt'. -/
def tramSpoiltUptoCard : Claim7 := { stood := { row := tramSpoiltUptoRow, standIns := [], harness := (true, "82171092be9143676f45a3056eb5c6b4af787ddf9532c329b36358d498a216de"), looks := true }, kinds := [], alts := [], laidByText := true, laidKinds := [.data, .data, .data, .data, .pinned], laidTests := true, laidLooks := .later }
def TramSpoiltUptoCardSaid : Prop := Claim7.holds Tryz.pinned (.plain (OpenSpec.upto tramSpoiltSpec)) tramSpoiltUptoCard
end Rows
end Go.Proofs.YtajdcjkalbbogaaGreatDoor

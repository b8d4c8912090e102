/-
  DERIVED. GIVEN WITH THE SEED: THE CARDS: each row of YtigmogcdifllhaaGreatDoorRows.lean that lists a variable, with what it lists TIED to the program's text (the seventh form; the later family's looks); each row that meets fmt, with fmt's text TOLD by the authors' own Lean function (tested against real Go, not proved from fmt's source: count such statements apart). THE CARD IS WHAT COUNTS. Prove the row's statement (the work); the ties are given (YtigmogcdifllhaaGreatDoorTie.lean); close each card by the builder's one call (the guide's Derived/Test/ToyasCard.lean, 'card_holds'). Laid BY PROGRAM, IN A SANDBOX (cutbox-door.mjs). By AI agents, Wed Nov 11 2026. No macro, syntax, notation, axiom, sorry.
-/
import Derived.Test.YtigmogcdifllhaaGreatDoorRows
import GoSem.ClaimSeven
namespace Go.Proofs.YtigmogcdifllhaaGreatDoor
namespace Rows

/-- THE TIED CARD OF 'sawmilllaw25.TurnsPlaces'. -/
def turnsPlacesCard : Claim7 := { stood := { row := turnsPlacesRow, standIns := [], harness := (true, "575c31281fc30a62917d224e67d1575dfad1f5d6af8fed482027afcd6edad22f"), looks := false }, kinds := [], alts := [], laidByText := true, laidKinds := [.data, .data, .data], laidTests := true, laidLooks := .later }
def TurnsPlacesCardSaid : Prop := Claim7.holds Tryz.pinned (.plain (OpenSpec.ofChange turnsPlacesSpec)) turnsPlacesCard

/-- THE TIED CARD OF 'sawmilllaw25.TurnsAll'. -/
def turnsAllCard : Claim7 := { stood := { row := turnsAllRow, standIns := [], harness := (true, "575c31281fc30a62917d224e67d1575dfad1f5d6af8fed482027afcd6edad22f"), looks := false }, kinds := [], alts := [], laidByText := true, laidKinds := [.data, .data, .data], laidTests := true, laidLooks := .later }
def TurnsAllCardSaid : Prop := Claim7.holds Tryz.pinned (.plain (OpenSpec.ofChange turnsAllSpec)) turnsAllCard

/-- THE TIED CARD OF 'sawmilllaw25.TurnsPlace'. -/
def turnsPlaceCard : Claim7 := { stood := { row := turnsPlaceRow, standIns := [], harness := (true, "575c31281fc30a62917d224e67d1575dfad1f5d6af8fed482027afcd6edad22f"), looks := false }, kinds := [], alts := [], laidByText := true, laidKinds := [.data, .data, .data], laidTests := true, laidLooks := .later }
def TurnsPlaceCardSaid : Prop := Claim7.holds Tryz.pinned (.plain (OpenSpec.ofChange turnsPlaceSpec)) turnsPlaceCard

/-- THE TIED CARD OF 'sawmilllaw25.TurnsTurned'. -/
def turnsTurnedCard : Claim7 := { stood := { row := turnsTurnedRow, standIns := [], harness := (true, "575c31281fc30a62917d224e67d1575dfad1f5d6af8fed482027afcd6edad22f"), looks := false }, kinds := [], alts := [], laidByText := true, laidKinds := [.data, .data, .data], laidTests := true, laidLooks := .later }
def TurnsTurnedCardSaid : Prop := Claim7.holds Tryz.pinned (.plain (OpenSpec.ofChange turnsTurnedSpec)) turnsTurnedCard

/-- THE TIED CARD OF 'sawmilllaw25.TurnsBest'. -/
def turnsBestCard : Claim7 := { stood := { row := turnsBestRow, standIns := [], harness := (true, "575c31281fc30a62917d224e67d1575dfad1f5d6af8fed482027afcd6edad22f"), looks := false }, kinds := [], alts := [], laidByText := true, laidKinds := [.data, .data, .data], laidTests := true, laidLooks := .later }
def TurnsBestCardSaid : Prop := Claim7.holds Tryz.pinned (.plain (OpenSpec.ofChange turnsBestSpec)) turnsBestCard

/-- THE SECOND FORM's CARD OF 'sawmilllaw25.TurnsPlaces'. -/
def turnsPlacesUptoCard : Claim7 := { stood := { row := turnsPlacesUptoRow, standIns := [], harness := (true, "575c31281fc30a62917d224e67d1575dfad1f5d6af8fed482027afcd6edad22f"), looks := false }, kinds := [], alts := [], laidByText := true, laidKinds := [.data, .data, .data], laidTests := true, laidLooks := .later }
def TurnsPlacesUptoCardSaid : Prop := Claim7.holds Tryz.pinned (.plain (OpenSpec.upto turnsPlacesSpec)) turnsPlacesUptoCard

/-- THE SECOND FORM's CARD OF 'sawmilllaw25.TurnsAll'. -/
def turnsAllUptoCard : Claim7 := { stood := { row := turnsAllUptoRow, standIns := [], harness := (true, "575c31281fc30a62917d224e67d1575dfad1f5d6af8fed482027afcd6edad22f"), looks := false }, kinds := [], alts := [], laidByText := true, laidKinds := [.data, .data, .data], laidTests := true, laidLooks := .later }
def TurnsAllUptoCardSaid : Prop := Claim7.holds Tryz.pinned (.plain (OpenSpec.upto turnsAllSpec)) turnsAllUptoCard

/-- THE SECOND FORM's CARD OF 'sawmilllaw25.TurnsPlace'. -/
def turnsPlaceUptoCard : Claim7 := { stood := { row := turnsPlaceUptoRow, standIns := [], harness := (true, "575c31281fc30a62917d224e67d1575dfad1f5d6af8fed482027afcd6edad22f"), looks := false }, kinds := [], alts := [], laidByText := true, laidKinds := [.data, .data, .data], laidTests := true, laidLooks := .later }
def TurnsPlaceUptoCardSaid : Prop := Claim7.holds Tryz.pinned (.plain (OpenSpec.upto turnsPlaceSpec)) turnsPlaceUptoCard

/-- THE SECOND FORM's CARD OF 'sawmilllaw25.TurnsTurned'. -/
def turnsTurnedUptoCard : Claim7 := { stood := { row := turnsTurnedUptoRow, standIns := [], harness := (true, "575c31281fc30a62917d224e67d1575dfad1f5d6af8fed482027afcd6edad22f"), looks := false }, kinds := [], alts := [], laidByText := true, laidKinds := [.data, .data, .data], laidTests := true, laidLooks := .later }
def TurnsTurnedUptoCardSaid : Prop := Claim7.holds Tryz.pinned (.plain (OpenSpec.upto turnsTurnedSpec)) turnsTurnedUptoCard

/-- THE SECOND FORM's CARD OF 'sawmilllaw25.TurnsBest'. -/
def turnsBestUptoCard : Claim7 := { stood := { row := turnsBestUptoRow, standIns := [], harness := (true, "575c31281fc30a62917d224e67d1575dfad1f5d6af8fed482027afcd6edad22f"), looks := false }, kinds := [], alts := [], laidByText := true, laidKinds := [.data, .data, .data], laidTests := true, laidLooks := .later }
def TurnsBestUptoCardSaid : Prop := Claim7.holds Tryz.pinned (.plain (OpenSpec.upto turnsBestSpec)) turnsBestUptoCard
end Rows
end Go.Proofs.YtigmogcdifllhaaGreatDoor

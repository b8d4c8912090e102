/-
  DERIVED. GIVEN WITH THE SEED: THE CARDS: each row of YthbamnkheinbgaaGreatDoorRows.lean that lists a variable, with what it lists TIED to the program's text (the seventh form; the later family's looks); each row that meets fmt, with fmt's text TOLD by the authors' own Lean function (tested against real Go, not proved from fmt's source: count such statements apart). THE CARD IS WHAT COUNTS. Prove the row's statement (the work); the ties are given (YthbamnkheinbgaaGreatDoorTie.lean); close each card by the builder's one call (the guide's Derived/Test/ToyasCard.lean, 'card_holds'). Laid BY PROGRAM, IN A SANDBOX (cutbox-door.mjs). By AI agents, Wed Nov 11 2026. No macro, syntax, notation, axiom, sorry.
-/
import Derived.Test.YthbamnkheinbgaaGreatDoorRows
import GoSem.ClaimSeven
namespace Go.Proofs.YthbamnkheinbgaaGreatDoor
namespace Rows

/-- THE TIED CARD OF 'sawmilllaw15.ScanChecks'. -/
def scanChecksCard : Claim7 := { stood := { row := scanChecksRow, standIns := [], harness := (true, "069604ff6ec9e24357293719a531789aa8f66b28ebf4b5cdca7333ec4f923238"), looks := false }, kinds := [], alts := [], laidByText := true, laidKinds := [.data], laidTests := true, laidLooks := .later }
def ScanChecksCardSaid : Prop := Claim7.holds Tryz.pinned (.plain (OpenSpec.ofChange scanChecksSpec)) scanChecksCard

/-- THE TIED CARD OF 'sawmilllaw15.ScanBuilds'. -/
def scanBuildsCard : Claim7 := { stood := { row := scanBuildsRow, standIns := [], harness := (true, "069604ff6ec9e24357293719a531789aa8f66b28ebf4b5cdca7333ec4f923238"), looks := false }, kinds := [], alts := [], laidByText := true, laidKinds := [.data], laidTests := true, laidLooks := .later }
def ScanBuildsCardSaid : Prop := Claim7.holds Tryz.pinned (.plain (OpenSpec.ofChange scanBuildsSpec)) scanBuildsCard

/-- THE TIED CARD OF 'sawmilllaw15.ScanTexts'. -/
def scanTextsCard : Claim7 := { stood := { row := scanTextsRow, standIns := [], harness := (true, "069604ff6ec9e24357293719a531789aa8f66b28ebf4b5cdca7333ec4f923238"), looks := false }, kinds := [], alts := [], laidByText := true, laidKinds := [.data], laidTests := true, laidLooks := .later }
def ScanTextsCardSaid : Prop := Claim7.holds Tryz.pinned (.plain (OpenSpec.ofChange scanTextsSpec)) scanTextsCard

/-- THE TIED CARD OF 'sawmilllaw15.ScanBack'. -/
def scanBackCard : Claim7 := { stood := { row := scanBackRow, standIns := [], harness := (true, "069604ff6ec9e24357293719a531789aa8f66b28ebf4b5cdca7333ec4f923238"), looks := false }, kinds := [], alts := [], laidByText := true, laidKinds := [.data], laidTests := true, laidLooks := .later }
def ScanBackCardSaid : Prop := Claim7.holds Tryz.pinned (.plain (OpenSpec.ofChange scanBackSpec)) scanBackCard

/-- THE TIED CARD OF 'sawmilllaw15.ScanInside'. -/
def scanInsideCard : Claim7 := { stood := { row := scanInsideRow, standIns := [], harness := (true, "069604ff6ec9e24357293719a531789aa8f66b28ebf4b5cdca7333ec4f923238"), looks := false }, kinds := [], alts := [], laidByText := true, laidKinds := [.data], laidTests := true, laidLooks := .later }
def ScanInsideCardSaid : Prop := Claim7.holds Tryz.pinned (.plain (OpenSpec.ofChange scanInsideSpec)) scanInsideCard

/-- THE TIED CARD OF 'sawmilllaw15.ScanMerges'. -/
def scanMergesCard : Claim7 := { stood := { row := scanMergesRow, standIns := [], harness := (true, "069604ff6ec9e24357293719a531789aa8f66b28ebf4b5cdca7333ec4f923238"), looks := false }, kinds := [], alts := [], laidByText := true, laidKinds := [.data], laidTests := true, laidLooks := .later }
def ScanMergesCardSaid : Prop := Claim7.holds Tryz.pinned (.plain (OpenSpec.ofChange scanMergesSpec)) scanMergesCard

/-- THE TIED CARD OF 'sawmilllaw15.ScanPasses'. -/
def scanPassesCard : Claim7 := { stood := { row := scanPassesRow, standIns := [], harness := (true, "069604ff6ec9e24357293719a531789aa8f66b28ebf4b5cdca7333ec4f923238"), looks := false }, kinds := [], alts := [], laidByText := true, laidKinds := [.data], laidTests := true, laidLooks := .later }
def ScanPassesCardSaid : Prop := Claim7.holds Tryz.pinned (.plain (OpenSpec.ofChange scanPassesSpec)) scanPassesCard

/-- THE TIED CARD OF 'sawmilllaw15.ScanTurns'. -/
def scanTurnsCard : Claim7 := { stood := { row := scanTurnsRow, standIns := [], harness := (true, "069604ff6ec9e24357293719a531789aa8f66b28ebf4b5cdca7333ec4f923238"), looks := false }, kinds := [], alts := [], laidByText := true, laidKinds := [.data, .data], laidTests := true, laidLooks := .later }
def ScanTurnsCardSaid : Prop := Claim7.holds Tryz.pinned (.plain (OpenSpec.ofChange scanTurnsSpec)) scanTurnsCard

/-- THE TIED CARD OF 'sawmilllaw15.ScanHalves'. -/
def scanHalvesCard : Claim7 := { stood := { row := scanHalvesRow, standIns := [], harness := (true, "069604ff6ec9e24357293719a531789aa8f66b28ebf4b5cdca7333ec4f923238"), looks := false }, kinds := [], alts := [], laidByText := true, laidKinds := [.data, .data], laidTests := true, laidLooks := .later }
def ScanHalvesCardSaid : Prop := Claim7.holds Tryz.pinned (.plain (OpenSpec.ofChange scanHalvesSpec)) scanHalvesCard

/-- THE SECOND FORM's CARD OF 'sawmilllaw15.ScanChecks'. -/
def scanChecksUptoCard : Claim7 := { stood := { row := scanChecksUptoRow, standIns := [], harness := (true, "069604ff6ec9e24357293719a531789aa8f66b28ebf4b5cdca7333ec4f923238"), looks := false }, kinds := [], alts := [], laidByText := true, laidKinds := [.data], laidTests := true, laidLooks := .later }
def ScanChecksUptoCardSaid : Prop := Claim7.holds Tryz.pinned (.plain (OpenSpec.upto scanChecksSpec)) scanChecksUptoCard

/-- THE SECOND FORM's CARD OF 'sawmilllaw15.ScanBuilds'. -/
def scanBuildsUptoCard : Claim7 := { stood := { row := scanBuildsUptoRow, standIns := [], harness := (true, "069604ff6ec9e24357293719a531789aa8f66b28ebf4b5cdca7333ec4f923238"), looks := false }, kinds := [], alts := [], laidByText := true, laidKinds := [.data], laidTests := true, laidLooks := .later }
def ScanBuildsUptoCardSaid : Prop := Claim7.holds Tryz.pinned (.plain (OpenSpec.upto scanBuildsSpec)) scanBuildsUptoCard

/-- THE SECOND FORM's CARD OF 'sawmilllaw15.ScanTexts'. -/
def scanTextsUptoCard : Claim7 := { stood := { row := scanTextsUptoRow, standIns := [], harness := (true, "069604ff6ec9e24357293719a531789aa8f66b28ebf4b5cdca7333ec4f923238"), looks := false }, kinds := [], alts := [], laidByText := true, laidKinds := [.data], laidTests := true, laidLooks := .later }
def ScanTextsUptoCardSaid : Prop := Claim7.holds Tryz.pinned (.plain (OpenSpec.upto scanTextsSpec)) scanTextsUptoCard

/-- THE SECOND FORM's CARD OF 'sawmilllaw15.ScanBack'. -/
def scanBackUptoCard : Claim7 := { stood := { row := scanBackUptoRow, standIns := [], harness := (true, "069604ff6ec9e24357293719a531789aa8f66b28ebf4b5cdca7333ec4f923238"), looks := false }, kinds := [], alts := [], laidByText := true, laidKinds := [.data], laidTests := true, laidLooks := .later }
def ScanBackUptoCardSaid : Prop := Claim7.holds Tryz.pinned (.plain (OpenSpec.upto scanBackSpec)) scanBackUptoCard

/-- THE SECOND FORM's CARD OF 'sawmilllaw15.ScanInside'. -/
def scanInsideUptoCard : Claim7 := { stood := { row := scanInsideUptoRow, standIns := [], harness := (true, "069604ff6ec9e24357293719a531789aa8f66b28ebf4b5cdca7333ec4f923238"), looks := false }, kinds := [], alts := [], laidByText := true, laidKinds := [.data], laidTests := true, laidLooks := .later }
def ScanInsideUptoCardSaid : Prop := Claim7.holds Tryz.pinned (.plain (OpenSpec.upto scanInsideSpec)) scanInsideUptoCard

/-- THE SECOND FORM's CARD OF 'sawmilllaw15.ScanMerges'. -/
def scanMergesUptoCard : Claim7 := { stood := { row := scanMergesUptoRow, standIns := [], harness := (true, "069604ff6ec9e24357293719a531789aa8f66b28ebf4b5cdca7333ec4f923238"), looks := false }, kinds := [], alts := [], laidByText := true, laidKinds := [.data], laidTests := true, laidLooks := .later }
def ScanMergesUptoCardSaid : Prop := Claim7.holds Tryz.pinned (.plain (OpenSpec.upto scanMergesSpec)) scanMergesUptoCard

/-- THE SECOND FORM's CARD OF 'sawmilllaw15.ScanPasses'. -/
def scanPassesUptoCard : Claim7 := { stood := { row := scanPassesUptoRow, standIns := [], harness := (true, "069604ff6ec9e24357293719a531789aa8f66b28ebf4b5cdca7333ec4f923238"), looks := false }, kinds := [], alts := [], laidByText := true, laidKinds := [.data], laidTests := true, laidLooks := .later }
def ScanPassesUptoCardSaid : Prop := Claim7.holds Tryz.pinned (.plain (OpenSpec.upto scanPassesSpec)) scanPassesUptoCard

/-- THE SECOND FORM's CARD OF 'sawmilllaw15.ScanTurns'. -/
def scanTurnsUptoCard : Claim7 := { stood := { row := scanTurnsUptoRow, standIns := [], harness := (true, "069604ff6ec9e24357293719a531789aa8f66b28ebf4b5cdca7333ec4f923238"), looks := false }, kinds := [], alts := [], laidByText := true, laidKinds := [.data, .data], laidTests := true, laidLooks := .later }
def ScanTurnsUptoCardSaid : Prop := Claim7.holds Tryz.pinned (.plain (OpenSpec.upto scanTurnsSpec)) scanTurnsUptoCard

/-- THE SECOND FORM's CARD OF 'sawmilllaw15.ScanHalves'. -/
def scanHalvesUptoCard : Claim7 := { stood := { row := scanHalvesUptoRow, standIns := [], harness := (true, "069604ff6ec9e24357293719a531789aa8f66b28ebf4b5cdca7333ec4f923238"), looks := false }, kinds := [], alts := [], laidByText := true, laidKinds := [.data, .data], laidTests := true, laidLooks := .later }
def ScanHalvesUptoCardSaid : Prop := Claim7.holds Tryz.pinned (.plain (OpenSpec.upto scanHalvesSpec)) scanHalvesUptoCard
end Rows
end Go.Proofs.YthbamnkheinbgaaGreatDoor

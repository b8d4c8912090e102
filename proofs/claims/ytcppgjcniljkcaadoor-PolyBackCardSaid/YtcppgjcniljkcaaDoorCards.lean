/-
  DERIVED. GIVEN WITH THE SEED: THE CARDS: each row of YtcppgjcniljkcaaDoorRows.lean that lists a variable, with what it lists TIED to the program's text (the seventh form; the later family's looks); each row that meets fmt, with fmt's text TOLD by the authors' own Lean function (tested against real Go, not proved from fmt's source: count such statements apart). THE CARD IS WHAT COUNTS. Prove the row's statement (the work); the ties are given (YtcppgjcniljkcaaDoorTie.lean); close each card by the builder's one call (the guide's Derived/Test/ToyasCard.lean, 'card_holds'). Laid BY PROGRAM, IN A SANDBOX (cutbox-door.mjs). By AI agents, Wed Nov 11 2026. No macro, syntax, notation, axiom, sorry.
-/
import Derived.Test.YtcppgjcniljkcaaDoorRows
import GoSem.ClaimSeven
namespace Go.Proofs.YtcppgjcniljkcaaDoor
namespace Rows

/-- THE TIED CARD OF 'sawmilllaw09.PolyChecks'. -/
def polyChecksCard : Claim7 := { stood := { row := polyChecksRow, standIns := [], harness := (true, "0e786f8144c8bafaf1682b37cb06af83778bd79d2620b9c4f71106a693dbf626"), looks := false }, kinds := [], alts := [], laidByText := true, laidKinds := [.data], laidTests := true, laidLooks := .later }
def PolyChecksCardSaid : Prop := Claim7.holds Tryd.pinned (.plain (OpenSpec.ofChange polyChecksSpec)) polyChecksCard

/-- THE TIED CARD OF 'sawmilllaw09.PolyTurns'. -/
def polyTurnsCard : Claim7 := { stood := { row := polyTurnsRow, standIns := [], harness := (true, "0e786f8144c8bafaf1682b37cb06af83778bd79d2620b9c4f71106a693dbf626"), looks := false }, kinds := [], alts := [], laidByText := true, laidKinds := [.data], laidTests := true, laidLooks := .later }
def PolyTurnsCardSaid : Prop := Claim7.holds Tryd.pinned (.plain (OpenSpec.ofChange polyTurnsSpec)) polyTurnsCard

/-- THE TIED CARD OF 'sawmilllaw09.PolyHas'. -/
def polyHasCard : Claim7 := { stood := { row := polyHasRow, standIns := [], harness := (true, "0e786f8144c8bafaf1682b37cb06af83778bd79d2620b9c4f71106a693dbf626"), looks := false }, kinds := [], alts := [], laidByText := true, laidKinds := [.data], laidTests := true, laidLooks := .later }
def PolyHasCardSaid : Prop := Claim7.holds Tryd.pinned (.plain (OpenSpec.ofChange polyHasSpec)) polyHasCard

/-- THE TIED CARD OF 'sawmilllaw09.PolyHulls'. -/
def polyHullsCard : Claim7 := { stood := { row := polyHullsRow, standIns := [], harness := (true, "0e786f8144c8bafaf1682b37cb06af83778bd79d2620b9c4f71106a693dbf626"), looks := false }, kinds := [], alts := [], laidByText := true, laidKinds := [.data], laidTests := true, laidLooks := .later }
def PolyHullsCardSaid : Prop := Claim7.holds Tryd.pinned (.plain (OpenSpec.ofChange polyHullsSpec)) polyHullsCard

/-- THE TIED CARD OF 'sawmilllaw09.PolyChords'. -/
def polyChordsCard : Claim7 := { stood := { row := polyChordsRow, standIns := [], harness := (true, "0e786f8144c8bafaf1682b37cb06af83778bd79d2620b9c4f71106a693dbf626"), looks := false }, kinds := [], alts := [], laidByText := true, laidKinds := [.data], laidTests := true, laidLooks := .later }
def PolyChordsCardSaid : Prop := Claim7.holds Tryd.pinned (.plain (OpenSpec.ofChange polyChordsSpec)) polyChordsCard

/-- THE TIED CARD OF 'sawmilllaw09.PolyBack'. -/
def polyBackCard : Claim7 := { stood := { row := polyBackRow, standIns := [], harness := (true, "0e786f8144c8bafaf1682b37cb06af83778bd79d2620b9c4f71106a693dbf626"), looks := false }, kinds := [], alts := [], laidByText := true, laidKinds := [.data], laidTests := true, laidLooks := .later }
def PolyBackCardSaid : Prop := Claim7.holds Tryd.pinned (.plain (OpenSpec.ofChange polyBackSpec)) polyBackCard

/-- THE TIED CARD OF 'sawmilllaw09.PolyConvex'. -/
def polyConvexCard : Claim7 := { stood := { row := polyConvexRow, standIns := [], harness := (true, "0e786f8144c8bafaf1682b37cb06af83778bd79d2620b9c4f71106a693dbf626"), looks := false }, kinds := [], alts := [], laidByText := true, laidKinds := [.data], laidTests := true, laidLooks := .later }
def PolyConvexCardSaid : Prop := Claim7.holds Tryd.pinned (.plain (OpenSpec.ofChange polyConvexSpec)) polyConvexCard

/-- THE TIED CARD OF 'sawmilllaw09.PolyChord'. -/
def polyChordCard : Claim7 := { stood := { row := polyChordRow, standIns := [], harness := (true, "0e786f8144c8bafaf1682b37cb06af83778bd79d2620b9c4f71106a693dbf626"), looks := false }, kinds := [], alts := [], laidByText := true, laidKinds := [.data], laidTests := true, laidLooks := .later }
def PolyChordCardSaid : Prop := Claim7.holds Tryd.pinned (.plain (OpenSpec.ofChange polyChordSpec)) polyChordCard

/-- THE TIED CARD OF 'sawmilllaw09.PolyWithin'. -/
def polyWithinCard : Claim7 := { stood := { row := polyWithinRow, standIns := [], harness := (true, "0e786f8144c8bafaf1682b37cb06af83778bd79d2620b9c4f71106a693dbf626"), looks := false }, kinds := [], alts := [], laidByText := true, laidKinds := [.data], laidTests := true, laidLooks := .later }
def PolyWithinCardSaid : Prop := Claim7.holds Tryd.pinned (.plain (OpenSpec.ofChange polyWithinSpec)) polyWithinCard

/-- THE SECOND FORM's CARD OF 'sawmilllaw09.PolyChecks'. -/
def polyChecksUptoCard : Claim7 := { stood := { row := polyChecksUptoRow, standIns := [], harness := (true, "0e786f8144c8bafaf1682b37cb06af83778bd79d2620b9c4f71106a693dbf626"), looks := false }, kinds := [], alts := [], laidByText := true, laidKinds := [.data], laidTests := true, laidLooks := .later }
def PolyChecksUptoCardSaid : Prop := Claim7.holds Tryd.pinned (.plain (OpenSpec.upto polyChecksSpec)) polyChecksUptoCard

/-- THE SECOND FORM's CARD OF 'sawmilllaw09.PolyTurns'. -/
def polyTurnsUptoCard : Claim7 := { stood := { row := polyTurnsUptoRow, standIns := [], harness := (true, "0e786f8144c8bafaf1682b37cb06af83778bd79d2620b9c4f71106a693dbf626"), looks := false }, kinds := [], alts := [], laidByText := true, laidKinds := [.data], laidTests := true, laidLooks := .later }
def PolyTurnsUptoCardSaid : Prop := Claim7.holds Tryd.pinned (.plain (OpenSpec.upto polyTurnsSpec)) polyTurnsUptoCard

/-- THE SECOND FORM's CARD OF 'sawmilllaw09.PolyHas'. -/
def polyHasUptoCard : Claim7 := { stood := { row := polyHasUptoRow, standIns := [], harness := (true, "0e786f8144c8bafaf1682b37cb06af83778bd79d2620b9c4f71106a693dbf626"), looks := false }, kinds := [], alts := [], laidByText := true, laidKinds := [.data], laidTests := true, laidLooks := .later }
def PolyHasUptoCardSaid : Prop := Claim7.holds Tryd.pinned (.plain (OpenSpec.upto polyHasSpec)) polyHasUptoCard

/-- THE SECOND FORM's CARD OF 'sawmilllaw09.PolyHulls'. -/
def polyHullsUptoCard : Claim7 := { stood := { row := polyHullsUptoRow, standIns := [], harness := (true, "0e786f8144c8bafaf1682b37cb06af83778bd79d2620b9c4f71106a693dbf626"), looks := false }, kinds := [], alts := [], laidByText := true, laidKinds := [.data], laidTests := true, laidLooks := .later }
def PolyHullsUptoCardSaid : Prop := Claim7.holds Tryd.pinned (.plain (OpenSpec.upto polyHullsSpec)) polyHullsUptoCard

/-- THE SECOND FORM's CARD OF 'sawmilllaw09.PolyChords'. -/
def polyChordsUptoCard : Claim7 := { stood := { row := polyChordsUptoRow, standIns := [], harness := (true, "0e786f8144c8bafaf1682b37cb06af83778bd79d2620b9c4f71106a693dbf626"), looks := false }, kinds := [], alts := [], laidByText := true, laidKinds := [.data], laidTests := true, laidLooks := .later }
def PolyChordsUptoCardSaid : Prop := Claim7.holds Tryd.pinned (.plain (OpenSpec.upto polyChordsSpec)) polyChordsUptoCard

/-- THE SECOND FORM's CARD OF 'sawmilllaw09.PolyBack'. -/
def polyBackUptoCard : Claim7 := { stood := { row := polyBackUptoRow, standIns := [], harness := (true, "0e786f8144c8bafaf1682b37cb06af83778bd79d2620b9c4f71106a693dbf626"), looks := false }, kinds := [], alts := [], laidByText := true, laidKinds := [.data], laidTests := true, laidLooks := .later }
def PolyBackUptoCardSaid : Prop := Claim7.holds Tryd.pinned (.plain (OpenSpec.upto polyBackSpec)) polyBackUptoCard

/-- THE SECOND FORM's CARD OF 'sawmilllaw09.PolyConvex'. -/
def polyConvexUptoCard : Claim7 := { stood := { row := polyConvexUptoRow, standIns := [], harness := (true, "0e786f8144c8bafaf1682b37cb06af83778bd79d2620b9c4f71106a693dbf626"), looks := false }, kinds := [], alts := [], laidByText := true, laidKinds := [.data], laidTests := true, laidLooks := .later }
def PolyConvexUptoCardSaid : Prop := Claim7.holds Tryd.pinned (.plain (OpenSpec.upto polyConvexSpec)) polyConvexUptoCard

/-- THE SECOND FORM's CARD OF 'sawmilllaw09.PolyChord'. -/
def polyChordUptoCard : Claim7 := { stood := { row := polyChordUptoRow, standIns := [], harness := (true, "0e786f8144c8bafaf1682b37cb06af83778bd79d2620b9c4f71106a693dbf626"), looks := false }, kinds := [], alts := [], laidByText := true, laidKinds := [.data], laidTests := true, laidLooks := .later }
def PolyChordUptoCardSaid : Prop := Claim7.holds Tryd.pinned (.plain (OpenSpec.upto polyChordSpec)) polyChordUptoCard

/-- THE SECOND FORM's CARD OF 'sawmilllaw09.PolyWithin'. -/
def polyWithinUptoCard : Claim7 := { stood := { row := polyWithinUptoRow, standIns := [], harness := (true, "0e786f8144c8bafaf1682b37cb06af83778bd79d2620b9c4f71106a693dbf626"), looks := false }, kinds := [], alts := [], laidByText := true, laidKinds := [.data], laidTests := true, laidLooks := .later }
def PolyWithinUptoCardSaid : Prop := Claim7.holds Tryd.pinned (.plain (OpenSpec.upto polyWithinSpec)) polyWithinUptoCard
end Rows
end Go.Proofs.YtcppgjcniljkcaaDoor

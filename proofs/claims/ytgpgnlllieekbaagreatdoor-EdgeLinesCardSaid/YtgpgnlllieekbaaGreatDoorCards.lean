/-
  DERIVED. GIVEN WITH THE SEED: THE CARDS: each row of YtgpgnlllieekbaaGreatDoorRows.lean that lists a variable, with what it lists TIED to the program's text (the seventh form; the later family's looks); each row that meets fmt, with fmt's text TOLD by the authors' own Lean function (tested against real Go, not proved from fmt's source: count such statements apart). THE CARD IS WHAT COUNTS. Prove the row's statement (the work); the ties are given (YtgpgnlllieekbaaGreatDoorTie.lean); close each card by the builder's one call (the guide's Derived/Test/ToyasCard.lean, 'card_holds'). Laid BY PROGRAM, IN A SANDBOX (cutbox-door.mjs). By AI agents, Wed Nov 11 2026. No macro, syntax, notation, axiom, sorry.
-/
import Derived.Test.YtgpgnlllieekbaaGreatDoorRows
import GoSem.ClaimSeven
namespace Go.Proofs.YtgpgnlllieekbaaGreatDoor
namespace Rows

/-- THE TIED CARD OF 'sawmilllaw23.EdgeLines'. -/
def edgeLinesCard : Claim7 := { stood := { row := edgeLinesRow, standIns := [], harness := (true, "7fca725fee5e46ba5285a869afbcaed0904b17439de73a96373b6139e8a0a4ed"), looks := false }, kinds := [], alts := [], laidByText := true, laidKinds := [.data], laidTests := true, laidLooks := .later }
def EdgeLinesCardSaid : Prop := Claim7.holds Tryz.pinned (.plain (OpenSpec.ofChange edgeLinesSpec)) edgeLinesCard

/-- THE TIED CARD OF 'sawmilllaw23.EdgeBests'. -/
def edgeBestsCard : Claim7 := { stood := { row := edgeBestsRow, standIns := [], harness := (true, "7fca725fee5e46ba5285a869afbcaed0904b17439de73a96373b6139e8a0a4ed"), looks := false }, kinds := [], alts := [], laidByText := true, laidKinds := [.data], laidTests := true, laidLooks := .later }
def EdgeBestsCardSaid : Prop := Claim7.holds Tryz.pinned (.plain (OpenSpec.ofChange edgeBestsSpec)) edgeBestsCard

/-- THE SECOND FORM's CARD OF 'sawmilllaw23.EdgeLines'. -/
def edgeLinesUptoCard : Claim7 := { stood := { row := edgeLinesUptoRow, standIns := [], harness := (true, "7fca725fee5e46ba5285a869afbcaed0904b17439de73a96373b6139e8a0a4ed"), looks := false }, kinds := [], alts := [], laidByText := true, laidKinds := [.data], laidTests := true, laidLooks := .later }
def EdgeLinesUptoCardSaid : Prop := Claim7.holds Tryz.pinned (.plain (OpenSpec.upto edgeLinesSpec)) edgeLinesUptoCard

/-- THE SECOND FORM's CARD OF 'sawmilllaw23.EdgeBests'. -/
def edgeBestsUptoCard : Claim7 := { stood := { row := edgeBestsUptoRow, standIns := [], harness := (true, "7fca725fee5e46ba5285a869afbcaed0904b17439de73a96373b6139e8a0a4ed"), looks := false }, kinds := [], alts := [], laidByText := true, laidKinds := [.data], laidTests := true, laidLooks := .later }
def EdgeBestsUptoCardSaid : Prop := Claim7.holds Tryz.pinned (.plain (OpenSpec.upto edgeBestsSpec)) edgeBestsUptoCard
end Rows
end Go.Proofs.YtgpgnlllieekbaaGreatDoor

/-
  DERIVED. GIVEN WITH THE SEED: THE CARDS: each row of YtgpgnlllieekbaaDoorRows.lean that lists a variable, with what it lists TIED to the program's text (the seventh form; the later family's looks); each row that meets fmt, with fmt's text TOLD by the authors' own Lean function (tested against real Go, not proved from fmt's source: count such statements apart). THE CARD IS WHAT COUNTS. Prove the row's statement (the work); the ties are given (YtgpgnlllieekbaaDoorTie.lean); close each card by the builder's one call (the guide's Derived/Test/ToyasCard.lean, 'card_holds'). Laid BY PROGRAM, IN A SANDBOX (cutbox-door.mjs). By AI agents, Wed Nov 11 2026. No macro, syntax, notation, axiom, sorry.
-/
import Derived.Test.YtgpgnlllieekbaaDoorRows
import GoSem.ClaimSeven
namespace Go.Proofs.YtgpgnlllieekbaaDoor
namespace Rows

/-- THE TIED CARD OF 'sawmilllaw23.EdgeSizes'. -/
def edgeSizesCard : Claim7 := { stood := { row := edgeSizesRow, standIns := [], harness := (true, "4a744bb31c097c650d47c4ed2a418fcd96c4b11a131b21de0b6694b248caef5f"), looks := false }, kinds := [], alts := [], laidByText := true, laidKinds := [.data], laidTests := true, laidLooks := .later }
def EdgeSizesCardSaid : Prop := Claim7.holds Tryd.pinned (.plain (OpenSpec.ofChange edgeSizesSpec)) edgeSizesCard

/-- THE TIED CARD OF 'sawmilllaw23.EdgeMore'. -/
def edgeMoreCard : Claim7 := { stood := { row := edgeMoreRow, standIns := [], harness := (true, "4a744bb31c097c650d47c4ed2a418fcd96c4b11a131b21de0b6694b248caef5f"), looks := false }, kinds := [], alts := [], laidByText := true, laidKinds := [.data], laidTests := true, laidLooks := .later }
def EdgeMoreCardSaid : Prop := Claim7.holds Tryd.pinned (.plain (OpenSpec.ofChange edgeMoreSpec)) edgeMoreCard

/-- THE TIED CARD OF 'sawmilllaw23.EdgeMoves'. -/
def edgeMovesCard : Claim7 := { stood := { row := edgeMovesRow, standIns := [], harness := (true, "4a744bb31c097c650d47c4ed2a418fcd96c4b11a131b21de0b6694b248caef5f"), looks := false }, kinds := [], alts := [], laidByText := true, laidKinds := [.data], laidTests := true, laidLooks := .later }
def EdgeMovesCardSaid : Prop := Claim7.holds Tryd.pinned (.plain (OpenSpec.ofChange edgeMovesSpec)) edgeMovesCard

/-- THE TIED CARD OF 'sawmilllaw23.EdgeOptimal'. -/
def edgeOptimalCard : Claim7 := { stood := { row := edgeOptimalRow, standIns := [], harness := (true, "4a744bb31c097c650d47c4ed2a418fcd96c4b11a131b21de0b6694b248caef5f"), looks := false }, kinds := [], alts := [], laidByText := true, laidKinds := [.data], laidTests := true, laidLooks := .later }
def EdgeOptimalCardSaid : Prop := Claim7.holds Tryd.pinned (.plain (OpenSpec.ofChange edgeOptimalSpec)) edgeOptimalCard

/-- THE TIED CARD OF 'sawmilllaw23.EdgeYields'. -/
def edgeYieldsCard : Claim7 := { stood := { row := edgeYieldsRow, standIns := [], harness := (true, "4a744bb31c097c650d47c4ed2a418fcd96c4b11a131b21de0b6694b248caef5f"), looks := false }, kinds := [], alts := [], laidByText := true, laidKinds := [.data], laidTests := true, laidLooks := .later }
def EdgeYieldsCardSaid : Prop := Claim7.holds Tryd.pinned (.plain (OpenSpec.ofChange edgeYieldsSpec)) edgeYieldsCard

/-- THE SECOND FORM's CARD OF 'sawmilllaw23.EdgeSizes'. -/
def edgeSizesUptoCard : Claim7 := { stood := { row := edgeSizesUptoRow, standIns := [], harness := (true, "4a744bb31c097c650d47c4ed2a418fcd96c4b11a131b21de0b6694b248caef5f"), looks := false }, kinds := [], alts := [], laidByText := true, laidKinds := [.data], laidTests := true, laidLooks := .later }
def EdgeSizesUptoCardSaid : Prop := Claim7.holds Tryd.pinned (.plain (OpenSpec.upto edgeSizesSpec)) edgeSizesUptoCard

/-- THE SECOND FORM's CARD OF 'sawmilllaw23.EdgeMore'. -/
def edgeMoreUptoCard : Claim7 := { stood := { row := edgeMoreUptoRow, standIns := [], harness := (true, "4a744bb31c097c650d47c4ed2a418fcd96c4b11a131b21de0b6694b248caef5f"), looks := false }, kinds := [], alts := [], laidByText := true, laidKinds := [.data], laidTests := true, laidLooks := .later }
def EdgeMoreUptoCardSaid : Prop := Claim7.holds Tryd.pinned (.plain (OpenSpec.upto edgeMoreSpec)) edgeMoreUptoCard

/-- THE SECOND FORM's CARD OF 'sawmilllaw23.EdgeMoves'. -/
def edgeMovesUptoCard : Claim7 := { stood := { row := edgeMovesUptoRow, standIns := [], harness := (true, "4a744bb31c097c650d47c4ed2a418fcd96c4b11a131b21de0b6694b248caef5f"), looks := false }, kinds := [], alts := [], laidByText := true, laidKinds := [.data], laidTests := true, laidLooks := .later }
def EdgeMovesUptoCardSaid : Prop := Claim7.holds Tryd.pinned (.plain (OpenSpec.upto edgeMovesSpec)) edgeMovesUptoCard

/-- THE SECOND FORM's CARD OF 'sawmilllaw23.EdgeOptimal'. -/
def edgeOptimalUptoCard : Claim7 := { stood := { row := edgeOptimalUptoRow, standIns := [], harness := (true, "4a744bb31c097c650d47c4ed2a418fcd96c4b11a131b21de0b6694b248caef5f"), looks := false }, kinds := [], alts := [], laidByText := true, laidKinds := [.data], laidTests := true, laidLooks := .later }
def EdgeOptimalUptoCardSaid : Prop := Claim7.holds Tryd.pinned (.plain (OpenSpec.upto edgeOptimalSpec)) edgeOptimalUptoCard

/-- THE SECOND FORM's CARD OF 'sawmilllaw23.EdgeYields'. -/
def edgeYieldsUptoCard : Claim7 := { stood := { row := edgeYieldsUptoRow, standIns := [], harness := (true, "4a744bb31c097c650d47c4ed2a418fcd96c4b11a131b21de0b6694b248caef5f"), looks := false }, kinds := [], alts := [], laidByText := true, laidKinds := [.data], laidTests := true, laidLooks := .later }
def EdgeYieldsUptoCardSaid : Prop := Claim7.holds Tryd.pinned (.plain (OpenSpec.upto edgeYieldsSpec)) edgeYieldsUptoCard
end Rows
end Go.Proofs.YtgpgnlllieekbaaDoor

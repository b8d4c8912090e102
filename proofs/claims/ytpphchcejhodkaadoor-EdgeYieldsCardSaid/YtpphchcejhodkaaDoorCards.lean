/-
  DERIVED. GIVEN WITH THE SEED: THE CARDS: each row of YtpphchcejhodkaaDoorRows.lean that lists a variable, with what it lists TIED to the program's text (the seventh form; the later family's looks); each row that meets fmt, with fmt's text TOLD by the authors' own Lean function (tested against real Go, not proved from fmt's source: count such statements apart). THE CARD IS WHAT COUNTS. Prove the row's statement (the work); the ties are given (YtpphchcejhodkaaDoorTie.lean); close each card by the builder's one call (the guide's Derived/Test/ToyasCard.lean, 'card_holds'). Laid BY PROGRAM, IN A SANDBOX (cutbox-door.mjs). By AI agents, Wed Nov 11 2026. No macro, syntax, notation, axiom, sorry.
-/
import Derived.Test.YtpphchcejhodkaaDoorRows
import GoSem.ClaimSeven
namespace Go.Proofs.YtpphchcejhodkaaDoor
namespace Rows

/-- THE TIED CARD OF 'sawmilllaw23.EdgeYields'. -/
def edgeYieldsCard : Claim7 := { stood := { row := edgeYieldsRow, standIns := [], harness := (true, "b7c3a1f1f722d65b0b15b66273058851beb1bb6cb6ca795d2b3ad057449dc721"), looks := false }, kinds := [], alts := [], laidByText := true, laidKinds := [.data], laidTests := true, laidLooks := .later }
def EdgeYieldsCardSaid : Prop := Claim7.holds Tryd.pinned (.plain (OpenSpec.ofChange edgeYieldsSpec)) edgeYieldsCard

/-- THE SECOND FORM's CARD OF 'sawmilllaw23.EdgeYields'. -/
def edgeYieldsUptoCard : Claim7 := { stood := { row := edgeYieldsUptoRow, standIns := [], harness := (true, "b7c3a1f1f722d65b0b15b66273058851beb1bb6cb6ca795d2b3ad057449dc721"), looks := false }, kinds := [], alts := [], laidByText := true, laidKinds := [.data], laidTests := true, laidLooks := .later }
def EdgeYieldsUptoCardSaid : Prop := Claim7.holds Tryd.pinned (.plain (OpenSpec.upto edgeYieldsSpec)) edgeYieldsUptoCard
end Rows
end Go.Proofs.YtpphchcejhodkaaDoor

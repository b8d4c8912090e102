/-
  NARROWER THAN 'FOR EVERY INPUT', by the rows' own cells (each row's printed sentence says how): TurnsPlaces: laid · TurnsAll: laid · TurnsPlace: laid · TurnsTurned: laid · TurnsBest: laid.
  DERIVED. THE GIVEN ROWS OF THIS SEAT. 5 by the template 'for every input the law returns true; each argument reads behind the call as it read before'; 0 by the template 'total and deterministic' (their statements: YtigmogcdifllhaaGreatDoorTotals.lean).
  GIVEN WITH THE SEED: the statements are not yours to turn. If you find one false, say at which input.
  Laid BY PROGRAM, IN A SANDBOX (cutbox-rows.mjs): the forced cells as the released guide's own fill.sh prints them over the translation aaedac49dc013301… (all of the seat's roots in one cut). By AI agents, Wed Nov 11 2026. No macro, syntax, notation, axiom, sorry.
-/
import Derived.Test.YtigmogcdifllhaaGreatDoorChecked
import GoSem.Claim
import GoSem.ClaimJoined
import GoSem.ClaimMapViews
import Derived.JoinedTies
import Derived.KernelRfl
namespace Go.Proofs.YtigmogcdifllhaaGreatDoor
/- THE CELL 'sum', in the pinned program and in every row, IS THE sha256 OF THE DUMP (.gsa) THAT YtigmogcdifllhaaGreatDoorProg.lean LOADS. Nothing in Lean hashes anything: it is a label: what it is worth is what the hold of that sum in a sandbox is worth. -/
noncomputable def Tryz.pinned : Pinned := { name := "ytigmogcdifllhaagreatdoor", sum := "aaedac49dc0133016114a58de839d5259fab238bbdd934ff63812297d5baef67", checked := Tryz.checked }
namespace Rows
def none {H : Type} : Left H := { results := [], args := [] }

/- WHAT THE LISTED PACKAGE-LEVEL VARIABLES READ AS WHEN THE CALL BEGINS. Each datum BY PROGRAM (the guide's laid-datum.mjs) off the statement by which the dump's own 'gosem.cut.vars' lays the variable. In a bare row this is a premise. The card (YtigmogcdifllhaaGreatDoorCards.lean) ties it to the program's text. -/
def laid_sawmill_cutting_none {H : Type} : DataW H := .agg [.lit (.int .i64 (-1)), .lit (.int .i64 (-1))]
def laid_sawmill_poly_turns {H : Type} : DataW H := .agg [.agg [.lit (.int .i64 1), .lit (.int .i64 0)], .agg [.lit (.int .i64 0), .lit (.int .i64 1)], .agg [.lit (.int .i64 (-1)), .lit (.int .i64 0)], .agg [.lit (.int .i64 0), .lit (.int .i64 (-1))]]
def laid_sawmill_ring_directions {H : Type} : DataW H := .agg [.lit (.int .i64 (-1)), .lit (.int .i64 1)]

/-- 'sawmilllaw25.TurnsPlaces': WHATEVER THE INPUT: true; the input reads as it did. -/
def turnsPlacesSpec : ChangeSpec := { name := "turnsPlaces", fn := fun _ => fun
  | [d1, d2] => { results := [.lit (.bool true)], args := [d1, d2] }
  | _ => none }
def turnsPlacesRow : OpenClaim := { program := "ytigmogcdifllhaagreatdoor", sum := "aaedac49dc0133016114a58de839d5259fab238bbdd934ff63812297d5baef67", func := "sawmill/sawmilllaw25.TurnsPlaces", spec := "turnsPlaces", unfollowed := true, recurses := true, named := ["sawmill/poly.turns", "sawmill/ring.directions", "sawmill/cutting.none"], apart := false, laid := [("sawmill/cutting.none", laid_sawmill_cutting_none), ("sawmill/poly.turns", laid_sawmill_poly_turns), ("sawmill/ring.directions", laid_sawmill_ring_directions)] }
def TurnsPlacesSaid : Prop := turnsPlacesRow.holds Tryz.pinned (OpenSpec.ofChange turnsPlacesSpec)

/-- ITS FALSE NEIGHBOUR: 'it returns false'. Refute it at one input. -/
def turnsPlacesWrong : ChangeSpec := { name := "turnsPlaces", fn := fun _ => fun
  | [d1, d2] => { results := [.lit (.bool false)], args := [d1, d2] }
  | _ => none }
def TurnsPlacesWrongFalsely : Prop := turnsPlacesRow.holds Tryz.pinned (OpenSpec.ofChange turnsPlacesWrong)

/-- 'sawmilllaw25.TurnsAll': WHATEVER THE INPUT: true; the input reads as it did. -/
def turnsAllSpec : ChangeSpec := { name := "turnsAll", fn := fun _ => fun
  | [d1, d2] => { results := [.lit (.bool true)], args := [d1, d2] }
  | _ => none }
def turnsAllRow : OpenClaim := { program := "ytigmogcdifllhaagreatdoor", sum := "aaedac49dc0133016114a58de839d5259fab238bbdd934ff63812297d5baef67", func := "sawmill/sawmilllaw25.TurnsAll", spec := "turnsAll", unfollowed := true, recurses := true, named := ["sawmill/poly.turns", "sawmill/ring.directions", "sawmill/cutting.none"], apart := false, laid := [("sawmill/cutting.none", laid_sawmill_cutting_none), ("sawmill/poly.turns", laid_sawmill_poly_turns), ("sawmill/ring.directions", laid_sawmill_ring_directions)] }
def TurnsAllSaid : Prop := turnsAllRow.holds Tryz.pinned (OpenSpec.ofChange turnsAllSpec)

/-- ITS FALSE NEIGHBOUR: 'it returns false'. Refute it at one input. -/
def turnsAllWrong : ChangeSpec := { name := "turnsAll", fn := fun _ => fun
  | [d1, d2] => { results := [.lit (.bool false)], args := [d1, d2] }
  | _ => none }
def TurnsAllWrongFalsely : Prop := turnsAllRow.holds Tryz.pinned (OpenSpec.ofChange turnsAllWrong)

/-- 'sawmilllaw25.TurnsPlace': WHATEVER THE INPUT: true; the input reads as it did. -/
def turnsPlaceSpec : ChangeSpec := { name := "turnsPlace", fn := fun _ => fun
  | [d1, d2, d3] => { results := [.lit (.bool true)], args := [d1, d2, d3] }
  | _ => none }
def turnsPlaceRow : OpenClaim := { program := "ytigmogcdifllhaagreatdoor", sum := "aaedac49dc0133016114a58de839d5259fab238bbdd934ff63812297d5baef67", func := "sawmill/sawmilllaw25.TurnsPlace", spec := "turnsPlace", unfollowed := true, recurses := true, named := ["sawmill/poly.turns", "sawmill/ring.directions", "sawmill/cutting.none"], apart := false, laid := [("sawmill/cutting.none", laid_sawmill_cutting_none), ("sawmill/poly.turns", laid_sawmill_poly_turns), ("sawmill/ring.directions", laid_sawmill_ring_directions)] }
def TurnsPlaceSaid : Prop := turnsPlaceRow.holds Tryz.pinned (OpenSpec.ofChange turnsPlaceSpec)

/-- ITS FALSE NEIGHBOUR: 'it returns false'. Refute it at one input. -/
def turnsPlaceWrong : ChangeSpec := { name := "turnsPlace", fn := fun _ => fun
  | [d1, d2, d3] => { results := [.lit (.bool false)], args := [d1, d2, d3] }
  | _ => none }
def TurnsPlaceWrongFalsely : Prop := turnsPlaceRow.holds Tryz.pinned (OpenSpec.ofChange turnsPlaceWrong)

/-- 'sawmilllaw25.TurnsTurned': WHATEVER THE INPUT: true; the input reads as it did. -/
def turnsTurnedSpec : ChangeSpec := { name := "turnsTurned", fn := fun _ => fun
  | [d1, d2] => { results := [.lit (.bool true)], args := [d1, d2] }
  | _ => none }
def turnsTurnedRow : OpenClaim := { program := "ytigmogcdifllhaagreatdoor", sum := "aaedac49dc0133016114a58de839d5259fab238bbdd934ff63812297d5baef67", func := "sawmill/sawmilllaw25.TurnsTurned", spec := "turnsTurned", unfollowed := true, recurses := true, named := ["sawmill/poly.turns", "sawmill/ring.directions", "sawmill/cutting.none"], apart := false, laid := [("sawmill/cutting.none", laid_sawmill_cutting_none), ("sawmill/poly.turns", laid_sawmill_poly_turns), ("sawmill/ring.directions", laid_sawmill_ring_directions)] }
def TurnsTurnedSaid : Prop := turnsTurnedRow.holds Tryz.pinned (OpenSpec.ofChange turnsTurnedSpec)

/-- ITS FALSE NEIGHBOUR: 'it returns false'. Refute it at one input. -/
def turnsTurnedWrong : ChangeSpec := { name := "turnsTurned", fn := fun _ => fun
  | [d1, d2] => { results := [.lit (.bool false)], args := [d1, d2] }
  | _ => none }
def TurnsTurnedWrongFalsely : Prop := turnsTurnedRow.holds Tryz.pinned (OpenSpec.ofChange turnsTurnedWrong)

/-- 'sawmilllaw25.TurnsBest': WHATEVER THE INPUT: true; the input reads as it did. -/
def turnsBestSpec : ChangeSpec := { name := "turnsBest", fn := fun _ => fun
  | [d1, d2] => { results := [.lit (.bool true)], args := [d1, d2] }
  | _ => none }
def turnsBestRow : OpenClaim := { program := "ytigmogcdifllhaagreatdoor", sum := "aaedac49dc0133016114a58de839d5259fab238bbdd934ff63812297d5baef67", func := "sawmill/sawmilllaw25.TurnsBest", spec := "turnsBest", unfollowed := true, recurses := true, named := ["sawmill/poly.turns", "sawmill/ring.directions", "sawmill/cutting.none"], apart := false, laid := [("sawmill/cutting.none", laid_sawmill_cutting_none), ("sawmill/poly.turns", laid_sawmill_poly_turns), ("sawmill/ring.directions", laid_sawmill_ring_directions)] }
def TurnsBestSaid : Prop := turnsBestRow.holds Tryz.pinned (OpenSpec.ofChange turnsBestSpec)

/-- ITS FALSE NEIGHBOUR: 'it returns false'. Refute it at one input. -/
def turnsBestWrong : ChangeSpec := { name := "turnsBest", fn := fun _ => fun
  | [d1, d2] => { results := [.lit (.bool false)], args := [d1, d2] }
  | _ => none }
def TurnsBestWrongFalsely : Prop := turnsBestRow.holds Tryz.pinned (OpenSpec.ofChange turnsBestWrong)

/- THE SECOND FORM. 'bulk': how many values and letters a reading holds, each counted each time it is reached (what is shared counts as often as it is met; a slice's spare places count too). A statement '..UptoSaid' is the law's where the arguments, and the package variables that the reading takes, are together of bulk at most 1048576: NARROWER than '..Said'. Prove '..Said' where nothing that the law and all that it calls make is longer than what came in: it says more and counts as full. Else prove '..UptoSaid'. A law counts once. -/
mutual
def uptoBulk {H : Type} : DataW H → Nat
  | .lit (.string bytes) => bytes.length + 1
  | .lit _ => 1
  | .nil => 1
  | .ptr d => uptoBulk d + 1
  | .slice elems spare => uptoBulkAll elems + uptoBulkAll spare + 1
  | .agg parts => uptoBulkAll parts + 1
  | .iface _ d => uptoBulk d + 1
  | .map entries => uptoBulkEntries entries + 1
  | .held _ => 1
def uptoBulkAll {H : Type} : List (DataW H) → Nat
  | [] => 0
  | d :: r => uptoBulk d + uptoBulkAll r
def uptoBulkEntries {H : Type} : List (Lit × DataW H) → Nat
  | [] => 0
  | x :: r => uptoBulkEntry x + uptoBulkEntries r
def uptoBulkEntry {H : Type} : Lit × DataW H → Nat
  | (.string bytes, d) => bytes.length + uptoBulk d + 1
  | (_, d) => uptoBulk d + 1
 end
def uptoSmall : (H : Type) → List (DataW H) → Bool := fun _ ds => decide (uptoBulkAll ds ≤ 1048576)
def OpenSpec.upto (s : _root_.Go.ChangeSpec) : _root_.Go.OpenSpec := { _root_.Go.OpenSpec.ofChange s with cond := some uptoSmall }

/-- 'sawmilllaw25.TurnsPlaces', WHERE WHAT IT READS IS OF BULK AT MOST 1048576: true; the input reads as it did. -/
def turnsPlacesUptoRow : OpenClaim := { program := "ytigmogcdifllhaagreatdoor", sum := "aaedac49dc0133016114a58de839d5259fab238bbdd934ff63812297d5baef67", func := "sawmill/sawmilllaw25.TurnsPlaces", spec := "turnsPlaces", unfollowed := true, recurses := true, named := ["sawmill/poly.turns", "sawmill/ring.directions", "sawmill/cutting.none"], apart := false, laid := [("sawmill/cutting.none", laid_sawmill_cutting_none), ("sawmill/poly.turns", laid_sawmill_poly_turns), ("sawmill/ring.directions", laid_sawmill_ring_directions)], narrowed := true }
def TurnsPlacesUptoSaid : Prop := turnsPlacesUptoRow.holds Tryz.pinned (OpenSpec.upto turnsPlacesSpec)

/-- 'sawmilllaw25.TurnsAll', WHERE WHAT IT READS IS OF BULK AT MOST 1048576: true; the input reads as it did. -/
def turnsAllUptoRow : OpenClaim := { program := "ytigmogcdifllhaagreatdoor", sum := "aaedac49dc0133016114a58de839d5259fab238bbdd934ff63812297d5baef67", func := "sawmill/sawmilllaw25.TurnsAll", spec := "turnsAll", unfollowed := true, recurses := true, named := ["sawmill/poly.turns", "sawmill/ring.directions", "sawmill/cutting.none"], apart := false, laid := [("sawmill/cutting.none", laid_sawmill_cutting_none), ("sawmill/poly.turns", laid_sawmill_poly_turns), ("sawmill/ring.directions", laid_sawmill_ring_directions)], narrowed := true }
def TurnsAllUptoSaid : Prop := turnsAllUptoRow.holds Tryz.pinned (OpenSpec.upto turnsAllSpec)

/-- 'sawmilllaw25.TurnsPlace', WHERE WHAT IT READS IS OF BULK AT MOST 1048576: true; the input reads as it did. -/
def turnsPlaceUptoRow : OpenClaim := { program := "ytigmogcdifllhaagreatdoor", sum := "aaedac49dc0133016114a58de839d5259fab238bbdd934ff63812297d5baef67", func := "sawmill/sawmilllaw25.TurnsPlace", spec := "turnsPlace", unfollowed := true, recurses := true, named := ["sawmill/poly.turns", "sawmill/ring.directions", "sawmill/cutting.none"], apart := false, laid := [("sawmill/cutting.none", laid_sawmill_cutting_none), ("sawmill/poly.turns", laid_sawmill_poly_turns), ("sawmill/ring.directions", laid_sawmill_ring_directions)], narrowed := true }
def TurnsPlaceUptoSaid : Prop := turnsPlaceUptoRow.holds Tryz.pinned (OpenSpec.upto turnsPlaceSpec)

/-- 'sawmilllaw25.TurnsTurned', WHERE WHAT IT READS IS OF BULK AT MOST 1048576: true; the input reads as it did. -/
def turnsTurnedUptoRow : OpenClaim := { program := "ytigmogcdifllhaagreatdoor", sum := "aaedac49dc0133016114a58de839d5259fab238bbdd934ff63812297d5baef67", func := "sawmill/sawmilllaw25.TurnsTurned", spec := "turnsTurned", unfollowed := true, recurses := true, named := ["sawmill/poly.turns", "sawmill/ring.directions", "sawmill/cutting.none"], apart := false, laid := [("sawmill/cutting.none", laid_sawmill_cutting_none), ("sawmill/poly.turns", laid_sawmill_poly_turns), ("sawmill/ring.directions", laid_sawmill_ring_directions)], narrowed := true }
def TurnsTurnedUptoSaid : Prop := turnsTurnedUptoRow.holds Tryz.pinned (OpenSpec.upto turnsTurnedSpec)

/-- 'sawmilllaw25.TurnsBest', WHERE WHAT IT READS IS OF BULK AT MOST 1048576: true; the input reads as it did. -/
def turnsBestUptoRow : OpenClaim := { program := "ytigmogcdifllhaagreatdoor", sum := "aaedac49dc0133016114a58de839d5259fab238bbdd934ff63812297d5baef67", func := "sawmill/sawmilllaw25.TurnsBest", spec := "turnsBest", unfollowed := true, recurses := true, named := ["sawmill/poly.turns", "sawmill/ring.directions", "sawmill/cutting.none"], apart := false, laid := [("sawmill/cutting.none", laid_sawmill_cutting_none), ("sawmill/poly.turns", laid_sawmill_poly_turns), ("sawmill/ring.directions", laid_sawmill_ring_directions)], narrowed := true }
def TurnsBestUptoSaid : Prop := turnsBestUptoRow.holds Tryz.pinned (OpenSpec.upto turnsBestSpec)

end Rows
end Go.Proofs.YtigmogcdifllhaaGreatDoor

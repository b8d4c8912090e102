/-
  NARROWER THAN 'FOR EVERY INPUT', by the rows' own cells (each row's printed sentence says how): ScanChecks: laid · ScanBuilds: laid · ScanTexts: laid · ScanBack: laid · ScanInside: laid · ScanMerges: laid · ScanPasses: laid · ScanTurns: laid · ScanHalves: laid.
  DERIVED. THE GIVEN ROWS OF THIS SEAT. 9 by the template 'for every input the law returns true; each argument reads behind the call as it read before'; 0 by the template 'total and deterministic' (their statements: YthbamnkheinbgaaGreatDoorTotals.lean).
  GIVEN WITH THE SEED: the statements are not yours to turn. If you find one false, say at which input.
  Laid BY PROGRAM, IN A SANDBOX (cutbox-rows.mjs): the forced cells as the released guide's own fill.sh prints them over the translation dbb1f77ef5e34840… (all of the seat's roots in one cut). By AI agents, Wed Nov 11 2026. No macro, syntax, notation, axiom, sorry.
-/
import Derived.Test.YthbamnkheinbgaaGreatDoorChecked
import GoSem.Claim
import GoSem.ClaimJoined
import GoSem.ClaimMapViews
import Derived.JoinedTies
import Derived.KernelRfl
namespace Go.Proofs.YthbamnkheinbgaaGreatDoor
/- THE CELL 'sum', in the pinned program and in every row, IS THE sha256 OF THE DUMP (.gsa) THAT YthbamnkheinbgaaGreatDoorProg.lean LOADS. Nothing in Lean hashes anything: it is a label: what it is worth is what the hold of that sum in a sandbox is worth. -/
noncomputable def Tryz.pinned : Pinned := { name := "ythbamnkheinbgaagreatdoor", sum := "dbb1f77ef5e34840dce5689bfd3d1b65b69501980c711519c41663aae8e2e331", checked := Tryz.checked }
namespace Rows
def none {H : Type} : Left H := { results := [], args := [] }

/- WHAT THE LISTED PACKAGE-LEVEL VARIABLES READ AS WHEN THE CALL BEGINS. Each datum BY PROGRAM (the guide's laid-datum.mjs) off the statement by which the dump's own 'gosem.cut.vars' lays the variable. In a bare row this is a premise. The card (YthbamnkheinbgaaGreatDoorCards.lean) ties it to the program's text. -/
def laid_sawmill_ring_directions {H : Type} : DataW H := .agg [.lit (.int .i64 (-1)), .lit (.int .i64 1)]
def laid_sawmill_poly_turns {H : Type} : DataW H := .agg [.agg [.lit (.int .i64 1), .lit (.int .i64 0)], .agg [.lit (.int .i64 0), .lit (.int .i64 1)], .agg [.lit (.int .i64 (-1)), .lit (.int .i64 0)], .agg [.lit (.int .i64 0), .lit (.int .i64 (-1))]]

/-- 'sawmilllaw15.ScanChecks': WHATEVER THE INPUT: true; the input reads as it did. -/
def scanChecksSpec : ChangeSpec := { name := "scanChecks", fn := fun _ => fun
  | [d] => { results := [.lit (.bool true)], args := [d] }
  | _ => none }
def scanChecksRow : OpenClaim := { program := "ythbamnkheinbgaagreatdoor", sum := "dbb1f77ef5e34840dce5689bfd3d1b65b69501980c711519c41663aae8e2e331", func := "sawmill/sawmilllaw15.ScanChecks", spec := "scanChecks", inPlace := ["internal/abi.NoEscape"], unfollowed := true, recurses := true, named := ["sawmill/ring.directions"], apart := false, laid := [("sawmill/ring.directions", laid_sawmill_ring_directions)] }
def ScanChecksSaid : Prop := scanChecksRow.holds Tryz.pinned (OpenSpec.ofChange scanChecksSpec)

/-- ITS FALSE NEIGHBOUR: 'it returns false'. Refute it at one input. -/
def scanChecksWrong : ChangeSpec := { name := "scanChecks", fn := fun _ => fun
  | [d] => { results := [.lit (.bool false)], args := [d] }
  | _ => none }
def ScanChecksWrongFalsely : Prop := scanChecksRow.holds Tryz.pinned (OpenSpec.ofChange scanChecksWrong)

/-- 'sawmilllaw15.ScanBuilds': WHATEVER THE INPUT: true; the input reads as it did. -/
def scanBuildsSpec : ChangeSpec := { name := "scanBuilds", fn := fun _ => fun
  | [d1, d2, d3] => { results := [.lit (.bool true)], args := [d1, d2, d3] }
  | _ => none }
def scanBuildsRow : OpenClaim := { program := "ythbamnkheinbgaagreatdoor", sum := "dbb1f77ef5e34840dce5689bfd3d1b65b69501980c711519c41663aae8e2e331", func := "sawmill/sawmilllaw15.ScanBuilds", spec := "scanBuilds", inPlace := ["internal/abi.NoEscape"], unfollowed := true, recurses := true, named := ["sawmill/ring.directions"], apart := false, laid := [("sawmill/ring.directions", laid_sawmill_ring_directions)] }
def ScanBuildsSaid : Prop := scanBuildsRow.holds Tryz.pinned (OpenSpec.ofChange scanBuildsSpec)

/-- ITS FALSE NEIGHBOUR: 'it returns false'. Refute it at one input. -/
def scanBuildsWrong : ChangeSpec := { name := "scanBuilds", fn := fun _ => fun
  | [d1, d2, d3] => { results := [.lit (.bool false)], args := [d1, d2, d3] }
  | _ => none }
def ScanBuildsWrongFalsely : Prop := scanBuildsRow.holds Tryz.pinned (OpenSpec.ofChange scanBuildsWrong)

/-- 'sawmilllaw15.ScanTexts': WHATEVER THE INPUT: true; the input reads as it did. -/
def scanTextsSpec : ChangeSpec := { name := "scanTexts", fn := fun _ => fun
  | [d1, d2] => { results := [.lit (.bool true)], args := [d1, d2] }
  | _ => none }
def scanTextsRow : OpenClaim := { program := "ythbamnkheinbgaagreatdoor", sum := "dbb1f77ef5e34840dce5689bfd3d1b65b69501980c711519c41663aae8e2e331", func := "sawmill/sawmilllaw15.ScanTexts", spec := "scanTexts", inPlace := ["internal/abi.NoEscape"], unfollowed := true, recurses := true, named := ["sawmill/ring.directions"], apart := false, laid := [("sawmill/ring.directions", laid_sawmill_ring_directions)] }
def ScanTextsSaid : Prop := scanTextsRow.holds Tryz.pinned (OpenSpec.ofChange scanTextsSpec)

/-- ITS FALSE NEIGHBOUR: 'it returns false'. Refute it at one input. -/
def scanTextsWrong : ChangeSpec := { name := "scanTexts", fn := fun _ => fun
  | [d1, d2] => { results := [.lit (.bool false)], args := [d1, d2] }
  | _ => none }
def ScanTextsWrongFalsely : Prop := scanTextsRow.holds Tryz.pinned (OpenSpec.ofChange scanTextsWrong)

/-- 'sawmilllaw15.ScanBack': WHATEVER THE INPUT: true; the input reads as it did. -/
def scanBackSpec : ChangeSpec := { name := "scanBack", fn := fun _ => fun
  | [d1, d2] => { results := [.lit (.bool true)], args := [d1, d2] }
  | _ => none }
def scanBackRow : OpenClaim := { program := "ythbamnkheinbgaagreatdoor", sum := "dbb1f77ef5e34840dce5689bfd3d1b65b69501980c711519c41663aae8e2e331", func := "sawmill/sawmilllaw15.ScanBack", spec := "scanBack", inPlace := ["internal/abi.NoEscape"], unfollowed := true, recurses := true, named := ["sawmill/ring.directions"], apart := false, laid := [("sawmill/ring.directions", laid_sawmill_ring_directions)] }
def ScanBackSaid : Prop := scanBackRow.holds Tryz.pinned (OpenSpec.ofChange scanBackSpec)

/-- ITS FALSE NEIGHBOUR: 'it returns false'. Refute it at one input. -/
def scanBackWrong : ChangeSpec := { name := "scanBack", fn := fun _ => fun
  | [d1, d2] => { results := [.lit (.bool false)], args := [d1, d2] }
  | _ => none }
def ScanBackWrongFalsely : Prop := scanBackRow.holds Tryz.pinned (OpenSpec.ofChange scanBackWrong)

/-- 'sawmilllaw15.ScanInside': WHATEVER THE INPUT: true; the input reads as it did. -/
def scanInsideSpec : ChangeSpec := { name := "scanInside", fn := fun _ => fun
  | [d] => { results := [.lit (.bool true)], args := [d] }
  | _ => none }
def scanInsideRow : OpenClaim := { program := "ythbamnkheinbgaagreatdoor", sum := "dbb1f77ef5e34840dce5689bfd3d1b65b69501980c711519c41663aae8e2e331", func := "sawmill/sawmilllaw15.ScanInside", spec := "scanInside", inPlace := ["internal/abi.NoEscape"], unfollowed := true, recurses := true, named := ["sawmill/ring.directions"], apart := false, laid := [("sawmill/ring.directions", laid_sawmill_ring_directions)] }
def ScanInsideSaid : Prop := scanInsideRow.holds Tryz.pinned (OpenSpec.ofChange scanInsideSpec)

/-- ITS FALSE NEIGHBOUR: 'it returns false'. Refute it at one input. -/
def scanInsideWrong : ChangeSpec := { name := "scanInside", fn := fun _ => fun
  | [d] => { results := [.lit (.bool false)], args := [d] }
  | _ => none }
def ScanInsideWrongFalsely : Prop := scanInsideRow.holds Tryz.pinned (OpenSpec.ofChange scanInsideWrong)

/-- 'sawmilllaw15.ScanMerges': WHATEVER THE INPUT: true; the input reads as it did. -/
def scanMergesSpec : ChangeSpec := { name := "scanMerges", fn := fun _ => fun
  | [d1, d2] => { results := [.lit (.bool true)], args := [d1, d2] }
  | _ => none }
def scanMergesRow : OpenClaim := { program := "ythbamnkheinbgaagreatdoor", sum := "dbb1f77ef5e34840dce5689bfd3d1b65b69501980c711519c41663aae8e2e331", func := "sawmill/sawmilllaw15.ScanMerges", spec := "scanMerges", inPlace := ["internal/abi.NoEscape"], unfollowed := true, recurses := true, named := ["sawmill/ring.directions"], apart := false, laid := [("sawmill/ring.directions", laid_sawmill_ring_directions)] }
def ScanMergesSaid : Prop := scanMergesRow.holds Tryz.pinned (OpenSpec.ofChange scanMergesSpec)

/-- ITS FALSE NEIGHBOUR: 'it returns false'. Refute it at one input. -/
def scanMergesWrong : ChangeSpec := { name := "scanMerges", fn := fun _ => fun
  | [d1, d2] => { results := [.lit (.bool false)], args := [d1, d2] }
  | _ => none }
def ScanMergesWrongFalsely : Prop := scanMergesRow.holds Tryz.pinned (OpenSpec.ofChange scanMergesWrong)

/-- 'sawmilllaw15.ScanPasses': WHATEVER THE INPUT: true; the input reads as it did. -/
def scanPassesSpec : ChangeSpec := { name := "scanPasses", fn := fun _ => fun
  | [d1, d2] => { results := [.lit (.bool true)], args := [d1, d2] }
  | _ => none }
def scanPassesRow : OpenClaim := { program := "ythbamnkheinbgaagreatdoor", sum := "dbb1f77ef5e34840dce5689bfd3d1b65b69501980c711519c41663aae8e2e331", func := "sawmill/sawmilllaw15.ScanPasses", spec := "scanPasses", inPlace := ["internal/abi.NoEscape"], unfollowed := true, recurses := true, named := ["sawmill/ring.directions"], apart := false, laid := [("sawmill/ring.directions", laid_sawmill_ring_directions)] }
def ScanPassesSaid : Prop := scanPassesRow.holds Tryz.pinned (OpenSpec.ofChange scanPassesSpec)

/-- ITS FALSE NEIGHBOUR: 'it returns false'. Refute it at one input. -/
def scanPassesWrong : ChangeSpec := { name := "scanPasses", fn := fun _ => fun
  | [d1, d2] => { results := [.lit (.bool false)], args := [d1, d2] }
  | _ => none }
def ScanPassesWrongFalsely : Prop := scanPassesRow.holds Tryz.pinned (OpenSpec.ofChange scanPassesWrong)

/-- 'sawmilllaw15.ScanTurns': WHATEVER THE INPUT: true; the input reads as it did. -/
def scanTurnsSpec : ChangeSpec := { name := "scanTurns", fn := fun _ => fun
  | [d1, d2, d3] => { results := [.lit (.bool true)], args := [d1, d2, d3] }
  | _ => none }
def scanTurnsRow : OpenClaim := { program := "ythbamnkheinbgaagreatdoor", sum := "dbb1f77ef5e34840dce5689bfd3d1b65b69501980c711519c41663aae8e2e331", func := "sawmill/sawmilllaw15.ScanTurns", spec := "scanTurns", inPlace := ["internal/abi.NoEscape"], unfollowed := true, recurses := true, named := ["sawmill/ring.directions", "sawmill/poly.turns"], apart := false, laid := [("sawmill/poly.turns", laid_sawmill_poly_turns), ("sawmill/ring.directions", laid_sawmill_ring_directions)] }
def ScanTurnsSaid : Prop := scanTurnsRow.holds Tryz.pinned (OpenSpec.ofChange scanTurnsSpec)

/-- ITS FALSE NEIGHBOUR: 'it returns false'. Refute it at one input. -/
def scanTurnsWrong : ChangeSpec := { name := "scanTurns", fn := fun _ => fun
  | [d1, d2, d3] => { results := [.lit (.bool false)], args := [d1, d2, d3] }
  | _ => none }
def ScanTurnsWrongFalsely : Prop := scanTurnsRow.holds Tryz.pinned (OpenSpec.ofChange scanTurnsWrong)

/-- 'sawmilllaw15.ScanHalves': WHATEVER THE INPUT: true; the input reads as it did. -/
def scanHalvesSpec : ChangeSpec := { name := "scanHalves", fn := fun _ => fun
  | [d] => { results := [.lit (.bool true)], args := [d] }
  | _ => none }
def scanHalvesRow : OpenClaim := { program := "ythbamnkheinbgaagreatdoor", sum := "dbb1f77ef5e34840dce5689bfd3d1b65b69501980c711519c41663aae8e2e331", func := "sawmill/sawmilllaw15.ScanHalves", spec := "scanHalves", inPlace := ["internal/abi.NoEscape"], unfollowed := true, recurses := true, named := ["sawmill/ring.directions", "sawmill/poly.turns"], apart := false, laid := [("sawmill/poly.turns", laid_sawmill_poly_turns), ("sawmill/ring.directions", laid_sawmill_ring_directions)] }
def ScanHalvesSaid : Prop := scanHalvesRow.holds Tryz.pinned (OpenSpec.ofChange scanHalvesSpec)

/-- ITS FALSE NEIGHBOUR: 'it returns false'. Refute it at one input. -/
def scanHalvesWrong : ChangeSpec := { name := "scanHalves", fn := fun _ => fun
  | [d] => { results := [.lit (.bool false)], args := [d] }
  | _ => none }
def ScanHalvesWrongFalsely : Prop := scanHalvesRow.holds Tryz.pinned (OpenSpec.ofChange scanHalvesWrong)

/- THE SECOND FORM. 'bulk': how many values and letters a reading holds, each counted each time it is reached (what is shared counts as often as it is met; a slice's spare places count too). A statement '..UptoSaid' is the law's where the arguments, and the package variables that the reading takes, are together of bulk at most 1048576: NARROWER than '..Said'. Prove '..Said' where nothing that the law and all that it calls make is longer than what came in: it says more and counts as full. Else prove '..UptoSaid'. A law counts once. -/
mutual
def uptoBulk {H : Type} : DataW H → Nat
  | .lit (.string bytes) => bytes.length + 1
  | .lit _ => 1
  | .nil => 1
  | .ptr d => uptoBulk d + 1
  | .slice elems spare => uptoBulkAll elems + uptoBulkAll spare + 1
  | .agg parts => uptoBulkAll parts + 1
  | .iface _ d => uptoBulk d + 1
  | .map entries => uptoBulkEntries entries + 1
  | .held _ => 1
def uptoBulkAll {H : Type} : List (DataW H) → Nat
  | [] => 0
  | d :: r => uptoBulk d + uptoBulkAll r
def uptoBulkEntries {H : Type} : List (Lit × DataW H) → Nat
  | [] => 0
  | x :: r => uptoBulkEntry x + uptoBulkEntries r
def uptoBulkEntry {H : Type} : Lit × DataW H → Nat
  | (.string bytes, d) => bytes.length + uptoBulk d + 1
  | (_, d) => uptoBulk d + 1
 end
def uptoSmall : (H : Type) → List (DataW H) → Bool := fun _ ds => decide (uptoBulkAll ds ≤ 1048576)
def OpenSpec.upto (s : _root_.Go.ChangeSpec) : _root_.Go.OpenSpec := { _root_.Go.OpenSpec.ofChange s with cond := some uptoSmall }

/-- 'sawmilllaw15.ScanChecks', WHERE WHAT IT READS IS OF BULK AT MOST 1048576: true; the input reads as it did. -/
def scanChecksUptoRow : OpenClaim := { program := "ythbamnkheinbgaagreatdoor", sum := "dbb1f77ef5e34840dce5689bfd3d1b65b69501980c711519c41663aae8e2e331", func := "sawmill/sawmilllaw15.ScanChecks", spec := "scanChecks", inPlace := ["internal/abi.NoEscape"], unfollowed := true, recurses := true, named := ["sawmill/ring.directions"], apart := false, laid := [("sawmill/ring.directions", laid_sawmill_ring_directions)], narrowed := true }
def ScanChecksUptoSaid : Prop := scanChecksUptoRow.holds Tryz.pinned (OpenSpec.upto scanChecksSpec)

/-- 'sawmilllaw15.ScanBuilds', WHERE WHAT IT READS IS OF BULK AT MOST 1048576: true; the input reads as it did. -/
def scanBuildsUptoRow : OpenClaim := { program := "ythbamnkheinbgaagreatdoor", sum := "dbb1f77ef5e34840dce5689bfd3d1b65b69501980c711519c41663aae8e2e331", func := "sawmill/sawmilllaw15.ScanBuilds", spec := "scanBuilds", inPlace := ["internal/abi.NoEscape"], unfollowed := true, recurses := true, named := ["sawmill/ring.directions"], apart := false, laid := [("sawmill/ring.directions", laid_sawmill_ring_directions)], narrowed := true }
def ScanBuildsUptoSaid : Prop := scanBuildsUptoRow.holds Tryz.pinned (OpenSpec.upto scanBuildsSpec)

/-- 'sawmilllaw15.ScanTexts', WHERE WHAT IT READS IS OF BULK AT MOST 1048576: true; the input reads as it did. -/
def scanTextsUptoRow : OpenClaim := { program := "ythbamnkheinbgaagreatdoor", sum := "dbb1f77ef5e34840dce5689bfd3d1b65b69501980c711519c41663aae8e2e331", func := "sawmill/sawmilllaw15.ScanTexts", spec := "scanTexts", inPlace := ["internal/abi.NoEscape"], unfollowed := true, recurses := true, named := ["sawmill/ring.directions"], apart := false, laid := [("sawmill/ring.directions", laid_sawmill_ring_directions)], narrowed := true }
def ScanTextsUptoSaid : Prop := scanTextsUptoRow.holds Tryz.pinned (OpenSpec.upto scanTextsSpec)

/-- 'sawmilllaw15.ScanBack', WHERE WHAT IT READS IS OF BULK AT MOST 1048576: true; the input reads as it did. -/
def scanBackUptoRow : OpenClaim := { program := "ythbamnkheinbgaagreatdoor", sum := "dbb1f77ef5e34840dce5689bfd3d1b65b69501980c711519c41663aae8e2e331", func := "sawmill/sawmilllaw15.ScanBack", spec := "scanBack", inPlace := ["internal/abi.NoEscape"], unfollowed := true, recurses := true, named := ["sawmill/ring.directions"], apart := false, laid := [("sawmill/ring.directions", laid_sawmill_ring_directions)], narrowed := true }
def ScanBackUptoSaid : Prop := scanBackUptoRow.holds Tryz.pinned (OpenSpec.upto scanBackSpec)

/-- 'sawmilllaw15.ScanInside', WHERE WHAT IT READS IS OF BULK AT MOST 1048576: true; the input reads as it did. -/
def scanInsideUptoRow : OpenClaim := { program := "ythbamnkheinbgaagreatdoor", sum := "dbb1f77ef5e34840dce5689bfd3d1b65b69501980c711519c41663aae8e2e331", func := "sawmill/sawmilllaw15.ScanInside", spec := "scanInside", inPlace := ["internal/abi.NoEscape"], unfollowed := true, recurses := true, named := ["sawmill/ring.directions"], apart := false, laid := [("sawmill/ring.directions", laid_sawmill_ring_directions)], narrowed := true }
def ScanInsideUptoSaid : Prop := scanInsideUptoRow.holds Tryz.pinned (OpenSpec.upto scanInsideSpec)

/-- 'sawmilllaw15.ScanMerges', WHERE WHAT IT READS IS OF BULK AT MOST 1048576: true; the input reads as it did. -/
def scanMergesUptoRow : OpenClaim := { program := "ythbamnkheinbgaagreatdoor", sum := "dbb1f77ef5e34840dce5689bfd3d1b65b69501980c711519c41663aae8e2e331", func := "sawmill/sawmilllaw15.ScanMerges", spec := "scanMerges", inPlace := ["internal/abi.NoEscape"], unfollowed := true, recurses := true, named := ["sawmill/ring.directions"], apart := false, laid := [("sawmill/ring.directions", laid_sawmill_ring_directions)], narrowed := true }
def ScanMergesUptoSaid : Prop := scanMergesUptoRow.holds Tryz.pinned (OpenSpec.upto scanMergesSpec)

/-- 'sawmilllaw15.ScanPasses', WHERE WHAT IT READS IS OF BULK AT MOST 1048576: true; the input reads as it did. -/
def scanPassesUptoRow : OpenClaim := { program := "ythbamnkheinbgaagreatdoor", sum := "dbb1f77ef5e34840dce5689bfd3d1b65b69501980c711519c41663aae8e2e331", func := "sawmill/sawmilllaw15.ScanPasses", spec := "scanPasses", inPlace := ["internal/abi.NoEscape"], unfollowed := true, recurses := true, named := ["sawmill/ring.directions"], apart := false, laid := [("sawmill/ring.directions", laid_sawmill_ring_directions)], narrowed := true }
def ScanPassesUptoSaid : Prop := scanPassesUptoRow.holds Tryz.pinned (OpenSpec.upto scanPassesSpec)

/-- 'sawmilllaw15.ScanTurns', WHERE WHAT IT READS IS OF BULK AT MOST 1048576: true; the input reads as it did. -/
def scanTurnsUptoRow : OpenClaim := { program := "ythbamnkheinbgaagreatdoor", sum := "dbb1f77ef5e34840dce5689bfd3d1b65b69501980c711519c41663aae8e2e331", func := "sawmill/sawmilllaw15.ScanTurns", spec := "scanTurns", inPlace := ["internal/abi.NoEscape"], unfollowed := true, recurses := true, named := ["sawmill/ring.directions", "sawmill/poly.turns"], apart := false, laid := [("sawmill/poly.turns", laid_sawmill_poly_turns), ("sawmill/ring.directions", laid_sawmill_ring_directions)], narrowed := true }
def ScanTurnsUptoSaid : Prop := scanTurnsUptoRow.holds Tryz.pinned (OpenSpec.upto scanTurnsSpec)

/-- 'sawmilllaw15.ScanHalves', WHERE WHAT IT READS IS OF BULK AT MOST 1048576: true; the input reads as it did. -/
def scanHalvesUptoRow : OpenClaim := { program := "ythbamnkheinbgaagreatdoor", sum := "dbb1f77ef5e34840dce5689bfd3d1b65b69501980c711519c41663aae8e2e331", func := "sawmill/sawmilllaw15.ScanHalves", spec := "scanHalves", inPlace := ["internal/abi.NoEscape"], unfollowed := true, recurses := true, named := ["sawmill/ring.directions", "sawmill/poly.turns"], apart := false, laid := [("sawmill/poly.turns", laid_sawmill_poly_turns), ("sawmill/ring.directions", laid_sawmill_ring_directions)], narrowed := true }
def ScanHalvesUptoSaid : Prop := scanHalvesUptoRow.holds Tryz.pinned (OpenSpec.upto scanHalvesSpec)

end Rows
end Go.Proofs.YthbamnkheinbgaaGreatDoor

/-
  NARROWER THAN 'FOR EVERY INPUT', by the rows' own cells (each row's printed sentence says how): PlanHeights: laid · PlanBests: laid · PlanMembers: laid · PlanMore: laid · PlanBelongs: laid · PlanYields: laid · PlanBest: laid.
  DERIVED. THE GIVEN ROWS OF THIS SEAT. 7 by the template 'for every input the law returns true; each argument reads behind the call as it read before'; 0 by the template 'total and deterministic' (their statements: YtidlfgiogdjkaaaGreatDoorTotals.lean).
  GIVEN WITH THE SEED: the statements are not yours to turn. If you find one false, say at which input.
  Laid BY PROGRAM, IN A SANDBOX (cutbox-rows.mjs): the forced cells as the released guide's own fill.sh prints them over the translation d3d36e53dfcb3281… (all of the seat's roots in one cut). By AI agents, Wed Nov 11 2026. No macro, syntax, notation, axiom, sorry.
-/
import Derived.Test.YtidlfgiogdjkaaaGreatDoorChecked
import GoSem.Claim
import GoSem.ClaimJoined
import GoSem.ClaimMapViews
import Derived.JoinedTies
import Derived.KernelRfl
namespace Go.Proofs.YtidlfgiogdjkaaaGreatDoor
/- THE CELL 'sum', in the pinned program and in every row, IS THE sha256 OF THE DUMP (.gsa) THAT YtidlfgiogdjkaaaGreatDoorProg.lean LOADS. Nothing in Lean hashes anything: it is a label: what it is worth is what the hold of that sum in a sandbox is worth. -/
noncomputable def Tryz.pinned : Pinned := { name := "ytidlfgiogdjkaaagreatdoor", sum := "d3d36e53dfcb328143ed425e17ed0dd33e7c8642f49a3a2b3d42ad0ecc6062fd", checked := Tryz.checked }
namespace Rows
def none {H : Type} : Left H := { results := [], args := [] }

/- WHAT THE LISTED PACKAGE-LEVEL VARIABLES READ AS WHEN THE CALL BEGINS. Each datum BY PROGRAM (the guide's laid-datum.mjs) off the statement by which the dump's own 'gosem.cut.vars' lays the variable. In a bare row this is a premise. The card (YtidlfgiogdjkaaaGreatDoorCards.lean) ties it to the program's text. -/
def laid_sawmill_cutting_none {H : Type} : DataW H := .agg [.lit (.int .i64 (-1)), .lit (.int .i64 (-1))]

/-- 'sawmilllaw24.PlanHeights': WHATEVER THE INPUT: true; the input reads as it did. -/
def planHeightsSpec : ChangeSpec := { name := "planHeights", fn := fun _ => fun
  | [d1, d2] => { results := [.lit (.bool true)], args := [d1, d2] }
  | _ => none }
def planHeightsRow : OpenClaim := { program := "ytidlfgiogdjkaaagreatdoor", sum := "d3d36e53dfcb328143ed425e17ed0dd33e7c8642f49a3a2b3d42ad0ecc6062fd", func := "sawmill/sawmilllaw24.PlanHeights", spec := "planHeights", unfollowed := true, recurses := true, named := ["sawmill/cutting.none"], apart := false, laid := [("sawmill/cutting.none", laid_sawmill_cutting_none)] }
def PlanHeightsSaid : Prop := planHeightsRow.holds Tryz.pinned (OpenSpec.ofChange planHeightsSpec)

/-- ITS FALSE NEIGHBOUR: 'it returns false'. Refute it at one input. -/
def planHeightsWrong : ChangeSpec := { name := "planHeights", fn := fun _ => fun
  | [d1, d2] => { results := [.lit (.bool false)], args := [d1, d2] }
  | _ => none }
def PlanHeightsWrongFalsely : Prop := planHeightsRow.holds Tryz.pinned (OpenSpec.ofChange planHeightsWrong)

/-- 'sawmilllaw24.PlanBests': WHATEVER THE INPUT: true; the input reads as it did. -/
def planBestsSpec : ChangeSpec := { name := "planBests", fn := fun _ => fun
  | [d] => { results := [.lit (.bool true)], args := [d] }
  | _ => none }
def planBestsRow : OpenClaim := { program := "ytidlfgiogdjkaaagreatdoor", sum := "d3d36e53dfcb328143ed425e17ed0dd33e7c8642f49a3a2b3d42ad0ecc6062fd", func := "sawmill/sawmilllaw24.PlanBests", spec := "planBests", unfollowed := true, recurses := true, named := ["sawmill/cutting.none"], apart := false, laid := [("sawmill/cutting.none", laid_sawmill_cutting_none)] }
def PlanBestsSaid : Prop := planBestsRow.holds Tryz.pinned (OpenSpec.ofChange planBestsSpec)

/-- ITS FALSE NEIGHBOUR: 'it returns false'. Refute it at one input. -/
def planBestsWrong : ChangeSpec := { name := "planBests", fn := fun _ => fun
  | [d] => { results := [.lit (.bool false)], args := [d] }
  | _ => none }
def PlanBestsWrongFalsely : Prop := planBestsRow.holds Tryz.pinned (OpenSpec.ofChange planBestsWrong)

/-- 'sawmilllaw24.PlanMembers': WHATEVER THE INPUT: true; the input reads as it did. -/
def planMembersSpec : ChangeSpec := { name := "planMembers", fn := fun _ => fun
  | [d1, d2, d3] => { results := [.lit (.bool true)], args := [d1, d2, d3] }
  | _ => none }
def planMembersRow : OpenClaim := { program := "ytidlfgiogdjkaaagreatdoor", sum := "d3d36e53dfcb328143ed425e17ed0dd33e7c8642f49a3a2b3d42ad0ecc6062fd", func := "sawmill/sawmilllaw24.PlanMembers", spec := "planMembers", unfollowed := true, recurses := true, named := ["sawmill/cutting.none"], apart := false, laid := [("sawmill/cutting.none", laid_sawmill_cutting_none)] }
def PlanMembersSaid : Prop := planMembersRow.holds Tryz.pinned (OpenSpec.ofChange planMembersSpec)

/-- ITS FALSE NEIGHBOUR: 'it returns false'. Refute it at one input. -/
def planMembersWrong : ChangeSpec := { name := "planMembers", fn := fun _ => fun
  | [d1, d2, d3] => { results := [.lit (.bool false)], args := [d1, d2, d3] }
  | _ => none }
def PlanMembersWrongFalsely : Prop := planMembersRow.holds Tryz.pinned (OpenSpec.ofChange planMembersWrong)

/-- 'sawmilllaw24.PlanMore': WHATEVER THE INPUT: true; the input reads as it did. -/
def planMoreSpec : ChangeSpec := { name := "planMore", fn := fun _ => fun
  | [d1, d2] => { results := [.lit (.bool true)], args := [d1, d2] }
  | _ => none }
def planMoreRow : OpenClaim := { program := "ytidlfgiogdjkaaagreatdoor", sum := "d3d36e53dfcb328143ed425e17ed0dd33e7c8642f49a3a2b3d42ad0ecc6062fd", func := "sawmill/sawmilllaw24.PlanMore", spec := "planMore", unfollowed := true, recurses := true, named := ["sawmill/cutting.none"], apart := false, laid := [("sawmill/cutting.none", laid_sawmill_cutting_none)] }
def PlanMoreSaid : Prop := planMoreRow.holds Tryz.pinned (OpenSpec.ofChange planMoreSpec)

/-- ITS FALSE NEIGHBOUR: 'it returns false'. Refute it at one input. -/
def planMoreWrong : ChangeSpec := { name := "planMore", fn := fun _ => fun
  | [d1, d2] => { results := [.lit (.bool false)], args := [d1, d2] }
  | _ => none }
def PlanMoreWrongFalsely : Prop := planMoreRow.holds Tryz.pinned (OpenSpec.ofChange planMoreWrong)

/-- 'sawmilllaw24.PlanBelongs': WHATEVER THE INPUT: true; the input reads as it did. -/
def planBelongsSpec : ChangeSpec := { name := "planBelongs", fn := fun _ => fun
  | [d] => { results := [.lit (.bool true)], args := [d] }
  | _ => none }
def planBelongsRow : OpenClaim := { program := "ytidlfgiogdjkaaagreatdoor", sum := "d3d36e53dfcb328143ed425e17ed0dd33e7c8642f49a3a2b3d42ad0ecc6062fd", func := "sawmill/sawmilllaw24.PlanBelongs", spec := "planBelongs", unfollowed := true, recurses := true, named := ["sawmill/cutting.none"], apart := false, laid := [("sawmill/cutting.none", laid_sawmill_cutting_none)] }
def PlanBelongsSaid : Prop := planBelongsRow.holds Tryz.pinned (OpenSpec.ofChange planBelongsSpec)

/-- ITS FALSE NEIGHBOUR: 'it returns false'. Refute it at one input. -/
def planBelongsWrong : ChangeSpec := { name := "planBelongs", fn := fun _ => fun
  | [d] => { results := [.lit (.bool false)], args := [d] }
  | _ => none }
def PlanBelongsWrongFalsely : Prop := planBelongsRow.holds Tryz.pinned (OpenSpec.ofChange planBelongsWrong)

/-- 'sawmilllaw24.PlanYields': WHATEVER THE INPUT: true; the input reads as it did. -/
def planYieldsSpec : ChangeSpec := { name := "planYields", fn := fun _ => fun
  | [d] => { results := [.lit (.bool true)], args := [d] }
  | _ => none }
def planYieldsRow : OpenClaim := { program := "ytidlfgiogdjkaaagreatdoor", sum := "d3d36e53dfcb328143ed425e17ed0dd33e7c8642f49a3a2b3d42ad0ecc6062fd", func := "sawmill/sawmilllaw24.PlanYields", spec := "planYields", unfollowed := true, recurses := true, named := ["sawmill/cutting.none"], apart := false, laid := [("sawmill/cutting.none", laid_sawmill_cutting_none)] }
def PlanYieldsSaid : Prop := planYieldsRow.holds Tryz.pinned (OpenSpec.ofChange planYieldsSpec)

/-- ITS FALSE NEIGHBOUR: 'it returns false'. Refute it at one input. -/
def planYieldsWrong : ChangeSpec := { name := "planYields", fn := fun _ => fun
  | [d] => { results := [.lit (.bool false)], args := [d] }
  | _ => none }
def PlanYieldsWrongFalsely : Prop := planYieldsRow.holds Tryz.pinned (OpenSpec.ofChange planYieldsWrong)

/-- 'sawmilllaw24.PlanBest': WHATEVER THE INPUT: true; the input reads as it did. -/
def planBestSpec : ChangeSpec := { name := "planBest", fn := fun _ => fun
  | [d1, d2] => { results := [.lit (.bool true)], args := [d1, d2] }
  | _ => none }
def planBestRow : OpenClaim := { program := "ytidlfgiogdjkaaagreatdoor", sum := "d3d36e53dfcb328143ed425e17ed0dd33e7c8642f49a3a2b3d42ad0ecc6062fd", func := "sawmill/sawmilllaw24.PlanBest", spec := "planBest", unfollowed := true, recurses := true, named := ["sawmill/cutting.none"], apart := false, laid := [("sawmill/cutting.none", laid_sawmill_cutting_none)] }
def PlanBestSaid : Prop := planBestRow.holds Tryz.pinned (OpenSpec.ofChange planBestSpec)

/-- ITS FALSE NEIGHBOUR: 'it returns false'. Refute it at one input. -/
def planBestWrong : ChangeSpec := { name := "planBest", fn := fun _ => fun
  | [d1, d2] => { results := [.lit (.bool false)], args := [d1, d2] }
  | _ => none }
def PlanBestWrongFalsely : Prop := planBestRow.holds Tryz.pinned (OpenSpec.ofChange planBestWrong)

/- THE SECOND FORM. 'bulk': how many values and letters a reading holds, each counted each time it is reached (what is shared counts as often as it is met; a slice's spare places count too). A statement '..UptoSaid' is the law's where the arguments, and the package variables that the reading takes, are together of bulk at most 1048576: NARROWER than '..Said'. Prove '..Said' where nothing that the law and all that it calls make is longer than what came in: it says more and counts as full. Else prove '..UptoSaid'. A law counts once. -/
mutual
def uptoBulk {H : Type} : DataW H → Nat
  | .lit (.string bytes) => bytes.length + 1
  | .lit _ => 1
  | .nil => 1
  | .ptr d => uptoBulk d + 1
  | .slice elems spare => uptoBulkAll elems + uptoBulkAll spare + 1
  | .agg parts => uptoBulkAll parts + 1
  | .iface _ d => uptoBulk d + 1
  | .map entries => uptoBulkEntries entries + 1
  | .held _ => 1
def uptoBulkAll {H : Type} : List (DataW H) → Nat
  | [] => 0
  | d :: r => uptoBulk d + uptoBulkAll r
def uptoBulkEntries {H : Type} : List (Lit × DataW H) → Nat
  | [] => 0
  | x :: r => uptoBulkEntry x + uptoBulkEntries r
def uptoBulkEntry {H : Type} : Lit × DataW H → Nat
  | (.string bytes, d) => bytes.length + uptoBulk d + 1
  | (_, d) => uptoBulk d + 1
 end
def uptoSmall : (H : Type) → List (DataW H) → Bool := fun _ ds => decide (uptoBulkAll ds ≤ 1048576)
def OpenSpec.upto (s : _root_.Go.ChangeSpec) : _root_.Go.OpenSpec := { _root_.Go.OpenSpec.ofChange s with cond := some uptoSmall }

/-- 'sawmilllaw24.PlanHeights', WHERE WHAT IT READS IS OF BULK AT MOST 1048576: true; the input reads as it did. -/
def planHeightsUptoRow : OpenClaim := { program := "ytidlfgiogdjkaaagreatdoor", sum := "d3d36e53dfcb328143ed425e17ed0dd33e7c8642f49a3a2b3d42ad0ecc6062fd", func := "sawmill/sawmilllaw24.PlanHeights", spec := "planHeights", unfollowed := true, recurses := true, named := ["sawmill/cutting.none"], apart := false, laid := [("sawmill/cutting.none", laid_sawmill_cutting_none)], narrowed := true }
def PlanHeightsUptoSaid : Prop := planHeightsUptoRow.holds Tryz.pinned (OpenSpec.upto planHeightsSpec)

/-- 'sawmilllaw24.PlanBests', WHERE WHAT IT READS IS OF BULK AT MOST 1048576: true; the input reads as it did. -/
def planBestsUptoRow : OpenClaim := { program := "ytidlfgiogdjkaaagreatdoor", sum := "d3d36e53dfcb328143ed425e17ed0dd33e7c8642f49a3a2b3d42ad0ecc6062fd", func := "sawmill/sawmilllaw24.PlanBests", spec := "planBests", unfollowed := true, recurses := true, named := ["sawmill/cutting.none"], apart := false, laid := [("sawmill/cutting.none", laid_sawmill_cutting_none)], narrowed := true }
def PlanBestsUptoSaid : Prop := planBestsUptoRow.holds Tryz.pinned (OpenSpec.upto planBestsSpec)

/-- 'sawmilllaw24.PlanMembers', WHERE WHAT IT READS IS OF BULK AT MOST 1048576: true; the input reads as it did. -/
def planMembersUptoRow : OpenClaim := { program := "ytidlfgiogdjkaaagreatdoor", sum := "d3d36e53dfcb328143ed425e17ed0dd33e7c8642f49a3a2b3d42ad0ecc6062fd", func := "sawmill/sawmilllaw24.PlanMembers", spec := "planMembers", unfollowed := true, recurses := true, named := ["sawmill/cutting.none"], apart := false, laid := [("sawmill/cutting.none", laid_sawmill_cutting_none)], narrowed := true }
def PlanMembersUptoSaid : Prop := planMembersUptoRow.holds Tryz.pinned (OpenSpec.upto planMembersSpec)

/-- 'sawmilllaw24.PlanMore', WHERE WHAT IT READS IS OF BULK AT MOST 1048576: true; the input reads as it did. -/
def planMoreUptoRow : OpenClaim := { program := "ytidlfgiogdjkaaagreatdoor", sum := "d3d36e53dfcb328143ed425e17ed0dd33e7c8642f49a3a2b3d42ad0ecc6062fd", func := "sawmill/sawmilllaw24.PlanMore", spec := "planMore", unfollowed := true, recurses := true, named := ["sawmill/cutting.none"], apart := false, laid := [("sawmill/cutting.none", laid_sawmill_cutting_none)], narrowed := true }
def PlanMoreUptoSaid : Prop := planMoreUptoRow.holds Tryz.pinned (OpenSpec.upto planMoreSpec)

/-- 'sawmilllaw24.PlanBelongs', WHERE WHAT IT READS IS OF BULK AT MOST 1048576: true; the input reads as it did. -/
def planBelongsUptoRow : OpenClaim := { program := "ytidlfgiogdjkaaagreatdoor", sum := "d3d36e53dfcb328143ed425e17ed0dd33e7c8642f49a3a2b3d42ad0ecc6062fd", func := "sawmill/sawmilllaw24.PlanBelongs", spec := "planBelongs", unfollowed := true, recurses := true, named := ["sawmill/cutting.none"], apart := false, laid := [("sawmill/cutting.none", laid_sawmill_cutting_none)], narrowed := true }
def PlanBelongsUptoSaid : Prop := planBelongsUptoRow.holds Tryz.pinned (OpenSpec.upto planBelongsSpec)

/-- 'sawmilllaw24.PlanYields', WHERE WHAT IT READS IS OF BULK AT MOST 1048576: true; the input reads as it did. -/
def planYieldsUptoRow : OpenClaim := { program := "ytidlfgiogdjkaaagreatdoor", sum := "d3d36e53dfcb328143ed425e17ed0dd33e7c8642f49a3a2b3d42ad0ecc6062fd", func := "sawmill/sawmilllaw24.PlanYields", spec := "planYields", unfollowed := true, recurses := true, named := ["sawmill/cutting.none"], apart := false, laid := [("sawmill/cutting.none", laid_sawmill_cutting_none)], narrowed := true }
def PlanYieldsUptoSaid : Prop := planYieldsUptoRow.holds Tryz.pinned (OpenSpec.upto planYieldsSpec)

/-- 'sawmilllaw24.PlanBest', WHERE WHAT IT READS IS OF BULK AT MOST 1048576: true; the input reads as it did. -/
def planBestUptoRow : OpenClaim := { program := "ytidlfgiogdjkaaagreatdoor", sum := "d3d36e53dfcb328143ed425e17ed0dd33e7c8642f49a3a2b3d42ad0ecc6062fd", func := "sawmill/sawmilllaw24.PlanBest", spec := "planBest", unfollowed := true, recurses := true, named := ["sawmill/cutting.none"], apart := false, laid := [("sawmill/cutting.none", laid_sawmill_cutting_none)], narrowed := true }
def PlanBestUptoSaid : Prop := planBestUptoRow.holds Tryz.pinned (OpenSpec.upto planBestSpec)

end Rows
end Go.Proofs.YtidlfgiogdjkaaaGreatDoor

/-
  No cell of these rows narrows 'for every input' (looked for: loops, veiled, ifaces, maps, wideKeys, modest, calm, conditions, laid).
  DERIVED. THE GIVEN ROWS OF THIS SEAT. 9 by the template 'for every input the law returns true; each argument reads behind the call as it read before'; 0 by the template 'total and deterministic' (their statements: YtjelipmghgcpeaaTotals.lean).
  GIVEN WITH THE SEED: the statements are not yours to turn. If you find one false, say at which input.
  Laid BY PROGRAM, IN A SANDBOX (cutbox-rows.mjs): the forced cells as the released guide's own fill.sh prints them over the translation 000eb8c79dac81fb… (all of the seat's roots in one cut). By AI agents, Wed Nov 11 2026. No macro, syntax, notation, axiom, sorry.
-/
import Derived.Test.YtjelipmghgcpeaaChecked
import GoSem.Claim
import GoSem.ClaimJoined
import GoSem.ClaimMapViews
import Derived.JoinedTies
import Derived.KernelRfl
namespace Go.Proofs.Ytjelipmghgcpeaa
/- THE CELL 'sum', in the pinned program and in every row, IS THE sha256 OF THE DUMP (.gsa) THAT YtjelipmghgcpeaaProg.lean LOADS. Nothing in Lean hashes anything: it is a label: what it is worth is what the hold of that sum in a sandbox is worth. -/
noncomputable def Try.pinned : Pinned := { name := "ytjelipmghgcpeaa", sum := "000eb8c79dac81fb497abf93507d78b4580177d72c1ff873a91688466e65dd79", checked := Try.checked }
namespace Rows
def none {H : Type} : Left H := { results := [], args := [] }

/-- 'sawmilllaw10.SectionChecks': WHATEVER THE INPUT: true; the input reads as it did. -/
def sectionChecksSpec : ChangeSpec := { name := "sectionChecks", fn := fun _ => fun
  | [d] => { results := [.lit (.bool true)], args := [d] }
  | _ => none }
def sectionChecksRow : OpenClaim := { program := "ytjelipmghgcpeaa", sum := "000eb8c79dac81fb497abf93507d78b4580177d72c1ff873a91688466e65dd79", func := "sawmill/sawmilllaw10.SectionChecks", spec := "sectionChecks", unfollowed := true, recurses := true, apart := false }
def SectionChecksSaid : Prop := sectionChecksRow.holds Try.pinned (OpenSpec.ofChange sectionChecksSpec)

/-- ITS FALSE NEIGHBOUR: 'it returns false'. Refute it at one input. -/
def sectionChecksWrong : ChangeSpec := { name := "sectionChecks", fn := fun _ => fun
  | [d] => { results := [.lit (.bool false)], args := [d] }
  | _ => none }
def SectionChecksWrongFalsely : Prop := sectionChecksRow.holds Try.pinned (OpenSpec.ofChange sectionChecksWrong)

/-- 'sawmilllaw10.SectionOfs': WHATEVER THE INPUT: true; the input reads as it did. -/
def sectionOfsSpec : ChangeSpec := { name := "sectionOfs", fn := fun _ => fun
  | [d] => { results := [.lit (.bool true)], args := [d] }
  | _ => none }
def sectionOfsRow : OpenClaim := { program := "ytjelipmghgcpeaa", sum := "000eb8c79dac81fb497abf93507d78b4580177d72c1ff873a91688466e65dd79", func := "sawmill/sawmilllaw10.SectionOfs", spec := "sectionOfs", unfollowed := true, recurses := true, apart := false }
def SectionOfsSaid : Prop := sectionOfsRow.holds Try.pinned (OpenSpec.ofChange sectionOfsSpec)

/-- ITS FALSE NEIGHBOUR: 'it returns false'. Refute it at one input. -/
def sectionOfsWrong : ChangeSpec := { name := "sectionOfs", fn := fun _ => fun
  | [d] => { results := [.lit (.bool false)], args := [d] }
  | _ => none }
def SectionOfsWrongFalsely : Prop := sectionOfsRow.holds Try.pinned (OpenSpec.ofChange sectionOfsWrong)

/-- 'sawmilllaw10.SectionAreas': WHATEVER THE INPUT: true; the input reads as it did. -/
def sectionAreasSpec : ChangeSpec := { name := "sectionAreas", fn := fun _ => fun
  | [d1, d2] => { results := [.lit (.bool true)], args := [d1, d2] }
  | _ => none }
def sectionAreasRow : OpenClaim := { program := "ytjelipmghgcpeaa", sum := "000eb8c79dac81fb497abf93507d78b4580177d72c1ff873a91688466e65dd79", func := "sawmill/sawmilllaw10.SectionAreas", spec := "sectionAreas", unfollowed := true, recurses := true, apart := false }
def SectionAreasSaid : Prop := sectionAreasRow.holds Try.pinned (OpenSpec.ofChange sectionAreasSpec)

/-- ITS FALSE NEIGHBOUR: 'it returns false'. Refute it at one input. -/
def sectionAreasWrong : ChangeSpec := { name := "sectionAreas", fn := fun _ => fun
  | [d1, d2] => { results := [.lit (.bool false)], args := [d1, d2] }
  | _ => none }
def SectionAreasWrongFalsely : Prop := sectionAreasRow.holds Try.pinned (OpenSpec.ofChange sectionAreasWrong)

/-- 'sawmilllaw10.SectionMoves': WHATEVER THE INPUT: true; the input reads as it did. -/
def sectionMovesSpec : ChangeSpec := { name := "sectionMoves", fn := fun _ => fun
  | [d1, d2, d3] => { results := [.lit (.bool true)], args := [d1, d2, d3] }
  | _ => none }
def sectionMovesRow : OpenClaim := { program := "ytjelipmghgcpeaa", sum := "000eb8c79dac81fb497abf93507d78b4580177d72c1ff873a91688466e65dd79", func := "sawmill/sawmilllaw10.SectionMoves", spec := "sectionMoves", unfollowed := true, recurses := true, apart := false }
def SectionMovesSaid : Prop := sectionMovesRow.holds Try.pinned (OpenSpec.ofChange sectionMovesSpec)

/-- ITS FALSE NEIGHBOUR: 'it returns false'. Refute it at one input. -/
def sectionMovesWrong : ChangeSpec := { name := "sectionMoves", fn := fun _ => fun
  | [d1, d2, d3] => { results := [.lit (.bool false)], args := [d1, d2, d3] }
  | _ => none }
def SectionMovesWrongFalsely : Prop := sectionMovesRow.holds Try.pinned (OpenSpec.ofChange sectionMovesWrong)

/-- 'sawmilllaw10.SectionAdds': WHATEVER THE INPUT: true; the input reads as it did. -/
def sectionAddsSpec : ChangeSpec := { name := "sectionAdds", fn := fun _ => fun
  | [d1, d2, d3] => { results := [.lit (.bool true)], args := [d1, d2, d3] }
  | _ => none }
def sectionAddsRow : OpenClaim := { program := "ytjelipmghgcpeaa", sum := "000eb8c79dac81fb497abf93507d78b4580177d72c1ff873a91688466e65dd79", func := "sawmill/sawmilllaw10.SectionAdds", spec := "sectionAdds", unfollowed := true, recurses := true, apart := false }
def SectionAddsSaid : Prop := sectionAddsRow.holds Try.pinned (OpenSpec.ofChange sectionAddsSpec)

/-- ITS FALSE NEIGHBOUR: 'it returns false'. Refute it at one input. -/
def sectionAddsWrong : ChangeSpec := { name := "sectionAdds", fn := fun _ => fun
  | [d1, d2, d3] => { results := [.lit (.bool false)], args := [d1, d2, d3] }
  | _ => none }
def SectionAddsWrongFalsely : Prop := sectionAddsRow.holds Try.pinned (OpenSpec.ofChange sectionAddsWrong)

/-- 'sawmilllaw10.SectionTurns': WHATEVER THE INPUT: true; the input reads as it did. -/
def sectionTurnsSpec : ChangeSpec := { name := "sectionTurns", fn := fun _ => fun
  | [d1, d2, d3] => { results := [.lit (.bool true)], args := [d1, d2, d3] }
  | _ => none }
def sectionTurnsRow : OpenClaim := { program := "ytjelipmghgcpeaa", sum := "000eb8c79dac81fb497abf93507d78b4580177d72c1ff873a91688466e65dd79", func := "sawmill/sawmilllaw10.SectionTurns", spec := "sectionTurns", unfollowed := true, recurses := true, apart := false }
def SectionTurnsSaid : Prop := sectionTurnsRow.holds Try.pinned (OpenSpec.ofChange sectionTurnsSpec)

/-- ITS FALSE NEIGHBOUR: 'it returns false'. Refute it at one input. -/
def sectionTurnsWrong : ChangeSpec := { name := "sectionTurns", fn := fun _ => fun
  | [d1, d2, d3] => { results := [.lit (.bool false)], args := [d1, d2, d3] }
  | _ => none }
def SectionTurnsWrongFalsely : Prop := sectionTurnsRow.holds Try.pinned (OpenSpec.ofChange sectionTurnsWrong)

/-- 'sawmilllaw10.SectionMeets': WHATEVER THE INPUT: true; the input reads as it did. -/
def sectionMeetsSpec : ChangeSpec := { name := "sectionMeets", fn := fun _ => fun
  | [d1, d2] => { results := [.lit (.bool true)], args := [d1, d2] }
  | _ => none }
def sectionMeetsRow : OpenClaim := { program := "ytjelipmghgcpeaa", sum := "000eb8c79dac81fb497abf93507d78b4580177d72c1ff873a91688466e65dd79", func := "sawmill/sawmilllaw10.SectionMeets", spec := "sectionMeets", unfollowed := true, recurses := true, apart := false }
def SectionMeetsSaid : Prop := sectionMeetsRow.holds Try.pinned (OpenSpec.ofChange sectionMeetsSpec)

/-- ITS FALSE NEIGHBOUR: 'it returns false'. Refute it at one input. -/
def sectionMeetsWrong : ChangeSpec := { name := "sectionMeets", fn := fun _ => fun
  | [d1, d2] => { results := [.lit (.bool false)], args := [d1, d2] }
  | _ => none }
def SectionMeetsWrongFalsely : Prop := sectionMeetsRow.holds Try.pinned (OpenSpec.ofChange sectionMeetsWrong)

/-- 'sawmilllaw10.SectionCommon': WHATEVER THE INPUT: true; the input reads as it did. -/
def sectionCommonSpec : ChangeSpec := { name := "sectionCommon", fn := fun _ => fun
  | [d1, d2, d3] => { results := [.lit (.bool true)], args := [d1, d2, d3] }
  | _ => none }
def sectionCommonRow : OpenClaim := { program := "ytjelipmghgcpeaa", sum := "000eb8c79dac81fb497abf93507d78b4580177d72c1ff873a91688466e65dd79", func := "sawmill/sawmilllaw10.SectionCommon", spec := "sectionCommon", unfollowed := true, recurses := true, apart := false }
def SectionCommonSaid : Prop := sectionCommonRow.holds Try.pinned (OpenSpec.ofChange sectionCommonSpec)

/-- ITS FALSE NEIGHBOUR: 'it returns false'. Refute it at one input. -/
def sectionCommonWrong : ChangeSpec := { name := "sectionCommon", fn := fun _ => fun
  | [d1, d2, d3] => { results := [.lit (.bool false)], args := [d1, d2, d3] }
  | _ => none }
def SectionCommonWrongFalsely : Prop := sectionCommonRow.holds Try.pinned (OpenSpec.ofChange sectionCommonWrong)

/-- 'sawmilllaw10.SectionInside': WHATEVER THE INPUT: true; the input reads as it did. -/
def sectionInsideSpec : ChangeSpec := { name := "sectionInside", fn := fun _ => fun
  | [d] => { results := [.lit (.bool true)], args := [d] }
  | _ => none }
def sectionInsideRow : OpenClaim := { program := "ytjelipmghgcpeaa", sum := "000eb8c79dac81fb497abf93507d78b4580177d72c1ff873a91688466e65dd79", func := "sawmill/sawmilllaw10.SectionInside", spec := "sectionInside", unfollowed := true, recurses := true, apart := false }
def SectionInsideSaid : Prop := sectionInsideRow.holds Try.pinned (OpenSpec.ofChange sectionInsideSpec)

/-- ITS FALSE NEIGHBOUR: 'it returns false'. Refute it at one input. -/
def sectionInsideWrong : ChangeSpec := { name := "sectionInside", fn := fun _ => fun
  | [d] => { results := [.lit (.bool false)], args := [d] }
  | _ => none }
def SectionInsideWrongFalsely : Prop := sectionInsideRow.holds Try.pinned (OpenSpec.ofChange sectionInsideWrong)

/- THE SECOND FORM. 'bulk': how many values and letters a reading holds, each counted each time it is reached (what is shared counts as often as it is met; a slice's spare places count too). A statement '..UptoSaid' is the law's where the arguments, and the package variables that the reading takes, are together of bulk at most 1048576: NARROWER than '..Said'. Prove '..Said' where nothing that the law and all that it calls make is longer than what came in: it says more and counts as full. Else prove '..UptoSaid'. A law counts once. -/
mutual
def uptoBulk {H : Type} : DataW H → Nat
  | .lit (.string bytes) => bytes.length + 1
  | .lit _ => 1
  | .nil => 1
  | .ptr d => uptoBulk d + 1
  | .slice elems spare => uptoBulkAll elems + uptoBulkAll spare + 1
  | .agg parts => uptoBulkAll parts + 1
  | .iface _ d => uptoBulk d + 1
  | .map entries => uptoBulkEntries entries + 1
  | .held _ => 1
def uptoBulkAll {H : Type} : List (DataW H) → Nat
  | [] => 0
  | d :: r => uptoBulk d + uptoBulkAll r
def uptoBulkEntries {H : Type} : List (Lit × DataW H) → Nat
  | [] => 0
  | x :: r => uptoBulkEntry x + uptoBulkEntries r
def uptoBulkEntry {H : Type} : Lit × DataW H → Nat
  | (.string bytes, d) => bytes.length + uptoBulk d + 1
  | (_, d) => uptoBulk d + 1
 end
def uptoSmall : (H : Type) → List (DataW H) → Bool := fun _ ds => decide (uptoBulkAll ds ≤ 1048576)
def OpenSpec.upto (s : _root_.Go.ChangeSpec) : _root_.Go.OpenSpec := { _root_.Go.OpenSpec.ofChange s with cond := some uptoSmall }

/-- 'sawmilllaw10.SectionChecks', WHERE WHAT IT READS IS OF BULK AT MOST 1048576: true; the input reads as it did. -/
def sectionChecksUptoRow : OpenClaim := { program := "ytjelipmghgcpeaa", sum := "000eb8c79dac81fb497abf93507d78b4580177d72c1ff873a91688466e65dd79", func := "sawmill/sawmilllaw10.SectionChecks", spec := "sectionChecks", unfollowed := true, recurses := true, apart := false, narrowed := true }
def SectionChecksUptoSaid : Prop := sectionChecksUptoRow.holds Try.pinned (OpenSpec.upto sectionChecksSpec)

/-- 'sawmilllaw10.SectionOfs', WHERE WHAT IT READS IS OF BULK AT MOST 1048576: true; the input reads as it did. -/
def sectionOfsUptoRow : OpenClaim := { program := "ytjelipmghgcpeaa", sum := "000eb8c79dac81fb497abf93507d78b4580177d72c1ff873a91688466e65dd79", func := "sawmill/sawmilllaw10.SectionOfs", spec := "sectionOfs", unfollowed := true, recurses := true, apart := false, narrowed := true }
def SectionOfsUptoSaid : Prop := sectionOfsUptoRow.holds Try.pinned (OpenSpec.upto sectionOfsSpec)

/-- 'sawmilllaw10.SectionAreas', WHERE WHAT IT READS IS OF BULK AT MOST 1048576: true; the input reads as it did. -/
def sectionAreasUptoRow : OpenClaim := { program := "ytjelipmghgcpeaa", sum := "000eb8c79dac81fb497abf93507d78b4580177d72c1ff873a91688466e65dd79", func := "sawmill/sawmilllaw10.SectionAreas", spec := "sectionAreas", unfollowed := true, recurses := true, apart := false, narrowed := true }
def SectionAreasUptoSaid : Prop := sectionAreasUptoRow.holds Try.pinned (OpenSpec.upto sectionAreasSpec)

/-- 'sawmilllaw10.SectionMoves', WHERE WHAT IT READS IS OF BULK AT MOST 1048576: true; the input reads as it did. -/
def sectionMovesUptoRow : OpenClaim := { program := "ytjelipmghgcpeaa", sum := "000eb8c79dac81fb497abf93507d78b4580177d72c1ff873a91688466e65dd79", func := "sawmill/sawmilllaw10.SectionMoves", spec := "sectionMoves", unfollowed := true, recurses := true, apart := false, narrowed := true }
def SectionMovesUptoSaid : Prop := sectionMovesUptoRow.holds Try.pinned (OpenSpec.upto sectionMovesSpec)

/-- 'sawmilllaw10.SectionAdds', WHERE WHAT IT READS IS OF BULK AT MOST 1048576: true; the input reads as it did. -/
def sectionAddsUptoRow : OpenClaim := { program := "ytjelipmghgcpeaa", sum := "000eb8c79dac81fb497abf93507d78b4580177d72c1ff873a91688466e65dd79", func := "sawmill/sawmilllaw10.SectionAdds", spec := "sectionAdds", unfollowed := true, recurses := true, apart := false, narrowed := true }
def SectionAddsUptoSaid : Prop := sectionAddsUptoRow.holds Try.pinned (OpenSpec.upto sectionAddsSpec)

/-- 'sawmilllaw10.SectionTurns', WHERE WHAT IT READS IS OF BULK AT MOST 1048576: true; the input reads as it did. -/
def sectionTurnsUptoRow : OpenClaim := { program := "ytjelipmghgcpeaa", sum := "000eb8c79dac81fb497abf93507d78b4580177d72c1ff873a91688466e65dd79", func := "sawmill/sawmilllaw10.SectionTurns", spec := "sectionTurns", unfollowed := true, recurses := true, apart := false, narrowed := true }
def SectionTurnsUptoSaid : Prop := sectionTurnsUptoRow.holds Try.pinned (OpenSpec.upto sectionTurnsSpec)

/-- 'sawmilllaw10.SectionMeets', WHERE WHAT IT READS IS OF BULK AT MOST 1048576: true; the input reads as it did. -/
def sectionMeetsUptoRow : OpenClaim := { program := "ytjelipmghgcpeaa", sum := "000eb8c79dac81fb497abf93507d78b4580177d72c1ff873a91688466e65dd79", func := "sawmill/sawmilllaw10.SectionMeets", spec := "sectionMeets", unfollowed := true, recurses := true, apart := false, narrowed := true }
def SectionMeetsUptoSaid : Prop := sectionMeetsUptoRow.holds Try.pinned (OpenSpec.upto sectionMeetsSpec)

/-- 'sawmilllaw10.SectionCommon', WHERE WHAT IT READS IS OF BULK AT MOST 1048576: true; the input reads as it did. -/
def sectionCommonUptoRow : OpenClaim := { program := "ytjelipmghgcpeaa", sum := "000eb8c79dac81fb497abf93507d78b4580177d72c1ff873a91688466e65dd79", func := "sawmill/sawmilllaw10.SectionCommon", spec := "sectionCommon", unfollowed := true, recurses := true, apart := false, narrowed := true }
def SectionCommonUptoSaid : Prop := sectionCommonUptoRow.holds Try.pinned (OpenSpec.upto sectionCommonSpec)

/-- 'sawmilllaw10.SectionInside', WHERE WHAT IT READS IS OF BULK AT MOST 1048576: true; the input reads as it did. -/
def sectionInsideUptoRow : OpenClaim := { program := "ytjelipmghgcpeaa", sum := "000eb8c79dac81fb497abf93507d78b4580177d72c1ff873a91688466e65dd79", func := "sawmill/sawmilllaw10.SectionInside", spec := "sectionInside", unfollowed := true, recurses := true, apart := false, narrowed := true }
def SectionInsideUptoSaid : Prop := sectionInsideUptoRow.holds Try.pinned (OpenSpec.upto sectionInsideSpec)

end Rows
end Go.Proofs.Ytjelipmghgcpeaa

/-
  No cell of these rows narrows 'for every input' (looked for: loops, veiled, ifaces, maps, wideKeys, modest, calm, conditions, laid).
  DERIVED. THE GIVEN ROWS OF THIS SEAT. 3 by the template 'for every input the law returns true; each argument reads behind the call as it read before'; 0 by the template 'total and deterministic' (their statements: YtpommeghjpbepaaTotals.lean).
  GIVEN WITH THE SEED: the statements are not yours to turn. If you find one false, say at which input.
  Laid BY PROGRAM, IN A SANDBOX (cutbox-rows.mjs): the forced cells as the released guide's own fill.sh prints them over the translation 079ae1ee620fb9ce… (all of the seat's roots in one cut). By AI agents, Wed Nov 11 2026. No macro, syntax, notation, axiom, sorry.
-/
import Derived.Test.YtpommeghjpbepaaChecked
import GoSem.Claim
import GoSem.ClaimJoined
import GoSem.ClaimMapViews
import Derived.JoinedTies
import Derived.KernelRfl
namespace Go.Proofs.Ytpommeghjpbepaa
/- THE CELL 'sum', in the pinned program and in every row, IS THE sha256 OF THE DUMP (.gsa) THAT YtpommeghjpbepaaProg.lean LOADS. Nothing in Lean hashes anything: it is a label: what it is worth is what the hold of that sum in a sandbox is worth. -/
noncomputable def Try.pinned : Pinned := { name := "ytpommeghjpbepaa", sum := "079ae1ee620fb9ce6491a09568bd5ef981458dc1289bb67d7b6b92890174f312", checked := Try.checked }
namespace Rows
def none {H : Type} : Left H := { results := [], args := [] }

/-- 'sawmilllaw29.SawlineVolume': WHATEVER THE INPUT: true; the input reads as it did. -/
def sawlineVolumeSpec : ChangeSpec := { name := "sawlineVolume", fn := fun _ => fun
  | [d1, d2] => { results := [.lit (.bool true)], args := [d1, d2] }
  | _ => none }
def sawlineVolumeRow : OpenClaim := { program := "ytpommeghjpbepaa", sum := "079ae1ee620fb9ce6491a09568bd5ef981458dc1289bb67d7b6b92890174f312", func := "sawmill/sawmilllaw29.SawlineVolume", spec := "sawlineVolume", unfollowed := true, recurses := true, apart := false }
def SawlineVolumeSaid : Prop := sawlineVolumeRow.holds Try.pinned (OpenSpec.ofChange sawlineVolumeSpec)

/-- ITS FALSE NEIGHBOUR: 'it returns false'. Refute it at one input. -/
def sawlineVolumeWrong : ChangeSpec := { name := "sawlineVolume", fn := fun _ => fun
  | [d1, d2] => { results := [.lit (.bool false)], args := [d1, d2] }
  | _ => none }
def SawlineVolumeWrongFalsely : Prop := sawlineVolumeRow.holds Try.pinned (OpenSpec.ofChange sawlineVolumeWrong)

/-- 'sawmilllaw29.SawlineOnward': WHATEVER THE INPUT: true; the input reads as it did. -/
def sawlineOnwardSpec : ChangeSpec := { name := "sawlineOnward", fn := fun _ => fun
  | [d1, d2] => { results := [.lit (.bool true)], args := [d1, d2] }
  | _ => none }
def sawlineOnwardRow : OpenClaim := { program := "ytpommeghjpbepaa", sum := "079ae1ee620fb9ce6491a09568bd5ef981458dc1289bb67d7b6b92890174f312", func := "sawmill/sawmilllaw29.SawlineOnward", spec := "sawlineOnward", unfollowed := true, recurses := true, apart := false }
def SawlineOnwardSaid : Prop := sawlineOnwardRow.holds Try.pinned (OpenSpec.ofChange sawlineOnwardSpec)

/-- ITS FALSE NEIGHBOUR: 'it returns false'. Refute it at one input. -/
def sawlineOnwardWrong : ChangeSpec := { name := "sawlineOnward", fn := fun _ => fun
  | [d1, d2] => { results := [.lit (.bool false)], args := [d1, d2] }
  | _ => none }
def SawlineOnwardWrongFalsely : Prop := sawlineOnwardRow.holds Try.pinned (OpenSpec.ofChange sawlineOnwardWrong)

/-- 'sawmilllaw29.SawlinePlanned': WHATEVER THE INPUT: true; the input reads as it did. -/
def sawlinePlannedSpec : ChangeSpec := { name := "sawlinePlanned", fn := fun _ => fun
  | [d] => { results := [.lit (.bool true)], args := [d] }
  | _ => none }
def sawlinePlannedRow : OpenClaim := { program := "ytpommeghjpbepaa", sum := "079ae1ee620fb9ce6491a09568bd5ef981458dc1289bb67d7b6b92890174f312", func := "sawmill/sawmilllaw29.SawlinePlanned", spec := "sawlinePlanned", unfollowed := true, recurses := true, apart := false }
def SawlinePlannedSaid : Prop := sawlinePlannedRow.holds Try.pinned (OpenSpec.ofChange sawlinePlannedSpec)

/-- ITS FALSE NEIGHBOUR: 'it returns false'. Refute it at one input. -/
def sawlinePlannedWrong : ChangeSpec := { name := "sawlinePlanned", fn := fun _ => fun
  | [d] => { results := [.lit (.bool false)], args := [d] }
  | _ => none }
def SawlinePlannedWrongFalsely : Prop := sawlinePlannedRow.holds Try.pinned (OpenSpec.ofChange sawlinePlannedWrong)

/- THE SECOND FORM. 'bulk': how many values and letters a reading holds, each counted each time it is reached (what is shared counts as often as it is met; a slice's spare places count too). A statement '..UptoSaid' is the law's where the arguments, and the package variables that the reading takes, are together of bulk at most 1048576: NARROWER than '..Said'. Prove '..Said' where nothing that the law and all that it calls make is longer than what came in: it says more and counts as full. Else prove '..UptoSaid'. A law counts once. -/
mutual
def uptoBulk {H : Type} : DataW H → Nat
  | .lit (.string bytes) => bytes.length + 1
  | .lit _ => 1
  | .nil => 1
  | .ptr d => uptoBulk d + 1
  | .slice elems spare => uptoBulkAll elems + uptoBulkAll spare + 1
  | .agg parts => uptoBulkAll parts + 1
  | .iface _ d => uptoBulk d + 1
  | .map entries => uptoBulkEntries entries + 1
  | .held _ => 1
def uptoBulkAll {H : Type} : List (DataW H) → Nat
  | [] => 0
  | d :: r => uptoBulk d + uptoBulkAll r
def uptoBulkEntries {H : Type} : List (Lit × DataW H) → Nat
  | [] => 0
  | x :: r => uptoBulkEntry x + uptoBulkEntries r
def uptoBulkEntry {H : Type} : Lit × DataW H → Nat
  | (.string bytes, d) => bytes.length + uptoBulk d + 1
  | (_, d) => uptoBulk d + 1
 end
def uptoSmall : (H : Type) → List (DataW H) → Bool := fun _ ds => decide (uptoBulkAll ds ≤ 1048576)
def OpenSpec.upto (s : _root_.Go.ChangeSpec) : _root_.Go.OpenSpec := { _root_.Go.OpenSpec.ofChange s with cond := some uptoSmall }

/-- 'sawmilllaw29.SawlineVolume', WHERE WHAT IT READS IS OF BULK AT MOST 1048576: true; the input reads as it did. -/
def sawlineVolumeUptoRow : OpenClaim := { program := "ytpommeghjpbepaa", sum := "079ae1ee620fb9ce6491a09568bd5ef981458dc1289bb67d7b6b92890174f312", func := "sawmill/sawmilllaw29.SawlineVolume", spec := "sawlineVolume", unfollowed := true, recurses := true, apart := false, narrowed := true }
def SawlineVolumeUptoSaid : Prop := sawlineVolumeUptoRow.holds Try.pinned (OpenSpec.upto sawlineVolumeSpec)

/-- 'sawmilllaw29.SawlineOnward', WHERE WHAT IT READS IS OF BULK AT MOST 1048576: true; the input reads as it did. -/
def sawlineOnwardUptoRow : OpenClaim := { program := "ytpommeghjpbepaa", sum := "079ae1ee620fb9ce6491a09568bd5ef981458dc1289bb67d7b6b92890174f312", func := "sawmill/sawmilllaw29.SawlineOnward", spec := "sawlineOnward", unfollowed := true, recurses := true, apart := false, narrowed := true }
def SawlineOnwardUptoSaid : Prop := sawlineOnwardUptoRow.holds Try.pinned (OpenSpec.upto sawlineOnwardSpec)

/-- 'sawmilllaw29.SawlinePlanned', WHERE WHAT IT READS IS OF BULK AT MOST 1048576: true; the input reads as it did. -/
def sawlinePlannedUptoRow : OpenClaim := { program := "ytpommeghjpbepaa", sum := "079ae1ee620fb9ce6491a09568bd5ef981458dc1289bb67d7b6b92890174f312", func := "sawmill/sawmilllaw29.SawlinePlanned", spec := "sawlinePlanned", unfollowed := true, recurses := true, apart := false, narrowed := true }
def SawlinePlannedUptoSaid : Prop := sawlinePlannedUptoRow.holds Try.pinned (OpenSpec.upto sawlinePlannedSpec)

end Rows
end Go.Proofs.Ytpommeghjpbepaa

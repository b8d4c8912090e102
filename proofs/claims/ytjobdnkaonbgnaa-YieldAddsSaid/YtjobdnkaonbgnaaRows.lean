/-
  No cell of these rows narrows 'for every input' (looked for: loops, veiled, ifaces, maps, wideKeys, modest, calm, conditions, laid).
  DERIVED. THE GIVEN ROWS OF THIS SEAT. 5 by the template 'for every input the law returns true; each argument reads behind the call as it read before'; 0 by the template 'total and deterministic' (their statements: YtjobdnkaonbgnaaTotals.lean).
  GIVEN WITH THE SEED: the statements are not yours to turn. If you find one false, say at which input.
  Laid BY PROGRAM, IN A SANDBOX (cutbox-rows.mjs): the forced cells as the released guide's own fill.sh prints them over the translation 11b4b45b7db61b4a… (all of the seat's roots in one cut). By AI agents, Wed Nov 11 2026. No macro, syntax, notation, axiom, sorry.
-/
import Derived.Test.YtjobdnkaonbgnaaChecked
import GoSem.Claim
import GoSem.ClaimJoined
import GoSem.ClaimMapViews
import Derived.JoinedTies
import Derived.KernelRfl
namespace Go.Proofs.Ytjobdnkaonbgnaa
/- THE CELL 'sum', in the pinned program and in every row, IS THE sha256 OF THE DUMP (.gsa) THAT YtjobdnkaonbgnaaProg.lean LOADS. Nothing in Lean hashes anything: it is a label: what it is worth is what the hold of that sum in a sandbox is worth. -/
noncomputable def Try.pinned : Pinned := { name := "ytjobdnkaonbgnaa", sum := "11b4b45b7db61b4a57dcd1048ca8db515be580b8c7e2ece00f617f8d55d6df0f", checked := Try.checked }
namespace Rows
def none {H : Type} : Left H := { results := [], args := [] }

/-- 'sawmilllaw22.YieldParts': WHATEVER THE INPUT: true; the input reads as it did. -/
def yieldPartsSpec : ChangeSpec := { name := "yieldParts", fn := fun _ => fun
  | [d] => { results := [.lit (.bool true)], args := [d] }
  | _ => none }
def yieldPartsRow : OpenClaim := { program := "ytjobdnkaonbgnaa", sum := "11b4b45b7db61b4a57dcd1048ca8db515be580b8c7e2ece00f617f8d55d6df0f", func := "sawmill/sawmilllaw22.YieldParts", spec := "yieldParts", unfollowed := true, recurses := true, named := ["math/bits.divideError", "math/bits.overflowError"], apart := false }
def YieldPartsSaid : Prop := yieldPartsRow.holds Try.pinned (OpenSpec.ofChange yieldPartsSpec)

/-- ITS FALSE NEIGHBOUR: 'it returns false'. Refute it at one input. -/
def yieldPartsWrong : ChangeSpec := { name := "yieldParts", fn := fun _ => fun
  | [d] => { results := [.lit (.bool false)], args := [d] }
  | _ => none }
def YieldPartsWrongFalsely : Prop := yieldPartsRow.holds Try.pinned (OpenSpec.ofChange yieldPartsWrong)

/-- 'sawmilllaw22.YieldRates': WHATEVER THE INPUT: true; the input reads as it did. -/
def yieldRatesSpec : ChangeSpec := { name := "yieldRates", fn := fun _ => fun
  | [d1, d2, d3] => { results := [.lit (.bool true)], args := [d1, d2, d3] }
  | _ => none }
def yieldRatesRow : OpenClaim := { program := "ytjobdnkaonbgnaa", sum := "11b4b45b7db61b4a57dcd1048ca8db515be580b8c7e2ece00f617f8d55d6df0f", func := "sawmill/sawmilllaw22.YieldRates", spec := "yieldRates", unfollowed := true, recurses := true, named := ["math/bits.divideError", "math/bits.overflowError"], apart := false }
def YieldRatesSaid : Prop := yieldRatesRow.holds Try.pinned (OpenSpec.ofChange yieldRatesSpec)

/-- ITS FALSE NEIGHBOUR: 'it returns false'. Refute it at one input. -/
def yieldRatesWrong : ChangeSpec := { name := "yieldRates", fn := fun _ => fun
  | [d1, d2, d3] => { results := [.lit (.bool false)], args := [d1, d2, d3] }
  | _ => none }
def YieldRatesWrongFalsely : Prop := yieldRatesRow.holds Try.pinned (OpenSpec.ofChange yieldRatesWrong)

/-- 'sawmilllaw22.YieldSplits': WHATEVER THE INPUT: true; the input reads as it did. -/
def yieldSplitsSpec : ChangeSpec := { name := "yieldSplits", fn := fun _ => fun
  | [d1, d2, d3] => { results := [.lit (.bool true)], args := [d1, d2, d3] }
  | _ => none }
def yieldSplitsRow : OpenClaim := { program := "ytjobdnkaonbgnaa", sum := "11b4b45b7db61b4a57dcd1048ca8db515be580b8c7e2ece00f617f8d55d6df0f", func := "sawmill/sawmilllaw22.YieldSplits", spec := "yieldSplits", unfollowed := true, recurses := true, named := ["math/bits.divideError", "math/bits.overflowError"], apart := false }
def YieldSplitsSaid : Prop := yieldSplitsRow.holds Try.pinned (OpenSpec.ofChange yieldSplitsSpec)

/-- ITS FALSE NEIGHBOUR: 'it returns false'. Refute it at one input. -/
def yieldSplitsWrong : ChangeSpec := { name := "yieldSplits", fn := fun _ => fun
  | [d1, d2, d3] => { results := [.lit (.bool false)], args := [d1, d2, d3] }
  | _ => none }
def YieldSplitsWrongFalsely : Prop := yieldSplitsRow.holds Try.pinned (OpenSpec.ofChange yieldSplitsWrong)

/-- 'sawmilllaw22.YieldAdds': WHATEVER THE INPUT: true; the input reads as it did. -/
def yieldAddsSpec : ChangeSpec := { name := "yieldAdds", fn := fun _ => fun
  | [d1, d2] => { results := [.lit (.bool true)], args := [d1, d2] }
  | _ => none }
def yieldAddsRow : OpenClaim := { program := "ytjobdnkaonbgnaa", sum := "11b4b45b7db61b4a57dcd1048ca8db515be580b8c7e2ece00f617f8d55d6df0f", func := "sawmill/sawmilllaw22.YieldAdds", spec := "yieldAdds", unfollowed := true, recurses := true, named := ["math/bits.divideError", "math/bits.overflowError"], apart := false }
def YieldAddsSaid : Prop := yieldAddsRow.holds Try.pinned (OpenSpec.ofChange yieldAddsSpec)

/-- ITS FALSE NEIGHBOUR: 'it returns false'. Refute it at one input. -/
def yieldAddsWrong : ChangeSpec := { name := "yieldAdds", fn := fun _ => fun
  | [d1, d2] => { results := [.lit (.bool false)], args := [d1, d2] }
  | _ => none }
def YieldAddsWrongFalsely : Prop := yieldAddsRow.holds Try.pinned (OpenSpec.ofChange yieldAddsWrong)

/-- 'sawmilllaw22.YieldSums': WHATEVER THE INPUT: true; the input reads as it did. -/
def yieldSumsSpec : ChangeSpec := { name := "yieldSums", fn := fun _ => fun
  | [d1, d2] => { results := [.lit (.bool true)], args := [d1, d2] }
  | _ => none }
def yieldSumsRow : OpenClaim := { program := "ytjobdnkaonbgnaa", sum := "11b4b45b7db61b4a57dcd1048ca8db515be580b8c7e2ece00f617f8d55d6df0f", func := "sawmill/sawmilllaw22.YieldSums", spec := "yieldSums", unfollowed := true, recurses := true, named := ["math/bits.divideError", "math/bits.overflowError"], apart := false }
def YieldSumsSaid : Prop := yieldSumsRow.holds Try.pinned (OpenSpec.ofChange yieldSumsSpec)

/-- ITS FALSE NEIGHBOUR: 'it returns false'. Refute it at one input. -/
def yieldSumsWrong : ChangeSpec := { name := "yieldSums", fn := fun _ => fun
  | [d1, d2] => { results := [.lit (.bool false)], args := [d1, d2] }
  | _ => none }
def YieldSumsWrongFalsely : Prop := yieldSumsRow.holds Try.pinned (OpenSpec.ofChange yieldSumsWrong)

/- THE SECOND FORM. 'bulk': how many values and letters a reading holds, each counted each time it is reached (what is shared counts as often as it is met; a slice's spare places count too). A statement '..UptoSaid' is the law's where the arguments, and the package variables that the reading takes, are together of bulk at most 1048576: NARROWER than '..Said'. Prove '..Said' where nothing that the law and all that it calls make is longer than what came in: it says more and counts as full. Else prove '..UptoSaid'. A law counts once. -/
mutual
def uptoBulk {H : Type} : DataW H → Nat
  | .lit (.string bytes) => bytes.length + 1
  | .lit _ => 1
  | .nil => 1
  | .ptr d => uptoBulk d + 1
  | .slice elems spare => uptoBulkAll elems + uptoBulkAll spare + 1
  | .agg parts => uptoBulkAll parts + 1
  | .iface _ d => uptoBulk d + 1
  | .map entries => uptoBulkEntries entries + 1
  | .held _ => 1
def uptoBulkAll {H : Type} : List (DataW H) → Nat
  | [] => 0
  | d :: r => uptoBulk d + uptoBulkAll r
def uptoBulkEntries {H : Type} : List (Lit × DataW H) → Nat
  | [] => 0
  | x :: r => uptoBulkEntry x + uptoBulkEntries r
def uptoBulkEntry {H : Type} : Lit × DataW H → Nat
  | (.string bytes, d) => bytes.length + uptoBulk d + 1
  | (_, d) => uptoBulk d + 1
 end
def uptoSmall : (H : Type) → List (DataW H) → Bool := fun _ ds => decide (uptoBulkAll ds ≤ 1048576)
def OpenSpec.upto (s : _root_.Go.ChangeSpec) : _root_.Go.OpenSpec := { _root_.Go.OpenSpec.ofChange s with cond := some uptoSmall }

/-- 'sawmilllaw22.YieldParts', WHERE WHAT IT READS IS OF BULK AT MOST 1048576: true; the input reads as it did. -/
def yieldPartsUptoRow : OpenClaim := { program := "ytjobdnkaonbgnaa", sum := "11b4b45b7db61b4a57dcd1048ca8db515be580b8c7e2ece00f617f8d55d6df0f", func := "sawmill/sawmilllaw22.YieldParts", spec := "yieldParts", unfollowed := true, recurses := true, named := ["math/bits.divideError", "math/bits.overflowError"], apart := false, narrowed := true }
def YieldPartsUptoSaid : Prop := yieldPartsUptoRow.holds Try.pinned (OpenSpec.upto yieldPartsSpec)

/-- 'sawmilllaw22.YieldRates', WHERE WHAT IT READS IS OF BULK AT MOST 1048576: true; the input reads as it did. -/
def yieldRatesUptoRow : OpenClaim := { program := "ytjobdnkaonbgnaa", sum := "11b4b45b7db61b4a57dcd1048ca8db515be580b8c7e2ece00f617f8d55d6df0f", func := "sawmill/sawmilllaw22.YieldRates", spec := "yieldRates", unfollowed := true, recurses := true, named := ["math/bits.divideError", "math/bits.overflowError"], apart := false, narrowed := true }
def YieldRatesUptoSaid : Prop := yieldRatesUptoRow.holds Try.pinned (OpenSpec.upto yieldRatesSpec)

/-- 'sawmilllaw22.YieldSplits', WHERE WHAT IT READS IS OF BULK AT MOST 1048576: true; the input reads as it did. -/
def yieldSplitsUptoRow : OpenClaim := { program := "ytjobdnkaonbgnaa", sum := "11b4b45b7db61b4a57dcd1048ca8db515be580b8c7e2ece00f617f8d55d6df0f", func := "sawmill/sawmilllaw22.YieldSplits", spec := "yieldSplits", unfollowed := true, recurses := true, named := ["math/bits.divideError", "math/bits.overflowError"], apart := false, narrowed := true }
def YieldSplitsUptoSaid : Prop := yieldSplitsUptoRow.holds Try.pinned (OpenSpec.upto yieldSplitsSpec)

/-- 'sawmilllaw22.YieldAdds', WHERE WHAT IT READS IS OF BULK AT MOST 1048576: true; the input reads as it did. -/
def yieldAddsUptoRow : OpenClaim := { program := "ytjobdnkaonbgnaa", sum := "11b4b45b7db61b4a57dcd1048ca8db515be580b8c7e2ece00f617f8d55d6df0f", func := "sawmill/sawmilllaw22.YieldAdds", spec := "yieldAdds", unfollowed := true, recurses := true, named := ["math/bits.divideError", "math/bits.overflowError"], apart := false, narrowed := true }
def YieldAddsUptoSaid : Prop := yieldAddsUptoRow.holds Try.pinned (OpenSpec.upto yieldAddsSpec)

/-- 'sawmilllaw22.YieldSums', WHERE WHAT IT READS IS OF BULK AT MOST 1048576: true; the input reads as it did. -/
def yieldSumsUptoRow : OpenClaim := { program := "ytjobdnkaonbgnaa", sum := "11b4b45b7db61b4a57dcd1048ca8db515be580b8c7e2ece00f617f8d55d6df0f", func := "sawmill/sawmilllaw22.YieldSums", spec := "yieldSums", unfollowed := true, recurses := true, named := ["math/bits.divideError", "math/bits.overflowError"], apart := false, narrowed := true }
def YieldSumsUptoSaid : Prop := yieldSumsUptoRow.holds Try.pinned (OpenSpec.upto yieldSumsSpec)

end Rows
end Go.Proofs.Ytjobdnkaonbgnaa

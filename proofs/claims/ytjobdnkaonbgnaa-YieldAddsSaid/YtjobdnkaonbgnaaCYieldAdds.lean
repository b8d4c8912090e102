/- PROVED HERE: YieldAdds: for every input that the row speaks of the law returns true, and its arguments read as before. Conditions: none beside the statement's own. -/
import Derived.Test.YtjobdnkaonbgnaaERead
import Derived.Test.YtjobdnkaonbgnaaEMa3
import Derived.Test.YtjobdnkaonbgnaaELlaw22YieldAdds
set_option linter.unusedVariables false
set_option linter.unusedSimpArgs false
namespace Go.Proofs.Ytjobdnkaonbgnaa
namespace yieldAddsLaw
open Go.RowKit Go.ChangeShapes Go.WideShapes Go.ChangeAt Go.SL Go.SL.Saw
set_option maxRecDepth 100000
theorem contract (H : Type) (enc : TypeId × Value → H) (W : World) (base : Nat) (args : Array Value) (ds gs : List (DataW H)) (before : List MemPlace)
  (hval : ∀ (j : Nat) t v, Try.f6.params[j]? = some t → args[j]? = some v → Value.okWide Try.prog W .any base t v)
  (hW : DataW.Whole enc Try.prog Try.f6.params.toList Rows.yieldAddsSpec.vars false W args.toList ds gs before) (hL : laidMetH Try.prog Rows.yieldAddsRow.laid W) :
  Calls Try.prog 6 args W fun e W' => ∃ v, e = .returned v ∧ Rows.yieldAddsSpec.post enc Try.prog Try.f6 false true false false W args v W' := by
 have hW' := hW
 obtain ⟨p, q, hA0, hV, rfl, hfz, hnd⟩ := hW
 have hA : DataW.TrodAll enc Try.prog W 0 (fun _ => true) true Try.f6.params.toList args.toList ds p := hA0
 have hp : Try.f6.params = #[41, 41] := by kernel_rfl
 rw [hp] at hA hval
 obtain ⟨v0, v1, d0, d1, p0, p1, rfl, rfl, rfl, h0, h1⟩ := trodAll_two hA
 obtain ⟨r0, w0, D0, c0⟩ := qEb (hval 0 41 v0 rfl rfl) h0
 obtain ⟨r1, w1, D1, c1⟩ := qEb (hval 1 41 v1 rfl rfl) h1
 refine ((AN r0 r1 true (qBG r0 r1 w0 w1)).top W (fun _ => True) #[v0, v1] qFv (qFA c0 c1)).mono fun e W' ⟨v, he, hb, hr⟩ => ?_
 obtain rfl := qFr hr
 exact ⟨_, he, qE6 laidOut (by kernel_rfl) (tb := 4) (by kernel_rfl) (by kernel_rfl) rfl rfl hW' hb⟩
def zargs : Array Value := #[.agg #[.int .i64 0, .int .i64 0, .int .i64 0, .int .i64 0, .int .i64 0], .agg #[.int .i64 0, .int .i64 0, .int .i64 0, .int .i64 0, .int .i64 0]]
theorem laid_met (os : Os) : laidMet Try.prog Rows.yieldAddsRow.laid ((AJ os).forCall (fun _ _ => 0) ⟨#[], zargs, []⟩).memory :=
 laidMet_of_run' 8 (by kernel_rfl) (by kernel_rfl)
theorem reads (os : Os) {H : Type} (enc : TypeId × Value → H) : ∃ ds places, DataW.whole enc Try.prog ((AJ os).forCall (fun _ _ => 0) ⟨#[], zargs, []⟩).memory Try.f6.params.toList Rows.yieldAddsSpec.vars false zargs.toList 8 = some (ds, [], places) :=
 ⟨[.agg [.lit (.int .i64 0), .lit (.int .i64 0), .lit (.int .i64 0), .lit (.int .i64 0), .lit (.int .i64 0)], .agg [.lit (.int .i64 0), .lit (.int .i64 0), .lit (.int .i64 0), .lit (.int .i64 0), .lit (.int .i64 0)]], [], by kernel_rfl⟩
theorem lifted (os : Os) (started : os.Started) (H : Type) (enc : TypeId × Value → H) (F : Stop.Interp) :
  ReturnsInHanded {} Try.checked os 6 .any ((OpenSpec.ofChange Rows.yieldAddsSpec).preRow enc Try.prog Try.f6 Rows.yieldAddsRow.domain false Rows.yieldAddsRow.laid) (((OpenSpec.ofChange Rows.yieldAddsSpec).at F).post enc Try.prog Try.f6 false true false false) := by
 obtain ⟨ds, places, hx⟩ := reads os enc
 refine returnsInHanded_of_row (C := Try.checked) (s := OpenSpec.ofChange Rows.yieldAddsSpec) Go.SL.Saw.own started (by kernel_rfl) (by kernel_rfl)
  (witness_row_at (enc := enc) (C := Try.checked) false (AJ os) zargs rfl (by kernel_rfl) (by kernel_rfl) (by kernel_rfl)
   (OpenSpec.preRow_of_cond 8 hx (by kernel_rfl) (fun k hk => by cases hk) (by kernel_rfl) (laid_met os))) ?_
 intro W base args ds gs before hval hW _ _ _ hL _ _
 exact contract H enc W base args ds gs before hval hW hL
theorem said : Rows.YieldAddsSaid :=
 OpenClaim.holds_of_cond 6 Try.f6 rfl rfl rfl rfl rfl rfl rfl ⟨rfl, rfl, rfl, rfl, rfl⟩ rfl rfl rfl rfl rfl (by kernel_rfl) (by kernel_rfl) (by kernel_rfl)
  (of_decide_eq_true (by kernel_rfl)) (by unfold Func.isWrapper; first | (rw [if_pos (by decide +kernel)]; kernel_rfl) | (rw [if_neg (by decide +kernel)]; exact ⟨rfl, rfl⟩))
  (fun os started H enc _ F => by rw [OpenClaim.pre_eq_preRow]; exact lifted os started H enc F)
end yieldAddsLaw
end Go.Proofs.Ytjobdnkaonbgnaa

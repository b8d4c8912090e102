/- PROVED HERE: the tied card of EdgeMore (second form): for every input of the bulk that the row speaks of the law returns true, and its arguments read as before. Conditions: none beside the statement's own. -/
import Derived.Test.YtgpgnlllieekbaaDoorERead
import Derived.Test.YtgpgnlllieekbaaDoorEMa6
import Derived.Test.YtgpgnlllieekbaaDoorELlaw23EdgeMore
set_option linter.unusedVariables false
set_option linter.unusedSimpArgs false
namespace Go.Proofs.YtgpgnlllieekbaaDoor
namespace edgeMoreLaw
open Go.RowKit Go.ChangeShapes Go.WideShapes Go.ChangeAt Go.SL Go.SL.Saw

set_option maxRecDepth 100000 in
theorem contract (H : Type) (enc : TypeId × Value → H) (W : World) (base : Nat) (args : Array Value) (ds gs : List (DataW H)) (before : List MemPlace)
    (hval : ∀ (j : Nat) t v, Tryd.f4.params[j]? = some t → args[j]? = some v → Value.okWide Tryd.prog W .any base t v)
    (hW : DataW.Whole enc Tryd.prog Tryd.f4.params.toList Rows.edgeMoreSpec.vars false W args.toList ds gs before) (hL : laidMetH Tryd.prog Rows.edgeMoreUptoRow.laid W) (hk : Rows.uptoSmall H (ds ++ gs) = true) :
    Calls Tryd.prog 4 args W fun e W' => ∃ v, e = .returned v ∧ Rows.edgeMoreSpec.post enc Tryd.prog Tryd.f4 false true false false W args v W' := by
  have hW' := hW
  obtain ⟨p, q, hA0, hV, rfl, hfz, hnd⟩ := hW
  have hA : DataW.TrodAll enc Tryd.prog W 0 (fun _ => true) true Tryd.f4.params.toList args.toList ds p := hA0
  have hp : Tryd.f4.params = #[41, 43] := by kernel_rfl
  rw [hp] at hA hval
  obtain ⟨v0, v1, d0, d1, p0, p1, rfl, rfl, rfl, h0, h1⟩ := trodAll_two hA
  obtain ⟨r0, w0, D0, c0⟩ := open_41 (hval 0 41 v0 rfl rfl) h0
  obtain ⟨r1, w1, D1, c1⟩ := open_43 (hval 1 43 v1 rfl rfl) h1
  have hk' : Rows.uptoBulkAll ([d0, d1] ++ gs) ≤ 1048576 := of_decide_eq_true hk
  obtain ⟨s0, rfl, ds0, rfl, e0_0, t0_0, rfl, D0_0, e0_1, t0_1, rfl, D0_1, e0_2, t0_2, rfl, D0_2, D0_r⟩ := D0
  have b0_0 := sl_le D0_0
  have b0_1 := sl_le D0_1
  have b0_2 := sl_le D0_2
  obtain ⟨s1, rfl, ds1, rfl, e1_0, t1_0, rfl, D1_0, e1_1, t1_1, rfl, D1_1, e1_2, t1_2, rfl, D1_2, e1_3, t1_3, rfl, D1_3, e1_4, t1_4, rfl, D1_4, e1_5, t1_5, rfl, D1_5, e1_6, t1_6, rfl, D1_6, D1_r⟩ := D1
  have b1_0 := str_le D1_0
  have b1_5 := sl_le D1_5
  have b1_6 := sl_le D1_6
  simp only [List.cons_append, Rows.uptoBulkAll, Rows.uptoBulk] at hk'
  refine ((law23_EdgeMore_ok (g_Law23_Given s0) (g_Product s1) true (EdgeMore_upto (g_Law23_Given s0) (g_Product s1) (show _ ≤ 1048576 from Nat.le_trans b0_0 (by omega)) (show _ ≤ 1048576 from Nat.le_trans b0_1 (by omega)) (show _ ≤ 1048576 from Nat.le_trans b0_2 (by omega)) (show _ ≤ 1048576 from Nat.le_trans b1_0 (by omega)) (show _ ≤ 1048576 from Nat.le_trans b1_5 (by omega)) (show _ ≤ 1048576 from Nat.le_trans b1_6 (by omega)))).top W (fun _ => True) #[v0, v1] (globs_ok hL) (argsRep2 c0 c1)).mono fun e W' ⟨v, he, hb, hr⟩ => ?_
  obtain rfl := ret_true hr
  exact ⟨_, he, post_true laidOut (by kernel_rfl) (tb := 4) (by kernel_rfl) (by kernel_rfl) rfl rfl hW' hb⟩

def zargs : Array Value := #[.agg #[.slice none 0 0, .slice none 0 0, .slice none 0 0, .int .i64 0, .int .i64 0, .int .i64 0, .int .i64 0, .int .i64 0, .int .i64 0, .int .i64 0, .int .i64 0, .int .i64 0, .int .i64 0, .int .i64 0], .agg #[.string ⟨#[]⟩, .int .i64 0, .int .i64 0, .int .i64 0, .int .i64 0, .slice none 0 0, .slice none 0 0]]
theorem laid_met (os : Os) : laidMet Tryd.prog Rows.edgeMoreUptoRow.laid ((laidWorld os).forCall (fun _ _ => 0) ⟨#[], zargs, []⟩).memory :=
  laidMet_of_run' 8 (by kernel_rfl) (by kernel_rfl)
theorem reads (os : Os) {H : Type} (enc : TypeId × Value → H) : ∃ places, DataW.whole enc Tryd.prog ((laidWorld os).forCall (fun _ _ => 0) ⟨#[], zargs, []⟩).memory Tryd.f4.params.toList Rows.edgeMoreSpec.vars false zargs.toList 8 = some ([.agg [.nil, .nil, .nil, .agg [.agg [.lit (.int .i64 0), .lit (.int .i64 0)], .agg [.lit (.int .i64 0), .lit (.int .i64 0)]], .agg [.lit (.int .i64 0), .lit (.int .i64 0), .lit (.int .i64 0), .lit (.int .i64 0)], .agg [.lit (.int .i64 0), .lit (.int .i64 0), .lit (.int .i64 0)]], .agg [.lit (.string []), .lit (.int .i64 0), .lit (.int .i64 0), .lit (.int .i64 0), .lit (.int .i64 0), .nil, .nil]], [], places) :=
  ⟨[], by kernel_rfl⟩

set_option maxRecDepth 100000 in
theorem lifted (os : Os) (started : os.Started) (H : Type) (enc : TypeId × Value → H) (F : Stop.Interp) :
    ReturnsInHanded {} Tryd.checked os 4 .any ((Rows.OpenSpec.upto Rows.edgeMoreSpec).preRow enc Tryd.prog Tryd.f4 Rows.edgeMoreUptoRow.domain false Rows.edgeMoreUptoRow.laid) (((Rows.OpenSpec.upto Rows.edgeMoreSpec).at F).post enc Tryd.prog Tryd.f4 false true false false) := by
  obtain ⟨places, hx⟩ := reads os enc
  refine returnsInHanded_of_row (C := Tryd.checked) (s := Rows.OpenSpec.upto Rows.edgeMoreSpec) Go.SL.Saw.own started (by kernel_rfl) (by kernel_rfl)
    (witness_row_at (enc := enc) (C := Tryd.checked) false (laidWorld os) zargs rfl (by kernel_rfl) (by kernel_rfl) (by kernel_rfl)
      (OpenSpec.preRow_of_cond 8 hx (by kernel_rfl) (fun k hk => by cases hk; kernel_rfl) (by kernel_rfl) (laid_met os))) ?_
  intro W base args ds gs before hval hW _ hcond _ hL _ _
  exact contract H enc W base args ds gs before hval hW hL (hcond _ rfl)

theorem said : Rows.EdgeMoreUptoSaid :=
  OpenClaim.holds_of_cond 4 Tryd.f4 rfl rfl rfl rfl rfl rfl rfl ⟨rfl, rfl, rfl, rfl, rfl⟩ rfl rfl rfl rfl rfl (by kernel_rfl) (by kernel_rfl) (by kernel_rfl)
    (of_decide_eq_true (by kernel_rfl)) (by unfold Func.isWrapper; first | (rw [if_pos (by decide +kernel)]; kernel_rfl) | (rw [if_neg (by decide +kernel)]; exact ⟨rfl, rfl⟩))
    (fun os started H enc _ F => by rw [OpenClaim.pre_eq_preRow]; exact lifted os started H enc F)

theorem plain (f : FuncId) (fn : Func) (hf : Tryd.pinned.checked.prog.funcNamed Rows.edgeMoreUptoRow.func = some f) (hfn : Tryd.pinned.checked.prog.funcs[f]? = some fn) :
    false = Tryd.pinned.checked.prog.looks [] ∧ ∀ (j : Nat) t, fn.params[j]? = some t → Tryd.pinned.checked.prog.wantsStandIn t = false := by
  obtain rfl : f = 4 := Option.some.inj ((show Tryd.prog.funcNamed Rows.edgeMoreUptoRow.func = some 4 by kernel_rfl).symm.trans hf) |>.symm
  obtain rfl : fn = Tryd.f4 := (Option.some.inj ((show Tryd.prog.funcs[4]? = some Tryd.f4 by kernel_rfl).symm.trans hfn)).symm
  refine ⟨by kernel_rfl, fun j t ht => ?_⟩
  have hall : (Tryd.f4.params.toList.all fun t => !Tryd.prog.wantsStandIn t) = true := by kernel_rfl
  have := List.all_eq_true.1 hall t (by simpa using Array.mem_of_getElem? ht)
  exact (by simpa using this : Tryd.prog.wantsStandIn t = false)

/-- The card. -/
theorem uptocard : Rows.EdgeMoreUptoCardSaid :=
  Claim7.holds_tied_plain_at .later [] _ _ _ _ said (fun _ h => by cases h) (by kernel_rfl) (fun _ h => by cases h) edgeMoreUpto_row_tie rfl ⟨rfl, rfl⟩ (by kernel_rfl) rfl plain (by kernel_rfl)
end edgeMoreLaw
end Go.Proofs.YtgpgnlllieekbaaDoor

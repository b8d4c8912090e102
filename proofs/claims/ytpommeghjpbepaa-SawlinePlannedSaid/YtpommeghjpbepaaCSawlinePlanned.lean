/- PROVED HERE: SawlinePlanned: for every input that the row speaks of the law returns true, and its arguments read as before. Conditions: none beside the statement's own. -/
import Derived.Test.YtpommeghjpbepaaERead
import Derived.Test.YtpommeghjpbepaaEMa8
import Derived.Test.YtpommeghjpbepaaELlaw29SawlinePlanned
set_option linter.unusedVariables false
set_option linter.unusedSimpArgs false
namespace Go.Proofs.Ytpommeghjpbepaa
namespace sawlinePlannedLaw
open Go.RowKit Go.ChangeShapes Go.WideShapes Go.ChangeAt Go.SL Go.SL.Saw
set_option maxRecDepth 100000
theorem contract (H:Type) (enc:TypeId×Value->H) (W:World) (base:Nat) (args:Array Value) (ds gs:List (DataW H)) (before:List MemPlace)
  (hval:∀(j:Nat) t v,Try.f5.params[j]? =some t->args[j]? =some v->Value.okWide Try.prog W .any base t v)
  (hW:DataW.Whole enc Try.prog Try.f5.params.toList Rows.sawlinePlannedSpec.vars false W args.toList ds gs before) (hL:laidMetH Try.prog Rows.sawlinePlannedRow.laid W):
  Calls Try.prog 5 args W λe W'=>∃v,e= .returned v/\Rows.sawlinePlannedSpec.post enc Try.prog Try.f5 false true false false W args v W':=by
 have hW':=hW;obtain⟨p,q,hA0,hV,rfl,hfz,hnd⟩:=hW;have hA:DataW.TrodAll enc Try.prog W 0 (λ_=>true) true Try.f5.params.toList args.toList ds p:=hA0;have hp:Try.f5.params= #[37]:=by kernel_rfl
 rw[hp] at hA hval;obtain⟨v0,d0,rfl,rfl,h0⟩:=trodAll_one hA;obtain⟨r0,w0,D0,c0⟩:=open_37 (hval 0 37 v0 rfl rfl) h0;refine((CP r0 true (qCR r0 w0)).top W (λ_=>True) #[v0] qOG (qN9 c0)).mono λe W' ⟨v,he,hb,hr⟩=>?_;obtain rfl:=qOe hr;exact⟨_,he,qM9 laidOut (by kernel_rfl) (tb:=4) (by kernel_rfl) (by kernel_rfl) rfl rfl hW' hb⟩
def zargs :Array Value:= #[.agg #[.slice none 0 0,.slice none 0 0,.slice none 0 0,.int .i64 0,.int .i64 0,.int .i64 0,.int .i64 0,.slice none 0 0,.int .i64 0,.int .i64 0,.int .i64 0,.int .i64 0,.int .i64 0,.int .i64 0,.int .i64 0]]
theorem laid_met (os:Os):laidMet Try.prog Rows.sawlinePlannedRow.laid ((qDU os).forCall (λ_ _=>0) ⟨#[],zargs,[]⟩).memory:=
 laidMet_of_run' 8 (by kernel_rfl) (by kernel_rfl)
theorem reads (os:Os) {H:Type} (enc:TypeId×Value->H):∃ds places,DataW.whole enc Try.prog ((qDU os).forCall (λ_ _=>0) ⟨#[],zargs,[]⟩).memory Try.f5.params.toList Rows.sawlinePlannedSpec.vars false zargs.toList 8=some (ds,[],places):=
 ⟨[.agg [.nil,.nil,.nil,.agg [.agg [.agg [.lit (.int .i64 0),.lit (.int .i64 0)],.agg [.lit (.int .i64 0),.lit (.int .i64 0)]],.nil],.agg [.lit (.int .i64 0),.lit (.int .i64 0),.lit (.int .i64 0),.lit (.int .i64 0)],.agg [.lit (.int .i64 0),.lit (.int .i64 0),.lit (.int .i64 0)]]],[],by kernel_rfl⟩
theorem lifted (os:Os) (started:os.Started) (H:Type) (enc:TypeId×Value->H) (F:Stop.Interp):
  ReturnsInHanded {} Try.checked os 5 .any ((OpenSpec.ofChange Rows.sawlinePlannedSpec).preRow enc Try.prog Try.f5 Rows.sawlinePlannedRow.domain false Rows.sawlinePlannedRow.laid) (((OpenSpec.ofChange Rows.sawlinePlannedSpec).at F).post enc Try.prog Try.f5 false true false false):=by
 obtain⟨ds,places,hx⟩:=reads os enc;refine returnsInHanded_of_row (C:=Try.checked) (s:=OpenSpec.ofChange Rows.sawlinePlannedSpec) Go.SL.Saw.own started (by kernel_rfl) (by kernel_rfl)
  (witness_row_at (enc:=enc) (C:=Try.checked) false (qDU os) zargs rfl (by kernel_rfl) (by kernel_rfl) (by kernel_rfl)
   (OpenSpec.preRow_of_cond 8 hx (by kernel_rfl) (λk hk=>by cases hk) (by kernel_rfl) (laid_met os))) ?_
 intro W base args ds gs before hval hW _ _ _ hL _ _;exact contract H enc W base args ds gs before hval hW hL
theorem said :Rows.SawlinePlannedSaid:=
 OpenClaim.holds_of_cond 5 Try.f5 rfl rfl rfl rfl rfl rfl rfl ⟨rfl,rfl,rfl,rfl,rfl⟩ rfl rfl rfl rfl rfl (by kernel_rfl) (by kernel_rfl) (by kernel_rfl)
  (kX (by kernel_rfl)) (by unfold Func.isWrapper;first|(rw[if_pos (by decide+kernel)];kernel_rfl)|(rw[if_neg (by decide+kernel)];exact⟨rfl,rfl⟩))
  (λos started H enc _ F=>by rw[OpenClaim.pre_eq_preRow];exact lifted os started H enc F)
end sawlinePlannedLaw
end Go.Proofs.Ytpommeghjpbepaa

/- PROVED HERE: the tied card of ScanHalves: for every input that the row speaks of the law returns true, and its arguments read as before. Conditions: none beside the statement's own. -/
import Derived.Test.YthbamnkheinbgaaGreatDoorSRead
import Derived.Test.YthbamnkheinbgaaGreatDoorSMa13
import Derived.Test.YthbamnkheinbgaaGreatDoorSLlaw15ScanHalves
set_option linter.unusedVariables false
set_option linter.unusedSimpArgs false
namespace Go.Proofs.YthbamnkheinbgaaGreatDoor
namespace scanHalvesLaw
open Go.RowKit Go.ChangeShapes Go.WideShapes Go.ChangeAt Go.SL Go.SL.Saw
set_option maxRecDepth 100000
theorem contract (H:Type) (enc:TypeId×Value->H) (W:World) (base:Nat) (args:Array Value) (ds gs:List (DataW H)) (before:List MemPlace)
  (hval:∀(j:Nat) t v,Tryz.f11.params[j]? =some t->args[j]? =some v->Value.okWide Tryz.prog W .any base t v)
  (hW:DataW.Whole enc Tryz.prog Tryz.f11.params.toList Rows.scanHalvesSpec.vars false W args.toList ds gs before) (hL:laidMetH Tryz.prog Rows.scanHalvesRow.laid W):
  Calls Tryz.prog 11 args W λe W'=>∃v,e= .returned v/\Rows.scanHalvesSpec.post enc Tryz.prog Tryz.f11 false true false false W args v W':=by
 have hW':=hW;obtain⟨p,q,hA0,hV,rfl,hfz,hnd⟩:=hW;have hA:DataW.TrodAll enc Tryz.prog W 0 (λ_=>true) true Tryz.f11.params.toList args.toList ds p:=hA0;have hp:Tryz.f11.params= #[25]:=by kernel_rfl
 rw[hp] at hA hval;obtain⟨v0,d0,rfl,rfl,h0⟩:=trodAll_one hA;obtain⟨r0,w0,D0,c0⟩:=open_25 (hval 0 25 v0 rfl rfl) h0;refine((qEe r0 true (qHF r0 w0)).top W (λ_=>True) #[v0] (qQS hL) (CB c0)).mono λe W' ⟨v,he,hb,hr⟩=>?_;obtain rfl:=qRg hr;exact⟨_,he,qPS laidOut (by kernel_rfl) (tb:=4) (by kernel_rfl) (by kernel_rfl) rfl rfl hW' hb⟩
def zargs :Array Value:= #[.agg #[.slice none 0 0,.slice none 0 0]]
theorem laid_met (os:Os):laidMet Tryz.prog Rows.scanHalvesRow.laid ((qEx os).forCall (λ_ _=>0) ⟨#[],zargs,[]⟩).memory:=
 laidMet_of_run' 8 (by kernel_rfl) (by kernel_rfl)
theorem reads (os:Os) {H:Type} (enc:TypeId×Value->H):∃ds places,DataW.whole enc Tryz.prog ((qEx os).forCall (λ_ _=>0) ⟨#[],zargs,[]⟩).memory Tryz.f11.params.toList Rows.scanHalvesSpec.vars false zargs.toList 8=some (ds,[],places):=
 ⟨[.agg [.nil,.nil]],[],by kernel_rfl⟩
theorem lifted (os:Os) (started:os.Started) (H:Type) (enc:TypeId×Value->H) (F:Stop.Interp):
  ReturnsInHanded {} Tryz.checked os 11 .any ((OpenSpec.ofChange Rows.scanHalvesSpec).preRow enc Tryz.prog Tryz.f11 Rows.scanHalvesRow.domain false Rows.scanHalvesRow.laid) (((OpenSpec.ofChange Rows.scanHalvesSpec).at F).post enc Tryz.prog Tryz.f11 false true false false):=by
 obtain⟨ds,places,hx⟩:=reads os enc;refine returnsInHanded_of_row (C:=Tryz.checked) (s:=OpenSpec.ofChange Rows.scanHalvesSpec) Go.SL.Saw.own started (by kernel_rfl) (by kernel_rfl)
  (witness_row_at (enc:=enc) (C:=Tryz.checked) false (qEx os) zargs rfl (by kernel_rfl) (by kernel_rfl) (by kernel_rfl)
   (OpenSpec.preRow_of_cond 8 hx (by kernel_rfl) (λk hk=>by cases hk) (by kernel_rfl) (laid_met os))) ?_
 intro W base args ds gs before hval hW _ _ _ hL _ _;exact contract H enc W base args ds gs before hval hW hL
theorem said :Rows.ScanHalvesSaid:=
 OpenClaim.holds_of_cond 11 Tryz.f11 rfl rfl rfl rfl rfl rfl rfl ⟨rfl,rfl,rfl,rfl,rfl⟩ rfl rfl rfl rfl rfl (by kernel_rfl) (by kernel_rfl) (by kernel_rfl)
  (kW (by kernel_rfl)) (by unfold Func.isWrapper;first|(rw[if_pos (by decide+kernel)];kernel_rfl)|(rw[if_neg (by decide+kernel)];exact⟨rfl,rfl⟩))
  (λos started H enc _ F=>by rw[OpenClaim.pre_eq_preRow];exact lifted os started H enc F)
theorem plain (f:FuncId) (fn:Func) (hf:Tryz.pinned.checked.prog.funcNamed Rows.scanHalvesRow.func=some f) (hfn:Tryz.pinned.checked.prog.funcs[f]? =some fn):
  false=Tryz.pinned.checked.prog.looks []/\∀(j:Nat) t,fn.params[j]? =some t->Tryz.pinned.checked.prog.wantsStandIn t=false:=by
 obtain rfl:f=11:=kK ((show Tryz.prog.funcNamed Rows.scanHalvesRow.func=some 11 by kernel_rfl).symm.trans hf)|>.symm;obtain rfl:fn=Tryz.f11:=(kK ((show Tryz.prog.funcs[11]? =some Tryz.f11 by kernel_rfl).symm.trans hfn)).symm;refine⟨by kernel_rfl,λj t ht=>?_⟩;have hall:(Tryz.f11.params.toList.all λt=>!Tryz.prog.wantsStandIn t)=true:=by kernel_rfl
 have:=kw.1 hall t (by simpa using Array.mem_of_getElem? ht);exact(by simpa using this:Tryz.prog.wantsStandIn t=false)
/-- The card. -/
theorem card :Rows.ScanHalvesCardSaid:=
 Claim7.holds_tied_plain_at .later [] _ _ _ _ said (λ_ h=>by cases h) (by kernel_rfl) (λ_ h=>by cases h) scanHalves_row_tie rfl ⟨rfl,rfl⟩ (by kernel_rfl) rfl plain (by kernel_rfl)
end scanHalvesLaw
end Go.Proofs.YthbamnkheinbgaaGreatDoor

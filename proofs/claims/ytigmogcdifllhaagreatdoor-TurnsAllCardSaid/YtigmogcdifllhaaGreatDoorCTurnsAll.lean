/- PROVED HERE: the tied card of TurnsAll: for every input that the row speaks of the law returns true, and its arguments read as before. Conditions: none beside the statement's own. -/
import Derived.Test.YtigmogcdifllhaaGreatDoorERead
import Derived.Test.YtigmogcdifllhaaGreatDoorEMa14
import Derived.Test.YtigmogcdifllhaaGreatDoorELs
set_option linter.unusedVariables false
set_option linter.unusedSimpArgs false
namespace Go.Proofs.YtigmogcdifllhaaGreatDoor
namespace turnsAllLaw
open Go.RowKit Go.ChangeShapes Go.WideShapes Go.ChangeAt Go.SL Go.SL.Saw
set_option maxRecDepth 100000
theorem contract (H:Type) (enc:TypeId×Value->H) (W:World) (base:Nat) (args:Array Value) (ds gs:List (DataW H)) (before:List MemPlace)
  (hval:∀(j:Nat) t v,Tryz.f4.params[j]? =some t->args[j]? =some v->Value.okWide Tryz.prog W .any base t v)
  (hW:DataW.Whole enc Tryz.prog Tryz.f4.params.toList Rows.turnsAllSpec.vars false W args.toList ds gs before) (hL:laidMetH Tryz.prog Rows.turnsAllRow.laid W):
  Calls Tryz.prog 4 args W λe W'=>∃v,e= .returned v/\Rows.turnsAllSpec.post enc Tryz.prog Tryz.f4 false true false false W args v W':=by
 have hW':=hW;obtain⟨p,q,hA0,hV,rfl,hfz,hnd⟩:=hW;have hA:DataW.TrodAll enc Tryz.prog W 0 (λ_=>true) true Tryz.f4.params.toList args.toList ds p:=hA0;have hp:Tryz.f4.params= #[27,43]:=by kernel_rfl
 rw[hp] at hA hval;obtain⟨v0,v1,d0,d1,p0,p1,rfl,rfl,rfl,h0,h1⟩:=trodAll_two hA;obtain⟨r0,w0,D0,c0⟩:=open_27 (hval 0 27 v0 rfl rfl) h0;obtain⟨r1,w1,D1,c1⟩:=open_43 (hval 1 43 v1 rfl rfl) h1;refine((qKm.at (qP7 r0 r1 w0 w1)).top W (λ_=>True) #[v0,v1] (qXH hL) (qX5 c0 c1)).mono λe W' ⟨v,he,hb,hr⟩=>?_;obtain rfl:=qYE hr;exact⟨_,he,qW0 laidOut (by kernel_rfl) (tb:=4) (by kernel_rfl) (by kernel_rfl) rfl rfl hW' hb⟩
def zargs :Array Value:= #[.agg #[.slice none 0 0,.slice none 0 0,.int .i64 0,.int .i64 0],.agg #[.slice none 0 0,.int .i64 0,.int .i64 0,.int .i64 0,.int .i64 0,.int .i64 0,.int .i64 0,.int .i64 0]]
theorem laid_met (os:Os):laidMet Tryz.prog Rows.turnsAllRow.laid ((qJO os).forCall (λ_ _=>0) ⟨#[],zargs,[]⟩).memory:=
 laidMet_of_run' 8 (by kernel_rfl) (by kernel_rfl)
theorem reads (os:Os) {H:Type} (enc:TypeId×Value->H):∃ds places,DataW.whole enc Tryz.prog ((qJO os).forCall (λ_ _=>0) ⟨#[],zargs,[]⟩).memory Tryz.f4.params.toList Rows.turnsAllSpec.vars false zargs.toList 8=some (ds,[],places):=
 ⟨[.agg [.agg [.nil,.nil],.lit (.int .i64 0),.lit (.int .i64 0)],.agg [.nil,.agg [.lit (.int .i64 0),.lit (.int .i64 0),.lit (.int .i64 0),.lit (.int .i64 0)],.agg [.lit (.int .i64 0),.lit (.int .i64 0),.lit (.int .i64 0)]]],[],by kernel_rfl⟩
theorem lifted (os:Os) (started:os.Started) (H:Type) (enc:TypeId×Value->H) (F:Stop.Interp):
  ReturnsInHanded {} Tryz.checked os 4 .any ((OpenSpec.ofChange Rows.turnsAllSpec).preRow enc Tryz.prog Tryz.f4 Rows.turnsAllRow.domain false Rows.turnsAllRow.laid) (((OpenSpec.ofChange Rows.turnsAllSpec).at F).post enc Tryz.prog Tryz.f4 false true false false):=by
 obtain⟨ds,places,hx⟩:=reads os enc;refine returnsInHanded_of_row (C:=Tryz.checked) (s:=OpenSpec.ofChange Rows.turnsAllSpec) Go.SL.Saw.own started (by kernel_rfl) (by kernel_rfl)
  (witness_row_at (enc:=enc) (C:=Tryz.checked) false (qJO os) zargs rfl (by kernel_rfl) (by kernel_rfl) (by kernel_rfl)
   (OpenSpec.preRow_of_cond 8 hx (by kernel_rfl) (λk hk=>by cases hk) (by kernel_rfl) (laid_met os))) ?_
 intro W base args ds gs before hval hW _ _ _ hL _ _;exact contract H enc W base args ds gs before hval hW hL
theorem j1 :Tryz.pinned.checked.prog.inPlace 4=Rows.turnsAllRow.inPlace:=by kernel_rfl
theorem j2 :Tryz.pinned.checked.prog.unfollowed 4=Rows.turnsAllRow.unfollowed:=by kernel_rfl
theorem j3 :Tryz.pinned.checked.prog.recurses 4=Rows.turnsAllRow.recurses:=by kernel_rfl
theorem j4 :Tryz.pinned.checked.prog.varsNamed 4=Rows.turnsAllRow.named:=by kernel_rfl
theorem j5 :laidOutB Tryz.pinned.checked.prog=true:=by kernel_rfl
theorem said :Rows.TurnsAllSaid:=
 OpenClaim.holds_of_cond 4 Tryz.f4 rfl rfl rfl rfl rfl rfl rfl ⟨rfl,rfl,rfl,rfl,rfl⟩ rfl rfl rfl rfl rfl (by kernel_rfl) (by kernel_rfl) (by unfold joinedFacts;rw[j1,j2,j3,j4,j5];kernel_rfl)
  (uw (by kernel_rfl)) (by unfold Func.isWrapper;first|(rw[if_pos (by decide+kernel)];kernel_rfl)|(rw[if_neg (by decide+kernel)];exact⟨rfl,rfl⟩))
  (λos started H enc _ F=>by rw[OpenClaim.pre_eq_preRow];exact lifted os started H enc F)
theorem plain (f:FuncId) (fn:Func) (hf:Tryz.pinned.checked.prog.funcNamed Rows.turnsAllRow.func=some f) (hfn:Tryz.pinned.checked.prog.funcs[f]? =some fn):
  false=Tryz.pinned.checked.prog.looks []/\∀(j:Nat) t,fn.params[j]? =some t->Tryz.pinned.checked.prog.wantsStandIn t=false:=by
 obtain rfl:f=4:=kQ ((show Tryz.prog.funcNamed Rows.turnsAllRow.func=some 4 by kernel_rfl).symm.trans hf)|>.symm;obtain rfl:fn=Tryz.f4:=(kQ ((show Tryz.prog.funcs[4]? =some Tryz.f4 by kernel_rfl).symm.trans hfn)).symm;refine⟨by kernel_rfl,λj t ht=>?_⟩;have hall:(Tryz.f4.params.toList.all λt=>!Tryz.prog.wantsStandIn t)=true:=by kernel_rfl
 have:=kB.1 hall t (by simpa using dG ht);exact(by simpa using this:Tryz.prog.wantsStandIn t=false)
/-- The card. -/
theorem card :Rows.TurnsAllCardSaid:=
 Claim7.holds_tied_plain_at .later [] _ _ _ _ said (λ_ h=>by cases h) (by kernel_rfl) (λ_ h=>by cases h) turnsAll_row_tie rfl ⟨rfl,rfl⟩ (by kernel_rfl) rfl plain (by kernel_rfl)
end turnsAllLaw
end Go.Proofs.YtigmogcdifllhaaGreatDoor

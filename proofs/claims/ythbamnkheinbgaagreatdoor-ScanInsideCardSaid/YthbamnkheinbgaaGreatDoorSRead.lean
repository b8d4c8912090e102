/- The readings of the laws' parameters. -/
import Derived.Test.YthbamnkheinbgaaGreatDoorSBase
import Derived.Test.YthbamnkheinbgaaGreatDoorYa6
import Derived.Test.YthbamnkheinbgaaGreatDoorRows
import Derived.Lib.LaidTab
import Derived.Test.YthbamnkheinbgaaGreatDoorCards
import Derived.Test.YthbamnkheinbgaaGreatDoorTie
set_option linter.unusedVariables false
set_option linter.unusedSimpArgs false
namespace Go.SL
namespace Saw
open Go.Proofs Go.RowKit Go.ChangeShapes Go.WideShapes
set_option maxRecDepth 100000
theorem rd_3 :jT Tryz.prog 3 qK CL AE:=qNf (by kernel_rfl) (by kernel_rfl)
def qMi (r:qA):Prop:=CL r.X/\CL r.Y/\True
def qMu :(Int×(Int×Unit))->qA:=(λr:Int×(Int×Unit)=>qA.mk r.1 r.2.1)
def qMh :∀H:Type,DataW H->qA->Prop:=qAp qMu (CY (yM AE (yM AE BU)))
theorem und71 :Tryz.prog.underlying 71=some (.struct #[(Field.mk "X" 3 0 false "" "" 0),(Field.mk "Y" 3 1 false "" "" 8)]):=by kernel_rfl
theorem rd_71 :jT Tryz.prog 71 qB qMi qMh:=
 XY (WF (fs:= #[(Field.mk "X" 3 0 false "" "" 0),(Field.mk "Y" 3 1 false "" "" 8)]) und71 (QI (off:=0) rd_3 (QI (off:=1) rd_3 (OF 2) rfl (by kernel_rfl)) rfl (by kernel_rfl)) (by kernel_rfl)) qMu (fun _=>rfl) (fun _=>show 2=_ by kernel_rfl) (fun _ h=>h)
theorem rd_4 :jT Tryz.prog 4 qNo (λ_=>True) qKK:=qME (by kernel_rfl) (by kernel_rfl)
def qCU (r:qD):Prop:=qMi r.P/\(λ_=>True) r.Ok/\True
def qH9 :(qA×(Bool×Unit))->qD:=(λr:qA×(Bool×Unit)=>qD.mk r.1 r.2.1)
def qDe :∀H:Type,DataW H->qD->Prop:=qAp qH9 (CY (yM qMh (yM qKK BU)))
theorem und73 :Tryz.prog.underlying 73=some (.struct #[(Field.mk "P" 71 0 false "" "" 0),(Field.mk "Ok" 4 2 false "" "" 16)]):=by kernel_rfl
theorem rd_73 :jT Tryz.prog 73 qG qCU qDe:=
 XY (WF (fs:= #[(Field.mk "P" 71 0 false "" "" 0),(Field.mk "Ok" 4 2 false "" "" 16)]) und73 (QI (off:=0) rd_71 (QI (off:=2) rd_4 (OF 3) rfl (by kernel_rfl)) rfl (by kernel_rfl)) (by kernel_rfl)) qH9 (fun _=>rfl) (fun _=>show 3=_ by kernel_rfl) (fun _ h=>h)
theorem rd_43 :jT Tryz.prog 43 (λl:List qD=>[tl qG dd l]) (λl:List qD=>l.length<=maxLen/\∀x∈l,qCU x) (D_sl qDe):=
 qAM (e:=73) (by kernel_rfl) (by kernel_rfl) (show 0<_ from Nat.lt_of_lt_of_eq (show 0<3 by decide) (by kernel_rfl)) rd_73
def qKa (r:Ring):Prop:=CL r.Z/\(λl:List qD=>l.length<=maxLen/\∀x∈l,qCU x) r.Read/\True
def qNI :(Int×((List qD)×Unit))->Ring:=(λr:Int×((List qD)×Unit)=>Ring.mk r.1 r.2.1)
def qKM :∀H:Type,DataW H->Ring->Prop:=qAp qNI (CY (yM AE (yM (D_sl qDe) BU)))
theorem und45 :Tryz.prog.underlying 45=some (.struct #[(Field.mk "Z" 3 0 false "" "" 0),(Field.mk "Read" 43 1 false "" "" 8)]):=by kernel_rfl
theorem rd_45 :jT Tryz.prog 45 qN qKa qKM:=
 XY (WF (fs:= #[(Field.mk "Z" 3 0 false "" "" 0),(Field.mk "Read" 43 1 false "" "" 8)]) und45 (QI (off:=0) rd_3 (QI (off:=1) rd_43 (OF 2) rfl (by kernel_rfl)) rfl (by kernel_rfl)) (by kernel_rfl)) qNI (fun _=>rfl) (fun _=>show 2=_ by kernel_rfl) (fun _ h=>h)
theorem rd_22 :jT Tryz.prog 22 (λl:List Ring=>[tl qN dd l]) (λl:List Ring=>l.length<=maxLen/\∀x∈l,qKa x) (D_sl qKM):=
 qAM (e:=45) (by kernel_rfl) (by kernel_rfl) (show 0<_ from Nat.lt_of_lt_of_eq (show 0<2 by decide) (by kernel_rfl)) rd_45
def qG5 (r:Span):Prop:=CL r.A/\CL r.B/\True
def qNB :(Int×(Int×Unit))->Span:=(λr:Int×(Int×Unit)=>Span.mk r.1 r.2.1)
def qGp :∀H:Type,DataW H->Span->Prop:=qAp qNB (CY (yM AE (yM AE BU)))
theorem und64 :Tryz.prog.underlying 64=some (.struct #[(Field.mk "A" 3 0 false "" "" 0),(Field.mk "B" 3 1 false "" "" 8)]):=by kernel_rfl
theorem rd_64 :jT Tryz.prog 64 qI qG5 qGp:=
 XY (WF (fs:= #[(Field.mk "A" 3 0 false "" "" 0),(Field.mk "B" 3 1 false "" "" 8)]) und64 (QI (off:=0) rd_3 (QI (off:=1) rd_3 (OF 2) rfl (by kernel_rfl)) rfl (by kernel_rfl)) (by kernel_rfl)) qNB (fun _=>rfl) (fun _=>show 2=_ by kernel_rfl) (fun _ h=>h)
def wfBox (r:Box):Prop:=qG5 r.X/\qG5 r.Y/\qG5 r.Z/\True
def g_Box :(Span×(Span×(Span×Unit)))->Box:=(λr:Span×(Span×(Span×Unit))=>Box.mk r.1 r.2.1 r.2.2.1)
def D_Box :∀H:Type,DataW H->Box->Prop:=qAp g_Box (CY (yM qGp (yM qGp (yM qGp BU))))
theorem und66 :Tryz.prog.underlying 66=some (.struct #[(Field.mk "X" 64 0 false "" "" 0),(Field.mk "Y" 64 2 false "" "" 16),(Field.mk "Z" 64 4 false "" "" 32)]):=by kernel_rfl
theorem rd_66 :jT Tryz.prog 66 qGT wfBox D_Box:=
 XY (WF (fs:= #[(Field.mk "X" 64 0 false "" "" 0),(Field.mk "Y" 64 2 false "" "" 16),(Field.mk "Z" 64 4 false "" "" 32)]) und66 (QI (off:=0) rd_64 (QI (off:=2) rd_64 (QI (off:=4) rd_64 (OF 6) rfl (by kernel_rfl)) rfl (by kernel_rfl)) rfl (by kernel_rfl)) (by kernel_rfl)) g_Box (fun _=>rfl) (fun _=>show 6=_ by kernel_rfl) (fun _ h=>h)
def qFb (r:qL):Prop:=CL r.Kind/\wfBox r.Box/\True
def qK8 :(Int×(Box×Unit))->qL:=(λr:Int×(Box×Unit)=>qL.mk r.1 r.2.1)
def qFt :∀H:Type,DataW H->qL->Prop:=qAp qK8 (CY (yM AE (yM D_Box BU)))
theorem und68 :Tryz.prog.underlying 68=some (.struct #[(Field.mk "Kind" 3 0 false "" "" 0),(Field.mk "Box" 66 1 false "" "" 8)]):=by kernel_rfl
theorem rd_68 :jT Tryz.prog 68 qO qFb qFt:=
 XY (WF (fs:= #[(Field.mk "Kind" 3 0 false "" "" 0),(Field.mk "Box" 66 1 false "" "" 8)]) und68 (QI (off:=0) rd_3 (QI (off:=1) rd_66 (OF 7) rfl (by kernel_rfl)) rfl (by kernel_rfl)) (by kernel_rfl)) qK8 (fun _=>rfl) (fun _=>show 7=_ by kernel_rfl) (fun _ h=>h)
theorem rd_23 :jT Tryz.prog 23 (λl:List qL=>[tl qO dd l]) (λl:List qL=>l.length<=maxLen/\∀x∈l,qFb x) (D_sl qFt):=
 qAM (e:=68) (by kernel_rfl) (by kernel_rfl) (show 0<_ from Nat.lt_of_lt_of_eq (show 0<7 by decide) (by kernel_rfl)) rd_68
def qOm (r:Scan):Prop:=(λl:List Ring=>l.length<=maxLen/\∀x∈l,qKa x) r.Rings/\(λl:List qL=>l.length<=maxLen/\∀x∈l,qFb x) r.Defects/\True
def qNi :((List Ring)×((List qL)×Unit))->Scan:=(λr:(List Ring)×((List qL)×Unit)=>Scan.mk r.1 r.2.1)
def qNJ :∀H:Type,DataW H->Scan->Prop:=qAp qNi (CY (yM (D_sl qKM) (yM (D_sl qFt) BU)))
theorem und25 :Tryz.prog.underlying 25=some (.struct #[(Field.mk "Rings" 22 0 false "" "" 0),(Field.mk "Defects" 23 1 false "" "" 24)]):=by kernel_rfl
theorem rd_25 :jT Tryz.prog 25 qZ qOm qNJ:=
 XY (WF (fs:= #[(Field.mk "Rings" 22 0 false "" "" 0),(Field.mk "Defects" 23 1 false "" "" 24)]) und25 (QI (off:=0) rd_22 (QI (off:=1) rd_23 (OF 2) rfl (by kernel_rfl)) rfl (by kernel_rfl)) (by kernel_rfl)) qNi (fun _=>rfl) (fun _=>show 2=_ by kernel_rfl) (fun _ h=>h)
section
variable {H :Type} {enc:TypeId×Value->H} {w:World} {r:Reach} {b0:Nat} {v:Value} {d:DataW H} {ps:List MemPlace}
theorem open_25 (hval:Value.okWide Tryz.prog w r b0 25 v) (hd:DataW.Trod enc Tryz.prog w 0 (λ_=>true) true 25 v d ps):∃x,qOm x/\qNJ H d x/\qP w (Mem.of λ_=>True) (.agg (qZ x)) v:=by
 obtain⟨x,h1,h2,h3⟩:=qHO rd_25 und25 hval hd;exact⟨x,h1,h2,h3⟩
end
theorem und163 :Tryz.prog.underlying 163=some (.array 2 3):=by kernel_rfl
theorem qOq {W:World} (h:laidMetH Tryz.prog YthbamnkheinbgaaGreatDoor.Rows.scanChecksRow.laid W):zL globs W (λ_=>True):=by
 have h':laidMet Tryz.prog YthbamnkheinbgaaGreatDoor.Rows.scanChecksRow.laid W:=h;obtain⟨ps,hl,_⟩:=h';obtain⟨cs',e',fz',fuel',p',hh',hd',q',hl⟩:=qNm hl (g:=0) (t:=163) (by kernel_rfl) (by kernel_rfl);obtain⟨y,hy1,_,hy2,hy3⟩:=qOX und163 (by kernel_rfl) rd_3 hd';have hy:y=qBf:=by
  obtain⟨ds,he,_,_,hall⟩:=hy3;cases he
  match y,hy1 with
  |[a,b],_=>
   have h0:=hall 0 _ a rfl rfl;have h1:=hall 1 _ b rfl rfl;simp only[AE,DataW.lit.injEq,Lit.int.injEq,true_and] at h0 h1;subst h0;subst h1;rfl
 subst hy;intro g c hc;unfold globs at hc;rw[look_cons] at hc;split at hc
 ·rename_i hg;subst hg;cases hc;exact qOB (eT:=qK) (λ_=>rfl) hh' hy2
 ·cases hc
def setAll (cs:Array Value):Obj->Obj
 | .cells _ t frozen=> .cells cs t frozen
 |o=>o
noncomputable def qC3 (os:Os):World:=
 {World.holding Tryz.prog os ⟨#[], #[],[]⟩ with heap:=(World.holding Tryz.prog os ⟨#[], #[],[]⟩).heap.modify 0 (setAll #[.int .i64 (-1),.int .i64 1])}
theorem laidOut :laidOutB Tryz.prog=true:=by kernel_rfl
theorem own :ownKnob Tryz.prog.godebug=none:=by kernel_rfl
end Saw
end Go.SL

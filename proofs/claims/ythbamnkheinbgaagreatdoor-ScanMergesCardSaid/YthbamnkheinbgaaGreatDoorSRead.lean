/- The readings of the laws' parameters. -/
import Derived.Test.YthbamnkheinbgaaGreatDoorSBase
import Derived.Test.YthbamnkheinbgaaGreatDoorYa6
import Derived.Test.YthbamnkheinbgaaGreatDoorRows
import Derived.Lib.LaidTab
import Derived.Test.YthbamnkheinbgaaGreatDoorCards
import Derived.Test.YthbamnkheinbgaaGreatDoorTie
set_option linter.unusedVariables false
set_option linter.unusedSimpArgs false
namespace Go.SL
namespace Saw
open Go.Proofs Go.RowKit Go.ChangeShapes Go.WideShapes
set_option maxRecDepth 100000
theorem rd_3 :wX Tryz.prog 3 qN EA FJ:=qJF (by kernel_rfl) (by kernel_rfl)
def qIr (r:qB):Prop:=EA r.X/\EA r.Y/\True
def qIf :(Int×(Int×Unit))->qB:=(λr:Int×(Int×Unit)=>qB.mk r.1 r.2.1)
def qIj :∀H:Type,DataW H->qB->Prop:=SI qIf (SJ (jJ FJ (jJ FJ UJ)))
theorem und71 :Tryz.prog.underlying 71=some (.struct #[(Field.mk "X" 3 0 false "" "" 0),(Field.mk "Y" 3 1 false "" "" 8)]):=by kernel_rfl
theorem rd_71 :wX Tryz.prog 71 qE qIr qIj:=
 WY (QO (fs:= #[(Field.mk "X" 3 0 false "" "" 0),(Field.mk "Y" 3 1 false "" "" 8)]) und71 (jU (off:=0) rd_3 (jU (off:=1) rd_3 (LU 2) rfl (by kernel_rfl)) rfl (by kernel_rfl)) (by kernel_rfl)) qIf (fun _=>rfl) (fun _=>show 2=_ by kernel_rfl) (fun _ h=>h)
theorem rd_4 :wX Tryz.prog 4 qJi (λ_=>True) qG8:=qIz (by kernel_rfl) (by kernel_rfl)
def qAM (r:qC):Prop:=qIr r.P/\(λ_=>True) r.Ok/\True
def qEV :(qB×(Bool×Unit))->qC:=(λr:qB×(Bool×Unit)=>qC.mk r.1 r.2.1)
def qAo :∀H:Type,DataW H->qC->Prop:=SI qEV (SJ (jJ qIj (jJ qG8 UJ)))
theorem und73 :Tryz.prog.underlying 73=some (.struct #[(Field.mk "P" 71 0 false "" "" 0),(Field.mk "Ok" 4 2 false "" "" 16)]):=by kernel_rfl
theorem rd_73 :wX Tryz.prog 73 qF qAM qAo:=
 WY (QO (fs:= #[(Field.mk "P" 71 0 false "" "" 0),(Field.mk "Ok" 4 2 false "" "" 16)]) und73 (jU (off:=0) rd_71 (jU (off:=2) rd_4 (LU 3) rfl (by kernel_rfl)) rfl (by kernel_rfl)) (by kernel_rfl)) qEV (fun _=>rfl) (fun _=>show 3=_ by kernel_rfl) (fun _ h=>h)
theorem rd_43 :wX Tryz.prog 43 (λl:List qC=>[tl qF dd l]) (λl:List qC=>l.length<=maxLen/\∀x∈l,qAM x) (D_sl qAo):=
 AA (e:=73) (by kernel_rfl) (by kernel_rfl) (show 0<_ from Nat.lt_of_lt_of_eq (show 0<3 by decide) (by kernel_rfl)) rd_73
def qG9 (r:Ring):Prop:=EA r.Z/\(λl:List qC=>l.length<=maxLen/\∀x∈l,qAM x) r.Read/\True
def qI6 :(Int×((List qC)×Unit))->Ring:=(λr:Int×((List qC)×Unit)=>Ring.mk r.1 r.2.1)
def qGT :∀H:Type,DataW H->Ring->Prop:=SI qI6 (SJ (jJ FJ (jJ (D_sl qAo) UJ)))
theorem und45 :Tryz.prog.underlying 45=some (.struct #[(Field.mk "Z" 3 0 false "" "" 0),(Field.mk "Read" 43 1 false "" "" 8)]):=by kernel_rfl
theorem rd_45 :wX Tryz.prog 45 qH qG9 qGT:=
 WY (QO (fs:= #[(Field.mk "Z" 3 0 false "" "" 0),(Field.mk "Read" 43 1 false "" "" 8)]) und45 (jU (off:=0) rd_3 (jU (off:=1) rd_43 (LU 2) rfl (by kernel_rfl)) rfl (by kernel_rfl)) (by kernel_rfl)) qI6 (fun _=>rfl) (fun _=>show 2=_ by kernel_rfl) (fun _ h=>h)
theorem rd_22 :wX Tryz.prog 22 (λl:List Ring=>[tl qH dd l]) (λl:List Ring=>l.length<=maxLen/\∀x∈l,qG9 x) (D_sl qGT):=
 AA (e:=45) (by kernel_rfl) (by kernel_rfl) (show 0<_ from Nat.lt_of_lt_of_eq (show 0<2 by decide) (by kernel_rfl)) rd_45
def qDE (r:Span):Prop:=EA r.A/\EA r.B/\True
def qJU :(Int×(Int×Unit))->Span:=(λr:Int×(Int×Unit)=>Span.mk r.1 r.2.1)
def qDq :∀H:Type,DataW H->Span->Prop:=SI qJU (SJ (jJ FJ (jJ FJ UJ)))
theorem und64 :Tryz.prog.underlying 64=some (.struct #[(Field.mk "A" 3 0 false "" "" 0),(Field.mk "B" 3 1 false "" "" 8)]):=by kernel_rfl
theorem rd_64 :wX Tryz.prog 64 qL qDE qDq:=
 WY (QO (fs:= #[(Field.mk "A" 3 0 false "" "" 0),(Field.mk "B" 3 1 false "" "" 8)]) und64 (jU (off:=0) rd_3 (jU (off:=1) rd_3 (LU 2) rfl (by kernel_rfl)) rfl (by kernel_rfl)) (by kernel_rfl)) qJU (fun _=>rfl) (fun _=>show 2=_ by kernel_rfl) (fun _ h=>h)
def wfBox (r:Box):Prop:=qDE r.X/\qDE r.Y/\qDE r.Z/\True
def g_Box :(Span×(Span×(Span×Unit)))->Box:=(λr:Span×(Span×(Span×Unit))=>Box.mk r.1 r.2.1 r.2.2.1)
def D_Box :∀H:Type,DataW H->Box->Prop:=SI g_Box (SJ (jJ qDq (jJ qDq (jJ qDq UJ))))
theorem und66 :Tryz.prog.underlying 66=some (.struct #[(Field.mk "X" 64 0 false "" "" 0),(Field.mk "Y" 64 2 false "" "" 16),(Field.mk "Z" 64 4 false "" "" 32)]):=by kernel_rfl
theorem rd_66 :wX Tryz.prog 66 FO wfBox D_Box:=
 WY (QO (fs:= #[(Field.mk "X" 64 0 false "" "" 0),(Field.mk "Y" 64 2 false "" "" 16),(Field.mk "Z" 64 4 false "" "" 32)]) und66 (jU (off:=0) rd_64 (jU (off:=2) rd_64 (jU (off:=4) rd_64 (LU 6) rfl (by kernel_rfl)) rfl (by kernel_rfl)) rfl (by kernel_rfl)) (by kernel_rfl)) g_Box (fun _=>rfl) (fun _=>show 6=_ by kernel_rfl) (fun _ h=>h)
def qCE (r:qA):Prop:=EA r.Kind/\wfBox r.Box/\True
def qGB :(Int×(Box×Unit))->qA:=(λr:Int×(Box×Unit)=>qA.mk r.1 r.2.1)
def qCu :∀H:Type,DataW H->qA->Prop:=SI qGB (SJ (jJ FJ (jJ D_Box UJ)))
theorem und68 :Tryz.prog.underlying 68=some (.struct #[(Field.mk "Kind" 3 0 false "" "" 0),(Field.mk "Box" 66 1 false "" "" 8)]):=by kernel_rfl
theorem rd_68 :wX Tryz.prog 68 qD qCE qCu:=
 WY (QO (fs:= #[(Field.mk "Kind" 3 0 false "" "" 0),(Field.mk "Box" 66 1 false "" "" 8)]) und68 (jU (off:=0) rd_3 (jU (off:=1) rd_66 (LU 7) rfl (by kernel_rfl)) rfl (by kernel_rfl)) (by kernel_rfl)) qGB (fun _=>rfl) (fun _=>show 7=_ by kernel_rfl) (fun _ h=>h)
theorem rd_23 :wX Tryz.prog 23 (λl:List qA=>[tl qD dd l]) (λl:List qA=>l.length<=maxLen/\∀x∈l,qCE x) (D_sl qCu):=
 AA (e:=68) (by kernel_rfl) (by kernel_rfl) (show 0<_ from Nat.lt_of_lt_of_eq (show 0<7 by decide) (by kernel_rfl)) rd_68
def qJM (r:Scan):Prop:=(λl:List Ring=>l.length<=maxLen/\∀x∈l,qG9 x) r.Rings/\(λl:List qA=>l.length<=maxLen/\∀x∈l,qCE x) r.Defects/\True
def qJL :((List Ring)×((List qA)×Unit))->Scan:=(λr:(List Ring)×((List qA)×Unit)=>Scan.mk r.1 r.2.1)
def qJa :∀H:Type,DataW H->Scan->Prop:=SI qJL (SJ (jJ (D_sl qGT) (jJ (D_sl qCu) UJ)))
theorem und25 :Tryz.prog.underlying 25=some (.struct #[(Field.mk "Rings" 22 0 false "" "" 0),(Field.mk "Defects" 23 1 false "" "" 24)]):=by kernel_rfl
theorem rd_25 :wX Tryz.prog 25 qR qJM qJa:=
 WY (QO (fs:= #[(Field.mk "Rings" 22 0 false "" "" 0),(Field.mk "Defects" 23 1 false "" "" 24)]) und25 (jU (off:=0) rd_22 (jU (off:=1) rd_23 (LU 2) rfl (by kernel_rfl)) rfl (by kernel_rfl)) (by kernel_rfl)) qJL (fun _=>rfl) (fun _=>show 2=_ by kernel_rfl) (fun _ h=>h)
section
variable {H :Type} {enc:TypeId×Value->H} {w:World} {r:Reach} {b0:Nat} {v:Value} {d:DataW H} {ps:List MemPlace}
theorem qIt (hval:Value.okWide Tryz.prog w r b0 25 v) (hd:DataW.Trod enc Tryz.prog w 0 (λ_=>true) true 25 v d ps):∃x,qJM x/\qJa H d x/\qO w (Mem.of λ_=>True) (.agg (qR x)) v:=by
 obtain⟨x,h1,h2,h3⟩:=qEH rd_25 und25 hval hd;exact⟨x,h1,h2,h3⟩
end
theorem und163 :Tryz.prog.underlying 163=some (.array 2 3):=by kernel_rfl
theorem qJX {W:World} (h:laidMetH Tryz.prog YthbamnkheinbgaaGreatDoor.Rows.scanChecksRow.laid W):zB globs W (λ_=>True):=by
 have h':laidMet Tryz.prog YthbamnkheinbgaaGreatDoor.Rows.scanChecksRow.laid W:=h;obtain⟨ps,hl,_⟩:=h';obtain⟨cs',e',fz',fuel',p',hh',hd',q',hl⟩:=qJf hl (g:=0) (t:=163) (by kernel_rfl) (by kernel_rfl);obtain⟨y,hy1,_,hy2,hy3⟩:=qJ6 und163 (by kernel_rfl) rd_3 hd';have hy:y=zbQ:=by
  obtain⟨ds,he,_,_,hall⟩:=hy3;cases he
  match y,hy1 with
  |[a,b],_=>
   have h0:=hall 0 _ a rfl rfl;have h1:=hall 1 _ b rfl rfl;simp only[FJ,DataW.lit.injEq,Lit.int.injEq,true_and] at h0 h1;subst h0;subst h1;rfl
 subst hy;intro g c hc;unfold globs at hc;rw[look_cons] at hc;split at hc
 ·rename_i hg;subst hg;cases hc;exact qJ3 (eT:=qN) (λ_=>rfl) hh' hy2
 ·cases hc
def setAll (cs:Array Value):Obj->Obj
 | .cells _ t frozen=> .cells cs t frozen
 |o=>o
noncomputable def qA9 (os:Os):World:=
 {World.holding Tryz.prog os ⟨#[], #[],[]⟩ with heap:=(World.holding Tryz.prog os ⟨#[], #[],[]⟩).heap.modify 0 (setAll #[.int .i64 (-1),.int .i64 1])}
theorem laidOut :laidOutB Tryz.prog=true:=by kernel_rfl
theorem own :ownKnob Tryz.prog.godebug=none:=by kernel_rfl
end Saw
end Go.SL

/- The readings of the laws' parameters. -/
import Derived.Test.YthbamnkheinbgaaGreatDoorSBase
import Derived.Test.YthbamnkheinbgaaGreatDoorYa6
import Derived.Test.YthbamnkheinbgaaGreatDoorRows
import Derived.Lib.LaidTab
import Derived.Test.YthbamnkheinbgaaGreatDoorCards
import Derived.Test.YthbamnkheinbgaaGreatDoorTie
set_option linter.unusedVariables false
set_option linter.unusedSimpArgs false
namespace Go.SL
namespace Saw
open Go.Proofs Go.RowKit Go.ChangeShapes Go.WideShapes
set_option maxRecDepth 100000
theorem rd_3 :jH Tryz.prog 3 qO HU NM:=qIk (by kernel_rfl) (by kernel_rfl)
def qHa (r:qA):Prop:=HU r.X/\HU r.Y/\True
def qG2 :(Int×(Int×Unit))->qA:=(λr:Int×(Int×Unit)=>qA.mk r.1 r.2.1)
def qHn :∀H:Type,DataW H->qA->Prop:=HN qG2 (MK (jU NM (jU NM UV)))
theorem und71 :Tryz.prog.underlying 71=some (.struct #[(Field.mk "X" 3 0 false "" "" 0),(Field.mk "Y" 3 1 false "" "" 8)]):=by kernel_rfl
theorem rd_71 :jH Tryz.prog 71 qC qHa qHn:=
 JM (QP (fs:= #[(Field.mk "X" 3 0 false "" "" 0),(Field.mk "Y" 3 1 false "" "" 8)]) und71 (yF (off:=0) rd_3 (yF (off:=1) rd_3 (FK 2) rfl (by kernel_rfl)) rfl (by kernel_rfl)) (by kernel_rfl)) qG2 (fun _=>rfl) (fun _=>show 2=_ by kernel_rfl) (fun _ h=>h)
theorem rd_4 :jH Tryz.prog 4 qIp (λ_=>True) qGi:=qHL (by kernel_rfl) (by kernel_rfl)
def CN (r:qB):Prop:=qHa r.P/\(λ_=>True) r.Ok/\True
def qDW :(qA×(Bool×Unit))->qB:=(λr:qA×(Bool×Unit)=>qB.mk r.1 r.2.1)
def qAl :∀H:Type,DataW H->qB->Prop:=HN qDW (MK (jU qHn (jU qGi UV)))
theorem und73 :Tryz.prog.underlying 73=some (.struct #[(Field.mk "P" 71 0 false "" "" 0),(Field.mk "Ok" 4 2 false "" "" 16)]):=by kernel_rfl
theorem rd_73 :jH Tryz.prog 73 qF CN qAl:=
 JM (QP (fs:= #[(Field.mk "P" 71 0 false "" "" 0),(Field.mk "Ok" 4 2 false "" "" 16)]) und73 (yF (off:=0) rd_71 (yF (off:=2) rd_4 (FK 3) rfl (by kernel_rfl)) rfl (by kernel_rfl)) (by kernel_rfl)) qDW (fun _=>rfl) (fun _=>show 3=_ by kernel_rfl) (fun _ h=>h)
theorem rd_43 :jH Tryz.prog 43 (λl:List qB=>[tl qF dd l]) (λl:List qB=>l.length<=maxLen/\∀x∈l,CN x) (D_sl qAl):=
 ST (e:=73) (by kernel_rfl) (by kernel_rfl) (show 0<_ from Nat.lt_of_lt_of_eq (show 0<3 by decide) (by kernel_rfl)) rd_73
def qFC (r:Ring):Prop:=HU r.Z/\(λl:List qB=>l.length<=maxLen/\∀x∈l,CN x) r.Read/\True
def qIv :(Int×((List qB)×Unit))->Ring:=(λr:Int×((List qB)×Unit)=>Ring.mk r.1 r.2.1)
def qFd :∀H:Type,DataW H->Ring->Prop:=HN qIv (MK (jU NM (jU (D_sl qAl) UV)))
theorem und45 :Tryz.prog.underlying 45=some (.struct #[(Field.mk "Z" 3 0 false "" "" 0),(Field.mk "Read" 43 1 false "" "" 8)]):=by kernel_rfl
theorem rd_45 :jH Tryz.prog 45 qK qFC qFd:=
 JM (QP (fs:= #[(Field.mk "Z" 3 0 false "" "" 0),(Field.mk "Read" 43 1 false "" "" 8)]) und45 (yF (off:=0) rd_3 (yF (off:=1) rd_43 (FK 2) rfl (by kernel_rfl)) rfl (by kernel_rfl)) (by kernel_rfl)) qIv (fun _=>rfl) (fun _=>show 2=_ by kernel_rfl) (fun _ h=>h)
theorem rd_22 :jH Tryz.prog 22 (λl:List Ring=>[tl qK dd l]) (λl:List Ring=>l.length<=maxLen/\∀x∈l,qFC x) (D_sl qFd):=
 ST (e:=45) (by kernel_rfl) (by kernel_rfl) (show 0<_ from Nat.lt_of_lt_of_eq (show 0<2 by decide) (by kernel_rfl)) rd_45
def qCA (r:Span):Prop:=HU r.A/\HU r.B/\True
def qH1 :(Int×(Int×Unit))->Span:=(λr:Int×(Int×Unit)=>Span.mk r.1 r.2.1)
def qCy :∀H:Type,DataW H->Span->Prop:=HN qH1 (MK (jU NM (jU NM UV)))
theorem und64 :Tryz.prog.underlying 64=some (.struct #[(Field.mk "A" 3 0 false "" "" 0),(Field.mk "B" 3 1 false "" "" 8)]):=by kernel_rfl
theorem rd_64 :jH Tryz.prog 64 qL qCA qCy:=
 JM (QP (fs:= #[(Field.mk "A" 3 0 false "" "" 0),(Field.mk "B" 3 1 false "" "" 8)]) und64 (yF (off:=0) rd_3 (yF (off:=1) rd_3 (FK 2) rfl (by kernel_rfl)) rfl (by kernel_rfl)) (by kernel_rfl)) qH1 (fun _=>rfl) (fun _=>show 2=_ by kernel_rfl) (fun _ h=>h)
def wfBox (r:Box):Prop:=qCA r.X/\qCA r.Y/\qCA r.Z/\True
def g_Box :(Span×(Span×(Span×Unit)))->Box:=(λr:Span×(Span×(Span×Unit))=>Box.mk r.1 r.2.1 r.2.2.1)
def D_Box :∀H:Type,DataW H->Box->Prop:=HN g_Box (MK (jU qCy (jU qCy (jU qCy UV))))
theorem und66 :Tryz.prog.underlying 66=some (.struct #[(Field.mk "X" 64 0 false "" "" 0),(Field.mk "Y" 64 2 false "" "" 16),(Field.mk "Z" 64 4 false "" "" 32)]):=by kernel_rfl
theorem rd_66 :jH Tryz.prog 66 qCg wfBox D_Box:=
 JM (QP (fs:= #[(Field.mk "X" 64 0 false "" "" 0),(Field.mk "Y" 64 2 false "" "" 16),(Field.mk "Z" 64 4 false "" "" 32)]) und66 (yF (off:=0) rd_64 (yF (off:=2) rd_64 (yF (off:=4) rd_64 (FK 6) rfl (by kernel_rfl)) rfl (by kernel_rfl)) rfl (by kernel_rfl)) (by kernel_rfl)) g_Box (fun _=>rfl) (fun _=>show 6=_ by kernel_rfl) (fun _ h=>h)
def qBE (r:qD):Prop:=HU r.Kind/\wfBox r.Box/\True
def qE6 :(Int×(Box×Unit))->qD:=(λr:Int×(Box×Unit)=>qD.mk r.1 r.2.1)
def qBU :∀H:Type,DataW H->qD->Prop:=HN qE6 (MK (jU NM (jU D_Box UV)))
theorem und68 :Tryz.prog.underlying 68=some (.struct #[(Field.mk "Kind" 3 0 false "" "" 0),(Field.mk "Box" 66 1 false "" "" 8)]):=by kernel_rfl
theorem rd_68 :jH Tryz.prog 68 qG qBE qBU:=
 JM (QP (fs:= #[(Field.mk "Kind" 3 0 false "" "" 0),(Field.mk "Box" 66 1 false "" "" 8)]) und68 (yF (off:=0) rd_3 (yF (off:=1) rd_66 (FK 7) rfl (by kernel_rfl)) rfl (by kernel_rfl)) (by kernel_rfl)) qE6 (fun _=>rfl) (fun _=>show 7=_ by kernel_rfl) (fun _ h=>h)
theorem rd_23 :jH Tryz.prog 23 (λl:List qD=>[tl qG dd l]) (λl:List qD=>l.length<=maxLen/\∀x∈l,qBE x) (D_sl qBU):=
 ST (e:=68) (by kernel_rfl) (by kernel_rfl) (show 0<_ from Nat.lt_of_lt_of_eq (show 0<7 by decide) (by kernel_rfl)) rd_68
def qIH (r:Scan):Prop:=(λl:List Ring=>l.length<=maxLen/\∀x∈l,qFC x) r.Rings/\(λl:List qD=>l.length<=maxLen/\∀x∈l,qBE x) r.Defects/\True
def qH7 :((List Ring)×((List qD)×Unit))->Scan:=(λr:(List Ring)×((List qD)×Unit)=>Scan.mk r.1 r.2.1)
def qH4 :∀H:Type,DataW H->Scan->Prop:=HN qH7 (MK (jU (D_sl qFd) (jU (D_sl qBU) UV)))
theorem und25 :Tryz.prog.underlying 25=some (.struct #[(Field.mk "Rings" 22 0 false "" "" 0),(Field.mk "Defects" 23 1 false "" "" 24)]):=by kernel_rfl
theorem rd_25 :jH Tryz.prog 25 qU qIH qH4:=
 JM (QP (fs:= #[(Field.mk "Rings" 22 0 false "" "" 0),(Field.mk "Defects" 23 1 false "" "" 24)]) und25 (yF (off:=0) rd_22 (yF (off:=1) rd_23 (FK 2) rfl (by kernel_rfl)) rfl (by kernel_rfl)) (by kernel_rfl)) qH7 (fun _=>rfl) (fun _=>show 2=_ by kernel_rfl) (fun _ h=>h)
section
variable {H :Type} {enc:TypeId×Value->H} {w:World} {r:Reach} {b0:Nat} {v:Value} {d:DataW H} {ps:List MemPlace}
theorem qHd (hval:Value.okWide Tryz.prog w r b0 25 v) (hd:DataW.Trod enc Tryz.prog w 0 (λ_=>true) true 25 v d ps):∃x,qIH x/\qH4 H d x/\qP w (Mem.of λ_=>True) (.agg (qU x)) v:=by
 obtain⟨x,h1,h2,h3⟩:=qDD rd_25 und25 hval hd;exact⟨x,h1,h2,h3⟩
end
theorem und163 :Tryz.prog.underlying 163=some (.array 2 3):=by kernel_rfl
theorem qJe {W:World} (h:laidMetH Tryz.prog YthbamnkheinbgaaGreatDoor.Rows.scanChecksRow.laid W):zC globs W (λ_=>True):=by
 have h':laidMet Tryz.prog YthbamnkheinbgaaGreatDoor.Rows.scanChecksRow.laid W:=h;obtain⟨ps,hl,_⟩:=h';obtain⟨cs',e',fz',fuel',p',hh',hd',q',hl⟩:=qIN hl (g:=0) (t:=163) (by kernel_rfl) (by kernel_rfl);obtain⟨y,hy1,_,hy2,hy3⟩:=qIY und163 (by kernel_rfl) rd_3 hd';have hy:y=ED:=by
  obtain⟨ds,he,_,_,hall⟩:=hy3;cases he
  match y,hy1 with
  |[a,b],_=>
   have h0:=hall 0 _ a rfl rfl;have h1:=hall 1 _ b rfl rfl;simp only[NM,DataW.lit.injEq,Lit.int.injEq,true_and] at h0 h1;subst h0;subst h1;rfl
 subst hy;intro g c hc;unfold globs at hc;rw[look_cons] at hc;split at hc
 ·rename_i hg;subst hg;cases hc;exact qI3 (eT:=qO) (λ_=>rfl) hh' hy2
 ·cases hc
def setAll (cs:Array Value):Obj->Obj
 | .cells _ t frozen=> .cells cs t frozen
 |o=>o
noncomputable def CR (os:Os):World:=
 {World.holding Tryz.prog os ⟨#[], #[],[]⟩ with heap:=(World.holding Tryz.prog os ⟨#[], #[],[]⟩).heap.modify 0 (setAll #[.int .i64 (-1),.int .i64 1])}
theorem laidOut :laidOutB Tryz.prog=true:=by kernel_rfl
theorem own :ownKnob Tryz.prog.godebug=none:=by kernel_rfl
end Saw
end Go.SL

/- The readings of the laws' parameters. -/
import Derived.Test.YthbamnkheinbgaaGreatDoorSBase
import Derived.Test.YthbamnkheinbgaaGreatDoorYa6
import Derived.Test.YthbamnkheinbgaaGreatDoorRows
import Derived.Lib.LaidTab
import Derived.Test.YthbamnkheinbgaaGreatDoorCards
import Derived.Test.YthbamnkheinbgaaGreatDoorTie
set_option linter.unusedVariables false
set_option linter.unusedSimpArgs false
namespace Go.SL
namespace Saw
open Go.Proofs Go.RowKit Go.ChangeShapes Go.WideShapes
set_option maxRecDepth 100000
theorem rd_3 :jE Tryz.prog 3 qL LP BZ:=qIk (by kernel_rfl) (by kernel_rfl)
def qG9 (r:qA):Prop:=LP r.X/\LP r.Y/\True
def qHw :(Int×(Int×Unit))->qA:=(λr:Int×(Int×Unit)=>qA.mk r.1 r.2.1)
def qHe :∀H:Type,DataW H->qA->Prop:=MB qHw (MP (jV BZ (jV BZ US)))
theorem und71 :Tryz.prog.underlying 71=some (.struct #[(Field.mk "X" 3 0 false "" "" 0),(Field.mk "Y" 3 1 false "" "" 8)]):=by kernel_rfl
theorem rd_71 :jE Tryz.prog 71 qB qG9 qHe:=
 JJ (QY (fs:= #[(Field.mk "X" 3 0 false "" "" 0),(Field.mk "Y" 3 1 false "" "" 8)]) und71 (yD (off:=0) rd_3 (yD (off:=1) rd_3 (zaQ 2) rfl (by kernel_rfl)) rfl (by kernel_rfl)) (by kernel_rfl)) qHw (fun _=>rfl) (fun _=>show 2=_ by kernel_rfl) (fun _ h=>h)
theorem rd_4 :jE Tryz.prog 4 qIB (λ_=>True) qF0:=qHY (by kernel_rfl) (by kernel_rfl)
def qAk (r:qC):Prop:=qG9 r.P/\(λ_=>True) r.Ok/\True
def qD7 :(qA×(Bool×Unit))->qC:=(λr:qA×(Bool×Unit)=>qC.mk r.1 r.2.1)
def CE :∀H:Type,DataW H->qC->Prop:=MB qD7 (MP (jV qHe (jV qF0 US)))
theorem und73 :Tryz.prog.underlying 73=some (.struct #[(Field.mk "P" 71 0 false "" "" 0),(Field.mk "Ok" 4 2 false "" "" 16)]):=by kernel_rfl
theorem rd_73 :jE Tryz.prog 73 qF qAk CE:=
 JJ (QY (fs:= #[(Field.mk "P" 71 0 false "" "" 0),(Field.mk "Ok" 4 2 false "" "" 16)]) und73 (yD (off:=0) rd_71 (yD (off:=2) rd_4 (zaQ 3) rfl (by kernel_rfl)) rfl (by kernel_rfl)) (by kernel_rfl)) qD7 (fun _=>rfl) (fun _=>show 3=_ by kernel_rfl) (fun _ h=>h)
theorem rd_43 :jE Tryz.prog 43 (λl:List qC=>[tl qF dd l]) (λl:List qC=>l.length<=maxLen/\∀x∈l,qAk x) (D_sl CE):=
 HH (e:=73) (by kernel_rfl) (by kernel_rfl) (show 0<_ from Nat.lt_of_lt_of_eq (show 0<3 by decide) (by kernel_rfl)) rd_73
def qFy (r:Ring):Prop:=LP r.Z/\(λl:List qC=>l.length<=maxLen/\∀x∈l,qAk x) r.Read/\True
def qIO :(Int×((List qC)×Unit))->Ring:=(λr:Int×((List qC)×Unit)=>Ring.mk r.1 r.2.1)
def qFW :∀H:Type,DataW H->Ring->Prop:=MB qIO (MP (jV BZ (jV (D_sl CE) US)))
theorem und45 :Tryz.prog.underlying 45=some (.struct #[(Field.mk "Z" 3 0 false "" "" 0),(Field.mk "Read" 43 1 false "" "" 8)]):=by kernel_rfl
theorem rd_45 :jE Tryz.prog 45 qO qFy qFW:=
 JJ (QY (fs:= #[(Field.mk "Z" 3 0 false "" "" 0),(Field.mk "Read" 43 1 false "" "" 8)]) und45 (yD (off:=0) rd_3 (yD (off:=1) rd_43 (zaQ 2) rfl (by kernel_rfl)) rfl (by kernel_rfl)) (by kernel_rfl)) qIO (fun _=>rfl) (fun _=>show 2=_ by kernel_rfl) (fun _ h=>h)
theorem rd_22 :jE Tryz.prog 22 (λl:List Ring=>[tl qO dd l]) (λl:List Ring=>l.length<=maxLen/\∀x∈l,qFy x) (D_sl qFW):=
 HH (e:=45) (by kernel_rfl) (by kernel_rfl) (show 0<_ from Nat.lt_of_lt_of_eq (show 0<2 by decide) (by kernel_rfl)) rd_45
def qCK (r:Span):Prop:=LP r.A/\LP r.B/\True
def qIj :(Int×(Int×Unit))->Span:=(λr:Int×(Int×Unit)=>Span.mk r.1 r.2.1)
def qB8 :∀H:Type,DataW H->Span->Prop:=MB qIj (MP (jV BZ (jV BZ US)))
theorem und64 :Tryz.prog.underlying 64=some (.struct #[(Field.mk "A" 3 0 false "" "" 0),(Field.mk "B" 3 1 false "" "" 8)]):=by kernel_rfl
theorem rd_64 :jE Tryz.prog 64 qH qCK qB8:=
 JJ (QY (fs:= #[(Field.mk "A" 3 0 false "" "" 0),(Field.mk "B" 3 1 false "" "" 8)]) und64 (yD (off:=0) rd_3 (yD (off:=1) rd_3 (zaQ 2) rfl (by kernel_rfl)) rfl (by kernel_rfl)) (by kernel_rfl)) qIj (fun _=>rfl) (fun _=>show 2=_ by kernel_rfl) (fun _ h=>h)
def wfBox (r:Box):Prop:=qCK r.X/\qCK r.Y/\qCK r.Z/\True
def g_Box :(Span×(Span×(Span×Unit)))->Box:=(λr:Span×(Span×(Span×Unit))=>Box.mk r.1 r.2.1 r.2.2.1)
def D_Box :∀H:Type,DataW H->Box->Prop:=MB g_Box (MP (jV qB8 (jV qB8 (jV qB8 US))))
theorem und66 :Tryz.prog.underlying 66=some (.struct #[(Field.mk "X" 64 0 false "" "" 0),(Field.mk "Y" 64 2 false "" "" 16),(Field.mk "Z" 64 4 false "" "" 32)]):=by kernel_rfl
theorem rd_66 :jE Tryz.prog 66 qCP wfBox D_Box:=
 JJ (QY (fs:= #[(Field.mk "X" 64 0 false "" "" 0),(Field.mk "Y" 64 2 false "" "" 16),(Field.mk "Z" 64 4 false "" "" 32)]) und66 (yD (off:=0) rd_64 (yD (off:=2) rd_64 (yD (off:=4) rd_64 (zaQ 6) rfl (by kernel_rfl)) rfl (by kernel_rfl)) rfl (by kernel_rfl)) (by kernel_rfl)) g_Box (fun _=>rfl) (fun _=>show 6=_ by kernel_rfl) (fun _ h=>h)
def qBi (r:qI):Prop:=LP r.Kind/\wfBox r.Box/\True
def qGy :(Int×(Box×Unit))->qI:=(λr:Int×(Box×Unit)=>qI.mk r.1 r.2.1)
def qBb :∀H:Type,DataW H->qI->Prop:=MB qGy (MP (jV BZ (jV D_Box US)))
theorem und68 :Tryz.prog.underlying 68=some (.struct #[(Field.mk "Kind" 3 0 false "" "" 0),(Field.mk "Box" 66 1 false "" "" 8)]):=by kernel_rfl
theorem rd_68 :jE Tryz.prog 68 qM qBi qBb:=
 JJ (QY (fs:= #[(Field.mk "Kind" 3 0 false "" "" 0),(Field.mk "Box" 66 1 false "" "" 8)]) und68 (yD (off:=0) rd_3 (yD (off:=1) rd_66 (zaQ 7) rfl (by kernel_rfl)) rfl (by kernel_rfl)) (by kernel_rfl)) qGy (fun _=>rfl) (fun _=>show 7=_ by kernel_rfl) (fun _ h=>h)
theorem rd_23 :jE Tryz.prog 23 (λl:List qI=>[tl qM dd l]) (λl:List qI=>l.length<=maxLen/\∀x∈l,qBi x) (D_sl qBb):=
 HH (e:=68) (by kernel_rfl) (by kernel_rfl) (show 0<_ from Nat.lt_of_lt_of_eq (show 0<7 by decide) (by kernel_rfl)) rd_68
def qIw (r:Scan):Prop:=(λl:List Ring=>l.length<=maxLen/\∀x∈l,qFy x) r.Rings/\(λl:List qI=>l.length<=maxLen/\∀x∈l,qBi x) r.Defects/\True
def qIg :((List Ring)×((List qI)×Unit))->Scan:=(λr:(List Ring)×((List qI)×Unit)=>Scan.mk r.1 r.2.1)
def qI0 :∀H:Type,DataW H->Scan->Prop:=MB qIg (MP (jV (D_sl qFW) (jV (D_sl qBb) US)))
theorem und25 :Tryz.prog.underlying 25=some (.struct #[(Field.mk "Rings" 22 0 false "" "" 0),(Field.mk "Defects" 23 1 false "" "" 24)]):=by kernel_rfl
theorem rd_25 :jE Tryz.prog 25 zA qIw qI0:=
 JJ (QY (fs:= #[(Field.mk "Rings" 22 0 false "" "" 0),(Field.mk "Defects" 23 1 false "" "" 24)]) und25 (yD (off:=0) rd_22 (yD (off:=1) rd_23 (zaQ 2) rfl (by kernel_rfl)) rfl (by kernel_rfl)) (by kernel_rfl)) qIg (fun _=>rfl) (fun _=>show 2=_ by kernel_rfl) (fun _ h=>h)
section
variable {H :Type} {enc:TypeId×Value->H} {w:World} {r:Reach} {b0:Nat} {v:Value} {d:DataW H} {ps:List MemPlace}
theorem open_25 (hval:Value.okWide Tryz.prog w r b0 25 v) (hd:DataW.Trod enc Tryz.prog w 0 (λ_=>true) true 25 v d ps):∃x,qIw x/\qI0 H d x/\qP w (Mem.of λ_=>True) (.agg (zA x)) v:=by
 obtain⟨x,h1,h2,h3⟩:=qC9 rd_25 und25 hval hd;exact⟨x,h1,h2,h3⟩
theorem qDu {P:Program} {t:TypeId} (ht:P.underlying t=some .string) {H:Type} {enc:TypeId×Value->H} {w:World} {r:Reach} {b0:Nat} {v:Value} {d:DataW H} {ps:List MemPlace}
  (hval:Value.okWide P w r b0 t v) (hd:DataW.Trod enc P w 0 (λ_=>true) true t v d ps):∃n,strok n/\qFd H d n/\qP w (Mem.of λ_=>True) (.one (.val (.string n))) v:=by
 obtain⟨s,rfl⟩:=okWide_string ht hval;obtain⟨fuel,hf⟩:=hd;obtain⟨s',h,hx,hs⟩:=DataW.trod_string ht hf;simp[Value.cells] at h;subst h;simp only[Prod.mk.injEq] at hx;obtain⟨rfl,_⟩:=hx;exact⟨s,hs,rfl,v1_one (.val _ rfl)⟩
theorem und9 :Tryz.prog.underlying 9=some .string:=by kernel_rfl
theorem open_9 (hval:Value.okWide Tryz.prog w r b0 9 v) (hd:DataW.Trod enc Tryz.prog w 0 (λ_=>true) true 9 v d ps):∃n,strok n/\qFd H d n/\qP w (Mem.of λ_=>True) (.one (.val (.string n))) v:=by
 obtain⟨x,h1,h2,h3⟩:=qDu und9 hval hd;exact⟨x,h1,h2,h3⟩
end
theorem und163 :Tryz.prog.underlying 163=some (.array 2 3):=by kernel_rfl
theorem qI8 {W:World} (h:laidMetH Tryz.prog YthbamnkheinbgaaGreatDoor.Rows.scanChecksRow.laid W):zC globs W (λ_=>True):=by
 have h':laidMet Tryz.prog YthbamnkheinbgaaGreatDoor.Rows.scanChecksRow.laid W:=h;obtain⟨ps,hl,_⟩:=h';obtain⟨cs',e',fz',fuel',p',hh',hd',q',hl⟩:=qIV hl (g:=0) (t:=163) (by kernel_rfl) (by kernel_rfl);obtain⟨y,hy1,_,hy2,hy3⟩:=qJz und163 (by kernel_rfl) rd_3 hd';have hy:y=SP:=by
  obtain⟨ds,he,_,_,hall⟩:=hy3;cases he
  match y,hy1 with
  |[a,b],_=>
   have h0:=hall 0 _ a rfl rfl;have h1:=hall 1 _ b rfl rfl;simp only[BZ,DataW.lit.injEq,Lit.int.injEq,true_and] at h0 h1;subst h0;subst h1;rfl
 subst hy;intro g c hc;unfold globs at hc;rw[look_cons] at hc;split at hc
 ·rename_i hg;subst hg;cases hc;exact qJH (eT:=qL) (λ_=>rfl) hh' hy2
 ·cases hc
def setAll (cs:Array Value):Obj->Obj
 | .cells _ t frozen=> .cells cs t frozen
 |o=>o
noncomputable def CM (os:Os):World:=
 {World.holding Tryz.prog os ⟨#[], #[],[]⟩ with heap:=(World.holding Tryz.prog os ⟨#[], #[],[]⟩).heap.modify 0 (setAll #[.int .i64 (-1),.int .i64 1])}
theorem laidOut :laidOutB Tryz.prog=true:=by kernel_rfl
theorem own :ownKnob Tryz.prog.godebug=none:=by kernel_rfl
end Saw
end Go.SL

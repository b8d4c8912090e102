/- The readings of the laws' parameters. -/
import Derived.Test.YthbamnkheinbgaaGreatDoorSBase
import Derived.Test.YthbamnkheinbgaaGreatDoorYa6
import Derived.Test.YthbamnkheinbgaaGreatDoorRows
import Derived.Lib.LaidTab
import Derived.Test.YthbamnkheinbgaaGreatDoorCards
import Derived.Test.YthbamnkheinbgaaGreatDoorTie
set_option linter.unusedVariables false
set_option linter.unusedSimpArgs false
namespace Go.SL
namespace Saw
open Go.Proofs Go.RowKit Go.ChangeShapes Go.WideShapes
set_option maxRecDepth 100000
theorem rd_3 :jM Tryz.prog 3 qH EG LB:=qKu (by kernel_rfl) (by kernel_rfl)
def qJH (r:qA):Prop:=EG r.X/\EG r.Y/\True
def qJt :(Int×(Int×Unit))->qA:=(λr:Int×(Int×Unit)=>qA.mk r.1 r.2.1)
def qJK :∀H:Type,DataW H->qA->Prop:=SW qJt (SO (jW LB (jW LB GF)))
theorem und71 :Tryz.prog.underlying 71=some (.struct #[(Field.mk "X" 3 0 false "" "" 0),(Field.mk "Y" 3 1 false "" "" 8)]):=by kernel_rfl
theorem rd_71 :jM Tryz.prog 71 qC qJH qJK:=
 JY (QW (fs:= #[(Field.mk "X" 3 0 false "" "" 0),(Field.mk "Y" 3 1 false "" "" 8)]) und71 (yG (off:=0) rd_3 (yG (off:=1) rd_3 (HX 2) rfl (by kernel_rfl)) rfl (by kernel_rfl)) (by kernel_rfl)) qJt (fun _=>rfl) (fun _=>show 2=_ by kernel_rfl) (fun _ h=>h)
theorem rd_4 :jM Tryz.prog 4 qKB (λ_=>True) qHo:=qJU (by kernel_rfl) (by kernel_rfl)
def qBg (r:qB):Prop:=qJH r.P/\(λ_=>True) r.Ok/\True
def qFS :(qA×(Bool×Unit))->qB:=(λr:qA×(Bool×Unit)=>qB.mk r.1 r.2.1)
def qAy :∀H:Type,DataW H->qB->Prop:=SW qFS (SO (jW qJK (jW qHo GF)))
theorem und73 :Tryz.prog.underlying 73=some (.struct #[(Field.mk "P" 71 0 false "" "" 0),(Field.mk "Ok" 4 2 false "" "" 16)]):=by kernel_rfl
theorem rd_73 :jM Tryz.prog 73 qE qBg qAy:=
 JY (QW (fs:= #[(Field.mk "P" 71 0 false "" "" 0),(Field.mk "Ok" 4 2 false "" "" 16)]) und73 (yG (off:=0) rd_71 (yG (off:=2) rd_4 (HX 3) rfl (by kernel_rfl)) rfl (by kernel_rfl)) (by kernel_rfl)) qFS (fun _=>rfl) (fun _=>show 3=_ by kernel_rfl) (fun _ h=>h)
theorem rd_43 :jM Tryz.prog 43 (λl:List qB=>[tl qE dd l]) (λl:List qB=>l.length<=maxLen/\∀x∈l,qBg x) (D_sl qAy):=
 AT (e:=73) (by kernel_rfl) (by kernel_rfl) (show 0<_ from Nat.lt_of_lt_of_eq (show 0<3 by decide) (by kernel_rfl)) rd_73
def qH1 (r:Ring):Prop:=EG r.Z/\(λl:List qB=>l.length<=maxLen/\∀x∈l,qBg x) r.Read/\True
def qKj :(Int×((List qB)×Unit))->Ring:=(λr:Int×((List qB)×Unit)=>Ring.mk r.1 r.2.1)
def qIa :∀H:Type,DataW H->Ring->Prop:=SW qKj (SO (jW LB (jW (D_sl qAy) GF)))
theorem und45 :Tryz.prog.underlying 45=some (.struct #[(Field.mk "Z" 3 0 false "" "" 0),(Field.mk "Read" 43 1 false "" "" 8)]):=by kernel_rfl
theorem rd_45 :jM Tryz.prog 45 qM qH1 qIa:=
 JY (QW (fs:= #[(Field.mk "Z" 3 0 false "" "" 0),(Field.mk "Read" 43 1 false "" "" 8)]) und45 (yG (off:=0) rd_3 (yG (off:=1) rd_43 (HX 2) rfl (by kernel_rfl)) rfl (by kernel_rfl)) (by kernel_rfl)) qKj (fun _=>rfl) (fun _=>show 2=_ by kernel_rfl) (fun _ h=>h)
theorem rd_22 :jM Tryz.prog 22 (λl:List Ring=>[tl qM dd l]) (λl:List Ring=>l.length<=maxLen/\∀x∈l,qH1 x) (D_sl qIa):=
 AT (e:=45) (by kernel_rfl) (by kernel_rfl) (show 0<_ from Nat.lt_of_lt_of_eq (show 0<2 by decide) (by kernel_rfl)) rd_45
def qDx (r:Span):Prop:=EG r.A/\EG r.B/\True
def qK0 :(Int×(Int×Unit))->Span:=(λr:Int×(Int×Unit)=>Span.mk r.1 r.2.1)
def qEk :∀H:Type,DataW H->Span->Prop:=SW qK0 (SO (jW LB (jW LB GF)))
theorem und64 :Tryz.prog.underlying 64=some (.struct #[(Field.mk "A" 3 0 false "" "" 0),(Field.mk "B" 3 1 false "" "" 8)]):=by kernel_rfl
theorem rd_64 :jM Tryz.prog 64 qN qDx qEk:=
 JY (QW (fs:= #[(Field.mk "A" 3 0 false "" "" 0),(Field.mk "B" 3 1 false "" "" 8)]) und64 (yG (off:=0) rd_3 (yG (off:=1) rd_3 (HX 2) rfl (by kernel_rfl)) rfl (by kernel_rfl)) (by kernel_rfl)) qK0 (fun _=>rfl) (fun _=>show 2=_ by kernel_rfl) (fun _ h=>h)
def wfBox (r:Box):Prop:=qDx r.X/\qDx r.Y/\qDx r.Z/\True
def g_Box :(Span×(Span×(Span×Unit)))->Box:=(λr:Span×(Span×(Span×Unit))=>Box.mk r.1 r.2.1 r.2.2.1)
def D_Box :∀H:Type,DataW H->Box->Prop:=SW g_Box (SO (jW qEk (jW qEk (jW qEk GF))))
theorem und66 :Tryz.prog.underlying 66=some (.struct #[(Field.mk "X" 64 0 false "" "" 0),(Field.mk "Y" 64 2 false "" "" 16),(Field.mk "Z" 64 4 false "" "" 32)]):=by kernel_rfl
theorem rd_66 :jM Tryz.prog 66 BB wfBox D_Box:=
 JY (QW (fs:= #[(Field.mk "X" 64 0 false "" "" 0),(Field.mk "Y" 64 2 false "" "" 16),(Field.mk "Z" 64 4 false "" "" 32)]) und66 (yG (off:=0) rd_64 (yG (off:=2) rd_64 (yG (off:=4) rd_64 (HX 6) rfl (by kernel_rfl)) rfl (by kernel_rfl)) rfl (by kernel_rfl)) (by kernel_rfl)) g_Box (fun _=>rfl) (fun _=>show 6=_ by kernel_rfl) (fun _ h=>h)
def qCw (r:qG):Prop:=EG r.Kind/\wfBox r.Box/\True
def qIA :(Int×(Box×Unit))->qG:=(λr:Int×(Box×Unit)=>qG.mk r.1 r.2.1)
def qC8 :∀H:Type,DataW H->qG->Prop:=SW qIA (SO (jW LB (jW D_Box GF)))
theorem und68 :Tryz.prog.underlying 68=some (.struct #[(Field.mk "Kind" 3 0 false "" "" 0),(Field.mk "Box" 66 1 false "" "" 8)]):=by kernel_rfl
theorem rd_68 :jM Tryz.prog 68 qL qCw qC8:=
 JY (QW (fs:= #[(Field.mk "Kind" 3 0 false "" "" 0),(Field.mk "Box" 66 1 false "" "" 8)]) und68 (yG (off:=0) rd_3 (yG (off:=1) rd_66 (HX 7) rfl (by kernel_rfl)) rfl (by kernel_rfl)) (by kernel_rfl)) qIA (fun _=>rfl) (fun _=>show 7=_ by kernel_rfl) (fun _ h=>h)
theorem rd_23 :jM Tryz.prog 23 (λl:List qG=>[tl qL dd l]) (λl:List qG=>l.length<=maxLen/\∀x∈l,qCw x) (D_sl qC8):=
 AT (e:=68) (by kernel_rfl) (by kernel_rfl) (show 0<_ from Nat.lt_of_lt_of_eq (show 0<7 by decide) (by kernel_rfl)) rd_68
def qLe (r:Scan):Prop:=(λl:List Ring=>l.length<=maxLen/\∀x∈l,qH1 x) r.Rings/\(λl:List qG=>l.length<=maxLen/\∀x∈l,qCw x) r.Defects/\True
def qKt :((List Ring)×((List qG)×Unit))->Scan:=(λr:(List Ring)×((List qG)×Unit)=>Scan.mk r.1 r.2.1)
def qK4 :∀H:Type,DataW H->Scan->Prop:=SW qKt (SO (jW (D_sl qIa) (jW (D_sl qC8) GF)))
theorem und25 :Tryz.prog.underlying 25=some (.struct #[(Field.mk "Rings" 22 0 false "" "" 0),(Field.mk "Defects" 23 1 false "" "" 24)]):=by kernel_rfl
theorem rd_25 :jM Tryz.prog 25 qV qLe qK4:=
 JY (QW (fs:= #[(Field.mk "Rings" 22 0 false "" "" 0),(Field.mk "Defects" 23 1 false "" "" 24)]) und25 (yG (off:=0) rd_22 (yG (off:=1) rd_23 (HX 2) rfl (by kernel_rfl)) rfl (by kernel_rfl)) (by kernel_rfl)) qKt (fun _=>rfl) (fun _=>show 2=_ by kernel_rfl) (fun _ h=>h)
section
variable {H :Type} {enc:TypeId×Value->H} {w:World} {r:Reach} {b0:Nat} {v:Value} {d:DataW H} {ps:List MemPlace}
theorem open_25 (hval:Value.okWide Tryz.prog w r b0 25 v) (hd:DataW.Trod enc Tryz.prog w 0 (λ_=>true) true 25 v d ps):∃x,qLe x/\qK4 H d x/\qP w (Mem.of λ_=>True) (.agg (qV x)) v:=by
 obtain⟨x,h1,h2,h3⟩:=qEQ rd_25 und25 hval hd;exact⟨x,h1,h2,h3⟩
theorem qFg {P:Program} {t:TypeId} (ht:P.underlying t=some .string) {H:Type} {enc:TypeId×Value->H} {w:World} {r:Reach} {b0:Nat} {v:Value} {d:DataW H} {ps:List MemPlace}
  (hval:Value.okWide P w r b0 t v) (hd:DataW.Trod enc P w 0 (λ_=>true) true t v d ps):∃n,strok n/\qIF H d n/\qP w (Mem.of λ_=>True) (.one (.val (.string n))) v:=by
 obtain⟨s,rfl⟩:=okWide_string ht hval;obtain⟨fuel,hf⟩:=hd;obtain⟨s',h,hx,hs⟩:=DataW.trod_string ht hf;simp[Value.cells] at h;subst h;simp only[Prod.mk.injEq] at hx;obtain⟨rfl,_⟩:=hx;exact⟨s,hs,rfl,v1_one (.val _ rfl)⟩
theorem und9 :Tryz.prog.underlying 9=some .string:=by kernel_rfl
theorem open_9 (hval:Value.okWide Tryz.prog w r b0 9 v) (hd:DataW.Trod enc Tryz.prog w 0 (λ_=>true) true 9 v d ps):∃n,strok n/\qIF H d n/\qP w (Mem.of λ_=>True) (.one (.val (.string n))) v:=by
 obtain⟨x,h1,h2,h3⟩:=qFg und9 hval hd;exact⟨x,h1,h2,h3⟩
end
theorem und163 :Tryz.prog.underlying 163=some (.array 2 3):=by kernel_rfl
theorem qLm {W:World} (h:laidMetH Tryz.prog YthbamnkheinbgaaGreatDoor.Rows.scanChecksRow.laid W):zH globs W (λ_=>True):=by
 have h':laidMet Tryz.prog YthbamnkheinbgaaGreatDoor.Rows.scanChecksRow.laid W:=h;obtain⟨ps,hl,_⟩:=h';obtain⟨cs',e',fz',fuel',p',hh',hd',q',hl⟩:=qKm hl (g:=0) (t:=163) (by kernel_rfl) (by kernel_rfl);obtain⟨y,hy1,_,hy2,hy3⟩:=qLM und163 (by kernel_rfl) rd_3 hd';have hy:y=IK:=by
  obtain⟨ds,he,_,_,hall⟩:=hy3;cases he
  match y,hy1 with
  |[a,b],_=>
   have h0:=hall 0 _ a rfl rfl;have h1:=hall 1 _ b rfl rfl;simp only[LB,DataW.lit.injEq,Lit.int.injEq,true_and] at h0 h1;subst h0;subst h1;rfl
 subst hy;intro g c hc;unfold globs at hc;rw[look_cons] at hc;split at hc
 ·rename_i hg;subst hg;cases hc;exact qLl (eT:=qH) (λ_=>rfl) hh' hy2
 ·cases hc
def setAll (cs:Array Value):Obj->Obj
 | .cells _ t frozen=> .cells cs t frozen
 |o=>o
noncomputable def qBe (os:Os):World:=
 {World.holding Tryz.prog os ⟨#[], #[],[]⟩ with heap:=(World.holding Tryz.prog os ⟨#[], #[],[]⟩).heap.modify 0 (setAll #[.int .i64 (-1),.int .i64 1])}
theorem laidOut :laidOutB Tryz.prog=true:=by kernel_rfl
theorem own :ownKnob Tryz.prog.godebug=none:=by kernel_rfl
end Saw
end Go.SL

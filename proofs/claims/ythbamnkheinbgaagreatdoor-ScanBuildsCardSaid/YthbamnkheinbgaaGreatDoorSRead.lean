/- The readings of the laws' parameters. -/
import Derived.Test.YthbamnkheinbgaaGreatDoorSBase
import Derived.Test.YthbamnkheinbgaaGreatDoorYa6
import Derived.Test.YthbamnkheinbgaaGreatDoorRows
import Derived.Lib.LaidTab
import Derived.Test.YthbamnkheinbgaaGreatDoorCards
import Derived.Test.YthbamnkheinbgaaGreatDoorTie
set_option linter.unusedVariables false
set_option linter.unusedSimpArgs false
namespace Go.SL
namespace Saw
open Go.Proofs Go.RowKit Go.ChangeShapes Go.WideShapes
set_option maxRecDepth 100000
theorem rd_3 :yF Tryz.prog 3 qM SC IU:=qQI (by kernel_rfl) (by kernel_rfl)
def qOP (r:qA):Prop:=SC r.X/\SC r.Y/\True
def qOR :(Int×(Int×Unit))->qA:=(λr:Int×(Int×Unit)=>qA.mk r.1 r.2.1)
def qON :∀H:Type,DataW H->qA->Prop:=qAF qOR (qA2 (yT IU (yT IU FH)))
theorem und71 :Tryz.prog.underlying 71=some (.struct #[(Field.mk "X" 3 0 false "" "" 0),(Field.mk "Y" 3 1 false "" "" 8)]):=by kernel_rfl
theorem rd_71 :yF Tryz.prog 71 qB qOP qON:=
 KN (WI (fs:= #[(Field.mk "X" 3 0 false "" "" 0),(Field.mk "Y" 3 1 false "" "" 8)]) und71 (QQ (off:=0) rd_3 (QQ (off:=1) rd_3 (qAr 2) rfl (by kernel_rfl)) rfl (by kernel_rfl)) (by kernel_rfl)) qOR (fun _=>rfl) (fun _=>show 2=_ by kernel_rfl) (fun _ h=>h)
theorem rd_4 :yF Tryz.prog 4 qP2 (λ_=>True) qNL:=qPj (by kernel_rfl) (by kernel_rfl)
def qEJ (r:qE):Prop:=qOP r.P/\(λ_=>True) r.Ok/\True
def qKk :(qA×(Bool×Unit))->qE:=(λr:qA×(Bool×Unit)=>qE.mk r.1 r.2.1)
def qD7 :∀H:Type,DataW H->qE->Prop:=qAF qKk (qA2 (yT qON (yT qNL FH)))
theorem und73 :Tryz.prog.underlying 73=some (.struct #[(Field.mk "P" 71 0 false "" "" 0),(Field.mk "Ok" 4 2 false "" "" 16)]):=by kernel_rfl
theorem rd_73 :yF Tryz.prog 73 qG qEJ qD7:=
 KN (WI (fs:= #[(Field.mk "P" 71 0 false "" "" 0),(Field.mk "Ok" 4 2 false "" "" 16)]) und73 (QQ (off:=0) rd_71 (QQ (off:=2) rd_4 (qAr 3) rfl (by kernel_rfl)) rfl (by kernel_rfl)) (by kernel_rfl)) qKk (fun _=>rfl) (fun _=>show 3=_ by kernel_rfl) (fun _ h=>h)
theorem rd_43 :yF Tryz.prog 43 (λl:List qE=>[tl qG dd l]) (λl:List qE=>l.length<=maxLen/\∀x∈l,qEJ x) (D_sl qD7):=
 qBA (e:=73) (by kernel_rfl) (by kernel_rfl) (show 0<_ from Nat.lt_of_lt_of_eq (show 0<3 by decide) (by kernel_rfl)) rd_73
def qMB (r:Ring):Prop:=SC r.Z/\(λl:List qE=>l.length<=maxLen/\∀x∈l,qEJ x) r.Read/\True
def qP9 :(Int×((List qE)×Unit))->Ring:=(λr:Int×((List qE)×Unit)=>Ring.mk r.1 r.2.1)
def qNd :∀H:Type,DataW H->Ring->Prop:=qAF qP9 (qA2 (yT IU (yT (D_sl qD7) FH)))
theorem und45 :Tryz.prog.underlying 45=some (.struct #[(Field.mk "Z" 3 0 false "" "" 0),(Field.mk "Read" 43 1 false "" "" 8)]):=by kernel_rfl
theorem rd_45 :yF Tryz.prog 45 qN qMB qNd:=
 KN (WI (fs:= #[(Field.mk "Z" 3 0 false "" "" 0),(Field.mk "Read" 43 1 false "" "" 8)]) und45 (QQ (off:=0) rd_3 (QQ (off:=1) rd_43 (qAr 2) rfl (by kernel_rfl)) rfl (by kernel_rfl)) (by kernel_rfl)) qP9 (fun _=>rfl) (fun _=>show 2=_ by kernel_rfl) (fun _ h=>h)
theorem rd_22 :yF Tryz.prog 22 (λl:List Ring=>[tl qN dd l]) (λl:List Ring=>l.length<=maxLen/\∀x∈l,qMB x) (D_sl qNd):=
 qBA (e:=45) (by kernel_rfl) (by kernel_rfl) (show 0<_ from Nat.lt_of_lt_of_eq (show 0<2 by decide) (by kernel_rfl)) rd_45
def qIe (r:Span):Prop:=SC r.A/\SC r.B/\True
def qQi :(Int×(Int×Unit))->Span:=(λr:Int×(Int×Unit)=>Span.mk r.1 r.2.1)
def qIi :∀H:Type,DataW H->Span->Prop:=qAF qQi (qA2 (yT IU (yT IU FH)))
theorem und64 :Tryz.prog.underlying 64=some (.struct #[(Field.mk "A" 3 0 false "" "" 0),(Field.mk "B" 3 1 false "" "" 8)]):=by kernel_rfl
theorem rd_64 :yF Tryz.prog 64 qF qIe qIi:=
 KN (WI (fs:= #[(Field.mk "A" 3 0 false "" "" 0),(Field.mk "B" 3 1 false "" "" 8)]) und64 (QQ (off:=0) rd_3 (QQ (off:=1) rd_3 (qAr 2) rfl (by kernel_rfl)) rfl (by kernel_rfl)) (by kernel_rfl)) qQi (fun _=>rfl) (fun _=>show 2=_ by kernel_rfl) (fun _ h=>h)
def wfBox (r:Box):Prop:=qIe r.X/\qIe r.Y/\qIe r.Z/\True
def g_Box :(Span×(Span×(Span×Unit)))->Box:=(λr:Span×(Span×(Span×Unit))=>Box.mk r.1 r.2.1 r.2.2.1)
def D_Box :∀H:Type,DataW H->Box->Prop:=qAF g_Box (qA2 (yT qIi (yT qIi (yT qIi FH))))
theorem und66 :Tryz.prog.underlying 66=some (.struct #[(Field.mk "X" 64 0 false "" "" 0),(Field.mk "Y" 64 2 false "" "" 16),(Field.mk "Z" 64 4 false "" "" 32)]):=by kernel_rfl
theorem rd_66 :yF Tryz.prog 66 OA wfBox D_Box:=
 KN (WI (fs:= #[(Field.mk "X" 64 0 false "" "" 0),(Field.mk "Y" 64 2 false "" "" 16),(Field.mk "Z" 64 4 false "" "" 32)]) und66 (QQ (off:=0) rd_64 (QQ (off:=2) rd_64 (QQ (off:=4) rd_64 (qAr 6) rfl (by kernel_rfl)) rfl (by kernel_rfl)) rfl (by kernel_rfl)) (by kernel_rfl)) g_Box (fun _=>rfl) (fun _=>show 6=_ by kernel_rfl) (fun _ h=>h)
def qGt (r:qL):Prop:=SC r.Kind/\wfBox r.Box/\True
def qL0 :(Int×(Box×Unit))->qL:=(λr:Int×(Box×Unit)=>qL.mk r.1 r.2.1)
def qGB :∀H:Type,DataW H->qL->Prop:=qAF qL0 (qA2 (yT IU (yT D_Box FH)))
theorem und68 :Tryz.prog.underlying 68=some (.struct #[(Field.mk "Kind" 3 0 false "" "" 0),(Field.mk "Box" 66 1 false "" "" 8)]):=by kernel_rfl
theorem rd_68 :yF Tryz.prog 68 qR qGt qGB:=
 KN (WI (fs:= #[(Field.mk "Kind" 3 0 false "" "" 0),(Field.mk "Box" 66 1 false "" "" 8)]) und68 (QQ (off:=0) rd_3 (QQ (off:=1) rd_66 (qAr 7) rfl (by kernel_rfl)) rfl (by kernel_rfl)) (by kernel_rfl)) qL0 (fun _=>rfl) (fun _=>show 7=_ by kernel_rfl) (fun _ h=>h)
theorem rd_23 :yF Tryz.prog 23 (λl:List qL=>[tl qR dd l]) (λl:List qL=>l.length<=maxLen/\∀x∈l,qGt x) (D_sl qGB):=
 qBA (e:=68) (by kernel_rfl) (by kernel_rfl) (show 0<_ from Nat.lt_of_lt_of_eq (show 0<7 by decide) (by kernel_rfl)) rd_68
def qQQ (r:Scan):Prop:=(λl:List Ring=>l.length<=maxLen/\∀x∈l,qMB x) r.Rings/\(λl:List qL=>l.length<=maxLen/\∀x∈l,qGt x) r.Defects/\True
def qPR :((List Ring)×((List qL)×Unit))->Scan:=(λr:(List Ring)×((List qL)×Unit)=>Scan.mk r.1 r.2.1)
def qP1 :∀H:Type,DataW H->Scan->Prop:=qAF qPR (qA2 (yT (D_sl qNd) (yT (D_sl qGB) FH)))
theorem und25 :Tryz.prog.underlying 25=some (.struct #[(Field.mk "Rings" 22 0 false "" "" 0),(Field.mk "Defects" 23 1 false "" "" 24)]):=by kernel_rfl
theorem rd_25 :yF Tryz.prog 25 qZ qQQ qP1:=
 KN (WI (fs:= #[(Field.mk "Rings" 22 0 false "" "" 0),(Field.mk "Defects" 23 1 false "" "" 24)]) und25 (QQ (off:=0) rd_22 (QQ (off:=1) rd_23 (qAr 2) rfl (by kernel_rfl)) rfl (by kernel_rfl)) (by kernel_rfl)) qPR (fun _=>rfl) (fun _=>show 2=_ by kernel_rfl) (fun _ h=>h)
section
variable {H :Type} {enc:TypeId×Value->H} {w:World} {r:Reach} {b0:Nat} {v:Value} {d:DataW H} {ps:List MemPlace}
theorem open_25 (hval:Value.okWide Tryz.prog w r b0 25 v) (hd:DataW.Trod enc Tryz.prog w 0 (λ_=>true) true 25 v d ps):∃x,qQQ x/\qP1 H d x/\qS w (Mem.of λ_=>True) (.agg (qZ x)) v:=by
 obtain⟨x,h1,h2,h3⟩:=qJV rd_25 und25 hval hd;exact⟨x,h1,h2,h3⟩
theorem und3 :Tryz.prog.underlying 3=some (.int .i64):=by kernel_rfl
theorem qQz (hval:Value.okWide Tryz.prog w r b0 3 v) (hd:DataW.Trod enc Tryz.prog w 0 (λ_=>true) true 3 v d ps):∃n,SC n/\d= .lit (.int .i64 n)/\qS w (Mem.of λ_=>True) (.one (.val (.int .i64 n))) v:=by
 obtain⟨x,h1,h2,h3⟩:=qOj und3 hval hd;exact⟨x,h1,h2,h3⟩
end
theorem und163 :Tryz.prog.underlying 163=some (.array 2 3):=by kernel_rfl
theorem qQ3 {W:World} (h:laidMetH Tryz.prog YthbamnkheinbgaaGreatDoor.Rows.scanChecksRow.laid W):zP globs W (λ_=>True):=by
 have h':laidMet Tryz.prog YthbamnkheinbgaaGreatDoor.Rows.scanChecksRow.laid W:=h;obtain⟨ps,hl,_⟩:=h';obtain⟨cs',e',fz',fuel',p',hh',hd',q',hl⟩:=qP5 hl (g:=0) (t:=163) (by kernel_rfl) (by kernel_rfl);obtain⟨y,hy1,_,hy2,hy3⟩:=qRa und163 (by kernel_rfl) rd_3 hd';have hy:y=qCo:=by
  obtain⟨ds,he,_,_,hall⟩:=hy3;cases he
  match y,hy1 with
  |[a,b],_=>
   have h0:=hall 0 _ a rfl rfl;have h1:=hall 1 _ b rfl rfl;simp only[IU,DataW.lit.injEq,Lit.int.injEq,true_and] at h0 h1;subst h0;subst h1;rfl
 subst hy;intro g c hc;unfold globs at hc;rw[look_cons] at hc;split at hc
 ·rename_i hg;subst hg;cases hc;exact qQY (eT:=qM) (λ_=>rfl) hh' hy2
 ·cases hc
def setAll (cs:Array Value):Obj->Obj
 | .cells _ t frozen=> .cells cs t frozen
 |o=>o
noncomputable def qEl (os:Os):World:=
 {World.holding Tryz.prog os ⟨#[], #[],[]⟩ with heap:=(World.holding Tryz.prog os ⟨#[], #[],[]⟩).heap.modify 0 (setAll #[.int .i64 (-1),.int .i64 1])}
theorem laidOut :laidOutB Tryz.prog=true:=by kernel_rfl
theorem own :ownKnob Tryz.prog.godebug=none:=by kernel_rfl
end Saw
end Go.SL

/- The readings of the laws' parameters. -/
import Derived.Test.YthbamnkheinbgaaGreatDoorSBase
import Derived.Test.YthbamnkheinbgaaGreatDoorYa6
import Derived.Test.YthbamnkheinbgaaGreatDoorRows
import Derived.Lib.LaidTab
import Derived.Test.YthbamnkheinbgaaGreatDoorCards
import Derived.Test.YthbamnkheinbgaaGreatDoorTie
set_option linter.unusedVariables false
set_option linter.unusedSimpArgs false
namespace Go.SL
namespace Saw
open Go.Proofs Go.RowKit Go.ChangeShapes Go.WideShapes
set_option maxRecDepth 100000
theorem rd_3 :yI Tryz.prog 3 qO qBi OH:=qPO (by kernel_rfl) (by kernel_rfl)
def qOd (r:qA):Prop:=qBi r.X/\qBi r.Y/\True
def qOv :(Int×(Int×Unit))->qA:=(λr:Int×(Int×Unit)=>qA.mk r.1 r.2.1)
def qJq :∀H:Type,DataW H->qA->Prop:=qA3 qOv (qBc (QA OH (QA OH LF)))
theorem und71 :Tryz.prog.underlying 71=some (.struct #[(Field.mk "X" 3 0 false "" "" 0),(Field.mk "Y" 3 1 false "" "" 8)]):=by kernel_rfl
theorem rd_71 :yI Tryz.prog 71 qC qOd qJq:=
 PP (WY (fs:= #[(Field.mk "X" 3 0 false "" "" 0),(Field.mk "Y" 3 1 false "" "" 8)]) und71 (QY (off:=0) rd_3 (QY (off:=1) rd_3 (OV 2) rfl (by kernel_rfl)) rfl (by kernel_rfl)) (by kernel_rfl)) qOv (fun _=>rfl) (fun _=>show 2=_ by kernel_rfl) (fun _ h=>h)
theorem rd_4 :yI Tryz.prog 4 qPY (λ_=>True) qMq:=qO9 (by kernel_rfl) (by kernel_rfl)
def qE4 (r:qD):Prop:=qOd r.P/\(λ_=>True) r.Ok/\True
def qJZ :(qA×(Bool×Unit))->qD:=(λr:qA×(Bool×Unit)=>qD.mk r.1 r.2.1)
def qEj :∀H:Type,DataW H->qD->Prop:=qA3 qJZ (qBc (QA qJq (QA qMq LF)))
theorem und73 :Tryz.prog.underlying 73=some (.struct #[(Field.mk "P" 71 0 false "" "" 0),(Field.mk "Ok" 4 2 false "" "" 16)]):=by kernel_rfl
theorem rd_73 :yI Tryz.prog 73 qH qE4 qEj:=
 PP (WY (fs:= #[(Field.mk "P" 71 0 false "" "" 0),(Field.mk "Ok" 4 2 false "" "" 16)]) und73 (QY (off:=0) rd_71 (QY (off:=2) rd_4 (OV 3) rfl (by kernel_rfl)) rfl (by kernel_rfl)) (by kernel_rfl)) qJZ (fun _=>rfl) (fun _=>show 3=_ by kernel_rfl) (fun _ h=>h)
theorem rd_43 :yI Tryz.prog 43 (λl:List qD=>[tl qH dd l]) (λl:List qD=>l.length<=maxLen/\∀x∈l,qE4 x) (D_sl qEj):=
 qBG (e:=73) (by kernel_rfl) (by kernel_rfl) (show 0<_ from Nat.lt_of_lt_of_eq (show 0<3 by decide) (by kernel_rfl)) rd_73
def qLC (r:Ring):Prop:=qBi r.Z/\(λl:List qD=>l.length<=maxLen/\∀x∈l,qE4 x) r.Read/\True
def qPp :(Int×((List qD)×Unit))->Ring:=(λr:Int×((List qD)×Unit)=>Ring.mk r.1 r.2.1)
def qLJ :∀H:Type,DataW H->Ring->Prop:=qA3 qPp (qBc (QA OH (QA (D_sl qEj) LF)))
theorem und45 :Tryz.prog.underlying 45=some (.struct #[(Field.mk "Z" 3 0 false "" "" 0),(Field.mk "Read" 43 1 false "" "" 8)]):=by kernel_rfl
theorem rd_45 :yI Tryz.prog 45 qM qLC qLJ:=
 PP (WY (fs:= #[(Field.mk "Z" 3 0 false "" "" 0),(Field.mk "Read" 43 1 false "" "" 8)]) und45 (QY (off:=0) rd_3 (QY (off:=1) rd_43 (OV 2) rfl (by kernel_rfl)) rfl (by kernel_rfl)) (by kernel_rfl)) qPp (fun _=>rfl) (fun _=>show 2=_ by kernel_rfl) (fun _ h=>h)
theorem rd_22 :yI Tryz.prog 22 (λl:List Ring=>[tl qM dd l]) (λl:List Ring=>l.length<=maxLen/\∀x∈l,qLC x) (D_sl qLJ):=
 qBG (e:=45) (by kernel_rfl) (by kernel_rfl) (show 0<_ from Nat.lt_of_lt_of_eq (show 0<2 by decide) (by kernel_rfl)) rd_45
def qIn (r:Span):Prop:=qBi r.A/\qBi r.B/\True
def qPQ :(Int×(Int×Unit))->Span:=(λr:Int×(Int×Unit)=>Span.mk r.1 r.2.1)
def qHo :∀H:Type,DataW H->Span->Prop:=qA3 qPQ (qBc (QA OH (QA OH LF)))
theorem und64 :Tryz.prog.underlying 64=some (.struct #[(Field.mk "A" 3 0 false "" "" 0),(Field.mk "B" 3 1 false "" "" 8)]):=by kernel_rfl
theorem rd_64 :yI Tryz.prog 64 qG qIn qHo:=
 PP (WY (fs:= #[(Field.mk "A" 3 0 false "" "" 0),(Field.mk "B" 3 1 false "" "" 8)]) und64 (QY (off:=0) rd_3 (QY (off:=1) rd_3 (OV 2) rfl (by kernel_rfl)) rfl (by kernel_rfl)) (by kernel_rfl)) qPQ (fun _=>rfl) (fun _=>show 2=_ by kernel_rfl) (fun _ h=>h)
def wfBox (r:Box):Prop:=qIn r.X/\qIn r.Y/\qIn r.Z/\True
def g_Box :(Span×(Span×(Span×Unit)))->Box:=(λr:Span×(Span×(Span×Unit))=>Box.mk r.1 r.2.1 r.2.2.1)
def D_Box :∀H:Type,DataW H->Box->Prop:=qA3 g_Box (qBc (QA qHo (QA qHo (QA qHo LF))))
theorem und66 :Tryz.prog.underlying 66=some (.struct #[(Field.mk "X" 64 0 false "" "" 0),(Field.mk "Y" 64 2 false "" "" 16),(Field.mk "Z" 64 4 false "" "" 32)]):=by kernel_rfl
theorem rd_66 :yI Tryz.prog 66 qIj wfBox D_Box:=
 PP (WY (fs:= #[(Field.mk "X" 64 0 false "" "" 0),(Field.mk "Y" 64 2 false "" "" 16),(Field.mk "Z" 64 4 false "" "" 32)]) und66 (QY (off:=0) rd_64 (QY (off:=2) rd_64 (QY (off:=4) rd_64 (OV 6) rfl (by kernel_rfl)) rfl (by kernel_rfl)) rfl (by kernel_rfl)) (by kernel_rfl)) g_Box (fun _=>rfl) (fun _=>show 6=_ by kernel_rfl) (fun _ h=>h)
def qGX (r:qF):Prop:=qBi r.Kind/\wfBox r.Box/\True
def qMO :(Int×(Box×Unit))->qF:=(λr:Int×(Box×Unit)=>qF.mk r.1 r.2.1)
def qGS :∀H:Type,DataW H->qF->Prop:=qA3 qMO (qBc (QA OH (QA D_Box LF)))
theorem und68 :Tryz.prog.underlying 68=some (.struct #[(Field.mk "Kind" 3 0 false "" "" 0),(Field.mk "Box" 66 1 false "" "" 8)]):=by kernel_rfl
theorem rd_68 :yI Tryz.prog 68 qJ qGX qGS:=
 PP (WY (fs:= #[(Field.mk "Kind" 3 0 false "" "" 0),(Field.mk "Box" 66 1 false "" "" 8)]) und68 (QY (off:=0) rd_3 (QY (off:=1) rd_66 (OV 7) rfl (by kernel_rfl)) rfl (by kernel_rfl)) (by kernel_rfl)) qMO (fun _=>rfl) (fun _=>show 7=_ by kernel_rfl) (fun _ h=>h)
theorem rd_23 :yI Tryz.prog 23 (λl:List qF=>[tl qJ dd l]) (λl:List qF=>l.length<=maxLen/\∀x∈l,qGX x) (D_sl qGS):=
 qBG (e:=68) (by kernel_rfl) (by kernel_rfl) (show 0<_ from Nat.lt_of_lt_of_eq (show 0<7 by decide) (by kernel_rfl)) rd_68
def qQk (r:Scan):Prop:=(λl:List Ring=>l.length<=maxLen/\∀x∈l,qLC x) r.Rings/\(λl:List qF=>l.length<=maxLen/\∀x∈l,qGX x) r.Defects/\True
def qPC :((List Ring)×((List qF)×Unit))->Scan:=(λr:(List Ring)×((List qF)×Unit)=>Scan.mk r.1 r.2.1)
def qQn :∀H:Type,DataW H->Scan->Prop:=qA3 qPC (qBc (QA (D_sl qLJ) (QA (D_sl qGS) LF)))
theorem und25 :Tryz.prog.underlying 25=some (.struct #[(Field.mk "Rings" 22 0 false "" "" 0),(Field.mk "Defects" 23 1 false "" "" 24)]):=by kernel_rfl
theorem rd_25 :yI Tryz.prog 25 qX qQk qQn:=
 PP (WY (fs:= #[(Field.mk "Rings" 22 0 false "" "" 0),(Field.mk "Defects" 23 1 false "" "" 24)]) und25 (QY (off:=0) rd_22 (QY (off:=1) rd_23 (OV 2) rfl (by kernel_rfl)) rfl (by kernel_rfl)) (by kernel_rfl)) qPC (fun _=>rfl) (fun _=>show 2=_ by kernel_rfl) (fun _ h=>h)
section
variable {H :Type} {enc:TypeId×Value->H} {w:World} {r:Reach} {b0:Nat} {v:Value} {d:DataW H} {ps:List MemPlace}
theorem open_25 (hval:Value.okWide Tryz.prog w r b0 25 v) (hd:DataW.Trod enc Tryz.prog w 0 (λ_=>true) true 25 v d ps):∃x,qQk x/\qQn H d x/\qQ w (Mem.of λ_=>True) (.agg (qX x)) v:=by
 obtain⟨x,h1,h2,h3⟩:=qJB rd_25 und25 hval hd;exact⟨x,h1,h2,h3⟩
end
theorem ST {H:Type} {m n:Int} {a:qA} (h:qJq H (.agg [.lit (.int .i64 m),.lit (.int .i64 n)]) a):a=⟨m,n⟩:=by
 obtain⟨⟨x,y,u⟩,hg,ds,he,hd⟩:=h;cases he;obtain⟨d,ds,he,h1,hd⟩:=hd;cases he;obtain⟨d,ds,he,h2,hd⟩:=hd;cases he;cases h1;cases h2;exact hg.symm
theorem und163 :Tryz.prog.underlying 163=some (.array 2 3):=by kernel_rfl
theorem und186 :Tryz.prog.underlying 186=some (.array 4 71):=by kernel_rfl
theorem qQS {W:World} (h:laidMetH Tryz.prog YthbamnkheinbgaaGreatDoor.Rows.scanTurnsRow.laid W):zR globs W (λ_=>True):=by
 have h':laidMet Tryz.prog YthbamnkheinbgaaGreatDoor.Rows.scanTurnsRow.laid W:=h;obtain⟨ps,hl,_⟩:=h';obtain⟨cs,e,fz,fuel,p,hh,hd,q,hl⟩:=qJO hl (g:=1) (t:=186) (by kernel_rfl) (by kernel_rfl);obtain⟨cs',e',fz',fuel',p',hh',hd',q',hl⟩:=qJO hl (g:=0) (t:=163) (by kernel_rfl) (by kernel_rfl);obtain⟨x,hx1,_,hx2,hx3⟩:=qLy und186 (by kernel_rfl) rd_71 hd;obtain⟨y,hy1,_,hy2,hy3⟩:=qLy und163 (by kernel_rfl) rd_3 hd';have hx:x=qV:=by
  obtain⟨ds,he,_,_,hall⟩:=hx3;cases he
  match x,hx1 with
  |[a,b,c,d],_=>
   have h0:=hall 0 _ a rfl rfl;have h1:=hall 1 _ b rfl rfl;have h2:=hall 2 _ c rfl rfl;have h3:=hall 3 _ d rfl rfl;rw[ST h0,ST h1,ST h2,ST h3];rfl
 have hy:y=qCS:=by
  obtain⟨ds,he,_,_,hall⟩:=hy3;cases he
  match y,hy1 with
  |[a,b],_=>
   have h0:=hall 0 _ a rfl rfl;have h1:=hall 1 _ b rfl rfl;simp only[OH,DataW.lit.injEq,Lit.int.injEq,true_and] at h0 h1;subst h0;subst h1;rfl
 subst hx;subst hy;intro g c hc;unfold globs at hc;rw[look_cons] at hc;split at hc
 ·rename_i hg;subst hg;cases hc;exact qNh (eT:=qO) (λ_=>rfl) hh' hy2
 ·rw[look_cons] at hc;split at hc
  ·rename_i hg;subst hg;cases hc;exact qNh (eT:=qC) (λ_=>rfl) hh hx2
  ·cases hc
def qPR (cs:Array Value):Obj->Obj
 | .cells _ t frozen=> .cells cs t frozen
 |o=>o
noncomputable def qEx (os:Os):World:=
 {World.holding Tryz.prog os ⟨#[], #[],[]⟩ with heap:=((World.holding Tryz.prog os ⟨#[], #[],[]⟩).heap.modify 0 (qPR #[.int .i64 (-1),.int .i64 1])).modify 1 (qPR #[.int .i64 1,.int .i64 0,.int .i64 0,.int .i64 1,.int .i64 (-1),.int .i64 0,.int .i64 0,.int .i64 (-1)])}
theorem laidOut :laidOutB Tryz.prog=true:=by kernel_rfl
theorem own :ownKnob Tryz.prog.godebug=none:=by kernel_rfl
end Saw
end Go.SL

/- The readings of the laws' parameters. -/
import Derived.Test.YthbamnkheinbgaaGreatDoorSBase
import Derived.Test.YthbamnkheinbgaaGreatDoorYa6
import Derived.Test.YthbamnkheinbgaaGreatDoorRows
import Derived.Lib.LaidTab
import Derived.Test.YthbamnkheinbgaaGreatDoorCards
import Derived.Test.YthbamnkheinbgaaGreatDoorTie
set_option linter.unusedVariables false
set_option linter.unusedSimpArgs false
namespace Go.SL
namespace Saw
open Go.Proofs Go.RowKit Go.ChangeShapes Go.WideShapes
set_option maxRecDepth 100000
theorem rd_3 :wL Tryz.prog 3 qL zaQ DG:=qGr (by kernel_rfl) (by kernel_rfl)
def qFJ (r:qA):Prop:=zaQ r.X/\zaQ r.Y/\True
def qFA :(Int×(Int×Unit))->qA:=(λr:Int×(Int×Unit)=>qA.mk r.1 r.2.1)
def qFP :∀H:Type,DataW H->qA->Prop:=FC qFA (FJ (wU DG (wU DG RL)))
theorem und71 :Tryz.prog.underlying 71=some (.struct #[(Field.mk "X" 3 0 false "" "" 0),(Field.mk "Y" 3 1 false "" "" 8)]):=by kernel_rfl
theorem rd_71 :wL Tryz.prog 71 qB qFJ qFP:=
 ZS (yF (fs:= #[(Field.mk "X" 3 0 false "" "" 0),(Field.mk "Y" 3 1 false "" "" 8)]) und71 (jE (off:=0) rd_3 (jE (off:=1) rd_3 (NG 2) rfl (by kernel_rfl)) rfl (by kernel_rfl)) (by kernel_rfl)) qFA (fun _=>rfl) (fun _=>show 2=_ by kernel_rfl) (fun _ h=>h)
theorem rd_4 :wL Tryz.prog 4 qGw (λ_=>True) qDZ:=qGe (by kernel_rfl) (by kernel_rfl)
def AX (r:qD):Prop:=qFJ r.P/\(λ_=>True) r.Ok/\True
def qCN :(qA×(Bool×Unit))->qD:=(λr:qA×(Bool×Unit)=>qD.mk r.1 r.2.1)
def IG :∀H:Type,DataW H->qD->Prop:=FC qCN (FJ (wU qFP (wU qDZ RL)))
theorem und73 :Tryz.prog.underlying 73=some (.struct #[(Field.mk "P" 71 0 false "" "" 0),(Field.mk "Ok" 4 2 false "" "" 16)]):=by kernel_rfl
theorem rd_73 :wL Tryz.prog 73 qF AX IG:=
 ZS (yF (fs:= #[(Field.mk "P" 71 0 false "" "" 0),(Field.mk "Ok" 4 2 false "" "" 16)]) und73 (jE (off:=0) rd_71 (jE (off:=2) rd_4 (NG 3) rfl (by kernel_rfl)) rfl (by kernel_rfl)) (by kernel_rfl)) qCN (fun _=>rfl) (fun _=>show 3=_ by kernel_rfl) (fun _ h=>h)
theorem rd_43 :wL Tryz.prog 43 (λl:List qD=>[tl qF dd l]) (λl:List qD=>l.length<=maxLen/\∀x∈l,AX x) (D_sl IG):=
 LR (e:=73) (by kernel_rfl) (by kernel_rfl) (show 0<_ from Nat.lt_of_lt_of_eq (show 0<3 by decide) (by kernel_rfl)) rd_73
def qEm (r:Ring):Prop:=zaQ r.Z/\(λl:List qD=>l.length<=maxLen/\∀x∈l,AX x) r.Read/\True
def qG6 :(Int×((List qD)×Unit))->Ring:=(λr:Int×((List qD)×Unit)=>Ring.mk r.1 r.2.1)
def qDX :∀H:Type,DataW H->Ring->Prop:=FC qG6 (FJ (wU DG (wU (D_sl IG) RL)))
theorem und45 :Tryz.prog.underlying 45=some (.struct #[(Field.mk "Z" 3 0 false "" "" 0),(Field.mk "Read" 43 1 false "" "" 8)]):=by kernel_rfl
theorem rd_45 :wL Tryz.prog 45 qM qEm qDX:=
 ZS (yF (fs:= #[(Field.mk "Z" 3 0 false "" "" 0),(Field.mk "Read" 43 1 false "" "" 8)]) und45 (jE (off:=0) rd_3 (jE (off:=1) rd_43 (NG 2) rfl (by kernel_rfl)) rfl (by kernel_rfl)) (by kernel_rfl)) qG6 (fun _=>rfl) (fun _=>show 2=_ by kernel_rfl) (fun _ h=>h)
theorem rd_22 :wL Tryz.prog 22 (λl:List Ring=>[tl qM dd l]) (λl:List Ring=>l.length<=maxLen/\∀x∈l,qEm x) (D_sl qDX):=
 LR (e:=45) (by kernel_rfl) (by kernel_rfl) (show 0<_ from Nat.lt_of_lt_of_eq (show 0<2 by decide) (by kernel_rfl)) rd_45
def qA6 (r:Span):Prop:=zaQ r.A/\zaQ r.B/\True
def qGx :(Int×(Int×Unit))->Span:=(λr:Int×(Int×Unit)=>Span.mk r.1 r.2.1)
def qBG :∀H:Type,DataW H->Span->Prop:=FC qGx (FJ (wU DG (wU DG RL)))
theorem und64 :Tryz.prog.underlying 64=some (.struct #[(Field.mk "A" 3 0 false "" "" 0),(Field.mk "B" 3 1 false "" "" 8)]):=by kernel_rfl
theorem rd_64 :wL Tryz.prog 64 qH qA6 qBG:=
 ZS (yF (fs:= #[(Field.mk "A" 3 0 false "" "" 0),(Field.mk "B" 3 1 false "" "" 8)]) und64 (jE (off:=0) rd_3 (jE (off:=1) rd_3 (NG 2) rfl (by kernel_rfl)) rfl (by kernel_rfl)) (by kernel_rfl)) qGx (fun _=>rfl) (fun _=>show 2=_ by kernel_rfl) (fun _ h=>h)
def wfBox (r:Box):Prop:=qA6 r.X/\qA6 r.Y/\qA6 r.Z/\True
def g_Box :(Span×(Span×(Span×Unit)))->Box:=(λr:Span×(Span×(Span×Unit))=>Box.mk r.1 r.2.1 r.2.2.1)
def D_Box :∀H:Type,DataW H->Box->Prop:=FC g_Box (FJ (wU qBG (wU qBG (wU qBG RL))))
theorem und66 :Tryz.prog.underlying 66=some (.struct #[(Field.mk "X" 64 0 false "" "" 0),(Field.mk "Y" 64 2 false "" "" 16),(Field.mk "Z" 64 4 false "" "" 32)]):=by kernel_rfl
theorem rd_66 :wL Tryz.prog 66 DN wfBox D_Box:=
 ZS (yF (fs:= #[(Field.mk "X" 64 0 false "" "" 0),(Field.mk "Y" 64 2 false "" "" 16),(Field.mk "Z" 64 4 false "" "" 32)]) und66 (jE (off:=0) rd_64 (jE (off:=2) rd_64 (jE (off:=4) rd_64 (NG 6) rfl (by kernel_rfl)) rfl (by kernel_rfl)) rfl (by kernel_rfl)) (by kernel_rfl)) g_Box (fun _=>rfl) (fun _=>show 6=_ by kernel_rfl) (fun _ h=>h)
def qAl (r:qK):Prop:=zaQ r.Kind/\wfBox r.Box/\True
def qDV :(Int×(Box×Unit))->qK:=(λr:Int×(Box×Unit)=>qK.mk r.1 r.2.1)
def CR :∀H:Type,DataW H->qK->Prop:=FC qDV (FJ (wU DG (wU D_Box RL)))
theorem und68 :Tryz.prog.underlying 68=some (.struct #[(Field.mk "Kind" 3 0 false "" "" 0),(Field.mk "Box" 66 1 false "" "" 8)]):=by kernel_rfl
theorem rd_68 :wL Tryz.prog 68 qN qAl CR:=
 ZS (yF (fs:= #[(Field.mk "Kind" 3 0 false "" "" 0),(Field.mk "Box" 66 1 false "" "" 8)]) und68 (jE (off:=0) rd_3 (jE (off:=1) rd_66 (NG 7) rfl (by kernel_rfl)) rfl (by kernel_rfl)) (by kernel_rfl)) qDV (fun _=>rfl) (fun _=>show 7=_ by kernel_rfl) (fun _ h=>h)
theorem rd_23 :wL Tryz.prog 23 (λl:List qK=>[tl qN dd l]) (λl:List qK=>l.length<=maxLen/\∀x∈l,qAl x) (D_sl CR):=
 LR (e:=68) (by kernel_rfl) (by kernel_rfl) (show 0<_ from Nat.lt_of_lt_of_eq (show 0<7 by decide) (by kernel_rfl)) rd_68
def qGV (r:Scan):Prop:=(λl:List Ring=>l.length<=maxLen/\∀x∈l,qEm x) r.Rings/\(λl:List qK=>l.length<=maxLen/\∀x∈l,qAl x) r.Defects/\True
def qG4 :((List Ring)×((List qK)×Unit))->Scan:=(λr:(List Ring)×((List qK)×Unit)=>Scan.mk r.1 r.2.1)
def qGX :∀H:Type,DataW H->Scan->Prop:=FC qG4 (FJ (wU (D_sl qDX) (wU (D_sl CR) RL)))
theorem und25 :Tryz.prog.underlying 25=some (.struct #[(Field.mk "Rings" 22 0 false "" "" 0),(Field.mk "Defects" 23 1 false "" "" 24)]):=by kernel_rfl
theorem rd_25 :wL Tryz.prog 25 qT qGV qGX:=
 ZS (yF (fs:= #[(Field.mk "Rings" 22 0 false "" "" 0),(Field.mk "Defects" 23 1 false "" "" 24)]) und25 (jE (off:=0) rd_22 (jE (off:=1) rd_23 (NG 2) rfl (by kernel_rfl)) rfl (by kernel_rfl)) (by kernel_rfl)) qG4 (fun _=>rfl) (fun _=>show 2=_ by kernel_rfl) (fun _ h=>h)
section
variable {H :Type} {enc:TypeId×Value->H} {w:World} {r:Reach} {b0:Nat} {v:Value} {d:DataW H} {ps:List MemPlace}
theorem open_25 (hval:Value.okWide Tryz.prog w r b0 25 v) (hd:DataW.Trod enc Tryz.prog w 0 (λ_=>true) true 25 v d ps):∃x,qGV x/\qGX H d x/\qO w (Mem.of λ_=>True) (.agg (qT x)) v:=by
 obtain⟨x,h1,h2,h3⟩:=qBQ rd_25 und25 hval hd;exact⟨x,h1,h2,h3⟩
end
theorem und163 :Tryz.prog.underlying 163=some (.array 2 3):=by kernel_rfl
theorem qHM {W:World} (h:laidMetH Tryz.prog YthbamnkheinbgaaGreatDoor.Rows.scanChecksRow.laid W):zB globs W (λ_=>True):=by
 have h':laidMet Tryz.prog YthbamnkheinbgaaGreatDoor.Rows.scanChecksRow.laid W:=h;obtain⟨ps,hl,_⟩:=h';obtain⟨cs',e',fz',fuel',p',hh',hd',q',hl⟩:=qG0 hl (g:=0) (t:=163) (by kernel_rfl) (by kernel_rfl);obtain⟨y,hy1,_,hy2,hy3⟩:=qHC und163 (by kernel_rfl) rd_3 hd';have hy:y=ME:=by
  obtain⟨ds,he,_,_,hall⟩:=hy3;cases he
  match y,hy1 with
  |[a,b],_=>
   have h0:=hall 0 _ a rfl rfl;have h1:=hall 1 _ b rfl rfl;simp only[DG,DataW.lit.injEq,Lit.int.injEq,true_and] at h0 h1;subst h0;subst h1;rfl
 subst hy;intro g c hc;unfold globs at hc;rw[look_cons] at hc;split at hc
 ·rename_i hg;subst hg;cases hc;exact qHr (eT:=qL) (λ_=>rfl) hh' hy2
 ·cases hc
def setAll (cs:Array Value):Obj->Obj
 | .cells _ t frozen=> .cells cs t frozen
 |o=>o
noncomputable def AQ (os:Os):World:=
 {World.holding Tryz.prog os ⟨#[], #[],[]⟩ with heap:=(World.holding Tryz.prog os ⟨#[], #[],[]⟩).heap.modify 0 (setAll #[.int .i64 (-1),.int .i64 1])}
theorem laidOut :laidOutB Tryz.prog=true:=by kernel_rfl
theorem own :ownKnob Tryz.prog.godebug=none:=by kernel_rfl
end Saw
end Go.SL

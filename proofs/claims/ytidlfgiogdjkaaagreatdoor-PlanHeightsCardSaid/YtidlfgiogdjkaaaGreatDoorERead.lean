/- The readings of the laws' parameters. -/
import Derived.Test.YtidlfgiogdjkaaaGreatDoorEBase
import Derived.Test.YtidlfgiogdjkaaaGreatDoorYa6
import Derived.Test.YtidlfgiogdjkaaaGreatDoorRows
import Derived.Lib.LaidTab
import Derived.Test.YtidlfgiogdjkaaaGreatDoorCards
import Derived.Test.YtidlfgiogdjkaaaGreatDoorTie
set_option linter.unusedVariables false
set_option linter.unusedSimpArgs false
namespace Go.SL
namespace Saw
open Go.Proofs Go.RowKit Go.ChangeShapes Go.WideShapes
set_option maxRecDepth 100000
theorem rd_9 :ZJ Tryz.prog 9 e_str strok qHW:=qMA (by kernel_rfl) (by kernel_rfl)
theorem rd_3 :ZJ Tryz.prog 3 e_i64 TF PM:=qRA (by kernel_rfl) (by kernel_rfl)
theorem rd_28 :ZJ Tryz.prog 28 (λl:List Int=>[tl e_i64 default l]) (λl:List Int=>l.length<=maxLen/\∀x∈l,TF x) (D_sl PM):=
 IQ (e:=3) (by kernel_rfl) (by kernel_rfl) (show 0<_ from Nat.lt_of_lt_of_eq (show 0<1 by decide) (by kernel_rfl)) rd_3
def qGi (r:Product):Prop:=strok r.Name/\TF r.Thick/\TF r.Width/\TF r.Allow/\TF r.Wane/\(λl:List Int=>l.length<=maxLen/\∀x∈l,TF x) r.Lengths/\(λl:List Int=>l.length<=maxLen/\∀x∈l,TF x) r.Prices/\True
def qLi :(ByteArray×(Int×(Int×(Int×(Int×((List Int)×((List Int)×Unit)))))))->Product:=(λr:ByteArray×(Int×(Int×(Int×(Int×((List Int)×((List Int)×Unit))))))=>Product.mk r.1 r.2.1 r.2.2.1 r.2.2.2.1 r.2.2.2.2.1 r.2.2.2.2.2.1 r.2.2.2.2.2.2.1)
def qFt :∀H:Type,DataW H->Product->Prop:=qGF qLi (qGK (QW qHW (QW PM (QW PM (QW PM (QW PM (QW (D_sl PM) (QW (D_sl PM) qBh))))))))
theorem und54 :Tryz.prog.underlying 54=some (.struct #[(Field.mk "Name" 9 0 false "" "" 0),(Field.mk "Thick" 3 1 false "" "" 16),(Field.mk "Width" 3 2 false "" "" 24),(Field.mk "Allow" 3 3 false "" "" 32),(Field.mk "Wane" 3 4 false "" "" 40),(Field.mk "Lengths" 28 5 false "" "" 48),(Field.mk "Prices" 28 6 false "" "" 72)]):=by kernel_rfl
theorem rd_54 :ZJ Tryz.prog 54 qC qGi qFt:=
 SZ (BS (fs:= #[(Field.mk "Name" 9 0 false "" "" 0),(Field.mk "Thick" 3 1 false "" "" 16),(Field.mk "Width" 3 2 false "" "" 24),(Field.mk "Allow" 3 3 false "" "" 32),(Field.mk "Wane" 3 4 false "" "" 40),(Field.mk "Lengths" 28 5 false "" "" 48),(Field.mk "Prices" 28 6 false "" "" 72)]) und54 (ZZ (off:=0) rd_9 (ZZ (off:=1) rd_3 (ZZ (off:=2) rd_3 (ZZ (off:=3) rd_3 (ZZ (off:=4) rd_3 (ZZ (off:=5) rd_28 (ZZ (off:=6) rd_28 (qFl 7) rfl (by kernel_rfl)) rfl (by kernel_rfl)) rfl (by kernel_rfl)) rfl (by kernel_rfl)) rfl (by kernel_rfl)) rfl (by kernel_rfl)) rfl (by kernel_rfl)) (by kernel_rfl)) qLi (fun _=>rfl) (fun _=>show 7=_ by kernel_rfl) (fun _ h=>h)
theorem rd_22 :ZJ Tryz.prog 22 (λl:List Product=>[tl qC default l]) (λl:List Product=>l.length<=maxLen/\∀x∈l,qGi x) (D_sl qFt):=
 IQ (e:=54) (by kernel_rfl) (by kernel_rfl) (show 0<_ from Nat.lt_of_lt_of_eq (show 0<7 by decide) (by kernel_rfl)) rd_54
theorem und22 :Tryz.prog.underlying 22=some (.slice 54):=by kernel_rfl
def qNw (r:Span):Prop:=TF r.A/\TF r.B/\True
def qRl :(Int×(Int×Unit))->Span:=(λr:Int×(Int×Unit)=>Span.mk r.1 r.2.1)
def qOh :∀H:Type,DataW H->Span->Prop:=qGF qRl (qGK (QW PM (QW PM qBh)))
theorem und31 :Tryz.prog.underlying 31=some (.struct #[(Field.mk "A" 3 0 false "" "" 0),(Field.mk "B" 3 1 false "" "" 8)]):=by kernel_rfl
theorem rd_31 :ZJ Tryz.prog 31 e_Span qNw qOh:=
 SZ (BS (fs:= #[(Field.mk "A" 3 0 false "" "" 0),(Field.mk "B" 3 1 false "" "" 8)]) und31 (ZZ (off:=0) rd_3 (ZZ (off:=1) rd_3 (qFl 2) rfl (by kernel_rfl)) rfl (by kernel_rfl)) (by kernel_rfl)) qRl (fun _=>rfl) (fun _=>show 2=_ by kernel_rfl) (fun _ h=>h)
theorem rd_68 :ZJ Tryz.prog 68 (λl:List Span=>[tl e_Span default l]) (λl:List Span=>l.length<=maxLen/\∀x∈l,qNw x) (D_sl qOh):=
 IQ (e:=31) (by kernel_rfl) (by kernel_rfl) (show 0<_ from Nat.lt_of_lt_of_eq (show 0<2 by decide) (by kernel_rfl)) rd_31
def qKZ (r:qF):Prop:=TF r.Low/\(λl:List Span=>l.length<=maxLen/\∀x∈l,qNw x) r.Rows/\True
def qLn :(Int×((List Span)×Unit))->qF:=(λr:Int×((List Span)×Unit)=>qF.mk r.1 r.2.1)
def qLC :∀H:Type,DataW H->qF->Prop:=qGF qLn (qGK (QW PM (QW (D_sl qOh) qBh)))
theorem und70 :Tryz.prog.underlying 70=some (.struct #[(Field.mk "Low" 3 0 false "" "" 0),(Field.mk "Rows" 68 1 false "" "" 8)]):=by kernel_rfl
theorem rd_70 :ZJ Tryz.prog 70 qO qKZ qLC:=
 SZ (BS (fs:= #[(Field.mk "Low" 3 0 false "" "" 0),(Field.mk "Rows" 68 1 false "" "" 8)]) und70 (ZZ (off:=0) rd_3 (ZZ (off:=1) rd_68 (qFl 2) rfl (by kernel_rfl)) rfl (by kernel_rfl)) (by kernel_rfl)) qLn (fun _=>rfl) (fun _=>show 2=_ by kernel_rfl) (fun _ h=>h)
def qJU (r:qB):Prop:=TF r.Len/\qKZ r.Sec/\True
def qPl :(Int×(qF×Unit))->qB:=(λr:Int×(qF×Unit)=>qB.mk r.1 r.2.1)
def qJZ :∀H:Type,DataW H->qB->Prop:=qGF qPl (qGK (QW PM (QW qLC qBh)))
theorem und72 :Tryz.prog.underlying 72=some (.struct #[(Field.mk "Len" 3 0 false "" "" 0),(Field.mk "Sec" 70 1 false "" "" 8)]):=by kernel_rfl
theorem rd_72 :ZJ Tryz.prog 72 qE qJU qJZ:=
 SZ (BS (fs:= #[(Field.mk "Len" 3 0 false "" "" 0),(Field.mk "Sec" 70 1 false "" "" 8)]) und72 (ZZ (off:=0) rd_3 (ZZ (off:=1) rd_70 (qFl 3) rfl (by kernel_rfl)) rfl (by kernel_rfl)) (by kernel_rfl)) qPl (fun _=>rfl) (fun _=>show 3=_ by kernel_rfl) (fun _ h=>h)
theorem rd_23 :ZJ Tryz.prog 23 (λl:List qB=>[tl qE default l]) (λl:List qB=>l.length<=maxLen/\∀x∈l,qJU x) (D_sl qJZ):=
 IQ (e:=72) (by kernel_rfl) (by kernel_rfl) (show 0<_ from Nat.lt_of_lt_of_eq (show 0<3 by decide) (by kernel_rfl)) rd_72
theorem und23 :Tryz.prog.underlying 23=some (.slice 72):=by kernel_rfl
def wfPiece (r:Piece):Prop:=TF r.Size/\TF r.At/\True
def qKa :(Int×(Int×Unit))->Piece:=(λr:Int×(Int×Unit)=>Piece.mk r.1 r.2.1)
def D_Piece :∀H:Type,DataW H->Piece->Prop:=qGF qKa (qGK (QW PM (QW PM qBh)))
theorem und92 :Tryz.prog.underlying 92=some (.struct #[(Field.mk "Size" 3 0 false "" "" 0),(Field.mk "At" 3 1 false "" "" 8)]):=by kernel_rfl
theorem rd_92 :ZJ Tryz.prog 92 wO wfPiece D_Piece:=
 SZ (BS (fs:= #[(Field.mk "Size" 3 0 false "" "" 0),(Field.mk "At" 3 1 false "" "" 8)]) und92 (ZZ (off:=0) rd_3 (ZZ (off:=1) rd_3 (qFl 2) rfl (by kernel_rfl)) rfl (by kernel_rfl)) (by kernel_rfl)) qKa (fun _=>rfl) (fun _=>show 2=_ by kernel_rfl) (fun _ h=>h)
section
variable {H :Type} {enc:TypeId×Value->H} {w:World} {r:Reach} {b0:Nat} {v:Value} {d:DataW H} {ps:List MemPlace}
theorem open_22 (hval:Value.okWide Tryz.prog w r b0 22 v) (hd:DataW.Trod enc Tryz.prog w 0 (λ_=>true) true 22 v d ps):∃x:List Product,(x.length<=maxLen/\∀y∈x,qGi y)/\D_sl qFt H d x/\qR w (Mem.of λ_=>True) (.one (tl qC default x)) v:=by
 obtain⟨x,h1,h2,h3⟩:=qEW rd_22 und22 hval hd;exact⟨x,h1,h2,h3⟩
theorem open_23 (hval:Value.okWide Tryz.prog w r b0 23 v) (hd:DataW.Trod enc Tryz.prog w 0 (λ_=>true) true 23 v d ps):∃x:List qB,(x.length<=maxLen/\∀y∈x,qJU y)/\D_sl qJZ H d x/\qR w (Mem.of λ_=>True) (.one (tl qE default x)) v:=by
 obtain⟨x,h1,h2,h3⟩:=qEW rd_23 und23 hval hd;exact⟨x,h1,h2,h3⟩
end
theorem qRO {W:World} (h:laidMetH Tryz.prog YtidlfgiogdjkaaaGreatDoor.Rows.planYieldsRow.laid W):qEF globs W (λ_=>True):=by
 have h':laidMet Tryz.prog YtidlfgiogdjkaaaGreatDoor.Rows.planYieldsRow.laid W:=h;obtain⟨ps,hl,_⟩:=h';obtain⟨cs,e,fz,fuel,p,hh,hd,q,hl⟩:=qQN hl (g:=0) (t:=92) (by kernel_rfl) (by kernel_rfl);obtain⟨x,_,hx2,hx3⟩:=rd_92.rd _ _ _ _ _ _ _ hd;have hx:x=qHM:=by
  obtain⟨r,rfl,ds,he,d0,rest,h0,hd0,d1,rest',h1,hd1,h2⟩:=hx3;obtain⟨a,b,u⟩:=r;subst h0;subst h1;unfold PM at hd0 hd1;subst hd0;subst hd1;injection he with he;injection he with e0 he;injection he with e1 he;injection e0 with e0;injection e1 with e1;injection e0 with _ e0;injection e1 with _ e1;simp only at e0 e1;unfold qKa qHM;rw[<-e0,<-e1]
 subst hx;intro g c hc;unfold globs at hc;rw[look_cons] at hc;split at hc
 ·rename_i hg;subst hg;cases hc;exact qR2 hh hx2
 ·cases hc
def setAll (cs:Array Value):Obj->Obj
 | .cells _ t frozen=> .cells cs t frozen
 |o=>o
noncomputable def qF5 (os:Os):World:=
 {World.holding Tryz.prog os ⟨#[], #[],[]⟩ with heap:=(World.holding Tryz.prog os ⟨#[], #[],[]⟩).heap.modify 0 (setAll #[.int .i64 (-1),.int .i64 (-1)])}
theorem laidOut :laidOutB Tryz.prog=true:=by kernel_rfl
theorem own :ownKnob Tryz.prog.godebug=none:=by kernel_rfl
end Saw
end Go.SL

import Derived.Test.YtidlfgiogdjkaaaGreatDoorEBase
import Derived.Test.YtidlfgiogdjkaaaGreatDoorYa6
import Derived.Test.YtidlfgiogdjkaaaGreatDoorRows
import Derived.Lib.LaidTab
import Derived.Test.YtidlfgiogdjkaaaGreatDoorCards
import Derived.Test.YtidlfgiogdjkaaaGreatDoorTie
set_option linter.unusedVariables false
set_option linter.unusedSimpArgs false
namespace Go.SL
namespace Saw
open Go.Proofs Go.RowKit Go.ChangeShapes Go.WideShapes
set_option maxRecDepth 100000
theorem rd_9 :jA Tryz.prog 9 e_str strok qIb:=qOt (by kernel_rfl) (by kernel_rfl)
theorem rd_3 :jA Tryz.prog 3 e_i64 QM yY:=qSI (by kernel_rfl) (by kernel_rfl)
theorem rd_28 :jA Tryz.prog 28 (λl:List Int=>[tl e_i64 default l]) (λl:List Int=>l.length<=maxLen/\∀x∈l,QM x) (D_sl yY):=
 DV (e:=3) (by kernel_rfl) (by kernel_rfl) (show 0<_ from Nat.lt_of_lt_of_eq (show 0<1 by decide) (by kernel_rfl)) rd_3
def qGR (r:Product):Prop:=strok r.Name/\QM r.Thick/\QM r.Width/\QM r.Allow/\QM r.Wane/\(λl:List Int=>l.length<=maxLen/\∀x∈l,QM x) r.Lengths/\(λl:List Int=>l.length<=maxLen/\∀x∈l,QM x) r.Prices/\True
def qMv :(ByteArray×(Int×(Int×(Int×(Int×((List Int)×((List Int)×Unit)))))))->Product:=(λr:ByteArray×(Int×(Int×(Int×(Int×((List Int)×((List Int)×Unit))))))=>Product.mk r.1 r.2.1 r.2.2.1 r.2.2.2.1 r.2.2.2.2.1 r.2.2.2.2.2.1 r.2.2.2.2.2.2.1)
def qGh :∀H:Type,DataW H->Product->Prop:=MA qMv (LM (zC qIb (zC yY (zC yY (zC yY (zC yY (zC (D_sl yY) (zC (D_sl yY) RT))))))))
theorem und54 :Tryz.prog.underlying 54=some (.struct #[(Field.mk "Name" 9 0 false "" "" 0),(Field.mk "Thick" 3 1 false "" "" 16),(Field.mk "Width" 3 2 false "" "" 24),(Field.mk "Allow" 3 3 false "" "" 32),(Field.mk "Wane" 3 4 false "" "" 40),(Field.mk "Lengths" 28 5 false "" "" 48),(Field.mk "Prices" 28 6 false "" "" 72)]):=by kernel_rfl
theorem rd_54 :jA Tryz.prog 54 qC qGR qGh:=
 QN (jL (fs:= #[(Field.mk "Name" 9 0 false "" "" 0),(Field.mk "Thick" 3 1 false "" "" 16),(Field.mk "Width" 3 2 false "" "" 24),(Field.mk "Allow" 3 3 false "" "" 32),(Field.mk "Wane" 3 4 false "" "" 40),(Field.mk "Lengths" 28 5 false "" "" 48),(Field.mk "Prices" 28 6 false "" "" 72)]) und54 (zF (off:=0) rd_9 (zF (off:=1) rd_3 (zF (off:=2) rd_3 (zF (off:=3) rd_3 (zF (off:=4) rd_3 (zF (off:=5) rd_28 (zF (off:=6) rd_28 (DU 7) rfl (by kernel_rfl)) rfl (by kernel_rfl)) rfl (by kernel_rfl)) rfl (by kernel_rfl)) rfl (by kernel_rfl)) rfl (by kernel_rfl)) rfl (by kernel_rfl)) (by kernel_rfl)) qMv (fun _=>rfl) (fun _=>show 7=_ by kernel_rfl) (fun _ h=>h)
theorem rd_22 :jA Tryz.prog 22 (λl:List Product=>[tl qC default l]) (λl:List Product=>l.length<=maxLen/\∀x∈l,qGR x) (D_sl qGh):=
 DV (e:=54) (by kernel_rfl) (by kernel_rfl) (show 0<_ from Nat.lt_of_lt_of_eq (show 0<7 by decide) (by kernel_rfl)) rd_54
def qAr (r:Span):Prop:=QM r.A/\QM r.B/\True
def qSD :(Int×(Int×Unit))->Span:=(λr:Int×(Int×Unit)=>Span.mk r.1 r.2.1)
def qAd :∀H:Type,DataW H->Span->Prop:=MA qSD (LM (zC yY (zC yY RT)))
theorem und31 :Tryz.prog.underlying 31=some (.struct #[(Field.mk "A" 3 0 false "" "" 0),(Field.mk "B" 3 1 false "" "" 8)]):=by kernel_rfl
theorem qHf :jA Tryz.prog 31 e_Span qAr qAd:=
 QN (jL (fs:= #[(Field.mk "A" 3 0 false "" "" 0),(Field.mk "B" 3 1 false "" "" 8)]) und31 (zF (off:=0) rd_3 (zF (off:=1) rd_3 (DU 2) rfl (by kernel_rfl)) rfl (by kernel_rfl)) (by kernel_rfl)) qSD (fun _=>rfl) (fun _=>show 2=_ by kernel_rfl) (fun _ h=>h)
theorem rd_68 :jA Tryz.prog 68 (λl:List Span=>[tl e_Span default l]) (λl:List Span=>l.length<=maxLen/\∀x∈l,qAr x) (D_sl qAd):=
 DV (e:=31) (by kernel_rfl) (by kernel_rfl) (show 0<_ from Nat.lt_of_lt_of_eq (show 0<2 by decide) (by kernel_rfl)) qHf
def qMj (r:qK):Prop:=QM r.Low/\(λl:List Span=>l.length<=maxLen/\∀x∈l,qAr x) r.Rows/\True
def qMk :(Int×((List Span)×Unit))->qK:=(λr:Int×((List Span)×Unit)=>qK.mk r.1 r.2.1)
def qM8 :∀H:Type,DataW H->qK->Prop:=MA qMk (LM (zC yY (zC (D_sl qAd) RT)))
theorem und70 :Tryz.prog.underlying 70=some (.struct #[(Field.mk "Low" 3 0 false "" "" 0),(Field.mk "Rows" 68 1 false "" "" 8)]):=by kernel_rfl
theorem rd_70 :jA Tryz.prog 70 zY qMj qM8:=
 QN (jL (fs:= #[(Field.mk "Low" 3 0 false "" "" 0),(Field.mk "Rows" 68 1 false "" "" 8)]) und70 (zF (off:=0) rd_3 (zF (off:=1) rd_68 (DU 2) rfl (by kernel_rfl)) rfl (by kernel_rfl)) (by kernel_rfl)) qMk (fun _=>rfl) (fun _=>show 2=_ by kernel_rfl) (fun _ h=>h)
def qLJ (r:qB):Prop:=QM r.Len/\qMj r.Sec/\True
def qRa :(Int×(qK×Unit))->qB:=(λr:Int×(qK×Unit)=>qB.mk r.1 r.2.1)
def qLR :∀H:Type,DataW H->qB->Prop:=MA qRa (LM (zC yY (zC qM8 RT)))
theorem und72 :Tryz.prog.underlying 72=some (.struct #[(Field.mk "Len" 3 0 false "" "" 0),(Field.mk "Sec" 70 1 false "" "" 8)]):=by kernel_rfl
theorem rd_72 :jA Tryz.prog 72 qI qLJ qLR:=
 QN (jL (fs:= #[(Field.mk "Len" 3 0 false "" "" 0),(Field.mk "Sec" 70 1 false "" "" 8)]) und72 (zF (off:=0) rd_3 (zF (off:=1) rd_70 (DU 3) rfl (by kernel_rfl)) rfl (by kernel_rfl)) (by kernel_rfl)) qRa (fun _=>rfl) (fun _=>show 3=_ by kernel_rfl) (fun _ h=>h)
theorem rd_23 :jA Tryz.prog 23 (λl:List qB=>[tl qI default l]) (λl:List qB=>l.length<=maxLen/\∀x∈l,qLJ x) (D_sl qLR):=
 DV (e:=72) (by kernel_rfl) (by kernel_rfl) (show 0<_ from Nat.lt_of_lt_of_eq (show 0<3 by decide) (by kernel_rfl)) rd_72
def wfBox (r:Box):Prop:=qAr r.X/\qAr r.Y/\qAr r.Z/\True
def g_Box :(Span×(Span×(Span×Unit)))->Box:=(λr:Span×(Span×(Span×Unit))=>Box.mk r.1 r.2.1 r.2.2.1)
def D_Box :∀H:Type,DataW H->Box->Prop:=MA g_Box (LM (zC qAd (zC qAd (zC qAd RT))))
theorem und128 :Tryz.prog.underlying 128=some (.struct #[(Field.mk "X" 31 0 false "" "" 0),(Field.mk "Y" 31 2 false "" "" 16),(Field.mk "Z" 31 4 false "" "" 32)]):=by kernel_rfl
theorem rd_128 :jA Tryz.prog 128 ZV wfBox D_Box:=
 QN (jL (fs:= #[(Field.mk "X" 31 0 false "" "" 0),(Field.mk "Y" 31 2 false "" "" 16),(Field.mk "Z" 31 4 false "" "" 32)]) und128 (zF (off:=0) qHf (zF (off:=2) qHf (zF (off:=4) qHf (DU 6) rfl (by kernel_rfl)) rfl (by kernel_rfl)) rfl (by kernel_rfl)) (by kernel_rfl)) g_Box (fun _=>rfl) (fun _=>show 6=_ by kernel_rfl) (fun _ h=>h)
def qJp (r:Defect):Prop:=QM r.Kind/\wfBox r.Box/\True
def qON :(Int×(Box×Unit))->Defect:=(λr:Int×(Box×Unit)=>Defect.mk r.1 r.2.1)
def qIR :∀H:Type,DataW H->Defect->Prop:=MA qON (LM (zC yY (zC D_Box RT)))
theorem und212 :Tryz.prog.underlying 212=some (.struct #[(Field.mk "Kind" 3 0 false "" "" 0),(Field.mk "Box" 128 1 false "" "" 8)]):=by kernel_rfl
theorem rd_212 :jA Tryz.prog 212 qJ qJp qIR:=
 QN (jL (fs:= #[(Field.mk "Kind" 3 0 false "" "" 0),(Field.mk "Box" 128 1 false "" "" 8)]) und212 (zF (off:=0) rd_3 (zF (off:=1) rd_128 (DU 7) rfl (by kernel_rfl)) rfl (by kernel_rfl)) (by kernel_rfl)) qON (fun _=>rfl) (fun _=>show 7=_ by kernel_rfl) (fun _ h=>h)
theorem rd_36 :jA Tryz.prog 36 (λl:List Defect=>[tl qJ default l]) (λl:List Defect=>l.length<=maxLen/\∀x∈l,qJp x) (D_sl qIR):=
 DV (e:=212) (by kernel_rfl) (by kernel_rfl) (show 0<_ from Nat.lt_of_lt_of_eq (show 0<7 by decide) (by kernel_rfl)) rd_212
def qSs (r:Rect):Prop:=qAr r.X/\qAr r.Y/\True
def qTz :(Span×(Span×Unit))->Rect:=(λr:Span×(Span×Unit)=>Rect.mk r.1 r.2.1)
def qTk :∀H:Type,DataW H->Rect->Prop:=MA qTz (LM (zC qAd (zC qAd RT)))
theorem und33 :Tryz.prog.underlying 33=some (.struct #[(Field.mk "X" 31 0 false "" "" 0),(Field.mk "Y" 31 2 false "" "" 16)]):=by kernel_rfl
theorem rd_33 :jA Tryz.prog 33 qE qSs qTk:=
 QN (jL (fs:= #[(Field.mk "X" 31 0 false "" "" 0),(Field.mk "Y" 31 2 false "" "" 16)]) und33 (zF (off:=0) qHf (zF (off:=2) qHf (DU 4) rfl (by kernel_rfl)) rfl (by kernel_rfl)) (by kernel_rfl)) qTz (fun _=>rfl) (fun _=>show 4=_ by kernel_rfl) (fun _ h=>h)
def wfSaw (r:Saw):Prop:=QM r.Kerf/\QM r.Trim/\QM r.Pitch/\QM r.Step/\True
def g_Saw :(Int×(Int×(Int×(Int×Unit))))->Saw:=(λr:Int×(Int×(Int×(Int×Unit)))=>Saw.mk r.1 r.2.1 r.2.2.1 r.2.2.2.1)
def D_Saw :∀H:Type,DataW H->Saw->Prop:=MA g_Saw (LM (zC yY (zC yY (zC yY (zC yY RT)))))
theorem und38 :Tryz.prog.underlying 38=some (.struct #[(Field.mk "Kerf" 3 0 false "" "" 0),(Field.mk "Trim" 3 1 false "" "" 8),(Field.mk "Pitch" 3 2 false "" "" 16),(Field.mk "Step" 3 3 false "" "" 24)]):=by kernel_rfl
theorem rd_38 :jA Tryz.prog 38 zB wfSaw D_Saw:=
 QN (jL (fs:= #[(Field.mk "Kerf" 3 0 false "" "" 0),(Field.mk "Trim" 3 1 false "" "" 8),(Field.mk "Pitch" 3 2 false "" "" 16),(Field.mk "Step" 3 3 false "" "" 24)]) und38 (zF (off:=0) rd_3 (zF (off:=1) rd_3 (zF (off:=2) rd_3 (zF (off:=3) rd_3 (DU 4) rfl (by kernel_rfl)) rfl (by kernel_rfl)) rfl (by kernel_rfl)) rfl (by kernel_rfl)) (by kernel_rfl)) g_Saw (fun _=>rfl) (fun _=>show 4=_ by kernel_rfl) (fun _ h=>h)
def qRd (r:Rates):Prop:=QM r.Chip/\QM r.Dust/\QM r.Fine/\True
def qQ0 :(Int×(Int×(Int×Unit)))->Rates:=(λr:Int×(Int×(Int×Unit))=>Rates.mk r.1 r.2.1 r.2.2.1)
def qQ1 :∀H:Type,DataW H->Rates->Prop:=MA qQ0 (LM (zC yY (zC yY (zC yY RT))))
theorem und40 :Tryz.prog.underlying 40=some (.struct #[(Field.mk "Chip" 3 0 false "" "" 0),(Field.mk "Dust" 3 1 false "" "" 8),(Field.mk "Fine" 3 2 false "" "" 16)]):=by kernel_rfl
theorem rd_40 :jA Tryz.prog 40 zS qRd qQ1:=
 QN (jL (fs:= #[(Field.mk "Chip" 3 0 false "" "" 0),(Field.mk "Dust" 3 1 false "" "" 8),(Field.mk "Fine" 3 2 false "" "" 16)]) und40 (zF (off:=0) rd_3 (zF (off:=1) rd_3 (zF (off:=2) rd_3 (DU 3) rfl (by kernel_rfl)) rfl (by kernel_rfl)) rfl (by kernel_rfl)) (by kernel_rfl)) qQ0 (fun _=>rfl) (fun _=>show 3=_ by kernel_rfl) (fun _ h=>h)
def qE1 (r:Law24_Given):Prop:=(λl:List qB=>l.length<=maxLen/\∀x∈l,qLJ x) r.Solid/\(λl:List Defect=>l.length<=maxLen/\∀x∈l,qJp x) r.Defects/\(λl:List Product=>l.length<=maxLen/\∀x∈l,qGR x) r.Products/\qSs r.Frame/\wfSaw r.Saw/\qRd r.Rates/\True
def qE2 :((List qB)×((List Defect)×((List Product)×(Rect×(Saw×(Rates×Unit))))))->Law24_Given:=(λr:(List qB)×((List Defect)×((List Product)×(Rect×(Saw×(Rates×Unit)))))=>Law24_Given.mk r.1 r.2.1 r.2.2.1 r.2.2.2.1 r.2.2.2.2.1 r.2.2.2.2.2.1)
def qEW :∀H:Type,DataW H->Law24_Given->Prop:=MA qE2 (LM (zC (D_sl qLR) (zC (D_sl qIR) (zC (D_sl qGh) (zC qTk (zC D_Saw (zC qQ1 RT)))))))
theorem und42 :Tryz.prog.underlying 42=some (.struct #[(Field.mk "Solid" 23 0 false "" "" 0),(Field.mk "Defects" 36 1 false "" "" 24),(Field.mk "Products" 22 2 false "" "" 48),(Field.mk "Frame" 33 3 false "" "" 72),(Field.mk "Saw" 38 7 false "" "" 104),(Field.mk "Rates" 40 11 false "" "" 136)]):=by kernel_rfl
theorem rd_42 :jA Tryz.prog 42 zH qE1 qEW:=
 QN (jL (fs:= #[(Field.mk "Solid" 23 0 false "" "" 0),(Field.mk "Defects" 36 1 false "" "" 24),(Field.mk "Products" 22 2 false "" "" 48),(Field.mk "Frame" 33 3 false "" "" 72),(Field.mk "Saw" 38 7 false "" "" 104),(Field.mk "Rates" 40 11 false "" "" 136)]) und42 (zF (off:=0) rd_23 (zF (off:=1) rd_36 (zF (off:=2) rd_22 (zF (off:=3) rd_33 (zF (off:=7) rd_38 (zF (off:=11) rd_40 (DU 14) rfl (by kernel_rfl)) rfl (by kernel_rfl)) rfl (by kernel_rfl)) rfl (by kernel_rfl)) rfl (by kernel_rfl)) rfl (by kernel_rfl)) (by kernel_rfl)) qE2 (fun _=>rfl) (fun _=>show 14=_ by kernel_rfl) (fun _ h=>h)
def qOp (r:Node):Prop:=QM r.Kind/\QM r.At/\True
def qST :(Int×(Int×Unit))->Node:=(λr:Int×(Int×Unit)=>Node.mk r.1 r.2.1)
def qOZ :∀H:Type,DataW H->Node->Prop:=MA qST (LM (zC yY (zC yY RT)))
theorem und65 :Tryz.prog.underlying 65=some (.struct #[(Field.mk "Kind" 3 0 false "" "" 0),(Field.mk "At" 3 1 false "" "" 8)]):=by kernel_rfl
theorem rd_65 :jA Tryz.prog 65 e_Node qOp qOZ:=
 QN (jL (fs:= #[(Field.mk "Kind" 3 0 false "" "" 0),(Field.mk "At" 3 1 false "" "" 8)]) und65 (zF (off:=0) rd_3 (zF (off:=1) rd_3 (DU 2) rfl (by kernel_rfl)) rfl (by kernel_rfl)) (by kernel_rfl)) qST (fun _=>rfl) (fun _=>show 2=_ by kernel_rfl) (fun _ h=>h)
theorem rd_44 :jA Tryz.prog 44 (λl:List Node=>[tl e_Node default l]) (λl:List Node=>l.length<=maxLen/\∀x∈l,qOp x) (D_sl qOZ):=
 DV (e:=65) (by kernel_rfl) (by kernel_rfl) (show 0<_ from Nat.lt_of_lt_of_eq (show 0<2 by decide) (by kernel_rfl)) rd_65
theorem und44 :Tryz.prog.underlying 44=some (.slice 65):=by kernel_rfl
def wfPiece (r:Piece):Prop:=QM r.Size/\QM r.At/\True
def qLI :(Int×(Int×Unit))->Piece:=(λr:Int×(Int×Unit)=>Piece.mk r.1 r.2.1)
def D_Piece :∀H:Type,DataW H->Piece->Prop:=MA qLI (LM (zC yY (zC yY RT)))
theorem und92 :Tryz.prog.underlying 92=some (.struct #[(Field.mk "Size" 3 0 false "" "" 0),(Field.mk "At" 3 1 false "" "" 8)]):=by kernel_rfl
theorem rd_92 :jA Tryz.prog 92 yM wfPiece D_Piece:=
 QN (jL (fs:= #[(Field.mk "Size" 3 0 false "" "" 0),(Field.mk "At" 3 1 false "" "" 8)]) und92 (zF (off:=0) rd_3 (zF (off:=1) rd_3 (DU 2) rfl (by kernel_rfl)) rfl (by kernel_rfl)) (by kernel_rfl)) qLI (fun _=>rfl) (fun _=>show 2=_ by kernel_rfl) (fun _ h=>h)
section
variable {H :Type} {enc:TypeId×Value->H} {w:World} {r:Reach} {b0:Nat} {v:Value} {d:DataW H} {ps:List MemPlace}
theorem open_42 (hval:Value.okWide Tryz.prog w r b0 42 v) (hd:DataW.Trod enc Tryz.prog w 0 (λ_=>true) true 42 v d ps):∃x,qE1 x/\qEW H d x/\qO w (Mem.of λ_=>True) (.agg (zH x)) v:=by
 obtain⟨x,h1,h2,h3⟩:=qMb rd_42 und42 hval hd;exact⟨x,h1,h2,h3⟩
theorem open_44 (hval:Value.okWide Tryz.prog w r b0 44 v) (hd:DataW.Trod enc Tryz.prog w 0 (λ_=>true) true 44 v d ps):∃x:List Node,(x.length<=maxLen/\∀y∈x,qOp y)/\D_sl qOZ H d x/\qO w (Mem.of λ_=>True) (.one (tl e_Node default x)) v:=by
 obtain⟨x,h1,h2,h3⟩:=qNA rd_44 und44 hval hd;exact⟨x,h1,h2,h3⟩
end
theorem qTH {W:World} (h:laidMetH Tryz.prog YtidlfgiogdjkaaaGreatDoor.Rows.planYieldsRow.laid W):qBi globs W (λ_=>True):=by
 have h':laidMet Tryz.prog YtidlfgiogdjkaaaGreatDoor.Rows.planYieldsRow.laid W:=h;obtain⟨ps,hl,_⟩:=h';obtain⟨cs,e,fz,fuel,p,hh,hd,q,hl⟩:=qSM hl (g:=0) (t:=92) (by kernel_rfl) (by kernel_rfl);obtain⟨x,_,hx2,hx3⟩:=rd_92.rd _ _ _ _ _ _ _ hd;have hx:x=qI0:=by
  obtain⟨r,rfl,ds,he,d0,rest,h0,hd0,d1,rest',h1,hd1,h2⟩:=hx3;obtain⟨a,b,u⟩:=r;subst h0;subst h1;unfold yY at hd0 hd1;subst hd0;subst hd1;injection he with he;injection he with e0 he;injection he with e1 he;injection e0 with e0;injection e1 with e1;injection e0 with _ e0;injection e1 with _ e1;simp only at e0 e1;unfold qLI qI0;rw[<-e0,<-e1]
 subst hx;intro g c hc;unfold globs at hc;rw[look_cons] at hc;split at hc
 ·rename_i hg;subst hg;cases hc;exact qTV hh hx2
 ·cases hc
def setAll (cs:Array Value):Obj->Obj
 | .cells _ t frozen=> .cells cs t frozen
 |o=>o
noncomputable def qGb (os:Os):World:=
 {World.holding Tryz.prog os ⟨#[], #[],[]⟩ with heap:=(World.holding Tryz.prog os ⟨#[], #[],[]⟩).heap.modify 0 (setAll #[.int .i64 (-1),.int .i64 (-1)])}
theorem laidOut :laidOutB Tryz.prog=true:=by kernel_rfl
theorem own :ownKnob Tryz.prog.godebug=none:=by kernel_rfl
end Saw
end Go.SL

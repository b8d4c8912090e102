/- The readings of the laws' parameters. -/
import Derived.Test.YtidlfgiogdjkaaaGreatDoorEBase
import Derived.Test.YtidlfgiogdjkaaaGreatDoorYa6
import Derived.Test.YtidlfgiogdjkaaaGreatDoorRows
import Derived.Lib.LaidTab
import Derived.Test.YtidlfgiogdjkaaaGreatDoorCards
import Derived.Test.YtidlfgiogdjkaaaGreatDoorTie
set_option linter.unusedVariables false
set_option linter.unusedSimpArgs false
namespace Go.SL
namespace Saw
open Go.Proofs Go.RowKit Go.ChangeShapes Go.WideShapes
set_option maxRecDepth 100000
theorem rd_3 :jS Tryz.prog 3 e_i64 ZD QR:=qSm (by kernel_rfl) (by kernel_rfl)
def qAq (r:Span):Prop:=ZD r.A/\ZD r.B/\True
def qR1 :(Int×(Int×Unit))->Span:=(λr:Int×(Int×Unit)=>Span.mk r.1 r.2.1)
def qAk :∀H:Type,DataW H->Span->Prop:=HB qR1 (MV (zH QR (zH QR UH)))
theorem und31 :Tryz.prog.underlying 31=some (.struct #[(Field.mk "A" 3 0 false "" "" 0),(Field.mk "B" 3 1 false "" "" 8)]):=by kernel_rfl
theorem qHf :jS Tryz.prog 31 e_Span qAq qAk:=
 ZC (jX (fs:= #[(Field.mk "A" 3 0 false "" "" 0),(Field.mk "B" 3 1 false "" "" 8)]) und31 (zK (off:=0) rd_3 (zK (off:=1) rd_3 (NS 2) rfl (by kernel_rfl)) rfl (by kernel_rfl)) (by kernel_rfl)) qR1 (fun _=>rfl) (fun _=>show 2=_ by kernel_rfl) (fun _ h=>h)
theorem rd_68 :jS Tryz.prog 68 (λl:List Span=>[tl e_Span default l]) (λl:List Span=>l.length<=maxLen/\∀x∈l,qAq x) (D_sl qAk):=
 MO (e:=31) (by kernel_rfl) (by kernel_rfl) (show 0<_ from Nat.lt_of_lt_of_eq (show 0<2 by decide) (by kernel_rfl)) qHf
def qL1 (r:qK):Prop:=ZD r.Low/\(λl:List Span=>l.length<=maxLen/\∀x∈l,qAq x) r.Rows/\True
def qMi :(Int×((List Span)×Unit))->qK:=(λr:Int×((List Span)×Unit)=>qK.mk r.1 r.2.1)
def qMg :∀H:Type,DataW H->qK->Prop:=HB qMi (MV (zH QR (zH (D_sl qAk) UH)))
theorem und70 :Tryz.prog.underlying 70=some (.struct #[(Field.mk "Low" 3 0 false "" "" 0),(Field.mk "Rows" 68 1 false "" "" 8)]):=by kernel_rfl
theorem rd_70 :jS Tryz.prog 70 zW qL1 qMg:=
 ZC (jX (fs:= #[(Field.mk "Low" 3 0 false "" "" 0),(Field.mk "Rows" 68 1 false "" "" 8)]) und70 (zK (off:=0) rd_3 (zK (off:=1) rd_68 (NS 2) rfl (by kernel_rfl)) rfl (by kernel_rfl)) (by kernel_rfl)) qMi (fun _=>rfl) (fun _=>show 2=_ by kernel_rfl) (fun _ h=>h)
def qK8 (r:qB):Prop:=ZD r.Len/\qL1 r.Sec/\True
def qPP :(Int×(qK×Unit))->qB:=(λr:Int×(qK×Unit)=>qB.mk r.1 r.2.1)
def qLj :∀H:Type,DataW H->qB->Prop:=HB qPP (MV (zH QR (zH qMg UH)))
theorem und72 :Tryz.prog.underlying 72=some (.struct #[(Field.mk "Len" 3 0 false "" "" 0),(Field.mk "Sec" 70 1 false "" "" 8)]):=by kernel_rfl
theorem rd_72 :jS Tryz.prog 72 qG qK8 qLj:=
 ZC (jX (fs:= #[(Field.mk "Len" 3 0 false "" "" 0),(Field.mk "Sec" 70 1 false "" "" 8)]) und72 (zK (off:=0) rd_3 (zK (off:=1) rd_70 (NS 3) rfl (by kernel_rfl)) rfl (by kernel_rfl)) (by kernel_rfl)) qPP (fun _=>rfl) (fun _=>show 3=_ by kernel_rfl) (fun _ h=>h)
theorem rd_23 :jS Tryz.prog 23 (λl:List qB=>[tl qG default l]) (λl:List qB=>l.length<=maxLen/\∀x∈l,qK8 x) (D_sl qLj):=
 MO (e:=72) (by kernel_rfl) (by kernel_rfl) (show 0<_ from Nat.lt_of_lt_of_eq (show 0<3 by decide) (by kernel_rfl)) rd_72
def wfBox (r:Box):Prop:=qAq r.X/\qAq r.Y/\qAq r.Z/\True
def g_Box :(Span×(Span×(Span×Unit)))->Box:=(λr:Span×(Span×(Span×Unit))=>Box.mk r.1 r.2.1 r.2.2.1)
def D_Box :∀H:Type,DataW H->Box->Prop:=HB g_Box (MV (zH qAk (zH qAk (zH qAk UH))))
theorem und128 :Tryz.prog.underlying 128=some (.struct #[(Field.mk "X" 31 0 false "" "" 0),(Field.mk "Y" 31 2 false "" "" 16),(Field.mk "Z" 31 4 false "" "" 32)]):=by kernel_rfl
theorem rd_128 :jS Tryz.prog 128 QQ wfBox D_Box:=
 ZC (jX (fs:= #[(Field.mk "X" 31 0 false "" "" 0),(Field.mk "Y" 31 2 false "" "" 16),(Field.mk "Z" 31 4 false "" "" 32)]) und128 (zK (off:=0) qHf (zK (off:=2) qHf (zK (off:=4) qHf (NS 6) rfl (by kernel_rfl)) rfl (by kernel_rfl)) rfl (by kernel_rfl)) (by kernel_rfl)) g_Box (fun _=>rfl) (fun _=>show 6=_ by kernel_rfl) (fun _ h=>h)
def qIU (r:Defect):Prop:=ZD r.Kind/\wfBox r.Box/\True
def qOT :(Int×(Box×Unit))->Defect:=(λr:Int×(Box×Unit)=>Defect.mk r.1 r.2.1)
def qIb :∀H:Type,DataW H->Defect->Prop:=HB qOT (MV (zH QR (zH D_Box UH)))
theorem und212 :Tryz.prog.underlying 212=some (.struct #[(Field.mk "Kind" 3 0 false "" "" 0),(Field.mk "Box" 128 1 false "" "" 8)]):=by kernel_rfl
theorem rd_212 :jS Tryz.prog 212 qH qIU qIb:=
 ZC (jX (fs:= #[(Field.mk "Kind" 3 0 false "" "" 0),(Field.mk "Box" 128 1 false "" "" 8)]) und212 (zK (off:=0) rd_3 (zK (off:=1) rd_128 (NS 7) rfl (by kernel_rfl)) rfl (by kernel_rfl)) (by kernel_rfl)) qOT (fun _=>rfl) (fun _=>show 7=_ by kernel_rfl) (fun _ h=>h)
theorem rd_36 :jS Tryz.prog 36 (λl:List Defect=>[tl qH default l]) (λl:List Defect=>l.length<=maxLen/\∀x∈l,qIU x) (D_sl qIb):=
 MO (e:=212) (by kernel_rfl) (by kernel_rfl) (show 0<_ from Nat.lt_of_lt_of_eq (show 0<7 by decide) (by kernel_rfl)) rd_212
theorem rd_9 :jS Tryz.prog 9 e_str strok qH4:=qOm (by kernel_rfl) (by kernel_rfl)
theorem rd_28 :jS Tryz.prog 28 (λl:List Int=>[tl e_i64 default l]) (λl:List Int=>l.length<=maxLen/\∀x∈l,ZD x) (D_sl QR):=
 MO (e:=3) (by kernel_rfl) (by kernel_rfl) (show 0<_ from Nat.lt_of_lt_of_eq (show 0<1 by decide) (by kernel_rfl)) rd_3
def qHb (r:Product):Prop:=strok r.Name/\ZD r.Thick/\ZD r.Width/\ZD r.Allow/\ZD r.Wane/\(λl:List Int=>l.length<=maxLen/\∀x∈l,ZD x) r.Lengths/\(λl:List Int=>l.length<=maxLen/\∀x∈l,ZD x) r.Prices/\True
def qMa :(ByteArray×(Int×(Int×(Int×(Int×((List Int)×((List Int)×Unit)))))))->Product:=(λr:ByteArray×(Int×(Int×(Int×(Int×((List Int)×((List Int)×Unit))))))=>Product.mk r.1 r.2.1 r.2.2.1 r.2.2.2.1 r.2.2.2.2.1 r.2.2.2.2.2.1 r.2.2.2.2.2.2.1)
def qF1 :∀H:Type,DataW H->Product->Prop:=HB qMa (MV (zH qH4 (zH QR (zH QR (zH QR (zH QR (zH (D_sl QR) (zH (D_sl QR) UH))))))))
theorem und54 :Tryz.prog.underlying 54=some (.struct #[(Field.mk "Name" 9 0 false "" "" 0),(Field.mk "Thick" 3 1 false "" "" 16),(Field.mk "Width" 3 2 false "" "" 24),(Field.mk "Allow" 3 3 false "" "" 32),(Field.mk "Wane" 3 4 false "" "" 40),(Field.mk "Lengths" 28 5 false "" "" 48),(Field.mk "Prices" 28 6 false "" "" 72)]):=by kernel_rfl
theorem rd_54 :jS Tryz.prog 54 qC qHb qF1:=
 ZC (jX (fs:= #[(Field.mk "Name" 9 0 false "" "" 0),(Field.mk "Thick" 3 1 false "" "" 16),(Field.mk "Width" 3 2 false "" "" 24),(Field.mk "Allow" 3 3 false "" "" 32),(Field.mk "Wane" 3 4 false "" "" 40),(Field.mk "Lengths" 28 5 false "" "" 48),(Field.mk "Prices" 28 6 false "" "" 72)]) und54 (zK (off:=0) rd_9 (zK (off:=1) rd_3 (zK (off:=2) rd_3 (zK (off:=3) rd_3 (zK (off:=4) rd_3 (zK (off:=5) rd_28 (zK (off:=6) rd_28 (NS 7) rfl (by kernel_rfl)) rfl (by kernel_rfl)) rfl (by kernel_rfl)) rfl (by kernel_rfl)) rfl (by kernel_rfl)) rfl (by kernel_rfl)) rfl (by kernel_rfl)) (by kernel_rfl)) qMa (fun _=>rfl) (fun _=>show 7=_ by kernel_rfl) (fun _ h=>h)
theorem rd_22 :jS Tryz.prog 22 (λl:List Product=>[tl qC default l]) (λl:List Product=>l.length<=maxLen/\∀x∈l,qHb x) (D_sl qF1):=
 MO (e:=54) (by kernel_rfl) (by kernel_rfl) (show 0<_ from Nat.lt_of_lt_of_eq (show 0<7 by decide) (by kernel_rfl)) rd_54
def qRN (r:Rect):Prop:=qAq r.X/\qAq r.Y/\True
def qRS :(Span×(Span×Unit))->Rect:=(λr:Span×(Span×Unit)=>Rect.mk r.1 r.2.1)
def qRA :∀H:Type,DataW H->Rect->Prop:=HB qRS (MV (zH qAk (zH qAk UH)))
theorem und33 :Tryz.prog.underlying 33=some (.struct #[(Field.mk "X" 31 0 false "" "" 0),(Field.mk "Y" 31 2 false "" "" 16)]):=by kernel_rfl
theorem rd_33 :jS Tryz.prog 33 qD qRN qRA:=
 ZC (jX (fs:= #[(Field.mk "X" 31 0 false "" "" 0),(Field.mk "Y" 31 2 false "" "" 16)]) und33 (zK (off:=0) qHf (zK (off:=2) qHf (NS 4) rfl (by kernel_rfl)) rfl (by kernel_rfl)) (by kernel_rfl)) qRS (fun _=>rfl) (fun _=>show 4=_ by kernel_rfl) (fun _ h=>h)
def wfSaw (r:Saw):Prop:=ZD r.Kerf/\ZD r.Trim/\ZD r.Pitch/\ZD r.Step/\True
def g_Saw :(Int×(Int×(Int×(Int×Unit))))->Saw:=(λr:Int×(Int×(Int×(Int×Unit)))=>Saw.mk r.1 r.2.1 r.2.2.1 r.2.2.2.1)
def D_Saw :∀H:Type,DataW H->Saw->Prop:=HB g_Saw (MV (zH QR (zH QR (zH QR (zH QR UH)))))
theorem und38 :Tryz.prog.underlying 38=some (.struct #[(Field.mk "Kerf" 3 0 false "" "" 0),(Field.mk "Trim" 3 1 false "" "" 8),(Field.mk "Pitch" 3 2 false "" "" 16),(Field.mk "Step" 3 3 false "" "" 24)]):=by kernel_rfl
theorem rd_38 :jS Tryz.prog 38 qQ wfSaw D_Saw:=
 ZC (jX (fs:= #[(Field.mk "Kerf" 3 0 false "" "" 0),(Field.mk "Trim" 3 1 false "" "" 8),(Field.mk "Pitch" 3 2 false "" "" 16),(Field.mk "Step" 3 3 false "" "" 24)]) und38 (zK (off:=0) rd_3 (zK (off:=1) rd_3 (zK (off:=2) rd_3 (zK (off:=3) rd_3 (NS 4) rfl (by kernel_rfl)) rfl (by kernel_rfl)) rfl (by kernel_rfl)) rfl (by kernel_rfl)) (by kernel_rfl)) g_Saw (fun _=>rfl) (fun _=>show 4=_ by kernel_rfl) (fun _ h=>h)
def qPS (r:Rates):Prop:=ZD r.Chip/\ZD r.Dust/\ZD r.Fine/\True
def qQA :(Int×(Int×(Int×Unit)))->Rates:=(λr:Int×(Int×(Int×Unit))=>Rates.mk r.1 r.2.1 r.2.2.1)
def qP5 :∀H:Type,DataW H->Rates->Prop:=HB qQA (MV (zH QR (zH QR (zH QR UH))))
theorem und40 :Tryz.prog.underlying 40=some (.struct #[(Field.mk "Chip" 3 0 false "" "" 0),(Field.mk "Dust" 3 1 false "" "" 8),(Field.mk "Fine" 3 2 false "" "" 16)]):=by kernel_rfl
theorem rd_40 :jS Tryz.prog 40 qS qPS qP5:=
 ZC (jX (fs:= #[(Field.mk "Chip" 3 0 false "" "" 0),(Field.mk "Dust" 3 1 false "" "" 8),(Field.mk "Fine" 3 2 false "" "" 16)]) und40 (zK (off:=0) rd_3 (zK (off:=1) rd_3 (zK (off:=2) rd_3 (NS 3) rfl (by kernel_rfl)) rfl (by kernel_rfl)) rfl (by kernel_rfl)) (by kernel_rfl)) qQA (fun _=>rfl) (fun _=>show 3=_ by kernel_rfl) (fun _ h=>h)
def qFx (r:Law24_Given):Prop:=(λl:List qB=>l.length<=maxLen/\∀x∈l,qK8 x) r.Solid/\(λl:List Defect=>l.length<=maxLen/\∀x∈l,qIU x) r.Defects/\(λl:List Product=>l.length<=maxLen/\∀x∈l,qHb x) r.Products/\qRN r.Frame/\wfSaw r.Saw/\qPS r.Rates/\True
def qFu :((List qB)×((List Defect)×((List Product)×(Rect×(Saw×(Rates×Unit))))))->Law24_Given:=(λr:(List qB)×((List Defect)×((List Product)×(Rect×(Saw×(Rates×Unit)))))=>Law24_Given.mk r.1 r.2.1 r.2.2.1 r.2.2.2.1 r.2.2.2.2.1 r.2.2.2.2.2.1)
def qFr :∀H:Type,DataW H->Law24_Given->Prop:=HB qFu (MV (zH (D_sl qLj) (zH (D_sl qIb) (zH (D_sl qF1) (zH qRA (zH D_Saw (zH qP5 UH)))))))
theorem und42 :Tryz.prog.underlying 42=some (.struct #[(Field.mk "Solid" 23 0 false "" "" 0),(Field.mk "Defects" 36 1 false "" "" 24),(Field.mk "Products" 22 2 false "" "" 48),(Field.mk "Frame" 33 3 false "" "" 72),(Field.mk "Saw" 38 7 false "" "" 104),(Field.mk "Rates" 40 11 false "" "" 136)]):=by kernel_rfl
theorem rd_42 :jS Tryz.prog 42 zT qFx qFr:=
 ZC (jX (fs:= #[(Field.mk "Solid" 23 0 false "" "" 0),(Field.mk "Defects" 36 1 false "" "" 24),(Field.mk "Products" 22 2 false "" "" 48),(Field.mk "Frame" 33 3 false "" "" 72),(Field.mk "Saw" 38 7 false "" "" 104),(Field.mk "Rates" 40 11 false "" "" 136)]) und42 (zK (off:=0) rd_23 (zK (off:=1) rd_36 (zK (off:=2) rd_22 (zK (off:=3) rd_33 (zK (off:=7) rd_38 (zK (off:=11) rd_40 (NS 14) rfl (by kernel_rfl)) rfl (by kernel_rfl)) rfl (by kernel_rfl)) rfl (by kernel_rfl)) rfl (by kernel_rfl)) rfl (by kernel_rfl)) (by kernel_rfl)) qFu (fun _=>rfl) (fun _=>show 14=_ by kernel_rfl) (fun _ h=>h)
def wfPiece (r:Piece):Prop:=ZD r.Size/\ZD r.At/\True
def qKX :(Int×(Int×Unit))->Piece:=(λr:Int×(Int×Unit)=>Piece.mk r.1 r.2.1)
def D_Piece :∀H:Type,DataW H->Piece->Prop:=HB qKX (MV (zH QR (zH QR UH)))
theorem und92 :Tryz.prog.underlying 92=some (.struct #[(Field.mk "Size" 3 0 false "" "" 0),(Field.mk "At" 3 1 false "" "" 8)]):=by kernel_rfl
theorem rd_92 :jS Tryz.prog 92 jA wfPiece D_Piece:=
 ZC (jX (fs:= #[(Field.mk "Size" 3 0 false "" "" 0),(Field.mk "At" 3 1 false "" "" 8)]) und92 (zK (off:=0) rd_3 (zK (off:=1) rd_3 (NS 2) rfl (by kernel_rfl)) rfl (by kernel_rfl)) (by kernel_rfl)) qKX (fun _=>rfl) (fun _=>show 2=_ by kernel_rfl) (fun _ h=>h)
section
variable {H :Type} {enc:TypeId×Value->H} {w:World} {r:Reach} {b0:Nat} {v:Value} {d:DataW H} {ps:List MemPlace}
theorem open_42 (hval:Value.okWide Tryz.prog w r b0 42 v) (hd:DataW.Trod enc Tryz.prog w 0 (λ_=>true) true 42 v d ps):∃x,qFx x/\qFr H d x/\qU w (Mem.of λ_=>True) (.agg (zT x)) v:=by
 obtain⟨x,h1,h2,h3⟩:=qLx rd_42 und42 hval hd;exact⟨x,h1,h2,h3⟩
end
theorem qSQ {W:World} (h:laidMetH Tryz.prog YtidlfgiogdjkaaaGreatDoor.Rows.planYieldsRow.laid W):qBL globs W (λ_=>True):=by
 have h':laidMet Tryz.prog YtidlfgiogdjkaaaGreatDoor.Rows.planYieldsRow.laid W:=h;obtain⟨ps,hl,_⟩:=h';obtain⟨cs,e,fz,fuel,p,hh,hd,q,hl⟩:=qSI hl (g:=0) (t:=92) (by kernel_rfl) (by kernel_rfl);obtain⟨x,_,hx2,hx3⟩:=rd_92.rd _ _ _ _ _ _ _ hd;have hx:x=qIo:=by
  obtain⟨r,rfl,ds,he,d0,rest,h0,hd0,d1,rest',h1,hd1,h2⟩:=hx3;obtain⟨a,b,u⟩:=r;subst h0;subst h1;unfold QR at hd0 hd1;subst hd0;subst hd1;injection he with he;injection he with e0 he;injection he with e1 he;injection e0 with e0;injection e1 with e1;injection e0 with _ e0;injection e1 with _ e1;simp only at e0 e1;unfold qKX qIo;rw[<-e0,<-e1]
 subst hx;intro g c hc;unfold globs at hc;rw[look_cons] at hc;split at hc
 ·rename_i hg;subst hg;cases hc;exact qS2 hh hx2
 ·cases hc
def setAll (cs:Array Value):Obj->Obj
 | .cells _ t frozen=> .cells cs t frozen
 |o=>o
noncomputable def qG5 (os:Os):World:=
 {World.holding Tryz.prog os ⟨#[], #[],[]⟩ with heap:=(World.holding Tryz.prog os ⟨#[], #[],[]⟩).heap.modify 0 (setAll #[.int .i64 (-1),.int .i64 (-1)])}
theorem laidOut :laidOutB Tryz.prog=true:=by kernel_rfl
theorem own :ownKnob Tryz.prog.godebug=none:=by kernel_rfl
end Saw
end Go.SL

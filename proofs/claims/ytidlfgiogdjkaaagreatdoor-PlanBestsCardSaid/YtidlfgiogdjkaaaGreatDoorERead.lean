/- The readings of the laws' parameters. -/
import Derived.Test.YtidlfgiogdjkaaaGreatDoorEBase
import Derived.Test.YtidlfgiogdjkaaaGreatDoorYa6
import Derived.Test.YtidlfgiogdjkaaaGreatDoorRows
import Derived.Lib.LaidTab
import Derived.Test.YtidlfgiogdjkaaaGreatDoorCards
import Derived.Test.YtidlfgiogdjkaaaGreatDoorTie
set_option linter.unusedVariables false
set_option linter.unusedSimpArgs false
namespace Go.SL
namespace Saw
open Go.Proofs Go.RowKit Go.ChangeShapes Go.WideShapes
set_option maxRecDepth 100000
theorem rd_9 :yR Tryz.prog 9 e_str strok qOu:=qVg (by kernel_rfl) (by kernel_rfl)
theorem rd_3 :yR Tryz.prog 3 qA WT WI:=q0w (by kernel_rfl) (by kernel_rfl)
theorem rd_28 :yR Tryz.prog 28 (λl:List Int=>[tl qA du l]) (λl:List Int=>l.length<=maxLen/\∀x∈l,WT x) (D_sl WI):=
 OU (e:=3) (by kernel_rfl) (by kernel_rfl) (show 0<_ from uU (show 0<1 by decide) (by kernel_rfl)) rd_3
def qKJ (r:Product):Prop:=strok r.Name/\WT r.Thick/\WT r.Width/\WT r.Allow/\WT r.Wane/\(λl:List Int=>l.length<=maxLen/\∀x∈l,WT x) r.Lengths/\(λl:List Int=>l.length<=maxLen/\∀x∈l,WT x) r.Prices/\True
def qSB :(ByteArray×(Int×(Int×(Int×(Int×((List Int)×((List Int)×Unit)))))))->Product:=(λr:ByteArray×(Int×(Int×(Int×(Int×((List Int)×((List Int)×Unit))))))=>Product.mk r.1 r.2.1 r.2.2.1 r.2.2.2.1 r.2.2.2.2.1 r.2.2.2.2.2.1 r.2.2.2.2.2.2.1)
def qKo :∀H:Type,DataW H->Product->Prop:=CH qSB (CR (wH qOu (wH WI (wH WI (wH WI (wH WI (wH (D_sl WI) (wH (D_sl WI) DF))))))))
theorem und54 :Tryz.prog.underlying 54=some (.struct #[(Field.mk "Name" 9 0 false "" "" 0),(Field.mk "Thick" 3 1 false "" "" 16),(Field.mk "Width" 3 2 false "" "" 24),(Field.mk "Allow" 3 3 false "" "" 32),(Field.mk "Wane" 3 4 false "" "" 40),(Field.mk "Lengths" 28 5 false "" "" 48),(Field.mk "Prices" 28 6 false "" "" 72)]):=by kernel_rfl
theorem rd_54 :yR Tryz.prog 54 qH qKJ qKo:=
 WM (yZ (fs:= #[(Field.mk "Name" 9 0 false "" "" 0),(Field.mk "Thick" 3 1 false "" "" 16),(Field.mk "Width" 3 2 false "" "" 24),(Field.mk "Allow" 3 3 false "" "" 32),(Field.mk "Wane" 3 4 false "" "" 40),(Field.mk "Lengths" 28 5 false "" "" 48),(Field.mk "Prices" 28 6 false "" "" 72)]) und54 (wL (off:=0) rd_9 (wL (off:=1) rd_3 (wL (off:=2) rd_3 (wL (off:=3) rd_3 (wL (off:=4) rd_3 (wL (off:=5) rd_28 (wL (off:=6) rd_28 (HD 7) rfl (by kernel_rfl)) rfl (by kernel_rfl)) rfl (by kernel_rfl)) rfl (by kernel_rfl)) rfl (by kernel_rfl)) rfl (by kernel_rfl)) rfl (by kernel_rfl)) (by kernel_rfl)) qSB (fun _=>rfl) (fun _=>show 7=_ by kernel_rfl) (fun _ h=>h)
theorem rd_22 :yR Tryz.prog 22 (λl:List Product=>[tl qH du l]) (λl:List Product=>l.length<=maxLen/\∀x∈l,qKJ x) (D_sl qKo):=
 OU (e:=54) (by kernel_rfl) (by kernel_rfl) (show 0<_ from uU (show 0<7 by decide) (by kernel_rfl)) rd_54
def qDo (r:Span):Prop:=WT r.A/\WT r.B/\True
def q0J :(Int×(Int×Unit))->Span:=(λr:Int×(Int×Unit)=>Span.mk r.1 r.2.1)
def qDe :∀H:Type,DataW H->Span->Prop:=CH q0J (CR (wH WI (wH WI DF)))
theorem und31 :Tryz.prog.underlying 31=some (.struct #[(Field.mk "A" 3 0 false "" "" 0),(Field.mk "B" 3 1 false "" "" 8)]):=by kernel_rfl
theorem qK8 :yR Tryz.prog 31 qG qDo qDe:=
 WM (yZ (fs:= #[(Field.mk "A" 3 0 false "" "" 0),(Field.mk "B" 3 1 false "" "" 8)]) und31 (wL (off:=0) rd_3 (wL (off:=1) rd_3 (HD 2) rfl (by kernel_rfl)) rfl (by kernel_rfl)) (by kernel_rfl)) q0J (fun _=>rfl) (fun _=>show 2=_ by kernel_rfl) (fun _ h=>h)
theorem rd_68 :yR Tryz.prog 68 (λl:List Span=>[tl qG du l]) (λl:List Span=>l.length<=maxLen/\∀x∈l,qDo x) (D_sl qDe):=
 OU (e:=31) (by kernel_rfl) (by kernel_rfl) (show 0<_ from uU (show 0<2 by decide) (by kernel_rfl)) qK8
def qSR (r:qQ):Prop:=WT r.Low/\(λl:List Span=>l.length<=maxLen/\∀x∈l,qDo x) r.Rows/\True
def qS4 :(Int×((List Span)×Unit))->qQ:=(λr:Int×((List Span)×Unit)=>qQ.mk r.1 r.2.1)
def qSy :∀H:Type,DataW H->qQ->Prop:=CH qS4 (CR (wH WI (wH (D_sl qDe) DF)))
theorem und70 :Tryz.prog.underlying 70=some (.struct #[(Field.mk "Low" 3 0 false "" "" 0),(Field.mk "Rows" 68 1 false "" "" 8)]):=by kernel_rfl
theorem rd_70 :yR Tryz.prog 70 zQ qSR qSy:=
 WM (yZ (fs:= #[(Field.mk "Low" 3 0 false "" "" 0),(Field.mk "Rows" 68 1 false "" "" 8)]) und70 (wL (off:=0) rd_3 (wL (off:=1) rd_68 (HD 2) rfl (by kernel_rfl)) rfl (by kernel_rfl)) (by kernel_rfl)) qS4 (fun _=>rfl) (fun _=>show 2=_ by kernel_rfl) (fun _ h=>h)
def qSs (r:qC):Prop:=WT r.Len/\qSR r.Sec/\True
def qYg :(Int×(qQ×Unit))->qC:=(λr:Int×(qQ×Unit)=>qC.mk r.1 r.2.1)
def qRm :∀H:Type,DataW H->qC->Prop:=CH qYg (CR (wH WI (wH qSy DF)))
theorem und72 :Tryz.prog.underlying 72=some (.struct #[(Field.mk "Len" 3 0 false "" "" 0),(Field.mk "Sec" 70 1 false "" "" 8)]):=by kernel_rfl
theorem rd_72 :yR Tryz.prog 72 qL qSs qRm:=
 WM (yZ (fs:= #[(Field.mk "Len" 3 0 false "" "" 0),(Field.mk "Sec" 70 1 false "" "" 8)]) und72 (wL (off:=0) rd_3 (wL (off:=1) rd_70 (HD 3) rfl (by kernel_rfl)) rfl (by kernel_rfl)) (by kernel_rfl)) qYg (fun _=>rfl) (fun _=>show 3=_ by kernel_rfl) (fun _ h=>h)
theorem rd_23 :yR Tryz.prog 23 (λl:List qC=>[tl qL du l]) (λl:List qC=>l.length<=maxLen/\∀x∈l,qSs x) (D_sl qRm):=
 OU (e:=72) (by kernel_rfl) (by kernel_rfl) (show 0<_ from uU (show 0<3 by decide) (by kernel_rfl)) rd_72
def wfBox (r:Box):Prop:=qDo r.X/\qDo r.Y/\qDo r.Z/\True
def g_Box :(Span×(Span×(Span×Unit)))->Box:=(λr:Span×(Span×(Span×Unit))=>Box.mk r.1 r.2.1 r.2.2.1)
def D_Box :∀H:Type,DataW H->Box->Prop:=CH g_Box (CR (wH qDe (wH qDe (wH qDe DF))))
theorem und128 :Tryz.prog.underlying 128=some (.struct #[(Field.mk "X" 31 0 false "" "" 0),(Field.mk "Y" 31 2 false "" "" 16),(Field.mk "Z" 31 4 false "" "" 32)]):=by kernel_rfl
theorem rd_128 :yR Tryz.prog 128 wG wfBox D_Box:=
 WM (yZ (fs:= #[(Field.mk "X" 31 0 false "" "" 0),(Field.mk "Y" 31 2 false "" "" 16),(Field.mk "Z" 31 4 false "" "" 32)]) und128 (wL (off:=0) qK8 (wL (off:=2) qK8 (wL (off:=4) qK8 (HD 6) rfl (by kernel_rfl)) rfl (by kernel_rfl)) rfl (by kernel_rfl)) (by kernel_rfl)) g_Box (fun _=>rfl) (fun _=>show 6=_ by kernel_rfl) (fun _ h=>h)
def qNU (r:qF):Prop:=WT r.Kind/\wfBox r.Box/\True
def qVz :(Int×(Box×Unit))->qF:=(λr:Int×(Box×Unit)=>qF.mk r.1 r.2.1)
def qNN :∀H:Type,DataW H->qF->Prop:=CH qVz (CR (wH WI (wH D_Box DF)))
theorem und212 :Tryz.prog.underlying 212=some (.struct #[(Field.mk "Kind" 3 0 false "" "" 0),(Field.mk "Box" 128 1 false "" "" 8)]):=by kernel_rfl
theorem rd_212 :yR Tryz.prog 212 qP qNU qNN:=
 WM (yZ (fs:= #[(Field.mk "Kind" 3 0 false "" "" 0),(Field.mk "Box" 128 1 false "" "" 8)]) und212 (wL (off:=0) rd_3 (wL (off:=1) rd_128 (HD 7) rfl (by kernel_rfl)) rfl (by kernel_rfl)) (by kernel_rfl)) qVz (fun _=>rfl) (fun _=>show 7=_ by kernel_rfl) (fun _ h=>h)
theorem rd_36 :yR Tryz.prog 36 (λl:List qF=>[tl qP du l]) (λl:List qF=>l.length<=maxLen/\∀x∈l,qNU x) (D_sl qNN):=
 OU (e:=212) (by kernel_rfl) (by kernel_rfl) (show 0<_ from uU (show 0<7 by decide) (by kernel_rfl)) rd_212
def q0U (r:Rect):Prop:=qDo r.X/\qDo r.Y/\True
def q0k :(Span×(Span×Unit))->Rect:=(λr:Span×(Span×Unit)=>Rect.mk r.1 r.2.1)
def qZK :∀H:Type,DataW H->Rect->Prop:=CH q0k (CR (wH qDe (wH qDe DF)))
theorem und33 :Tryz.prog.underlying 33=some (.struct #[(Field.mk "X" 31 0 false "" "" 0),(Field.mk "Y" 31 2 false "" "" 16)]):=by kernel_rfl
theorem rd_33 :yR Tryz.prog 33 qO q0U qZK:=
 WM (yZ (fs:= #[(Field.mk "X" 31 0 false "" "" 0),(Field.mk "Y" 31 2 false "" "" 16)]) und33 (wL (off:=0) qK8 (wL (off:=2) qK8 (HD 4) rfl (by kernel_rfl)) rfl (by kernel_rfl)) (by kernel_rfl)) q0k (fun _=>rfl) (fun _=>show 4=_ by kernel_rfl) (fun _ h=>h)
def wfSaw (r:Saw):Prop:=WT r.Kerf/\WT r.Trim/\WT r.Pitch/\WT r.Step/\True
def g_Saw :(Int×(Int×(Int×(Int×Unit))))->Saw:=(λr:Int×(Int×(Int×(Int×Unit)))=>Saw.mk r.1 r.2.1 r.2.2.1 r.2.2.2.1)
def D_Saw :∀H:Type,DataW H->Saw->Prop:=CH g_Saw (CR (wH WI (wH WI (wH WI (wH WI DF)))))
theorem und38 :Tryz.prog.underlying 38=some (.struct #[(Field.mk "Kerf" 3 0 false "" "" 0),(Field.mk "Trim" 3 1 false "" "" 8),(Field.mk "Pitch" 3 2 false "" "" 16),(Field.mk "Step" 3 3 false "" "" 24)]):=by kernel_rfl
theorem rd_38 :yR Tryz.prog 38 zW wfSaw D_Saw:=
 WM (yZ (fs:= #[(Field.mk "Kerf" 3 0 false "" "" 0),(Field.mk "Trim" 3 1 false "" "" 8),(Field.mk "Pitch" 3 2 false "" "" 16),(Field.mk "Step" 3 3 false "" "" 24)]) und38 (wL (off:=0) rd_3 (wL (off:=1) rd_3 (wL (off:=2) rd_3 (wL (off:=3) rd_3 (HD 4) rfl (by kernel_rfl)) rfl (by kernel_rfl)) rfl (by kernel_rfl)) rfl (by kernel_rfl)) (by kernel_rfl)) g_Saw (fun _=>rfl) (fun _=>show 4=_ by kernel_rfl) (fun _ h=>h)
def qXS (r:Rates):Prop:=WT r.Chip/\WT r.Dust/\WT r.Fine/\True
def qYH :(Int×(Int×(Int×Unit)))->Rates:=(λr:Int×(Int×(Int×Unit))=>Rates.mk r.1 r.2.1 r.2.2.1)
def qX7 :∀H:Type,DataW H->Rates->Prop:=CH qYH (CR (wH WI (wH WI (wH WI DF))))
theorem und40 :Tryz.prog.underlying 40=some (.struct #[(Field.mk "Chip" 3 0 false "" "" 0),(Field.mk "Dust" 3 1 false "" "" 8),(Field.mk "Fine" 3 2 false "" "" 16)]):=by kernel_rfl
theorem rd_40 :yR Tryz.prog 40 zN qXS qX7:=
 WM (yZ (fs:= #[(Field.mk "Chip" 3 0 false "" "" 0),(Field.mk "Dust" 3 1 false "" "" 8),(Field.mk "Fine" 3 2 false "" "" 16)]) und40 (wL (off:=0) rd_3 (wL (off:=1) rd_3 (wL (off:=2) rd_3 (HD 3) rfl (by kernel_rfl)) rfl (by kernel_rfl)) rfl (by kernel_rfl)) (by kernel_rfl)) qYH (fun _=>rfl) (fun _=>show 3=_ by kernel_rfl) (fun _ h=>h)
def qJn (r:zB):Prop:=(λl:List qC=>l.length<=maxLen/\∀x∈l,qSs x) r.Solid/\(λl:List qF=>l.length<=maxLen/\∀x∈l,qNU x) r.Defects/\(λl:List Product=>l.length<=maxLen/\∀x∈l,qKJ x) r.Products/\q0U r.Frame/\wfSaw r.Saw/\qXS r.Rates/\True
def qJc :((List qC)×((List qF)×((List Product)×(Rect×(Saw×(Rates×Unit))))))->zB:=(λr:(List qC)×((List qF)×((List Product)×(Rect×(Saw×(Rates×Unit)))))=>zB.mk r.1 r.2.1 r.2.2.1 r.2.2.2.1 r.2.2.2.2.1 r.2.2.2.2.2.1)
def qJi :∀H:Type,DataW H->zB->Prop:=CH qJc (CR (wH (D_sl qRm) (wH (D_sl qNN) (wH (D_sl qKo) (wH qZK (wH D_Saw (wH qX7 DF)))))))
theorem und42 :Tryz.prog.underlying 42=some (.struct #[(Field.mk "Solid" 23 0 false "" "" 0),(Field.mk "Defects" 36 1 false "" "" 24),(Field.mk "Products" 22 2 false "" "" 48),(Field.mk "Frame" 33 3 false "" "" 72),(Field.mk "Saw" 38 7 false "" "" 104),(Field.mk "Rates" 40 11 false "" "" 136)]):=by kernel_rfl
theorem rd_42 :yR Tryz.prog 42 QG qJn qJi:=
 WM (yZ (fs:= #[(Field.mk "Solid" 23 0 false "" "" 0),(Field.mk "Defects" 36 1 false "" "" 24),(Field.mk "Products" 22 2 false "" "" 48),(Field.mk "Frame" 33 3 false "" "" 72),(Field.mk "Saw" 38 7 false "" "" 104),(Field.mk "Rates" 40 11 false "" "" 136)]) und42 (wL (off:=0) rd_23 (wL (off:=1) rd_36 (wL (off:=2) rd_22 (wL (off:=3) rd_33 (wL (off:=7) rd_38 (wL (off:=11) rd_40 (HD 14) rfl (by kernel_rfl)) rfl (by kernel_rfl)) rfl (by kernel_rfl)) rfl (by kernel_rfl)) rfl (by kernel_rfl)) rfl (by kernel_rfl)) (by kernel_rfl)) qJc (fun _=>rfl) (fun _=>show 14=_ by kernel_rfl) (fun _ h=>h)
def wfPiece (r:qX):Prop:=WT r.Size/\WT r.At/\True
def qQX :(Int×(Int×Unit))->qX:=(λr:Int×(Int×Unit)=>qX.mk r.1 r.2.1)
def D_Piece :∀H:Type,DataW H->qX->Prop:=CH qQX (CR (wH WI (wH WI DF)))
theorem und92 :Tryz.prog.underlying 92=some (.struct #[(Field.mk "Size" 3 0 false "" "" 0),(Field.mk "At" 3 1 false "" "" 8)]):=by kernel_rfl
theorem rd_92 :yR Tryz.prog 92 zY wfPiece D_Piece:=
 WM (yZ (fs:= #[(Field.mk "Size" 3 0 false "" "" 0),(Field.mk "At" 3 1 false "" "" 8)]) und92 (wL (off:=0) rd_3 (wL (off:=1) rd_3 (HD 2) rfl (by kernel_rfl)) rfl (by kernel_rfl)) (by kernel_rfl)) qQX (fun _=>rfl) (fun _=>show 2=_ by kernel_rfl) (fun _ h=>h)
section
variable {H :Type} {enc:TypeId×Value->H} {w:World} {r:Reach} {b0:Nat} {v:Value} {d:DataW H} {ps:List MemPlace}
theorem open_42 (hval:Value.okWide Tryz.prog w r b0 42 v) (hd:DataW.Trod enc Tryz.prog w 0 (λ_=>true) true 42 v d ps):∃x,qJn x/\qJi H d x/\zO w (Mem.of λ_=>True) (.agg (QG x)) v:=by
 obtain⟨x,h1,h2,h3⟩:=qQV rd_42 und42 hval hd;exact⟨x,h1,h2,h3⟩
end
theorem q0Z {W:World} (h:laidMetH Tryz.prog YtidlfgiogdjkaaaGreatDoor.Rows.planYieldsRow.laid W):qIV globs W (λ_=>True):=by
 have h':laidMet Tryz.prog YtidlfgiogdjkaaaGreatDoor.Rows.planYieldsRow.laid W:=h;obtain⟨ps,hl,_⟩:=h';obtain⟨cs,e,fz,fuel,p,hh,hd,q,hl⟩:=qZ8 hl (g:=0) (t:=92) (by kernel_rfl) (by kernel_rfl);obtain⟨x,_,hx2,hx3⟩:=rd_92.rd _ _ _ _ _ _ _ hd;have hx:x=qOq:=by
  obtain⟨r,rfl,ds,he,d0,rest,h0,hd0,d1,rest',h1,hd1,h2⟩:=hx3;obtain⟨a,b,u⟩:=r;subst h0;subst h1;unfold WI at hd0 hd1;subst hd0;subst hd1;injection he with he;injection he with e0 he;injection he with e1 he;injection e0 with e0;injection e1 with e1;injection e0 with _ e0;injection e1 with _ e1;simp only at e0 e1;unfold qQX qOq;rw[<-e0,<-e1]
 subst hx;intro g c hc;unfold globs at hc;rw[look_cons] at hc;split at hc
 ·rename_i hg;subst hg;cases hc;exact q1B hh hx2
 ·cases hc
def setAll (cs:Array Value):Obj->Obj
 | .cells _ t frozen=> .cells cs t frozen
 |o=>o
noncomputable def qKS (os:Os):World:=
 {World.holding Tryz.prog os ⟨#[], #[],[]⟩ with heap:=(World.holding Tryz.prog os ⟨#[], #[],[]⟩).heap.modify 0 (setAll #[.int .i64 (-1),.int .i64 (-1)])}
theorem laidOut :laidOutB Tryz.prog=true:=by kernel_rfl
theorem own :ownKnob Tryz.prog.godebug=none:=by kernel_rfl
end Saw
end Go.SL

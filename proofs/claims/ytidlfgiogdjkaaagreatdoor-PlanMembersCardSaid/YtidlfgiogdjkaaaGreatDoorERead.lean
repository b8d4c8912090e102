/- The readings of the laws' parameters. -/
import Derived.Test.YtidlfgiogdjkaaaGreatDoorEBase
import Derived.Test.YtidlfgiogdjkaaaGreatDoorYa6
import Derived.Test.YtidlfgiogdjkaaaGreatDoorRows
import Derived.Lib.LaidTab
import Derived.Test.YtidlfgiogdjkaaaGreatDoorCards
import Derived.Test.YtidlfgiogdjkaaaGreatDoorTie
set_option linter.unusedVariables false
set_option linter.unusedSimpArgs false
namespace Go.SL
namespace Saw
open Go.Proofs Go.RowKit Go.ChangeShapes Go.WideShapes
set_option maxRecDepth 100000
theorem rd_9 :QX Tryz.prog 9 e_str strok qJa:=qPV (by kernel_rfl) (by kernel_rfl)
theorem rd_3 :QX Tryz.prog 3 e_i64 XL YR:=qTZ (by kernel_rfl) (by kernel_rfl)
theorem rd_28 :QX Tryz.prog 28 (λl:List Int=>[tl e_i64 default l]) (λl:List Int=>l.length<=maxLen/\∀x∈l,XL x) (D_sl YR):=
 qDr (e:=3) (by kernel_rfl) (by kernel_rfl) (show 0<_ from Nat.lt_of_lt_of_eq (show 0<1 by decide) (by kernel_rfl)) rd_3
def qGi (r:Product):Prop:=strok r.Name/\XL r.Thick/\XL r.Width/\XL r.Allow/\XL r.Wane/\(λl:List Int=>l.length<=maxLen/\∀x∈l,XL x) r.Lengths/\(λl:List Int=>l.length<=maxLen/\∀x∈l,XL x) r.Prices/\True
def qMU :(ByteArray×(Int×(Int×(Int×(Int×((List Int)×((List Int)×Unit)))))))->Product:=(λr:ByteArray×(Int×(Int×(Int×(Int×((List Int)×((List Int)×Unit))))))=>Product.mk r.1 r.2.1 r.2.2.1 r.2.2.2.1 r.2.2.2.2.1 r.2.2.2.2.2.1 r.2.2.2.2.2.2.1)
def qF5 :∀H:Type,DataW H->Product->Prop:=qCN qMU (qDg (wZ qJa (wZ YR (wZ YR (wZ YR (wZ YR (wZ (D_sl YR) (wZ (D_sl YR) AG))))))))
theorem und54 :Tryz.prog.underlying 54=some (.struct #[(Field.mk "Name" 9 0 false "" "" 0),(Field.mk "Thick" 3 1 false "" "" 16),(Field.mk "Width" 3 2 false "" "" 24),(Field.mk "Allow" 3 3 false "" "" 32),(Field.mk "Wane" 3 4 false "" "" 40),(Field.mk "Lengths" 28 5 false "" "" 48),(Field.mk "Prices" 28 6 false "" "" 72)]):=by kernel_rfl
theorem rd_54 :QX Tryz.prog 54 qC qGi qF5:=
 VJ (KR (fs:= #[(Field.mk "Name" 9 0 false "" "" 0),(Field.mk "Thick" 3 1 false "" "" 16),(Field.mk "Width" 3 2 false "" "" 24),(Field.mk "Allow" 3 3 false "" "" 32),(Field.mk "Wane" 3 4 false "" "" 40),(Field.mk "Lengths" 28 5 false "" "" 48),(Field.mk "Prices" 28 6 false "" "" 72)]) und54 (jK (off:=0) rd_9 (jK (off:=1) rd_3 (jK (off:=2) rd_3 (jK (off:=3) rd_3 (jK (off:=4) rd_3 (jK (off:=5) rd_28 (jK (off:=6) rd_28 (qCc 7) rfl (by kernel_rfl)) rfl (by kernel_rfl)) rfl (by kernel_rfl)) rfl (by kernel_rfl)) rfl (by kernel_rfl)) rfl (by kernel_rfl)) rfl (by kernel_rfl)) (by kernel_rfl)) qMU (fun _=>rfl) (fun _=>show 7=_ by kernel_rfl) (fun _ h=>h)
theorem rd_22 :QX Tryz.prog 22 (λl:List Product=>[tl qC default l]) (λl:List Product=>l.length<=maxLen/\∀x∈l,qGi x) (D_sl qF5):=
 qDr (e:=54) (by kernel_rfl) (by kernel_rfl) (show 0<_ from Nat.lt_of_lt_of_eq (show 0<7 by decide) (by kernel_rfl)) rd_54
theorem und22 :Tryz.prog.underlying 22=some (.slice 54):=by kernel_rfl
def qOJ (r:Span):Prop:=XL r.A/\XL r.B/\True
def qTi :(Int×(Int×Unit))->Span:=(λr:Int×(Int×Unit)=>Span.mk r.1 r.2.1)
def qO6 :∀H:Type,DataW H->Span->Prop:=qCN qTi (qDg (wZ YR (wZ YR AG)))
theorem und31 :Tryz.prog.underlying 31=some (.struct #[(Field.mk "A" 3 0 false "" "" 0),(Field.mk "B" 3 1 false "" "" 8)]):=by kernel_rfl
theorem rd_31 :QX Tryz.prog 31 e_Span qOJ qO6:=
 VJ (KR (fs:= #[(Field.mk "A" 3 0 false "" "" 0),(Field.mk "B" 3 1 false "" "" 8)]) und31 (jK (off:=0) rd_3 (jK (off:=1) rd_3 (qCc 2) rfl (by kernel_rfl)) rfl (by kernel_rfl)) (by kernel_rfl)) qTi (fun _=>rfl) (fun _=>show 2=_ by kernel_rfl) (fun _ h=>h)
def qTs (r:Rect):Prop:=qOJ r.X/\qOJ r.Y/\True
def qTw :(Span×(Span×Unit))->Rect:=(λr:Span×(Span×Unit)=>Rect.mk r.1 r.2.1)
def qTn :∀H:Type,DataW H->Rect->Prop:=qCN qTw (qDg (wZ qO6 (wZ qO6 AG)))
theorem und33 :Tryz.prog.underlying 33=some (.struct #[(Field.mk "X" 31 0 false "" "" 0),(Field.mk "Y" 31 2 false "" "" 16)]):=by kernel_rfl
theorem rd_33 :QX Tryz.prog 33 qH qTs qTn:=
 VJ (KR (fs:= #[(Field.mk "X" 31 0 false "" "" 0),(Field.mk "Y" 31 2 false "" "" 16)]) und33 (jK (off:=0) rd_31 (jK (off:=2) rd_31 (qCc 4) rfl (by kernel_rfl)) rfl (by kernel_rfl)) (by kernel_rfl)) qTw (fun _=>rfl) (fun _=>show 4=_ by kernel_rfl) (fun _ h=>h)
def wfSaw (r:Saw):Prop:=XL r.Kerf/\XL r.Trim/\XL r.Pitch/\XL r.Step/\True
def g_Saw :(Int×(Int×(Int×(Int×Unit))))->Saw:=(λr:Int×(Int×(Int×(Int×Unit)))=>Saw.mk r.1 r.2.1 r.2.2.1 r.2.2.2.1)
def D_Saw :∀H:Type,DataW H->Saw->Prop:=qCN g_Saw (qDg (wZ YR (wZ YR (wZ YR (wZ YR AG)))))
theorem und38 :Tryz.prog.underlying 38=some (.struct #[(Field.mk "Kerf" 3 0 false "" "" 0),(Field.mk "Trim" 3 1 false "" "" 8),(Field.mk "Pitch" 3 2 false "" "" 16),(Field.mk "Step" 3 3 false "" "" 24)]):=by kernel_rfl
theorem rd_38 :QX Tryz.prog 38 zD wfSaw D_Saw:=
 VJ (KR (fs:= #[(Field.mk "Kerf" 3 0 false "" "" 0),(Field.mk "Trim" 3 1 false "" "" 8),(Field.mk "Pitch" 3 2 false "" "" 16),(Field.mk "Step" 3 3 false "" "" 24)]) und38 (jK (off:=0) rd_3 (jK (off:=1) rd_3 (jK (off:=2) rd_3 (jK (off:=3) rd_3 (qCc 4) rfl (by kernel_rfl)) rfl (by kernel_rfl)) rfl (by kernel_rfl)) rfl (by kernel_rfl)) (by kernel_rfl)) g_Saw (fun _=>rfl) (fun _=>show 4=_ by kernel_rfl) (fun _ h=>h)
def qOH (r:Node):Prop:=XL r.Kind/\XL r.At/\True
def qS0 :(Int×(Int×Unit))->Node:=(λr:Int×(Int×Unit)=>Node.mk r.1 r.2.1)
def qPC :∀H:Type,DataW H->Node->Prop:=qCN qS0 (qDg (wZ YR (wZ YR AG)))
theorem und65 :Tryz.prog.underlying 65=some (.struct #[(Field.mk "Kind" 3 0 false "" "" 0),(Field.mk "At" 3 1 false "" "" 8)]):=by kernel_rfl
theorem rd_65 :QX Tryz.prog 65 e_Node qOH qPC:=
 VJ (KR (fs:= #[(Field.mk "Kind" 3 0 false "" "" 0),(Field.mk "At" 3 1 false "" "" 8)]) und65 (jK (off:=0) rd_3 (jK (off:=1) rd_3 (qCc 2) rfl (by kernel_rfl)) rfl (by kernel_rfl)) (by kernel_rfl)) qS0 (fun _=>rfl) (fun _=>show 2=_ by kernel_rfl) (fun _ h=>h)
theorem rd_44 :QX Tryz.prog 44 (λl:List Node=>[tl e_Node default l]) (λl:List Node=>l.length<=maxLen/\∀x∈l,qOH x) (D_sl qPC):=
 qDr (e:=65) (by kernel_rfl) (by kernel_rfl) (show 0<_ from Nat.lt_of_lt_of_eq (show 0<2 by decide) (by kernel_rfl)) rd_65
def qM4 (r:Pattern):Prop:=qTs r.Frame/\(λl:List Node=>l.length<=maxLen/\∀x∈l,qOH x) r.Nodes/\True
def qNg :(Rect×((List Node)×Unit))->Pattern:=(λr:Rect×((List Node)×Unit)=>Pattern.mk r.1 r.2.1)
def qNd :∀H:Type,DataW H->Pattern->Prop:=qCN qNg (qDg (wZ qTn (wZ (D_sl qPC) AG)))
theorem und46 :Tryz.prog.underlying 46=some (.struct #[(Field.mk "Frame" 33 0 false "" "" 0),(Field.mk "Nodes" 44 4 false "" "" 32)]):=by kernel_rfl
theorem rd_46 :QX Tryz.prog 46 QQ qM4 qNd:=
 VJ (KR (fs:= #[(Field.mk "Frame" 33 0 false "" "" 0),(Field.mk "Nodes" 44 4 false "" "" 32)]) und46 (jK (off:=0) rd_33 (jK (off:=4) rd_44 (qCc 5) rfl (by kernel_rfl)) rfl (by kernel_rfl)) (by kernel_rfl)) qNg (fun _=>rfl) (fun _=>show 5=_ by kernel_rfl) (fun _ h=>h)
def wfPiece (r:Piece):Prop:=XL r.Size/\XL r.At/\True
def qMv :(Int×(Int×Unit))->Piece:=(λr:Int×(Int×Unit)=>Piece.mk r.1 r.2.1)
def D_Piece :∀H:Type,DataW H->Piece->Prop:=qCN qMv (qDg (wZ YR (wZ YR AG)))
theorem und92 :Tryz.prog.underlying 92=some (.struct #[(Field.mk "Size" 3 0 false "" "" 0),(Field.mk "At" 3 1 false "" "" 8)]):=by kernel_rfl
theorem rd_92 :QX Tryz.prog 92 yI wfPiece D_Piece:=
 VJ (KR (fs:= #[(Field.mk "Size" 3 0 false "" "" 0),(Field.mk "At" 3 1 false "" "" 8)]) und92 (jK (off:=0) rd_3 (jK (off:=1) rd_3 (qCc 2) rfl (by kernel_rfl)) rfl (by kernel_rfl)) (by kernel_rfl)) qMv (fun _=>rfl) (fun _=>show 2=_ by kernel_rfl) (fun _ h=>h)
section
variable {H :Type} {enc:TypeId×Value->H} {w:World} {r:Reach} {b0:Nat} {v:Value} {d:DataW H} {ps:List MemPlace}
theorem open_22 (hval:Value.okWide Tryz.prog w r b0 22 v) (hd:DataW.Trod enc Tryz.prog w 0 (λ_=>true) true 22 v d ps):∃x:List Product,(x.length<=maxLen/\∀y∈x,qGi y)/\D_sl qF5 H d x/\qR w (Mem.of λ_=>True) (.one (tl qC default x)) v:=by
 obtain⟨x,h1,h2,h3⟩:=qN8 rd_22 und22 hval hd;exact⟨x,h1,h2,h3⟩
theorem open_46 (hval:Value.okWide Tryz.prog w r b0 46 v) (hd:DataW.Trod enc Tryz.prog w 0 (λ_=>true) true 46 v d ps):∃x,qM4 x/\qNd H d x/\qR w (Mem.of λ_=>True) (.agg (QQ x)) v:=by
 obtain⟨x,h1,h2,h3⟩:=qEl rd_46 und46 hval hd;exact⟨x,h1,h2,h3⟩
theorem open_38 (hval:Value.okWide Tryz.prog w r b0 38 v) (hd:DataW.Trod enc Tryz.prog w 0 (λ_=>true) true 38 v d ps):∃x,wfSaw x/\D_Saw H d x/\qR w (Mem.of λ_=>True) (.agg (zD x)) v:=by
 obtain⟨x,h1,h2,h3⟩:=qEl rd_38 und38 hval hd;exact⟨x,h1,h2,h3⟩
end
theorem qUO {W:World} (h:laidMetH Tryz.prog YtidlfgiogdjkaaaGreatDoor.Rows.planYieldsRow.laid W):qEX globs W (λ_=>True):=by
 have h':laidMet Tryz.prog YtidlfgiogdjkaaaGreatDoor.Rows.planYieldsRow.laid W:=h;obtain⟨ps,hl,_⟩:=h';obtain⟨cs,e,fz,fuel,p,hh,hd,q,hl⟩:=qTI hl (g:=0) (t:=92) (by kernel_rfl) (by kernel_rfl);obtain⟨x,_,hx2,hx3⟩:=rd_92.rd _ _ _ _ _ _ _ hd;have hx:x=qIE:=by
  obtain⟨r,rfl,ds,he,d0,rest,h0,hd0,d1,rest',h1,hd1,h2⟩:=hx3;obtain⟨a,b,u⟩:=r;subst h0;subst h1;unfold YR at hd0 hd1;subst hd0;subst hd1;injection he with he;injection he with e0 he;injection he with e1 he;injection e0 with e0;injection e1 with e1;injection e0 with _ e0;injection e1 with _ e1;simp only at e0 e1;unfold qMv qIE;rw[<-e0,<-e1]
 subst hx;intro g c hc;unfold globs at hc;rw[look_cons] at hc;split at hc
 ·rename_i hg;subst hg;cases hc;exact qUP hh hx2
 ·cases hc
def setAll (cs:Array Value):Obj->Obj
 | .cells _ t frozen=> .cells cs t frozen
 |o=>o
noncomputable def qF6 (os:Os):World:=
 {World.holding Tryz.prog os ⟨#[], #[],[]⟩ with heap:=(World.holding Tryz.prog os ⟨#[], #[],[]⟩).heap.modify 0 (setAll #[.int .i64 (-1),.int .i64 (-1)])}
theorem laidOut :laidOutB Tryz.prog=true:=by kernel_rfl
theorem own :ownKnob Tryz.prog.godebug=none:=by kernel_rfl
end Saw
end Go.SL

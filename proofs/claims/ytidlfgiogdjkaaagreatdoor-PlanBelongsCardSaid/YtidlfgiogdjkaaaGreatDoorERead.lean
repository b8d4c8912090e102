/- The readings of the laws' parameters. -/
import Derived.Test.YtidlfgiogdjkaaaGreatDoorEBase
import Derived.Test.YtidlfgiogdjkaaaGreatDoorYa6
import Derived.Test.YtidlfgiogdjkaaaGreatDoorRows
import Derived.Lib.LaidTab
import Derived.Test.YtidlfgiogdjkaaaGreatDoorCards
import Derived.Test.YtidlfgiogdjkaaaGreatDoorTie
set_option linter.unusedVariables false
set_option linter.unusedSimpArgs false
namespace Go.SL
namespace Saw
open Go.Proofs Go.RowKit Go.ChangeShapes Go.WideShapes
set_option maxRecDepth 100000
theorem rd_9 :jP Tryz.prog 9 e_str strok qGT:=qME (by kernel_rfl) (by kernel_rfl)
theorem rd_3 :jP Tryz.prog 3 e_i64 QY QQ:=qQR (by kernel_rfl) (by kernel_rfl)
theorem rd_28 :jP Tryz.prog 28 (λl:List Int=>[tl e_i64 default l]) (λl:List Int=>l.length<=maxLen/\∀x∈l,QY x) (D_sl QQ):=
 FR (e:=3) (by kernel_rfl) (by kernel_rfl) (show 0<_ from Nat.lt_of_lt_of_eq (show 0<1 by decide) (by kernel_rfl)) rd_3
def qFJ (r:Product):Prop:=strok r.Name/\QY r.Thick/\QY r.Width/\QY r.Allow/\QY r.Wane/\(λl:List Int=>l.length<=maxLen/\∀x∈l,QY x) r.Lengths/\(λl:List Int=>l.length<=maxLen/\∀x∈l,QY x) r.Prices/\True
def qKH :(ByteArray×(Int×(Int×(Int×(Int×((List Int)×((List Int)×Unit)))))))->Product:=(λr:ByteArray×(Int×(Int×(Int×(Int×((List Int)×((List Int)×Unit))))))=>Product.mk r.1 r.2.1 r.2.2.1 r.2.2.2.1 r.2.2.2.2.1 r.2.2.2.2.2.1 r.2.2.2.2.2.2.1)
def qEZ :∀H:Type,DataW H->Product->Prop:=LR qKH (LK (zD qGT (zD QQ (zD QQ (zD QQ (zD QQ (zD (D_sl QQ) (zD (D_sl QQ) RM))))))))
theorem und54 :Tryz.prog.underlying 54=some (.struct #[(Field.mk "Name" 9 0 false "" "" 0),(Field.mk "Thick" 3 1 false "" "" 16),(Field.mk "Width" 3 2 false "" "" 24),(Field.mk "Allow" 3 3 false "" "" 32),(Field.mk "Wane" 3 4 false "" "" 40),(Field.mk "Lengths" 28 5 false "" "" 48),(Field.mk "Prices" 28 6 false "" "" 72)]):=by kernel_rfl
theorem rd_54 :jP Tryz.prog 54 qC qFJ qEZ:=
 ZI (jX (fs:= #[(Field.mk "Name" 9 0 false "" "" 0),(Field.mk "Thick" 3 1 false "" "" 16),(Field.mk "Width" 3 2 false "" "" 24),(Field.mk "Allow" 3 3 false "" "" 32),(Field.mk "Wane" 3 4 false "" "" 40),(Field.mk "Lengths" 28 5 false "" "" 48),(Field.mk "Prices" 28 6 false "" "" 72)]) und54 (zG (off:=0) rd_9 (zG (off:=1) rd_3 (zG (off:=2) rd_3 (zG (off:=3) rd_3 (zG (off:=4) rd_3 (zG (off:=5) rd_28 (zG (off:=6) rd_28 (BQ 7) rfl (by kernel_rfl)) rfl (by kernel_rfl)) rfl (by kernel_rfl)) rfl (by kernel_rfl)) rfl (by kernel_rfl)) rfl (by kernel_rfl)) rfl (by kernel_rfl)) (by kernel_rfl)) qKH (fun _=>rfl) (fun _=>show 7=_ by kernel_rfl) (fun _ h=>h)
theorem rd_22 :jP Tryz.prog 22 (λl:List Product=>[tl qC default l]) (λl:List Product=>l.length<=maxLen/\∀x∈l,qFJ x) (D_sl qEZ):=
 FR (e:=54) (by kernel_rfl) (by kernel_rfl) (show 0<_ from Nat.lt_of_lt_of_eq (show 0<7 by decide) (by kernel_rfl)) rd_54
def CB (r:Span):Prop:=QY r.A/\QY r.B/\True
def qQb :(Int×(Int×Unit))->Span:=(λr:Int×(Int×Unit)=>Span.mk r.1 r.2.1)
def OX :∀H:Type,DataW H->Span->Prop:=LR qQb (LK (zD QQ (zD QQ RM)))
theorem und31 :Tryz.prog.underlying 31=some (.struct #[(Field.mk "A" 3 0 false "" "" 0),(Field.mk "B" 3 1 false "" "" 8)]):=by kernel_rfl
theorem qGb :jP Tryz.prog 31 e_Span CB OX:=
 ZI (jX (fs:= #[(Field.mk "A" 3 0 false "" "" 0),(Field.mk "B" 3 1 false "" "" 8)]) und31 (zG (off:=0) rd_3 (zG (off:=1) rd_3 (BQ 2) rfl (by kernel_rfl)) rfl (by kernel_rfl)) (by kernel_rfl)) qQb (fun _=>rfl) (fun _=>show 2=_ by kernel_rfl) (fun _ h=>h)
theorem rd_68 :jP Tryz.prog 68 (λl:List Span=>[tl e_Span default l]) (λl:List Span=>l.length<=maxLen/\∀x∈l,CB x) (D_sl OX):=
 FR (e:=31) (by kernel_rfl) (by kernel_rfl) (show 0<_ from Nat.lt_of_lt_of_eq (show 0<2 by decide) (by kernel_rfl)) qGb
def qKA (r:qJ):Prop:=QY r.Low/\(λl:List Span=>l.length<=maxLen/\∀x∈l,CB x) r.Rows/\True
def qKI :(Int×((List Span)×Unit))->qJ:=(λr:Int×((List Span)×Unit)=>qJ.mk r.1 r.2.1)
def qKF :∀H:Type,DataW H->qJ->Prop:=LR qKI (LK (zD QQ (zD (D_sl OX) RM)))
theorem und70 :Tryz.prog.underlying 70=some (.struct #[(Field.mk "Low" 3 0 false "" "" 0),(Field.mk "Rows" 68 1 false "" "" 8)]):=by kernel_rfl
theorem rd_70 :jP Tryz.prog 70 zQ qKA qKF:=
 ZI (jX (fs:= #[(Field.mk "Low" 3 0 false "" "" 0),(Field.mk "Rows" 68 1 false "" "" 8)]) und70 (zG (off:=0) rd_3 (zG (off:=1) rd_68 (BQ 2) rfl (by kernel_rfl)) rfl (by kernel_rfl)) (by kernel_rfl)) qKI (fun _=>rfl) (fun _=>show 2=_ by kernel_rfl) (fun _ h=>h)
def qJG (r:qA):Prop:=QY r.Len/\qKA r.Sec/\True
def qOz :(Int×(qJ×Unit))->qA:=(λr:Int×(qJ×Unit)=>qA.mk r.1 r.2.1)
def qJ5 :∀H:Type,DataW H->qA->Prop:=LR qOz (LK (zD QQ (zD qKF RM)))
theorem und72 :Tryz.prog.underlying 72=some (.struct #[(Field.mk "Len" 3 0 false "" "" 0),(Field.mk "Sec" 70 1 false "" "" 8)]):=by kernel_rfl
theorem rd_72 :jP Tryz.prog 72 qG qJG qJ5:=
 ZI (jX (fs:= #[(Field.mk "Len" 3 0 false "" "" 0),(Field.mk "Sec" 70 1 false "" "" 8)]) und72 (zG (off:=0) rd_3 (zG (off:=1) rd_70 (BQ 3) rfl (by kernel_rfl)) rfl (by kernel_rfl)) (by kernel_rfl)) qOz (fun _=>rfl) (fun _=>show 3=_ by kernel_rfl) (fun _ h=>h)
theorem rd_23 :jP Tryz.prog 23 (λl:List qA=>[tl qG default l]) (λl:List qA=>l.length<=maxLen/\∀x∈l,qJG x) (D_sl qJ5):=
 FR (e:=72) (by kernel_rfl) (by kernel_rfl) (show 0<_ from Nat.lt_of_lt_of_eq (show 0<3 by decide) (by kernel_rfl)) rd_72
def wfBox (r:Box):Prop:=CB r.X/\CB r.Y/\CB r.Z/\True
def g_Box :(Span×(Span×(Span×Unit)))->Box:=(λr:Span×(Span×(Span×Unit))=>Box.mk r.1 r.2.1 r.2.2.1)
def D_Box :∀H:Type,DataW H->Box->Prop:=LR g_Box (LK (zD OX (zD OX (zD OX RM))))
theorem und128 :Tryz.prog.underlying 128=some (.struct #[(Field.mk "X" 31 0 false "" "" 0),(Field.mk "Y" 31 2 false "" "" 16),(Field.mk "Z" 31 4 false "" "" 32)]):=by kernel_rfl
theorem rd_128 :jP Tryz.prog 128 ZF wfBox D_Box:=
 ZI (jX (fs:= #[(Field.mk "X" 31 0 false "" "" 0),(Field.mk "Y" 31 2 false "" "" 16),(Field.mk "Z" 31 4 false "" "" 32)]) und128 (zG (off:=0) qGb (zG (off:=2) qGb (zG (off:=4) qGb (BQ 6) rfl (by kernel_rfl)) rfl (by kernel_rfl)) rfl (by kernel_rfl)) (by kernel_rfl)) g_Box (fun _=>rfl) (fun _=>show 6=_ by kernel_rfl) (fun _ h=>h)
def qG6 (r:Defect):Prop:=QY r.Kind/\wfBox r.Box/\True
def qMH :(Int×(Box×Unit))->Defect:=(λr:Int×(Box×Unit)=>Defect.mk r.1 r.2.1)
def qGX :∀H:Type,DataW H->Defect->Prop:=LR qMH (LK (zD QQ (zD D_Box RM)))
theorem und212 :Tryz.prog.underlying 212=some (.struct #[(Field.mk "Kind" 3 0 false "" "" 0),(Field.mk "Box" 128 1 false "" "" 8)]):=by kernel_rfl
theorem rd_212 :jP Tryz.prog 212 qH qG6 qGX:=
 ZI (jX (fs:= #[(Field.mk "Kind" 3 0 false "" "" 0),(Field.mk "Box" 128 1 false "" "" 8)]) und212 (zG (off:=0) rd_3 (zG (off:=1) rd_128 (BQ 7) rfl (by kernel_rfl)) rfl (by kernel_rfl)) (by kernel_rfl)) qMH (fun _=>rfl) (fun _=>show 7=_ by kernel_rfl) (fun _ h=>h)
theorem rd_36 :jP Tryz.prog 36 (λl:List Defect=>[tl qH default l]) (λl:List Defect=>l.length<=maxLen/\∀x∈l,qG6 x) (D_sl qGX):=
 FR (e:=212) (by kernel_rfl) (by kernel_rfl) (show 0<_ from Nat.lt_of_lt_of_eq (show 0<7 by decide) (by kernel_rfl)) rd_212
def qRe (r:Rect):Prop:=CB r.X/\CB r.Y/\True
def qQB :(Span×(Span×Unit))->Rect:=(λr:Span×(Span×Unit)=>Rect.mk r.1 r.2.1)
def qQL :∀H:Type,DataW H->Rect->Prop:=LR qQB (LK (zD OX (zD OX RM)))
theorem und33 :Tryz.prog.underlying 33=some (.struct #[(Field.mk "X" 31 0 false "" "" 0),(Field.mk "Y" 31 2 false "" "" 16)]):=by kernel_rfl
theorem rd_33 :jP Tryz.prog 33 qE qRe qQL:=
 ZI (jX (fs:= #[(Field.mk "X" 31 0 false "" "" 0),(Field.mk "Y" 31 2 false "" "" 16)]) und33 (zG (off:=0) qGb (zG (off:=2) qGb (BQ 4) rfl (by kernel_rfl)) rfl (by kernel_rfl)) (by kernel_rfl)) qQB (fun _=>rfl) (fun _=>show 4=_ by kernel_rfl) (fun _ h=>h)
def wfSaw (r:Saw):Prop:=QY r.Kerf/\QY r.Trim/\QY r.Pitch/\QY r.Step/\True
def g_Saw :(Int×(Int×(Int×(Int×Unit))))->Saw:=(λr:Int×(Int×(Int×(Int×Unit)))=>Saw.mk r.1 r.2.1 r.2.2.1 r.2.2.2.1)
def D_Saw :∀H:Type,DataW H->Saw->Prop:=LR g_Saw (LK (zD QQ (zD QQ (zD QQ (zD QQ RM)))))
theorem und38 :Tryz.prog.underlying 38=some (.struct #[(Field.mk "Kerf" 3 0 false "" "" 0),(Field.mk "Trim" 3 1 false "" "" 8),(Field.mk "Pitch" 3 2 false "" "" 16),(Field.mk "Step" 3 3 false "" "" 24)]):=by kernel_rfl
theorem rd_38 :jP Tryz.prog 38 qU wfSaw D_Saw:=
 ZI (jX (fs:= #[(Field.mk "Kerf" 3 0 false "" "" 0),(Field.mk "Trim" 3 1 false "" "" 8),(Field.mk "Pitch" 3 2 false "" "" 16),(Field.mk "Step" 3 3 false "" "" 24)]) und38 (zG (off:=0) rd_3 (zG (off:=1) rd_3 (zG (off:=2) rd_3 (zG (off:=3) rd_3 (BQ 4) rfl (by kernel_rfl)) rfl (by kernel_rfl)) rfl (by kernel_rfl)) rfl (by kernel_rfl)) (by kernel_rfl)) g_Saw (fun _=>rfl) (fun _=>show 4=_ by kernel_rfl) (fun _ h=>h)
def qOQ (r:Rates):Prop:=QY r.Chip/\QY r.Dust/\QY r.Fine/\True
def qPd :(Int×(Int×(Int×Unit)))->Rates:=(λr:Int×(Int×(Int×Unit))=>Rates.mk r.1 r.2.1 r.2.2.1)
def qOB :∀H:Type,DataW H->Rates->Prop:=LR qPd (LK (zD QQ (zD QQ (zD QQ RM))))
theorem und40 :Tryz.prog.underlying 40=some (.struct #[(Field.mk "Chip" 3 0 false "" "" 0),(Field.mk "Dust" 3 1 false "" "" 8),(Field.mk "Fine" 3 2 false "" "" 16)]):=by kernel_rfl
theorem rd_40 :jP Tryz.prog 40 qR qOQ qOB:=
 ZI (jX (fs:= #[(Field.mk "Chip" 3 0 false "" "" 0),(Field.mk "Dust" 3 1 false "" "" 8),(Field.mk "Fine" 3 2 false "" "" 16)]) und40 (zG (off:=0) rd_3 (zG (off:=1) rd_3 (zG (off:=2) rd_3 (BQ 3) rfl (by kernel_rfl)) rfl (by kernel_rfl)) rfl (by kernel_rfl)) (by kernel_rfl)) qPd (fun _=>rfl) (fun _=>show 3=_ by kernel_rfl) (fun _ h=>h)
def qEy (r:Law24_Given):Prop:=(λl:List qA=>l.length<=maxLen/\∀x∈l,qJG x) r.Solid/\(λl:List Defect=>l.length<=maxLen/\∀x∈l,qG6 x) r.Defects/\(λl:List Product=>l.length<=maxLen/\∀x∈l,qFJ x) r.Products/\qRe r.Frame/\wfSaw r.Saw/\qOQ r.Rates/\True
def qEw :((List qA)×((List Defect)×((List Product)×(Rect×(Saw×(Rates×Unit))))))->Law24_Given:=(λr:(List qA)×((List Defect)×((List Product)×(Rect×(Saw×(Rates×Unit)))))=>Law24_Given.mk r.1 r.2.1 r.2.2.1 r.2.2.2.1 r.2.2.2.2.1 r.2.2.2.2.2.1)
def qEv :∀H:Type,DataW H->Law24_Given->Prop:=LR qEw (LK (zD (D_sl qJ5) (zD (D_sl qGX) (zD (D_sl qEZ) (zD qQL (zD D_Saw (zD qOB RM)))))))
theorem und42 :Tryz.prog.underlying 42=some (.struct #[(Field.mk "Solid" 23 0 false "" "" 0),(Field.mk "Defects" 36 1 false "" "" 24),(Field.mk "Products" 22 2 false "" "" 48),(Field.mk "Frame" 33 3 false "" "" 72),(Field.mk "Saw" 38 7 false "" "" 104),(Field.mk "Rates" 40 11 false "" "" 136)]):=by kernel_rfl
theorem rd_42 :jP Tryz.prog 42 jZ qEy qEv:=
 ZI (jX (fs:= #[(Field.mk "Solid" 23 0 false "" "" 0),(Field.mk "Defects" 36 1 false "" "" 24),(Field.mk "Products" 22 2 false "" "" 48),(Field.mk "Frame" 33 3 false "" "" 72),(Field.mk "Saw" 38 7 false "" "" 104),(Field.mk "Rates" 40 11 false "" "" 136)]) und42 (zG (off:=0) rd_23 (zG (off:=1) rd_36 (zG (off:=2) rd_22 (zG (off:=3) rd_33 (zG (off:=7) rd_38 (zG (off:=11) rd_40 (BQ 14) rfl (by kernel_rfl)) rfl (by kernel_rfl)) rfl (by kernel_rfl)) rfl (by kernel_rfl)) rfl (by kernel_rfl)) rfl (by kernel_rfl)) (by kernel_rfl)) qEw (fun _=>rfl) (fun _=>show 14=_ by kernel_rfl) (fun _ h=>h)
def wfPiece (r:Piece):Prop:=QY r.Size/\QY r.At/\True
def qJY :(Int×(Int×Unit))->Piece:=(λr:Int×(Int×Unit)=>Piece.mk r.1 r.2.1)
def D_Piece :∀H:Type,DataW H->Piece->Prop:=LR qJY (LK (zD QQ (zD QQ RM)))
theorem und92 :Tryz.prog.underlying 92=some (.struct #[(Field.mk "Size" 3 0 false "" "" 0),(Field.mk "At" 3 1 false "" "" 8)]):=by kernel_rfl
theorem rd_92 :jP Tryz.prog 92 wQ wfPiece D_Piece:=
 ZI (jX (fs:= #[(Field.mk "Size" 3 0 false "" "" 0),(Field.mk "At" 3 1 false "" "" 8)]) und92 (zG (off:=0) rd_3 (zG (off:=1) rd_3 (BQ 2) rfl (by kernel_rfl)) rfl (by kernel_rfl)) (by kernel_rfl)) qJY (fun _=>rfl) (fun _=>show 2=_ by kernel_rfl) (fun _ h=>h)
section
variable {H :Type} {enc:TypeId×Value->H} {w:World} {r:Reach} {b0:Nat} {v:Value} {d:DataW H} {ps:List MemPlace}
theorem open_42 (hval:Value.okWide Tryz.prog w r b0 42 v) (hd:DataW.Trod enc Tryz.prog w 0 (λ_=>true) true 42 v d ps):∃x,qEy x/\qEv H d x/\qQ w (Mem.of λ_=>True) (.agg (jZ x)) v:=by
 obtain⟨x,h1,h2,h3⟩:=qJE rd_42 und42 hval hd;exact⟨x,h1,h2,h3⟩
end
theorem qRm {W:World} (h:laidMetH Tryz.prog YtidlfgiogdjkaaaGreatDoor.Rows.planYieldsRow.laid W):qA0 globs W (λ_=>True):=by
 have h':laidMet Tryz.prog YtidlfgiogdjkaaaGreatDoor.Rows.planYieldsRow.laid W:=h;obtain⟨ps,hl,_⟩:=h';obtain⟨cs,e,fz,fuel,p,hh,hd,q,hl⟩:=qRh hl (g:=0) (t:=92) (by kernel_rfl) (by kernel_rfl);obtain⟨x,_,hx2,hx3⟩:=rd_92.rd _ _ _ _ _ _ _ hd;have hx:x=qG4:=by
  obtain⟨r,rfl,ds,he,d0,rest,h0,hd0,d1,rest',h1,hd1,h2⟩:=hx3;obtain⟨a,b,u⟩:=r;subst h0;subst h1;unfold QQ at hd0 hd1;subst hd0;subst hd1;injection he with he;injection he with e0 he;injection he with e1 he;injection e0 with e0;injection e1 with e1;injection e0 with _ e0;injection e1 with _ e1;simp only at e0 e1;unfold qJY qG4;rw[<-e0,<-e1]
 subst hx;intro g c hc;unfold globs at hc;rw[look_cons] at hc;split at hc
 ·rename_i hg;subst hg;cases hc;exact qRn hh hx2
 ·cases hc
def setAll (cs:Array Value):Obj->Obj
 | .cells _ t frozen=> .cells cs t frozen
 |o=>o
noncomputable def qFm (os:Os):World:=
 {World.holding Tryz.prog os ⟨#[], #[],[]⟩ with heap:=(World.holding Tryz.prog os ⟨#[], #[],[]⟩).heap.modify 0 (setAll #[.int .i64 (-1),.int .i64 (-1)])}
theorem laidOut :laidOutB Tryz.prog=true:=by kernel_rfl
theorem own :ownKnob Tryz.prog.godebug=none:=by kernel_rfl
end Saw
end Go.SL

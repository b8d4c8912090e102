/- The readings of the laws' parameters. -/
import Derived.Test.YtigmogcdifllhaaGreatDoorEBase
import Derived.Test.YtigmogcdifllhaaGreatDoorYa6
import Derived.Test.YtigmogcdifllhaaGreatDoorRows
import Derived.Lib.LaidTab
import Derived.Test.YtigmogcdifllhaaGreatDoorCards
import Derived.Test.YtigmogcdifllhaaGreatDoorTie
set_option linter.unusedVariables false
set_option linter.unusedSimpArgs false
namespace Go.SL
namespace Saw
open Go.Proofs Go.RowKit Go.ChangeShapes Go.WideShapes
set_option maxRecDepth 100000
theorem rd_3 :jH Tryz.prog 3 qD ZF QB:=qYb (by kernel_rfl) (by kernel_rfl)
def qWm (r:qA):Prop:=ZF r.X/\ZF r.Y/\True
def qWe :(Int×(Int×Unit))->qA:=(λr:Int×(Int×Unit)=>qA.mk r.1 r.2.1)
def qQj :∀H:Type,DataW H->qA->Prop:=NW qWe (NV (zY QB (zY QB RH)))
theorem und93 :Tryz.prog.underlying 93=some (.struct #[(Field.mk "X" 3 0 false "" "" 0),(Field.mk "Y" 3 1 false "" "" 8)]):=by kernel_rfl
theorem rd_93 :jH Tryz.prog 93 qE qWm qQj:=
 QV (jQ (fs:= #[(Field.mk "X" 3 0 false "" "" 0),(Field.mk "Y" 3 1 false "" "" 8)]) und93 (wB (off:=0) rd_3 (wB (off:=1) rd_3 (GU 2) rfl (by kernel_rfl)) rfl (by kernel_rfl)) (by kernel_rfl)) qWe (fun _=>rfl) (fun _=>show 2=_ by kernel_rfl) (fun _ h=>h)
theorem rd_4 :jH Tryz.prog 4 qYN (λ_=>True) qTq:=qW0 (by kernel_rfl) (by kernel_rfl)
def qJB (r:qO):Prop:=qWm r.P/\(λ_=>True) r.Ok/\True
def qRw :(qA×(Bool×Unit))->qO:=(λr:qA×(Bool×Unit)=>qO.mk r.1 r.2.1)
def qJu :∀H:Type,DataW H->qO->Prop:=NW qRw (NV (zY qQj (zY qTq RH)))
theorem und95 :Tryz.prog.underlying 95=some (.struct #[(Field.mk "P" 93 0 false "" "" 0),(Field.mk "Ok" 4 2 false "" "" 16)]):=by kernel_rfl
theorem rd_95 :jH Tryz.prog 95 qV qJB qJu:=
 QV (jQ (fs:= #[(Field.mk "P" 93 0 false "" "" 0),(Field.mk "Ok" 4 2 false "" "" 16)]) und95 (wB (off:=0) rd_93 (wB (off:=2) rd_4 (GU 3) rfl (by kernel_rfl)) rfl (by kernel_rfl)) (by kernel_rfl)) qRw (fun _=>rfl) (fun _=>show 3=_ by kernel_rfl) (fun _ h=>h)
theorem rd_69 :jH Tryz.prog 69 (λl:List qO=>[tl qV dd l]) (λl:List qO=>l.length<=maxLen/\∀x∈l,qJB x) (D_sl qJu):=
 EM (e:=95) (by kernel_rfl) (by kernel_rfl) (show 0<_ from gE (show 0<3 by decide) (by kernel_rfl)) rd_95
def qTA (r:Ring):Prop:=ZF r.Z/\(λl:List qO=>l.length<=maxLen/\∀x∈l,qJB x) r.Read/\True
def qXG :(Int×((List qO)×Unit))->Ring:=(λr:Int×((List qO)×Unit)=>Ring.mk r.1 r.2.1)
def qTO :∀H:Type,DataW H->Ring->Prop:=NW qXG (NV (zY QB (zY (D_sl qJu) RH)))
theorem und71 :Tryz.prog.underlying 71=some (.struct #[(Field.mk "Z" 3 0 false "" "" 0),(Field.mk "Read" 69 1 false "" "" 8)]):=by kernel_rfl
theorem rd_71 :jH Tryz.prog 71 qY qTA qTO:=
 QV (jQ (fs:= #[(Field.mk "Z" 3 0 false "" "" 0),(Field.mk "Read" 69 1 false "" "" 8)]) und71 (wB (off:=0) rd_3 (wB (off:=1) rd_69 (GU 2) rfl (by kernel_rfl)) rfl (by kernel_rfl)) (by kernel_rfl)) qXG (fun _=>rfl) (fun _=>show 2=_ by kernel_rfl) (fun _ h=>h)
theorem rd_22 :jH Tryz.prog 22 (λl:List Ring=>[tl qY dd l]) (λl:List Ring=>l.length<=maxLen/\∀x∈l,qTA x) (D_sl qTO):=
 EM (e:=71) (by kernel_rfl) (by kernel_rfl) (show 0<_ from gE (show 0<2 by decide) (by kernel_rfl)) rd_71
def qOM (r:Span):Prop:=ZF r.A/\ZF r.B/\True
def qX0 :(Int×(Int×Unit))->Span:=(λr:Int×(Int×Unit)=>Span.mk r.1 r.2.1)
def qPy :∀H:Type,DataW H->Span->Prop:=NW qX0 (NV (zY QB (zY QB RH)))
theorem und53 :Tryz.prog.underlying 53=some (.struct #[(Field.mk "A" 3 0 false "" "" 0),(Field.mk "B" 3 1 false "" "" 8)]):=by kernel_rfl
theorem rd_53 :jH Tryz.prog 53 qJ qOM qPy:=
 QV (jQ (fs:= #[(Field.mk "A" 3 0 false "" "" 0),(Field.mk "B" 3 1 false "" "" 8)]) und53 (wB (off:=0) rd_3 (wB (off:=1) rd_3 (GU 2) rfl (by kernel_rfl)) rfl (by kernel_rfl)) (by kernel_rfl)) qX0 (fun _=>rfl) (fun _=>show 2=_ by kernel_rfl) (fun _ h=>h)
def wfBox (r:Box):Prop:=qOM r.X/\qOM r.Y/\qOM r.Z/\True
def g_Box :(Span×(Span×(Span×Unit)))->Box:=(λr:Span×(Span×(Span×Unit))=>Box.mk r.1 r.2.1 r.2.2.1)
def D_Box :∀H:Type,DataW H->Box->Prop:=NW g_Box (NV (zY qPy (zY qPy (zY qPy RH))))
theorem und85 :Tryz.prog.underlying 85=some (.struct #[(Field.mk "X" 53 0 false "" "" 0),(Field.mk "Y" 53 2 false "" "" 16),(Field.mk "Z" 53 4 false "" "" 32)]):=by kernel_rfl
theorem rd_85 :jH Tryz.prog 85 ZG wfBox D_Box:=
 QV (jQ (fs:= #[(Field.mk "X" 53 0 false "" "" 0),(Field.mk "Y" 53 2 false "" "" 16),(Field.mk "Z" 53 4 false "" "" 32)]) und85 (wB (off:=0) rd_53 (wB (off:=2) rd_53 (wB (off:=4) rd_53 (GU 6) rfl (by kernel_rfl)) rfl (by kernel_rfl)) rfl (by kernel_rfl)) (by kernel_rfl)) g_Box (fun _=>rfl) (fun _=>show 6=_ by kernel_rfl) (fun _ h=>h)
def qNx (r:qG):Prop:=ZF r.Kind/\wfBox r.Box/\True
def qU1 :(Int×(Box×Unit))->qG:=(λr:Int×(Box×Unit)=>qG.mk r.1 r.2.1)
def qND :∀H:Type,DataW H->qG->Prop:=NW qU1 (NV (zY QB (zY D_Box RH)))
theorem und87 :Tryz.prog.underlying 87=some (.struct #[(Field.mk "Kind" 3 0 false "" "" 0),(Field.mk "Box" 85 1 false "" "" 8)]):=by kernel_rfl
theorem rd_87 :jH Tryz.prog 87 qM qNx qND:=
 QV (jQ (fs:= #[(Field.mk "Kind" 3 0 false "" "" 0),(Field.mk "Box" 85 1 false "" "" 8)]) und87 (wB (off:=0) rd_3 (wB (off:=1) rd_85 (GU 7) rfl (by kernel_rfl)) rfl (by kernel_rfl)) (by kernel_rfl)) qU1 (fun _=>rfl) (fun _=>show 7=_ by kernel_rfl) (fun _ h=>h)
theorem rd_23 :jH Tryz.prog 23 (λl:List qG=>[tl qM dd l]) (λl:List qG=>l.length<=maxLen/\∀x∈l,qNx x) (D_sl qND):=
 EM (e:=87) (by kernel_rfl) (by kernel_rfl) (show 0<_ from gE (show 0<7 by decide) (by kernel_rfl)) rd_87
def qX5 (r:Scan):Prop:=(λl:List Ring=>l.length<=maxLen/\∀x∈l,qTA x) r.Rings/\(λl:List qG=>l.length<=maxLen/\∀x∈l,qNx x) r.Defects/\True
def qX9 :((List Ring)×((List qG)×Unit))->Scan:=(λr:(List Ring)×((List qG)×Unit)=>Scan.mk r.1 r.2.1)
def qX2 :∀H:Type,DataW H->Scan->Prop:=NW qX9 (NV (zY (D_sl qTO) (zY (D_sl qND) RH)))
theorem und25 :Tryz.prog.underlying 25=some (.struct #[(Field.mk "Rings" 22 0 false "" "" 0),(Field.mk "Defects" 23 1 false "" "" 24)]):=by kernel_rfl
theorem rd_25 :jH Tryz.prog 25 wF qX5 qX2:=
 QV (jQ (fs:= #[(Field.mk "Rings" 22 0 false "" "" 0),(Field.mk "Defects" 23 1 false "" "" 24)]) und25 (wB (off:=0) rd_22 (wB (off:=1) rd_23 (GU 2) rfl (by kernel_rfl)) rfl (by kernel_rfl)) (by kernel_rfl)) qX9 (fun _=>rfl) (fun _=>show 2=_ by kernel_rfl) (fun _ h=>h)
def qMf (r:zX):Prop:=qX5 r.Scan/\ZF r.Limit/\ZF r.Most/\True
def qMd :(Scan×(Int×(Int×Unit)))->zX:=(λr:Scan×(Int×(Int×Unit))=>zX.mk r.1 r.2.1 r.2.2.1)
def qLV :∀H:Type,DataW H->zX->Prop:=NW qMd (NV (zY qX2 (zY QB (zY QB RH))))
theorem und27 :Tryz.prog.underlying 27=some (.struct #[(Field.mk "Scan" 25 0 false "" "" 0),(Field.mk "Limit" 3 2 false "" "" 48),(Field.mk "Most" 3 3 false "" "" 56)]):=by kernel_rfl
theorem rd_27 :jH Tryz.prog 27 KU qMf qLV:=
 QV (jQ (fs:= #[(Field.mk "Scan" 25 0 false "" "" 0),(Field.mk "Limit" 3 2 false "" "" 48),(Field.mk "Most" 3 3 false "" "" 56)]) und27 (wB (off:=0) rd_25 (wB (off:=2) rd_3 (wB (off:=3) rd_3 (GU 4) rfl (by kernel_rfl)) rfl (by kernel_rfl)) rfl (by kernel_rfl)) (by kernel_rfl)) qMd (fun _=>rfl) (fun _=>show 4=_ by kernel_rfl) (fun _ h=>h)
theorem rd_9 :jH Tryz.prog 9 e_str strok qMI:=qTt (by kernel_rfl) (by kernel_rfl)
theorem rd_72 :jH Tryz.prog 72 (λl:List Int=>[tl qD dd l]) (λl:List Int=>l.length<=maxLen/\∀x∈l,ZF x) (D_sl QB):=
 EM (e:=3) (by kernel_rfl) (by kernel_rfl) (show 0<_ from gE (show 0<1 by decide) (by kernel_rfl)) rd_3
def qJG (r:qF):Prop:=strok r.Name/\ZF r.Thick/\ZF r.Width/\ZF r.Allow/\ZF r.Wane/\(λl:List Int=>l.length<=maxLen/\∀x∈l,ZF x) r.Lengths/\(λl:List Int=>l.length<=maxLen/\∀x∈l,ZF x) r.Prices/\True
def qRv :(ByteArray×(Int×(Int×(Int×(Int×((List Int)×((List Int)×Unit)))))))->qF:=(λr:ByteArray×(Int×(Int×(Int×(Int×((List Int)×((List Int)×Unit))))))=>qF.mk r.1 r.2.1 r.2.2.1 r.2.2.2.1 r.2.2.2.2.1 r.2.2.2.2.2.1 r.2.2.2.2.2.2.1)
def qKL :∀H:Type,DataW H->qF->Prop:=NW qRv (NV (zY qMI (zY QB (zY QB (zY QB (zY QB (zY (D_sl QB) (zY (D_sl QB) RH))))))))
theorem und74 :Tryz.prog.underlying 74=some (.struct #[(Field.mk "Name" 9 0 false "" "" 0),(Field.mk "Thick" 3 1 false "" "" 16),(Field.mk "Width" 3 2 false "" "" 24),(Field.mk "Allow" 3 3 false "" "" 32),(Field.mk "Wane" 3 4 false "" "" 40),(Field.mk "Lengths" 72 5 false "" "" 48),(Field.mk "Prices" 72 6 false "" "" 72)]):=by kernel_rfl
theorem rd_74 :jH Tryz.prog 74 qP qJG qKL:=
 QV (jQ (fs:= #[(Field.mk "Name" 9 0 false "" "" 0),(Field.mk "Thick" 3 1 false "" "" 16),(Field.mk "Width" 3 2 false "" "" 24),(Field.mk "Allow" 3 3 false "" "" 32),(Field.mk "Wane" 3 4 false "" "" 40),(Field.mk "Lengths" 72 5 false "" "" 48),(Field.mk "Prices" 72 6 false "" "" 72)]) und74 (wB (off:=0) rd_9 (wB (off:=1) rd_3 (wB (off:=2) rd_3 (wB (off:=3) rd_3 (wB (off:=4) rd_3 (wB (off:=5) rd_72 (wB (off:=6) rd_72 (GU 7) rfl (by kernel_rfl)) rfl (by kernel_rfl)) rfl (by kernel_rfl)) rfl (by kernel_rfl)) rfl (by kernel_rfl)) rfl (by kernel_rfl)) rfl (by kernel_rfl)) (by kernel_rfl)) qRv (fun _=>rfl) (fun _=>show 7=_ by kernel_rfl) (fun _ h=>h)
theorem rd_37 :jH Tryz.prog 37 (λl:List qF=>[tl qP dd l]) (λl:List qF=>l.length<=maxLen/\∀x∈l,qJG x) (D_sl qKL):=
 EM (e:=74) (by kernel_rfl) (by kernel_rfl) (show 0<_ from gE (show 0<7 by decide) (by kernel_rfl)) rd_74
def wfSaw (r:Saw):Prop:=ZF r.Kerf/\ZF r.Trim/\ZF r.Pitch/\ZF r.Step/\True
def g_Saw :(Int×(Int×(Int×(Int×Unit))))->Saw:=(λr:Int×(Int×(Int×(Int×Unit)))=>Saw.mk r.1 r.2.1 r.2.2.1 r.2.2.2.1)
def D_Saw :∀H:Type,DataW H->Saw->Prop:=NW g_Saw (NV (zY QB (zY QB (zY QB (zY QB RH)))))
theorem und39 :Tryz.prog.underlying 39=some (.struct #[(Field.mk "Kerf" 3 0 false "" "" 0),(Field.mk "Trim" 3 1 false "" "" 8),(Field.mk "Pitch" 3 2 false "" "" 16),(Field.mk "Step" 3 3 false "" "" 24)]):=by kernel_rfl
theorem rd_39 :jH Tryz.prog 39 jW wfSaw D_Saw:=
 QV (jQ (fs:= #[(Field.mk "Kerf" 3 0 false "" "" 0),(Field.mk "Trim" 3 1 false "" "" 8),(Field.mk "Pitch" 3 2 false "" "" 16),(Field.mk "Step" 3 3 false "" "" 24)]) und39 (wB (off:=0) rd_3 (wB (off:=1) rd_3 (wB (off:=2) rd_3 (wB (off:=3) rd_3 (GU 4) rfl (by kernel_rfl)) rfl (by kernel_rfl)) rfl (by kernel_rfl)) rfl (by kernel_rfl)) (by kernel_rfl)) g_Saw (fun _=>rfl) (fun _=>show 4=_ by kernel_rfl) (fun _ h=>h)
def qWT (r:Rates):Prop:=ZF r.Chip/\ZF r.Dust/\ZF r.Fine/\True
def qWN :(Int×(Int×(Int×Unit)))->Rates:=(λr:Int×(Int×(Int×Unit))=>Rates.mk r.1 r.2.1 r.2.2.1)
def qWh :∀H:Type,DataW H->Rates->Prop:=NW qWN (NV (zY QB (zY QB (zY QB RH))))
theorem und41 :Tryz.prog.underlying 41=some (.struct #[(Field.mk "Chip" 3 0 false "" "" 0),(Field.mk "Dust" 3 1 false "" "" 8),(Field.mk "Fine" 3 2 false "" "" 16)]):=by kernel_rfl
theorem rd_41 :jH Tryz.prog 41 wC qWT qWh:=
 QV (jQ (fs:= #[(Field.mk "Chip" 3 0 false "" "" 0),(Field.mk "Dust" 3 1 false "" "" 8),(Field.mk "Fine" 3 2 false "" "" 16)]) und41 (wB (off:=0) rd_3 (wB (off:=1) rd_3 (wB (off:=2) rd_3 (GU 3) rfl (by kernel_rfl)) rfl (by kernel_rfl)) rfl (by kernel_rfl)) (by kernel_rfl)) qWN (fun _=>rfl) (fun _=>show 3=_ by kernel_rfl) (fun _ h=>h)
def qKN (r:zN):Prop:=(λl:List qF=>l.length<=maxLen/\∀x∈l,qJG x) r.Products/\wfSaw r.Saw/\qWT r.Rates/\True
def qJP :((List qF)×(Saw×(Rates×Unit)))->zN:=(λr:(List qF)×(Saw×(Rates×Unit))=>zN.mk r.1 r.2.1 r.2.2.1)
def qKD :∀H:Type,DataW H->zN->Prop:=NW qJP (NV (zY (D_sl qKL) (zY D_Saw (zY qWh RH))))
theorem und43 :Tryz.prog.underlying 43=some (.struct #[(Field.mk "Products" 37 0 false "" "" 0),(Field.mk "Saw" 39 1 false "" "" 24),(Field.mk "Rates" 41 5 false "" "" 56)]):=by kernel_rfl
theorem rd_43 :jH Tryz.prog 43 yL qKN qKD:=
 QV (jQ (fs:= #[(Field.mk "Products" 37 0 false "" "" 0),(Field.mk "Saw" 39 1 false "" "" 24),(Field.mk "Rates" 41 5 false "" "" 56)]) und43 (wB (off:=0) rd_37 (wB (off:=1) rd_39 (wB (off:=5) rd_41 (GU 8) rfl (by kernel_rfl)) rfl (by kernel_rfl)) rfl (by kernel_rfl)) (by kernel_rfl)) qJP (fun _=>rfl) (fun _=>show 8=_ by kernel_rfl) (fun _ h=>h)
def wfPiece (r:zR):Prop:=ZF r.Size/\ZF r.At/\True
def qQn :(Int×(Int×Unit))->zR:=(λr:Int×(Int×Unit)=>zR.mk r.1 r.2.1)
def D_Piece :∀H:Type,DataW H->zR->Prop:=NW qQn (NV (zY QB (zY QB RH)))
theorem und132 :Tryz.prog.underlying 132=some (.struct #[(Field.mk "Size" 3 0 false "" "" 0),(Field.mk "At" 3 1 false "" "" 8)]):=by kernel_rfl
theorem rd_132 :jH Tryz.prog 132 yY wfPiece D_Piece:=
 QV (jQ (fs:= #[(Field.mk "Size" 3 0 false "" "" 0),(Field.mk "At" 3 1 false "" "" 8)]) und132 (wB (off:=0) rd_3 (wB (off:=1) rd_3 (GU 2) rfl (by kernel_rfl)) rfl (by kernel_rfl)) (by kernel_rfl)) qQn (fun _=>rfl) (fun _=>show 2=_ by kernel_rfl) (fun _ h=>h)
section
variable {H :Type} {enc:TypeId×Value->H} {w:World} {r:Reach} {b0:Nat} {v:Value} {d:DataW H} {ps:List MemPlace}
theorem open_27 (hval:Value.okWide Tryz.prog w r b0 27 v) (hd:DataW.Trod enc Tryz.prog w 0 (λ_=>true) true 27 v d ps):∃x,qMf x/\qLV H d x/\zF w (Mem.of λ_=>True) (.agg (KU x)) v:=by
 obtain⟨x,h1,h2,h3⟩:=qG9 rd_27 und27 hval hd;exact⟨x,h1,h2,h3⟩
theorem open_43 (hval:Value.okWide Tryz.prog w r b0 43 v) (hd:DataW.Trod enc Tryz.prog w 0 (λ_=>true) true 43 v d ps):∃x,qKN x/\qKD H d x/\zF w (Mem.of λ_=>True) (.agg (yL x)) v:=by
 obtain⟨x,h1,h2,h3⟩:=qG9 rd_43 und43 hval hd;exact⟨x,h1,h2,h3⟩
end
theorem qCd {H:Type} {m n:Int} {a:qA} (h:qQj H (.agg [.lit (.int .i64 m),.lit (.int .i64 n)]) a):a=⟨m,n⟩:=by
 obtain⟨⟨x,y,u⟩,hg,ds,he,hd⟩:=h;cases he;obtain⟨d,ds,he,h1,hd⟩:=hd;cases he;obtain⟨d,ds,he,h2,hd⟩:=hd;cases he;cases h1;cases h2;exact hg.symm
theorem und204 :Tryz.prog.underlying 204=some (.array 4 93):=by kernel_rfl
theorem und213 :Tryz.prog.underlying 213=some (.array 2 3):=by kernel_rfl
theorem qYY {W:World} (h:laidMetH Tryz.prog YtigmogcdifllhaaGreatDoor.Rows.turnsPlacesRow.laid W):TS globs W (λ_=>True):=by
 have h':laidMet Tryz.prog YtigmogcdifllhaaGreatDoor.Rows.turnsPlacesRow.laid W:=h;obtain⟨ps,hl,_⟩:=h';obtain⟨c2,e2,fz2,fuel2,p2,hh2,hd2,q2,hl⟩:=qJv hl (g:=0) (t:=132) (by kernel_rfl) (by kernel_rfl);obtain⟨cs,e,fz,fuel,p,hh,hd,q,hl⟩:=qJv hl (g:=1) (t:=204) (by kernel_rfl) (by kernel_rfl);obtain⟨cs',e',fz',fuel',p',hh',hd',q',hl⟩:=qJv hl (g:=2) (t:=213) (by kernel_rfl) (by kernel_rfl);obtain⟨x,hx1,_,hx2,hx3⟩:=qUf und204 (by kernel_rfl) rd_93 hd;obtain⟨y,hy1,_,hy2,hy3⟩:=qUf und213 (by kernel_rfl) rd_3 hd';obtain⟨z,_,hz2,hz3⟩:=rd_132.rd _ _ _ _ _ _ _ hd2;have hx:x=zL:=by
  obtain⟨ds,he,_,_,hall⟩:=hx3;cases he
  match x,hx1 with
  |[a,b,c,d],_=>
   have h0:=hall 0 _ a rfl rfl;have h1:=hall 1 _ b rfl rfl;have h2:=hall 2 _ c rfl rfl;have h3:=hall 3 _ d rfl rfl;rw[qCd h0,qCd h1,qCd h2,qCd h3];rfl
 have hy:y=qHf:=by
  obtain⟨ds,he,_,_,hall⟩:=hy3;cases he
  match y,hy1 with
  |[a,b],_=>
   have h0:=hall 0 _ a rfl rfl;have h1:=hall 1 _ b rfl rfl;simp only[QB,DataW.lit.injEq,Lit.int.injEq,true_and] at h0 h1;subst h0;subst h1;rfl
 have hz:z=qM7:=by
  obtain⟨r,rfl,ds,he,d0,rest,h0,hd0,d1,rest',h1,hd1,h2⟩:=hz3;obtain⟨a,b,u⟩:=r;subst h0;subst h1;unfold QB at hd0 hd1;subst hd0;subst hd1;injection he with he;injection he with e0 he;injection he with e1 he;injection e0 with e0;injection e1 with e1;injection e0 with _ e0;injection e1 with _ e1;simp only at e0 e1;unfold qQn qM7;rw[<-e0,<-e1]
 subst hx;subst hy;subst hz;intro g c hc;unfold globs at hc;rw[look_cons] at hc;split at hc
 ·rename_i hg;subst hg;cases hc;exact qZv hh2 hz2
 ·rw[look_cons] at hc;split at hc
  ·rename_i hg;subst hg;cases hc;exact qUU (eT:=qE) (λ_=>rfl) hh hx2
  ·rw[look_cons] at hc;split at hc
   ·rename_i hg;subst hg;cases hc;exact qUU (eT:=qD) (λ_=>rfl) hh' hy2
   ·cases hc
def qU9 (cs:Array Value):Obj->Obj
 | .cells _ t frozen=> .cells cs t frozen
 |o=>o
noncomputable def qKo (os:Os):World:=
 {World.holding Tryz.prog os ⟨#[], #[],[]⟩ with heap:=(((World.holding Tryz.prog os ⟨#[], #[],[]⟩).heap.modify 0 (qU9 #[.int .i64 (-1),.int .i64 (-1)])).modify 1 (qU9 #[.int .i64 1,.int .i64 0,.int .i64 0,.int .i64 1,.int .i64 (-1),.int .i64 0,.int .i64 0,.int .i64 (-1)])).modify 2 (qU9 #[.int .i64 (-1),.int .i64 1])}
theorem laidOut :laidOutB Tryz.prog=true:=by kernel_rfl
theorem own :ownKnob Tryz.prog.godebug=none:=by kernel_rfl
end Saw
end Go.SL

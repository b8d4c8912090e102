/- The readings of the laws' parameters. -/
import Derived.Test.YtigmogcdifllhaaGreatDoorEBase
import Derived.Test.YtigmogcdifllhaaGreatDoorYa6
import Derived.Test.YtigmogcdifllhaaGreatDoorRows
import Derived.Lib.LaidTab
import Derived.Test.YtigmogcdifllhaaGreatDoorCards
import Derived.Test.YtigmogcdifllhaaGreatDoorTie
set_option linter.unusedVariables false
set_option linter.unusedSimpArgs false
namespace Go.SL
namespace Saw
open Go.Proofs Go.RowKit Go.ChangeShapes Go.WideShapes
set_option maxRecDepth 100000
theorem rd_3 :jH Tryz.prog 3 qD ZI QA:=qYH (by kernel_rfl) (by kernel_rfl)
def qWL (r:qA):Prop:=ZI r.X/\ZI r.Y/\True
def qWJ :(Int×(Int×Unit))->qA:=(λr:Int×(Int×Unit)=>qA.mk r.1 r.2.1)
def qQo :∀H:Type,DataW H->qA->Prop:=FG qWJ (FC (zY QA (zY QA RJ)))
theorem und93 :Tryz.prog.underlying 93=some (.struct #[(Field.mk "X" 3 0 false "" "" 0),(Field.mk "Y" 3 1 false "" "" 8)]):=by kernel_rfl
theorem rd_93 :jH Tryz.prog 93 qE qWL qQo:=
 QR (jR (fs:= #[(Field.mk "X" 3 0 false "" "" 0),(Field.mk "Y" 3 1 false "" "" 8)]) und93 (zZ (off:=0) rd_3 (zZ (off:=1) rd_3 (GY 2) rfl (by kernel_rfl)) rfl (by kernel_rfl)) (by kernel_rfl)) qWJ (fun _=>rfl) (fun _=>show 2=_ by kernel_rfl) (fun _ h=>h)
theorem rd_4 :jH Tryz.prog 4 qYN (λ_=>True) qTH:=qXn (by kernel_rfl) (by kernel_rfl)
def qJV (r:qO):Prop:=qWL r.P/\(λ_=>True) r.Ok/\True
def qRc :(qA×(Bool×Unit))->qO:=(λr:qA×(Bool×Unit)=>qO.mk r.1 r.2.1)
def qKp :∀H:Type,DataW H->qO->Prop:=FG qRc (FC (zY qQo (zY qTH RJ)))
theorem und95 :Tryz.prog.underlying 95=some (.struct #[(Field.mk "P" 93 0 false "" "" 0),(Field.mk "Ok" 4 2 false "" "" 16)]):=by kernel_rfl
theorem rd_95 :jH Tryz.prog 95 qV qJV qKp:=
 QR (jR (fs:= #[(Field.mk "P" 93 0 false "" "" 0),(Field.mk "Ok" 4 2 false "" "" 16)]) und95 (zZ (off:=0) rd_93 (zZ (off:=2) rd_4 (GY 3) rfl (by kernel_rfl)) rfl (by kernel_rfl)) (by kernel_rfl)) qRc (fun _=>rfl) (fun _=>show 3=_ by kernel_rfl) (fun _ h=>h)
theorem rd_69 :jH Tryz.prog 69 (λl:List qO=>[tl qV dd l]) (λl:List qO=>l.length<=maxLen/\∀x∈l,qJV x) (D_sl qKp):=
 EV (e:=95) (by kernel_rfl) (by kernel_rfl) (show 0<_ from gE (show 0<3 by decide) (by kernel_rfl)) rd_95
def qUq (r:Ring):Prop:=ZI r.Z/\(λl:List qO=>l.length<=maxLen/\∀x∈l,qJV x) r.Read/\True
def qX0 :(Int×((List qO)×Unit))->Ring:=(λr:Int×((List qO)×Unit)=>Ring.mk r.1 r.2.1)
def qTg :∀H:Type,DataW H->Ring->Prop:=FG qX0 (FC (zY QA (zY (D_sl qKp) RJ)))
theorem und71 :Tryz.prog.underlying 71=some (.struct #[(Field.mk "Z" 3 0 false "" "" 0),(Field.mk "Read" 69 1 false "" "" 8)]):=by kernel_rfl
theorem rd_71 :jH Tryz.prog 71 qY qUq qTg:=
 QR (jR (fs:= #[(Field.mk "Z" 3 0 false "" "" 0),(Field.mk "Read" 69 1 false "" "" 8)]) und71 (zZ (off:=0) rd_3 (zZ (off:=1) rd_69 (GY 2) rfl (by kernel_rfl)) rfl (by kernel_rfl)) (by kernel_rfl)) qX0 (fun _=>rfl) (fun _=>show 2=_ by kernel_rfl) (fun _ h=>h)
theorem rd_22 :jH Tryz.prog 22 (λl:List Ring=>[tl qY dd l]) (λl:List Ring=>l.length<=maxLen/\∀x∈l,qUq x) (D_sl qTg):=
 EV (e:=71) (by kernel_rfl) (by kernel_rfl) (show 0<_ from gE (show 0<2 by decide) (by kernel_rfl)) rd_71
def qOb (r:Span):Prop:=ZI r.A/\ZI r.B/\True
def qXE :(Int×(Int×Unit))->Span:=(λr:Int×(Int×Unit)=>Span.mk r.1 r.2.1)
def qOZ :∀H:Type,DataW H->Span->Prop:=FG qXE (FC (zY QA (zY QA RJ)))
theorem und53 :Tryz.prog.underlying 53=some (.struct #[(Field.mk "A" 3 0 false "" "" 0),(Field.mk "B" 3 1 false "" "" 8)]):=by kernel_rfl
theorem rd_53 :jH Tryz.prog 53 qK qOb qOZ:=
 QR (jR (fs:= #[(Field.mk "A" 3 0 false "" "" 0),(Field.mk "B" 3 1 false "" "" 8)]) und53 (zZ (off:=0) rd_3 (zZ (off:=1) rd_3 (GY 2) rfl (by kernel_rfl)) rfl (by kernel_rfl)) (by kernel_rfl)) qXE (fun _=>rfl) (fun _=>show 2=_ by kernel_rfl) (fun _ h=>h)
def wfBox (r:Box):Prop:=qOb r.X/\qOb r.Y/\qOb r.Z/\True
def g_Box :(Span×(Span×(Span×Unit)))->Box:=(λr:Span×(Span×(Span×Unit))=>Box.mk r.1 r.2.1 r.2.2.1)
def D_Box :∀H:Type,DataW H->Box->Prop:=FG g_Box (FC (zY qOZ (zY qOZ (zY qOZ RJ))))
theorem und85 :Tryz.prog.underlying 85=some (.struct #[(Field.mk "X" 53 0 false "" "" 0),(Field.mk "Y" 53 2 false "" "" 16),(Field.mk "Z" 53 4 false "" "" 32)]):=by kernel_rfl
theorem rd_85 :jH Tryz.prog 85 ZG wfBox D_Box:=
 QR (jR (fs:= #[(Field.mk "X" 53 0 false "" "" 0),(Field.mk "Y" 53 2 false "" "" 16),(Field.mk "Z" 53 4 false "" "" 32)]) und85 (zZ (off:=0) rd_53 (zZ (off:=2) rd_53 (zZ (off:=4) rd_53 (GY 6) rfl (by kernel_rfl)) rfl (by kernel_rfl)) rfl (by kernel_rfl)) (by kernel_rfl)) g_Box (fun _=>rfl) (fun _=>show 6=_ by kernel_rfl) (fun _ h=>h)
def qNI (r:qG):Prop:=ZI r.Kind/\wfBox r.Box/\True
def qTE :(Int×(Box×Unit))->qG:=(λr:Int×(Box×Unit)=>qG.mk r.1 r.2.1)
def qMP :∀H:Type,DataW H->qG->Prop:=FG qTE (FC (zY QA (zY D_Box RJ)))
theorem und87 :Tryz.prog.underlying 87=some (.struct #[(Field.mk "Kind" 3 0 false "" "" 0),(Field.mk "Box" 85 1 false "" "" 8)]):=by kernel_rfl
theorem rd_87 :jH Tryz.prog 87 qM qNI qMP:=
 QR (jR (fs:= #[(Field.mk "Kind" 3 0 false "" "" 0),(Field.mk "Box" 85 1 false "" "" 8)]) und87 (zZ (off:=0) rd_3 (zZ (off:=1) rd_85 (GY 7) rfl (by kernel_rfl)) rfl (by kernel_rfl)) (by kernel_rfl)) qTE (fun _=>rfl) (fun _=>show 7=_ by kernel_rfl) (fun _ h=>h)
theorem rd_23 :jH Tryz.prog 23 (λl:List qG=>[tl qM dd l]) (λl:List qG=>l.length<=maxLen/\∀x∈l,qNI x) (D_sl qMP):=
 EV (e:=87) (by kernel_rfl) (by kernel_rfl) (show 0<_ from gE (show 0<7 by decide) (by kernel_rfl)) rd_87
def qYj (r:Scan):Prop:=(λl:List Ring=>l.length<=maxLen/\∀x∈l,qUq x) r.Rings/\(λl:List qG=>l.length<=maxLen/\∀x∈l,qNI x) r.Defects/\True
def qXF :((List Ring)×((List qG)×Unit))->Scan:=(λr:(List Ring)×((List qG)×Unit)=>Scan.mk r.1 r.2.1)
def qX8 :∀H:Type,DataW H->Scan->Prop:=FG qXF (FC (zY (D_sl qTg) (zY (D_sl qMP) RJ)))
theorem und25 :Tryz.prog.underlying 25=some (.struct #[(Field.mk "Rings" 22 0 false "" "" 0),(Field.mk "Defects" 23 1 false "" "" 24)]):=by kernel_rfl
theorem rd_25 :jH Tryz.prog 25 wF qYj qX8:=
 QR (jR (fs:= #[(Field.mk "Rings" 22 0 false "" "" 0),(Field.mk "Defects" 23 1 false "" "" 24)]) und25 (zZ (off:=0) rd_22 (zZ (off:=1) rd_23 (GY 2) rfl (by kernel_rfl)) rfl (by kernel_rfl)) (by kernel_rfl)) qXF (fun _=>rfl) (fun _=>show 2=_ by kernel_rfl) (fun _ h=>h)
def qMb (r:zX):Prop:=qYj r.Scan/\ZI r.Limit/\ZI r.Most/\True
def qLY :(Scan×(Int×(Int×Unit)))->zX:=(λr:Scan×(Int×(Int×Unit))=>zX.mk r.1 r.2.1 r.2.2.1)
def qLW :∀H:Type,DataW H->zX->Prop:=FG qLY (FC (zY qX8 (zY QA (zY QA RJ))))
theorem und27 :Tryz.prog.underlying 27=some (.struct #[(Field.mk "Scan" 25 0 false "" "" 0),(Field.mk "Limit" 3 2 false "" "" 48),(Field.mk "Most" 3 3 false "" "" 56)]):=by kernel_rfl
theorem rd_27 :jH Tryz.prog 27 KU qMb qLW:=
 QR (jR (fs:= #[(Field.mk "Scan" 25 0 false "" "" 0),(Field.mk "Limit" 3 2 false "" "" 48),(Field.mk "Most" 3 3 false "" "" 56)]) und27 (zZ (off:=0) rd_25 (zZ (off:=2) rd_3 (zZ (off:=3) rd_3 (GY 4) rfl (by kernel_rfl)) rfl (by kernel_rfl)) rfl (by kernel_rfl)) (by kernel_rfl)) qLY (fun _=>rfl) (fun _=>show 4=_ by kernel_rfl) (fun _ h=>h)
theorem rd_9 :jH Tryz.prog 9 e_str strok qMG:=qVf (by kernel_rfl) (by kernel_rfl)
theorem rd_72 :jH Tryz.prog 72 (λl:List Int=>[tl qD dd l]) (λl:List Int=>l.length<=maxLen/\∀x∈l,ZI x) (D_sl QA):=
 EV (e:=3) (by kernel_rfl) (by kernel_rfl) (show 0<_ from gE (show 0<1 by decide) (by kernel_rfl)) rd_3
def qJv (r:qF):Prop:=strok r.Name/\ZI r.Thick/\ZI r.Width/\ZI r.Allow/\ZI r.Wane/\(λl:List Int=>l.length<=maxLen/\∀x∈l,ZI x) r.Lengths/\(λl:List Int=>l.length<=maxLen/\∀x∈l,ZI x) r.Prices/\True
def qRs :(ByteArray×(Int×(Int×(Int×(Int×((List Int)×((List Int)×Unit)))))))->qF:=(λr:ByteArray×(Int×(Int×(Int×(Int×((List Int)×((List Int)×Unit))))))=>qF.mk r.1 r.2.1 r.2.2.1 r.2.2.2.1 r.2.2.2.2.1 r.2.2.2.2.2.1 r.2.2.2.2.2.2.1)
def qKb :∀H:Type,DataW H->qF->Prop:=FG qRs (FC (zY qMG (zY QA (zY QA (zY QA (zY QA (zY (D_sl QA) (zY (D_sl QA) RJ))))))))
theorem und74 :Tryz.prog.underlying 74=some (.struct #[(Field.mk "Name" 9 0 false "" "" 0),(Field.mk "Thick" 3 1 false "" "" 16),(Field.mk "Width" 3 2 false "" "" 24),(Field.mk "Allow" 3 3 false "" "" 32),(Field.mk "Wane" 3 4 false "" "" 40),(Field.mk "Lengths" 72 5 false "" "" 48),(Field.mk "Prices" 72 6 false "" "" 72)]):=by kernel_rfl
theorem rd_74 :jH Tryz.prog 74 qP qJv qKb:=
 QR (jR (fs:= #[(Field.mk "Name" 9 0 false "" "" 0),(Field.mk "Thick" 3 1 false "" "" 16),(Field.mk "Width" 3 2 false "" "" 24),(Field.mk "Allow" 3 3 false "" "" 32),(Field.mk "Wane" 3 4 false "" "" 40),(Field.mk "Lengths" 72 5 false "" "" 48),(Field.mk "Prices" 72 6 false "" "" 72)]) und74 (zZ (off:=0) rd_9 (zZ (off:=1) rd_3 (zZ (off:=2) rd_3 (zZ (off:=3) rd_3 (zZ (off:=4) rd_3 (zZ (off:=5) rd_72 (zZ (off:=6) rd_72 (GY 7) rfl (by kernel_rfl)) rfl (by kernel_rfl)) rfl (by kernel_rfl)) rfl (by kernel_rfl)) rfl (by kernel_rfl)) rfl (by kernel_rfl)) rfl (by kernel_rfl)) (by kernel_rfl)) qRs (fun _=>rfl) (fun _=>show 7=_ by kernel_rfl) (fun _ h=>h)
theorem rd_37 :jH Tryz.prog 37 (λl:List qF=>[tl qP dd l]) (λl:List qF=>l.length<=maxLen/\∀x∈l,qJv x) (D_sl qKb):=
 EV (e:=74) (by kernel_rfl) (by kernel_rfl) (show 0<_ from gE (show 0<7 by decide) (by kernel_rfl)) rd_74
def wfSaw (r:Saw):Prop:=ZI r.Kerf/\ZI r.Trim/\ZI r.Pitch/\ZI r.Step/\True
def g_Saw :(Int×(Int×(Int×(Int×Unit))))->Saw:=(λr:Int×(Int×(Int×(Int×Unit)))=>Saw.mk r.1 r.2.1 r.2.2.1 r.2.2.2.1)
def D_Saw :∀H:Type,DataW H->Saw->Prop:=FG g_Saw (FC (zY QA (zY QA (zY QA (zY QA RJ)))))
theorem und39 :Tryz.prog.underlying 39=some (.struct #[(Field.mk "Kerf" 3 0 false "" "" 0),(Field.mk "Trim" 3 1 false "" "" 8),(Field.mk "Pitch" 3 2 false "" "" 16),(Field.mk "Step" 3 3 false "" "" 24)]):=by kernel_rfl
theorem rd_39 :jH Tryz.prog 39 jX wfSaw D_Saw:=
 QR (jR (fs:= #[(Field.mk "Kerf" 3 0 false "" "" 0),(Field.mk "Trim" 3 1 false "" "" 8),(Field.mk "Pitch" 3 2 false "" "" 16),(Field.mk "Step" 3 3 false "" "" 24)]) und39 (zZ (off:=0) rd_3 (zZ (off:=1) rd_3 (zZ (off:=2) rd_3 (zZ (off:=3) rd_3 (GY 4) rfl (by kernel_rfl)) rfl (by kernel_rfl)) rfl (by kernel_rfl)) rfl (by kernel_rfl)) (by kernel_rfl)) g_Saw (fun _=>rfl) (fun _=>show 4=_ by kernel_rfl) (fun _ h=>h)
def qWg (r:Rates):Prop:=ZI r.Chip/\ZI r.Dust/\ZI r.Fine/\True
def qWs :(Int×(Int×(Int×Unit)))->Rates:=(λr:Int×(Int×(Int×Unit))=>Rates.mk r.1 r.2.1 r.2.2.1)
def qWn :∀H:Type,DataW H->Rates->Prop:=FG qWs (FC (zY QA (zY QA (zY QA RJ))))
theorem und41 :Tryz.prog.underlying 41=some (.struct #[(Field.mk "Chip" 3 0 false "" "" 0),(Field.mk "Dust" 3 1 false "" "" 8),(Field.mk "Fine" 3 2 false "" "" 16)]):=by kernel_rfl
theorem rd_41 :jH Tryz.prog 41 wC qWg qWn:=
 QR (jR (fs:= #[(Field.mk "Chip" 3 0 false "" "" 0),(Field.mk "Dust" 3 1 false "" "" 8),(Field.mk "Fine" 3 2 false "" "" 16)]) und41 (zZ (off:=0) rd_3 (zZ (off:=1) rd_3 (zZ (off:=2) rd_3 (GY 3) rfl (by kernel_rfl)) rfl (by kernel_rfl)) rfl (by kernel_rfl)) (by kernel_rfl)) qWs (fun _=>rfl) (fun _=>show 3=_ by kernel_rfl) (fun _ h=>h)
def qJZ (r:zN):Prop:=(λl:List qF=>l.length<=maxLen/\∀x∈l,qJv x) r.Products/\wfSaw r.Saw/\qWg r.Rates/\True
def qJG :((List qF)×(Saw×(Rates×Unit)))->zN:=(λr:(List qF)×(Saw×(Rates×Unit))=>zN.mk r.1 r.2.1 r.2.2.1)
def qJ9 :∀H:Type,DataW H->zN->Prop:=FG qJG (FC (zY (D_sl qKb) (zY D_Saw (zY qWn RJ))))
theorem und43 :Tryz.prog.underlying 43=some (.struct #[(Field.mk "Products" 37 0 false "" "" 0),(Field.mk "Saw" 39 1 false "" "" 24),(Field.mk "Rates" 41 5 false "" "" 56)]):=by kernel_rfl
theorem rd_43 :jH Tryz.prog 43 yL qJZ qJ9:=
 QR (jR (fs:= #[(Field.mk "Products" 37 0 false "" "" 0),(Field.mk "Saw" 39 1 false "" "" 24),(Field.mk "Rates" 41 5 false "" "" 56)]) und43 (zZ (off:=0) rd_37 (zZ (off:=1) rd_39 (zZ (off:=5) rd_41 (GY 8) rfl (by kernel_rfl)) rfl (by kernel_rfl)) rfl (by kernel_rfl)) (by kernel_rfl)) qJG (fun _=>rfl) (fun _=>show 8=_ by kernel_rfl) (fun _ h=>h)
def wfPiece (r:zR):Prop:=ZI r.Size/\ZI r.At/\True
def qQq :(Int×(Int×Unit))->zR:=(λr:Int×(Int×Unit)=>zR.mk r.1 r.2.1)
def D_Piece :∀H:Type,DataW H->zR->Prop:=FG qQq (FC (zY QA (zY QA RJ)))
theorem und132 :Tryz.prog.underlying 132=some (.struct #[(Field.mk "Size" 3 0 false "" "" 0),(Field.mk "At" 3 1 false "" "" 8)]):=by kernel_rfl
theorem rd_132 :jH Tryz.prog 132 yX wfPiece D_Piece:=
 QR (jR (fs:= #[(Field.mk "Size" 3 0 false "" "" 0),(Field.mk "At" 3 1 false "" "" 8)]) und132 (zZ (off:=0) rd_3 (zZ (off:=1) rd_3 (GY 2) rfl (by kernel_rfl)) rfl (by kernel_rfl)) (by kernel_rfl)) qQq (fun _=>rfl) (fun _=>show 2=_ by kernel_rfl) (fun _ h=>h)
section
variable {H :Type} {enc:TypeId×Value->H} {w:World} {r:Reach} {b0:Nat} {v:Value} {d:DataW H} {ps:List MemPlace}
theorem open_27 (hval:Value.okWide Tryz.prog w r b0 27 v) (hd:DataW.Trod enc Tryz.prog w 0 (λ_=>true) true 27 v d ps):∃x,qMb x/\qLW H d x/\zF w (Mem.of λ_=>True) (.agg (KU x)) v:=by
 obtain⟨x,h1,h2,h3⟩:=qHo rd_27 und27 hval hd;exact⟨x,h1,h2,h3⟩
theorem open_43 (hval:Value.okWide Tryz.prog w r b0 43 v) (hd:DataW.Trod enc Tryz.prog w 0 (λ_=>true) true 43 v d ps):∃x,qJZ x/\qJ9 H d x/\zF w (Mem.of λ_=>True) (.agg (yL x)) v:=by
 obtain⟨x,h1,h2,h3⟩:=qHo rd_43 und43 hval hd;exact⟨x,h1,h2,h3⟩
end
theorem qB7 {H:Type} {m n:Int} {a:qA} (h:qQo H (.agg [.lit (.int .i64 m),.lit (.int .i64 n)]) a):a=⟨m,n⟩:=by
 obtain⟨⟨x,y,u⟩,hg,ds,he,hd⟩:=h;cases he;obtain⟨d,ds,he,h1,hd⟩:=hd;cases he;obtain⟨d,ds,he,h2,hd⟩:=hd;cases he;cases h1;cases h2;exact hg.symm
theorem und204 :Tryz.prog.underlying 204=some (.array 4 93):=by kernel_rfl
theorem und213 :Tryz.prog.underlying 213=some (.array 2 3):=by kernel_rfl
theorem qZu {W:World} (h:laidMetH Tryz.prog YtigmogcdifllhaaGreatDoor.Rows.turnsPlacesRow.laid W):TL globs W (λ_=>True):=by
 have h':laidMet Tryz.prog YtigmogcdifllhaaGreatDoor.Rows.turnsPlacesRow.laid W:=h;obtain⟨ps,hl,_⟩:=h';obtain⟨c2,e2,fz2,fuel2,p2,hh2,hd2,q2,hl⟩:=qJ3 hl (g:=0) (t:=132) (by kernel_rfl) (by kernel_rfl);obtain⟨cs,e,fz,fuel,p,hh,hd,q,hl⟩:=qJ3 hl (g:=1) (t:=204) (by kernel_rfl) (by kernel_rfl);obtain⟨cs',e',fz',fuel',p',hh',hd',q',hl⟩:=qJ3 hl (g:=2) (t:=213) (by kernel_rfl) (by kernel_rfl);obtain⟨x,hx1,_,hx2,hx3⟩:=qUY und204 (by kernel_rfl) rd_93 hd;obtain⟨y,hy1,_,hy2,hy3⟩:=qUY und213 (by kernel_rfl) rd_3 hd';obtain⟨z,_,hz2,hz3⟩:=rd_132.rd _ _ _ _ _ _ _ hd2;have hx:x=zL:=by
  obtain⟨ds,he,_,_,hall⟩:=hx3;cases he
  match x,hx1 with
  |[a,b,c,d],_=>
   have h0:=hall 0 _ a rfl rfl;have h1:=hall 1 _ b rfl rfl;have h2:=hall 2 _ c rfl rfl;have h3:=hall 3 _ d rfl rfl;rw[qB7 h0,qB7 h1,qB7 h2,qB7 h3];rfl
 have hy:y=qHp:=by
  obtain⟨ds,he,_,_,hall⟩:=hy3;cases he
  match y,hy1 with
  |[a,b],_=>
   have h0:=hall 0 _ a rfl rfl;have h1:=hall 1 _ b rfl rfl;simp only[QA,DataW.lit.injEq,Lit.int.injEq,true_and] at h0 h1;subst h0;subst h1;rfl
 have hz:z=qNB:=by
  obtain⟨r,rfl,ds,he,d0,rest,h0,hd0,d1,rest',h1,hd1,h2⟩:=hz3;obtain⟨a,b,u⟩:=r;subst h0;subst h1;unfold QA at hd0 hd1;subst hd0;subst hd1;injection he with he;injection he with e0 he;injection he with e1 he;injection e0 with e0;injection e1 with e1;injection e0 with _ e0;injection e1 with _ e1;simp only at e0 e1;unfold qQq qNB;rw[<-e0,<-e1]
 subst hx;subst hy;subst hz;intro g c hc;unfold globs at hc;rw[look_cons] at hc;split at hc
 ·rename_i hg;subst hg;cases hc;exact qY1 hh2 hz2
 ·rw[look_cons] at hc;split at hc
  ·rename_i hg;subst hg;cases hc;exact qT2 (eT:=qE) (λ_=>rfl) hh hx2
  ·rw[look_cons] at hc;split at hc
   ·rename_i hg;subst hg;cases hc;exact qT2 (eT:=qD) (λ_=>rfl) hh' hy2
   ·cases hc
def qUF (cs:Array Value):Obj->Obj
 | .cells _ t frozen=> .cells cs t frozen
 |o=>o
noncomputable def qKN (os:Os):World:=
 {World.holding Tryz.prog os ⟨#[], #[],[]⟩ with heap:=(((World.holding Tryz.prog os ⟨#[], #[],[]⟩).heap.modify 0 (qUF #[.int .i64 (-1),.int .i64 (-1)])).modify 1 (qUF #[.int .i64 1,.int .i64 0,.int .i64 0,.int .i64 1,.int .i64 (-1),.int .i64 0,.int .i64 0,.int .i64 (-1)])).modify 2 (qUF #[.int .i64 (-1),.int .i64 1])}
theorem laidOut :laidOutB Tryz.prog=true:=by kernel_rfl
theorem own :ownKnob Tryz.prog.godebug=none:=by kernel_rfl
end Saw
end Go.SL

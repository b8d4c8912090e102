/- The readings of the laws' parameters. -/
import Derived.Test.YtigmogcdifllhaaGreatDoorEBase
import Derived.Test.YtigmogcdifllhaaGreatDoorYa6
import Derived.Test.YtigmogcdifllhaaGreatDoorRows
import Derived.Lib.LaidTab
import Derived.Test.YtigmogcdifllhaaGreatDoorCards
import Derived.Test.YtigmogcdifllhaaGreatDoorTie
set_option linter.unusedVariables false
set_option linter.unusedSimpArgs false
namespace Go.SL
namespace Saw
open Go.Proofs Go.RowKit Go.ChangeShapes Go.WideShapes
set_option maxRecDepth 100000
theorem rd_3 :jK Tryz.prog 3 qD ZL QE:=qZc (by kernel_rfl) (by kernel_rfl)
def qW0 (r:qA):Prop:=ZL r.X/\ZL r.Y/\True
def qWT :(Int×(Int×Unit))->qA:=(λr:Int×(Int×Unit)=>qA.mk r.1 r.2.1)
def qRn :∀H:Type,DataW H->qA->Prop:=FY qWT (FT (zY QE (zY QE RR)))
theorem und93 :Tryz.prog.underlying 93=some (.struct #[(Field.mk "X" 3 0 false "" "" 0),(Field.mk "Y" 3 1 false "" "" 8)]):=by kernel_rfl
theorem rd_93 :jK Tryz.prog 93 qF qW0 qRn:=
 QW (jW (fs:= #[(Field.mk "X" 3 0 false "" "" 0),(Field.mk "Y" 3 1 false "" "" 8)]) und93 (zZ (off:=0) rd_3 (zZ (off:=1) rd_3 (GM 2) rfl (by kernel_rfl)) rfl (by kernel_rfl)) (by kernel_rfl)) qWT (fun _=>rfl) (fun _=>show 2=_ by kernel_rfl) (fun _ h=>h)
theorem rd_4 :jK Tryz.prog 4 qYg (λ_=>True) qVA:=qX3 (by kernel_rfl) (by kernel_rfl)
def qKc (r:qO):Prop:=qW0 r.P/\(λ_=>True) r.Ok/\True
def qSb :(qA×(Bool×Unit))->qO:=(λr:qA×(Bool×Unit)=>qO.mk r.1 r.2.1)
def qJ9 :∀H:Type,DataW H->qO->Prop:=FY qSb (FT (zY qRn (zY qVA RR)))
theorem und95 :Tryz.prog.underlying 95=some (.struct #[(Field.mk "P" 93 0 false "" "" 0),(Field.mk "Ok" 4 2 false "" "" 16)]):=by kernel_rfl
theorem rd_95 :jK Tryz.prog 95 qV qKc qJ9:=
 QW (jW (fs:= #[(Field.mk "P" 93 0 false "" "" 0),(Field.mk "Ok" 4 2 false "" "" 16)]) und95 (zZ (off:=0) rd_93 (zZ (off:=2) rd_4 (GM 3) rfl (by kernel_rfl)) rfl (by kernel_rfl)) (by kernel_rfl)) qSb (fun _=>rfl) (fun _=>show 3=_ by kernel_rfl) (fun _ h=>h)
theorem rd_69 :jK Tryz.prog 69 (λl:List qO=>[tl qV dd l]) (λl:List qO=>l.length<=maxLen/\∀x∈l,qKc x) (D_sl qJ9):=
 AC (e:=95) (by kernel_rfl) (by kernel_rfl) (show 0<_ from gF (show 0<3 by decide) (by kernel_rfl)) rd_95
def qTO (r:Ring):Prop:=ZL r.Z/\(λl:List qO=>l.length<=maxLen/\∀x∈l,qKc x) r.Read/\True
def qYN :(Int×((List qO)×Unit))->Ring:=(λr:Int×((List qO)×Unit)=>Ring.mk r.1 r.2.1)
def qTN :∀H:Type,DataW H->Ring->Prop:=FY qYN (FT (zY QE (zY (D_sl qJ9) RR)))
theorem und71 :Tryz.prog.underlying 71=some (.struct #[(Field.mk "Z" 3 0 false "" "" 0),(Field.mk "Read" 69 1 false "" "" 8)]):=by kernel_rfl
theorem rd_71 :jK Tryz.prog 71 qX qTO qTN:=
 QW (jW (fs:= #[(Field.mk "Z" 3 0 false "" "" 0),(Field.mk "Read" 69 1 false "" "" 8)]) und71 (zZ (off:=0) rd_3 (zZ (off:=1) rd_69 (GM 2) rfl (by kernel_rfl)) rfl (by kernel_rfl)) (by kernel_rfl)) qYN (fun _=>rfl) (fun _=>show 2=_ by kernel_rfl) (fun _ h=>h)
theorem rd_22 :jK Tryz.prog 22 (λl:List Ring=>[tl qX dd l]) (λl:List Ring=>l.length<=maxLen/\∀x∈l,qTO x) (D_sl qTN):=
 AC (e:=71) (by kernel_rfl) (by kernel_rfl) (show 0<_ from gF (show 0<2 by decide) (by kernel_rfl)) rd_71
def qPQ (r:Span):Prop:=ZL r.A/\ZL r.B/\True
def qZb :(Int×(Int×Unit))->Span:=(λr:Int×(Int×Unit)=>Span.mk r.1 r.2.1)
def qQv :∀H:Type,DataW H->Span->Prop:=FY qZb (FT (zY QE (zY QE RR)))
theorem und53 :Tryz.prog.underlying 53=some (.struct #[(Field.mk "A" 3 0 false "" "" 0),(Field.mk "B" 3 1 false "" "" 8)]):=by kernel_rfl
theorem rd_53 :jK Tryz.prog 53 qK qPQ qQv:=
 QW (jW (fs:= #[(Field.mk "A" 3 0 false "" "" 0),(Field.mk "B" 3 1 false "" "" 8)]) und53 (zZ (off:=0) rd_3 (zZ (off:=1) rd_3 (GM 2) rfl (by kernel_rfl)) rfl (by kernel_rfl)) (by kernel_rfl)) qZb (fun _=>rfl) (fun _=>show 2=_ by kernel_rfl) (fun _ h=>h)
def wfBox (r:Box):Prop:=qPQ r.X/\qPQ r.Y/\qPQ r.Z/\True
def g_Box :(Span×(Span×(Span×Unit)))->Box:=(λr:Span×(Span×(Span×Unit))=>Box.mk r.1 r.2.1 r.2.2.1)
def D_Box :∀H:Type,DataW H->Box->Prop:=FY g_Box (FT (zY qQv (zY qQv (zY qQv RR))))
theorem und85 :Tryz.prog.underlying 85=some (.struct #[(Field.mk "X" 53 0 false "" "" 0),(Field.mk "Y" 53 2 false "" "" 16),(Field.mk "Z" 53 4 false "" "" 32)]):=by kernel_rfl
theorem rd_85 :jK Tryz.prog 85 ZJ wfBox D_Box:=
 QW (jW (fs:= #[(Field.mk "X" 53 0 false "" "" 0),(Field.mk "Y" 53 2 false "" "" 16),(Field.mk "Z" 53 4 false "" "" 32)]) und85 (zZ (off:=0) rd_53 (zZ (off:=2) rd_53 (zZ (off:=4) rd_53 (GM 6) rfl (by kernel_rfl)) rfl (by kernel_rfl)) rfl (by kernel_rfl)) (by kernel_rfl)) g_Box (fun _=>rfl) (fun _=>show 6=_ by kernel_rfl) (fun _ h=>h)
def qNd (r:qG):Prop:=ZL r.Kind/\wfBox r.Box/\True
def qVs :(Int×(Box×Unit))->qG:=(λr:Int×(Box×Unit)=>qG.mk r.1 r.2.1)
def qNF :∀H:Type,DataW H->qG->Prop:=FY qVs (FT (zY QE (zY D_Box RR)))
theorem und87 :Tryz.prog.underlying 87=some (.struct #[(Field.mk "Kind" 3 0 false "" "" 0),(Field.mk "Box" 85 1 false "" "" 8)]):=by kernel_rfl
theorem rd_87 :jK Tryz.prog 87 qM qNd qNF:=
 QW (jW (fs:= #[(Field.mk "Kind" 3 0 false "" "" 0),(Field.mk "Box" 85 1 false "" "" 8)]) und87 (zZ (off:=0) rd_3 (zZ (off:=1) rd_85 (GM 7) rfl (by kernel_rfl)) rfl (by kernel_rfl)) (by kernel_rfl)) qVs (fun _=>rfl) (fun _=>show 7=_ by kernel_rfl) (fun _ h=>h)
theorem rd_23 :jK Tryz.prog 23 (λl:List qG=>[tl qM dd l]) (λl:List qG=>l.length<=maxLen/\∀x∈l,qNd x) (D_sl qNF):=
 AC (e:=87) (by kernel_rfl) (by kernel_rfl) (show 0<_ from gF (show 0<7 by decide) (by kernel_rfl)) rd_87
def qY9 (r:Scan):Prop:=(λl:List Ring=>l.length<=maxLen/\∀x∈l,qTO x) r.Rings/\(λl:List qG=>l.length<=maxLen/\∀x∈l,qNd x) r.Defects/\True
def qYj :((List Ring)×((List qG)×Unit))->Scan:=(λr:(List Ring)×((List qG)×Unit)=>Scan.mk r.1 r.2.1)
def qYP :∀H:Type,DataW H->Scan->Prop:=FY qYj (FT (zY (D_sl qTN) (zY (D_sl qNF) RR)))
theorem und25 :Tryz.prog.underlying 25=some (.struct #[(Field.mk "Rings" 22 0 false "" "" 0),(Field.mk "Defects" 23 1 false "" "" 24)]):=by kernel_rfl
theorem rd_25 :jK Tryz.prog 25 wE qY9 qYP:=
 QW (jW (fs:= #[(Field.mk "Rings" 22 0 false "" "" 0),(Field.mk "Defects" 23 1 false "" "" 24)]) und25 (zZ (off:=0) rd_22 (zZ (off:=1) rd_23 (GM 2) rfl (by kernel_rfl)) rfl (by kernel_rfl)) (by kernel_rfl)) qYj (fun _=>rfl) (fun _=>show 2=_ by kernel_rfl) (fun _ h=>h)
def qMm (r:zX):Prop:=qY9 r.Scan/\ZL r.Limit/\ZL r.Most/\True
def qMx :(Scan×(Int×(Int×Unit)))->zX:=(λr:Scan×(Int×(Int×Unit))=>zX.mk r.1 r.2.1 r.2.2.1)
def qMr :∀H:Type,DataW H->zX->Prop:=FY qMx (FT (zY qYP (zY QE (zY QE RR))))
theorem und27 :Tryz.prog.underlying 27=some (.struct #[(Field.mk "Scan" 25 0 false "" "" 0),(Field.mk "Limit" 3 2 false "" "" 48),(Field.mk "Most" 3 3 false "" "" 56)]):=by kernel_rfl
theorem rd_27 :jK Tryz.prog 27 PF qMm qMr:=
 QW (jW (fs:= #[(Field.mk "Scan" 25 0 false "" "" 0),(Field.mk "Limit" 3 2 false "" "" 48),(Field.mk "Most" 3 3 false "" "" 56)]) und27 (zZ (off:=0) rd_25 (zZ (off:=2) rd_3 (zZ (off:=3) rd_3 (GM 4) rfl (by kernel_rfl)) rfl (by kernel_rfl)) rfl (by kernel_rfl)) (by kernel_rfl)) qMx (fun _=>rfl) (fun _=>show 4=_ by kernel_rfl) (fun _ h=>h)
theorem rd_9 :jK Tryz.prog 9 e_str strok qM0:=qUm (by kernel_rfl) (by kernel_rfl)
theorem rd_72 :jK Tryz.prog 72 (λl:List Int=>[tl qD dd l]) (λl:List Int=>l.length<=maxLen/\∀x∈l,ZL x) (D_sl QE):=
 AC (e:=3) (by kernel_rfl) (by kernel_rfl) (show 0<_ from gF (show 0<1 by decide) (by kernel_rfl)) rd_3
def qKH (r:qE):Prop:=strok r.Name/\ZL r.Thick/\ZL r.Width/\ZL r.Allow/\ZL r.Wane/\(λl:List Int=>l.length<=maxLen/\∀x∈l,ZL x) r.Lengths/\(λl:List Int=>l.length<=maxLen/\∀x∈l,ZL x) r.Prices/\True
def qSm :(ByteArray×(Int×(Int×(Int×(Int×((List Int)×((List Int)×Unit)))))))->qE:=(λr:ByteArray×(Int×(Int×(Int×(Int×((List Int)×((List Int)×Unit))))))=>qE.mk r.1 r.2.1 r.2.2.1 r.2.2.2.1 r.2.2.2.2.1 r.2.2.2.2.2.1 r.2.2.2.2.2.2.1)
def qKM :∀H:Type,DataW H->qE->Prop:=FY qSm (FT (zY qM0 (zY QE (zY QE (zY QE (zY QE (zY (D_sl QE) (zY (D_sl QE) RR))))))))
theorem und74 :Tryz.prog.underlying 74=some (.struct #[(Field.mk "Name" 9 0 false "" "" 0),(Field.mk "Thick" 3 1 false "" "" 16),(Field.mk "Width" 3 2 false "" "" 24),(Field.mk "Allow" 3 3 false "" "" 32),(Field.mk "Wane" 3 4 false "" "" 40),(Field.mk "Lengths" 72 5 false "" "" 48),(Field.mk "Prices" 72 6 false "" "" 72)]):=by kernel_rfl
theorem rd_74 :jK Tryz.prog 74 qP qKH qKM:=
 QW (jW (fs:= #[(Field.mk "Name" 9 0 false "" "" 0),(Field.mk "Thick" 3 1 false "" "" 16),(Field.mk "Width" 3 2 false "" "" 24),(Field.mk "Allow" 3 3 false "" "" 32),(Field.mk "Wane" 3 4 false "" "" 40),(Field.mk "Lengths" 72 5 false "" "" 48),(Field.mk "Prices" 72 6 false "" "" 72)]) und74 (zZ (off:=0) rd_9 (zZ (off:=1) rd_3 (zZ (off:=2) rd_3 (zZ (off:=3) rd_3 (zZ (off:=4) rd_3 (zZ (off:=5) rd_72 (zZ (off:=6) rd_72 (GM 7) rfl (by kernel_rfl)) rfl (by kernel_rfl)) rfl (by kernel_rfl)) rfl (by kernel_rfl)) rfl (by kernel_rfl)) rfl (by kernel_rfl)) rfl (by kernel_rfl)) (by kernel_rfl)) qSm (fun _=>rfl) (fun _=>show 7=_ by kernel_rfl) (fun _ h=>h)
theorem rd_37 :jK Tryz.prog 37 (λl:List qE=>[tl qP dd l]) (λl:List qE=>l.length<=maxLen/\∀x∈l,qKH x) (D_sl qKM):=
 AC (e:=74) (by kernel_rfl) (by kernel_rfl) (show 0<_ from gF (show 0<7 by decide) (by kernel_rfl)) rd_74
def wfSaw (r:Saw):Prop:=ZL r.Kerf/\ZL r.Trim/\ZL r.Pitch/\ZL r.Step/\True
def g_Saw :(Int×(Int×(Int×(Int×Unit))))->Saw:=(λr:Int×(Int×(Int×(Int×Unit)))=>Saw.mk r.1 r.2.1 r.2.2.1 r.2.2.2.1)
def D_Saw :∀H:Type,DataW H->Saw->Prop:=FY g_Saw (FT (zY QE (zY QE (zY QE (zY QE RR)))))
theorem und39 :Tryz.prog.underlying 39=some (.struct #[(Field.mk "Kerf" 3 0 false "" "" 0),(Field.mk "Trim" 3 1 false "" "" 8),(Field.mk "Pitch" 3 2 false "" "" 16),(Field.mk "Step" 3 3 false "" "" 24)]):=by kernel_rfl
theorem rd_39 :jK Tryz.prog 39 jY wfSaw D_Saw:=
 QW (jW (fs:= #[(Field.mk "Kerf" 3 0 false "" "" 0),(Field.mk "Trim" 3 1 false "" "" 8),(Field.mk "Pitch" 3 2 false "" "" 16),(Field.mk "Step" 3 3 false "" "" 24)]) und39 (zZ (off:=0) rd_3 (zZ (off:=1) rd_3 (zZ (off:=2) rd_3 (zZ (off:=3) rd_3 (GM 4) rfl (by kernel_rfl)) rfl (by kernel_rfl)) rfl (by kernel_rfl)) rfl (by kernel_rfl)) (by kernel_rfl)) g_Saw (fun _=>rfl) (fun _=>show 4=_ by kernel_rfl) (fun _ h=>h)
def qXg (r:Rates):Prop:=ZL r.Chip/\ZL r.Dust/\ZL r.Fine/\True
def qXe :(Int×(Int×(Int×Unit)))->Rates:=(λr:Int×(Int×(Int×Unit))=>Rates.mk r.1 r.2.1 r.2.2.1)
def qXm :∀H:Type,DataW H->Rates->Prop:=FY qXe (FT (zY QE (zY QE (zY QE RR))))
theorem und41 :Tryz.prog.underlying 41=some (.struct #[(Field.mk "Chip" 3 0 false "" "" 0),(Field.mk "Dust" 3 1 false "" "" 8),(Field.mk "Fine" 3 2 false "" "" 16)]):=by kernel_rfl
theorem rd_41 :jK Tryz.prog 41 wC qXg qXm:=
 QW (jW (fs:= #[(Field.mk "Chip" 3 0 false "" "" 0),(Field.mk "Dust" 3 1 false "" "" 8),(Field.mk "Fine" 3 2 false "" "" 16)]) und41 (zZ (off:=0) rd_3 (zZ (off:=1) rd_3 (zZ (off:=2) rd_3 (GM 3) rfl (by kernel_rfl)) rfl (by kernel_rfl)) rfl (by kernel_rfl)) (by kernel_rfl)) qXe (fun _=>rfl) (fun _=>show 3=_ by kernel_rfl) (fun _ h=>h)
def qLc (r:zM):Prop:=(λl:List qE=>l.length<=maxLen/\∀x∈l,qKH x) r.Products/\wfSaw r.Saw/\qXg r.Rates/\True
def qKF :((List qE)×(Saw×(Rates×Unit)))->zM:=(λr:(List qE)×(Saw×(Rates×Unit))=>zM.mk r.1 r.2.1 r.2.2.1)
def qKo :∀H:Type,DataW H->zM->Prop:=FY qKF (FT (zY (D_sl qKM) (zY D_Saw (zY qXm RR))))
theorem und43 :Tryz.prog.underlying 43=some (.struct #[(Field.mk "Products" 37 0 false "" "" 0),(Field.mk "Saw" 39 1 false "" "" 24),(Field.mk "Rates" 41 5 false "" "" 56)]):=by kernel_rfl
theorem rd_43 :jK Tryz.prog 43 yN qLc qKo:=
 QW (jW (fs:= #[(Field.mk "Products" 37 0 false "" "" 0),(Field.mk "Saw" 39 1 false "" "" 24),(Field.mk "Rates" 41 5 false "" "" 56)]) und43 (zZ (off:=0) rd_37 (zZ (off:=1) rd_39 (zZ (off:=5) rd_41 (GM 8) rfl (by kernel_rfl)) rfl (by kernel_rfl)) rfl (by kernel_rfl)) (by kernel_rfl)) qKF (fun _=>rfl) (fun _=>show 8=_ by kernel_rfl) (fun _ h=>h)
def wfPiece (r:zR):Prop:=ZL r.Size/\ZL r.At/\True
def qQ5 :(Int×(Int×Unit))->zR:=(λr:Int×(Int×Unit)=>zR.mk r.1 r.2.1)
def D_Piece :∀H:Type,DataW H->zR->Prop:=FY qQ5 (FT (zY QE (zY QE RR)))
theorem und132 :Tryz.prog.underlying 132=some (.struct #[(Field.mk "Size" 3 0 false "" "" 0),(Field.mk "At" 3 1 false "" "" 8)]):=by kernel_rfl
theorem rd_132 :jK Tryz.prog 132 QB wfPiece D_Piece:=
 QW (jW (fs:= #[(Field.mk "Size" 3 0 false "" "" 0),(Field.mk "At" 3 1 false "" "" 8)]) und132 (zZ (off:=0) rd_3 (zZ (off:=1) rd_3 (GM 2) rfl (by kernel_rfl)) rfl (by kernel_rfl)) (by kernel_rfl)) qQ5 (fun _=>rfl) (fun _=>show 2=_ by kernel_rfl) (fun _ h=>h)
section
variable {H :Type} {enc:TypeId×Value->H} {w:World} {r:Reach} {b0:Nat} {v:Value} {d:DataW H} {ps:List MemPlace}
theorem open_27 (hval:Value.okWide Tryz.prog w r b0 27 v) (hd:DataW.Trod enc Tryz.prog w 0 (λ_=>true) true 27 v d ps):∃x,qMm x/\qMr H d x/\zD w (Mem.of λ_=>True) (.agg (PF x)) v:=by
 obtain⟨x,h1,h2,h3⟩:=qHr rd_27 und27 hval hd;exact⟨x,h1,h2,h3⟩
theorem open_43 (hval:Value.okWide Tryz.prog w r b0 43 v) (hd:DataW.Trod enc Tryz.prog w 0 (λ_=>true) true 43 v d ps):∃x,qLc x/\qKo H d x/\zD w (Mem.of λ_=>True) (.agg (yN x)) v:=by
 obtain⟨x,h1,h2,h3⟩:=qHr rd_43 und43 hval hd;exact⟨x,h1,h2,h3⟩
end
theorem qCg {H:Type} {m n:Int} {a:qA} (h:qRn H (.agg [.lit (.int .i64 m),.lit (.int .i64 n)]) a):a=⟨m,n⟩:=by
 obtain⟨⟨x,y,u⟩,hg,ds,he,hd⟩:=h;cases he;obtain⟨d,ds,he,h1,hd⟩:=hd;cases he;obtain⟨d,ds,he,h2,hd⟩:=hd;cases he;cases h1;cases h2;exact hg.symm
theorem und204 :Tryz.prog.underlying 204=some (.array 4 93):=by kernel_rfl
theorem und213 :Tryz.prog.underlying 213=some (.array 2 3):=by kernel_rfl
theorem qZX {W:World} (h:laidMetH Tryz.prog YtigmogcdifllhaaGreatDoor.Rows.turnsPlacesRow.laid W):TX globs W (λ_=>True):=by
 have h':laidMet Tryz.prog YtigmogcdifllhaaGreatDoor.Rows.turnsPlacesRow.laid W:=h;obtain⟨ps,hl,_⟩:=h';obtain⟨c2,e2,fz2,fuel2,p2,hh2,hd2,q2,hl⟩:=qKB hl (g:=0) (t:=132) (by kernel_rfl) (by kernel_rfl);obtain⟨cs,e,fz,fuel,p,hh,hd,q,hl⟩:=qKB hl (g:=1) (t:=204) (by kernel_rfl) (by kernel_rfl);obtain⟨cs',e',fz',fuel',p',hh',hd',q',hl⟩:=qKB hl (g:=2) (t:=213) (by kernel_rfl) (by kernel_rfl);obtain⟨x,hx1,_,hx2,hx3⟩:=qUP und204 (by kernel_rfl) rd_93 hd;obtain⟨y,hy1,_,hy2,hy3⟩:=qUP und213 (by kernel_rfl) rd_3 hd';obtain⟨z,_,hz2,hz3⟩:=rd_132.rd _ _ _ _ _ _ _ hd2;have hx:x=zK:=by
  obtain⟨ds,he,_,_,hall⟩:=hx3;cases he
  match x,hx1 with
  |[a,b,c,d],_=>
   have h0:=hall 0 _ a rfl rfl;have h1:=hall 1 _ b rfl rfl;have h2:=hall 2 _ c rfl rfl;have h3:=hall 3 _ d rfl rfl;rw[qCg h0,qCg h1,qCg h2,qCg h3];rfl
 have hy:y=qHU:=by
  obtain⟨ds,he,_,_,hall⟩:=hy3;cases he
  match y,hy1 with
  |[a,b],_=>
   have h0:=hall 0 _ a rfl rfl;have h1:=hall 1 _ b rfl rfl;simp only[QE,DataW.lit.injEq,Lit.int.injEq,true_and] at h0 h1;subst h0;subst h1;rfl
 have hz:z=qNf:=by
  obtain⟨r,rfl,ds,he,d0,rest,h0,hd0,d1,rest',h1,hd1,h2⟩:=hz3;obtain⟨a,b,u⟩:=r;subst h0;subst h1;unfold QE at hd0 hd1;subst hd0;subst hd1;injection he with he;injection he with e0 he;injection he with e1 he;injection e0 with e0;injection e1 with e1;injection e0 with _ e0;injection e1 with _ e1;simp only at e0 e1;unfold qQ5 qNf;rw[<-e0,<-e1]
 subst hx;subst hy;subst hz;intro g c hc;unfold globs at hc;rw[look_cons] at hc;split at hc
 ·rename_i hg;subst hg;cases hc;exact qZM hh2 hz2
 ·rw[look_cons] at hc;split at hc
  ·rename_i hg;subst hg;cases hc;exact qUF (eT:=qF) (λ_=>rfl) hh hx2
  ·rw[look_cons] at hc;split at hc
   ·rename_i hg;subst hg;cases hc;exact qUF (eT:=qD) (λ_=>rfl) hh' hy2
   ·cases hc
def qUt (cs:Array Value):Obj->Obj
 | .cells _ t frozen=> .cells cs t frozen
 |o=>o
noncomputable def qKQ (os:Os):World:=
 {World.holding Tryz.prog os ⟨#[], #[],[]⟩ with heap:=(((World.holding Tryz.prog os ⟨#[], #[],[]⟩).heap.modify 0 (qUt #[.int .i64 (-1),.int .i64 (-1)])).modify 1 (qUt #[.int .i64 1,.int .i64 0,.int .i64 0,.int .i64 1,.int .i64 (-1),.int .i64 0,.int .i64 0,.int .i64 (-1)])).modify 2 (qUt #[.int .i64 (-1),.int .i64 1])}
theorem laidOut :laidOutB Tryz.prog=true:=by kernel_rfl
theorem own :ownKnob Tryz.prog.godebug=none:=by kernel_rfl
end Saw
end Go.SL

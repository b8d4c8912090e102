import Derived.Test.YtigmogcdifllhaaGreatDoorEBase
import Derived.Test.YtigmogcdifllhaaGreatDoorYa6
import Derived.Test.YtigmogcdifllhaaGreatDoorRows
import Derived.Lib.LaidTab
import Derived.Test.YtigmogcdifllhaaGreatDoorCards
import Derived.Test.YtigmogcdifllhaaGreatDoorTie
set_option linter.unusedVariables false
set_option linter.unusedSimpArgs false
namespace Go.SL
namespace Saw
open Go.Proofs Go.RowKit Go.ChangeShapes Go.WideShapes
set_option maxRecDepth 100000
theorem rd_3 :jM Tryz.prog 3 qE ZL QI:=qY7 (by kernel_rfl) (by kernel_rfl)
def qXh (r:qA):Prop:=ZL r.X/\ZL r.Y/\True
def qW0 :(Int×(Int×Unit))->qA:=(λr:Int×(Int×Unit)=>qA.mk r.1 r.2.1)
def qQ2 :∀H:Type,DataW H->qA->Prop:=MA qW0 (LD (wA QI (wA QI RT)))
theorem und93 :Tryz.prog.underlying 93=some (.struct #[(Field.mk "X" 3 0 false "" "" 0),(Field.mk "Y" 3 1 false "" "" 8)]):=by kernel_rfl
theorem rd_93 :jM Tryz.prog 93 qF qXh qQ2:=
 QY (jV (fs:= #[(Field.mk "X" 3 0 false "" "" 0),(Field.mk "Y" 3 1 false "" "" 8)]) und93 (wE (off:=0) rd_3 (wE (off:=1) rd_3 (GK 2) rfl (by kernel_rfl)) rfl (by kernel_rfl)) (by kernel_rfl)) qW0 (fun _=>rfl) (fun _=>show 2=_ by kernel_rfl) (fun _ h=>h)
theorem rd_4 :jM Tryz.prog 4 qYC (λ_=>True) qUR:=qX3 (by kernel_rfl) (by kernel_rfl)
def qK7 (r:qP):Prop:=qXh r.P/\(λ_=>True) r.Ok/\True
def qSl :(qA×(Bool×Unit))->qP:=(λr:qA×(Bool×Unit)=>qP.mk r.1 r.2.1)
def qK4 :∀H:Type,DataW H->qP->Prop:=MA qSl (LD (wA qQ2 (wA qUR RT)))
theorem und95 :Tryz.prog.underlying 95=some (.struct #[(Field.mk "P" 93 0 false "" "" 0),(Field.mk "Ok" 4 2 false "" "" 16)]):=by kernel_rfl
theorem rd_95 :jM Tryz.prog 95 qX qK7 qK4:=
 QY (jV (fs:= #[(Field.mk "P" 93 0 false "" "" 0),(Field.mk "Ok" 4 2 false "" "" 16)]) und95 (wE (off:=0) rd_93 (wE (off:=2) rd_4 (GK 3) rfl (by kernel_rfl)) rfl (by kernel_rfl)) (by kernel_rfl)) qSl (fun _=>rfl) (fun _=>show 3=_ by kernel_rfl) (fun _ h=>h)
theorem rd_69 :jM Tryz.prog 69 (λl:List qP=>[tl qX du l]) (λl:List qP=>l.length<=maxLen/\∀x∈l,qK7 x) (D_sl qK4):=
 AZ (e:=95) (by kernel_rfl) (by kernel_rfl) (show 0<_ from gK (show 0<3 by decide) (by kernel_rfl)) rd_95
def qV7 (r:Ring):Prop:=ZL r.Z/\(λl:List qP=>l.length<=maxLen/\∀x∈l,qK7 x) r.Read/\True
def qZl :(Int×((List qP)×Unit))->Ring:=(λr:Int×((List qP)×Unit)=>Ring.mk r.1 r.2.1)
def qUm :∀H:Type,DataW H->Ring->Prop:=MA qZl (LD (wA QI (wA (D_sl qK4) RT)))
theorem und71 :Tryz.prog.underlying 71=some (.struct #[(Field.mk "Z" 3 0 false "" "" 0),(Field.mk "Read" 69 1 false "" "" 8)]):=by kernel_rfl
theorem rd_71 :jM Tryz.prog 71 zC qV7 qUm:=
 QY (jV (fs:= #[(Field.mk "Z" 3 0 false "" "" 0),(Field.mk "Read" 69 1 false "" "" 8)]) und71 (wE (off:=0) rd_3 (wE (off:=1) rd_69 (GK 2) rfl (by kernel_rfl)) rfl (by kernel_rfl)) (by kernel_rfl)) qZl (fun _=>rfl) (fun _=>show 2=_ by kernel_rfl) (fun _ h=>h)
theorem rd_22 :jM Tryz.prog 22 (λl:List Ring=>[tl zC du l]) (λl:List Ring=>l.length<=maxLen/\∀x∈l,qV7 x) (D_sl qUm):=
 AZ (e:=71) (by kernel_rfl) (by kernel_rfl) (show 0<_ from gK (show 0<2 by decide) (by kernel_rfl)) rd_71
def qQH (r:Span):Prop:=ZL r.A/\ZL r.B/\True
def qZg :(Int×(Int×Unit))->Span:=(λr:Int×(Int×Unit)=>Span.mk r.1 r.2.1)
def qP2 :∀H:Type,DataW H->Span->Prop:=MA qZg (LD (wA QI (wA QI RT)))
theorem und53 :Tryz.prog.underlying 53=some (.struct #[(Field.mk "A" 3 0 false "" "" 0),(Field.mk "B" 3 1 false "" "" 8)]):=by kernel_rfl
theorem rd_53 :jM Tryz.prog 53 qL qQH qP2:=
 QY (jV (fs:= #[(Field.mk "A" 3 0 false "" "" 0),(Field.mk "B" 3 1 false "" "" 8)]) und53 (wE (off:=0) rd_3 (wE (off:=1) rd_3 (GK 2) rfl (by kernel_rfl)) rfl (by kernel_rfl)) (by kernel_rfl)) qZg (fun _=>rfl) (fun _=>show 2=_ by kernel_rfl) (fun _ h=>h)
def wfBox (r:Box):Prop:=qQH r.X/\qQH r.Y/\qQH r.Z/\True
def g_Box :(Span×(Span×(Span×Unit)))->Box:=(λr:Span×(Span×(Span×Unit))=>Box.mk r.1 r.2.1 r.2.2.1)
def D_Box :∀H:Type,DataW H->Box->Prop:=MA g_Box (LD (wA qP2 (wA qP2 (wA qP2 RT))))
theorem und85 :Tryz.prog.underlying 85=some (.struct #[(Field.mk "X" 53 0 false "" "" 0),(Field.mk "Y" 53 2 false "" "" 16),(Field.mk "Z" 53 4 false "" "" 32)]):=by kernel_rfl
theorem rd_85 :jM Tryz.prog 85 JW wfBox D_Box:=
 QY (jV (fs:= #[(Field.mk "X" 53 0 false "" "" 0),(Field.mk "Y" 53 2 false "" "" 16),(Field.mk "Z" 53 4 false "" "" 32)]) und85 (wE (off:=0) rd_53 (wE (off:=2) rd_53 (wE (off:=4) rd_53 (GK 6) rfl (by kernel_rfl)) rfl (by kernel_rfl)) rfl (by kernel_rfl)) (by kernel_rfl)) g_Box (fun _=>rfl) (fun _=>show 6=_ by kernel_rfl) (fun _ h=>h)
def qOh (r:qH):Prop:=ZL r.Kind/\wfBox r.Box/\True
def qVK :(Int×(Box×Unit))->qH:=(λr:Int×(Box×Unit)=>qH.mk r.1 r.2.1)
def qNl :∀H:Type,DataW H->qH->Prop:=MA qVK (LD (wA QI (wA D_Box RT)))
theorem und87 :Tryz.prog.underlying 87=some (.struct #[(Field.mk "Kind" 3 0 false "" "" 0),(Field.mk "Box" 85 1 false "" "" 8)]):=by kernel_rfl
theorem rd_87 :jM Tryz.prog 87 qN qOh qNl:=
 QY (jV (fs:= #[(Field.mk "Kind" 3 0 false "" "" 0),(Field.mk "Box" 85 1 false "" "" 8)]) und87 (wE (off:=0) rd_3 (wE (off:=1) rd_85 (GK 7) rfl (by kernel_rfl)) rfl (by kernel_rfl)) (by kernel_rfl)) qVK (fun _=>rfl) (fun _=>show 7=_ by kernel_rfl) (fun _ h=>h)
theorem rd_23 :jM Tryz.prog 23 (λl:List qH=>[tl qN du l]) (λl:List qH=>l.length<=maxLen/\∀x∈l,qOh x) (D_sl qNl):=
 AZ (e:=87) (by kernel_rfl) (by kernel_rfl) (show 0<_ from gK (show 0<7 by decide) (by kernel_rfl)) rd_87
def qYt (r:Scan):Prop:=(λl:List Ring=>l.length<=maxLen/\∀x∈l,qV7 x) r.Rings/\(λl:List qH=>l.length<=maxLen/\∀x∈l,qOh x) r.Defects/\True
def qY1 :((List Ring)×((List qH)×Unit))->Scan:=(λr:(List Ring)×((List qH)×Unit)=>Scan.mk r.1 r.2.1)
def qZb :∀H:Type,DataW H->Scan->Prop:=MA qY1 (LD (wA (D_sl qUm) (wA (D_sl qNl) RT)))
theorem und25 :Tryz.prog.underlying 25=some (.struct #[(Field.mk "Rings" 22 0 false "" "" 0),(Field.mk "Defects" 23 1 false "" "" 24)]):=by kernel_rfl
theorem rd_25 :jM Tryz.prog 25 jG qYt qZb:=
 QY (jV (fs:= #[(Field.mk "Rings" 22 0 false "" "" 0),(Field.mk "Defects" 23 1 false "" "" 24)]) und25 (wE (off:=0) rd_22 (wE (off:=1) rd_23 (GK 2) rfl (by kernel_rfl)) rfl (by kernel_rfl)) (by kernel_rfl)) qY1 (fun _=>rfl) (fun _=>show 2=_ by kernel_rfl) (fun _ h=>h)
def qMU (r:wF):Prop:=qYt r.Scan/\ZL r.Limit/\ZL r.Most/\True
def qM2 :(Scan×(Int×(Int×Unit)))->wF:=(λr:Scan×(Int×(Int×Unit))=>wF.mk r.1 r.2.1 r.2.2.1)
def qM3 :∀H:Type,DataW H->wF->Prop:=MA qM2 (LD (wA qZb (wA QI (wA QI RT))))
theorem und27 :Tryz.prog.underlying 27=some (.struct #[(Field.mk "Scan" 25 0 false "" "" 0),(Field.mk "Limit" 3 2 false "" "" 48),(Field.mk "Most" 3 3 false "" "" 56)]):=by kernel_rfl
theorem rd_27 :jM Tryz.prog 27 VV qMU qM3:=
 QY (jV (fs:= #[(Field.mk "Scan" 25 0 false "" "" 0),(Field.mk "Limit" 3 2 false "" "" 48),(Field.mk "Most" 3 3 false "" "" 56)]) und27 (wE (off:=0) rd_25 (wE (off:=2) rd_3 (wE (off:=3) rd_3 (GK 4) rfl (by kernel_rfl)) rfl (by kernel_rfl)) rfl (by kernel_rfl)) (by kernel_rfl)) qM2 (fun _=>rfl) (fun _=>show 4=_ by kernel_rfl) (fun _ h=>h)
theorem rd_9 :jM Tryz.prog 9 e_str strok qOy:=qTW (by kernel_rfl) (by kernel_rfl)
theorem rd_72 :jM Tryz.prog 72 (λl:List Int=>[tl qE du l]) (λl:List Int=>l.length<=maxLen/\∀x∈l,ZL x) (D_sl QI):=
 AZ (e:=3) (by kernel_rfl) (by kernel_rfl) (show 0<_ from gK (show 0<1 by decide) (by kernel_rfl)) rd_3
def qLd (r:qD):Prop:=strok r.Name/\ZL r.Thick/\ZL r.Width/\ZL r.Allow/\ZL r.Wane/\(λl:List Int=>l.length<=maxLen/\∀x∈l,ZL x) r.Lengths/\(λl:List Int=>l.length<=maxLen/\∀x∈l,ZL x) r.Prices/\True
def qSv :(ByteArray×(Int×(Int×(Int×(Int×((List Int)×((List Int)×Unit)))))))->qD:=(λr:ByteArray×(Int×(Int×(Int×(Int×((List Int)×((List Int)×Unit))))))=>qD.mk r.1 r.2.1 r.2.2.1 r.2.2.2.1 r.2.2.2.2.1 r.2.2.2.2.2.1 r.2.2.2.2.2.2.1)
def qLu :∀H:Type,DataW H->qD->Prop:=MA qSv (LD (wA qOy (wA QI (wA QI (wA QI (wA QI (wA (D_sl QI) (wA (D_sl QI) RT))))))))
theorem und74 :Tryz.prog.underlying 74=some (.struct #[(Field.mk "Name" 9 0 false "" "" 0),(Field.mk "Thick" 3 1 false "" "" 16),(Field.mk "Width" 3 2 false "" "" 24),(Field.mk "Allow" 3 3 false "" "" 32),(Field.mk "Wane" 3 4 false "" "" 40),(Field.mk "Lengths" 72 5 false "" "" 48),(Field.mk "Prices" 72 6 false "" "" 72)]):=by kernel_rfl
theorem rd_74 :jM Tryz.prog 74 qM qLd qLu:=
 QY (jV (fs:= #[(Field.mk "Name" 9 0 false "" "" 0),(Field.mk "Thick" 3 1 false "" "" 16),(Field.mk "Width" 3 2 false "" "" 24),(Field.mk "Allow" 3 3 false "" "" 32),(Field.mk "Wane" 3 4 false "" "" 40),(Field.mk "Lengths" 72 5 false "" "" 48),(Field.mk "Prices" 72 6 false "" "" 72)]) und74 (wE (off:=0) rd_9 (wE (off:=1) rd_3 (wE (off:=2) rd_3 (wE (off:=3) rd_3 (wE (off:=4) rd_3 (wE (off:=5) rd_72 (wE (off:=6) rd_72 (GK 7) rfl (by kernel_rfl)) rfl (by kernel_rfl)) rfl (by kernel_rfl)) rfl (by kernel_rfl)) rfl (by kernel_rfl)) rfl (by kernel_rfl)) rfl (by kernel_rfl)) (by kernel_rfl)) qSv (fun _=>rfl) (fun _=>show 7=_ by kernel_rfl) (fun _ h=>h)
theorem rd_37 :jM Tryz.prog 37 (λl:List qD=>[tl qM du l]) (λl:List qD=>l.length<=maxLen/\∀x∈l,qLd x) (D_sl qLu):=
 AZ (e:=74) (by kernel_rfl) (by kernel_rfl) (show 0<_ from gK (show 0<7 by decide) (by kernel_rfl)) rd_74
def wfSaw (r:Saw):Prop:=ZL r.Kerf/\ZL r.Trim/\ZL r.Pitch/\ZL r.Step/\True
def g_Saw :(Int×(Int×(Int×(Int×Unit))))->Saw:=(λr:Int×(Int×(Int×(Int×Unit)))=>Saw.mk r.1 r.2.1 r.2.2.1 r.2.2.2.1)
def D_Saw :∀H:Type,DataW H->Saw->Prop:=MA g_Saw (LD (wA QI (wA QI (wA QI (wA QI RT)))))
theorem und39 :Tryz.prog.underlying 39=some (.struct #[(Field.mk "Kerf" 3 0 false "" "" 0),(Field.mk "Trim" 3 1 false "" "" 8),(Field.mk "Pitch" 3 2 false "" "" 16),(Field.mk "Step" 3 3 false "" "" 24)]):=by kernel_rfl
theorem rd_39 :jM Tryz.prog 39 yK wfSaw D_Saw:=
 QY (jV (fs:= #[(Field.mk "Kerf" 3 0 false "" "" 0),(Field.mk "Trim" 3 1 false "" "" 8),(Field.mk "Pitch" 3 2 false "" "" 16),(Field.mk "Step" 3 3 false "" "" 24)]) und39 (wE (off:=0) rd_3 (wE (off:=1) rd_3 (wE (off:=2) rd_3 (wE (off:=3) rd_3 (GK 4) rfl (by kernel_rfl)) rfl (by kernel_rfl)) rfl (by kernel_rfl)) rfl (by kernel_rfl)) (by kernel_rfl)) g_Saw (fun _=>rfl) (fun _=>show 4=_ by kernel_rfl) (fun _ h=>h)
def qXo (r:Rates):Prop:=ZL r.Chip/\ZL r.Dust/\ZL r.Fine/\True
def qXr :(Int×(Int×(Int×Unit)))->Rates:=(λr:Int×(Int×(Int×Unit))=>Rates.mk r.1 r.2.1 r.2.2.1)
def qXB :∀H:Type,DataW H->Rates->Prop:=MA qXr (LD (wA QI (wA QI (wA QI RT))))
theorem und41 :Tryz.prog.underlying 41=some (.struct #[(Field.mk "Chip" 3 0 false "" "" 0),(Field.mk "Dust" 3 1 false "" "" 8),(Field.mk "Fine" 3 2 false "" "" 16)]):=by kernel_rfl
theorem rd_41 :jM Tryz.prog 41 wI qXo qXB:=
 QY (jV (fs:= #[(Field.mk "Chip" 3 0 false "" "" 0),(Field.mk "Dust" 3 1 false "" "" 8),(Field.mk "Fine" 3 2 false "" "" 16)]) und41 (wE (off:=0) rd_3 (wE (off:=1) rd_3 (wE (off:=2) rd_3 (GK 3) rfl (by kernel_rfl)) rfl (by kernel_rfl)) rfl (by kernel_rfl)) (by kernel_rfl)) qXr (fun _=>rfl) (fun _=>show 3=_ by kernel_rfl) (fun _ h=>h)
def qKx (r:zH):Prop:=(λl:List qD=>l.length<=maxLen/\∀x∈l,qLd x) r.Products/\wfSaw r.Saw/\qXo r.Rates/\True
def qKF :((List qD)×(Saw×(Rates×Unit)))->zH:=(λr:(List qD)×(Saw×(Rates×Unit))=>zH.mk r.1 r.2.1 r.2.2.1)
def qLy :∀H:Type,DataW H->zH->Prop:=MA qKF (LD (wA (D_sl qLu) (wA D_Saw (wA qXB RT))))
theorem und43 :Tryz.prog.underlying 43=some (.struct #[(Field.mk "Products" 37 0 false "" "" 0),(Field.mk "Saw" 39 1 false "" "" 24),(Field.mk "Rates" 41 5 false "" "" 56)]):=by kernel_rfl
theorem rd_43 :jM Tryz.prog 43 jJ qKx qLy:=
 QY (jV (fs:= #[(Field.mk "Products" 37 0 false "" "" 0),(Field.mk "Saw" 39 1 false "" "" 24),(Field.mk "Rates" 41 5 false "" "" 56)]) und43 (wE (off:=0) rd_37 (wE (off:=1) rd_39 (wE (off:=5) rd_41 (GK 8) rfl (by kernel_rfl)) rfl (by kernel_rfl)) rfl (by kernel_rfl)) (by kernel_rfl)) qKF (fun _=>rfl) (fun _=>show 8=_ by kernel_rfl) (fun _ h=>h)
def wfPiece (r:zV):Prop:=ZL r.Size/\ZL r.At/\True
def qRL :(Int×(Int×Unit))->zV:=(λr:Int×(Int×Unit)=>zV.mk r.1 r.2.1)
def D_Piece :∀H:Type,DataW H->zV->Prop:=MA qRL (LD (wA QI (wA QI RT)))
theorem und132 :Tryz.prog.underlying 132=some (.struct #[(Field.mk "Size" 3 0 false "" "" 0),(Field.mk "At" 3 1 false "" "" 8)]):=by kernel_rfl
theorem rd_132 :jM Tryz.prog 132 QF wfPiece D_Piece:=
 QY (jV (fs:= #[(Field.mk "Size" 3 0 false "" "" 0),(Field.mk "At" 3 1 false "" "" 8)]) und132 (wE (off:=0) rd_3 (wE (off:=1) rd_3 (GK 2) rfl (by kernel_rfl)) rfl (by kernel_rfl)) (by kernel_rfl)) qRL (fun _=>rfl) (fun _=>show 2=_ by kernel_rfl) (fun _ h=>h)
section
variable {H :Type} {enc:TypeId×Value->H} {w:World} {r:Reach} {b0:Nat} {v:Value} {d:DataW H} {ps:List MemPlace}
theorem open_27 (hval:Value.okWide Tryz.prog w r b0 27 v) (hd:DataW.Trod enc Tryz.prog w 0 (λ_=>true) true 27 v d ps):∃x,qMU x/\qM3 H d x/\zD w (Mem.of λ_=>True) (.agg (VV x)) v:=by
 obtain⟨x,h1,h2,h3⟩:=qHM rd_27 und27 hval hd;exact⟨x,h1,h2,h3⟩
theorem open_43 (hval:Value.okWide Tryz.prog w r b0 43 v) (hd:DataW.Trod enc Tryz.prog w 0 (λ_=>true) true 43 v d ps):∃x,qKx x/\qLy H d x/\zD w (Mem.of λ_=>True) (.agg (jJ x)) v:=by
 obtain⟨x,h1,h2,h3⟩:=qHM rd_43 und43 hval hd;exact⟨x,h1,h2,h3⟩
end
theorem qCH {H:Type} {m n:Int} {a:qA} (h:qQ2 H (.agg [.lit (.int .i64 m),.lit (.int .i64 n)]) a):a=⟨m,n⟩:=by
 obtain⟨⟨x,y,u⟩,hg,ds,he,hd⟩:=h;cases he;obtain⟨d,ds,he,h1,hd⟩:=hd;cases he;obtain⟨d,ds,he,h2,hd⟩:=hd;cases he;cases h1;cases h2;exact hg.symm
theorem und204 :Tryz.prog.underlying 204=some (.array 4 93):=by kernel_rfl
theorem und213 :Tryz.prog.underlying 213=some (.array 2 3):=by kernel_rfl
theorem qZD {W:World} (h:laidMetH Tryz.prog YtigmogcdifllhaaGreatDoor.Rows.turnsPlacesRow.laid W):PM globs W (λ_=>True):=by
 have h':laidMet Tryz.prog YtigmogcdifllhaaGreatDoor.Rows.turnsPlacesRow.laid W:=h;obtain⟨ps,hl,_⟩:=h';obtain⟨c2,e2,fz2,fuel2,p2,hh2,hd2,q2,hl⟩:=qK0 hl (g:=0) (t:=132) (by kernel_rfl) (by kernel_rfl);obtain⟨cs,e,fz,fuel,p,hh,hd,q,hl⟩:=qK0 hl (g:=1) (t:=204) (by kernel_rfl) (by kernel_rfl);obtain⟨cs',e',fz',fuel',p',hh',hd',q',hl⟩:=qK0 hl (g:=2) (t:=213) (by kernel_rfl) (by kernel_rfl);obtain⟨x,hx1,_,hx2,hx3⟩:=qT3 und204 (by kernel_rfl) rd_93 hd;obtain⟨y,hy1,_,hy2,hy3⟩:=qT3 und213 (by kernel_rfl) rd_3 hd';obtain⟨z,_,hz2,hz3⟩:=rd_132.rd _ _ _ _ _ _ _ hd2;have hx:x=zM:=by
  obtain⟨ds,he,_,_,hall⟩:=hx3;cases he
  match x,hx1 with
  |[a,b,c,d],_=>
   have h0:=hall 0 _ a rfl rfl;have h1:=hall 1 _ b rfl rfl;have h2:=hall 2 _ c rfl rfl;have h3:=hall 3 _ d rfl rfl;rw[qCH h0,qCH h1,qCH h2,qCH h3];rfl
 have hy:y=qHA:=by
  obtain⟨ds,he,_,_,hall⟩:=hy3;cases he
  match y,hy1 with
  |[a,b],_=>
   have h0:=hall 0 _ a rfl rfl;have h1:=hall 1 _ b rfl rfl;simp only[QI,DataW.lit.injEq,Lit.int.injEq,true_and] at h0 h1;subst h0;subst h1;rfl
 have hz:z=qNc:=by
  obtain⟨r,rfl,ds,he,d0,rest,h0,hd0,d1,rest',h1,hd1,h2⟩:=hz3;obtain⟨a,b,u⟩:=r;subst h0;subst h1;unfold QI at hd0 hd1;subst hd0;subst hd1;injection he with he;injection he with e0 he;injection he with e1 he;injection e0 with e0;injection e1 with e1;injection e0 with _ e0;injection e1 with _ e1;simp only at e0 e1;unfold qRL qNc;rw[<-e0,<-e1]
 subst hx;subst hy;subst hz;intro g c hc;unfold globs at hc;rw[look_cons] at hc;split at hc
 ·rename_i hg;subst hg;cases hc;exact qZ8 hh2 hz2
 ·rw[look_cons] at hc;split at hc
  ·rename_i hg;subst hg;cases hc;exact qV5 (eT:=qF) (λ_=>rfl) hh hx2
  ·rw[look_cons] at hc;split at hc
   ·rename_i hg;subst hg;cases hc;exact qV5 (eT:=qE) (λ_=>rfl) hh' hy2
   ·cases hc
def qTX (cs:Array Value):Obj->Obj
 | .cells _ t frozen=> .cells cs t frozen
 |o=>o
noncomputable def qLk (os:Os):World:=
 {World.holding Tryz.prog os ⟨#[], #[],[]⟩ with heap:=(((World.holding Tryz.prog os ⟨#[], #[],[]⟩).heap.modify 0 (qTX #[.int .i64 (-1),.int .i64 (-1)])).modify 1 (qTX #[.int .i64 1,.int .i64 0,.int .i64 0,.int .i64 1,.int .i64 (-1),.int .i64 0,.int .i64 0,.int .i64 (-1)])).modify 2 (qTX #[.int .i64 (-1),.int .i64 1])}
theorem laidOut :laidOutB Tryz.prog=true:=by kernel_rfl
theorem own :ownKnob Tryz.prog.godebug=none:=by kernel_rfl
end Saw
end Go.SL

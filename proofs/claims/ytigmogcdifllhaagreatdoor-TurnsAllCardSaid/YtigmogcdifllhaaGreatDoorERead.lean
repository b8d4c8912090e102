/- The readings of the laws' parameters. -/
import Derived.Test.YtigmogcdifllhaaGreatDoorEBase
import Derived.Test.YtigmogcdifllhaaGreatDoorYa7
import Derived.Test.YtigmogcdifllhaaGreatDoorRows
import Derived.Lib.LaidTab
import Derived.Test.YtigmogcdifllhaaGreatDoorCards
import Derived.Test.YtigmogcdifllhaaGreatDoorTie
set_option linter.unusedVariables false
set_option linter.unusedSimpArgs false
namespace Go.SL
namespace Saw
open Go.Proofs Go.RowKit Go.ChangeShapes Go.WideShapes
set_option maxRecDepth 100000
theorem rd_3 :jG Tryz.prog 3 qG ZK QP:=qXA (by kernel_rfl) (by kernel_rfl)
def qTQ (r:qA):Prop:=ZK r.X/\ZK r.Y/\True
def qUe :(Int×(Int×Unit))->qA:=(λr:Int×(Int×Unit)=>qA.mk r.1 r.2.1)
def qOm :∀H:Type,DataW H->qA->Prop:=HR qUe (SD (zX QP (zX QP UQ)))
theorem und93 :Tryz.prog.underlying 93=some (.struct #[(Field.mk "X" 3 0 false "" "" 0),(Field.mk "Y" 3 1 false "" "" 8)]):=by kernel_rfl
theorem rd_93 :jG Tryz.prog 93 qE qTQ qOm:=
 ZB (jW (fs:= #[(Field.mk "X" 3 0 false "" "" 0),(Field.mk "Y" 3 1 false "" "" 8)]) und93 (zY (off:=0) rd_3 (zY (off:=1) rd_3 (FF 2) rfl (by kernel_rfl)) rfl (by kernel_rfl)) (by kernel_rfl)) qUe (fun _=>rfl) (fun _=>show 2=_ by kernel_rfl) (fun _ h=>h)
theorem rd_4 :jG Tryz.prog 4 qXp (λ_=>True) qRi:=qVz (by kernel_rfl) (by kernel_rfl)
def qJT (r:qO):Prop:=qTQ r.P/\(λ_=>True) r.Ok/\True
def qO5 :(qA×(Bool×Unit))->qO:=(λr:qA×(Bool×Unit)=>qO.mk r.1 r.2.1)
def qJE :∀H:Type,DataW H->qO->Prop:=HR qO5 (SD (zX qOm (zX qRi UQ)))
theorem und95 :Tryz.prog.underlying 95=some (.struct #[(Field.mk "P" 93 0 false "" "" 0),(Field.mk "Ok" 4 2 false "" "" 16)]):=by kernel_rfl
theorem rd_95 :jG Tryz.prog 95 qW qJT qJE:=
 ZB (jW (fs:= #[(Field.mk "P" 93 0 false "" "" 0),(Field.mk "Ok" 4 2 false "" "" 16)]) und95 (zY (off:=0) rd_93 (zY (off:=2) rd_4 (FF 3) rfl (by kernel_rfl)) rfl (by kernel_rfl)) (by kernel_rfl)) qO5 (fun _=>rfl) (fun _=>show 3=_ by kernel_rfl) (fun _ h=>h)
theorem rd_69 :jG Tryz.prog 69 (λl:List qO=>[tl qW daa l]) (λl:List qO=>l.length<=maxLen/\∀x∈l,qJT x) (D_sl qJE):=
 CO (e:=95) (by kernel_rfl) (by kernel_rfl) (show 0<_ from dD (show 0<3 by decide) (by kernel_rfl)) rd_95
def qSt (r:Ring):Prop:=ZK r.Z/\(λl:List qO=>l.length<=maxLen/\∀x∈l,qJT x) r.Read/\True
def qXr :(Int×((List qO)×Unit))->Ring:=(λr:Int×((List qO)×Unit)=>Ring.mk r.1 r.2.1)
def qRa :∀H:Type,DataW H->Ring->Prop:=HR qXr (SD (zX QP (zX (D_sl qJE) UQ)))
theorem und71 :Tryz.prog.underlying 71=some (.struct #[(Field.mk "Z" 3 0 false "" "" 0),(Field.mk "Read" 69 1 false "" "" 8)]):=by kernel_rfl
theorem rd_71 :jG Tryz.prog 71 zI qSt qRa:=
 ZB (jW (fs:= #[(Field.mk "Z" 3 0 false "" "" 0),(Field.mk "Read" 69 1 false "" "" 8)]) und71 (zY (off:=0) rd_3 (zY (off:=1) rd_69 (FF 2) rfl (by kernel_rfl)) rfl (by kernel_rfl)) (by kernel_rfl)) qXr (fun _=>rfl) (fun _=>show 2=_ by kernel_rfl) (fun _ h=>h)
theorem rd_22 :jG Tryz.prog 22 (λl:List Ring=>[tl zI daa l]) (λl:List Ring=>l.length<=maxLen/\∀x∈l,qSt x) (D_sl qRa):=
 CO (e:=71) (by kernel_rfl) (by kernel_rfl) (show 0<_ from dD (show 0<2 by decide) (by kernel_rfl)) rd_71
def qNj (r:Span):Prop:=ZK r.A/\ZK r.B/\True
def qVV :(Int×(Int×Unit))->Span:=(λr:Int×(Int×Unit)=>Span.mk r.1 r.2.1)
def qL6 :∀H:Type,DataW H->Span->Prop:=HR qVV (SD (zX QP (zX QP UQ)))
theorem und53 :Tryz.prog.underlying 53=some (.struct #[(Field.mk "A" 3 0 false "" "" 0),(Field.mk "B" 3 1 false "" "" 8)]):=by kernel_rfl
theorem rd_53 :jG Tryz.prog 53 qL qNj qL6:=
 ZB (jW (fs:= #[(Field.mk "A" 3 0 false "" "" 0),(Field.mk "B" 3 1 false "" "" 8)]) und53 (zY (off:=0) rd_3 (zY (off:=1) rd_3 (FF 2) rfl (by kernel_rfl)) rfl (by kernel_rfl)) (by kernel_rfl)) qVV (fun _=>rfl) (fun _=>show 2=_ by kernel_rfl) (fun _ h=>h)
def wfBox (r:Box):Prop:=qNj r.X/\qNj r.Y/\qNj r.Z/\True
def g_Box :(Span×(Span×(Span×Unit)))->Box:=(λr:Span×(Span×(Span×Unit))=>Box.mk r.1 r.2.1 r.2.2.1)
def D_Box :∀H:Type,DataW H->Box->Prop:=HR g_Box (SD (zX qL6 (zX qL6 (zX qL6 UQ))))
theorem und85 :Tryz.prog.underlying 85=some (.struct #[(Field.mk "X" 53 0 false "" "" 0),(Field.mk "Y" 53 2 false "" "" 16),(Field.mk "Z" 53 4 false "" "" 32)]):=by kernel_rfl
theorem rd_85 :jG Tryz.prog 85 RA wfBox D_Box:=
 ZB (jW (fs:= #[(Field.mk "X" 53 0 false "" "" 0),(Field.mk "Y" 53 2 false "" "" 16),(Field.mk "Z" 53 4 false "" "" 32)]) und85 (zY (off:=0) rd_53 (zY (off:=2) rd_53 (zY (off:=4) rd_53 (FF 6) rfl (by kernel_rfl)) rfl (by kernel_rfl)) rfl (by kernel_rfl)) (by kernel_rfl)) g_Box (fun _=>rfl) (fun _=>show 6=_ by kernel_rfl) (fun _ h=>h)
def qLg (r:qC):Prop:=ZK r.Kind/\wfBox r.Box/\True
def qSY :(Int×(Box×Unit))->qC:=(λr:Int×(Box×Unit)=>qC.mk r.1 r.2.1)
def qLd :∀H:Type,DataW H->qC->Prop:=HR qSY (SD (zX QP (zX D_Box UQ)))
theorem und87 :Tryz.prog.underlying 87=some (.struct #[(Field.mk "Kind" 3 0 false "" "" 0),(Field.mk "Box" 85 1 false "" "" 8)]):=by kernel_rfl
theorem rd_87 :jG Tryz.prog 87 qP qLg qLd:=
 ZB (jW (fs:= #[(Field.mk "Kind" 3 0 false "" "" 0),(Field.mk "Box" 85 1 false "" "" 8)]) und87 (zY (off:=0) rd_3 (zY (off:=1) rd_85 (FF 7) rfl (by kernel_rfl)) rfl (by kernel_rfl)) (by kernel_rfl)) qSY (fun _=>rfl) (fun _=>show 7=_ by kernel_rfl) (fun _ h=>h)
theorem rd_23 :jG Tryz.prog 23 (λl:List qC=>[tl qP daa l]) (λl:List qC=>l.length<=maxLen/\∀x∈l,qLg x) (D_sl qLd):=
 CO (e:=87) (by kernel_rfl) (by kernel_rfl) (show 0<_ from dD (show 0<7 by decide) (by kernel_rfl)) rd_87
def qXo (r:Scan):Prop:=(λl:List Ring=>l.length<=maxLen/\∀x∈l,qSt x) r.Rings/\(λl:List qC=>l.length<=maxLen/\∀x∈l,qLg x) r.Defects/\True
def qV3 :((List Ring)×((List qC)×Unit))->Scan:=(λr:(List Ring)×((List qC)×Unit)=>Scan.mk r.1 r.2.1)
def qWC :∀H:Type,DataW H->Scan->Prop:=HR qV3 (SD (zX (D_sl qRa) (zX (D_sl qLd) UQ)))
theorem und25 :Tryz.prog.underlying 25=some (.struct #[(Field.mk "Rings" 22 0 false "" "" 0),(Field.mk "Defects" 23 1 false "" "" 24)]):=by kernel_rfl
theorem rd_25 :jG Tryz.prog 25 PA qXo qWC:=
 ZB (jW (fs:= #[(Field.mk "Rings" 22 0 false "" "" 0),(Field.mk "Defects" 23 1 false "" "" 24)]) und25 (zY (off:=0) rd_22 (zY (off:=1) rd_23 (FF 2) rfl (by kernel_rfl)) rfl (by kernel_rfl)) (by kernel_rfl)) qV3 (fun _=>rfl) (fun _=>show 2=_ by kernel_rfl) (fun _ h=>h)
def qKS (r:jY):Prop:=qXo r.Scan/\ZK r.Limit/\ZK r.Most/\True
def qKt :(Scan×(Int×(Int×Unit)))->jY:=(λr:Scan×(Int×(Int×Unit))=>jY.mk r.1 r.2.1 r.2.2.1)
def qKT :∀H:Type,DataW H->jY->Prop:=HR qKt (SD (zX qWC (zX QP (zX QP UQ))))
theorem und27 :Tryz.prog.underlying 27=some (.struct #[(Field.mk "Scan" 25 0 false "" "" 0),(Field.mk "Limit" 3 2 false "" "" 48),(Field.mk "Most" 3 3 false "" "" 56)]):=by kernel_rfl
theorem rd_27 :jG Tryz.prog 27 qC7 qKS qKT:=
 ZB (jW (fs:= #[(Field.mk "Scan" 25 0 false "" "" 0),(Field.mk "Limit" 3 2 false "" "" 48),(Field.mk "Most" 3 3 false "" "" 56)]) und27 (zY (off:=0) rd_25 (zY (off:=2) rd_3 (zY (off:=3) rd_3 (FF 4) rfl (by kernel_rfl)) rfl (by kernel_rfl)) rfl (by kernel_rfl)) (by kernel_rfl)) qKt (fun _=>rfl) (fun _=>show 4=_ by kernel_rfl) (fun _ h=>h)
theorem rd_9 :jG Tryz.prog 9 e_str strok qLH:=qSw (by kernel_rfl) (by kernel_rfl)
theorem rd_72 :jG Tryz.prog 72 (λl:List Int=>[tl qG daa l]) (λl:List Int=>l.length<=maxLen/\∀x∈l,ZK x) (D_sl QP):=
 CO (e:=3) (by kernel_rfl) (by kernel_rfl) (show 0<_ from dD (show 0<1 by decide) (by kernel_rfl)) rd_3
def qJr (r:Product):Prop:=strok r.Name/\ZK r.Thick/\ZK r.Width/\ZK r.Allow/\ZK r.Wane/\(λl:List Int=>l.length<=maxLen/\∀x∈l,ZK x) r.Lengths/\(λl:List Int=>l.length<=maxLen/\∀x∈l,ZK x) r.Prices/\True
def qPy :(ByteArray×(Int×(Int×(Int×(Int×((List Int)×((List Int)×Unit)))))))->Product:=(λr:ByteArray×(Int×(Int×(Int×(Int×((List Int)×((List Int)×Unit))))))=>Product.mk r.1 r.2.1 r.2.2.1 r.2.2.2.1 r.2.2.2.2.1 r.2.2.2.2.2.1 r.2.2.2.2.2.2.1)
def qJq :∀H:Type,DataW H->Product->Prop:=HR qPy (SD (zX qLH (zX QP (zX QP (zX QP (zX QP (zX (D_sl QP) (zX (D_sl QP) UQ))))))))
theorem und74 :Tryz.prog.underlying 74=some (.struct #[(Field.mk "Name" 9 0 false "" "" 0),(Field.mk "Thick" 3 1 false "" "" 16),(Field.mk "Width" 3 2 false "" "" 24),(Field.mk "Allow" 3 3 false "" "" 32),(Field.mk "Wane" 3 4 false "" "" 40),(Field.mk "Lengths" 72 5 false "" "" 48),(Field.mk "Prices" 72 6 false "" "" 72)]):=by kernel_rfl
theorem rd_74 :jG Tryz.prog 74 qY qJr qJq:=
 ZB (jW (fs:= #[(Field.mk "Name" 9 0 false "" "" 0),(Field.mk "Thick" 3 1 false "" "" 16),(Field.mk "Width" 3 2 false "" "" 24),(Field.mk "Allow" 3 3 false "" "" 32),(Field.mk "Wane" 3 4 false "" "" 40),(Field.mk "Lengths" 72 5 false "" "" 48),(Field.mk "Prices" 72 6 false "" "" 72)]) und74 (zY (off:=0) rd_9 (zY (off:=1) rd_3 (zY (off:=2) rd_3 (zY (off:=3) rd_3 (zY (off:=4) rd_3 (zY (off:=5) rd_72 (zY (off:=6) rd_72 (FF 7) rfl (by kernel_rfl)) rfl (by kernel_rfl)) rfl (by kernel_rfl)) rfl (by kernel_rfl)) rfl (by kernel_rfl)) rfl (by kernel_rfl)) rfl (by kernel_rfl)) (by kernel_rfl)) qPy (fun _=>rfl) (fun _=>show 7=_ by kernel_rfl) (fun _ h=>h)
theorem rd_37 :jG Tryz.prog 37 (λl:List Product=>[tl qY daa l]) (λl:List Product=>l.length<=maxLen/\∀x∈l,qJr x) (D_sl qJq):=
 CO (e:=74) (by kernel_rfl) (by kernel_rfl) (show 0<_ from dD (show 0<7 by decide) (by kernel_rfl)) rd_74
def wfSaw (r:Saw):Prop:=ZK r.Kerf/\ZK r.Trim/\ZK r.Pitch/\ZK r.Step/\True
def g_Saw :(Int×(Int×(Int×(Int×Unit))))->Saw:=(λr:Int×(Int×(Int×(Int×Unit)))=>Saw.mk r.1 r.2.1 r.2.2.1 r.2.2.2.1)
def D_Saw :∀H:Type,DataW H->Saw->Prop:=HR g_Saw (SD (zX QP (zX QP (zX QP (zX QP UQ)))))
theorem und39 :Tryz.prog.underlying 39=some (.struct #[(Field.mk "Kerf" 3 0 false "" "" 0),(Field.mk "Trim" 3 1 false "" "" 8),(Field.mk "Pitch" 3 2 false "" "" 16),(Field.mk "Step" 3 3 false "" "" 24)]):=by kernel_rfl
theorem rd_39 :jG Tryz.prog 39 PV wfSaw D_Saw:=
 ZB (jW (fs:= #[(Field.mk "Kerf" 3 0 false "" "" 0),(Field.mk "Trim" 3 1 false "" "" 8),(Field.mk "Pitch" 3 2 false "" "" 16),(Field.mk "Step" 3 3 false "" "" 24)]) und39 (zY (off:=0) rd_3 (zY (off:=1) rd_3 (zY (off:=2) rd_3 (zY (off:=3) rd_3 (FF 4) rfl (by kernel_rfl)) rfl (by kernel_rfl)) rfl (by kernel_rfl)) rfl (by kernel_rfl)) (by kernel_rfl)) g_Saw (fun _=>rfl) (fun _=>show 4=_ by kernel_rfl) (fun _ h=>h)
def qUQ (r:Rates):Prop:=ZK r.Chip/\ZK r.Dust/\ZK r.Fine/\True
def qUv :(Int×(Int×(Int×Unit)))->Rates:=(λr:Int×(Int×(Int×Unit))=>Rates.mk r.1 r.2.1 r.2.2.1)
def qUa :∀H:Type,DataW H->Rates->Prop:=HR qUv (SD (zX QP (zX QP (zX QP UQ))))
theorem und41 :Tryz.prog.underlying 41=some (.struct #[(Field.mk "Chip" 3 0 false "" "" 0),(Field.mk "Dust" 3 1 false "" "" 8),(Field.mk "Fine" 3 2 false "" "" 16)]):=by kernel_rfl
theorem rd_41 :jG Tryz.prog 41 QL qUQ qUa:=
 ZB (jW (fs:= #[(Field.mk "Chip" 3 0 false "" "" 0),(Field.mk "Dust" 3 1 false "" "" 8),(Field.mk "Fine" 3 2 false "" "" 16)]) und41 (zY (off:=0) rd_3 (zY (off:=1) rd_3 (zY (off:=2) rd_3 (FF 3) rfl (by kernel_rfl)) rfl (by kernel_rfl)) rfl (by kernel_rfl)) (by kernel_rfl)) qUv (fun _=>rfl) (fun _=>show 3=_ by kernel_rfl) (fun _ h=>h)
def qIY (r:yP):Prop:=(λl:List Product=>l.length<=maxLen/\∀x∈l,qJr x) r.Products/\wfSaw r.Saw/\qUQ r.Rates/\True
def qJW :((List Product)×(Saw×(Rates×Unit)))->yP:=(λr:(List Product)×(Saw×(Rates×Unit))=>yP.mk r.1 r.2.1 r.2.2.1)
def qJg :∀H:Type,DataW H->yP->Prop:=HR qJW (SD (zX (D_sl qJq) (zX D_Saw (zX qUa UQ))))
theorem und43 :Tryz.prog.underlying 43=some (.struct #[(Field.mk "Products" 37 0 false "" "" 0),(Field.mk "Saw" 39 1 false "" "" 24),(Field.mk "Rates" 41 5 false "" "" 56)]):=by kernel_rfl
theorem rd_43 :jG Tryz.prog 43 qBu qIY qJg:=
 ZB (jW (fs:= #[(Field.mk "Products" 37 0 false "" "" 0),(Field.mk "Saw" 39 1 false "" "" 24),(Field.mk "Rates" 41 5 false "" "" 56)]) und43 (zY (off:=0) rd_37 (zY (off:=1) rd_39 (zY (off:=5) rd_41 (FF 8) rfl (by kernel_rfl)) rfl (by kernel_rfl)) rfl (by kernel_rfl)) (by kernel_rfl)) qJW (fun _=>rfl) (fun _=>show 8=_ by kernel_rfl) (fun _ h=>h)
def wfPiece (r:zR):Prop:=ZK r.Size/\ZK r.At/\True
def qOf :(Int×(Int×Unit))->zR:=(λr:Int×(Int×Unit)=>zR.mk r.1 r.2.1)
def D_Piece :∀H:Type,DataW H->zR->Prop:=HR qOf (SD (zX QP (zX QP UQ)))
theorem und132 :Tryz.prog.underlying 132=some (.struct #[(Field.mk "Size" 3 0 false "" "" 0),(Field.mk "At" 3 1 false "" "" 8)]):=by kernel_rfl
theorem rd_132 :jG Tryz.prog 132 XR wfPiece D_Piece:=
 ZB (jW (fs:= #[(Field.mk "Size" 3 0 false "" "" 0),(Field.mk "At" 3 1 false "" "" 8)]) und132 (zY (off:=0) rd_3 (zY (off:=1) rd_3 (FF 2) rfl (by kernel_rfl)) rfl (by kernel_rfl)) (by kernel_rfl)) qOf (fun _=>rfl) (fun _=>show 2=_ by kernel_rfl) (fun _ h=>h)
section
variable {H :Type} {enc:TypeId×Value->H} {w:World} {r:Reach} {b0:Nat} {v:Value} {d:DataW H} {ps:List MemPlace}
theorem open_27 (hval:Value.okWide Tryz.prog w r b0 27 v) (hd:DataW.Trod enc Tryz.prog w 0 (λ_=>true) true 27 v d ps):∃x,qKS x/\qKT H d x/\zC w (Mem.of λ_=>True) (.agg (qC7 x)) v:=by
 obtain⟨x,h1,h2,h3⟩:=qG3 rd_27 und27 hval hd;exact⟨x,h1,h2,h3⟩
theorem open_43 (hval:Value.okWide Tryz.prog w r b0 43 v) (hd:DataW.Trod enc Tryz.prog w 0 (λ_=>true) true 43 v d ps):∃x,qIY x/\qJg H d x/\zC w (Mem.of λ_=>True) (.agg (qBu x)) v:=by
 obtain⟨x,h1,h2,h3⟩:=qG3 rd_43 und43 hval hd;exact⟨x,h1,h2,h3⟩
end
theorem qCX {H:Type} {m n:Int} {a:qA} (h:qOm H (.agg [.lit (.int .i64 m),.lit (.int .i64 n)]) a):a=⟨m,n⟩:=by
 obtain⟨⟨x,y,u⟩,hg,ds,he,hd⟩:=h;cases he;obtain⟨d,ds,he,h1,hd⟩:=hd;cases he;obtain⟨d,ds,he,h2,hd⟩:=hd;cases he;cases h1;cases h2;exact hg.symm
theorem und204 :Tryz.prog.underlying 204=some (.array 4 93):=by kernel_rfl
theorem und213 :Tryz.prog.underlying 213=some (.array 2 3):=by kernel_rfl
theorem qXH {W:World} (h:laidMetH Tryz.prog YtigmogcdifllhaaGreatDoor.Rows.turnsAllRow.laid W):GR globs W (λ_=>True):=by
 have h':laidMet Tryz.prog YtigmogcdifllhaaGreatDoor.Rows.turnsAllRow.laid W:=h;obtain⟨ps,hl,_⟩:=h';obtain⟨c2,e2,fz2,fuel2,p2,hh2,hd2,q2,hl⟩:=qJI hl (g:=0) (t:=132) (by kernel_rfl) (by kernel_rfl);obtain⟨cs,e,fz,fuel,p,hh,hd,q,hl⟩:=qJI hl (g:=1) (t:=204) (by kernel_rfl) (by kernel_rfl);obtain⟨cs',e',fz',fuel',p',hh',hd',q',hl⟩:=qJI hl (g:=2) (t:=213) (by kernel_rfl) (by kernel_rfl);obtain⟨x,hx1,_,hx2,hx3⟩:=qRk und204 (by kernel_rfl) rd_93 hd;obtain⟨y,hy1,_,hy2,hy3⟩:=qRk und213 (by kernel_rfl) rd_3 hd';obtain⟨z,_,hz2,hz3⟩:=rd_132.rd _ _ _ _ _ _ _ hd2;have hx:x=wE:=by
  obtain⟨ds,he,_,_,hall⟩:=hx3;cases he
  match x,hx1 with
  |[a,b,c,d],_=>
   have h0:=hall 0 _ a rfl rfl;have h1:=hall 1 _ b rfl rfl;have h2:=hall 2 _ c rfl rfl;have h3:=hall 3 _ d rfl rfl;rw[qCX h0,qCX h1,qCX h2,qCX h3];rfl
 have hy:y=qHa:=by
  obtain⟨ds,he,_,_,hall⟩:=hy3;cases he
  match y,hy1 with
  |[a,b],_=>
   have h0:=hall 0 _ a rfl rfl;have h1:=hall 1 _ b rfl rfl;simp only[QP,DataW.lit.injEq,Lit.int.injEq,true_and] at h0 h1;subst h0;subst h1;rfl
 have hz:z=qLJ:=by
  obtain⟨r,rfl,ds,he,d0,rest,h0,hd0,d1,rest',h1,hd1,h2⟩:=hz3;obtain⟨a,b,u⟩:=r;subst h0;subst h1;unfold QP at hd0 hd1;subst hd0;subst hd1;injection he with he;injection he with e0 he;injection he with e1 he;injection e0 with e0;injection e1 with e1;injection e0 with _ e0;injection e1 with _ e1;simp only at e0 e1;unfold qOf qLJ;rw[<-e0,<-e1]
 subst hx;subst hy;subst hz;intro g c hc;unfold globs at hc;rw[look_cons] at hc;split at hc
 ·rename_i hg;subst hg;cases hc;exact qYq hh2 hz2
 ·rw[look_cons] at hc;split at hc
  ·rename_i hg;subst hg;cases hc;exact qSv (eT:=qE) (λ_=>rfl) hh hx2
  ·rw[look_cons] at hc;split at hc
   ·rename_i hg;subst hg;cases hc;exact qSv (eT:=qG) (λ_=>rfl) hh' hy2
   ·cases hc
def qRB (cs:Array Value):Obj->Obj
 | .cells _ t frozen=> .cells cs t frozen
 |o=>o
noncomputable def qJO (os:Os):World:=
 {World.holding Tryz.prog os ⟨#[], #[],[]⟩ with heap:=(((World.holding Tryz.prog os ⟨#[], #[],[]⟩).heap.modify 0 (qRB #[.int .i64 (-1),.int .i64 (-1)])).modify 1 (qRB #[.int .i64 1,.int .i64 0,.int .i64 0,.int .i64 1,.int .i64 (-1),.int .i64 0,.int .i64 0,.int .i64 (-1)])).modify 2 (qRB #[.int .i64 (-1),.int .i64 1])}
theorem laidOut :laidOutB Tryz.prog=true:=by kernel_rfl
theorem own :ownKnob Tryz.prog.godebug=none:=by kernel_rfl
end Saw
end Go.SL

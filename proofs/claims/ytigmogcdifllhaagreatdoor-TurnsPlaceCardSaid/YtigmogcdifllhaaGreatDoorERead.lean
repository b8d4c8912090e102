/- The readings of the laws' parameters. -/
import Derived.Test.YtigmogcdifllhaaGreatDoorEBase
import Derived.Test.YtigmogcdifllhaaGreatDoorYa6
import Derived.Test.YtigmogcdifllhaaGreatDoorRows
import Derived.Lib.LaidTab
import Derived.Test.YtigmogcdifllhaaGreatDoorCards
import Derived.Test.YtigmogcdifllhaaGreatDoorTie
set_option linter.unusedVariables false
set_option linter.unusedSimpArgs false
namespace Go.SL
namespace Saw
open Go.Proofs Go.RowKit Go.ChangeShapes Go.WideShapes
set_option maxRecDepth 100000
theorem rd_3 :yY Tryz.prog 3 qD HK DI:=qW8 (by kernel_rfl) (by kernel_rfl)
def qVW (r:qA):Prop:=HK r.X/\HK r.Y/\True
def qV5 :(Int×(Int×Unit))->qA:=(λr:Int×(Int×Unit)=>qA.mk r.1 r.2.1)
def qQz :∀H:Type,DataW H->qA->Prop:=qBg qV5 (qBj (jL DI (jL DI DU)))
theorem und93 :Tryz.prog.underlying 93=some (.struct #[(Field.mk "X" 3 0 false "" "" 0),(Field.mk "Y" 3 1 false "" "" 8)]):=by kernel_rfl
theorem rd_93 :yY Tryz.prog 93 qE qVW qQz:=
 YM (ZE (fs:= #[(Field.mk "X" 3 0 false "" "" 0),(Field.mk "Y" 3 1 false "" "" 8)]) und93 (jT (off:=0) rd_3 (jT (off:=1) rd_3 (IF 2) rfl (by kernel_rfl)) rfl (by kernel_rfl)) (by kernel_rfl)) qV5 (fun _=>rfl) (fun _=>show 2=_ by kernel_rfl) (fun _ h=>h)
theorem rd_4 :yY Tryz.prog 4 qX1 (λ_=>True) qUB:=qWn (by kernel_rfl) (by kernel_rfl)
def qJv (r:qP):Prop:=qVW r.P/\(λ_=>True) r.Ok/\True
def qQ5 :(qA×(Bool×Unit))->qP:=(λr:qA×(Bool×Unit)=>qP.mk r.1 r.2.1)
def qI5 :∀H:Type,DataW H->qP->Prop:=qBg qQ5 (qBj (jL qQz (jL qUB DU)))
theorem und95 :Tryz.prog.underlying 95=some (.struct #[(Field.mk "P" 93 0 false "" "" 0),(Field.mk "Ok" 4 2 false "" "" 16)]):=by kernel_rfl
theorem rd_95 :yY Tryz.prog 95 qV qJv qI5:=
 YM (ZE (fs:= #[(Field.mk "P" 93 0 false "" "" 0),(Field.mk "Ok" 4 2 false "" "" 16)]) und95 (jT (off:=0) rd_93 (jT (off:=2) rd_4 (IF 3) rfl (by kernel_rfl)) rfl (by kernel_rfl)) (by kernel_rfl)) qQ5 (fun _=>rfl) (fun _=>show 3=_ by kernel_rfl) (fun _ h=>h)
theorem rd_69 :yY Tryz.prog 69 (λl:List qP=>[tl qV dd l]) (λl:List qP=>l.length<=maxLen/\∀x∈l,qJv x) (D_sl qI5):=
 qGt (e:=95) (by kernel_rfl) (by kernel_rfl) (show 0<_ from Nat.lt_of_lt_of_eq (show 0<3 by decide) (by kernel_rfl)) rd_95
def qT4 (r:Ring):Prop:=HK r.Z/\(λl:List qP=>l.length<=maxLen/\∀x∈l,qJv x) r.Read/\True
def qWY :(Int×((List qP)×Unit))->Ring:=(λr:Int×((List qP)×Unit)=>Ring.mk r.1 r.2.1)
def qSY :∀H:Type,DataW H->Ring->Prop:=qBg qWY (qBj (jL DI (jL (D_sl qI5) DU)))
theorem und71 :Tryz.prog.underlying 71=some (.struct #[(Field.mk "Z" 3 0 false "" "" 0),(Field.mk "Read" 69 1 false "" "" 8)]):=by kernel_rfl
theorem rd_71 :yY Tryz.prog 71 qX qT4 qSY:=
 YM (ZE (fs:= #[(Field.mk "Z" 3 0 false "" "" 0),(Field.mk "Read" 69 1 false "" "" 8)]) und71 (jT (off:=0) rd_3 (jT (off:=1) rd_69 (IF 2) rfl (by kernel_rfl)) rfl (by kernel_rfl)) (by kernel_rfl)) qWY (fun _=>rfl) (fun _=>show 2=_ by kernel_rfl) (fun _ h=>h)
theorem rd_22 :yY Tryz.prog 22 (λl:List Ring=>[tl qX dd l]) (λl:List Ring=>l.length<=maxLen/\∀x∈l,qT4 x) (D_sl qSY):=
 qGt (e:=71) (by kernel_rfl) (by kernel_rfl) (show 0<_ from Nat.lt_of_lt_of_eq (show 0<2 by decide) (by kernel_rfl)) rd_71
def qOd (r:Span):Prop:=HK r.A/\HK r.B/\True
def qXD :(Int×(Int×Unit))->Span:=(λr:Int×(Int×Unit)=>Span.mk r.1 r.2.1)
def qN1 :∀H:Type,DataW H->Span->Prop:=qBg qXD (qBj (jL DI (jL DI DU)))
theorem und53 :Tryz.prog.underlying 53=some (.struct #[(Field.mk "A" 3 0 false "" "" 0),(Field.mk "B" 3 1 false "" "" 8)]):=by kernel_rfl
theorem rd_53 :yY Tryz.prog 53 qH qOd qN1:=
 YM (ZE (fs:= #[(Field.mk "A" 3 0 false "" "" 0),(Field.mk "B" 3 1 false "" "" 8)]) und53 (jT (off:=0) rd_3 (jT (off:=1) rd_3 (IF 2) rfl (by kernel_rfl)) rfl (by kernel_rfl)) (by kernel_rfl)) qXD (fun _=>rfl) (fun _=>show 2=_ by kernel_rfl) (fun _ h=>h)
def wfBox (r:Box):Prop:=qOd r.X/\qOd r.Y/\qOd r.Z/\True
def g_Box :(Span×(Span×(Span×Unit)))->Box:=(λr:Span×(Span×(Span×Unit))=>Box.mk r.1 r.2.1 r.2.2.1)
def D_Box :∀H:Type,DataW H->Box->Prop:=qBg g_Box (qBj (jL qN1 (jL qN1 (jL qN1 DU))))
theorem und85 :Tryz.prog.underlying 85=some (.struct #[(Field.mk "X" 53 0 false "" "" 0),(Field.mk "Y" 53 2 false "" "" 16),(Field.mk "Z" 53 4 false "" "" 32)]):=by kernel_rfl
theorem rd_85 :yY Tryz.prog 85 yW wfBox D_Box:=
 YM (ZE (fs:= #[(Field.mk "X" 53 0 false "" "" 0),(Field.mk "Y" 53 2 false "" "" 16),(Field.mk "Z" 53 4 false "" "" 32)]) und85 (jT (off:=0) rd_53 (jT (off:=2) rd_53 (jT (off:=4) rd_53 (IF 6) rfl (by kernel_rfl)) rfl (by kernel_rfl)) rfl (by kernel_rfl)) (by kernel_rfl)) g_Box (fun _=>rfl) (fun _=>show 6=_ by kernel_rfl) (fun _ h=>h)
def qNg (r:qF):Prop:=HK r.Kind/\wfBox r.Box/\True
def qSQ :(Int×(Box×Unit))->qF:=(λr:Int×(Box×Unit)=>qF.mk r.1 r.2.1)
def qMB :∀H:Type,DataW H->qF->Prop:=qBg qSQ (qBj (jL DI (jL D_Box DU)))
theorem und87 :Tryz.prog.underlying 87=some (.struct #[(Field.mk "Kind" 3 0 false "" "" 0),(Field.mk "Box" 85 1 false "" "" 8)]):=by kernel_rfl
theorem rd_87 :yY Tryz.prog 87 qI qNg qMB:=
 YM (ZE (fs:= #[(Field.mk "Kind" 3 0 false "" "" 0),(Field.mk "Box" 85 1 false "" "" 8)]) und87 (jT (off:=0) rd_3 (jT (off:=1) rd_85 (IF 7) rfl (by kernel_rfl)) rfl (by kernel_rfl)) (by kernel_rfl)) qSQ (fun _=>rfl) (fun _=>show 7=_ by kernel_rfl) (fun _ h=>h)
theorem rd_23 :yY Tryz.prog 23 (λl:List qF=>[tl qI dd l]) (λl:List qF=>l.length<=maxLen/\∀x∈l,qNg x) (D_sl qMB):=
 qGt (e:=87) (by kernel_rfl) (by kernel_rfl) (show 0<_ from Nat.lt_of_lt_of_eq (show 0<7 by decide) (by kernel_rfl)) rd_87
def qW7 (r:Scan):Prop:=(λl:List Ring=>l.length<=maxLen/\∀x∈l,qT4 x) r.Rings/\(λl:List qF=>l.length<=maxLen/\∀x∈l,qNg x) r.Defects/\True
def qW3 :((List Ring)×((List qF)×Unit))->Scan:=(λr:(List Ring)×((List qF)×Unit)=>Scan.mk r.1 r.2.1)
def qXP :∀H:Type,DataW H->Scan->Prop:=qBg qW3 (qBj (jL (D_sl qSY) (jL (D_sl qMB) DU)))
theorem und25 :Tryz.prog.underlying 25=some (.struct #[(Field.mk "Rings" 22 0 false "" "" 0),(Field.mk "Defects" 23 1 false "" "" 24)]):=by kernel_rfl
theorem rd_25 :yY Tryz.prog 25 zZ qW7 qXP:=
 YM (ZE (fs:= #[(Field.mk "Rings" 22 0 false "" "" 0),(Field.mk "Defects" 23 1 false "" "" 24)]) und25 (jT (off:=0) rd_22 (jT (off:=1) rd_23 (IF 2) rfl (by kernel_rfl)) rfl (by kernel_rfl)) (by kernel_rfl)) qW3 (fun _=>rfl) (fun _=>show 2=_ by kernel_rfl) (fun _ h=>h)
def qLS (r:ZQ):Prop:=qW7 r.Scan/\HK r.Limit/\HK r.Most/\True
def qLK :(Scan×(Int×(Int×Unit)))->ZQ:=(λr:Scan×(Int×(Int×Unit))=>ZQ.mk r.1 r.2.1 r.2.2.1)
def qLH :∀H:Type,DataW H->ZQ->Prop:=qBg qLK (qBj (jL qXP (jL DI (jL DI DU))))
theorem und27 :Tryz.prog.underlying 27=some (.struct #[(Field.mk "Scan" 25 0 false "" "" 0),(Field.mk "Limit" 3 2 false "" "" 48),(Field.mk "Most" 3 3 false "" "" 56)]):=by kernel_rfl
theorem rd_27 :yY Tryz.prog 27 MN qLS qLH:=
 YM (ZE (fs:= #[(Field.mk "Scan" 25 0 false "" "" 0),(Field.mk "Limit" 3 2 false "" "" 48),(Field.mk "Most" 3 3 false "" "" 56)]) und27 (jT (off:=0) rd_25 (jT (off:=2) rd_3 (jT (off:=3) rd_3 (IF 4) rfl (by kernel_rfl)) rfl (by kernel_rfl)) rfl (by kernel_rfl)) (by kernel_rfl)) qLK (fun _=>rfl) (fun _=>show 4=_ by kernel_rfl) (fun _ h=>h)
def wfPiece (r:zU):Prop:=HK r.Size/\HK r.At/\True
def qPJ :(Int×(Int×Unit))->zU:=(λr:Int×(Int×Unit)=>zU.mk r.1 r.2.1)
def D_Piece :∀H:Type,DataW H->zU->Prop:=qBg qPJ (qBj (jL DI (jL DI DU)))
theorem und132 :Tryz.prog.underlying 132=some (.struct #[(Field.mk "Size" 3 0 false "" "" 0),(Field.mk "At" 3 1 false "" "" 8)]):=by kernel_rfl
theorem rd_132 :yY Tryz.prog 132 jU wfPiece D_Piece:=
 YM (ZE (fs:= #[(Field.mk "Size" 3 0 false "" "" 0),(Field.mk "At" 3 1 false "" "" 8)]) und132 (jT (off:=0) rd_3 (jT (off:=1) rd_3 (IF 2) rfl (by kernel_rfl)) rfl (by kernel_rfl)) (by kernel_rfl)) qPJ (fun _=>rfl) (fun _=>show 2=_ by kernel_rfl) (fun _ h=>h)
section
variable {H :Type} {enc:TypeId×Value->H} {w:World} {r:Reach} {b0:Nat} {v:Value} {d:DataW H} {ps:List MemPlace}
theorem open_27 (hval:Value.okWide Tryz.prog w r b0 27 v) (hd:DataW.Trod enc Tryz.prog w 0 (λ_=>true) true 27 v d ps):∃x,qLS x/\qLH H d x/\zD w (Mem.of λ_=>True) (.agg (MN x)) v:=by
 obtain⟨x,h1,h2,h3⟩:=qQw rd_27 und27 hval hd;exact⟨x,h1,h2,h3⟩
theorem und62 :Tryz.prog.underlying 62=some (.int .i8):=by kernel_rfl
theorem qVU (hval:Value.okWide Tryz.prog w r b0 62 v) (hd:DataW.Trod enc Tryz.prog w 0 (λ_=>true) true 62 v d ps):∃n,(-128<=n/\n<=127)/\d= .lit (.int .i8 n)/\zD w (Mem.of λ_=>True) (.one (.val (.int .i8 n))) v:=by
 obtain⟨x,h1,h2,h3⟩:=qW0 und62 hval hd;exact⟨x,i8_wf h1,h2,h3⟩
end
theorem qBo {H:Type} {m n:Int} {a:qA} (h:qQz H (.agg [.lit (.int .i64 m),.lit (.int .i64 n)]) a):a=⟨m,n⟩:=by
 obtain⟨⟨x,y,u⟩,hg,ds,he,hd⟩:=h;cases he;obtain⟨d,ds,he,h1,hd⟩:=hd;cases he;obtain⟨d,ds,he,h2,hd⟩:=hd;cases he;cases h1;cases h2;exact hg.symm
theorem und204 :Tryz.prog.underlying 204=some (.array 4 93):=by kernel_rfl
theorem und213 :Tryz.prog.underlying 213=some (.array 2 3):=by kernel_rfl
theorem qX7 {W:World} (h:laidMetH Tryz.prog YtigmogcdifllhaaGreatDoor.Rows.turnsPlacesRow.laid W):PO globs W (λ_=>True):=by
 have h':laidMet Tryz.prog YtigmogcdifllhaaGreatDoor.Rows.turnsPlacesRow.laid W:=h;obtain⟨ps,hl,_⟩:=h';obtain⟨c2,e2,fz2,fuel2,p2,hh2,hd2,q2,hl⟩:=qKv hl (g:=0) (t:=132) (by kernel_rfl) (by kernel_rfl);obtain⟨cs,e,fz,fuel,p,hh,hd,q,hl⟩:=qKv hl (g:=1) (t:=204) (by kernel_rfl) (by kernel_rfl);obtain⟨cs',e',fz',fuel',p',hh',hd',q',hl⟩:=qKv hl (g:=2) (t:=213) (by kernel_rfl) (by kernel_rfl);obtain⟨x,hx1,_,hx2,hx3⟩:=qUt und204 (by kernel_rfl) rd_93 hd;obtain⟨y,hy1,_,hy2,hy3⟩:=qUt und213 (by kernel_rfl) rd_3 hd';obtain⟨z,_,hz2,hz3⟩:=rd_132.rd _ _ _ _ _ _ _ hd2;have hx:x=zK:=by
  obtain⟨ds,he,_,_,hall⟩:=hx3;cases he
  match x,hx1 with
  |[a,b,c,d],_=>
   have h0:=hall 0 _ a rfl rfl;have h1:=hall 1 _ b rfl rfl;have h2:=hall 2 _ c rfl rfl;have h3:=hall 3 _ d rfl rfl;rw[qBo h0,qBo h1,qBo h2,qBo h3];rfl
 have hy:y=qGH:=by
  obtain⟨ds,he,_,_,hall⟩:=hy3;cases he
  match y,hy1 with
  |[a,b],_=>
   have h0:=hall 0 _ a rfl rfl;have h1:=hall 1 _ b rfl rfl;simp only[DI,DataW.lit.injEq,Lit.int.injEq,true_and] at h0 h1;subst h0;subst h1;rfl
 have hz:z=qMo:=by
  obtain⟨r,rfl,ds,he,d0,rest,h0,hd0,d1,rest',h1,hd1,h2⟩:=hz3;obtain⟨a,b,u⟩:=r;subst h0;subst h1;unfold DI at hd0 hd1;subst hd0;subst hd1;injection he with he;injection he with e0 he;injection he with e1 he;injection e0 with e0;injection e1 with e1;injection e0 with _ e0;injection e1 with _ e1;simp only at e0 e1;unfold qPJ qMo;rw[<-e0,<-e1]
 subst hx;subst hy;subst hz;intro g c hc;unfold globs at hc;rw[look_cons] at hc;split at hc
 ·rename_i hg;subst hg;cases hc;exact qYm hh2 hz2
 ·rw[look_cons] at hc;split at hc
  ·rename_i hg;subst hg;cases hc;exact qTx (eT:=qE) (λ_=>rfl) hh hx2
  ·rw[look_cons] at hc;split at hc
   ·rename_i hg;subst hg;cases hc;exact qTx (eT:=qD) (λ_=>rfl) hh' hy2
   ·cases hc
def qTI (cs:Array Value):Obj->Obj
 | .cells _ t frozen=> .cells cs t frozen
 |o=>o
noncomputable def qJD (os:Os):World:=
 {World.holding Tryz.prog os ⟨#[], #[],[]⟩ with heap:=(((World.holding Tryz.prog os ⟨#[], #[],[]⟩).heap.modify 0 (qTI #[.int .i64 (-1),.int .i64 (-1)])).modify 1 (qTI #[.int .i64 1,.int .i64 0,.int .i64 0,.int .i64 1,.int .i64 (-1),.int .i64 0,.int .i64 0,.int .i64 (-1)])).modify 2 (qTI #[.int .i64 (-1),.int .i64 1])}
theorem laidOut :laidOutB Tryz.prog=true:=by kernel_rfl
theorem own :ownKnob Tryz.prog.godebug=none:=by kernel_rfl
end Saw
end Go.SL

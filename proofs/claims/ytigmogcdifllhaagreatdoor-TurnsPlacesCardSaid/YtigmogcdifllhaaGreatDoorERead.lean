/- The readings of the laws' parameters. -/
import Derived.Test.YtigmogcdifllhaaGreatDoorEBase
import Derived.Test.YtigmogcdifllhaaGreatDoorYa6
import Derived.Test.YtigmogcdifllhaaGreatDoorRows
import Derived.Lib.LaidTab
import Derived.Test.YtigmogcdifllhaaGreatDoorCards
import Derived.Test.YtigmogcdifllhaaGreatDoorTie
set_option linter.unusedVariables false
set_option linter.unusedSimpArgs false
namespace Go.SL
namespace Saw
open Go.Proofs Go.RowKit Go.ChangeShapes Go.WideShapes
set_option maxRecDepth 100000
theorem rd_3 :QM Tryz.prog 3 qF NB BR:=q1R (by kernel_rfl) (by kernel_rfl)
def qZT (r:qA):Prop:=NB r.X/\NB r.Y/\True
def qZF :(Int×(Int×Unit))->qA:=(λr:Int×(Int×Unit)=>qA.mk r.1 r.2.1)
def qSP :∀H:Type,DataW H->qA->Prop:=qCz qZF (qCH (jW BR (jW BR NR)))
theorem und93 :Tryz.prog.underlying 93=some (.struct #[(Field.mk "X" 3 0 false "" "" 0),(Field.mk "Y" 3 1 false "" "" 8)]):=by kernel_rfl
theorem rd_93 :QM Tryz.prog 93 qB qZT qSP:=
 XH (ZV (fs:= #[(Field.mk "X" 3 0 false "" "" 0),(Field.mk "Y" 3 1 false "" "" 8)]) und93 (yH (off:=0) rd_3 (yH (off:=1) rd_3 (qAi 2) rfl (by kernel_rfl)) rfl (by kernel_rfl)) (by kernel_rfl)) qZF (fun _=>rfl) (fun _=>show 2=_ by kernel_rfl) (fun _ h=>h)
theorem rd_4 :QM Tryz.prog 4 q0O (λ_=>True) qXv:=q0a (by kernel_rfl) (by kernel_rfl)
def qLe (r:qL):Prop:=qZT r.P/\(λ_=>True) r.Ok/\True
def qTW :(qA×(Bool×Unit))->qL:=(λr:qA×(Bool×Unit)=>qL.mk r.1 r.2.1)
def qLP :∀H:Type,DataW H->qL->Prop:=qCz qTW (qCH (jW qSP (jW qXv NR)))
theorem und95 :Tryz.prog.underlying 95=some (.struct #[(Field.mk "P" 93 0 false "" "" 0),(Field.mk "Ok" 4 2 false "" "" 16)]):=by kernel_rfl
theorem rd_95 :QM Tryz.prog 95 qQ qLe qLP:=
 XH (ZV (fs:= #[(Field.mk "P" 93 0 false "" "" 0),(Field.mk "Ok" 4 2 false "" "" 16)]) und95 (yH (off:=0) rd_93 (yH (off:=2) rd_4 (qAi 3) rfl (by kernel_rfl)) rfl (by kernel_rfl)) (by kernel_rfl)) qTW (fun _=>rfl) (fun _=>show 3=_ by kernel_rfl) (fun _ h=>h)
theorem rd_69 :QM Tryz.prog 69 (λl:List qL=>[tl qQ dd l]) (λl:List qL=>l.length<=maxLen/\∀x∈l,qLe x) (D_sl qLP):=
 qHV (e:=95) (by kernel_rfl) (by kernel_rfl) (show 0<_ from Nat.lt_of_lt_of_eq (show 0<3 by decide) (by kernel_rfl)) rd_95
def qWf (r:Ring):Prop:=NB r.Z/\(λl:List qL=>l.length<=maxLen/\∀x∈l,qLe x) r.Read/\True
def q1q :(Int×((List qL)×Unit))->Ring:=(λr:Int×((List qL)×Unit)=>Ring.mk r.1 r.2.1)
def qWX :∀H:Type,DataW H->Ring->Prop:=qCz q1q (qCH (jW BR (jW (D_sl qLP) NR)))
theorem und71 :Tryz.prog.underlying 71=some (.struct #[(Field.mk "Z" 3 0 false "" "" 0),(Field.mk "Read" 69 1 false "" "" 8)]):=by kernel_rfl
theorem rd_71 :QM Tryz.prog 71 qU qWf qWX:=
 XH (ZV (fs:= #[(Field.mk "Z" 3 0 false "" "" 0),(Field.mk "Read" 69 1 false "" "" 8)]) und71 (yH (off:=0) rd_3 (yH (off:=1) rd_69 (qAi 2) rfl (by kernel_rfl)) rfl (by kernel_rfl)) (by kernel_rfl)) q1q (fun _=>rfl) (fun _=>show 2=_ by kernel_rfl) (fun _ h=>h)
theorem rd_22 :QM Tryz.prog 22 (λl:List Ring=>[tl qU dd l]) (λl:List Ring=>l.length<=maxLen/\∀x∈l,qWf x) (D_sl qWX):=
 qHV (e:=71) (by kernel_rfl) (by kernel_rfl) (show 0<_ from Nat.lt_of_lt_of_eq (show 0<2 by decide) (by kernel_rfl)) rd_71
def qSg (r:Span):Prop:=NB r.A/\NB r.B/\True
def q0G :(Int×(Int×Unit))->Span:=(λr:Int×(Int×Unit)=>Span.mk r.1 r.2.1)
def qRq :∀H:Type,DataW H->Span->Prop:=qCz q0G (qCH (jW BR (jW BR NR)))
theorem und53 :Tryz.prog.underlying 53=some (.struct #[(Field.mk "A" 3 0 false "" "" 0),(Field.mk "B" 3 1 false "" "" 8)]):=by kernel_rfl
theorem rd_53 :QM Tryz.prog 53 qE qSg qRq:=
 XH (ZV (fs:= #[(Field.mk "A" 3 0 false "" "" 0),(Field.mk "B" 3 1 false "" "" 8)]) und53 (yH (off:=0) rd_3 (yH (off:=1) rd_3 (qAi 2) rfl (by kernel_rfl)) rfl (by kernel_rfl)) (by kernel_rfl)) q0G (fun _=>rfl) (fun _=>show 2=_ by kernel_rfl) (fun _ h=>h)
def wfBox (r:Box):Prop:=qSg r.X/\qSg r.Y/\qSg r.Z/\True
def g_Box :(Span×(Span×(Span×Unit)))->Box:=(λr:Span×(Span×(Span×Unit))=>Box.mk r.1 r.2.1 r.2.2.1)
def D_Box :∀H:Type,DataW H->Box->Prop:=qCz g_Box (qCH (jW qRq (jW qRq (jW qRq NR))))
theorem und85 :Tryz.prog.underlying 85=some (.struct #[(Field.mk "X" 53 0 false "" "" 0),(Field.mk "Y" 53 2 false "" "" 16),(Field.mk "Z" 53 4 false "" "" 32)]):=by kernel_rfl
theorem rd_85 :QM Tryz.prog 85 yC wfBox D_Box:=
 XH (ZV (fs:= #[(Field.mk "X" 53 0 false "" "" 0),(Field.mk "Y" 53 2 false "" "" 16),(Field.mk "Z" 53 4 false "" "" 32)]) und85 (yH (off:=0) rd_53 (yH (off:=2) rd_53 (yH (off:=4) rd_53 (qAi 6) rfl (by kernel_rfl)) rfl (by kernel_rfl)) rfl (by kernel_rfl)) (by kernel_rfl)) g_Box (fun _=>rfl) (fun _=>show 6=_ by kernel_rfl) (fun _ h=>h)
def qPX (r:qH):Prop:=NB r.Kind/\wfBox r.Box/\True
def qXX :(Int×(Box×Unit))->qH:=(λr:Int×(Box×Unit)=>qH.mk r.1 r.2.1)
def qOW :∀H:Type,DataW H->qH->Prop:=qCz qXX (qCH (jW BR (jW D_Box NR)))
theorem und87 :Tryz.prog.underlying 87=some (.struct #[(Field.mk "Kind" 3 0 false "" "" 0),(Field.mk "Box" 85 1 false "" "" 8)]):=by kernel_rfl
theorem rd_87 :QM Tryz.prog 87 qJ qPX qOW:=
 XH (ZV (fs:= #[(Field.mk "Kind" 3 0 false "" "" 0),(Field.mk "Box" 85 1 false "" "" 8)]) und87 (yH (off:=0) rd_3 (yH (off:=1) rd_85 (qAi 7) rfl (by kernel_rfl)) rfl (by kernel_rfl)) (by kernel_rfl)) qXX (fun _=>rfl) (fun _=>show 7=_ by kernel_rfl) (fun _ h=>h)
theorem rd_23 :QM Tryz.prog 23 (λl:List qH=>[tl qJ dd l]) (λl:List qH=>l.length<=maxLen/\∀x∈l,qPX x) (D_sl qOW):=
 qHV (e:=87) (by kernel_rfl) (by kernel_rfl) (show 0<_ from Nat.lt_of_lt_of_eq (show 0<7 by decide) (by kernel_rfl)) rd_87
def q1F (r:Scan):Prop:=(λl:List Ring=>l.length<=maxLen/\∀x∈l,qWf x) r.Rings/\(λl:List qH=>l.length<=maxLen/\∀x∈l,qPX x) r.Defects/\True
def q1y :((List Ring)×((List qH)×Unit))->Scan:=(λr:(List Ring)×((List qH)×Unit)=>Scan.mk r.1 r.2.1)
def q1D :∀H:Type,DataW H->Scan->Prop:=qCz q1y (qCH (jW (D_sl qWX) (jW (D_sl qOW) NR)))
theorem und25 :Tryz.prog.underlying 25=some (.struct #[(Field.mk "Rings" 22 0 false "" "" 0),(Field.mk "Defects" 23 1 false "" "" 24)]):=by kernel_rfl
theorem rd_25 :QM Tryz.prog 25 zS q1F q1D:=
 XH (ZV (fs:= #[(Field.mk "Rings" 22 0 false "" "" 0),(Field.mk "Defects" 23 1 false "" "" 24)]) und25 (yH (off:=0) rd_22 (yH (off:=1) rd_23 (qAi 2) rfl (by kernel_rfl)) rfl (by kernel_rfl)) (by kernel_rfl)) q1y (fun _=>rfl) (fun _=>show 2=_ by kernel_rfl) (fun _ h=>h)
def qNT (r:XT):Prop:=q1F r.Scan/\NB r.Limit/\NB r.Most/\True
def qN6 :(Scan×(Int×(Int×Unit)))->XT:=(λr:Scan×(Int×(Int×Unit))=>XT.mk r.1 r.2.1 r.2.2.1)
def qN3 :∀H:Type,DataW H->XT->Prop:=qCz qN6 (qCH (jW q1D (jW BR (jW BR NR))))
theorem und27 :Tryz.prog.underlying 27=some (.struct #[(Field.mk "Scan" 25 0 false "" "" 0),(Field.mk "Limit" 3 2 false "" "" 48),(Field.mk "Most" 3 3 false "" "" 56)]):=by kernel_rfl
theorem rd_27 :QM Tryz.prog 27 qCy qNT qN3:=
 XH (ZV (fs:= #[(Field.mk "Scan" 25 0 false "" "" 0),(Field.mk "Limit" 3 2 false "" "" 48),(Field.mk "Most" 3 3 false "" "" 56)]) und27 (yH (off:=0) rd_25 (yH (off:=2) rd_3 (yH (off:=3) rd_3 (qAi 4) rfl (by kernel_rfl)) rfl (by kernel_rfl)) rfl (by kernel_rfl)) (by kernel_rfl)) qN6 (fun _=>rfl) (fun _=>show 4=_ by kernel_rfl) (fun _ h=>h)
def wfPiece (r:zX):Prop:=NB r.Size/\NB r.At/\True
def qTh :(Int×(Int×Unit))->zX:=(λr:Int×(Int×Unit)=>zX.mk r.1 r.2.1)
def D_Piece :∀H:Type,DataW H->zX->Prop:=qCz qTh (qCH (jW BR (jW BR NR)))
theorem und132 :Tryz.prog.underlying 132=some (.struct #[(Field.mk "Size" 3 0 false "" "" 0),(Field.mk "At" 3 1 false "" "" 8)]):=by kernel_rfl
theorem rd_132 :QM Tryz.prog 132 yG wfPiece D_Piece:=
 XH (ZV (fs:= #[(Field.mk "Size" 3 0 false "" "" 0),(Field.mk "At" 3 1 false "" "" 8)]) und132 (yH (off:=0) rd_3 (yH (off:=1) rd_3 (qAi 2) rfl (by kernel_rfl)) rfl (by kernel_rfl)) (by kernel_rfl)) qTh (fun _=>rfl) (fun _=>show 2=_ by kernel_rfl) (fun _ h=>h)
section
variable {H :Type} {enc:TypeId×Value->H} {w:World} {r:Reach} {b0:Nat} {v:Value} {d:DataW H} {ps:List MemPlace}
theorem open_27 (hval:Value.okWide Tryz.prog w r b0 27 v) (hd:DataW.Trod enc Tryz.prog w 0 (λ_=>true) true 27 v d ps):∃x,qNT x/\qN3 H d x/\zI w (Mem.of λ_=>True) (.agg (qCy x)) v:=by
 obtain⟨x,h1,h2,h3⟩:=qSV rd_27 und27 hval hd;exact⟨x,h1,h2,h3⟩
theorem und3 :Tryz.prog.underlying 3=some (.int .i64):=by kernel_rfl
theorem open_3 (hval:Value.okWide Tryz.prog w r b0 3 v) (hd:DataW.Trod enc Tryz.prog w 0 (λ_=>true) true 3 v d ps):∃n,NB n/\d= .lit (.int .i64 n)/\zI w (Mem.of λ_=>True) (.one (.val (.int .i64 n))) v:=by
 obtain⟨x,h1,h2,h3⟩:=qYZ und3 hval hd;exact⟨x,h1,h2,h3⟩
end
theorem qCG {H:Type} {m n:Int} {a:qA} (h:qSP H (.agg [.lit (.int .i64 m),.lit (.int .i64 n)]) a):a=⟨m,n⟩:=by
 obtain⟨⟨x,y,u⟩,hg,ds,he,hd⟩:=h;cases he;obtain⟨d,ds,he,h1,hd⟩:=hd;cases he;obtain⟨d,ds,he,h2,hd⟩:=hd;cases he;cases h1;cases h2;exact hg.symm
theorem und204 :Tryz.prog.underlying 204=some (.array 4 93):=by kernel_rfl
theorem und213 :Tryz.prog.underlying 213=some (.array 2 3):=by kernel_rfl
theorem q2y {W:World} (h:laidMetH Tryz.prog YtigmogcdifllhaaGreatDoor.Rows.turnsPlacesRow.laid W):PY globs W (λ_=>True):=by
 have h':laidMet Tryz.prog YtigmogcdifllhaaGreatDoor.Rows.turnsPlacesRow.laid W:=h;obtain⟨ps,hl,_⟩:=h';obtain⟨c2,e2,fz2,fuel2,p2,hh2,hd2,q2,hl⟩:=qLU hl (g:=0) (t:=132) (by kernel_rfl) (by kernel_rfl);obtain⟨cs,e,fz,fuel,p,hh,hd,q,hl⟩:=qLU hl (g:=1) (t:=204) (by kernel_rfl) (by kernel_rfl);obtain⟨cs',e',fz',fuel',p',hh',hd',q',hl⟩:=qLU hl (g:=2) (t:=213) (by kernel_rfl) (by kernel_rfl);obtain⟨x,hx1,_,hx2,hx3⟩:=qWo und204 (by kernel_rfl) rd_93 hd;obtain⟨y,hy1,_,hy2,hy3⟩:=qWo und213 (by kernel_rfl) rd_3 hd';obtain⟨z,_,hz2,hz3⟩:=rd_132.rd _ _ _ _ _ _ _ hd2;have hx:x=zO:=by
  obtain⟨ds,he,_,_,hall⟩:=hx3;cases he
  match x,hx1 with
  |[a,b,c,d],_=>
   have h0:=hall 0 _ a rfl rfl;have h1:=hall 1 _ b rfl rfl;have h2:=hall 2 _ c rfl rfl;have h3:=hall 3 _ d rfl rfl;rw[qCG h0,qCG h1,qCG h2,qCG h3];rfl
 have hy:y=qIC:=by
  obtain⟨ds,he,_,_,hall⟩:=hy3;cases he
  match y,hy1 with
  |[a,b],_=>
   have h0:=hall 0 _ a rfl rfl;have h1:=hall 1 _ b rfl rfl;simp only[BR,DataW.lit.injEq,Lit.int.injEq,true_and] at h0 h1;subst h0;subst h1;rfl
 have hz:z=qOr:=by
  obtain⟨r,rfl,ds,he,d0,rest,h0,hd0,d1,rest',h1,hd1,h2⟩:=hz3;obtain⟨a,b,u⟩:=r;subst h0;subst h1;unfold BR at hd0 hd1;subst hd0;subst hd1;injection he with he;injection he with e0 he;injection he with e1 he;injection e0 with e0;injection e1 with e1;injection e0 with _ e0;injection e1 with _ e1;simp only at e0 e1;unfold qTh qOr;rw[<-e0,<-e1]
 subst hx;subst hy;subst hz;intro g c hc;unfold globs at hc;rw[look_cons] at hc;split at hc
 ·rename_i hg;subst hg;cases hc;exact q2s hh2 hz2
 ·rw[look_cons] at hc;split at hc
  ·rename_i hg;subst hg;cases hc;exact qYt (eT:=qB) (λ_=>rfl) hh hx2
  ·rw[look_cons] at hc;split at hc
   ·rename_i hg;subst hg;cases hc;exact qYt (eT:=qF) (λ_=>rfl) hh' hy2
   ·cases hc
def qYd (cs:Array Value):Obj->Obj
 | .cells _ t frozen=> .cells cs t frozen
 |o=>o
noncomputable def qMj (os:Os):World:=
 {World.holding Tryz.prog os ⟨#[], #[],[]⟩ with heap:=(((World.holding Tryz.prog os ⟨#[], #[],[]⟩).heap.modify 0 (qYd #[.int .i64 (-1),.int .i64 (-1)])).modify 1 (qYd #[.int .i64 1,.int .i64 0,.int .i64 0,.int .i64 1,.int .i64 (-1),.int .i64 0,.int .i64 0,.int .i64 (-1)])).modify 2 (qYd #[.int .i64 (-1),.int .i64 1])}
theorem laidOut :laidOutB Tryz.prog=true:=by kernel_rfl
theorem own :ownKnob Tryz.prog.godebug=none:=by kernel_rfl
end Saw
end Go.SL

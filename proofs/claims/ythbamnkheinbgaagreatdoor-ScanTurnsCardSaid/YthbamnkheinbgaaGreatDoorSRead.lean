/- The readings of the laws' parameters. -/
import Derived.Test.YthbamnkheinbgaaGreatDoorSBase
import Derived.Test.YthbamnkheinbgaaGreatDoorYa6
import Derived.Test.YthbamnkheinbgaaGreatDoorRows
import Derived.Lib.LaidTab
import Derived.Test.YthbamnkheinbgaaGreatDoorCards
import Derived.Test.YthbamnkheinbgaaGreatDoorTie
set_option linter.unusedVariables false
set_option linter.unusedSimpArgs false
namespace Go.SL
namespace Saw
open Go.Proofs Go.RowKit Go.ChangeShapes Go.WideShapes
set_option maxRecDepth 100000
theorem rd_3 :jE Tryz.prog 3 qN BA LG:=qJ3 (by kernel_rfl) (by kernel_rfl)
def qJe (r:qA):Prop:=BA r.X/\BA r.Y/\True
def qI3 :(Int×(Int×Unit))->qA:=(λr:Int×(Int×Unit)=>qA.mk r.1 r.2.1)
def qEO :∀H:Type,DataW H->qA->Prop:=EA qI3 (EX (jR LG (jR LG GA)))
theorem und71 :Tryz.prog.underlying 71=some (.struct #[(Field.mk "X" 3 0 false "" "" 0),(Field.mk "Y" 3 1 false "" "" 8)]):=by kernel_rfl
theorem rd_71 :jE Tryz.prog 71 qB qJe qEO:=
 JH (QR (fs:= #[(Field.mk "X" 3 0 false "" "" 0),(Field.mk "Y" 3 1 false "" "" 8)]) und71 (yD (off:=0) rd_3 (yD (off:=1) rd_3 (LT 2) rfl (by kernel_rfl)) rfl (by kernel_rfl)) (by kernel_rfl)) qI3 (fun _=>rfl) (fun _=>show 2=_ by kernel_rfl) (fun _ h=>h)
theorem rd_4 :jE Tryz.prog 4 qJ5 (λ_=>True) qHn:=qJV (by kernel_rfl) (by kernel_rfl)
def qAF (r:qC):Prop:=qJe r.P/\(λ_=>True) r.Ok/\True
def qFt :(qA×(Bool×Unit))->qC:=(λr:qA×(Bool×Unit)=>qC.mk r.1 r.2.1)
def qAS :∀H:Type,DataW H->qC->Prop:=EA qFt (EX (jR qEO (jR qHn GA)))
theorem und73 :Tryz.prog.underlying 73=some (.struct #[(Field.mk "P" 71 0 false "" "" 0),(Field.mk "Ok" 4 2 false "" "" 16)]):=by kernel_rfl
theorem rd_73 :jE Tryz.prog 73 qF qAF qAS:=
 JH (QR (fs:= #[(Field.mk "P" 71 0 false "" "" 0),(Field.mk "Ok" 4 2 false "" "" 16)]) und73 (yD (off:=0) rd_71 (yD (off:=2) rd_4 (LT 3) rfl (by kernel_rfl)) rfl (by kernel_rfl)) (by kernel_rfl)) qFt (fun _=>rfl) (fun _=>show 3=_ by kernel_rfl) (fun _ h=>h)
theorem rd_43 :jE Tryz.prog 43 (λl:List qC=>[tl qF dd l]) (λl:List qC=>l.length<=maxLen/\∀x∈l,qAF x) (D_sl qAS):=
 AU (e:=73) (by kernel_rfl) (by kernel_rfl) (show 0<_ from Nat.lt_of_lt_of_eq (show 0<3 by decide) (by kernel_rfl)) rd_73
def qIo (r:Ring):Prop:=BA r.Z/\(λl:List qC=>l.length<=maxLen/\∀x∈l,qAF x) r.Read/\True
def qKd :(Int×((List qC)×Unit))->Ring:=(λr:Int×((List qC)×Unit)=>Ring.mk r.1 r.2.1)
def qGU :∀H:Type,DataW H->Ring->Prop:=EA qKd (EX (jR LG (jR (D_sl qAS) GA)))
theorem und45 :Tryz.prog.underlying 45=some (.struct #[(Field.mk "Z" 3 0 false "" "" 0),(Field.mk "Read" 43 1 false "" "" 8)]):=by kernel_rfl
theorem rd_45 :jE Tryz.prog 45 qI qIo qGU:=
 JH (QR (fs:= #[(Field.mk "Z" 3 0 false "" "" 0),(Field.mk "Read" 43 1 false "" "" 8)]) und45 (yD (off:=0) rd_3 (yD (off:=1) rd_43 (LT 2) rfl (by kernel_rfl)) rfl (by kernel_rfl)) (by kernel_rfl)) qKd (fun _=>rfl) (fun _=>show 2=_ by kernel_rfl) (fun _ h=>h)
theorem rd_22 :jE Tryz.prog 22 (λl:List Ring=>[tl qI dd l]) (λl:List Ring=>l.length<=maxLen/\∀x∈l,qIo x) (D_sl qGU):=
 AU (e:=45) (by kernel_rfl) (by kernel_rfl) (show 0<_ from Nat.lt_of_lt_of_eq (show 0<2 by decide) (by kernel_rfl)) rd_45
def qD4 (r:Span):Prop:=BA r.A/\BA r.B/\True
def qKE :(Int×(Int×Unit))->Span:=(λr:Int×(Int×Unit)=>Span.mk r.1 r.2.1)
def qEl :∀H:Type,DataW H->Span->Prop:=EA qKE (EX (jR LG (jR LG GA)))
theorem und64 :Tryz.prog.underlying 64=some (.struct #[(Field.mk "A" 3 0 false "" "" 0),(Field.mk "B" 3 1 false "" "" 8)]):=by kernel_rfl
theorem rd_64 :jE Tryz.prog 64 qL qD4 qEl:=
 JH (QR (fs:= #[(Field.mk "A" 3 0 false "" "" 0),(Field.mk "B" 3 1 false "" "" 8)]) und64 (yD (off:=0) rd_3 (yD (off:=1) rd_3 (LT 2) rfl (by kernel_rfl)) rfl (by kernel_rfl)) (by kernel_rfl)) qKE (fun _=>rfl) (fun _=>show 2=_ by kernel_rfl) (fun _ h=>h)
def wfBox (r:Box):Prop:=qD4 r.X/\qD4 r.Y/\qD4 r.Z/\True
def g_Box :(Span×(Span×(Span×Unit)))->Box:=(λr:Span×(Span×(Span×Unit))=>Box.mk r.1 r.2.1 r.2.2.1)
def D_Box :∀H:Type,DataW H->Box->Prop:=EA g_Box (EX (jR qEl (jR qEl (jR qEl GA))))
theorem und66 :Tryz.prog.underlying 66=some (.struct #[(Field.mk "X" 64 0 false "" "" 0),(Field.mk "Y" 64 2 false "" "" 16),(Field.mk "Z" 64 4 false "" "" 32)]):=by kernel_rfl
theorem rd_66 :jE Tryz.prog 66 RJ wfBox D_Box:=
 JH (QR (fs:= #[(Field.mk "X" 64 0 false "" "" 0),(Field.mk "Y" 64 2 false "" "" 16),(Field.mk "Z" 64 4 false "" "" 32)]) und66 (yD (off:=0) rd_64 (yD (off:=2) rd_64 (yD (off:=4) rd_64 (LT 6) rfl (by kernel_rfl)) rfl (by kernel_rfl)) rfl (by kernel_rfl)) (by kernel_rfl)) g_Box (fun _=>rfl) (fun _=>show 6=_ by kernel_rfl) (fun _ h=>h)
def qCF (r:qD):Prop:=BA r.Kind/\wfBox r.Box/\True
def qHK :(Int×(Box×Unit))->qD:=(λr:Int×(Box×Unit)=>qD.mk r.1 r.2.1)
def qCD :∀H:Type,DataW H->qD->Prop:=EA qHK (EX (jR LG (jR D_Box GA)))
theorem und68 :Tryz.prog.underlying 68=some (.struct #[(Field.mk "Kind" 3 0 false "" "" 0),(Field.mk "Box" 66 1 false "" "" 8)]):=by kernel_rfl
theorem rd_68 :jE Tryz.prog 68 qG qCF qCD:=
 JH (QR (fs:= #[(Field.mk "Kind" 3 0 false "" "" 0),(Field.mk "Box" 66 1 false "" "" 8)]) und68 (yD (off:=0) rd_3 (yD (off:=1) rd_66 (LT 7) rfl (by kernel_rfl)) rfl (by kernel_rfl)) (by kernel_rfl)) qHK (fun _=>rfl) (fun _=>show 7=_ by kernel_rfl) (fun _ h=>h)
theorem rd_23 :jE Tryz.prog 23 (λl:List qD=>[tl qG dd l]) (λl:List qD=>l.length<=maxLen/\∀x∈l,qCF x) (D_sl qCD):=
 AU (e:=68) (by kernel_rfl) (by kernel_rfl) (show 0<_ from Nat.lt_of_lt_of_eq (show 0<7 by decide) (by kernel_rfl)) rd_68
def qKy (r:Scan):Prop:=(λl:List Ring=>l.length<=maxLen/\∀x∈l,qIo x) r.Rings/\(λl:List qD=>l.length<=maxLen/\∀x∈l,qCF x) r.Defects/\True
def qKk :((List Ring)×((List qD)×Unit))->Scan:=(λr:(List Ring)×((List qD)×Unit)=>Scan.mk r.1 r.2.1)
def qKj :∀H:Type,DataW H->Scan->Prop:=EA qKk (EX (jR (D_sl qGU) (jR (D_sl qCD) GA)))
theorem und25 :Tryz.prog.underlying 25=some (.struct #[(Field.mk "Rings" 22 0 false "" "" 0),(Field.mk "Defects" 23 1 false "" "" 24)]):=by kernel_rfl
theorem rd_25 :jE Tryz.prog 25 qP qKy qKj:=
 JH (QR (fs:= #[(Field.mk "Rings" 22 0 false "" "" 0),(Field.mk "Defects" 23 1 false "" "" 24)]) und25 (yD (off:=0) rd_22 (yD (off:=1) rd_23 (LT 2) rfl (by kernel_rfl)) rfl (by kernel_rfl)) (by kernel_rfl)) qKk (fun _=>rfl) (fun _=>show 2=_ by kernel_rfl) (fun _ h=>h)
section
variable {H :Type} {enc:TypeId×Value->H} {w:World} {r:Reach} {b0:Nat} {v:Value} {d:DataW H} {ps:List MemPlace}
theorem qJg (hval:Value.okWide Tryz.prog w r b0 25 v) (hd:DataW.Trod enc Tryz.prog w 0 (λ_=>true) true 25 v d ps):∃x,qKy x/\qKj H d x/\qO w (Mem.of λ_=>True) (.agg (qP x)) v:=by
 obtain⟨x,h1,h2,h3⟩:=qEA rd_25 und25 hval hd;exact⟨x,h1,h2,h3⟩
theorem und3 :Tryz.prog.underlying 3=some (.int .i64):=by kernel_rfl
theorem open_3 (hval:Value.okWide Tryz.prog w r b0 3 v) (hd:DataW.Trod enc Tryz.prog w 0 (λ_=>true) true 3 v d ps):∃n,BA n/\d= .lit (.int .i64 n)/\qO w (Mem.of λ_=>True) (.one (.val (.int .i64 n))) v:=by
 obtain⟨x,h1,h2,h3⟩:=qIT und3 hval hd;exact⟨x,h1,h2,h3⟩
end
theorem BC {H:Type} {m n:Int} {a:qA} (h:qEO H (.agg [.lit (.int .i64 m),.lit (.int .i64 n)]) a):a=⟨m,n⟩:=by
 obtain⟨⟨x,y,u⟩,hg,ds,he,hd⟩:=h;cases he;obtain⟨d,ds,he,h1,hd⟩:=hd;cases he;obtain⟨d,ds,he,h2,hd⟩:=hd;cases he;cases h1;cases h2;exact hg.symm
theorem und163 :Tryz.prog.underlying 163=some (.array 2 3):=by kernel_rfl
theorem und186 :Tryz.prog.underlying 186=some (.array 4 71):=by kernel_rfl
theorem qLi {W:World} (h:laidMetH Tryz.prog YthbamnkheinbgaaGreatDoor.Rows.scanTurnsRow.laid W):zH globs W (λ_=>True):=by
 have h':laidMet Tryz.prog YthbamnkheinbgaaGreatDoor.Rows.scanTurnsRow.laid W:=h;obtain⟨ps,hl,_⟩:=h';obtain⟨cs,e,fz,fuel,p,hh,hd,q,hl⟩:=qFH hl (g:=1) (t:=186) (by kernel_rfl) (by kernel_rfl);obtain⟨cs',e',fz',fuel',p',hh',hd',q',hl⟩:=qFH hl (g:=0) (t:=163) (by kernel_rfl) (by kernel_rfl);obtain⟨x,hx1,_,hx2,hx3⟩:=qIf und186 (by kernel_rfl) rd_71 hd;obtain⟨y,hy1,_,hy2,hy3⟩:=qIf und163 (by kernel_rfl) rd_3 hd';have hx:x=qT:=by
  obtain⟨ds,he,_,_,hall⟩:=hx3;cases he
  match x,hx1 with
  |[a,b,c,d],_=>
   have h0:=hall 0 _ a rfl rfl;have h1:=hall 1 _ b rfl rfl;have h2:=hall 2 _ c rfl rfl;have h3:=hall 3 _ d rfl rfl;rw[BC h0,BC h1,BC h2,BC h3];rfl
 have hy:y=IC:=by
  obtain⟨ds,he,_,_,hall⟩:=hy3;cases he
  match y,hy1 with
  |[a,b],_=>
   have h0:=hall 0 _ a rfl rfl;have h1:=hall 1 _ b rfl rfl;simp only[LG,DataW.lit.injEq,Lit.int.injEq,true_and] at h0 h1;subst h0;subst h1;rfl
 subst hx;subst hy;intro g c hc;unfold globs at hc;rw[look_cons] at hc;split at hc
 ·rename_i hg;subst hg;cases hc;exact qG4 (eT:=qN) (λ_=>rfl) hh' hy2
 ·rw[look_cons] at hc;split at hc
  ·rename_i hg;subst hg;cases hc;exact qG4 (eT:=qB) (λ_=>rfl) hh hx2
  ·cases hc
def qKN (cs:Array Value):Obj->Obj
 | .cells _ t frozen=> .cells cs t frozen
 |o=>o
noncomputable def qAC (os:Os):World:=
 {World.holding Tryz.prog os ⟨#[], #[],[]⟩ with heap:=((World.holding Tryz.prog os ⟨#[], #[],[]⟩).heap.modify 0 (qKN #[.int .i64 (-1),.int .i64 1])).modify 1 (qKN #[.int .i64 1,.int .i64 0,.int .i64 0,.int .i64 1,.int .i64 (-1),.int .i64 0,.int .i64 0,.int .i64 (-1)])}
theorem laidOut :laidOutB Tryz.prog=true:=by kernel_rfl
theorem own :ownKnob Tryz.prog.godebug=none:=by kernel_rfl
end Saw
end Go.SL

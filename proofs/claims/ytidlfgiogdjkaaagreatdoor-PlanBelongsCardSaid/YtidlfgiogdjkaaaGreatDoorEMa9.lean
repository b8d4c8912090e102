/- Plans: the plan line is a good line; the best plan. -/
import Derived.Test.YtidlfgiogdjkaaaGreatDoorEMa8
import Derived.Test.YtidlfgiogdjkaaaGreatDoorEMod
import Derived.Test.YtidlfgiogdjkaaaGreatDoorEMa7
set_option linter.unusedVariables false
set_option linter.unusedSimpArgs false
namespace Go.SL.Saw
variable {l :List qA} {ds:List Defect} {ps:List Product} {F:Rect} {w:Saw} {t:Rates}
theorem qK1 (h:(wT l ds ps F w t).2.2=0): -200000000000000<=(wT l ds ps F w t).2.1/\(wT l ds ps F w t).2.1<=200000000000000/\(wT l ds ps F w t).1=rowN 2 (lineS l ds ps F w t).Kerf F.X (edgePts ps F (lineS l ds ps F w t))/\(wT l ds ps F w t).1.length<=127:=by
 obtain⟨hv,e⟩:=qM8 h;have hn:(rowN 2 (lineS l ds ps F w t).Kerf F.X (edgePts ps F (lineS l ds ps F w t))).length<=127/\(wT l ds ps F w t).1=rowN 2 (lineS l ds ps F w t).Kerf F.X (edgePts ps F (lineS l ds ps F w t)):=by
  unfold wT at h⊢;rw[if_pos (PK.2 hv)] at h⊢;unfold qF8 at h⊢;by_cases c2:(rowN 2 (lineS l ds ps F w t).Kerf F.X (edgePts ps F (lineS l ds ps F w t))).length<=127
  ·rw[if_pos c2];exact⟨c2,rfl⟩
  ·rw[if_neg c2] at h;exact absurd h (by decide)
 have vy:=qO6 hv hn.1;have val:=qPx hv hn.1;have bd:=(Of_ok vy).2;have c0:=yC_nn vy;have bv:=qL6 hv.sol;have wl:=qHy hv.sol F;have wn:=qMl l F;have hb:=bd.nB;have hd:=bd.nD;have hw:=bd.nW;have hch:=hv.vw.chip;have hdu:=hv.vw.dust
 have val2:(qIq l ds ps ⟨F,rowN 2 (lineS l ds ps F w t).Kerf F.X (edgePts ps F (lineS l ds ps F w t))⟩ w t).Value=yW l ds ps ⟨F,rowN 2 (lineS l ds ps F w t).Kerf F.X (edgePts ps F (lineS l ds ps F w t))⟩ w t.Fine+(t.Chip*yC l ds ps ⟨F,rowN 2 (lineS l ds ps F w t).Kerf F.X (edgePts ps F (lineS l ds ps F w t))⟩ w t.Fine+t.Dust*yD l ds ps ⟨F,rowN 2 (lineS l ds ps F w t).Kerf F.X (edgePts ps F (lineS l ds ps F w t))⟩ w t.Fine):=rfl
 have hC:yC l ds ps ⟨F,rowN 2 (lineS l ds ps F w t).Kerf F.X (edgePts ps F (lineS l ds ps F w t))⟩ w t.Fine<=28800000000/\yD l ds ps ⟨F,rowN 2 (lineS l ds ps F w t).Kerf F.X (edgePts ps F (lineS l ds ps F w t))⟩ w t.Fine<=28800000000:=by unfold yC at*;omega
 generalize yC l ds ps ⟨F,rowN 2 (lineS l ds ps F w t).Kerf F.X (edgePts ps F (lineS l ds ps F w t))⟩ w t.Fine=C at*;generalize yD l ds ps ⟨F,rowN 2 (lineS l ds ps F w t).Kerf F.X (edgePts ps F (lineS l ds ps F w t))⟩ w t.Fine=D at*;have m1:0<=t.Chip*C/\t.Chip*C<=1000*28800000000:=⟨Int.mul_nonneg hch.1 c0,Int.mul_le_mul hch.2 hC.1 c0 (by omega)⟩
 have m2:0<=t.Dust*D/\t.Dust*D<=1000*28800000000:=⟨Int.mul_nonneg hdu.1 hd.1,Int.mul_le_mul hdu.2 hC.2 hd.1 (by omega)⟩
 have m3:0<=t.Chip*(volT l-wholeR l F)/\t.Chip*(volT l-wholeR l F)<=1000*28800000000:=⟨Int.mul_nonneg hch.1 (by omega),Int.mul_le_mul hch.2 (by omega) (by omega) (by omega)⟩
 rw[e,hn.2];refine⟨by omega,by omega,rfl,hn.1⟩
theorem stG_b (l:List qA) (ds:List Defect) (ps:List Product) (F:Rect) (w:Saw) (t:Rates) (h:Int) (p:Nat):okN (stG l ds ps F w t h p).1/\(stG l ds ps F w t h p).2.length<=127:=by
 unfold okN stG;split
 ·split
  ·rename_i c;have:=qK1 c.1;exact⟨by omega,this.2.2.2⟩
  ·simp
 ·simp
theorem ME (h:VE l ds ps F w t):VL (qZ l ds ps F w t):=by
 have hr:=h.vr;unfold VR at hr;have hh:=qJM ps;have rate:∀c:Int,0<=c/\c<=1000->∀j,j<((List.range (hei F).toNat).map (λp:Nat=>c*wholeR l (strR F p (p+1)))).length->okN (((List.range (hei F).toNat).map (λp:Nat=>c*wholeR l (strR F p (p+1)))).getD j default):=by
  intro c hc j hj;simp only[List.length_map,List.length_range] at hj;rw[zO _ hj];have wb:=qGa h.sol (strR F j (j+1));have m1:0<=c*wholeR l (strR F j (j+1))/\c*wholeR l (strR F j (j+1))<=1000*28800000000:=⟨Int.mul_nonneg hc.1 wb.1,Int.mul_le_mul hc.2 wb.2 wb.1 (by omega)⟩
  unfold okN;omega
 unfold qZ;refine⟨by unfold hei;simp only;omega,h.vw.kerf,by simp,hh,λi hi=>by have:=hts_b h.pr (wL hi);simp only;omega,by simp,by simp only[List.length_map,List.length_range];unfold hei;omega,by simp only[List.length_map,List.length_range];unfold hei;omega,?_,?_,rate t.Chip h.vw.chip,rate t.Dust h.vw.dust⟩
 ·intro i hi;simp only at hi⊢;rw[zO _ hi];simp only[List.length_map,List.length_range];rfl
 ·intro i hi j hj;simp only at hi hj⊢;rw[zO _ hi] at hj⊢;simp only[List.length_map,List.length_range] at hj;rw[zO _ hj];exact(stG_b l ds ps F w t _ _).1
noncomputable def stN (l:List qA) (ds:List Defect) (ps:List Product) (F:Rect) (w:Saw) (t:Rates) (x:Piece):List Node:=(stG l ds ps F w t ((hts ps).getD x.Size.toNat default) x.At.toNat).2
noncomputable def WE (l:List qA) (ds:List Defect) (ps:List Product) (F:Rect) (w:Saw) (t:Rates):List Pt:=(wG (qZ l ds ps F w t)).map (ptOf (qZ l ds ps F w t) F.Y.A (stN l ds ps F w t))
noncomputable def XY (l:List qA) (ds:List Defect) (ps:List Product) (F:Rect) (w:Saw) (t:Rates):List Node:=rowN 3 w.Kerf F.Y (WE l ds ps F w t)
def zeroP :Pattern:=⟨⟨⟨0,0⟩,⟨0,0⟩⟩,[]⟩
open Classical in
noncomputable def PI (l:List qA) (ds:List Defect) (ps:List Product) (F:Rect) (w:Saw) (t:Rates):Pattern×Int×Int:=
 if chkE l ds ps F w t=0 then(if(XY l ds ps F w t).length<=127 then(⟨F,XY l ds ps F w t⟩,(bst (qZ l ds ps F w t) 0).value+t.Chip*(volT l-wholeR l F),0) else(zeroP,0,13)) else(zeroP,0,chkE l ds ps F w t)
theorem qFL (h:VE l ds ps F w t) (g:Piece->List Node):goodL w.Kerf F.Y.B F.Y.A ((wG (qZ l ds ps F w t)).map (ptOf (qZ l ds ps F w t) F.Y.A g)):=by
 have vl:=ME h;have:=qB6 vl F.Y.A g 3000 0 (by have:=vl.len;omega);have e1:(qZ l ds ps F w t).Len=hei F:=rfl;have e2:(qZ l ds ps F w t).Kerf=w.Kerf:=rfl;unfold wG;rw[e1,e2,show F.Y.A+hei F=F.Y.B by unfold hei;omega,show F.Y.A+((0:Nat):Int)=F.Y.A by omega] at this;exact this
theorem qCX (l:List qA) (ds:List Defect) (ps:List Product) (F:Rect) (w:Saw) (t:Rates):TR l ds ps F w t=some (PI l ds ps F w t):=by
 unfold TR PI;rw[qBx];simp only[Option.bind_some];by_cases c:chkE l ds ps F w t=0
 ·have h:=PK.1 c;have hr:=h.vr;have hr':=hr;unfold VR at hr';have vl:=ME h;have ln:=vl.len;rw[c,if_pos rfl,qOd h];simp only[Option.bind_some,bne_self_eq_false,cond_false];rw[show(Line.mk (qZ l ds ps F w t).Len (qZ l ds ps F w t).Kerf (qZ l ds ps F w t).Pitch (qZ l ds ps F w t).Sizes (qZ l ds ps F w t).Gain (qZ l ds ps F w t).Chip (qZ l ds ps F w t).Dust)=qZ l ds ps F w t from rfl,EC vl];simp only[Option.bind_some,bne_self_eq_false,cond_false];have hbl:(wG (qZ l ds ps F w t)).length<=3000:=qHt _ _ _;have hsz:(qZ l ds ps F w t).Sizes=hts ps:=rfl;have hlen:(qZ l ds ps F w t).Len=hei F:=rfl
  have k:=BN (wG (qZ l ds ps F w t)) (λn (s:List Span×List (List Node)) x=>RZ F (qZ l ds ps F w t,OL l ds ps F w t) (wG (qZ l ds ps F w t),(bst (qZ l ds ps F w t) 0).value,0) n s.1 s.2 x) (λx=>(x:Int)) (λ_ x s=>(s.1++[(ptOf (qZ l ds ps F w t) F.Y.A (stN l ds ps F w t) x).1],s.2++[(ptOf (qZ l ds ps F w t) F.Y.A (stN l ds ps F w t) x).2])) (λs=>s)
   (λx s=>s.1.length=x/\s.2.length=x) (by omega)
   (λn x s hx hs=>by
    obtain⟨i,q,ey,hi,hq,hg⟩:=BP vl 3000 0 (by omega) _ (wL hx);have ey':(wG (qZ l ds ps F w t)).getD x default=⟨(i:Int),(q:Int)⟩:=ey;have sb:=hts_b h.pr (wL hi);have hi':i<(hts ps).length:=hi;have hq':(q:Int)+(hts ps).getD i default<=hei F:=by unfold szAt at hq;rw[hlen] at hq;have:(qZ l ds ps F w t).Sizes.getD i default=(hts ps).getD i default:=rfl;omega
    have hb:hei F<=1200:=by unfold hei;omega
    refine⟨?_,by simp[hs.1],by simp[hs.2]⟩;rw[RZ,decide_eq_true (show(x:Int)<_ by simp only;omega),qK (by omega) (by simp only;omega)];simp only[Int.toNat_natCast,ey'];have hnr:q<nRow F ((hts ps).getD i default):=by unfold nRow;omega
    have hst:(OL l ds ps F w t).getD i default=(List.range (nRow F ((hts ps).getD i default))).map (λp=>(stG l ds ps F w t ((hts ps).getD i default) p).2):=by unfold OL;rw[zO _ hi']
    have hsl:(OL l ds ps F w t).length=(hts ps).length:=by unfold OL;simp
    rw[hsz,qK (by omega) (by omega),qF (n:=(q:Int)+(hts ps).getD i default) (by omega) (by omega),qHk hr (by omega) (by omega),qV (by omega) (by omega),qK (by omega) (by rw[hsl];omega)];simp only[Int.toNat_natCast,hst,List.length_map,List.length_range];rw[qK (by omega) (by omega)];unfold GJ;rw[qV (by omega) (by omega),qP (by omega)];simp only[cond_true,Option.bind_some];rw[zO _ hnr];rfl)
   (λn s _=>by rw[RZ];simp) (i:=0) rfl ([],[]) ⟨rfl,rfl⟩
  rw[k.1];have fold2:∀(L:List Piece) (i:Nat) (s:List Span×List (List Node)),foldi (λ_ x (s:List Span×List (List Node))=>(s.1++[(ptOf (qZ l ds ps F w t) F.Y.A (stN l ds ps F w t) x).1],s.2++[(ptOf (qZ l ds ps F w t) F.Y.A (stN l ds ps F w t) x).2])) i L s=(s.1++(L.map (ptOf (qZ l ds ps F w t) F.Y.A (stN l ds ps F w t))).map Prod.fst,s.2++(L.map (ptOf (qZ l ds ps F w t) F.Y.A (stN l ds ps F w t))).map Prod.snd):=by
   intro L
   induction L with
   |nil=>intro i s;simp[foldi]
   |cons x L ih=>
    intro i s;show foldi _ (i+1) L _=_;rw[ih];simp
  rw[fold2];simp only[Option.bind_some,List.nil_append];have hnd:ndC (WE l ds ps F w t)+1<=1000000000:=by
   have:=qJ1 (qZ l ds ps F w t) F.Y.A (stN l ds ps F w t) 127 (wG (qZ l ds ps F w t)) (λx _=>(stG_b l ds ps F w t _ _).2);unfold WE;have h3:(3+127)*(wG (qZ l ds ps F w t)).length<=(3+127)*3000:=Nat.mul_le_mul_left _ hbl;omega
  have hrow:=qJg hr (axis:=3) (kerf:=w.Kerf) (.inr rfl) h.vw.kerf (L:=WE l ds ps F w t) (by unfold WE;simp;omega) (qFL h (stN l ds ps F w t)) hnd;have hrow':yV F 3 w.Kerf ((WE l ds ps F w t).map Prod.fst) ((WE l ds ps F w t).map Prod.snd)=some (rowR (XY l ds ps F w t)):=hrow;show((yV F 3 w.Kerf ((WE l ds ps F w t).map Prod.fst) ((WE l ds ps F w t).map Prod.snd)).bind _)=_;rw[hrow'];unfold rowR;simp only[Option.bind_some];by_cases c2:(XY l ds ps F w t).length<=127
  ·rw[if_pos c2,if_pos c2,qKZ h.sol,qIC h.sol];simp only[bne_self_eq_false,cond_false,Option.bind_some];have bv:=qL6 h.sol;have b0:=bst0_BV vl;have bw:=qGa h.sol F;have wl:=qHy h.sol F;have m3:0<=t.Chip*(volT l-wholeR l F)/\t.Chip*(volT l-wholeR l F)<=1000*28800000000:=⟨Int.mul_nonneg h.vw.chip.1 (by omega),Int.mul_le_mul h.vw.chip.2 (by omega) (by omega) (by omega)⟩
   rw[qF (n:=volT l-_) (by omega) (by omega),qF (n:=t.Chip*_) (by omega) (by omega),qF (by omega) (by omega)]
  ·rw[if_neg c2,if_neg c2];rfl
 ·have c':(chkE l ds ps F w t !=0)=true:=by simpa using c
  rw[c',if_neg c];rfl
end Go.SL.Saw

namespace Go.SL.Saw
variable {l :List qA} {ds:List Defect} {ps:List Product} {F:Rect} {w:Saw} {t:Rates}
end Go.SL.Saw

namespace Go.SL.Saw
def NA (W:Option Bool) (a1:Law24_Given):Option Bool:=
 (VO a1).bind λv2=>
 bif !v2 then
  (W).bind λv5=>
  some v5
 else
  (ZE a1).bind λv7=>
  bif v7.2.2 !=0 then
   bif ((v7.1.Nodes.length:Nat):Int)==0 then
    bif (((v7.1.Frame.X.A==0)&&((v7.1.Frame.X.B==0)&&true))&&(((v7.1.Frame.Y.A==0)&&((v7.1.Frame.Y.B==0)&&true))&&true)) then
     bif v7.2.1==0 then
      (W).bind λv13=>
      zX v13
     else
      zX false
    else
     zX false
   else
    zX false
  else
   bif (((v7.1.Frame.X.A==a1.Frame.X.A)&&((v7.1.Frame.X.B==a1.Frame.X.B)&&true))&&(((v7.1.Frame.Y.A==a1.Frame.Y.A)&&((v7.1.Frame.Y.B==a1.Frame.Y.B)&&true))&&true)) then
    (JZ (Pattern.mk v7.1.Frame v7.1.Nodes) a1.Products a1.Saw.Kerf).bind λv17=>
    bif v17==0 then
     (WV (Pattern.mk v7.1.Frame v7.1.Nodes) a1.Products a1.Saw).bind λv20=>
     bif v20 then
      (W).bind λv23=>
      zW v23
     else
      zW false
    else
     zW false
   else
    zW false
theorem qER (a1:Law24_Given):RE a1=NA YT a1:=rfl
end Go.SL.Saw

namespace Go.SL.Saw
theorem qOG {σ β:Type} (N:Nat) (L:Nat->σ->Int->Option β) (hN:N<=1000000000)
  (h0:∀n i s,i<N->(∃b,L (n+1) s (i:Int)=some b)\/∃s',L (n+1) s (i:Int)=L n s' ((i+1:Nat):Int))
  (h1:∀n s,∃b,L (n+1) s (N:Int)=some b) (s:σ):∃b,L FUEL s 0=some b:=by
 have key:∀(k i n:Nat) (s:σ),i+k=N->k<n->∃b,L n s (i:Int)=some b:=by
  intro k
  induction k with
  |zero=>
   intro i n s hi hn;obtain⟨n,rfl⟩:∃m,n=m+1:=⟨n-1,by omega⟩
   have:i=N:=by omega
   subst this;exact h1 n s
  |succ k ih=>
   intro i n s hi hn;obtain⟨n,rfl⟩:∃m,n=m+1:=⟨n-1,by omega⟩
   rcases h0 n i s (by omega) with h|⟨s',h⟩
   ·exact h
   ·rw[h];exact ih (i+1) n s' (by omega) (by omega)
 exact key N 0 FUEL s (by omega) (by rw[FUEL_eq];omega)
end Go.SL.Saw

namespace Go.SL.Saw
theorem few_ex (l:List Product):∃b,CV l=some b:=by
 unfold CV;by_cases h1:((l.length:Nat):Int)>20
 ·rw[decide_eq_true h1];exact⟨_,rfl⟩
 rw[decide_eq_false h1];obtain⟨u,e⟩:=qOG l.length (λn (_:Unit) x=>QS l n x) (by omega) (λn i s hi=>by
   rw[QS,decide_eq_true (by omega),qK (by omega) (by omega)];unfold BB;rw[qP (by omega)];simp only[cond_true,Int.toNat_natCast];cases decide (((((l.getD i default).Name).size:Nat):Int)>100)
   ·cases decide (((((l.getD i default).Lengths).length:Nat):Int)>12)
    ·cases decide (((((l.getD i default).Prices).length:Nat):Int)>12)
     ·exact .inr ⟨(),rfl⟩
     ·exact .inl ⟨_,rfl⟩
    ·exact .inl ⟨_,rfl⟩
   ·exact .inl ⟨_,rfl⟩) (λn s=>by
   refine⟨.inr (),?_⟩;rw[QS,decide_eq_false (by omega)];rfl) ()
 rw[e];cases u with
 |inl v=>exact⟨v,rfl⟩
 |inr v=>exact⟨true,rfl⟩
theorem qR5 (l:List qA):∃b,LI l=some b:=by
 unfold LI;by_cases h1:((l.length:Nat):Int)>30
 ·rw[decide_eq_true h1];exact⟨_,rfl⟩
 rw[decide_eq_false h1];obtain⟨u,e⟩:=qOG l.length (λn (_:Unit) x=>XE l n x) (by omega) (λn i s hi=>by
   rw[XE,decide_eq_true (by omega),qK (by omega) (by omega),qP (by omega)];simp only[cond_true,Int.toNat_natCast];cases decide ((((((l.getD i default).Sec).Rows).length:Nat):Int)>130)
   ·exact .inr ⟨(),rfl⟩
   ·exact .inl ⟨_,rfl⟩) (λn s=>by
   refine⟨.inr (),?_⟩;rw[XE,decide_eq_false (by omega)];rfl) ()
 rw[e];cases u with
 |inl v=>exact⟨v,rfl⟩
 |inr v=>exact⟨true,rfl⟩
theorem qOs (s:Span) (p:Int):∃n,NU s p=some n/\(-600<=s.A->s.B<=600->s.A<=s.B->1<=p->n=(s.B-s.A)/p+1):=by
 unfold NU VB;by_cases h1:s.A< -600
 ·rw[decide_eq_true h1];exact⟨1,rfl,λh=>by omega⟩
 by_cases h2:s.B>600
 ·rw[decide_eq_false h1,decide_eq_true h2];exact⟨1,rfl,λ_ h=>by omega⟩
 by_cases h3:p<1
 ·rw[decide_eq_false h1,decide_eq_false h2,decide_eq_true h3];exact⟨1,rfl,λ_ _ _ h=>by omega⟩
 rw[decide_eq_false h1,decide_eq_false h2,decide_eq_false h3,nz_t (by omega)];refine⟨_,rfl,λa b c d=>?_⟩;rw[qF (n:=s.B-s.A) (by omega) (by omega),Int.tdiv_eq_ediv_of_nonneg (by omega)];have e1:0<=(s.B-s.A)/p:=Int.ediv_nonneg (by omega) (by omega);have e2:(s.B-s.A)/p<=s.B-s.A:=Int.ediv_le_self p (by omega);rw[qF (n:=(s.B-s.A)/p) (by omega) (by omega),qF (by omega) (by omega)]
theorem qR1 (a:Law24_Given):∃b,VO a=some b:=by
 have k2:∀x,∃b,RS a x=some b:=by
  intro x;unfold RS;cases x with
  |true=>exact⟨_,rfl⟩
  |false=>
   obtain⟨n,e,_⟩:=qOs a.Frame.X a.Saw.Pitch;obtain⟨m,e',_⟩:=qOs a.Frame.Y a.Saw.Pitch;rw[e,e'];exact⟨_,rfl⟩
 have k1:∀x,∃b,WD a x=some b:=by
  intro x;unfold WD;cases x with
  |true=>exact⟨_,rfl⟩
  |false=>
   by_cases h:a.Saw.Step≥1
   ·rw[decide_eq_true h,(HB a.Solid).1,nz_t (by omega)];exact k2 _
   ·rw[decide_eq_false h];exact k2 _
 unfold VO;obtain⟨b1,e1⟩:=qR5 a.Solid;rw[e1];simp only[Option.bind_some];cases b1 with
 |false=>exact k1 true
 |true=>
  simp only[Bool.not_true,cond_false];cases decide (((a.Defects.length:Nat):Int)>70) with
  |true=>exact k1 true
  |false=>
   simp only[cond_false];obtain⟨b2,e2⟩:=few_ex a.Products;rw[e2];simp only[Option.bind_some];cases b2
   ·exact k1 true
   ·exact k1 (decide (((a.Products.length:Nat):Int)>4))
theorem qQJ (a:Law24_Given):ZE a=some (⟨(PI a.Solid a.Defects a.Products a.Frame a.Saw a.Rates).1.Frame,(PI a.Solid a.Defects a.Products a.Frame a.Saw a.Rates).1.Nodes⟩,(PI a.Solid a.Defects a.Products a.Frame a.Saw a.Rates).2.1,(PI a.Solid a.Defects a.Products a.Frame a.Saw a.Rates).2.2):=by
 unfold ZE;rw[qCX];rfl
theorem qRN {l:List qA} {ds:List Defect} {ps:List Product} {F:Rect} {w:Saw} {t:Rates} (h:(PI l ds ps F w t).2.2=0):VE l ds ps F w t/\(XY l ds ps F w t).length<=127/\PI l ds ps F w t=(⟨F,XY l ds ps F w t⟩,(bst (qZ l ds ps F w t) 0).value+t.Chip*(volT l-wholeR l F),0):=by
 unfold PI at h⊢;by_cases c:chkE l ds ps F w t=0
 ·rw[if_pos c] at h⊢;by_cases c2:(XY l ds ps F w t).length<=127
  ·rw[if_pos c2];exact⟨PK.1 c,c2,rfl⟩
  ·rw[if_neg c2] at h;exact absurd h (by decide)
 ·rw[if_neg c] at h;exact absurd h c
end Go.SL.Saw

namespace Go.SL.Saw
variable {l :List qA} {ds:List Defect} {ps:List Product} {F:Rect} {w:Saw} {t:Rates}
def stR (ps:List Product) (F:Rect) (x:Piece):Rect:=strR F x.At (x.At+(hts ps).getD x.Size.toNat default)
noncomputable def qLL (l:List qA) (ds:List Defect) (ps:List Product) (F:Rect) (w:Saw) (t:Rates) (x:Piece):Pq:=
 (⟨F.Y.A+x.At,F.Y.A+(x.At+(hts ps).getD x.Size.toNat default)⟩,edgeTr ps (stR ps F x) (lineS l ds ps (stR ps F x) w t) w.Kerf)
theorem qG0 (h:VE l ds ps F w t) {i q:Nat} (hi:i<(hts ps).length) (hq:(q:Int)+(hts ps).getD i default<=hei F) (hg:¬(stG l ds ps F w t ((hts ps).getD i default) q).1<0):
  VE l ds ps (stR ps F ⟨(i:Int),(q:Int)⟩) w t/\(wT l ds ps (stR ps F ⟨(i:Int),(q:Int)⟩) w t).2.2=0
  /\(stG l ds ps F w t ((hts ps).getD i default) q).1=(bst (lineS l ds ps (stR ps F ⟨(i:Int),(q:Int)⟩) w t) 0).value
  /\(stG l ds ps F w t ((hts ps).getD i default) q).2=zB (edgeTr ps (stR ps F ⟨(i:Int),(q:Int)⟩) (lineS l ds ps (stR ps F ⟨(i:Int),(q:Int)⟩) w t) w.Kerf)
  /\(q:Int) % w.Pitch=0:=by
 have sb:=hts_b h.pr (wL hi);have es:stR ps F ⟨(i:Int),(q:Int)⟩=strR F q (q+(hts ps).getD i default):=by unfold stR;simp only[Int.toNat_natCast]
 have ve:=qNC h (p:=(q:Int)) (q:=(q:Int)+(hts ps).getD i default) (by omega) (by omega) hq;rw[es];unfold stG at hg⊢;by_cases c:(q:Int) % w.Pitch=0
 ·rw[if_pos c] at hg⊢;by_cases c1:(wT l ds ps (strR F q (q+(hts ps).getD i default)) w t).2.2=0/\hasB (wT l ds ps (strR F q (q+(hts ps).getD i default)) w t).1=true
  ·rw[if_pos c1] at hg⊢;refine⟨ve,c1.1,(qM8 c1.1).2,?_,c⟩;rw[SD ve];exact(qK1 c1.1).2.2.1
  ·rw[if_neg c1] at hg;simp at hg
 ·rw[if_neg c] at hg;simp at hg
theorem qNj (l:List qA) (ds:List Defect) (ps:List Product) (F:Rect) (w:Saw) (t:Rates) {i q:Nat} (hi:i<(hts ps).length) (hq:(q:Int)+(hts ps).getD i default<=hei F):gnAt (qZ l ds ps F w t) i q=(stG l ds ps F w t ((hts ps).getD i default) q).1:=by
 unfold gnAt qZ;simp only;rw[zO _ hi,zO _ (by unfold nRow;omega)]
theorem qNe (h:VE l ds ps F w t):((wG (qZ l ds ps F w t)).map (qLL l ds ps F w t)).map ptP=WE l ds ps F w t:=by
 have vl:=ME h;have ln:=vl.len;unfold WE;rw[List.map_map];apply List.map_congr_left;intro x hx;obtain⟨i,q,ey,hi,hq,hg⟩:=BP vl 3000 0 (by omega) x hx;subst ey;have hi':i<(hts ps).length:=hi;have hq':(q:Int)+(hts ps).getD i default<=hei F:=by
  have:szAt (qZ l ds ps F w t) i=(hts ps).getD i default:=rfl;have:(qZ l ds ps F w t).Len=hei F:=rfl;omega
 rw[qNj l ds ps F w t hi' hq'] at hg;have pk:=qG0 h hi' hq' hg;show(_,zB _)=(_,stN l ds ps F w t ⟨(i:Int),(q:Int)⟩);unfold stN;simp only[Int.toNat_natCast];rw[pk.2.2.2.1];rfl
theorem qIH (h:VE l ds ps F w t):goodL w.Kerf F.Y.B F.Y.A (((wG (qZ l ds ps F w t)).map (qLL l ds ps F w t)).map ptP):=by
 rw[qNe h];exact qFL h _
noncomputable def planT (l:List qA) (ds:List Defect) (ps:List Product) (F:Rect) (w:Saw) (t:Rates):T:=rowT 3 w.Kerf F.Y.B F.Y.A ((wG (qZ l ds ps F w t)).map (qLL l ds ps F w t))
theorem qOc (h:VE l ds ps F w t):zB (planT l ds ps F w t)=XY l ds ps F w t:=by
 unfold planT XY rowN;rw[qAW 3 w.Kerf F.Y.B _ _ (qIH h),qNe h]
theorem qRA (h:VE l ds ps F w t):okS (bdCat ps) w.Kerf (planT l ds ps F w t) F:=by
 have vl:=ME h;have ln:=vl.len;have hr:=h.vr;unfold VR at hr;have e:wiP F 3 ⟨F.Y.A,F.Y.B⟩=F:=rfl;have key:=qMY (bd:=bdCat ps) (R:=F) (axis:=3) (B:=F.Y.B) (.inr rfl) h.vw.kerf hr.2.2.2 ((wG (qZ l ds ps F w t)).map (qLL l ds ps F w t)) F.Y.A hr.2.1 (by omega) (qIH h) ?_
 ·rw[e] at key;exact key
 ·intro x hx;obtain⟨y,hy,rfl⟩:=List.mem_map.1 hx;obtain⟨i,q,ey,hi,hq,hg⟩:=BP vl 3000 0 (by omega) y hy;subst ey;have hi':i<(hts ps).length:=hi;have hq':(q:Int)+(hts ps).getD i default<=hei F:=by
   have:szAt (qZ l ds ps F w t) i=(hts ps).getD i default:=rfl;have:(qZ l ds ps F w t).Len=hei F:=rfl;omega
  rw[qNj l ds ps F w t hi' hq'] at hg;exact qCj (qG0 h hi' hq' hg).1
theorem plan_VY (h:VE l ds ps F w t) (hn:(XY l ds ps F w t).length<=127):VY l ds ps ⟨F,XY l ds ps F w t⟩ w t:=by
 refine⟨h.sol,(KP ds).2 ⟨h.dl,h.dd⟩,h.pr,h.vw,?_⟩;rw[YR];refine⟨h.vr,h.vw.kerf,hn,?_⟩;simp only;rw[<-qOc h] at hn⊢;exact qMR (qRA h) hn
end Go.SL.Saw

namespace Go.SL.Saw
variable {l :List qA} {ds:List Defect} {ps:List Product} {F:Rect} {w:Saw} {t:Rates}
end Go.SL.Saw

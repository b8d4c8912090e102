/- Plans: the plan line is a good line; the best plan. -/
import Derived.Test.YtidlfgiogdjkaaaGreatDoorEMa8
import Derived.Test.YtidlfgiogdjkaaaGreatDoorEMod
import Derived.Test.YtidlfgiogdjkaaaGreatDoorEMa7
set_option linter.unusedVariables false
set_option linter.unusedSimpArgs false
namespace Go.SL.Saw
variable {l :List qC} {ds:List qF} {ps:List Product} {F:Rect} {w:Saw} {t:Rates}
theorem qZS (h:(jR l ds ps F w t).2.2=0): -200000000000000<=(jR l ds ps F w t).2.1/\(jR l ds ps F w t).2.1<=200000000000000/\(jR l ds ps F w t).1=rowN 2 (lineS l ds ps F w t).Kerf F.X (wD ps F (lineS l ds ps F w t))/\(jR l ds ps F w t).1.length<=127:=by
 obtain⟨hv,e⟩:=q1d h;have hn:(rowN 2 (lineS l ds ps F w t).Kerf F.X (wD ps F (lineS l ds ps F w t))).length<=127/\(jR l ds ps F w t).1=rowN 2 (lineS l ds ps F w t).Kerf F.X (wD ps F (lineS l ds ps F w t)):=by
  unfold jR at h⊢;rw[if_pos (JW.2 hv)] at h⊢;unfold qI2 at h⊢;by_cases c2:(rowN 2 (lineS l ds ps F w t).Kerf F.X (wD ps F (lineS l ds ps F w t))).length<=127
  ·rw[if_pos c2];exact⟨c2,rfl⟩
  ·rw[if_neg c2] at h;exact absurd h (by decide)
 have vy:=qX2 hv hn.1;have val:=qY3 hv hn.1;have bd:=(Of_ok vy).2;have c0:=yC_nn vy;have bv:=qOT hv.sol;have wl:=qIN hv.sol F;have wn:=qVL l F;have hb:=bd.nB;have hd:=bd.nD;have hw:=bd.nW;have hch:=hv.vw.chip;have hdu:=hv.vw.dust
 have val2:(qQI l ds ps ⟨F,rowN 2 (lineS l ds ps F w t).Kerf F.X (wD ps F (lineS l ds ps F w t))⟩ w t).Value=yW l ds ps ⟨F,rowN 2 (lineS l ds ps F w t).Kerf F.X (wD ps F (lineS l ds ps F w t))⟩ w t.Fine+(t.Chip*yC l ds ps ⟨F,rowN 2 (lineS l ds ps F w t).Kerf F.X (wD ps F (lineS l ds ps F w t))⟩ w t.Fine+t.Dust*yD l ds ps ⟨F,rowN 2 (lineS l ds ps F w t).Kerf F.X (wD ps F (lineS l ds ps F w t))⟩ w t.Fine):=rfl
 have hC:yC l ds ps ⟨F,rowN 2 (lineS l ds ps F w t).Kerf F.X (wD ps F (lineS l ds ps F w t))⟩ w t.Fine<=28800000000/\yD l ds ps ⟨F,rowN 2 (lineS l ds ps F w t).Kerf F.X (wD ps F (lineS l ds ps F w t))⟩ w t.Fine<=28800000000:=by unfold yC at*;omega
 generalize yC l ds ps ⟨F,rowN 2 (lineS l ds ps F w t).Kerf F.X (wD ps F (lineS l ds ps F w t))⟩ w t.Fine=C at*;generalize yD l ds ps ⟨F,rowN 2 (lineS l ds ps F w t).Kerf F.X (wD ps F (lineS l ds ps F w t))⟩ w t.Fine=D at*;have m1:0<=t.Chip*C/\t.Chip*C<=1000*28800000000:=⟨kC hch.1 c0,uo hch.2 hC.1 c0 (by omega)⟩
 have m2:0<=t.Dust*D/\t.Dust*D<=1000*28800000000:=⟨kC hdu.1 hd.1,uo hdu.2 hC.2 hd.1 (by omega)⟩
 have m3:0<=t.Chip*(volT l-zD l F)/\t.Chip*(volT l-zD l F)<=1000*28800000000:=⟨kC hch.1 (by omega),uo hch.2 (by omega) (by omega) (by omega)⟩
 rw[e,hn.2];refine⟨by omega,by omega,rfl,hn.1⟩
theorem stG_b (l:List qC) (ds:List qF) (ps:List Product) (F:Rect) (w:Saw) (t:Rates) (h:Int) (p:Nat):okN (stG l ds ps F w t h p).1/\(stG l ds ps F w t h p).2.length<=127:=by
 unfold okN stG;split
 ·split
  ·rename_i c;have:=qZS c.1;exact⟨by omega,this.2.2.2⟩
  ·simp
 ·simp
theorem qFp (h:VE l ds ps F w t):VL (zP l ds ps F w t):=by
 have hr:=h.vr;unfold VR at hr;have hh:=qSd ps;have rate:∀c:Int,0<=c/\c<=1000->∀j,j<((List.range (hei F).toNat).map (λp:Nat=>c*zD l (strR F p (p+1)))).length->okN (((List.range (hei F).toNat).map (λp:Nat=>c*zD l (strR F p (p+1)))).getD j du):=by
  intro c hc j hj;simp only[kN,uf] at hj;rw[wT _ hj];have wb:=qEL h.sol (strR F j (j+1));have m1:0<=c*zD l (strR F j (j+1))/\c*zD l (strR F j (j+1))<=1000*28800000000:=⟨kC hc.1 wb.1,uo hc.2 wb.2 wb.1 (by omega)⟩
  unfold okN;omega
 unfold zP;refine⟨by unfold hei;simp only;omega,h.vw.kerf,by simp,hh,λi hi=>by have:=qPS h.pr (jE hi);simp only;omega,by simp,by simp only[kN,uf];unfold hei;omega,by simp only[kN,uf];unfold hei;omega,?_,?_,rate t.Chip h.vw.chip,rate t.Dust h.vw.dust⟩
 ·intro i hi;simp only at hi⊢;rw[wT _ hi];simp only[kN,uf];rfl
 ·intro i hi j hj;simp only at hi hj⊢;rw[wT _ hi] at hj⊢;simp only[kN,uf] at hj;rw[wT _ hj];exact(stG_b l ds ps F w t _ _).1
noncomputable def stN (l:List qC) (ds:List qF) (ps:List Product) (F:Rect) (w:Saw) (t:Rates) (x:qX):List Node:=(stG l ds ps F w t ((hts ps).getD x.Size.toNat du) x.At.toNat).2
noncomputable def QL (l:List qC) (ds:List qF) (ps:List Product) (F:Rect) (w:Saw) (t:Rates):List Pt:=(wE (zP l ds ps F w t)).map (ptOf (zP l ds ps F w t) F.Y.A (stN l ds ps F w t))
noncomputable def AI (l:List qC) (ds:List qF) (ps:List Product) (F:Rect) (w:Saw) (t:Rates):List Node:=rowN 3 w.Kerf F.Y (QL l ds ps F w t)
def zeroP :qN:=⟨⟨⟨0,0⟩,⟨0,0⟩⟩,[]⟩
open Classical in
noncomputable def GM (l:List qC) (ds:List qF) (ps:List Product) (F:Rect) (w:Saw) (t:Rates):qN×Int×Int:=
 if chkE l ds ps F w t=0 then(if(AI l ds ps F w t).length<=127 then(⟨F,AI l ds ps F w t⟩,(bst (zP l ds ps F w t) 0).value+t.Chip*(volT l-zD l F),0) else(zeroP,0,13)) else(zeroP,0,chkE l ds ps F w t)
theorem qSC (h:VE l ds ps F w t) (g:qX->List Node):VB w.Kerf F.Y.B F.Y.A ((wE (zP l ds ps F w t)).map (ptOf (zP l ds ps F w t) F.Y.A g)):=by
 have vl:=qFp h;have:=qC5 vl F.Y.A g 3000 0 (by have:=vl.len;omega);have e1:(zP l ds ps F w t).Len=hei F:=rfl;have e2:(zP l ds ps F w t).Kerf=w.Kerf:=rfl;unfold wE;rw[e1,e2,show F.Y.A+hei F=F.Y.B by unfold hei;omega,show F.Y.A+((0:Nat):Int)=F.Y.A by omega] at this;exact this
theorem qG1 (l:List qC) (ds:List qF) (ps:List Product) (F:Rect) (w:Saw) (t:Rates):BM l ds ps F w t=some (GM l ds ps F w t):=by
 unfold BM GM;rw[qEZ];simp only[ke];by_cases c:chkE l ds ps F w t=0
 ·have h:=JW.1 c;have hr:=h.vr;have hr':=hr;unfold VR at hr';have vl:=qFp h;have ln:=vl.len;rw[c,if_pos rfl,qXx h];simp only[ke,kv,kp];rw[show(Line.mk (zP l ds ps F w t).Len (zP l ds ps F w t).Kerf (zP l ds ps F w t).Pitch (zP l ds ps F w t).Sizes (zP l ds ps F w t).Gain (zP l ds ps F w t).Chip (zP l ds ps F w t).Dust)=zP l ds ps F w t from rfl,qBu vl];simp only[ke,kv,kp];have hbl:(wE (zP l ds ps F w t)).length<=3000:=qEQ _ _ _;have hsz:(zP l ds ps F w t).Sizes=hts ps:=rfl;have hlen:(zP l ds ps F w t).Len=hei F:=rfl
  have k:=ZC (wE (zP l ds ps F w t)) (λn (s:List Span×List (List Node)) x=>BB F (zP l ds ps F w t,qDj l ds ps F w t) (wE (zP l ds ps F w t),(bst (zP l ds ps F w t) 0).value,0) n s.1 s.2 x) (λx=>(x:Int)) (λ_ x s=>(s.1++[(ptOf (zP l ds ps F w t) F.Y.A (stN l ds ps F w t) x).1],s.2++[(ptOf (zP l ds ps F w t) F.Y.A (stN l ds ps F w t) x).2])) (λs=>s)
   (λx s=>s.1.length=x/\s.2.length=x) (by omega)
   (λn x s hx hs=>by
    obtain⟨i,q,ey,hi,hq,hg⟩:=qB2 vl 3000 0 (by omega) _ (jE hx);have ey':(wE (zP l ds ps F w t)).getD x du=⟨(i:Int),(q:Int)⟩:=ey;have sb:=qPS h.pr (jE hi);have hi':i<(hts ps).length:=hi;have hq':(q:Int)+(hts ps).getD i du<=hei F:=by unfold szAt at hq;rw[hlen] at hq;have:(zP l ds ps F w t).Sizes.getD i du=(hts ps).getD i du:=rfl;omega
    have hb:hei F<=1200:=by unfold hei;omega
    refine⟨?_,by simp[hs.1],by simp[hs.2]⟩;rw[BB,kd (show(x:Int)<_ by simp only;omega),ZQ (by omega) (by simp only;omega)];simp only[ko,ey'];have hnr:q<nRow F ((hts ps).getD i du):=by unfold nRow;omega
    have hst:(qDj l ds ps F w t).getD i du=(List.range (nRow F ((hts ps).getD i du))).map (λp=>(stG l ds ps F w t ((hts ps).getD i du) p).2):=by unfold qDj;rw[wT _ hi']
    have hsl:(qDj l ds ps F w t).length=(hts ps).length:=by unfold qDj;simp
    rw[hsz,qU (by omega),qK (n:=(q:Int)+(hts ps).getD i du) (by omega),qNV hr (by omega) (by omega),wO (by omega),ZQ (by omega) (by rw[hsl];omega)];simp only[ko,hst,kN,uf];rw[qU (by omega)];unfold MP;rw[wO (by omega),qY (by omega)];simp only[kn,ke];rw[wT _ hnr];rfl)
   (λn s _=>by rw[BB];simp) (i:=0) rfl ([],[]) ⟨rfl,rfl⟩
  rw[k.1];have fold2:∀(L:List qX) (i:Nat) (s:List Span×List (List Node)),foldi (λ_ x (s:List Span×List (List Node))=>(s.1++[(ptOf (zP l ds ps F w t) F.Y.A (stN l ds ps F w t) x).1],s.2++[(ptOf (zP l ds ps F w t) F.Y.A (stN l ds ps F w t) x).2])) i L s=(s.1++(L.map (ptOf (zP l ds ps F w t) F.Y.A (stN l ds ps F w t))).map Prod.fst,s.2++(L.map (ptOf (zP l ds ps F w t) F.Y.A (stN l ds ps F w t))).map Prod.snd):=by
   intro L
   induction L with
   |nil=>intro i s;simp[foldi]
   |cons x L ih=>
    intro i s;show foldi _ (i+1) L _=_;rw[ih];simp
  rw[fold2];simp only[ke,ur];have hnd:ndC (QL l ds ps F w t)+1<=1000000000:=by
   have:=qHL (zP l ds ps F w t) F.Y.A (stN l ds ps F w t) 127 (wE (zP l ds ps F w t)) (λx _=>(stG_b l ds ps F w t _ _).2);unfold QL;have h3:(3+127)*(wE (zP l ds ps F w t)).length<=(3+127)*3000:=uR _ hbl;omega
  have hrow:=q0A hr (axis:=3) (kerf:=w.Kerf) (.inr rfl) h.vw.kerf (L:=QL l ds ps F w t) (by unfold QL;simp;omega) (qSC h (stN l ds ps F w t)) hnd;have hrow':XC F 3 w.Kerf ((QL l ds ps F w t).map Prod.fst) ((QL l ds ps F w t).map Prod.snd)=some (rowR (AI l ds ps F w t)):=hrow;show((XC F 3 w.Kerf ((QL l ds ps F w t).map Prod.fst) ((QL l ds ps F w t).map Prod.snd)).bind _)=_;rw[hrow'];unfold rowR;simp only[ke];by_cases c2:(AI l ds ps F w t).length<=127
  ·rw[if_pos c2,if_pos c2,qS5 h.sol,qQG h.sol];simp only[kv,kp,ke];have bv:=qOT h.sol;have b0:=qYp vl;have bw:=qEL h.sol F;have wl:=qIN h.sol F;have m3:0<=t.Chip*(volT l-zD l F)/\t.Chip*(volT l-zD l F)<=1000*28800000000:=⟨kC h.vw.chip.1 (by omega),uo h.vw.chip.2 (by omega) (by omega) (by omega)⟩
   rw[qK (n:=volT l-_) (by omega),qK (n:=t.Chip*_) (by omega),qK (by omega)]
  ·rw[if_neg c2,if_neg c2];rfl
 ·have c':(chkE l ds ps F w t !=0)=true:=by simpa using c
  rw[c',if_neg c];rfl
end Go.SL.Saw

namespace Go.SL.Saw
variable {l :List qC} {ds:List qF} {ps:List Product} {F:Rect} {w:Saw} {t:Rates}
end Go.SL.Saw

namespace Go.SL.Saw
def qAE (W:Option Bool) (a1:zB):Option Bool:=
 (LA a1).bind λv2=>
 bif !v2 then
  (W).bind λv5=>
  some v5
 else
  (WO a1).bind λv7=>
  (AT a1.Solid a1.Defects a1.Products a1.Frame a1.Saw a1.Rates).bind λv9=>
  (EA (qN.mk v7.1.Frame v7.1.Nodes) (qN.mk v9.1.Frame v9.1.Nodes)).bind λv11=>
  bif v11 then
   bif v7.2.1==v9.2.1 then
    bif v7.2.2==v9.2.2 then
     (W).bind λv16=>
     jI v16
    else
     jI false
   else
    jI false
  else
   jI false
theorem qLI (a1:zB):MG a1=qAE VQ a1:=rfl
end Go.SL.Saw

namespace Go.SL.Saw
theorem qX4 {σ β:Type} (N:Nat) (L:Nat->σ->Int->Option β) (hN:N<=1000000000)
  (h0:∀n i s,i<N->(∃b,L (n+1) s (i:Int)=some b)\/∃s',L (n+1) s (i:Int)=L n s' ((i+1:Nat):Int))
  (h1:∀n s,∃b,L (n+1) s (N:Int)=some b) (s:σ):∃b,L FUEL s 0=some b:=by
 have key:∀(k i n:Nat) (s:σ),i+k=N->k<n->∃b,L n s (i:Int)=some b:=by
  intro k
  induction k with
  |zero=>
   intro i n s hi hn;obtain⟨n,rfl⟩:∃m,n=m+1:=⟨n-1,by omega⟩
   have:i=N:=by omega
   subst this;exact h1 n s
  |succ k ih=>
   intro i n s hi hn;obtain⟨n,rfl⟩:∃m,n=m+1:=⟨n-1,by omega⟩
   rcases h0 n i s (by omega) with h|⟨s',h⟩
   ·exact h
   ·rw[h];exact ih (i+1) n s' (by omega) (by omega)
 exact key N 0 FUEL s (by omega) (by rw[jF];omega)
end Go.SL.Saw

namespace Go.SL.Saw
theorem few_ex (l:List Product):∃b,qDq l=some b:=by
 unfold qDq;by_cases h1:(l.length:Int)>20
 ·rw[kd h1];exact⟨_,rfl⟩
 rw[ka h1];obtain⟨u,e⟩:=qX4 l.length (λn (_:Unit) x=>JF l n x) (by omega) (λn i s hi=>by
   rw[JF,kd (by omega),qU (by omega)];unfold MQ;rw[qY (by omega)];simp only[kn,ko];cases decide (((((l.getD i du).Name).size:Nat):Int)>100)
   ·cases decide (((((l.getD i du).Lengths).length:Nat):Int)>12)
    ·cases decide (((((l.getD i du).Prices).length:Nat):Int)>12)
     ·exact .inr ⟨(),rfl⟩
     ·exact .inl ⟨_,rfl⟩
    ·exact .inl ⟨_,rfl⟩
   ·exact .inl ⟨_,rfl⟩) (λn s=>by
   refine⟨.inr (),?_⟩;rw[JF,ka (by omega)];rfl) ()
 rw[e];cases u with
 |inl v=>exact⟨v,rfl⟩
 |inr v=>exact⟨true,rfl⟩
theorem q1h (l:List qC):∃b,OH l=some b:=by
 unfold OH;by_cases h1:(l.length:Int)>30
 ·rw[kd h1];exact⟨_,rfl⟩
 rw[ka h1];obtain⟨u,e⟩:=qX4 l.length (λn (_:Unit) x=>RM l n x) (by omega) (λn i s hi=>by
   rw[RM,kd (by omega),qU (by omega),qY (by omega)];simp only[kn,ko];cases decide ((((((l.getD i du).Sec).Rows).length:Nat):Int)>130)
   ·exact .inr ⟨(),rfl⟩
   ·exact .inl ⟨_,rfl⟩) (λn s=>by
   refine⟨.inr (),?_⟩;rw[RM,ka (by omega)];rfl) ()
 rw[e];cases u with
 |inl v=>exact⟨v,rfl⟩
 |inr v=>exact⟨true,rfl⟩
theorem qYn (s:Span) (p:Int):∃n,AV s p=some n/\(-600<=s.A->s.B<=600->s.A<=s.B->1<=p->n=(s.B-s.A)/p+1):=by
 unfold AV FF;by_cases h1:s.A< -600
 ·rw[kd h1];exact⟨1,rfl,λh=>by omega⟩
 by_cases h2:s.B>600
 ·rw[ka h1,kd h2];exact⟨1,rfl,λ_ h=>by omega⟩
 by_cases h3:p<1
 ·rw[ka h1,ka h2,kd h3];exact⟨1,rfl,λ_ _ _ h=>by omega⟩
 rw[ka h1,ka h2,ka h3,nz_t (by omega)];refine⟨_,rfl,λa b c d=>?_⟩;rw[qK (n:=s.B-s.A) (by omega),Int.tdiv_eq_ediv_of_nonneg (by omega)];have e1:0<=(s.B-s.A)/p:=Int.ediv_nonneg (by omega) (by omega);have e2:(s.B-s.A)/p<=s.B-s.A:=Int.ediv_le_self p (by omega);rw[qK (n:=(s.B-s.A)/p) (by omega),qK (by omega)]
theorem q1c (a:zB):∃b,LA a=some b:=by
 have k2:∀x,∃b,DZ a x=some b:=by
  intro x;unfold DZ;cases x with
  |true=>exact⟨_,rfl⟩
  |false=>
   obtain⟨n,e,_⟩:=qYn a.Frame.X a.Saw.Pitch;obtain⟨m,e',_⟩:=qYn a.Frame.Y a.Saw.Pitch;rw[e,e'];exact⟨_,rfl⟩
 have k1:∀x,∃b,YR a x=some b:=by
  intro x;unfold YR;cases x with
  |true=>exact⟨_,rfl⟩
  |false=>
   by_cases h:a.Saw.Step≥1
   ·rw[kd h,(YA a.Solid).1,nz_t (by omega)];exact k2 _
   ·rw[ka h];exact k2 _
 unfold LA;obtain⟨b1,e1⟩:=q1h a.Solid;rw[e1];simp only[ke];cases b1 with
 |false=>exact k1 true
 |true=>
  simp only[ky,kp];cases decide ((a.Defects.length:Int)>70) with
  |true=>exact k1 true
  |false=>
   simp only[kp];obtain⟨b2,e2⟩:=few_ex a.Products;rw[e2];simp only[ke];cases b2
   ·exact k1 true
   ·exact k1 (decide ((a.Products.length:Int)>4))
theorem qZH (a:zB):WO a=some (⟨(GM a.Solid a.Defects a.Products a.Frame a.Saw a.Rates).1.Frame,(GM a.Solid a.Defects a.Products a.Frame a.Saw a.Rates).1.Nodes⟩,(GM a.Solid a.Defects a.Products a.Frame a.Saw a.Rates).2.1,(GM a.Solid a.Defects a.Products a.Frame a.Saw a.Rates).2.2):=by
 unfold WO;rw[qG1];rfl
theorem q1k {l:List qC} {ds:List qF} {ps:List Product} {F:Rect} {w:Saw} {t:Rates} (h:(GM l ds ps F w t).2.2=0):VE l ds ps F w t/\(AI l ds ps F w t).length<=127/\GM l ds ps F w t=(⟨F,AI l ds ps F w t⟩,(bst (zP l ds ps F w t) 0).value+t.Chip*(volT l-zD l F),0):=by
 unfold GM at h⊢;by_cases c:chkE l ds ps F w t=0
 ·rw[if_pos c] at h⊢;by_cases c2:(AI l ds ps F w t).length<=127
  ·rw[if_pos c2];exact⟨JW.1 c,c2,rfl⟩
  ·rw[if_neg c2] at h;exact absurd h (by decide)
 ·rw[if_neg c] at h;exact absurd h c
end Go.SL.Saw

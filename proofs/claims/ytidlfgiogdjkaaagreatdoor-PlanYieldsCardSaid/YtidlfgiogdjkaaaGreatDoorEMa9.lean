/- Plans: the plan line is a good line; the best plan. -/
import Derived.Test.YtidlfgiogdjkaaaGreatDoorEMa8
import Derived.Test.YtidlfgiogdjkaaaGreatDoorEMod
import Derived.Test.YtidlfgiogdjkaaaGreatDoorEMa7
set_option linter.unusedVariables false
set_option linter.unusedSimpArgs false
namespace Go.SL.Saw
variable {l :List qB} {ds:List Defect} {ps:List Product} {F:Rect} {w:Saw} {t:Rates}
theorem qLI (h:(yM l ds ps F w t).2.2=0): -200000000000000<=(yM l ds ps F w t).2.1/\(yM l ds ps F w t).2.1<=200000000000000/\(yM l ds ps F w t).1=rowN 2 (lineS l ds ps F w t).Kerf F.X (zV ps F (lineS l ds ps F w t))/\(yM l ds ps F w t).1.length<=127:=by
 obtain⟨hv,e⟩:=qOX h;have hn:(rowN 2 (lineS l ds ps F w t).Kerf F.X (zV ps F (lineS l ds ps F w t))).length<=127/\(yM l ds ps F w t).1=rowN 2 (lineS l ds ps F w t).Kerf F.X (zV ps F (lineS l ds ps F w t)):=by
  unfold yM at h⊢;rw[if_pos (PT.2 hv)] at h⊢;unfold qHr at h⊢;by_cases c2:(rowN 2 (lineS l ds ps F w t).Kerf F.X (zV ps F (lineS l ds ps F w t))).length<=127
  ·rw[if_pos c2];exact⟨c2,rfl⟩
  ·rw[if_neg c2] at h;exact absurd h (by decide)
 have vy:=qP3 hv hn.1;have val:=qRe hv hn.1;have bd:=(Of_ok vy).2;have c0:=yC_nn vy;have bv:=qJs hv.sol;have wl:=qIk hv.sol F;have wn:=qOr l F;have hb:=bd.nB;have hd:=bd.nD;have hw:=bd.nW;have hch:=hv.vw.chip;have hdu:=hv.vw.dust
 have val2:(qGB l ds ps ⟨F,rowN 2 (lineS l ds ps F w t).Kerf F.X (zV ps F (lineS l ds ps F w t))⟩ w t).Value=yW l ds ps ⟨F,rowN 2 (lineS l ds ps F w t).Kerf F.X (zV ps F (lineS l ds ps F w t))⟩ w t.Fine+(t.Chip*yC l ds ps ⟨F,rowN 2 (lineS l ds ps F w t).Kerf F.X (zV ps F (lineS l ds ps F w t))⟩ w t.Fine+t.Dust*yD l ds ps ⟨F,rowN 2 (lineS l ds ps F w t).Kerf F.X (zV ps F (lineS l ds ps F w t))⟩ w t.Fine):=rfl
 have hC:yC l ds ps ⟨F,rowN 2 (lineS l ds ps F w t).Kerf F.X (zV ps F (lineS l ds ps F w t))⟩ w t.Fine<=28800000000/\yD l ds ps ⟨F,rowN 2 (lineS l ds ps F w t).Kerf F.X (zV ps F (lineS l ds ps F w t))⟩ w t.Fine<=28800000000:=by unfold yC at*;omega
 generalize yC l ds ps ⟨F,rowN 2 (lineS l ds ps F w t).Kerf F.X (zV ps F (lineS l ds ps F w t))⟩ w t.Fine=C at*;generalize yD l ds ps ⟨F,rowN 2 (lineS l ds ps F w t).Kerf F.X (zV ps F (lineS l ds ps F w t))⟩ w t.Fine=D at*;have m1:0<=t.Chip*C/\t.Chip*C<=1000*28800000000:=⟨Int.mul_nonneg hch.1 c0,Int.mul_le_mul hch.2 hC.1 c0 (by omega)⟩
 have m2:0<=t.Dust*D/\t.Dust*D<=1000*28800000000:=⟨Int.mul_nonneg hdu.1 hd.1,Int.mul_le_mul hdu.2 hC.2 hd.1 (by omega)⟩
 have m3:0<=t.Chip*(volT l-wholeR l F)/\t.Chip*(volT l-wholeR l F)<=1000*28800000000:=⟨Int.mul_nonneg hch.1 (by omega),Int.mul_le_mul hch.2 (by omega) (by omega) (by omega)⟩
 rw[e,hn.2];refine⟨by omega,by omega,rfl,hn.1⟩
theorem stG_b (l:List qB) (ds:List Defect) (ps:List Product) (F:Rect) (w:Saw) (t:Rates) (h:Int) (p:Nat):okN (stG l ds ps F w t h p).1/\(stG l ds ps F w t h p).2.length<=127:=by
 unfold okN stG;split
 ·split
  ·rename_i c;have:=qLI c.1;exact⟨by omega,this.2.2.2⟩
  ·simp
 ·simp
theorem RN (h:VE l ds ps F w t):VL (qM l ds ps F w t):=by
 have hr:=h.vr;unfold VR at hr;have hh:=qQi ps;have rate:∀c:Int,0<=c/\c<=1000->∀j,j<((List.range (hei F).toNat).map (λp:Nat=>c*wholeR l (strR F p (p+1)))).length->okN (((List.range (hei F).toNat).map (λp:Nat=>c*wholeR l (strR F p (p+1)))).getD j default):=by
  intro c hc j hj;simp only[List.length_map,List.length_range] at hj;rw[zY _ hj];have wb:=qHi h.sol (strR F j (j+1));have m1:0<=c*wholeR l (strR F j (j+1))/\c*wholeR l (strR F j (j+1))<=1000*28800000000:=⟨Int.mul_nonneg hc.1 wb.1,Int.mul_le_mul hc.2 wb.2 wb.1 (by omega)⟩
  unfold okN;omega
 unfold qM;refine⟨by unfold hei;simp only;omega,h.vw.kerf,by simp,hh,λi hi=>by have:=hts_b h.pr (jY hi);simp only;omega,by simp,by simp only[List.length_map,List.length_range];unfold hei;omega,by simp only[List.length_map,List.length_range];unfold hei;omega,?_,?_,rate t.Chip h.vw.chip,rate t.Dust h.vw.dust⟩
 ·intro i hi;simp only at hi⊢;rw[zY _ hi];simp only[List.length_map,List.length_range];rfl
 ·intro i hi j hj;simp only at hi hj⊢;rw[zY _ hi] at hj⊢;simp only[List.length_map,List.length_range] at hj;rw[zY _ hj];exact(stG_b l ds ps F w t _ _).1
noncomputable def stN (l:List qB) (ds:List Defect) (ps:List Product) (F:Rect) (w:Saw) (t:Rates) (x:Piece):List Node:=(stG l ds ps F w t ((hts ps).getD x.Size.toNat default) x.At.toNat).2
noncomputable def XH (l:List qB) (ds:List Defect) (ps:List Product) (F:Rect) (w:Saw) (t:Rates):List Pt:=(wH (qM l ds ps F w t)).map (ptOf (qM l ds ps F w t) F.Y.A (stN l ds ps F w t))
noncomputable def JM (l:List qB) (ds:List Defect) (ps:List Product) (F:Rect) (w:Saw) (t:Rates):List Node:=rowN 3 w.Kerf F.Y (XH l ds ps F w t)
def zeroP :Pattern:=⟨⟨⟨0,0⟩,⟨0,0⟩⟩,[]⟩
open Classical in
noncomputable def BA (l:List qB) (ds:List Defect) (ps:List Product) (F:Rect) (w:Saw) (t:Rates):Pattern×Int×Int:=
 if chkE l ds ps F w t=0 then(if(JM l ds ps F w t).length<=127 then(⟨F,JM l ds ps F w t⟩,(bst (qM l ds ps F w t) 0).value+t.Chip*(volT l-wholeR l F),0) else(zeroP,0,13)) else(zeroP,0,chkE l ds ps F w t)
theorem qLO (h:VE l ds ps F w t) (g:Piece->List Node):goodL w.Kerf F.Y.B F.Y.A ((wH (qM l ds ps F w t)).map (ptOf (qM l ds ps F w t) F.Y.A g)):=by
 have vl:=RN h;have:=qDs vl F.Y.A g 3000 0 (by have:=vl.len;omega);have e1:(qM l ds ps F w t).Len=hei F:=rfl;have e2:(qM l ds ps F w t).Kerf=w.Kerf:=rfl;unfold wH;rw[e1,e2,show F.Y.A+hei F=F.Y.B by unfold hei;omega,show F.Y.A+((0:Nat):Int)=F.Y.A by omega] at this;exact this
theorem qD0 (l:List qB) (ds:List Defect) (ps:List Product) (F:Rect) (w:Saw) (t:Rates):UQ l ds ps F w t=some (BA l ds ps F w t):=by
 unfold UQ BA;rw[qCd];simp only[Option.bind_some];by_cases c:chkE l ds ps F w t=0
 ·have h:=PT.1 c;have hr:=h.vr;have hr':=hr;unfold VR at hr';have vl:=RN h;have ln:=vl.len;rw[c,if_pos rfl,qPN h];simp only[Option.bind_some,bne_self_eq_false,cond_false];rw[show(Line.mk (qM l ds ps F w t).Len (qM l ds ps F w t).Kerf (qM l ds ps F w t).Pitch (qM l ds ps F w t).Sizes (qM l ds ps F w t).Gain (qM l ds ps F w t).Chip (qM l ds ps F w t).Dust)=qM l ds ps F w t from rfl,EY vl];simp only[Option.bind_some,bne_self_eq_false,cond_false];have hbl:(wH (qM l ds ps F w t)).length<=3000:=qIA _ _ _;have hsz:(qM l ds ps F w t).Sizes=hts ps:=rfl;have hlen:(qM l ds ps F w t).Len=hei F:=rfl
  have k:=US (wH (qM l ds ps F w t)) (λn (s:List Span×List (List Node)) x=>UA F (qM l ds ps F w t,qAp l ds ps F w t) (wH (qM l ds ps F w t),(bst (qM l ds ps F w t) 0).value,0) n s.1 s.2 x) (λx=>(x:Int)) (λ_ x s=>(s.1++[(ptOf (qM l ds ps F w t) F.Y.A (stN l ds ps F w t) x).1],s.2++[(ptOf (qM l ds ps F w t) F.Y.A (stN l ds ps F w t) x).2])) (λs=>s)
   (λx s=>s.1.length=x/\s.2.length=x) (by omega)
   (λn x s hx hs=>by
    obtain⟨i,q,ey,hi,hq,hg⟩:=BJ vl 3000 0 (by omega) _ (jY hx);have ey':(wH (qM l ds ps F w t)).getD x default=⟨(i:Int),(q:Int)⟩:=ey;have sb:=hts_b h.pr (jY hi);have hi':i<(hts ps).length:=hi;have hq':(q:Int)+(hts ps).getD i default<=hei F:=by unfold szAt at hq;rw[hlen] at hq;have:(qM l ds ps F w t).Sizes.getD i default=(hts ps).getD i default:=rfl;omega
    have hb:hei F<=1200:=by unfold hei;omega
    refine⟨?_,by simp[hs.1],by simp[hs.2]⟩;rw[UA,decide_eq_true (show(x:Int)<_ by simp only;omega),qN (by omega) (by simp only;omega)];simp only[Int.toNat_natCast,ey'];have hnr:q<nRow F ((hts ps).getD i default):=by unfold nRow;omega
    have hst:(qAp l ds ps F w t).getD i default=(List.range (nRow F ((hts ps).getD i default))).map (λp=>(stG l ds ps F w t ((hts ps).getD i default) p).2):=by unfold qAp;rw[zY _ hi']
    have hsl:(qAp l ds ps F w t).length=(hts ps).length:=by unfold qAp;simp
    rw[hsz,qN (by omega) (by omega),qJ (n:=(q:Int)+(hts ps).getD i default) (by omega) (by omega),qIO hr (by omega) (by omega),zD (by omega) (by omega),qN (by omega) (by rw[hsl];omega)];simp only[Int.toNat_natCast,hst,List.length_map,List.length_range];rw[qN (by omega) (by omega)];unfold DY;rw[zD (by omega) (by omega),qW (by omega)];simp only[cond_true,Option.bind_some];rw[zY _ hnr];rfl)
   (λn s _=>by rw[UA];simp) (i:=0) rfl ([],[]) ⟨rfl,rfl⟩
  rw[k.1];have fold2:∀(L:List Piece) (i:Nat) (s:List Span×List (List Node)),foldi (λ_ x (s:List Span×List (List Node))=>(s.1++[(ptOf (qM l ds ps F w t) F.Y.A (stN l ds ps F w t) x).1],s.2++[(ptOf (qM l ds ps F w t) F.Y.A (stN l ds ps F w t) x).2])) i L s=(s.1++(L.map (ptOf (qM l ds ps F w t) F.Y.A (stN l ds ps F w t))).map Prod.fst,s.2++(L.map (ptOf (qM l ds ps F w t) F.Y.A (stN l ds ps F w t))).map Prod.snd):=by
   intro L
   induction L with
   |nil=>intro i s;simp[foldi]
   |cons x L ih=>
    intro i s;show foldi _ (i+1) L _=_;rw[ih];simp
  rw[fold2];simp only[Option.bind_some,List.nil_append];have hnd:ndC (XH l ds ps F w t)+1<=1000000000:=by
   have:=qLq (qM l ds ps F w t) F.Y.A (stN l ds ps F w t) 127 (wH (qM l ds ps F w t)) (λx _=>(stG_b l ds ps F w t _ _).2);unfold XH;have h3:(3+127)*(wH (qM l ds ps F w t)).length<=(3+127)*3000:=Nat.mul_le_mul_left _ hbl;omega
  have hrow:=qSw hr (axis:=3) (kerf:=w.Kerf) (.inr rfl) h.vw.kerf (L:=XH l ds ps F w t) (by unfold XH;simp;omega) (qLO h (stN l ds ps F w t)) hnd;have hrow':WX F 3 w.Kerf ((XH l ds ps F w t).map Prod.fst) ((XH l ds ps F w t).map Prod.snd)=some (rowR (JM l ds ps F w t)):=hrow;show((WX F 3 w.Kerf ((XH l ds ps F w t).map Prod.fst) ((XH l ds ps F w t).map Prod.snd)).bind _)=_;rw[hrow'];unfold rowR;simp only[Option.bind_some];by_cases c2:(JM l ds ps F w t).length<=127
  ·rw[if_pos c2,if_pos c2,qGL h.sol,qKn h.sol];simp only[bne_self_eq_false,cond_false,Option.bind_some];have bv:=qJs h.sol;have b0:=bst0_BV vl;have bw:=qHi h.sol F;have wl:=qIk h.sol F;have m3:0<=t.Chip*(volT l-wholeR l F)/\t.Chip*(volT l-wholeR l F)<=1000*28800000000:=⟨Int.mul_nonneg h.vw.chip.1 (by omega),Int.mul_le_mul h.vw.chip.2 (by omega) (by omega) (by omega)⟩
   rw[qJ (n:=volT l-_) (by omega) (by omega),qJ (n:=t.Chip*_) (by omega) (by omega),qJ (by omega) (by omega)]
  ·rw[if_neg c2,if_neg c2];rfl
 ·have c':(chkE l ds ps F w t !=0)=true:=by simpa using c
  rw[c',if_neg c];rfl
end Go.SL.Saw

namespace Go.SL.Saw
variable {l :List qB} {ds:List Defect} {ps:List Product} {F:Rect} {w:Saw} {t:Rates}
end Go.SL.Saw

namespace Go.SL.Saw
def LW (W:Option Bool) (a1:Law24_Given):Option Bool:=
 (GT a1).bind λv2=>
 bif !v2 then
  (W).bind λv5=>
  some v5
 else
  (QX a1).bind λv7=>
  bif v7.2.2 !=0 then
   (W).bind λv10=>
   some v10
  else
   (qCG a1 (Pattern.mk v7.1.Frame v7.1.Nodes)).bind λv12=>
   (KE a1.Solid a1.Defects a1.Products (Pattern.mk v7.1.Frame v7.1.Nodes) a1.Saw a1.Rates.Fine).bind λv14=>
   (zZ v7 FUEL 0 0).bind λo23=>
   bif v12.2==0 then
    bif v14.2==0 then
     bif v12.1.Value==v7.2.1 then
      bif ((v14.1.length:Nat):Int)==o23 then
       (JH a1.Solid).bind λv29=>
       bif decide (v7.2.1≥(w64 (a1.Rates.Chip*v29))) then
        (W).bind λv32=>
        zE v32
       else
        zE false
      else
       zE false
     else
      zE false
    else
     zE false
   else
    zE false
theorem qGm (a1:Law24_Given):GD a1=LW YU a1:=rfl
end Go.SL.Saw

namespace Go.SL.Saw
theorem qPU {σ β:Type} (N:Nat) (L:Nat->σ->Int->Option β) (hN:N<=1000000000)
  (h0:∀n i s,i<N->(∃b,L (n+1) s (i:Int)=some b)\/∃s',L (n+1) s (i:Int)=L n s' ((i+1:Nat):Int))
  (h1:∀n s,∃b,L (n+1) s (N:Int)=some b) (s:σ):∃b,L FUEL s 0=some b:=by
 have key:∀(k i n:Nat) (s:σ),i+k=N->k<n->∃b,L n s (i:Int)=some b:=by
  intro k
  induction k with
  |zero=>
   intro i n s hi hn;obtain⟨n,rfl⟩:∃m,n=m+1:=⟨n-1,by omega⟩
   have:i=N:=by omega
   subst this;exact h1 n s
  |succ k ih=>
   intro i n s hi hn;obtain⟨n,rfl⟩:∃m,n=m+1:=⟨n-1,by omega⟩
   rcases h0 n i s (by omega) with h|⟨s',h⟩
   ·exact h
   ·rw[h];exact ih (i+1) n s' (by omega) (by omega)
 exact key N 0 FUEL s (by omega) (by rw[FUEL_eq];omega)
end Go.SL.Saw

namespace Go.SL.Saw
theorem few_ex (l:List Product):∃b,CX l=some b:=by
 unfold CX;by_cases h1:((l.length:Nat):Int)>20
 ·rw[decide_eq_true h1];exact⟨_,rfl⟩
 rw[decide_eq_false h1];obtain⟨u,e⟩:=qPU l.length (λn (_:Unit) x=>QY l n x) (by omega) (λn i s hi=>by
   rw[QY,decide_eq_true (by omega),qN (by omega) (by omega)];unfold BL;rw[qW (by omega)];simp only[cond_true,Int.toNat_natCast];cases decide (((((l.getD i default).Name).size:Nat):Int)>100)
   ·cases decide (((((l.getD i default).Lengths).length:Nat):Int)>12)
    ·cases decide (((((l.getD i default).Prices).length:Nat):Int)>12)
     ·exact .inr ⟨(),rfl⟩
     ·exact .inl ⟨_,rfl⟩
    ·exact .inl ⟨_,rfl⟩
   ·exact .inl ⟨_,rfl⟩) (λn s=>by
   refine⟨.inr (),?_⟩;rw[QY,decide_eq_false (by omega)];rfl) ()
 rw[e];cases u with
 |inl v=>exact⟨v,rfl⟩
 |inr v=>exact⟨true,rfl⟩
theorem qS9 (l:List qB):∃b,MR l=some b:=by
 unfold MR;by_cases h1:((l.length:Nat):Int)>30
 ·rw[decide_eq_true h1];exact⟨_,rfl⟩
 rw[decide_eq_false h1];obtain⟨u,e⟩:=qPU l.length (λn (_:Unit) x=>XB l n x) (by omega) (λn i s hi=>by
   rw[XB,decide_eq_true (by omega),qN (by omega) (by omega),qW (by omega)];simp only[cond_true,Int.toNat_natCast];cases decide ((((((l.getD i default).Sec).Rows).length:Nat):Int)>130)
   ·exact .inr ⟨(),rfl⟩
   ·exact .inl ⟨_,rfl⟩) (λn s=>by
   refine⟨.inr (),?_⟩;rw[XB,decide_eq_false (by omega)];rfl) ()
 rw[e];cases u with
 |inl v=>exact⟨v,rfl⟩
 |inr v=>exact⟨true,rfl⟩
theorem qP2 (s:Span) (p:Int):∃n,FT s p=some n/\(-600<=s.A->s.B<=600->s.A<=s.B->1<=p->n=(s.B-s.A)/p+1):=by
 unfold FT GH;by_cases h1:s.A< -600
 ·rw[decide_eq_true h1];exact⟨1,rfl,λh=>by omega⟩
 by_cases h2:s.B>600
 ·rw[decide_eq_false h1,decide_eq_true h2];exact⟨1,rfl,λ_ h=>by omega⟩
 by_cases h3:p<1
 ·rw[decide_eq_false h1,decide_eq_false h2,decide_eq_true h3];exact⟨1,rfl,λ_ _ _ h=>by omega⟩
 rw[decide_eq_false h1,decide_eq_false h2,decide_eq_false h3,nz_t (by omega)];refine⟨_,rfl,λa b c d=>?_⟩;rw[qJ (n:=s.B-s.A) (by omega) (by omega),Int.tdiv_eq_ediv_of_nonneg (by omega)];have e1:0<=(s.B-s.A)/p:=Int.ediv_nonneg (by omega) (by omega);have e2:(s.B-s.A)/p<=s.B-s.A:=Int.ediv_le_self p (by omega);rw[qJ (n:=(s.B-s.A)/p) (by omega) (by omega),qJ (by omega) (by omega)]
theorem qTg (a:Law24_Given):∃b,GT a=some b:=by
 have k2:∀x,∃b,UE a x=some b:=by
  intro x;unfold UE;cases x with
  |true=>exact⟨_,rfl⟩
  |false=>
   obtain⟨n,e,_⟩:=qP2 a.Frame.X a.Saw.Pitch;obtain⟨m,e',_⟩:=qP2 a.Frame.Y a.Saw.Pitch;rw[e,e'];exact⟨_,rfl⟩
 have k1:∀x,∃b,WK a x=some b:=by
  intro x;unfold WK;cases x with
  |true=>exact⟨_,rfl⟩
  |false=>
   by_cases h:a.Saw.Step≥1
   ·rw[decide_eq_true h,(SC a.Solid).1,nz_t (by omega)];exact k2 _
   ·rw[decide_eq_false h];exact k2 _
 unfold GT;obtain⟨b1,e1⟩:=qS9 a.Solid;rw[e1];simp only[Option.bind_some];cases b1 with
 |false=>exact k1 true
 |true=>
  simp only[Bool.not_true,cond_false];cases decide (((a.Defects.length:Nat):Int)>70) with
  |true=>exact k1 true
  |false=>
   simp only[cond_false];obtain⟨b2,e2⟩:=few_ex a.Products;rw[e2];simp only[Option.bind_some];cases b2
   ·exact k1 true
   ·exact k1 (decide (((a.Products.length:Nat):Int)>4))
theorem qRQ (a:Law24_Given):QX a=some (⟨(BA a.Solid a.Defects a.Products a.Frame a.Saw a.Rates).1.Frame,(BA a.Solid a.Defects a.Products a.Frame a.Saw a.Rates).1.Nodes⟩,(BA a.Solid a.Defects a.Products a.Frame a.Saw a.Rates).2.1,(BA a.Solid a.Defects a.Products a.Frame a.Saw a.Rates).2.2):=by
 unfold QX;rw[qD0];rfl
theorem qTI {l:List qB} {ds:List Defect} {ps:List Product} {F:Rect} {w:Saw} {t:Rates} (h:(BA l ds ps F w t).2.2=0):VE l ds ps F w t/\(JM l ds ps F w t).length<=127/\BA l ds ps F w t=(⟨F,JM l ds ps F w t⟩,(bst (qM l ds ps F w t) 0).value+t.Chip*(volT l-wholeR l F),0):=by
 unfold BA at h⊢;by_cases c:chkE l ds ps F w t=0
 ·rw[if_pos c] at h⊢;by_cases c2:(JM l ds ps F w t).length<=127
  ·rw[if_pos c2];exact⟨PT.1 c,c2,rfl⟩
  ·rw[if_neg c2] at h;exact absurd h (by decide)
 ·rw[if_neg c] at h;exact absurd h c
end Go.SL.Saw

namespace Go.SL.Saw
variable {l :List qB} {ds:List Defect} {ps:List Product} {F:Rect} {w:Saw} {t:Rates}
def stR (ps:List Product) (F:Rect) (x:Piece):Rect:=strR F x.At (x.At+(hts ps).getD x.Size.toNat default)
noncomputable def qBJ (l:List qB) (ds:List Defect) (ps:List Product) (F:Rect) (w:Saw) (t:Rates) (x:Piece):Pq:=
 (⟨F.Y.A+x.At,F.Y.A+(x.At+(hts ps).getD x.Size.toNat default)⟩,edgeTr ps (stR ps F x) (lineS l ds ps (stR ps F x) w t) w.Kerf)
theorem qEW (h:VE l ds ps F w t) {i q:Nat} (hi:i<(hts ps).length) (hq:(q:Int)+(hts ps).getD i default<=hei F) (hg:¬(stG l ds ps F w t ((hts ps).getD i default) q).1<0):
  VE l ds ps (stR ps F ⟨(i:Int),(q:Int)⟩) w t/\(yM l ds ps (stR ps F ⟨(i:Int),(q:Int)⟩) w t).2.2=0
  /\(stG l ds ps F w t ((hts ps).getD i default) q).1=(bst (lineS l ds ps (stR ps F ⟨(i:Int),(q:Int)⟩) w t) 0).value
  /\(stG l ds ps F w t ((hts ps).getD i default) q).2=zN (edgeTr ps (stR ps F ⟨(i:Int),(q:Int)⟩) (lineS l ds ps (stR ps F ⟨(i:Int),(q:Int)⟩) w t) w.Kerf)
  /\(q:Int) % w.Pitch=0:=by
 have sb:=hts_b h.pr (jY hi);have es:stR ps F ⟨(i:Int),(q:Int)⟩=strR F q (q+(hts ps).getD i default):=by unfold stR;simp only[Int.toNat_natCast]
 have ve:=qO5 h (p:=(q:Int)) (q:=(q:Int)+(hts ps).getD i default) (by omega) (by omega) hq;rw[es];unfold stG at hg⊢;by_cases c:(q:Int) % w.Pitch=0
 ·rw[if_pos c] at hg⊢;by_cases c1:(yM l ds ps (strR F q (q+(hts ps).getD i default)) w t).2.2=0/\hasB (yM l ds ps (strR F q (q+(hts ps).getD i default)) w t).1=true
  ·rw[if_pos c1] at hg⊢;refine⟨ve,c1.1,(qOX c1.1).2,?_,c⟩;rw[qBW ve];exact(qLI c1.1).2.2.1
  ·rw[if_neg c1] at hg;simp at hg
 ·rw[if_neg c] at hg;simp at hg
theorem qF0 (l:List qB) (ds:List Defect) (ps:List Product) (F:Rect) (w:Saw) (t:Rates) {i q:Nat} (hi:i<(hts ps).length) (hq:(q:Int)+(hts ps).getD i default<=hei F):gnAt (qM l ds ps F w t) i q=(stG l ds ps F w t ((hts ps).getD i default) q).1:=by
 unfold gnAt qM;simp only;rw[zY _ hi,zY _ (by unfold nRow;omega)]
theorem qOK (h:VE l ds ps F w t):((wH (qM l ds ps F w t)).map (qBJ l ds ps F w t)).map ptP=XH l ds ps F w t:=by
 have vl:=RN h;have ln:=vl.len;unfold XH;rw[List.map_map];apply List.map_congr_left;intro x hx;obtain⟨i,q,ey,hi,hq,hg⟩:=BJ vl 3000 0 (by omega) x hx;subst ey;have hi':i<(hts ps).length:=hi;have hq':(q:Int)+(hts ps).getD i default<=hei F:=by
  have:szAt (qM l ds ps F w t) i=(hts ps).getD i default:=rfl;have:(qM l ds ps F w t).Len=hei F:=rfl;omega
 rw[qF0 l ds ps F w t hi' hq'] at hg;have pk:=qEW h hi' hq' hg;show(_,zN _)=(_,stN l ds ps F w t ⟨(i:Int),(q:Int)⟩);unfold stN;simp only[Int.toNat_natCast];rw[pk.2.2.2.1];rfl
theorem qBM (h:VE l ds ps F w t):goodL w.Kerf F.Y.B F.Y.A (((wH (qM l ds ps F w t)).map (qBJ l ds ps F w t)).map ptP):=by
 rw[qOK h];exact qLO h _
noncomputable def planT (l:List qB) (ds:List Defect) (ps:List Product) (F:Rect) (w:Saw) (t:Rates):T:=rowT 3 w.Kerf F.Y.B F.Y.A ((wH (qM l ds ps F w t)).map (qBJ l ds ps F w t))
theorem CG (h:VE l ds ps F w t):zN (planT l ds ps F w t)=JM l ds ps F w t:=by
 unfold planT JM rowN;rw[qFa 3 w.Kerf F.Y.B _ _ (qBM h),qOK h]
theorem qCz (h:VE l ds ps F w t):okS (bdCat ps) w.Kerf (planT l ds ps F w t) F:=by
 have vl:=RN h;have ln:=vl.len;have hr:=h.vr;unfold VR at hr;have e:wiP F 3 ⟨F.Y.A,F.Y.B⟩=F:=rfl;have key:=qNe (bd:=bdCat ps) (R:=F) (axis:=3) (B:=F.Y.B) (.inr rfl) h.vw.kerf hr.2.2.2 ((wH (qM l ds ps F w t)).map (qBJ l ds ps F w t)) F.Y.A hr.2.1 (by omega) (qBM h) ?_
 ·rw[e] at key;exact key
 ·intro x hx;obtain⟨y,hy,rfl⟩:=List.mem_map.1 hx;obtain⟨i,q,ey,hi,hq,hg⟩:=BJ vl 3000 0 (by omega) y hy;subst ey;have hi':i<(hts ps).length:=hi;have hq':(q:Int)+(hts ps).getD i default<=hei F:=by
   have:szAt (qM l ds ps F w t) i=(hts ps).getD i default:=rfl;have:(qM l ds ps F w t).Len=hei F:=rfl;omega
  rw[qF0 l ds ps F w t hi' hq'] at hg;exact qC2 (qEW h hi' hq' hg).1
theorem qPY (h:VE l ds ps F w t) (hn:(JM l ds ps F w t).length<=127):VY l ds ps ⟨F,JM l ds ps F w t⟩ w t:=by
 refine⟨h.sol,(PG ds).2 ⟨h.dl,h.dd⟩,h.pr,h.vw,?_⟩;rw[YY];refine⟨h.vr,h.vw.kerf,hn,?_⟩;simp only;rw[<-CG h] at hn⊢;exact qNn (qCz h) hn
end Go.SL.Saw

namespace Go.SL.Saw
variable {l :List qB} {ds:List Defect} {ps:List Product} {F:Rect} {w:Saw} {t:Rates}
theorem qLM (l:List qB) (F:Rect):∀k:Nat,sumN k (λp=>wholeR l (strR F (p:Nat) ((p:Nat)+1)))=wholeR l (strR F 0 k)
 |0=>by
  have:=(SA l).y (A:=F.Y.A+0) (m:=F.Y.A+0) (B:=F.Y.A+0) F.X (Int.le_refl _) (Int.le_refl _);show(0:Int)=wholeR l ⟨F.X,⟨F.Y.A+0,F.Y.A+((0:Nat):Int)⟩⟩;rw[show((0:Nat):Int)=0 from rfl];omega
 |k+1=>by
  rw[sumN,qLM l F k];have:=(SA l).y (A:=F.Y.A+0) (m:=F.Y.A+k) (B:=F.Y.A+(k+1)) F.X (by omega) (by omega);unfold strR;rw[show((k+1:Nat):Int)=(k:Int)+1 by omega];exact this
theorem preP (c:Int) (l:List qB) (F:Rect) {k:Nat} (hk:(k:Int)<=hei F):pre ((List.range (hei F).toNat).map (λp:Nat=>c*wholeR l (strR F p (p+1)))) k=c*wholeR l (strR F 0 k):=by
 unfold pre;rw[ZI (g:=λi=>c*wholeR l (strR F (i:Nat) ((i:Nat)+1))) (λi hi=>zY _ (by omega)),qIT,qLM]
theorem qI7 (c:Int) (l:List qB) (F:Rect) {i j:Nat} (h:i<=j) (hj:(j:Int)<=hei F):pre ((List.range (hei F).toNat).map (λp:Nat=>c*wholeR l (strR F p (p+1)))) j-pre ((List.range (hei F).toNat).map (λp:Nat=>c*wholeR l (strR F p (p+1)))) i=c*wholeR l (strR F i j):=by
 rw[preP c l F hj,preP c l F (by omega),<-Int.mul_sub];have:=(SA l).y (A:=F.Y.A+0) (m:=F.Y.A+i) (B:=F.Y.A+j) F.X (by omega) (by omega);unfold strR;rw[show wholeR l ⟨F.X,⟨F.Y.A+0,F.Y.A+(j:Int)⟩⟩-wholeR l ⟨F.X,⟨F.Y.A+0,F.Y.A+(i:Int)⟩⟩=wholeR l ⟨F.X,⟨F.Y.A+i,F.Y.A+j⟩⟩ by omega]
theorem qLZ (h:VE l ds ps F w t):∀(m p:Nat),(p:Int)<=(qM l ds ps F w t).Len->(qM l ds ps F w t).Len.toNat<p+m->
  rowV (lvV l ds ps w t) (λc=>t.Dust*wholeR l c) 3 w.Kerf F (F.Y.A+hei F) (F.Y.A+p) ((walk (qM l ds ps F w t) m p).map (qBJ l ds ps F w t))=(bst (qM l ds ps F w t) p).value
 |0,p,hp,hm=>by omega
 |m+1,p,hp,hm=>by
  have vl:=RN h;have kf:=vl.kerf;have hlen:(qM l ds ps F w t).Len=hei F:=rfl;have hkf:(qM l ds ps F w t).Kerf=w.Kerf:=rfl;have hch:(qM l ds ps F w t).Chip=(List.range (hei F).toNat).map (λp:Nat=>t.Chip*wholeR l (strR F p (p+1))):=rfl;have hdu:(qM l ds ps F w t).Dust=(List.range (hei F).toNat).map (λp:Nat=>t.Dust*wholeR l (strR F p (p+1))):=rfl;have ln:=vl.len;rw[walk];cases hn:isNo (bst (qM l ds ps F w t) p) with
  |true=>
   rw[qSn vl hp hn,hch,qI7 _ l F (by omega) (by omega)];simp only[cond_true,List.map_nil,rowV];unfold lvV;rw[if_pos rfl];show t.Chip*wholeR l ⟨F.X,⟨F.Y.A+p,F.Y.A+hei F⟩⟩=t.Chip*wholeR l ⟨F.X,⟨F.Y.A+(p:Int),F.Y.A+(((qM l ds ps F w t).Len.toNat:Nat):Int)⟩⟩;rw[hlen,show(((hei F).toNat:Nat):Int)=hei F by omega]
  |false=>
   obtain⟨i,q,e,hi,hq,hg,hw,hv⟩:=qQb vl hp hn;have hsz:szAt (qM l ds ps F w t) i=(hts ps).getD i default:=rfl;have hi':i<(hts ps).length:=hi;have hq':(q:Int)+(hts ps).getD i default<=hei F:=by omega
   have hg':=hg;rw[qF0 l ds ps F w t hi' hq'] at hg';obtain⟨ve,_,pv,_,_⟩:=qEW h hi' hq' hg';have sb:=hts_b h.pr (jY hi');rw[hv,e];simp only[cond_false,Int.toNat_natCast,List.map_cons];have en:(endN (qM l ds ps F w t) q i:Int)=q+(hts ps).getD i default:=by unfold endN;rw[hsz];omega
   have pq:qBJ l ds ps F w t ⟨(i:Int),(q:Int)⟩=(⟨F.Y.A+q,F.Y.A+(q+(hts ps).getD i default)⟩,edgeTr ps (stR ps F ⟨(i:Int),(q:Int)⟩) (lineS l ds ps (stR ps F ⟨(i:Int),(q:Int)⟩) w t) w.Kerf):=rfl;rw[pq];unfold rowV;simp only;have ev:tv (lvV l ds ps w t) (λc=>t.Dust*wholeR l c) w.Kerf (edgeTr ps (stR ps F ⟨(i:Int),(q:Int)⟩) (lineS l ds ps (stR ps F ⟨(i:Int),(q:Int)⟩) w t) w.Kerf) (wiP F 3 ⟨F.Y.A+q,F.Y.A+(q+(hts ps).getD i default)⟩)=gnAt (qM l ds ps F w t) i q:=by
    have:=qQs ve;rw[qF0 l ds ps F w t hi' hq',pv];exact this
   rw[ev];unfold candV;have egap:(if F.Y.A+(q:Int)>F.Y.A+p then lvV l ds ps w t ⟨wiP F 3 ⟨F.Y.A+p,F.Y.A+q-w.Kerf⟩,-1⟩+t.Dust*wholeR l (wiP F 3 ⟨F.Y.A+q-w.Kerf,F.Y.A+q⟩) else 0)=(if q=p then 0 else restV (qM l ds ps F w t) p q):=by
    by_cases c:q=p
    ·rw[if_pos c,if_neg (by omega)]
    ·rw[if_neg c,if_pos (by omega)];have hk2:((q-w.Kerf.toNat:Nat):Int)=q-w.Kerf:=by omega
     unfold restV;rw[hch,hdu,hkf];have d1:=qI7 t.Chip l F (i:=p) (j:=q-w.Kerf.toNat) (by omega) (by omega);have d2:=qI7 t.Dust l F (i:=q-w.Kerf.toNat) (j:=q) (by omega) (by omega);unfold lvV;rw[if_pos rfl];show t.Chip*wholeR l ⟨F.X,⟨F.Y.A+p,F.Y.A+q-w.Kerf⟩⟩+t.Dust*wholeR l ⟨F.X,⟨F.Y.A+q-w.Kerf,F.Y.A+q⟩⟩=_;unfold strR at d1 d2;rw[hk2] at d1 d2;rw[show F.Y.A+(q:Int)-w.Kerf=F.Y.A+(q-w.Kerf) by omega,<-d1,<-d2];unfold strR;omega
   rw[egap];have etail:(if F.Y.A+((q:Int)+(hts ps).getD i default)<F.Y.A+hei F then t.Dust*wholeR l (wiP F 3 ⟨F.Y.A+(q+(hts ps).getD i default),imin (F.Y.A+(q+(hts ps).getD i default)+w.Kerf) (F.Y.A+hei F)⟩)+rowV (lvV l ds ps w t) (λc=>t.Dust*wholeR l c) 3 w.Kerf F (F.Y.A+hei F) (imin (F.Y.A+(q+(hts ps).getD i default)+w.Kerf) (F.Y.A+hei F)) (List.map (qBJ l ds ps F w t) (if(endN (qM l ds ps F w t) q i:Int)=(qM l ds ps F w t).Len then[] else walk (qM l ds ps F w t) m (nxtN (qM l ds ps F w t) (endN (qM l ds ps F w t) q i)))) else 0)
     =(if(endN (qM l ds ps F w t) q i:Int)=(qM l ds ps F w t).Len then 0 else(pre (qM l ds ps F w t).Dust (nxtN (qM l ds ps F w t) (endN (qM l ds ps F w t) q i))-pre (qM l ds ps F w t).Dust (endN (qM l ds ps F w t) q i))+(bst (qM l ds ps F w t) (nxtN (qM l ds ps F w t) (endN (qM l ds ps F w t) q i))).value):=by
    by_cases c:(endN (qM l ds ps F w t) q i:Int)=(qM l ds ps F w t).Len
    ·rw[if_neg (by omega),if_pos c]
    ·rw[if_pos (by omega),if_neg c,if_neg c];have nb:=qM3 vl hi hq c;have en2:(nxtN (qM l ds ps F w t) (endN (qM l ds ps F w t) q i):Int)=imin ((endN (qM l ds ps F w t) q i:Int)+w.Kerf) (hei F):=by
      have mm:=imin_or ((endN (qM l ds ps F w t) q i:Int)+w.Kerf) (hei F);unfold nxtN;rw[hkf,hlen];omega
     have m1:=imin_or ((endN (qM l ds ps F w t) q i:Int)+w.Kerf) (hei F);have m2:=imin_or (F.Y.A+(q+(hts ps).getD i default)+w.Kerf) (F.Y.A+hei F);have en3:imin (F.Y.A+(q+(hts ps).getD i default)+w.Kerf) (F.Y.A+hei F)=F.Y.A+(nxtN (qM l ds ps F w t) (endN (qM l ds ps F w t) q i):Int):=by omega
     rw[en3,qLZ h m _ nb.2.1 (by omega)];rw[hdu,qI7 t.Dust l F nb.2.2 (by omega)];show t.Dust*wholeR l ⟨F.X,⟨F.Y.A+(q+(hts ps).getD i default),F.Y.A+(nxtN (qM l ds ps F w t) (endN (qM l ds ps F w t) q i):Int)⟩⟩+_=t.Dust*wholeR l ⟨F.X,⟨F.Y.A+(endN (qM l ds ps F w t) q i:Int),F.Y.A+(nxtN (qM l ds ps F w t) (endN (qM l ds ps F w t) q i):Int)⟩⟩+_;rw[en]
   rw[etail];omega
end Go.SL.Saw

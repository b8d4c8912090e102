/- Plans: the plan line is a good line; the best plan. -/
import Derived.Test.YtidlfgiogdjkaaaGreatDoorEMa8
import Derived.Test.YtidlfgiogdjkaaaGreatDoorEMod
import Derived.Test.YtidlfgiogdjkaaaGreatDoorEMa7
set_option linter.unusedVariables false
set_option linter.unusedSimpArgs false
namespace Go.SL.Saw
variable {l :List qB} {ds:List Defect} {ps:List Product} {F:Rect} {w:Saw} {t:Rates}
theorem qS6 (h:(QW l ds ps F w t).2.2=0): -200000000000000<=(QW l ds ps F w t).2.1/\(QW l ds ps F w t).2.1<=200000000000000/\(QW l ds ps F w t).1=rowN 2 (lineS l ds ps F w t).Kerf F.X (zT ps F (lineS l ds ps F w t))/\(QW l ds ps F w t).1.length<=127:=by
 obtain⟨hv,e⟩:=qUn h;have hn:(rowN 2 (lineS l ds ps F w t).Kerf F.X (zT ps F (lineS l ds ps F w t))).length<=127/\(QW l ds ps F w t).1=rowN 2 (lineS l ds ps F w t).Kerf F.X (zT ps F (lineS l ds ps F w t)):=by
  unfold QW at h⊢;rw[if_pos (VB.2 hv)] at h⊢;unfold qHe at h⊢;by_cases c2:(rowN 2 (lineS l ds ps F w t).Kerf F.X (zT ps F (lineS l ds ps F w t))).length<=127
  ·rw[if_pos c2];exact⟨c2,rfl⟩
  ·rw[if_neg c2] at h;exact absurd h (by decide)
 have vy:=qRi hv hn.1;have val:=qSt hv hn.1;have bd:=(Of_ok vy).2;have c0:=yC_nn vy;have bv:=qQc hv.sol;have wl:=qJq hv.sol F;have wn:=qOK l F;have hb:=bd.nB;have hd:=bd.nD;have hw:=bd.nW;have hch:=hv.vw.chip;have hdu:=hv.vw.dust
 have val2:(qKS l ds ps ⟨F,rowN 2 (lineS l ds ps F w t).Kerf F.X (zT ps F (lineS l ds ps F w t))⟩ w t).Value=yW l ds ps ⟨F,rowN 2 (lineS l ds ps F w t).Kerf F.X (zT ps F (lineS l ds ps F w t))⟩ w t.Fine+(t.Chip*yC l ds ps ⟨F,rowN 2 (lineS l ds ps F w t).Kerf F.X (zT ps F (lineS l ds ps F w t))⟩ w t.Fine+t.Dust*yD l ds ps ⟨F,rowN 2 (lineS l ds ps F w t).Kerf F.X (zT ps F (lineS l ds ps F w t))⟩ w t.Fine):=rfl
 have hC:yC l ds ps ⟨F,rowN 2 (lineS l ds ps F w t).Kerf F.X (zT ps F (lineS l ds ps F w t))⟩ w t.Fine<=28800000000/\yD l ds ps ⟨F,rowN 2 (lineS l ds ps F w t).Kerf F.X (zT ps F (lineS l ds ps F w t))⟩ w t.Fine<=28800000000:=by unfold yC at*;omega
 generalize yC l ds ps ⟨F,rowN 2 (lineS l ds ps F w t).Kerf F.X (zT ps F (lineS l ds ps F w t))⟩ w t.Fine=C at*;generalize yD l ds ps ⟨F,rowN 2 (lineS l ds ps F w t).Kerf F.X (zT ps F (lineS l ds ps F w t))⟩ w t.Fine=D at*;have m1:0<=t.Chip*C/\t.Chip*C<=1000*28800000000:=⟨Int.mul_nonneg hch.1 c0,Int.mul_le_mul hch.2 hC.1 c0 (by omega)⟩
 have m2:0<=t.Dust*D/\t.Dust*D<=1000*28800000000:=⟨Int.mul_nonneg hdu.1 hd.1,Int.mul_le_mul hdu.2 hC.2 hd.1 (by omega)⟩
 have m3:0<=t.Chip*(volT l-wholeR l F)/\t.Chip*(volT l-wholeR l F)<=1000*28800000000:=⟨Int.mul_nonneg hch.1 (by omega),Int.mul_le_mul hch.2 (by omega) (by omega) (by omega)⟩
 rw[e,hn.2];refine⟨by omega,by omega,rfl,hn.1⟩
theorem stG_b (l:List qB) (ds:List Defect) (ps:List Product) (F:Rect) (w:Saw) (t:Rates) (h:Int) (p:Nat):okN (stG l ds ps F w t h p).1/\(stG l ds ps F w t h p).2.length<=127:=by
 unfold okN stG;split
 ·split
  ·rename_i c;have:=qS6 c.1;exact⟨by omega,this.2.2.2⟩
  ·simp
 ·simp
theorem qEQ (h:VE l ds ps F w t):VL (zZ l ds ps F w t):=by
 have hr:=h.vr;unfold VR at hr;have hh:=qHt ps;have rate:∀c:Int,0<=c/\c<=1000->∀j,j<((List.range (hei F).toNat).map (λp:Nat=>c*wholeR l (strR F p (p+1)))).length->okN (((List.range (hei F).toNat).map (λp:Nat=>c*wholeR l (strR F p (p+1)))).getD j default):=by
  intro c hc j hj;simp only[List.length_map,List.length_range] at hj;rw[wL _ hj];have wb:=qHq h.sol (strR F j (j+1));have m1:0<=c*wholeR l (strR F j (j+1))/\c*wholeR l (strR F j (j+1))<=1000*28800000000:=⟨Int.mul_nonneg hc.1 wb.1,Int.mul_le_mul hc.2 wb.2 wb.1 (by omega)⟩
  unfold okN;omega
 unfold zZ;refine⟨by unfold hei;simp only;omega,h.vw.kerf,by simp,hh,λi hi=>by have:=hts_b h.pr (wK hi);simp only;omega,by simp,by simp only[List.length_map,List.length_range];unfold hei;omega,by simp only[List.length_map,List.length_range];unfold hei;omega,?_,?_,rate t.Chip h.vw.chip,rate t.Dust h.vw.dust⟩
 ·intro i hi;simp only at hi⊢;rw[wL _ hi];simp only[List.length_map,List.length_range];rfl
 ·intro i hi j hj;simp only at hi hj⊢;rw[wL _ hi] at hj⊢;simp only[List.length_map,List.length_range] at hj;rw[wL _ hj];exact(stG_b l ds ps F w t _ _).1
noncomputable def stN (l:List qB) (ds:List Defect) (ps:List Product) (F:Rect) (w:Saw) (t:Rates) (x:Piece):List Node:=(stG l ds ps F w t ((hts ps).getD x.Size.toNat default) x.At.toNat).2
noncomputable def US (l:List qB) (ds:List Defect) (ps:List Product) (F:Rect) (w:Saw) (t:Rates):List Pt:=(jD (zZ l ds ps F w t)).map (ptOf (zZ l ds ps F w t) F.Y.A (stN l ds ps F w t))
noncomputable def qCS (l:List qB) (ds:List Defect) (ps:List Product) (F:Rect) (w:Saw) (t:Rates):List Node:=rowN 3 w.Kerf F.Y (US l ds ps F w t)
def zeroP :Pattern:=⟨⟨⟨0,0⟩,⟨0,0⟩⟩,[]⟩
open Classical in
noncomputable def qOk (l:List qB) (ds:List Defect) (ps:List Product) (F:Rect) (w:Saw) (t:Rates):Pattern×Int×Int:=
 if chkE l ds ps F w t=0 then(if(qCS l ds ps F w t).length<=127 then(⟨F,qCS l ds ps F w t⟩,(bst (zZ l ds ps F w t) 0).value+t.Chip*(volT l-wholeR l F),0) else(zeroP,0,13)) else(zeroP,0,chkE l ds ps F w t)
theorem qSX (h:VE l ds ps F w t) (g:Piece->List Node):goodL w.Kerf F.Y.B F.Y.A ((jD (zZ l ds ps F w t)).map (ptOf (zZ l ds ps F w t) F.Y.A g)):=by
 have vl:=qEQ h;have:=qCU vl F.Y.A g 3000 0 (by have:=vl.len;omega);have e1:(zZ l ds ps F w t).Len=hei F:=rfl;have e2:(zZ l ds ps F w t).Kerf=w.Kerf:=rfl;unfold jD;rw[e1,e2,show F.Y.A+hei F=F.Y.B by unfold hei;omega,show F.Y.A+((0:Nat):Int)=F.Y.A by omega] at this;exact this
theorem qIw (l:List qB) (ds:List Defect) (ps:List Product) (F:Rect) (w:Saw) (t:Rates):UZ l ds ps F w t=some (qOk l ds ps F w t):=by
 unfold UZ qOk;rw[qBS];simp only[Option.bind_some];by_cases c:chkE l ds ps F w t=0
 ·have h:=VB.1 c;have hr:=h.vr;have hr':=hr;unfold VR at hr';have vl:=qEQ h;have ln:=vl.len;rw[c,if_pos rfl,qQR h];simp only[Option.bind_some,bne_self_eq_false,cond_false];rw[show(Line.mk (zZ l ds ps F w t).Len (zZ l ds ps F w t).Kerf (zZ l ds ps F w t).Pitch (zZ l ds ps F w t).Sizes (zZ l ds ps F w t).Gain (zZ l ds ps F w t).Chip (zZ l ds ps F w t).Dust)=zZ l ds ps F w t from rfl,EP vl];simp only[Option.bind_some,bne_self_eq_false,cond_false];have hbl:(jD (zZ l ds ps F w t)).length<=3000:=qJc _ _ _;have hsz:(zZ l ds ps F w t).Sizes=hts ps:=rfl;have hlen:(zZ l ds ps F w t).Len=hei F:=rfl
  have k:=JR (jD (zZ l ds ps F w t)) (λn (s:List Span×List (List Node)) x=>UA F (zZ l ds ps F w t,qAp l ds ps F w t) (jD (zZ l ds ps F w t),(bst (zZ l ds ps F w t) 0).value,0) n s.1 s.2 x) (λx=>(x:Int)) (λ_ x s=>(s.1++[(ptOf (zZ l ds ps F w t) F.Y.A (stN l ds ps F w t) x).1],s.2++[(ptOf (zZ l ds ps F w t) F.Y.A (stN l ds ps F w t) x).2])) (λs=>s)
   (λx s=>s.1.length=x/\s.2.length=x) (by omega)
   (λn x s hx hs=>by
    obtain⟨i,q,ey,hi,hq,hg⟩:=qEB vl 3000 0 (by omega) _ (wK hx);have ey':(jD (zZ l ds ps F w t)).getD x default=⟨(i:Int),(q:Int)⟩:=ey;have sb:=hts_b h.pr (wK hi);have hi':i<(hts ps).length:=hi;have hq':(q:Int)+(hts ps).getD i default<=hei F:=by unfold szAt at hq;rw[hlen] at hq;have:(zZ l ds ps F w t).Sizes.getD i default=(hts ps).getD i default:=rfl;omega
    have hb:hei F<=1200:=by unfold hei;omega
    refine⟨?_,by simp[hs.1],by simp[hs.2]⟩;rw[UA,decide_eq_true (show(x:Int)<_ by simp only;omega),qG (by omega) (by simp only;omega)];simp only[Int.toNat_natCast,ey'];have hnr:q<nRow F ((hts ps).getD i default):=by unfold nRow;omega
    have hst:(qAp l ds ps F w t).getD i default=(List.range (nRow F ((hts ps).getD i default))).map (λp=>(stG l ds ps F w t ((hts ps).getD i default) p).2):=by unfold qAp;rw[wL _ hi']
    have hsl:(qAp l ds ps F w t).length=(hts ps).length:=by unfold qAp;simp
    rw[hsz,qG (by omega) (by omega),qD (n:=(q:Int)+(hts ps).getD i default) (by omega) (by omega),qI1 hr (by omega) (by omega),qN (by omega) (by omega),qG (by omega) (by rw[hsl];omega)];simp only[Int.toNat_natCast,hst,List.length_map,List.length_range];rw[qG (by omega) (by omega)];unfold BE;rw[qN (by omega) (by omega),qO (by omega)];simp only[cond_true,Option.bind_some];rw[wL _ hnr];rfl)
   (λn s _=>by rw[UA];simp) (i:=0) rfl ([],[]) ⟨rfl,rfl⟩
  rw[k.1];have fold2:∀(L:List Piece) (i:Nat) (s:List Span×List (List Node)),foldi (λ_ x (s:List Span×List (List Node))=>(s.1++[(ptOf (zZ l ds ps F w t) F.Y.A (stN l ds ps F w t) x).1],s.2++[(ptOf (zZ l ds ps F w t) F.Y.A (stN l ds ps F w t) x).2])) i L s=(s.1++(L.map (ptOf (zZ l ds ps F w t) F.Y.A (stN l ds ps F w t))).map Prod.fst,s.2++(L.map (ptOf (zZ l ds ps F w t) F.Y.A (stN l ds ps F w t))).map Prod.snd):=by
   intro L
   induction L with
   |nil=>intro i s;simp[foldi]
   |cons x L ih=>
    intro i s;show foldi _ (i+1) L _=_;rw[ih];simp
  rw[fold2];simp only[Option.bind_some,List.nil_append];have hnd:ndC (US l ds ps F w t)+1<=1000000000:=by
   have:=qMc (zZ l ds ps F w t) F.Y.A (stN l ds ps F w t) 127 (jD (zZ l ds ps F w t)) (λx _=>(stG_b l ds ps F w t _ _).2);unfold US;have h3:(3+127)*(jD (zZ l ds ps F w t)).length<=(3+127)*3000:=Nat.mul_le_mul_left _ hbl;omega
  have hrow:=qKF hr (axis:=3) (kerf:=w.Kerf) (.inr rfl) h.vw.kerf (L:=US l ds ps F w t) (by unfold US;simp;omega) (qSX h (stN l ds ps F w t)) hnd;have hrow':yV F 3 w.Kerf ((US l ds ps F w t).map Prod.fst) ((US l ds ps F w t).map Prod.snd)=some (rowR (qCS l ds ps F w t)):=hrow;show((yV F 3 w.Kerf ((US l ds ps F w t).map Prod.fst) ((US l ds ps F w t).map Prod.snd)).bind _)=_;rw[hrow'];unfold rowR;simp only[Option.bind_some];by_cases c2:(qCS l ds ps F w t).length<=127
  ·rw[if_pos c2,if_pos c2,qNb h.sol,qKN h.sol];simp only[bne_self_eq_false,cond_false,Option.bind_some];have bv:=qQc h.sol;have b0:=bst0_BV vl;have bw:=qHq h.sol F;have wl:=qJq h.sol F;have m3:0<=t.Chip*(volT l-wholeR l F)/\t.Chip*(volT l-wholeR l F)<=1000*28800000000:=⟨Int.mul_nonneg h.vw.chip.1 (by omega),Int.mul_le_mul h.vw.chip.2 (by omega) (by omega) (by omega)⟩
   rw[qD (n:=volT l-_) (by omega) (by omega),qD (n:=t.Chip*_) (by omega) (by omega),qD (by omega) (by omega)]
  ·rw[if_neg c2,if_neg c2];rfl
 ·have c':(chkE l ds ps F w t !=0)=true:=by simpa using c
  rw[c',if_neg c];rfl
end Go.SL.Saw

namespace Go.SL.Saw
variable {l :List qB} {ds:List Defect} {ps:List Product} {F:Rect} {w:Saw} {t:Rates}
end Go.SL.Saw

namespace Go.SL.Saw
def YE (W:Option Bool) (a1:Pattern) (a2:List Product) (a3:Saw) (x7:Bool):Option Bool:=
 bif x7 then
  (W).bind λv9=>
  some v9
 else
  (JK a1 a2 a3).bind λv11=>
  (UK a1 a2 a3).bind λv13=>
  bif v11==v13 then
   (W).bind λv16=>
   ZP v16
  else
   ZP false
def FA (W:Option Bool) (a1:Pattern) (a2:List Product) (a3:Saw):Option Bool:=
 bif decide (((a1.Nodes.length:Nat):Int)>140) then
  YE W a1 a2 a3 true
 else
  (EI a2).bind λv5=>
  YE W a1 a2 a3 (!v5)
theorem qFG (a1:Pattern) (a2:List Product) (a3:Saw):TN a1 a2 a3=FA TC a1 a2 a3:=rfl
end Go.SL.Saw

namespace Go.SL.Saw
theorem loop_ex {σ β:Type} (N:Nat) (L:Nat->σ->Int->Option β) (hN:N<=1000000000)
  (h0:∀n i s,i<N->(∃b,L (n+1) s (i:Int)=some b)\/∃s',L (n+1) s (i:Int)=L n s' ((i+1:Nat):Int))
  (h1:∀n s,∃b,L (n+1) s (N:Int)=some b) (s:σ):∃b,L FUEL s 0=some b:=by
 have key:∀(k i n:Nat) (s:σ),i+k=N->k<n->∃b,L n s (i:Int)=some b:=by
  intro k
  induction k with
  |zero=>
   intro i n s hi hn;obtain⟨n,rfl⟩:∃m,n=m+1:=⟨n-1,by omega⟩
   have:i=N:=by omega
   subst this;exact h1 n s
  |succ k ih=>
   intro i n s hi hn;obtain⟨n,rfl⟩:∃m,n=m+1:=⟨n-1,by omega⟩
   rcases h0 n i s (by omega) with h|⟨s',h⟩
   ·exact h
   ·rw[h];exact ih (i+1) n s' (by omega) (by omega)
 exact key N 0 FUEL s (by omega) (by rw[FUEL_eq];omega)
end Go.SL.Saw

namespace Go.SL.Saw
theorem few_ex (l:List Product):∃b,EI l=some b:=by
 unfold EI;by_cases h1:((l.length:Nat):Int)>20
 ·rw[decide_eq_true h1];exact⟨_,rfl⟩
 rw[decide_eq_false h1];obtain⟨u,e⟩:=loop_ex l.length (λn (_:Unit) x=>ZL l n x) (by omega) (λn i s hi=>by
   rw[ZL,decide_eq_true (by omega),qG (by omega) (by omega)];unfold FN;rw[qO (by omega)];simp only[cond_true,Int.toNat_natCast];cases decide (((((l.getD i default).Name).size:Nat):Int)>100)
   ·cases decide (((((l.getD i default).Lengths).length:Nat):Int)>12)
    ·cases decide (((((l.getD i default).Prices).length:Nat):Int)>12)
     ·exact .inr ⟨(),rfl⟩
     ·exact .inl ⟨_,rfl⟩
    ·exact .inl ⟨_,rfl⟩
   ·exact .inl ⟨_,rfl⟩) (λn s=>by
   refine⟨.inr (),?_⟩;rw[ZL,decide_eq_false (by omega)];rfl) ()
 rw[e];cases u with
 |inl v=>exact⟨v,rfl⟩
 |inr v=>exact⟨true,rfl⟩
end Go.SL.Saw

namespace Go.SL.Saw
variable {l :List qB} {ds:List Defect} {ps:List Product} {F:Rect} {w:Saw} {t:Rates}
end Go.SL.Saw

namespace Go.SL.Saw
variable {l :List qB} {ds:List Defect} {ps:List Product} {F:Rect} {w:Saw} {t:Rates}
end Go.SL.Saw

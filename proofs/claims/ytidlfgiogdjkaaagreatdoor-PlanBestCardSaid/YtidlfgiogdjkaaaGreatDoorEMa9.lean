import Derived.Test.YtidlfgiogdjkaaaGreatDoorEMa8
import Derived.Test.YtidlfgiogdjkaaaGreatDoorEMod
import Derived.Test.YtidlfgiogdjkaaaGreatDoorEMa7
set_option linter.unusedVariables false
set_option linter.unusedSimpArgs false
namespace Go.SL.Saw
variable {l :List qB} {ds:List Defect} {ps:List Product} {F:Rect} {w:Saw} {t:Rates}
theorem qMH (h:(yR l ds ps F w t).2.2=0): -200000000000000<=(yR l ds ps F w t).2.1/\(yR l ds ps F w t).2.1<=200000000000000/\(yR l ds ps F w t).1=rowN 2 (lineS l ds ps F w t).Kerf F.X (zL ps F (lineS l ds ps F w t))/\(yR l ds ps F w t).1.length<=127:=by
 obtain⟨hv,e⟩:=qOi h;have hn:(rowN 2 (lineS l ds ps F w t).Kerf F.X (zL ps F (lineS l ds ps F w t))).length<=127/\(yR l ds ps F w t).1=rowN 2 (lineS l ds ps F w t).Kerf F.X (zL ps F (lineS l ds ps F w t)):=by
  unfold yR at h⊢;rw[if_pos (XU.2 hv)] at h⊢;unfold qEm at h⊢;by_cases c2:(rowN 2 (lineS l ds ps F w t).Kerf F.X (zL ps F (lineS l ds ps F w t))).length<=127
  ·rw[if_pos c2];exact⟨c2,rfl⟩
  ·rw[if_neg c2] at h;exact absurd h (by decide)
 have vy:=qRh hv hn.1;have val:=qR0 hv hn.1;have bd:=(Of_ok vy).2;have c0:=yC_nn vy;have bv:=qOP hv.sol;have wl:=qIQ hv.sol F;have wn:=qEG l F;have hb:=bd.nB;have hd:=bd.nD;have hw:=bd.nW;have hch:=hv.vw.chip;have hdu:=hv.vw.dust
 have val2:(qDE l ds ps ⟨F,rowN 2 (lineS l ds ps F w t).Kerf F.X (zL ps F (lineS l ds ps F w t))⟩ w t).Value=yW l ds ps ⟨F,rowN 2 (lineS l ds ps F w t).Kerf F.X (zL ps F (lineS l ds ps F w t))⟩ w t.Fine+(t.Chip*yC l ds ps ⟨F,rowN 2 (lineS l ds ps F w t).Kerf F.X (zL ps F (lineS l ds ps F w t))⟩ w t.Fine+t.Dust*yD l ds ps ⟨F,rowN 2 (lineS l ds ps F w t).Kerf F.X (zL ps F (lineS l ds ps F w t))⟩ w t.Fine):=rfl
 have hC:yC l ds ps ⟨F,rowN 2 (lineS l ds ps F w t).Kerf F.X (zL ps F (lineS l ds ps F w t))⟩ w t.Fine<=28800000000/\yD l ds ps ⟨F,rowN 2 (lineS l ds ps F w t).Kerf F.X (zL ps F (lineS l ds ps F w t))⟩ w t.Fine<=28800000000:=by unfold yC at*;omega
 generalize yC l ds ps ⟨F,rowN 2 (lineS l ds ps F w t).Kerf F.X (zL ps F (lineS l ds ps F w t))⟩ w t.Fine=C at*;generalize yD l ds ps ⟨F,rowN 2 (lineS l ds ps F w t).Kerf F.X (zL ps F (lineS l ds ps F w t))⟩ w t.Fine=D at*;have m1:0<=t.Chip*C/\t.Chip*C<=1000*28800000000:=⟨Int.mul_nonneg hch.1 c0,Int.mul_le_mul hch.2 hC.1 c0 (by omega)⟩
 have m2:0<=t.Dust*D/\t.Dust*D<=1000*28800000000:=⟨Int.mul_nonneg hdu.1 hd.1,Int.mul_le_mul hdu.2 hC.2 hd.1 (by omega)⟩
 have m3:0<=t.Chip*(volT l-wholeR l F)/\t.Chip*(volT l-wholeR l F)<=1000*28800000000:=⟨Int.mul_nonneg hch.1 (by omega),Int.mul_le_mul hch.2 (by omega) (by omega) (by omega)⟩
 rw[e,hn.2];refine⟨by omega,by omega,rfl,hn.1⟩
theorem stG_b (l:List qB) (ds:List Defect) (ps:List Product) (F:Rect) (w:Saw) (t:Rates) (h:Int) (p:Nat):okN (stG l ds ps F w t h p).1/\(stG l ds ps F w t h p).2.length<=127:=by
 unfold okN stG;split
 ·split
  ·rename_i c;have:=qMH c.1;exact⟨by omega,this.2.2.2⟩
  ·simp
 ·simp
theorem qB7 (h:VE l ds ps F w t):VL (lineP l ds ps F w t):=by
 have hr:=h.vr;unfold VR at hr;have hh:=qLq ps;have rate:∀c:Int,0<=c/\c<=1000->∀j,j<((List.range (hei F).toNat).map (λp:Nat=>c*wholeR l (strR F p (p+1)))).length->okN (((List.range (hei F).toNat).map (λp:Nat=>c*wholeR l (strR F p (p+1)))).getD j default):=by
  intro c hc j hj;simp only[List.length_map,List.length_range] at hj;rw[zE _ hj];have wb:=qHa h.sol (strR F j (j+1));have m1:0<=c*wholeR l (strR F j (j+1))/\c*wholeR l (strR F j (j+1))<=1000*28800000000:=⟨Int.mul_nonneg hc.1 wb.1,Int.mul_le_mul hc.2 wb.2 wb.1 (by omega)⟩
  unfold okN;omega
 unfold lineP;refine⟨by unfold hei;simp only;omega,h.vw.kerf,by simp,hh,λi hi=>by have:=hts_b h.pr (jS hi);simp only;omega,by simp,by simp only[List.length_map,List.length_range];unfold hei;omega,by simp only[List.length_map,List.length_range];unfold hei;omega,?_,?_,rate t.Chip h.vw.chip,rate t.Dust h.vw.dust⟩
 ·intro i hi;simp only at hi⊢;rw[zE _ hi];simp only[List.length_map,List.length_range];rfl
 ·intro i hi j hj;simp only at hi hj⊢;rw[zE _ hi] at hj⊢;simp only[List.length_map,List.length_range] at hj;rw[zE _ hj];exact(stG_b l ds ps F w t _ _).1
noncomputable def stN (l:List qB) (ds:List Defect) (ps:List Product) (F:Rect) (w:Saw) (t:Rates) (x:Piece):List Node:=(stG l ds ps F w t ((hts ps).getD x.Size.toNat default) x.At.toNat).2
noncomputable def UD (l:List qB) (ds:List Defect) (ps:List Product) (F:Rect) (w:Saw) (t:Rates):List Pt:=(wF (lineP l ds ps F w t)).map (ptOf (lineP l ds ps F w t) F.Y.A (stN l ds ps F w t))
noncomputable def AQ (l:List qB) (ds:List Defect) (ps:List Product) (F:Rect) (w:Saw) (t:Rates):List Node:=rowN 3 w.Kerf F.Y (UD l ds ps F w t)
def zeroP :Pattern:=⟨⟨⟨0,0⟩,⟨0,0⟩⟩,[]⟩
open Classical in
noncomputable def GB (l:List qB) (ds:List Defect) (ps:List Product) (F:Rect) (w:Saw) (t:Rates):Pattern×Int×Int:=
 if chkE l ds ps F w t=0 then(if(AQ l ds ps F w t).length<=127 then(⟨F,AQ l ds ps F w t⟩,(bst (lineP l ds ps F w t) 0).value+t.Chip*(volT l-wholeR l F),0) else(zeroP,0,13)) else(zeroP,0,chkE l ds ps F w t)
theorem qS0 (h:VE l ds ps F w t) (g:Piece->List Node):goodL w.Kerf F.Y.B F.Y.A ((wF (lineP l ds ps F w t)).map (ptOf (lineP l ds ps F w t) F.Y.A g)):=by
 have vl:=qB7 h;have:=qCR vl F.Y.A g 3000 0 (by have:=vl.len;omega);have e1:(lineP l ds ps F w t).Len=hei F:=rfl;have e2:(lineP l ds ps F w t).Kerf=w.Kerf:=rfl;unfold wF;rw[e1,e2,show F.Y.A+hei F=F.Y.B by unfold hei;omega,show F.Y.A+((0:Nat):Int)=F.Y.A by omega] at this;exact this
theorem qDm (l:List qB) (ds:List Defect) (ps:List Product) (F:Rect) (w:Saw) (t:Rates):VX l ds ps F w t=some (GB l ds ps F w t):=by
 unfold VX GB;rw[qB8];simp only[Option.bind_some];by_cases c:chkE l ds ps F w t=0
 ·have h:=XU.1 c;have hr:=h.vr;have hr':=hr;unfold VR at hr';have vl:=qB7 h;have ln:=vl.len;rw[c,if_pos rfl,qQF h];simp only[Option.bind_some,bne_self_eq_false,cond_false];rw[show(Line.mk (lineP l ds ps F w t).Len (lineP l ds ps F w t).Kerf (lineP l ds ps F w t).Pitch (lineP l ds ps F w t).Sizes (lineP l ds ps F w t).Gain (lineP l ds ps F w t).Chip (lineP l ds ps F w t).Dust)=lineP l ds ps F w t from rfl,AX vl];simp only[Option.bind_some,bne_self_eq_false,cond_false];have hbl:(wF (lineP l ds ps F w t)).length<=3000:=qIv _ _ _;have hsz:(lineP l ds ps F w t).Sizes=hts ps:=rfl
  have hlen:(lineP l ds ps F w t).Len=hei F:=rfl;have k:=VU (wF (lineP l ds ps F w t)) (λn (s:List Span×List (List Node)) x=>US F (lineP l ds ps F w t,AF l ds ps F w t) (wF (lineP l ds ps F w t),(bst (lineP l ds ps F w t) 0).value,0) n s.1 s.2 x) (λx=>(x:Int)) (λ_ x s=>(s.1++[(ptOf (lineP l ds ps F w t) F.Y.A (stN l ds ps F w t) x).1],s.2++[(ptOf (lineP l ds ps F w t) F.Y.A (stN l ds ps F w t) x).2])) (λs=>s)
   (λx s=>s.1.length=x/\s.2.length=x) (by omega)
   (λn x s hx hs=>by
    obtain⟨i,q,ey,hi,hq,hg⟩:=qEo vl 3000 0 (by omega) _ (jS hx);have ey':(wF (lineP l ds ps F w t)).getD x default=⟨(i:Int),(q:Int)⟩:=ey;have sb:=hts_b h.pr (jS hi);have hi':i<(hts ps).length:=hi;have hq':(q:Int)+(hts ps).getD i default<=hei F:=by unfold szAt at hq;rw[hlen] at hq;have:(lineP l ds ps F w t).Sizes.getD i default=(hts ps).getD i default:=rfl;omega
    have hb:hei F<=1200:=by unfold hei;omega
    refine⟨?_,by simp[hs.1],by simp[hs.2]⟩;rw[US,decide_eq_true (show(x:Int)<_ by simp only;omega),qL (by omega) (by simp only;omega)];simp only[Int.toNat_natCast,ey'];have hnr:q<nRow F ((hts ps).getD i default):=by unfold nRow;omega
    have hst:(AF l ds ps F w t).getD i default=(List.range (nRow F ((hts ps).getD i default))).map (λp=>(stG l ds ps F w t ((hts ps).getD i default) p).2):=by unfold AF;rw[zE _ hi']
    have hsl:(AF l ds ps F w t).length=(hts ps).length:=by unfold AF;simp
    rw[hsz,qL (by omega) (by omega),qF (n:=(q:Int)+(hts ps).getD i default) (by omega) (by omega),qIV hr (by omega) (by omega),qW (by omega) (by omega),qL (by omega) (by rw[hsl];omega)];simp only[Int.toNat_natCast,hst,List.length_map,List.length_range];rw[qL (by omega) (by omega)];unfold BR;rw[qW (by omega) (by omega),qP (by omega)];simp only[cond_true,Option.bind_some];rw[zE _ hnr];rfl)
   (λn s _=>by rw[US];simp) (i:=0) rfl ([],[]) ⟨rfl,rfl⟩
  rw[k.1];have fold2:∀(L:List Piece) (i:Nat) (s:List Span×List (List Node)),foldi (λ_ x (s:List Span×List (List Node))=>(s.1++[(ptOf (lineP l ds ps F w t) F.Y.A (stN l ds ps F w t) x).1],s.2++[(ptOf (lineP l ds ps F w t) F.Y.A (stN l ds ps F w t) x).2])) i L s=(s.1++(L.map (ptOf (lineP l ds ps F w t) F.Y.A (stN l ds ps F w t))).map Prod.fst,s.2++(L.map (ptOf (lineP l ds ps F w t) F.Y.A (stN l ds ps F w t))).map Prod.snd):=by
   intro L
   induction L with
   |nil=>intro i s;simp[foldi]
   |cons x L ih=>
    intro i s;show foldi _ (i+1) L _=_;rw[ih];simp
  rw[fold2];simp only[Option.bind_some,List.nil_append];have hnd:ndC (UD l ds ps F w t)+1<=1000000000:=by
   have:=qGZ (lineP l ds ps F w t) F.Y.A (stN l ds ps F w t) 127 (wF (lineP l ds ps F w t)) (λx _=>(stG_b l ds ps F w t _ _).2);unfold UD;have h3:(3+127)*(wF (lineP l ds ps F w t)).length<=(3+127)*3000:=Nat.mul_le_mul_left _ hbl;omega
  have hrow:=qJs hr (axis:=3) (kerf:=w.Kerf) (.inr rfl) h.vw.kerf (L:=UD l ds ps F w t) (by unfold UD;simp;omega) (qS0 h (stN l ds ps F w t)) hnd;have hrow':QF F 3 w.Kerf ((UD l ds ps F w t).map Prod.fst) ((UD l ds ps F w t).map Prod.snd)=some (rowR (AQ l ds ps F w t)):=hrow;show((QF F 3 w.Kerf ((UD l ds ps F w t).map Prod.fst) ((UD l ds ps F w t).map Prod.snd)).bind _)=_;rw[hrow'];unfold rowR;simp only[Option.bind_some];by_cases c2:(AQ l ds ps F w t).length<=127
  ·rw[if_pos c2,if_pos c2,qMM h.sol,qK1 h.sol];simp only[bne_self_eq_false,cond_false,Option.bind_some];have bv:=qOP h.sol;have b0:=bst0_BV vl;have bw:=qHa h.sol F;have wl:=qIQ h.sol F;have m3:0<=t.Chip*(volT l-wholeR l F)/\t.Chip*(volT l-wholeR l F)<=1000*28800000000:=⟨Int.mul_nonneg h.vw.chip.1 (by omega),Int.mul_le_mul h.vw.chip.2 (by omega) (by omega) (by omega)⟩
   rw[qF (n:=volT l-_) (by omega) (by omega),qF (n:=t.Chip*_) (by omega) (by omega),qF (by omega) (by omega)]
  ·rw[if_neg c2,if_neg c2];rfl
 ·have c':(chkE l ds ps F w t !=0)=true:=by simpa using c
  rw[c',if_neg c];rfl
end Go.SL.Saw
namespace Go.SL.Saw
variable {l :List qB} {ds:List Defect} {ps:List Product} {F:Rect} {w:Saw} {t:Rates}
theorem qSk (ps:List Product) (r:Rect) (a:Line) (kerf:Int):hasB (rowN 2 kerf r.X (zL ps r a))=!isNo (bst a 0):=by
 unfold zL wF;rw[show walk a 3000 0=(bif isNo (bst a 0) then[] else(bst a 0).piece::(if(endN a (bst a 0).piece.At.toNat (bst a 0).piece.Size.toNat:Int)=a.Len then[] else walk a 2999 (nxtN a (endN a (bst a 0).piece.At.toNat (bst a 0).piece.Size.toNat)))) from rfl];cases isNo (bst a 0) with
 |true=>rfl
 |false=>
  simp only[cond_false,List.map_cons,Bool.not_false];unfold rowN hasB;rw[PU];split
  ·simp[ptOf,bdN]
  ·simp[ptOf,bdN]
theorem walk_cnt (h:VE l ds ps F w t):∀(m p:Nat),(p:Int)<=(lineS l ds ps F w t).Len->walk (lineS l ds ps F w t) m p=[]\/∃q:Nat,p<=q/\(q:Int) % w.Pitch=0/\(((walk (lineS l ds ps F w t) m p).length:Int)-1)*w.Pitch+q<=wid F
 |0,_,_=> .inl rfl
 |m+1,p,hp=>by
  have vl:=KY h;have hlen:(lineS l ds ps F w t).Len=wid F:=rfl;rw[walk];cases hn:isNo (bst (lineS l ds ps F w t) p) with
  |true=>exact .inl rfl
  |false=>
   right;obtain⟨i,q,e,hi,hq,hg,hw,hv⟩:=qQ5 vl hp hn;have hmod:(q:Int) % w.Pitch=0:=by
    have e':gnAt (lineS l ds ps F w t) i q=WN l ds (ps.getD ((sizes ps (F.Y.B-F.Y.A)).2.getD i default).toNat default) F w t (szAt (lineS l ds ps F w t) i) q:=by
     unfold gnAt;show((LU l ds ps F w t (F.Y.B-F.Y.A)).getD i default).getD q default=_;unfold LU;rw[zE _ (show i<(sizes ps (F.Y.B-F.Y.A)).1.length from hi)];unfold VF;rw[zE _ (by unfold szAt at hq;simp only[lineS] at hq;omega)];rfl
    rw[e'] at hg;unfold WN at hg;by_cases c:(q:Int) % w.Pitch=0
    ·exact c
    ·rw[if_neg c] at hg;omega
   have sz:=vl.sz i hi;have hp1:=h.vw.pitch;refine⟨q,by omega,hmod,?_⟩;rw[e];simp only[cond_false,Int.toNat_natCast];have szp:1<=szAt (lineS l ds ps F w t) i:=sz.1;have en:(endN (lineS l ds ps F w t) q i:Int)=q+szAt (lineS l ds ps F w t) i:=by unfold endN szAt;omega
   have hqw:(q:Int)<=wid F:=by omega
   by_cases c:(endN (lineS l ds ps F w t) q i:Int)=(lineS l ds ps F w t).Len
   ·rw[if_pos c];simp;omega
   ·rw[if_neg c];have nb:=qNV vl hi hq c;rcases walk_cnt h m _ nb.2.1 with e0|⟨q',h1,h2,h3⟩
    ·rw[e0];simp;omega
    ·have hlt:(q:Int)<q':=by omega
     have hge:(q:Int)+w.Pitch<=q':=by
      have d1:=Int.emod_emod_of_dvd q (Int.dvd_refl w.Pitch);obtain⟨u,hu⟩:=Int.dvd_of_emod_eq_zero hmod;obtain⟨v,hv'⟩:=Int.dvd_of_emod_eq_zero h2;have huv:u<v:=by
       apply Classical.byContradiction;intro hc;have:=Int.mul_le_mul_of_nonneg_left (show v<=u by omega) (show 0<=w.Pitch by omega);omega
      have:=Int.mul_le_mul_of_nonneg_left (show u+1<=v by omega) (show 0<=w.Pitch by omega);rw[Int.mul_add,Int.mul_one] at this;omega
     rw[List.length_cons,show(((walk (lineS l ds ps F w t) m (nxtN (lineS l ds ps F w t) (endN (lineS l ds ps F w t) q i))).length+1:Nat):Int)-1=((walk (lineS l ds ps F w t) m (nxtN (lineS l ds ps F w t) (endN (lineS l ds ps F w t) q i))).length:Int)-1+1 by omega,Int.add_mul,Int.one_mul];omega
theorem qR5 (h:VE l ds ps F w t) (hs:(F.X.B-F.X.A)/w.Pitch+1<=31):(yR l ds ps F w t).2.2=0:=by
 have hp:=h.vw.pitch;have vl:=KY h;have hr:=h.vr;unfold VR at hr;have hlen:(wF (lineS l ds ps F w t)).length<=31:=by
  rcases walk_cnt h 3000 0 (by have:=vl.len;omega) with e|⟨q,_,_,h3⟩
  ·unfold wF;rw[e];simp
  ·unfold wF;have h4:((walk (lineS l ds ps F w t) 3000 0).length:Int)-1<=(F.X.B-F.X.A)/w.Pitch:=by
    apply Int.le_ediv_of_mul_le (by omega);unfold wid at h3;omega
   omega
 have hn:(rowN 2 (lineS l ds ps F w t).Kerf F.X (zL ps F (lineS l ds ps F w t))).length<=127:=by
  unfold rowN;have h1:=qJd 2 (lineS l ds ps F w t).Kerf F.X.B (zL ps F (lineS l ds ps F w t)) F.X.A;have h2:=qGZ (lineS l ds ps F w t) F.X.A (bdN ps (F.Y.B-F.Y.A)) 1 (wF (lineS l ds ps F w t)) (λx _=>by simp[bdN]);unfold zL at*;have h3:(3+1)*(wF (lineS l ds ps F w t)).length<=4*31:=Nat.mul_le_mul_left _ hlen;rw[List.length_append];split
  ·simp;omega
  ·simp;omega
 unfold yR qEm;rw[if_pos (XU.2 h),if_pos hn]
end Go.SL.Saw
namespace Go.SL.Saw
def FM (W:Option Bool) (a2:List Node) (v14:Pattern×Int×Int) (v23:Yield×Int) (v25:(List Yield_Cut)×Int) (x28:Bool):Option Bool:=
 bif x28 then
  some false
 else
  (wG a2 FUEL 0 0).bind λo37=>
  bif decide (((v25.1.length:Nat):Int)<o37) then
   (W).bind λv40=>
   jR v40
  else
   bif decide (v23.1.Value<=v14.2.1) then
    (W).bind λv43=>
    jR v43
   else
    jR false
def FU (W:Option Bool) (a1:Law24_Given) (a2:List Node) (v14:Pattern×Int×Int) (x19:Bool):Option Bool:=
 bif x19 then
  (W).bind λv21=>
  some v21
 else
  (qBV a1 (Pattern.mk a1.Frame a2)).bind λv23=>
  (KK a1.Solid a1.Defects a1.Products (Pattern.mk a1.Frame a2) a1.Saw a1.Rates.Fine).bind λv25=>
  bif v23.2 !=0 then
   FM W a2 v14 v23 v25 true
  else
   FM W a2 v14 v23 v25 (v25.2 !=0)
def QX (W:Option Bool) (a1:Law24_Given) (a2:List Node) (x10:Bool):Option Bool:=
 bif x10 then
  (W).bind λv12=>
  some v12
 else
  (ZI a1).bind λv14=>
  bif v14.2.2 !=0 then
   FU W a1 a2 v14 true
  else
   (JL (Pattern.mk a1.Frame a2) a1.Products a1.Saw).bind λv17=>
   FU W a1 a2 v14 (!v17)
def ES (W:Option Bool) (a1:Law24_Given) (a2:List Node):Option Bool:=
 (DW a1).bind λv3=>
 bif !v3 then
  QX W a1 a2 true
 else
  (HA a1).bind λv6=>
  bif !v6 then
   QX W a1 a2 true
  else
   bif decide (a1.Rates.Dust>a1.Rates.Chip) then
    QX W a1 a2 true
   else
    QX W a1 a2 (decide (((a2.length:Nat):Int)>140))
theorem qJc (a1:Law24_Given) (a2:List Node):LK a1 a2=ES JW a1 a2:=rfl
end Go.SL.Saw
namespace Go.SL.Saw
theorem qQP {σ β:Type} (N:Nat) (L:Nat->σ->Int->Option β) (hN:N<=1000000000)
  (h0:∀n i s,i<N->(∃b,L (n+1) s (i:Int)=some b)\/∃s',L (n+1) s (i:Int)=L n s' ((i+1:Nat):Int))
  (h1:∀n s,∃b,L (n+1) s (N:Int)=some b) (s:σ):∃b,L FUEL s 0=some b:=by
 have key:∀(k i n:Nat) (s:σ),i+k=N->k<n->∃b,L n s (i:Int)=some b:=by
  intro k
  induction k with
  |zero=>
   intro i n s hi hn;obtain⟨n,rfl⟩:∃m,n=m+1:=⟨n-1,by omega⟩
   have:i=N:=by omega
   subst this;exact h1 n s
  |succ k ih=>
   intro i n s hi hn;obtain⟨n,rfl⟩:∃m,n=m+1:=⟨n-1,by omega⟩
   rcases h0 n i s (by omega) with h|⟨s',h⟩
   ·exact h
   ·rw[h];exact ih (i+1) n s' (by omega) (by omega)
 exact key N 0 FUEL s (by omega) (by rw[FUEL_eq];omega)
end Go.SL.Saw
namespace Go.SL.Saw
theorem few_ex (l:List Product):∃b,qAp l=some b:=by
 unfold qAp;by_cases h1:((l.length:Nat):Int)>20
 ·rw[decide_eq_true h1];exact⟨_,rfl⟩
 rw[decide_eq_false h1];obtain⟨u,e⟩:=qQP l.length (λn (_:Unit) x=>ZH l n x) (by omega) (λn i s hi=>by
   rw[ZH,decide_eq_true (by omega),qL (by omega) (by omega)];unfold zaQ;rw[qP (by omega)];simp only[cond_true,Int.toNat_natCast];cases decide (((((l.getD i default).Name).size:Nat):Int)>100)
   ·cases decide (((((l.getD i default).Lengths).length:Nat):Int)>12)
    ·cases decide (((((l.getD i default).Prices).length:Nat):Int)>12)
     ·exact .inr ⟨(),rfl⟩
     ·exact .inl ⟨_,rfl⟩
    ·exact .inl ⟨_,rfl⟩
   ·exact .inl ⟨_,rfl⟩) (λn s=>by
   refine⟨.inr (),?_⟩;rw[ZH,decide_eq_false (by omega)];rfl) ()
 rw[e];cases u with
 |inl v=>exact⟨v,rfl⟩
 |inr v=>exact⟨true,rfl⟩
theorem qUv (l:List qB):∃b,HM l=some b:=by
 unfold HM;by_cases h1:((l.length:Nat):Int)>30
 ·rw[decide_eq_true h1];exact⟨_,rfl⟩
 rw[decide_eq_false h1];obtain⟨u,e⟩:=qQP l.length (λn (_:Unit) x=>KA l n x) (by omega) (λn i s hi=>by
   rw[KA,decide_eq_true (by omega),qL (by omega) (by omega),qP (by omega)];simp only[cond_true,Int.toNat_natCast];cases decide ((((((l.getD i default).Sec).Rows).length:Nat):Int)>130)
   ·exact .inr ⟨(),rfl⟩
   ·exact .inl ⟨_,rfl⟩) (λn s=>by
   refine⟨.inr (),?_⟩;rw[KA,decide_eq_false (by omega)];rfl) ()
 rw[e];cases u with
 |inl v=>exact⟨v,rfl⟩
 |inr v=>exact⟨true,rfl⟩
theorem qL5 (s:Span) (p:Int):∃n,DA s p=some n/\(-600<=s.A->s.B<=600->s.A<=s.B->1<=p->n=(s.B-s.A)/p+1):=by
 unfold DA DN;by_cases h1:s.A< -600
 ·rw[decide_eq_true h1];exact⟨1,rfl,λh=>by omega⟩
 by_cases h2:s.B>600
 ·rw[decide_eq_false h1,decide_eq_true h2];exact⟨1,rfl,λ_ h=>by omega⟩
 by_cases h3:p<1
 ·rw[decide_eq_false h1,decide_eq_false h2,decide_eq_true h3];exact⟨1,rfl,λ_ _ _ h=>by omega⟩
 rw[decide_eq_false h1,decide_eq_false h2,decide_eq_false h3,nz_t (by omega)];refine⟨_,rfl,λa b c d=>?_⟩;rw[qF (n:=s.B-s.A) (by omega) (by omega),Int.tdiv_eq_ediv_of_nonneg (by omega)];have e1:0<=(s.B-s.A)/p:=Int.ediv_nonneg (by omega) (by omega);have e2:(s.B-s.A)/p<=s.B-s.A:=Int.ediv_le_self p (by omega);rw[qF (n:=(s.B-s.A)/p) (by omega) (by omega),qF (by omega) (by omega)]
theorem qTK (a:Law24_Given):∃b,DW a=some b:=by
 have k2:∀x,∃b,UM a x=some b:=by
  intro x;unfold UM;cases x with
  |true=>exact⟨_,rfl⟩
  |false=>
   obtain⟨n,e,_⟩:=qL5 a.Frame.X a.Saw.Pitch;obtain⟨m,e',_⟩:=qL5 a.Frame.Y a.Saw.Pitch;rw[e,e'];exact⟨_,rfl⟩
 have k1:∀x,∃b,JJ a x=some b:=by
  intro x;unfold JJ;cases x with
  |true=>exact⟨_,rfl⟩
  |false=>
   by_cases h:a.Saw.Step≥1
   ·rw[decide_eq_true h,(EB a.Solid).1,nz_t (by omega)];exact k2 _
   ·rw[decide_eq_false h];exact k2 _
 unfold DW;obtain⟨b1,e1⟩:=qUv a.Solid;rw[e1];simp only[Option.bind_some];cases b1 with
 |false=>exact k1 true
 |true=>
  simp only[Bool.not_true,cond_false];cases decide (((a.Defects.length:Nat):Int)>70) with
  |true=>exact k1 true
  |false=>
   simp only[cond_false];obtain⟨b2,e2⟩:=few_ex a.Products;rw[e2];simp only[Option.bind_some];cases b2
   ·exact k1 true
   ·exact k1 (decide (((a.Products.length:Nat):Int)>4))
theorem qSR (a:Law24_Given):ZI a=some (⟨(GB a.Solid a.Defects a.Products a.Frame a.Saw a.Rates).1.Frame,(GB a.Solid a.Defects a.Products a.Frame a.Saw a.Rates).1.Nodes⟩,(GB a.Solid a.Defects a.Products a.Frame a.Saw a.Rates).2.1,(GB a.Solid a.Defects a.Products a.Frame a.Saw a.Rates).2.2):=by
 unfold ZI;rw[qDm];rfl
theorem qT1 {l:List qB} {ds:List Defect} {ps:List Product} {F:Rect} {w:Saw} {t:Rates} (h:(GB l ds ps F w t).2.2=0):VE l ds ps F w t/\(AQ l ds ps F w t).length<=127/\GB l ds ps F w t=(⟨F,AQ l ds ps F w t⟩,(bst (lineP l ds ps F w t) 0).value+t.Chip*(volT l-wholeR l F),0):=by
 unfold GB at h⊢;by_cases c:chkE l ds ps F w t=0
 ·rw[if_pos c] at h⊢;by_cases c2:(AQ l ds ps F w t).length<=127
  ·rw[if_pos c2];exact⟨XU.1 c,c2,rfl⟩
  ·rw[if_neg c2] at h;exact absurd h (by decide)
 ·rw[if_neg c] at h;exact absurd h c
end Go.SL.Saw
namespace Go.SL.Saw
variable {l :List qB} {ds:List Defect} {ps:List Product} {F:Rect} {w:Saw} {t:Rates}
theorem gnP_eq (l:List qB) (ds:List Defect) (ps:List Product) (F:Rect) (w:Saw) (t:Rates) {i q:Nat} (hi:i<(hts ps).length) (hq:(q:Int)+(hts ps).getD i default<=hei F):gnAt (lineP l ds ps F w t) i q=(stG l ds ps F w t ((hts ps).getD i default) q).1:=by
 unfold gnAt lineP;simp only;rw[zE _ hi,zE _ (by unfold nRow;omega)]
end Go.SL.Saw
namespace Go.SL.Saw
variable {l :List qB} {ds:List Defect} {ps:List Product} {F:Rect} {w:Saw} {t:Rates}
theorem qMF (l:List qB) (F:Rect):∀k:Nat,sumN k (λp=>wholeR l (strR F (p:Nat) ((p:Nat)+1)))=wholeR l (strR F 0 k)
 |0=>by
  have:=(EF l).y (A:=F.Y.A+0) (m:=F.Y.A+0) (B:=F.Y.A+0) F.X (Int.le_refl _) (Int.le_refl _);show(0:Int)=wholeR l ⟨F.X,⟨F.Y.A+0,F.Y.A+((0:Nat):Int)⟩⟩;rw[show((0:Nat):Int)=0 from rfl];omega
 |k+1=>by
  rw[sumN,qMF l F k];have:=(EF l).y (A:=F.Y.A+0) (m:=F.Y.A+k) (B:=F.Y.A+(k+1)) F.X (by omega) (by omega);unfold strR;rw[show((k+1:Nat):Int)=(k:Int)+1 by omega];exact this
theorem preP (c:Int) (l:List qB) (F:Rect) {k:Nat} (hk:(k:Int)<=hei F):pre ((List.range (hei F).toNat).map (λp:Nat=>c*wholeR l (strR F p (p+1)))) k=c*wholeR l (strR F 0 k):=by
 unfold pre;rw[yJ (g:=λi=>c*wholeR l (strR F (i:Nat) ((i:Nat)+1))) (λi hi=>zE _ (by omega)),qBM,qMF]
theorem qK7 (c:Int) (l:List qB) (F:Rect) {i j:Nat} (h:i<=j) (hj:(j:Int)<=hei F):pre ((List.range (hei F).toNat).map (λp:Nat=>c*wholeR l (strR F p (p+1)))) j-pre ((List.range (hei F).toNat).map (λp:Nat=>c*wholeR l (strR F p (p+1)))) i=c*wholeR l (strR F i j):=by
 rw[preP c l F hj,preP c l F (by omega),<-Int.mul_sub];have:=(EF l).y (A:=F.Y.A+0) (m:=F.Y.A+i) (B:=F.Y.A+j) F.X (by omega) (by omega);unfold strR;rw[show wholeR l ⟨F.X,⟨F.Y.A+0,F.Y.A+(j:Int)⟩⟩-wholeR l ⟨F.X,⟨F.Y.A+0,F.Y.A+(i:Int)⟩⟩=wholeR l ⟨F.X,⟨F.Y.A+i,F.Y.A+j⟩⟩ by omega]
end Go.SL.Saw

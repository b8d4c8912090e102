import Derived.Test.YtidlfgiogdjkaaaGreatDoorEMa6
import Derived.Test.YtidlfgiogdjkaaaGreatDoorEMa7
import Derived.Test.YtidlfgiogdjkaaaGreatDoorEMa4
set_option linter.unusedVariables false
set_option linter.unusedSimpArgs false
namespace Go.SL
namespace Saw
theorem qOi {l:List qB} {ds:List Defect} {ps:List Product} {r:Rect} {w:Saw} {t:Rates} (h:(yR l ds ps r w t).2.2=0):VE l ds ps r w t/\(yR l ds ps r w t).2.1=(bst (lineS l ds ps r w t) 0).value:=by
 unfold yR at h⊢;by_cases c:chkE l ds ps r w t=0
 ·rw[if_pos c] at h⊢;refine⟨XU.1 c,?_⟩;unfold qEm at h⊢;by_cases c2:(rowN 2 (lineS l ds ps r w t).Kerf r.X (zL ps r (lineS l ds ps r w t))).length<=127
  ·rw[if_pos c2]
  ·rw[if_neg c2] at h;exact absurd h (by decide)
 ·rw[if_neg c] at h;exact absurd h c
def tot (c:List Int) (l:List Span):Int:=(l.map (λs=>pre c s.B.toNat-pre c s.A.toNat)).sum
def okSp (N:Int) (s:Span):Prop:=0<=s.A/\s.A<=s.B/\s.B<=N
structure Leg (a:Line) (e:Int) (x:Piece) (i q:Nat):Prop where
 eq:x=⟨(i:Int),(q:Int)⟩
 hi:i<a.Sizes.length
 hq:¬((q:Int)+szAt a i>a.Len)
 e0:0<=e
 wh:(q:Int)=e\/∃k,k<ZZ a e.toNat/\q=placeN a e.toNat k
 hg:¬gnAt a i q<0
def gnOf (a:Line) (p:List Piece) (j:Nat):Int:=gnAt a (p.getD j default).Size.toNat (p.getD j default).At.toNat
structure CI (a:Line) (p:List Piece) (i:Nat) (s:List Span×List Span×Int):Prop where
 l1:s.1.length<=2*i
 l2:s.2.1.length<=i
 o1:∀x∈s.1,okSp a.Len x
 o2:∀x∈s.2.1,okSp a.Len x
 ed:s.2.2= -1\/(0<=s.2.2/\s.2.2<=a.Len)
 pc:∀j,j<i->∃k q:Nat,p.getD j default=⟨(k:Int),(q:Int)⟩/\k<a.Sizes.length/\¬((q:Int)+szAt a k>a.Len)
 up:tot a.Dust s.1+tot a.Chip s.2.1+sumN i (gnOf a p)+(if s.2.2<0 then 0 else(bst a s.2.2.toNat).value)<=(bst a 0).value
 lo: -(1125899906842624*(if s.2.2<0 then a.Len else s.2.2))<=tot a.Dust s.1+tot a.Chip s.2.1+sumN i (gnOf a p)
theorem qQm (s:qK) {A m B:Int} (y:Span) (h1:A<=m) (h2:m<=B):zG s ⟨A,m⟩ y+zG s ⟨m,B⟩ y=zG s ⟨A,B⟩ y:=by
 unfold zG;rw[<-qIq];refine qBj (λr _ _=>?_);rw[<-qJR (row s r) h1 h2,Int.add_mul]
theorem qOQ (l:List qB) {A m B:Int} (y z:Span) (h1:A<=m) (h2:m<=B):volS l ⟨A,m⟩ y z+volS l ⟨m,B⟩ y z=volS l ⟨A,B⟩ y z:=by
 unfold volS;rw[<-qBB];refine yJ (λi _=>?_);rw[<-qQm _ y h1 h2,Int.mul_add]
theorem vol_nil (l:List qB) (A:Int) (y z:Span):volS l ⟨A,A⟩ y z=0:=by
 have:=qOQ l (A:=A) (m:=A) (B:=A) y z (Int.le_refl _) (Int.le_refl _);omega
theorem qEH (l:List qB) (r:Rect):∀k:Nat,sumN k (sliv l r)=volS l ⟨r.X.A,r.X.A+k⟩ r.Y ⟨0,solLen l⟩
 |0=>by rw[sumN,show r.X.A+((0:Nat):Int)=r.X.A by omega,vol_nil]
 |k+1=>by
  rw[sumN,qEH l r k];unfold sliv LV;simp only;rw[show r.X.A+((k+1:Nat):Int)=r.X.A+((k:Int)+1) by omega];exact qOQ l r.Y _ (by omega) (by omega)
theorem qUA {l:List qB} {ds:List Defect} {ps:List Product} {r:Rect} {w:Saw} {t:Rates} (h:VE l ds ps r w t):t.Chip*volS l r.X r.Y ⟨0,solLen l⟩<=(bst (lineS l ds ps r w t) 0).value:=by
 have vl:=KY h;have ln:=vl.len;have hr:=h.vr;unfold VR at hr;have bg:=(qIw (lineS l ds ps r w t) (stt (lineS l ds ps r w t)) 0).1;rw[<-bst_eq vl (by omega)] at bg;have e:pre (lineS l ds ps r w t).Chip (lineS l ds ps r w t).Len.toNat=t.Chip*volS l r.X r.Y ⟨0,solLen l⟩:=by
  show pre ((List.range (wid r).toNat).map (λx=>t.Chip*sliv l r x)) (wid r).toNat=_;unfold pre;rw[yJ (g:=λi=>t.Chip*sliv l r i) (λi hi=>zE _ hi),qBM,qEH,show r.X.A+(((wid r).toNat:Nat):Int)=r.X.B by unfold wid;omega]
 rw[e,show pre (lineS l ds ps r w t).Chip 0=0 from rfl] at bg;omega
theorem bst0_BV {a:Line} (h:VL a): -2251799813685248*2000<=(bst a 0).value/\(bst a 0).value<=2251799813685248*2000:=by
 have ln:=h.len;obtain⟨s,e,t⟩:=qAP h (a.Len.toNat+1) 0 FUEL (List.replicate (a.Len.toNat+1) ⟨⟨0,0⟩,0⟩,List.replicate (a.Len.toNat+1) ⟨⟨0,0⟩,0⟩) (by omega) (by rw[FUEL_eq];omega) (TI0 h);have:=(t.b1 0 (by omega) (by omega)).1;unfold BV at this;unfold bst;omega
end Saw
end Go.SL
namespace Go.SL.Saw
variable {l :List qB} {ds:List Defect} {ps:List Product} {r:Rect} {w:Saw} {t:Rates}
def lvV (s:List qB) (d:List Defect) (p:List Product) (w:Saw) (t:Rates) (x:Leaf):Int:=
 if x.Product= -1 then t.Chip*wholeR s x.Rect
 else bif (bestR s d (p.getD x.Product.toNat default) x.Rect w.Step t.Fine).2.1 then gainS s d (p.getD x.Product.toNat default) x.Rect w t else t.Chip*wholeR s x.Rect
theorem qQ3 (s:List qB) (d:List Defect) (p:List Product) (w:Saw) (t:Rates):∀(lv:List Leaf) (i:Nat),
  sumL (lvV s d p w t) lv=sumL (λc:Yield_Cut=>1000000*c.Worth) (bdsFrom s d p w.Step t.Fine i lv)+t.Dust*sumL (trmV s w.Trim) (bdsFrom s d p w.Step t.Fine i lv)
   +t.Chip*(sumL (λx=>wholeR s x.Rect) lv-sumL (brdV s) (bdsFrom s d p w.Step t.Fine i lv)-sumL (trmV s w.Trim) (bdsFrom s d p w.Step t.Fine i lv))
 |[],i=>by simp[sumL,bdsFrom]
 |x::lv,i=>by
  rw[QA,QA,qQ3 s d p w t lv (i+1)];show _=sumL _ (bdOf s d p w.Step t.Fine i x++bdsFrom s d p w.Step t.Fine (i+1) lv)+t.Dust*sumL _ (bdOf s d p w.Step t.Fine i x++bdsFrom s d p w.Step t.Fine (i+1) lv)+t.Chip*(_-sumL _ (bdOf s d p w.Step t.Fine i x++bdsFrom s d p w.Step t.Fine (i+1) lv)-sumL _ (bdOf s d p w.Step t.Fine i x++bdsFrom s d p w.Step t.Fine (i+1) lv));rw[FH,FH,FH]
  have e:lvV s d p w t x=sumL (λc:Yield_Cut=>1000000*c.Worth) (bdOf s d p w.Step t.Fine i x)+t.Dust*sumL (trmV s w.Trim) (bdOf s d p w.Step t.Fine i x)+t.Chip*(wholeR s x.Rect-sumL (brdV s) (bdOf s d p w.Step t.Fine i x)-sumL (trmV s w.Trim) (bdOf s d p w.Step t.Fine i x)):=by
   unfold lvV bdOf;by_cases c:x.Product= -1
   ·rw[if_pos c,if_pos c];simp[sumL]
   ·rw[if_neg c,if_neg c];unfold gainS;cases hb:(bestR s d (p.getD x.Product.toNat default) x.Rect w.Step t.Fine).2.1 with
    |false=>simp[sumL]
    |true=>
     simp only[cond_true,QA,qOM,Int.add_zero];rfl
  rw[e];generalize sumL (λc:Yield_Cut=>1000000*c.Worth) (bdOf s d p w.Step t.Fine i x)=a1;generalize sumL (trmV s w.Trim) (bdOf s d p w.Step t.Fine i x)=a2;generalize sumL (brdV s) (bdOf s d p w.Step t.Fine i x)=a3;generalize sumL (λc:Yield_Cut=>1000000*c.Worth) (bdsFrom s d p w.Step t.Fine (i+1) lv)=b1;generalize sumL (trmV s w.Trim) (bdsFrom s d p w.Step t.Fine (i+1) lv)=b2;generalize sumL (brdV s) (bdsFrom s d p w.Step t.Fine (i+1) lv)=b3;simp only[Int.mul_add,Int.mul_sub];omega
theorem qMG {pt:Pattern} (h:VY l ds ps pt w t):(qDE l ds ps pt w t).Value=sumL (lvV l ds ps w t) (lvP pt w.Kerf)+sumL (λc=>t.Dust*wholeR l c) (ctP pt w.Kerf)+t.Chip*(volT l-wholeR l pt.Frame):=by
 have hs:=h.parts.sum (wholeR l) (EF l);have e:=qQ3 l ds ps w t (lvP pt w.Kerf) 0;rw[e,show sumL (λc=>t.Dust*wholeR l c) (ctP pt w.Kerf)=t.Dust*sumL (wholeR l) (ctP pt w.Kerf) from qO9 _ _ _];show yW _ _ _ _ _ _+(t.Chip*yC _ _ _ _ _ _+t.Dust*yD _ _ _ _ _ _)=_;unfold yW yC yB yD qCt bds;rw[<-hs];simp only[Int.mul_add,Int.mul_sub];omega
structure SzD (l:List Product) (z:Int) (x:Nat) (s:List Int×List Int):Prop where
 len:s.1.length=s.2.length
 le:s.1.length<=x
 at_:∀j,j<s.1.length->∃i:Nat,i<x/\s.2.getD j default=(i:Int)/\(((qN (l.getD i default)).1=z/\s.1.getD j default=(qN (l.getD i default)).2)\/((qN (l.getD i default)).2=z/\s.1.getD j default=(qN (l.getD i default)).1))
theorem qPE {l:List Product} {z:Int} {x:Nat} {s:List Int×List Int} (h:SzD l z x s) {v:Int} (hv:((qN (l.getD x default)).1=z/\v=(qN (l.getD x default)).2)\/((qN (l.getD x default)).2=z/\v=(qN (l.getD x default)).1)):SzD l z (x+1) (s.1++[v],s.2++[(x:Int)]):=by
 have h1:=h.len;have h2:=h.le;refine⟨by simp[h1],by simp;omega,λj hj=>?_⟩;simp only[List.length_append,List.length_cons,List.length_nil] at hj;simp only;rw[qCg (by omega),qCg (by omega)];by_cases c:j<s.1.length
 ·rw[if_pos c,if_pos (by omega)];obtain⟨i,a,b,d⟩:=h.at_ j c;exact⟨i,by omega,b,d⟩
 ·rw[if_neg c,if_neg (by omega)];exact⟨x,by omega,rfl,hv⟩
theorem qDO {l:List Product} (hc:zO l=0) (z:Int):SzD l z l.length (sizes l z):=by
 unfold sizes;rw[if_neg (by simpa using hc)];have:∀k,SzD l z k (foldN (sizStep l z) 0 k ([],[])):=by
  intro k
  induction k with
  |zero=>exact⟨rfl,Nat.le_refl _,λj hj=>by simp[foldN] at hj⟩
  |succ k ih=>
   rw[JZ,Nat.zero_add];generalize foldN (sizStep l z) 0 k ([],[])=s at*;unfold sizStep;by_cases c1:(qN (l.getD k default)).1=z
   ·have e1:((qN (l.getD k default)).1==z)=true:=by simpa using c1
    rw[e1];exact qPE ih (.inl ⟨c1,rfl⟩)
   ·have e1:((qN (l.getD k default)).1==z)=false:=by simpa using c1
    rw[e1,cond_false];by_cases c2:(qN (l.getD k default)).2=z
    ·have e2:((qN (l.getD k default)).2==z)=true:=by simpa using c2
     rw[e2];exact qPE ih (.inr ⟨c2,rfl⟩)
    ·have e2:((qN (l.getD k default)).2==z)=false:=by simpa using c2
     rw[e2,cond_false];exact⟨ih.len,by have:=ih.le;omega,λj hj=>by obtain⟨i,a,b⟩:=ih.at_ j hj;exact⟨i,by omega,b⟩⟩
 exact this _
def pqOf (ps:List Product) (z:Int) (a:Line) (A:Int) (x:Piece):Pq:=(⟨A+x.At,A+(x.At+a.Sizes.getD x.Size.toNat default)⟩,.leaf ⟨1,(sizes ps z).2.getD x.Size.toNat default⟩)
theorem pq_pt (ps:List Product) (z:Int) (a:Line) (A:Int) (L:List Piece):(L.map (pqOf ps z a A)).map ptP=L.map (ptOf a A (bdN ps z)):=by
 rw[List.map_map];rfl
theorem qQ5 {a:Line} (h:VL a) {p:Nat} (hp:(p:Int)<=a.Len) (hn:isNo (bst a p)=false):
  ∃i q:Nat,(bst a p).piece=⟨(i:Int),(q:Int)⟩/\i<a.Sizes.length/\¬((q:Int)+szAt a i>a.Len)/\¬gnAt a i q<0/\(q=p\/p+a.Kerf.toNat+1<=q)/\(bst a p).value=(if q=p then 0 else restV a p q)+candV a (bst a) q i:=by
 rw[bst_eq h hp] at hn⊢;have st:∀q:Nat,(q:Int)<=a.Len->isNo (stt a q)=false->∃i:Nat,(stt a q).piece=⟨(i:Int),(q:Int)⟩/\i<a.Sizes.length/\¬((q:Int)+szAt a i>a.Len)/\¬gnAt a i q<0/\(stt a q).value=candV a (bst a) q i:=λq hq hn=>by
  rw[qKS h hq] at hn⊢;rcases startS_is a (bst a) q with e|⟨i,h1,h2,h3,e⟩
  ·rw[e] at hn;cases hn
  ·exact⟨i,by rw[e],h1,h2,h3,by rw[e]⟩
 rcases bestS_is a (stt a) p with e|⟨h1,e⟩|⟨k,hk,h1,e⟩
 ·rw[e] at hn;cases hn
 ·rw[e];obtain⟨i,a1,a2,a3,a4,a5⟩:=st p hp h1;exact⟨i,p,a1,a2,a3,a4,.inl rfl,by rw[if_pos rfl,a5,Int.zero_add]⟩
 ·rw[e];obtain⟨i,a1,a2,a3,a4,a5⟩:=st _ ((places_lt h).1 hk) h1;have hlo:=SI h p k;refine⟨i,_,a1,a2,a3,a4,.inr hlo,?_⟩;rw[if_neg (by omega)];show(stt a (placeN a p k)).value+restV a p (placeN a p k)=_;rw[a5];omega
theorem qTm {a:Line} (h:VL a) {p:Nat} (hp:(p:Int)<=a.Len) (hn:isNo (bst a p)=true):(bst a p).value=pre a.Chip a.Len.toNat-pre a.Chip p:=by
 rw[bst_eq h hp] at hn⊢;rcases bestS_is a (stt a) p with e|⟨h1,e⟩|⟨k,hk,h1,e⟩
 ·rw[e];rfl
 ·rw[e,h1] at hn;cases hn
 ·rw[e] at hn;have:isNo (stt a (placeN a p k))=true:=hn;rw[h1] at this;cases this
theorem qPG (c:Int) (l:List qB) (r:Rect) {k:Nat} (hk:(k:Int)<=wid r):pre ((List.range (wid r).toNat).map (λx=>c*sliv l r x)) k=c*wholeR l ⟨⟨r.X.A,r.X.A+k⟩,r.Y⟩:=by
 unfold pre wholeR;rw[yJ (g:=λi=>c*sliv l r i) (λi hi=>zE _ (by omega)),qBM,qEH]
theorem qSf (l:List qB) (r:Rect) {i j:Int} (h0:0<=i) (h:i<=j):wholeR l ⟨⟨r.X.A,r.X.A+j⟩,r.Y⟩-wholeR l ⟨⟨r.X.A,r.X.A+i⟩,r.Y⟩=wholeR l ⟨⟨r.X.A+i,r.X.A+j⟩,r.Y⟩:=by
 have:=(EF l).x (A:=r.X.A) (m:=r.X.A+i) (B:=r.X.A+j) r.Y (by omega) (by omega);omega
theorem SX (c:Int) (l:List qB) (r:Rect) {i j:Nat} (h:i<=j) (hj:(j:Int)<=wid r):pre ((List.range (wid r).toNat).map (λx=>c*sliv l r x)) j-pre ((List.range (wid r).toNat).map (λx=>c*sliv l r x)) i=c*wholeR l ⟨⟨r.X.A+i,r.X.A+j⟩,r.Y⟩:=by
 rw[qPG c l r hj,qPG c l r (by omega),<-Int.mul_sub,qSf l r (by omega) (by omega)]
theorem gn_of (h:VE l ds ps r w t) {i q:Nat} (hi:i<(lineS l ds ps r w t).Sizes.length) (hq:¬((q:Int)+szAt (lineS l ds ps r w t) i>(lineS l ds ps r w t).Len)) (hg:¬gnAt (lineS l ds ps r w t) i q<0):
  gnAt (lineS l ds ps r w t) i q=gainS l ds (ps.getD ((sizes ps (r.Y.B-r.Y.A)).2.getD i default).toNat default) ⟨⟨r.X.A+q,r.X.A+(q+szAt (lineS l ds ps r w t) i)⟩,r.Y⟩ w t
  /\(bestR l ds (ps.getD ((sizes ps (r.Y.B-r.Y.A)).2.getD i default).toNat default) ⟨⟨r.X.A+q,r.X.A+(q+szAt (lineS l ds ps r w t) i)⟩,r.Y⟩ w.Step t.Fine).2.1=true:=by
 have e:gnAt (lineS l ds ps r w t) i q=WN l ds (ps.getD ((sizes ps (r.Y.B-r.Y.A)).2.getD i default).toNat default) r w t (szAt (lineS l ds ps r w t) i) q:=by
  unfold gnAt;show((LU l ds ps r w t (r.Y.B-r.Y.A)).getD i default).getD q default=_;unfold LU;rw[zE _ (show i<(sizes ps (r.Y.B-r.Y.A)).1.length from hi)];unfold VF;rw[zE _ (by unfold szAt at hq;simp only[lineS] at hq;omega)];rfl
 rw[e] at hg⊢;unfold WN at hg⊢;by_cases c:(q:Int) % w.Pitch=0
 ·rw[if_pos c] at hg⊢;have ep:LV r (q:Int) ((q:Int)+szAt (lineS l ds ps r w t) i)=⟨⟨r.X.A+q,r.X.A+(q+szAt (lineS l ds ps r w t) i)⟩,r.Y⟩:=rfl;rw[ep] at hg⊢;refine⟨rfl,?_⟩;cases hb:(bestR l ds (ps.getD ((sizes ps (r.Y.B-r.Y.A)).2.getD i default).toNat default) ⟨⟨r.X.A+q,r.X.A+(q+szAt (lineS l ds ps r w t) i)⟩,r.Y⟩ w.Step t.Fine).2.1 with
  |true=>rfl
  |false=>unfold gainS at hg;rw[hb,cond_false] at hg;omega
 ·rw[if_neg c] at hg;omega
theorem qP1 (h:VE l ds ps r w t):∀(m p:Nat),(p:Int)<=(lineS l ds ps r w t).Len->(lineS l ds ps r w t).Len.toNat<p+m->
  rowV (lvV l ds ps w t) (λc=>t.Dust*wholeR l c) 2 w.Kerf r (r.X.A+wid r) (r.X.A+p) ((walk (lineS l ds ps r w t) m p).map (pqOf ps (r.Y.B-r.Y.A) (lineS l ds ps r w t) r.X.A))=(bst (lineS l ds ps r w t) p).value
 |0,p,hp,hm=>by omega
 |m+1,p,hp,hm=>by
  have vl:=KY h;have kf:=vl.kerf;have hlen:(lineS l ds ps r w t).Len=wid r:=rfl;have hkf:(lineS l ds ps r w t).Kerf=w.Kerf:=rfl;have hsz:(lineS l ds ps r w t).Sizes=(sizes ps (r.Y.B-r.Y.A)).1:=rfl;have hch:(lineS l ds ps r w t).Chip=(List.range (wid r).toNat).map (λx=>t.Chip*sliv l r x):=rfl;have hdu:(lineS l ds ps r w t).Dust=(List.range (wid r).toNat).map (λx=>t.Dust*sliv l r x):=rfl;have ln:=vl.len;rw[walk];cases hn:isNo (bst (lineS l ds ps r w t) p) with
  |true=>
   rw[qTm vl hp hn,hch,SX _ l r (by omega) (by omega)];simp only[cond_true,List.map_nil,rowV];unfold lvV;rw[if_pos rfl];show t.Chip*wholeR l ⟨⟨r.X.A+p,r.X.A+wid r⟩,r.Y⟩=_;rw[hlen,show(((wid r).toNat:Nat):Int)=wid r by omega]
  |false=>
   obtain⟨i,q,e,hi,hq,hg,hw,hv⟩:=qQ5 vl hp hn;obtain⟨g1,g2⟩:=gn_of h hi hq hg;rw[hv,e];simp only[cond_false,Int.toNat_natCast,List.map_cons];have sz:=vl.sz i hi;have en:(endN (lineS l ds ps r w t) q i:Int)=q+szAt (lineS l ds ps r w t) i:=by unfold endN szAt;omega
   have hqs:(q:Int)+szAt (lineS l ds ps r w t) i<=wid r:=by omega
   have szp:1<=szAt (lineS l ds ps r w t) i:=sz.1;obtain⟨ip,hip,eip,_⟩:=(qDO h.pr (r.Y.B-r.Y.A)).at_ i hi;have hne:¬(sizes ps (r.Y.B-r.Y.A)).2.getD i default= -1:=by rw[eip];omega
   have pq:pqOf ps (r.Y.B-r.Y.A) (lineS l ds ps r w t) r.X.A ⟨(i:Int),(q:Int)⟩=(⟨r.X.A+q,r.X.A+(q+szAt (lineS l ds ps r w t) i)⟩,.leaf ⟨1,(sizes ps (r.Y.B-r.Y.A)).2.getD i default⟩):=rfl;rw[pq];unfold rowV;simp only;rw[qPI];have ev:lvV l ds ps w t ⟨wiP r 2 ⟨r.X.A+q,r.X.A+(q+szAt (lineS l ds ps r w t) i)⟩,(sizes ps (r.Y.B-r.Y.A)).2.getD i default⟩=gnAt (lineS l ds ps r w t) i q:=by
    unfold lvV;rw[if_neg hne];have ew:wiP r 2 ⟨r.X.A+q,r.X.A+(q+szAt (lineS l ds ps r w t) i)⟩=⟨⟨r.X.A+q,r.X.A+(q+szAt (lineS l ds ps r w t) i)⟩,r.Y⟩:=rfl;simp only[ew];rw[g2,cond_true,g1]
   rw[ev];unfold candV;have egap:(if r.X.A+(q:Int)>r.X.A+p then lvV l ds ps w t ⟨wiP r 2 ⟨r.X.A+p,r.X.A+q-w.Kerf⟩,-1⟩+t.Dust*wholeR l (wiP r 2 ⟨r.X.A+q-w.Kerf,r.X.A+q⟩) else 0)=(if q=p then 0 else restV (lineS l ds ps r w t) p q):=by
    by_cases c:q=p
    ·rw[if_pos c,if_neg (by omega)]
    ·rw[if_neg c,if_pos (by omega)];have hk2:((q-w.Kerf.toNat:Nat):Int)=q-w.Kerf:=by omega
     unfold restV;rw[hch,hdu,hkf];have d1:=SX t.Chip l r (i:=p) (j:=q-w.Kerf.toNat) (by omega) (by omega);have d2:=SX t.Dust l r (i:=q-w.Kerf.toNat) (j:=q) (by omega) (by omega);unfold lvV;rw[if_pos rfl];show t.Chip*wholeR l ⟨⟨r.X.A+p,r.X.A+q-w.Kerf⟩,r.Y⟩+t.Dust*wholeR l ⟨⟨r.X.A+q-w.Kerf,r.X.A+q⟩,r.Y⟩=_;rw[hk2] at d1 d2;rw[show r.X.A+(q:Int)-w.Kerf=r.X.A+(q-w.Kerf) by omega,<-d1,<-d2];omega
   rw[egap]
   have etail:(if r.X.A+((q:Int)+szAt (lineS l ds ps r w t) i)<r.X.A+wid r then t.Dust*wholeR l (wiP r 2 ⟨r.X.A+(q+szAt (lineS l ds ps r w t) i),imin (r.X.A+(q+szAt (lineS l ds ps r w t) i)+w.Kerf) (r.X.A+wid r)⟩)+rowV (lvV l ds ps w t) (λc=>t.Dust*wholeR l c) 2 w.Kerf r (r.X.A+wid r) (imin (r.X.A+(q+szAt (lineS l ds ps r w t) i)+w.Kerf) (r.X.A+wid r)) (List.map (pqOf ps (r.Y.B-r.Y.A) (lineS l ds ps r w t) r.X.A) (if(endN (lineS l ds ps r w t) q i:Int)=(lineS l ds ps r w t).Len then[] else walk (lineS l ds ps r w t) m (nxtN (lineS l ds ps r w t) (endN (lineS l ds ps r w t) q i)))) else 0)
     =(if(endN (lineS l ds ps r w t) q i:Int)=(lineS l ds ps r w t).Len then 0 else(pre (lineS l ds ps r w t).Dust (nxtN (lineS l ds ps r w t) (endN (lineS l ds ps r w t) q i))-pre (lineS l ds ps r w t).Dust (endN (lineS l ds ps r w t) q i))+(bst (lineS l ds ps r w t) (nxtN (lineS l ds ps r w t) (endN (lineS l ds ps r w t) q i))).value):=by
    by_cases c:(endN (lineS l ds ps r w t) q i:Int)=(lineS l ds ps r w t).Len
    ·rw[if_neg (by omega),if_pos c]
    ·rw[if_pos (by omega),if_neg c,if_neg c];have nb:=qNV vl hi hq c;have en2:(nxtN (lineS l ds ps r w t) (endN (lineS l ds ps r w t) q i):Int)=imin ((endN (lineS l ds ps r w t) q i:Int)+w.Kerf) (wid r):=by
      have mm:=imin_or ((endN (lineS l ds ps r w t) q i:Int)+w.Kerf) (wid r);unfold nxtN;rw[hkf,hlen];omega
     have m1:=imin_or ((endN (lineS l ds ps r w t) q i:Int)+w.Kerf) (wid r);have m2:=imin_or (r.X.A+(q+szAt (lineS l ds ps r w t) i)+w.Kerf) (r.X.A+wid r);have en3:imin (r.X.A+(q+szAt (lineS l ds ps r w t) i)+w.Kerf) (r.X.A+wid r)=r.X.A+(nxtN (lineS l ds ps r w t) (endN (lineS l ds ps r w t) q i):Int):=by omega
     rw[en3,qP1 h m _ nb.2.1 (by omega)];rw[hdu,SX t.Dust l r nb.2.2 (by omega)];show t.Dust*wholeR l ⟨⟨r.X.A+(q+szAt (lineS l ds ps r w t) i),r.X.A+(nxtN (lineS l ds ps r w t) (endN (lineS l ds ps r w t) q i):Int)⟩,r.Y⟩+_=_;rw[en]
   rw[etail];omega
end Go.SL.Saw
namespace Go.SL.Saw
variable {l :List qB} {ds:List Defect} {ps:List Product} {r:Rect} {w:Saw} {t:Rates}
def qG7 (ps:List Product) (r:Rect) (a:Line):List Pq:=(wF a).map (pqOf ps (r.Y.B-r.Y.A) a r.X.A)
theorem qPT (ps:List Product) (r:Rect) (a:Line):(qG7 ps r a).map ptP=zL ps r a:=pq_pt _ _ _ _ _
theorem qGY (r:Rect):r.X.A+wid r=r.X.B:=by unfold wid;omega
theorem qGK (h:VE l ds ps r w t):goodL w.Kerf r.X.B r.X.A ((qG7 ps r (lineS l ds ps r w t)).map ptP):=by
 have vl:=KY h;have:=qCR vl r.X.A (bdN ps (r.Y.B-r.Y.A)) 3000 0 (by have:=vl.len;omega);rw[qPT];unfold zL wF;have e1:(lineS l ds ps r w t).Len=wid r:=rfl;have e2:(lineS l ds ps r w t).Kerf=w.Kerf:=rfl;rw[e1,e2,qGY,show r.X.A+((0:Nat):Int)=r.X.A by omega] at this;exact this
def edgeTr (ps:List Product) (r:Rect) (a:Line) (kerf:Int):T:=rowT 2 kerf r.X.B r.X.A (qG7 ps r a)
theorem qFC (h:VE l ds ps r w t):qX (edgeTr ps r (lineS l ds ps r w t) w.Kerf)=rowN 2 (lineS l ds ps r w t).Kerf r.X (zL ps r (lineS l ds ps r w t)):=by
 unfold edgeTr rowN;rw[ER 2 w.Kerf r.X.B _ _ (qGK h),qPT];rfl
theorem qGe (h:VE l ds ps r w t):okS (bdCat ps) w.Kerf (edgeTr ps r (lineS l ds ps r w t) w.Kerf) r:=by
 have vl:=KY h;have hr:=h.vr;unfold VR at hr;have e:wiP r 2 ⟨r.X.A,r.X.B⟩=r:=rfl;have key:=qKW (bd:=bdCat ps) (R:=r) (axis:=2) (B:=r.X.B) (.inl rfl) h.vw.kerf hr.1.2.2 (qG7 ps r (lineS l ds ps r w t)) r.X.A hr.1.1 (by omega) (qGK h) ?_
 ·rw[e] at key;exact key
 ·intro x hx;unfold qG7 wF at hx;obtain⟨y,hy,rfl⟩:=List.mem_map.1 hx;obtain⟨i,q,ey,hi,hq,hg⟩:=qEo vl 3000 0 (by have:=vl.len;omega) y hy;subst ey;obtain⟨ip,hip,eip,hd⟩:=(qDO h.pr (r.Y.B-r.Y.A)).at_ i hi;show ripB 1=false/\chkN (bdCat ps) ⟨1,(sizes ps (r.Y.B-r.Y.A)).2.getD ((i:Int)).toNat default⟩ ⟨wiP r 2 ⟨r.X.A+q,r.X.A+(q+(sizes ps (r.Y.B-r.Y.A)).1.getD ((i:Int)).toNat default)⟩,1⟩=0;refine⟨rfl,?_⟩;rw[Int.toNat_natCast,eip];unfold chkN;simp only;rw[if_neg (by omega),if_neg (by omega),if_neg (by rw[show ripB 1=false from rfl];simp),if_pos trivial];unfold bdCat
  rw[if_neg (by omega),Int.toNat_natCast];have hdm:dimOk (wiP r 2 ⟨r.X.A+q,r.X.A+(q+(sizes ps (r.Y.B-r.Y.A)).1.getD i default)⟩) (ps.getD ip default)=true:=by
   show dimOk ⟨⟨r.X.A+q,r.X.A+(q+(sizes ps (r.Y.B-r.Y.A)).1.getD i default)⟩,r.Y⟩ (ps.getD ip default)=true;unfold dimOk;simp only[Bool.or_eq_true,Bool.and_eq_true,beq_iff_eq];rcases hd with⟨d1,d2⟩|⟨d1,d2⟩
   ·right;omega
   ·left;omega
  rw[hdm];rfl
theorem qRh (h:VE l ds ps r w t) (hn:(rowN 2 (lineS l ds ps r w t).Kerf r.X (zL ps r (lineS l ds ps r w t))).length<=127):VY l ds ps ⟨r,rowN 2 (lineS l ds ps r w t).Kerf r.X (zL ps r (lineS l ds ps r w t))⟩ w t:=by
 refine⟨h.sol,(TA ds).2 ⟨h.dl,h.dd⟩,h.pr,h.vw,?_⟩;rw[XM];refine⟨h.vr,h.vw.kerf,hn,?_⟩;simp only;rw[<-qFC h] at hn⊢;exact qO6 (qGe h) hn
theorem edge_tv (h:VE l ds ps r w t):tv (lvV l ds ps w t) (λc=>t.Dust*wholeR l c) w.Kerf (edgeTr ps r (lineS l ds ps r w t) w.Kerf) r=(bst (lineS l ds ps r w t) 0).value:=by
 have vl:=KY h;have hr:=h.vr;unfold VR at hr;have ln:=vl.len;have e:wiP r 2 ⟨r.X.A,r.X.B⟩=r:=rfl;have key:=qJ0 (lvV l ds ps w t) (λc=>t.Dust*wholeR l c) (R:=r) (axis:=2) (B:=r.X.B) (.inl rfl) h.vw.kerf hr.1.2.2 (qG7 ps r (lineS l ds ps r w t)) r.X.A hr.1.1 (by omega) (qGK h);rw[e] at key;unfold edgeTr;rw[key];have:=qP1 h 3000 0 (by omega) (by omega);rw[qGY,show r.X.A+((0:Nat):Int)=r.X.A by omega] at this;exact this
theorem qR0 (h:VE l ds ps r w t) (hn:(rowN 2 (lineS l ds ps r w t).Kerf r.X (zL ps r (lineS l ds ps r w t))).length<=127):
  (qDE l ds ps ⟨r,rowN 2 (lineS l ds ps r w t).Kerf r.X (zL ps r (lineS l ds ps r w t))⟩ w t).Value=(bst (lineS l ds ps r w t) 0).value+t.Chip*(volT l-wholeR l r):=by
 rw[qMG (qRh h hn),<-edge_tv h];unfold tv lvP ctP lvT ctT;simp only;rw[<-qFC h,IZ TR _ _ (EI (qGe h)),IZ (cutG w.Kerf) _ _ (EI (qGe h))]
end Go.SL.Saw
namespace Go.SL.Saw
variable {l :List qB} {ds:List Defect} {ps:List Product} {F:Rect} {w:Saw} {t:Rates}
theorem EL (r:Rect):yZ r=some (if r.X.A≥r.X.B\/r.Y.A≥r.Y.B then 19 else if r.X.A< -600\/600<r.X.A\/r.X.B< -600\/600<r.X.B\/r.Y.A< -600\/600<r.Y.A\/r.Y.B< -600\/600<r.Y.B then 9 else 0):=by
 have s:∀n,zD r (n+1) 0=(bif decide (r.X.A< -600)||decide (r.X.A>600) then some (.inl 9) else zD r n 1)
   /\zD r (n+1) 1=(bif decide (r.X.B< -600)||decide (r.X.B>600) then some (.inl 9) else zD r n 2)
   /\zD r (n+1) 2=(bif decide (r.Y.A< -600)||decide (r.Y.A>600) then some (.inl 9) else zD r n 3)
   /\zD r (n+1) 3=(bif decide (r.Y.B< -600)||decide (r.Y.B>600) then some (.inl 9) else zD r n 4)
   /\zD r (n+1) 4=some (.inr ()):=by
  intro n;have bo:∀(a b:Bool) (x y:Option (Int⊕Unit)),(bif a||b then x else y)=bif a then x else bif b then x else y:=by intro a b x y;cases a<;>rfl
  simp only[bo];exact⟨by kernel_rfl,by kernel_rfl,by kernel_rfl,by kernel_rfl,by kernel_rfl⟩
 have bt:∀x:Int,(decide (x< -600)||decide (x>600))=decide (x< -600\/600<x):=by
  intro x;rw[Bool.eq_iff_iff,Bool.or_eq_true,decide_eq_true_eq,decide_eq_true_eq,decide_eq_true_eq]
 simp only[bt] at s;obtain⟨k,hk⟩:∃k,FUEL=k+5:=⟨4611686018427387899,by rw[FUEL_eq]⟩
 unfold yZ TE;by_cases h1:r.X.A≥r.X.B
 ·rw[decide_eq_true h1,if_pos (.inl h1)];rfl
 by_cases h2:r.Y.A≥r.Y.B
 ·rw[decide_eq_false h1,decide_eq_true h2,if_pos (.inr h2)];rfl
 rw[decide_eq_false h1,decide_eq_false h2,if_neg (by omega)];simp only[cond_false];rw[hk,(s _).1,(s _).2.1,(s _).2.2.1,(s _).2.2.2.1,(s _).2.2.2.2];by_cases a1:r.X.A< -600\/600<r.X.A
 ·rw[decide_eq_true a1,if_pos (by omega)];rfl
 by_cases a2:r.X.B< -600\/600<r.X.B
 ·rw[decide_eq_false a1,decide_eq_true a2,if_pos (by omega)];rfl
 by_cases a3:r.Y.A< -600\/600<r.Y.A
 ·rw[decide_eq_false a1,decide_eq_false a2,decide_eq_true a3,if_pos (by omega)];rfl
 by_cases a4:r.Y.B< -600\/600<r.Y.B
 ·rw[decide_eq_false a1,decide_eq_false a2,decide_eq_false a3,decide_eq_true a4,if_pos (by omega)];rfl
 rw[decide_eq_false a1,decide_eq_false a2,decide_eq_false a3,decide_eq_false a4,if_neg (by omega)];rfl
theorem qB8 (l:List qB) (ds:List Defect) (ps:List Product) (F:Rect) (w:Saw) (t:Rates):GI l ds ps F w t=some (chkE l ds ps F w t):=by
 unfold GI chkE;simp only[(OO l).1,qEa,SE,qEw,EL,Option.bind_some];have k:∀(n:Int) (a b:Option Int),(bif n !=0 then a else b)=if n≠0 then a else b:=by
  intro n a b;by_cases h:n=0
  ·rw[h];rfl
  ·have:(n !=0)=true:=by simpa using h
   rw[this,if_pos h];rfl
 simp only[k];split
 ·rfl
 ·split
  ·rfl
  ·split
   ·rfl
   ·split<;>rfl
def strR (F:Rect) (p q:Int):Rect:=⟨F.X,⟨F.Y.A+p,F.Y.A+q⟩⟩
def hei (F:Rect):Int:=F.Y.B-F.Y.A
theorem qIV (h:VR F) {p q:Int} (h1: -2000<=p/\p<=2000) (h2: -2000<=q/\q<=2000):GT F p q=some (strR F p q):=by
 unfold VR at h;unfold GT strR;rw[qF (n:=F.Y.A+p) (by omega) (by omega),qF (n:=F.Y.A+q) (by omega) (by omega)]
theorem qOv (h:VE l ds ps F w t) {p q:Int} (h1:0<=p) (h2:p<q) (h3:q<=hei F):VE l ds ps (strR F p q) w t:=by
 have hr:=h.vr;unfold VR at hr;unfold hei at h3;refine⟨h.sol,h.dl,h.dd,h.pr,h.vw,⟨hr.1,?_,?_,?_⟩⟩<;>(unfold strR;simp only;omega)
def hasB (n:List Node):Bool:=n.any (λx=>x.Kind==1)
theorem hasB_eq (n:List Node) (hl:n.length<=1000000):DT n=some (hasB n):=by
 unfold DT ZD JR;have key:∀(d i m:Nat),i+d=n.length->d<m->∃u,wS n m (i:Int)=some u/\(match u with| .inl v=>v≥0/\(n.drop i).any (λx=>x.Kind==1)=true| .inr _=>(n.drop i).any (λx=>x.Kind==1)=false):=by
  intro d
  induction d with
  |zero=>
   intro i m hi hm;obtain⟨m,rfl⟩:∃q,m=q+1:=⟨m-1,by omega⟩
   refine⟨.inr (),?_,?_⟩
   ·rw[wS,decide_eq_false (by omega)];rfl
   ·rw[List.drop_eq_nil_of_le (by omega)];rfl
  |succ d ih=>
   intro i m hi hm;obtain⟨m,rfl⟩:∃q,m=q+1:=⟨m-1,by omega⟩
   rw[wS,decide_eq_true (by omega),qL (by omega) (by omega),qP (by omega)];unfold BZ;simp only[cond_true,Int.toNat_natCast,Option.bind_some];rw[XQ n i (by omega)];cases hb:(n.getD i default).Kind==1 with
   |true=>exact⟨.inl (i:Int),rfl,by omega,by rw[List.any_cons,hb];rfl⟩
   |false=>
    obtain⟨u,e,hu⟩:=ih (i+1) m (by omega) (by omega);refine⟨u,e,?_⟩;cases u with
    |inl v=>exact⟨hu.1,by rw[List.any_cons,hb];exact hu.2⟩
    |inr v=>show(_::_).any _=false;rw[List.any_cons,hb];exact hu
 obtain⟨u,e,hu⟩:=key n.length 0 FUEL (by omega) (by rw[FUEL_eq];omega);rw[List.drop_zero] at hu;rw[show((0:Nat):Int)=0 from rfl] at e;rw[e];unfold hasB;cases u with
 |inl v=>simp only[Option.bind_some,Sum.elim_inl];rw[decide_eq_true hu.1,hu.2]
 |inr v=>simp only[Option.bind_some,Sum.elim_inr];rw[hu];rfl
noncomputable def stG (l:List qB) (ds:List Defect) (ps:List Product) (F:Rect) (w:Saw) (t:Rates) (h:Int) (p:Nat):Int×List Node:=
 if(p:Int) % w.Pitch=0 then
  (if(yR l ds ps (strR F p (p+h)) w t).2.2=0/\hasB (yR l ds ps (strR F p (p+h)) w t).1=true then((yR l ds ps (strR F p (p+h)) w t).2.1,(yR l ds ps (strR F p (p+h)) w t).1) else(-1,[]))
 else(-1,[])
theorem qSm (l:List qB) (ds:List Defect) (ps:List Product) (r:Rect) (w:Saw) (t:Rates):(yR l ds ps r w t).1.length<=127:=by
 unfold yR qEm;split
 ·split
  ·rename_i h;exact h
  ·simp
 ·simp
def nRow (F:Rect) (h:Int):Nat:=(hei F-h+1).toNat
theorem hts_b {ps:List Product} (h:zO ps=0) {x:Int} (hx:x∈hts ps):5<=x/\x<=721:=by
 rw[hts_mem h,qUk] at hx;obtain⟨i,hi,e⟩:=hx;have g:=qM6 (chk19_VP h hi);rcases e with rfl|rfl<;>omega
theorem qRZ (h:VE l ds ps F w t) {j:Nat} (hj:j<(hts ps).length):
  jZ l ds ps F w t (hts ps) (j:Int) FUEL [] [] 0=some ((List.range (nRow F ((hts ps).getD j default))).map (λp=>(stG l ds ps F w t ((hts ps).getD j default) p).1),(List.range (nRow F ((hts ps).getD j default))).map (λp=>(stG l ds ps F w t ((hts ps).getD j default) p).2)):=by
 have hb:=hts_b h.pr (jS hj);have hr:=h.vr;have hr':=hr;unfold VR at hr';have hp:=h.vw.pitch;generalize hsz:(hts ps).getD j default=sz at*;have k:=zX (nRow F sz) (λn (s:List Int×List (List Node)) x=>jZ l ds ps F w t (hts ps) (j:Int) n s.1 s.2 x) (λx s=>(s.1++[(stG l ds ps F w t sz x).1],s.2++[(stG l ds ps F w t sz x).2])) (λs=>s)
  (λx s=>s=((List.range x).map (λp=>(stG l ds ps F w t sz p).1),(List.range x).map (λp=>(stG l ds ps F w t sz p).2))) 0 (by omega) (by unfold nRow hei;omega)
  (λn x s hx hs=>by
   unfold nRow hei at hx;have hl1:s.1.length=x:=by rw[hs];simp
   have hl2:s.2.length=x:=by rw[hs];simp
   refine⟨?_,by rw[hs,List.range_succ,List.map_append,List.map_append];rfl⟩;rw[jZ];unfold AH NV;simp only[Int.toNat_natCast,hsz];rw[qF (n:=(x:Int)+sz) (by omega) (by omega),qF (n:=F.Y.B-F.Y.A) (by omega) (by omega),decide_eq_true (by omega),nz_t (by omega),qIV hr (by omega) (by omega),qW (by omega) (by omega),qW (by omega) (by omega),qP (by omega)];simp only[cond_true,Option.bind_some,qQp];rw[hasB_eq _ (by have:=qSm l ds ps (strR F x (x+sz)) w t;omega)];have em:Int.tmod (x:Int) w.Pitch=(x:Int) % w.Pitch:=Int.tmod_eq_emod_of_nonneg (by omega);rw[em];unfold stG;simp only[Option.bind_some]
   by_cases c:(x:Int) % w.Pitch=0
   ·rw[if_pos c,c];simp only[beq_self_eq_true,cond_true];by_cases c2:(yR l ds ps (strR F x (x+sz)) w t).2.2=0
    ·have c2':((yR l ds ps (strR F x (x+sz)) w t).2.2==0)=true:=by simpa using c2
     rw[c2',cond_true];cases hbb:hasB (yR l ds ps (strR F x (x+sz)) w t).1 with
     |true=>rw[if_pos ⟨c2,rfl⟩];rfl
     |false=>rw[if_neg (by simp)];rfl
    ·have c2':((yR l ds ps (strR F x (x+sz)) w t).2.2==0)=false:=by simpa using c2
     rw[c2',cond_false,if_neg (λhh=>c2 hh.1)];simp only[cond_false]
   ·rw[if_neg c,show((x:Int) % w.Pitch==0)=false by rw[beq_eq_false_iff_ne];exact c];simp only[cond_false])
  (λn s _=>by
   rw[jZ];simp only[Int.toNat_natCast,hsz];unfold nRow hei;rw[qF (n:=F.Y.B-F.Y.A) (by omega) (by omega),qF (n:=_+sz) (by omega) (by omega),decide_eq_false (by omega)];rfl) ([],[]) rfl
 have k1:=k.1;rw[k.2] at k1;exact k1
noncomputable def lineP (l:List qB) (ds:List Defect) (ps:List Product) (F:Rect) (w:Saw) (t:Rates):Line:=
 ⟨hei F,w.Kerf,1,hts ps,(List.range (hts ps).length).map (λj=>(List.range (nRow F ((hts ps).getD j default))).map (λp=>(stG l ds ps F w t ((hts ps).getD j default) p).1)),
  (List.range (hei F).toNat).map (λp:Nat=>t.Chip*wholeR l (strR F p (p+1))),(List.range (hei F).toNat).map (λp:Nat=>t.Dust*wholeR l (strR F p (p+1)))⟩
noncomputable def AF (l:List qB) (ds:List Defect) (ps:List Product) (F:Rect) (w:Saw) (t:Rates):List (List (List Node)):=
 (List.range (hts ps).length).map (λj=>(List.range (nRow F ((hts ps).getD j default))).map (λp=>(stG l ds ps F w t ((hts ps).getD j default) p).2))
theorem qK1 (h:VSol l) (r:Rect):DZ l r=some (wholeR l r):=by
 unfold DZ;rw[(EB l).1,ED h];simp only[Option.bind_some,AG h];rfl
theorem qQF (h:VE l ds ps F w t):CV l ds ps F w t=some (lineP l ds ps F w t,AF l ds ps F w t):=by
 have hr:=h.vr;have hr':=hr;unfold VR at hr';have hh:=qLq ps;unfold CV;rw[qER];simp only[Option.bind_some];have k1:=zX (hts ps).length (λn (s:List (List (List Node))×List (List Int)) x=>VO l ds ps F w t (hts ps) n s.1 x s.2) (λj s=>(s.1++[(List.range (nRow F ((hts ps).getD j default))).map (λp=>(stG l ds ps F w t ((hts ps).getD j default) p).2)],s.2++[(List.range (nRow F ((hts ps).getD j default))).map (λp=>(stG l ds ps F w t ((hts ps).getD j default) p).1)])) (λs=>s)
  (λx s=>s=((List.range x).map (λj=>(List.range (nRow F ((hts ps).getD j default))).map (λp=>(stG l ds ps F w t ((hts ps).getD j default) p).2)),(List.range x).map (λj=>(List.range (nRow F ((hts ps).getD j default))).map (λp=>(stG l ds ps F w t ((hts ps).getD j default) p).1)))) 0 (by omega) (by omega)
  (λn x s hx hs=>by
   have hl1:s.1.length=x:=by rw[hs];simp
   have hl2:s.2.length=x:=by rw[hs];simp
   refine⟨?_,by rw[hs,List.range_succ,List.map_append,List.map_append];rfl⟩;rw[VO,decide_eq_true (by omega),qL (by omega) (by omega),qRZ h hx,qW (by omega) (by omega),qW (by omega) (by omega),qP (by omega)];rfl)
  (λn s _=>by rw[VO,decide_eq_false (by omega)];rfl) ([],[]) rfl
 have e1:=k1.1;rw[k1.2] at e1;have k2:=zX (hei F).toNat (λn (s:List Int×List Int) x=>VI l F t n x s.1 s.2) (λp s=>(s.1++[t.Chip*wholeR l (strR F p (p+1))],s.2++[t.Dust*wholeR l (strR F p (p+1))])) (λs=>s)
  (λx s=>s=((List.range x).map (λp=>t.Chip*wholeR l (strR F (p:Nat) ((p:Nat)+1))),(List.range x).map (λp=>t.Dust*wholeR l (strR F (p:Nat) ((p:Nat)+1))))) 0 (by omega) (by unfold hei;omega)
  (λn x s hx hs=>by
   unfold hei at hx;have hl1:s.1.length=x:=by rw[hs];simp
   have hl2:s.2.length=x:=by rw[hs];simp
   refine⟨?_,by rw[hs,List.range_succ,List.map_append,List.map_append];rfl⟩;have wb:=qHa h.sol (strR F x (x+1));have m1:=WC (a:=t.Chip) (b:=wholeR l (strR F x (x+1))) (m:=1000) (n:=28800000000) (by have:=h.vw.chip;omega) (by have:=h.vw.chip;omega) (by omega) wb.2 (by omega) (by omega);have m2:=WC (a:=t.Dust) (b:=wholeR l (strR F x (x+1))) (m:=1000) (n:=28800000000) (by have:=h.vw.dust;omega) (by have:=h.vw.dust;omega) (by omega) wb.2 (by omega) (by omega)
   rw[VI,qF (n:=F.Y.B-F.Y.A) (by omega) (by omega),decide_eq_true (by omega),qF (n:=(x:Int)+1) (by omega) (by omega),qIV hr (by omega) (by omega),qW (by omega) (by omega),qW (by omega) (by omega)];simp only[cond_true,Option.bind_some,qK1 h.sol];rw[qF (n:=t.Chip*_) (by omega) (by omega),qF (n:=t.Dust*_) (by omega) (by omega)];rfl)
  (λn s _=>by
   rw[VI,qF (n:=F.Y.B-F.Y.A) (by omega) (by omega)];unfold hei;rw[decide_eq_false (by omega)];rfl) ([],[]) rfl
 have e2:=k2.1;rw[k2.2] at e2;rw[show((0:Nat):Int)=0 from rfl] at e1 e2;rw[e1];simp only[Option.bind_some];rw[e2,qF (n:=F.Y.B-F.Y.A) (by omega) (by omega)];rfl
end Go.SL.Saw
namespace Go.SL.Saw
variable {s :List qB} {d:List Defect} {p:List Product} {pt:Pattern} {w:Saw} {t:Rates}
theorem qQX (_hs:VSol s) {trim:Int} (ht:0<=trim) {c:Yield_Cut} (hc:qG9 s c):brdV s c+trmV s trim c<=wholeR s ⟨c.Box.X,c.Box.Y⟩:=by
 obtain⟨z1,z2,z3⟩:=hc.z;unfold brdV trmV qDU qHc wholeR;have m1:=JA 0 (c.Box.Z.A-trim);have m2:=imin_or (c.Box.Z.B+trim) (solLen s);have e1:=qKh s c.Box.X c.Box.Y (A:=imax 0 (c.Box.Z.A-trim)) (m:=c.Box.Z.A) (B:=c.Box.Z.B) (by omega) (by omega);have e2:=qKh s c.Box.X c.Box.Y (A:=imax 0 (c.Box.Z.A-trim)) (m:=c.Box.Z.B) (B:=imin (c.Box.Z.B+trim) (solLen s)) (by omega) (by omega);have e3:=qUI s c.Box.X c.Box.Y (A:=imax 0 (c.Box.Z.A-trim)) (B:=imin (c.Box.Z.B+trim) (solLen s)) (C:=0) (D:=solLen s) (by omega) (by omega);have ez:c.Box.Z=⟨c.Box.Z.A,c.Box.Z.B⟩:=rfl;rw[ez];simp only;omega
theorem qRi (hs:VSol s) (hp:zO p=0) {step fine trim:Int} (hf:0<=fine) (ht:0<=trim):∀{lv:List Leaf} {i:Nat},(∀x∈lv,qG0 p x)->sumL (λc=>brdV s c+trmV s trim c) (bdsFrom s d p step fine i lv)<=sumL (λx=>wholeR s x.Rect) lv
 |[],_,_=>Int.le_refl _
 |x::l,i,hg=>by
  have ih:=qRi hs hp (step:=step) hf ht (i:=i+1) (λy hy=>hg y (List.mem_cons_of_mem _ hy));show sumL _ (bdOf s d p step fine i x++bdsFrom s d p step fine (i+1) l)<=_;rw[FH,QA];have h1:sumL (λc=>brdV s c+trmV s trim c) (bdOf s d p step fine i x)<=wholeR s x.Rect:=by
   have hl:=qI7 (s:=s) (d:=d) (p:=p) step fine i x
   match hm:bdOf s d p step fine i x with
   |[]=>exact qEG _ _
   |[a]=>
    obtain⟨g,_,e3,e4,_⟩:=qPZ (s:=s) (d:=d) hp hf (hg x List.mem_cons_self) (c:=a) (by rw[hm];exact List.mem_cons_self);have:=qQX hs ht g;rw[e3,e4] at this;rw[QA,qOM];simp only[Int.add_zero];exact this
   |a::b::l=>rw[hm] at hl;simp at hl
  omega
theorem yC_nn (h:VY s d p pt w t):0<=yC s d p pt w t.Fine:=by
 have h1:=qRi h.sol h.pr (d:=d) (step:=w.Step) (trim:=w.Trim) h.vw.fine.1 h.vw.trim.1 (i:=0) (qLQ h);rw[qPz] at h1;have h2:=h.parts.sum (wholeR s) (EF s);have h3:=qIQ h.sol pt.Frame;unfold yC yB yD qCt bds;omega
end Go.SL.Saw

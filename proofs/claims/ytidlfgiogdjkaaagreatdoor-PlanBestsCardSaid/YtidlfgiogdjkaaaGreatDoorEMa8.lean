/- Edge's plain mathematics, part 30: the laws EdgeMore and EdgeMoves. -/
import Derived.Test.YtidlfgiogdjkaaaGreatDoorEMa6
import Derived.Test.YtidlfgiogdjkaaaGreatDoorEMa7
import Derived.Test.YtidlfgiogdjkaaaGreatDoorEMa4
set_option linter.unusedVariables false
set_option linter.unusedSimpArgs false
namespace Go.SL
namespace Saw
theorem q1d {l:List qC} {ds:List qF} {ps:List Product} {r:Rect} {w:Saw} {t:Rates} (h:(jR l ds ps r w t).2.2=0):VE l ds ps r w t/\(jR l ds ps r w t).2.1=(bst (lineS l ds ps r w t) 0).value:=by
 unfold jR at h⊢;by_cases c:chkE l ds ps r w t=0
 ·rw[if_pos c] at h⊢;refine⟨JW.1 c,?_⟩;unfold qI2 at h⊢;by_cases c2:(rowN 2 (lineS l ds ps r w t).Kerf r.X (wD ps r (lineS l ds ps r w t))).length<=127
  ·rw[if_pos c2]
  ·rw[if_neg c2] at h;exact absurd h (by decide)
 ·rw[if_neg c] at h;exact absurd h c
def tot (c:List Int) (l:List Span):Int:=(l.map (λs=>pre c s.B.toNat-pre c s.A.toNat)).sum
def okSp (N:Int) (s:Span):Prop:=0<=s.A/\s.A<=s.B/\s.B<=N
structure Leg (a:Line) (e:Int) (x:qX) (i q:Nat):Prop where
 eq:x=⟨(i:Int),(q:Int)⟩
 hi:i<a.Sizes.length
 hq:¬((q:Int)+szAt a i>a.Len)
 e0:0<=e
 wh:(q:Int)=e\/∃k,k<yU a e.toNat/\q=placeN a e.toNat k
 hg:¬gnAt a i q<0
def gnOf (a:Line) (p:List qX) (j:Nat):Int:=gnAt a (p.getD j du).Size.toNat (p.getD j du).At.toNat
structure CI (a:Line) (p:List qX) (i:Nat) (s:List Span×List Span×Int):Prop where
 l1:s.1.length<=2*i
 l2:s.2.1.length<=i
 o1:∀x∈s.1,okSp a.Len x
 o2:∀x∈s.2.1,okSp a.Len x
 ed:s.2.2= -1\/(0<=s.2.2/\s.2.2<=a.Len)
 pc:∀j,j<i->∃k q:Nat,p.getD j du=⟨(k:Int),(q:Int)⟩/\k<a.Sizes.length/\¬((q:Int)+szAt a k>a.Len)
 up:tot a.Dust s.1+tot a.Chip s.2.1+sumN i (gnOf a p)+(if s.2.2<0 then 0 else(bst a s.2.2.toNat).value)<=(bst a 0).value
 lo: -(1125899906842624*(if s.2.2<0 then a.Len else s.2.2))<=tot a.Dust s.1+tot a.Chip s.2.1+sumN i (gnOf a p)
theorem qXg (s:qQ) {A m B:Int} (y:Span) (h1:A<=m) (h2:m<=B):zM s ⟨A,m⟩ y+zM s ⟨m,B⟩ y=zM s ⟨A,B⟩ y:=by
 unfold zM;rw[<-qOz];refine qEv (λr _ _=>?_);rw[<-qPe (row s r) h1 h2,uF]
theorem qW5 (l:List qC) {A m B:Int} (y z:Span) (h1:A<=m) (h2:m<=B):volS l ⟨A,m⟩ y z+volS l ⟨m,B⟩ y z=volS l ⟨A,B⟩ y z:=by
 unfold volS;rw[<-qE3];refine XG (λi _=>?_);rw[<-qXg _ y h1 h2,uz]
theorem vol_nil (l:List qC) (A:Int) (y z:Span):volS l ⟨A,A⟩ y z=0:=by
 have:=qW5 l (A:=A) (m:=A) (B:=A) y z (kT _) (kT _);omega
theorem qXa (l:List qC) (r:Rect):∀k:Nat,sumN k (sliv l r)=volS l ⟨r.X.A,r.X.A+k⟩ r.Y ⟨0,solLen l⟩
 |0=>by rw[sumN,show r.X.A+((0:Nat):Int)=r.X.A by omega,vol_nil]
 |k+1=>by
  rw[sumN,qXa l r k];unfold sliv GN;simp only;rw[show r.X.A+((k+1:Nat):Int)=r.X.A+((k:Int)+1) by omega];exact qW5 l r.Y _ (by omega) (by omega)
theorem qYp {a:Line} (h:VL a): -2251799813685248*2000<=(bst a 0).value/\(bst a 0).value<=2251799813685248*2000:=by
 have ln:=h.len;obtain⟨s,e,t⟩:=CE h (a.Len.toNat+1) 0 FUEL (List.replicate (a.Len.toNat+1) ⟨⟨0,0⟩,0⟩,List.replicate (a.Len.toNat+1) ⟨⟨0,0⟩,0⟩) (by omega) (by rw[jF];omega) (TI0 h);have:=(t.b1 0 (by omega) (by omega)).1;unfold BV at this;unfold bst;omega
end Saw
end Go.SL

namespace Go.SL.Saw
variable {l :List qC} {ds:List qF} {ps:List Product} {r:Rect} {w:Saw} {t:Rates}
def lvV (s:List qC) (d:List qF) (p:List Product) (w:Saw) (t:Rates) (x:Leaf):Int:=
 if x.Product= -1 then t.Chip*zD s x.Rect
 else bif (bestR s d (p.getD x.Product.toNat du) x.Rect w.Step t.Fine).2.1 then AR s d (p.getD x.Product.toNat du) x.Rect w t else t.Chip*zD s x.Rect
theorem qYw (s:List qC) (d:List qF) (p:List Product) (w:Saw) (t:Rates):∀(lv:List Leaf) (i:Nat),
  sumL (lvV s d p w t) lv=sumL (λc:zV=>1000000*c.Worth) (bdsFrom s d p w.Step t.Fine i lv)+t.Dust*sumL (trmV s w.Trim) (bdsFrom s d p w.Step t.Fine i lv)
   +t.Chip*(sumL (λx=>zD s x.Rect) lv-sumL (brdV s) (bdsFrom s d p w.Step t.Fine i lv)-sumL (trmV s w.Trim) (bdsFrom s d p w.Step t.Fine i lv))
 |[],i=>by simp[sumL,bdsFrom]
 |x::lv,i=>by
  rw[ZB,ZB,qYw s d p w t lv (i+1)];show _=sumL _ (bdOf s d p w.Step t.Fine i x++bdsFrom s d p w.Step t.Fine (i+1) lv)+t.Dust*sumL _ (bdOf s d p w.Step t.Fine i x++bdsFrom s d p w.Step t.Fine (i+1) lv)+t.Chip*(_-sumL _ (bdOf s d p w.Step t.Fine i x++bdsFrom s d p w.Step t.Fine (i+1) lv)-sumL _ (bdOf s d p w.Step t.Fine i x++bdsFrom s d p w.Step t.Fine (i+1) lv));rw[SG,SG,SG]
  have e:lvV s d p w t x=sumL (λc:zV=>1000000*c.Worth) (bdOf s d p w.Step t.Fine i x)+t.Dust*sumL (trmV s w.Trim) (bdOf s d p w.Step t.Fine i x)+t.Chip*(zD s x.Rect-sumL (brdV s) (bdOf s d p w.Step t.Fine i x)-sumL (trmV s w.Trim) (bdOf s d p w.Step t.Fine i x)):=by
   unfold lvV bdOf;by_cases c:x.Product= -1
   ·rw[if_pos c,if_pos c];simp[sumL]
   ·rw[if_neg c,if_neg c];unfold AR;cases hb:(bestR s d (p.getD x.Product.toNat du) x.Rect w.Step t.Fine).2.1 with
    |false=>simp[sumL]
    |true=>
     simp only[kn,ZB,qWJ,Int.add_zero];rfl
  rw[e];generalize sumL (λc:zV=>1000000*c.Worth) (bdOf s d p w.Step t.Fine i x)=a1;generalize sumL (trmV s w.Trim) (bdOf s d p w.Step t.Fine i x)=a2;generalize sumL (brdV s) (bdOf s d p w.Step t.Fine i x)=a3;generalize sumL (λc:zV=>1000000*c.Worth) (bdsFrom s d p w.Step t.Fine (i+1) lv)=b1;generalize sumL (trmV s w.Trim) (bdsFrom s d p w.Step t.Fine (i+1) lv)=b2;generalize sumL (brdV s) (bdsFrom s d p w.Step t.Fine (i+1) lv)=b3;simp only[uz,gn];omega
theorem q0c {pt:qN} (h:VY l ds ps pt w t):(qQI l ds ps pt w t).Value=sumL (lvV l ds ps w t) (lvP pt w.Kerf)+sumL (λc=>t.Dust*zD l c) (ctP pt w.Kerf)+t.Chip*(volT l-zD l pt.Frame):=by
 have hs:=h.parts.sum (zD l) (qKk l);have e:=qYw l ds ps w t (lvP pt w.Kerf) 0;rw[e,show sumL (λc=>t.Dust*zD l c) (ctP pt w.Kerf)=t.Dust*sumL (zD l) (ctP pt w.Kerf) from qVm _ _ _];show yW _ _ _ _ _ _+(t.Chip*yC _ _ _ _ _ _+t.Dust*yD _ _ _ _ _ _)=_;unfold yW yC yB yD qGE bds;rw[<-hs];simp only[uz,gn];omega
structure SzD (l:List Product) (z:Int) (x:Nat) (s:List Int×List Int):Prop where
 len:s.1.length=s.2.length
 le:s.1.length<=x
 at_:∀j,j<s.1.length->∃i:Nat,i<x/\s.2.getD j du=(i:Int)/\(((qZ (l.getD i du)).1=z/\s.1.getD j du=(qZ (l.getD i du)).2)\/((qZ (l.getD i du)).2=z/\s.1.getD j du=(qZ (l.getD i du)).1))
theorem qU4 {l:List Product} {z:Int} {x:Nat} {s:List Int×List Int} (h:SzD l z x s) {v:Int} (hv:((qZ (l.getD x du)).1=z/\v=(qZ (l.getD x du)).2)\/((qZ (l.getD x du)).2=z/\v=(qZ (l.getD x du)).1)):SzD l z (x+1) (s.1++[v],s.2++[(x:Int)]):=by
 have h1:=h.len;have h2:=h.le;refine⟨by simp[h1],by simp;omega,λj hj=>?_⟩;simp only[kS,um,uT] at hj;simp only;rw[qFR (by omega),qFR (by omega)];by_cases c:j<s.1.length
 ·rw[if_pos c,if_pos (by omega)];obtain⟨i,a,b,d⟩:=h.at_ j c;exact⟨i,by omega,b,d⟩
 ·rw[if_neg c,if_neg (by omega)];exact⟨x,by omega,rfl,hv⟩
theorem qYc {l:List Product} (hc:wI l=0) (z:Int):SzD l z l.length (zH l z):=by
 unfold zH;rw[if_neg (by simpa using hc)];have:∀k,SzD l z k (foldN (sizStep l z) 0 k ([],[])):=by
  intro k
  induction k with
  |zero=>exact⟨rfl,ki _,λj hj=>by simp[foldN] at hj⟩
  |succ k ih=>
   rw[yE,kw];generalize foldN (sizStep l z) 0 k ([],[])=s at*;unfold sizStep;by_cases c1:(qZ (l.getD k du)).1=z
   ·have e1:((qZ (l.getD k du)).1==z)=true:=by simpa using c1
    rw[e1];exact qU4 ih (.inl ⟨c1,rfl⟩)
   ·have e1:((qZ (l.getD k du)).1==z)=false:=by simpa using c1
    rw[e1,kp];by_cases c2:(qZ (l.getD k du)).2=z
    ·have e2:((qZ (l.getD k du)).2==z)=true:=by simpa using c2
     rw[e2];exact qU4 ih (.inr ⟨c2,rfl⟩)
    ·have e2:((qZ (l.getD k du)).2==z)=false:=by simpa using c2
     rw[e2,kp];exact⟨ih.len,by have:=ih.le;omega,λj hj=>by obtain⟨i,a,b⟩:=ih.at_ j hj;exact⟨i,by omega,b⟩⟩
 exact this _
def pqOf (ps:List Product) (z:Int) (a:Line) (A:Int) (x:qX):Pq:=(⟨A+x.At,A+(x.At+a.Sizes.getD x.Size.toNat du)⟩,.leaf ⟨1,(zH ps z).2.getD x.Size.toNat du⟩)
theorem pq_pt (ps:List Product) (z:Int) (a:Line) (A:Int) (L:List qX):(L.map (pqOf ps z a A)).map ptP=L.map (ptOf a A (bdN ps z)):=by
 rw[List.map_map];rfl
theorem bst_val {a:Line} (h:VL a) {p:Nat} (hp:(p:Int)<=a.Len) (hn:isNo (bst a p)=false):
  ∃i q:Nat,(bst a p).piece=⟨(i:Int),(q:Int)⟩/\i<a.Sizes.length/\¬((q:Int)+szAt a i>a.Len)/\¬gnAt a i q<0/\(q=p\/p+a.Kerf.toNat+1<=q)/\(bst a p).value=(if q=p then 0 else restV a p q)+candV a (bst a) q i:=by
 rw[qOK h hp] at hn⊢;have st:∀q:Nat,(q:Int)<=a.Len->isNo (stt a q)=false->∃i:Nat,(stt a q).piece=⟨(i:Int),(q:Int)⟩/\i<a.Sizes.length/\¬((q:Int)+szAt a i>a.Len)/\¬gnAt a i q<0/\(stt a q).value=candV a (bst a) q i:=λq hq hn=>by
  rw[qWc h hq] at hn⊢;rcases startS_is a (bst a) q with e|⟨i,h1,h2,h3,e⟩
  ·rw[e] at hn;cases hn
  ·exact⟨i,by rw[e],h1,h2,h3,by rw[e]⟩
 rcases bestS_is a (stt a) p with e|⟨h1,e⟩|⟨k,hk,h1,e⟩
 ·rw[e] at hn;cases hn
 ·rw[e];obtain⟨i,a1,a2,a3,a4,a5⟩:=st p hp h1;exact⟨i,p,a1,a2,a3,a4,.inl rfl,by rw[if_pos rfl,a5,uC]⟩
 ·rw[e];obtain⟨i,a1,a2,a3,a4,a5⟩:=st _ ((BJ h).1 hk) h1;have hlo:=HA h p k;refine⟨i,_,a1,a2,a3,a4,.inr hlo,?_⟩;rw[if_neg (by omega)];show(stt a (placeN a p k)).value+restV a p (placeN a p k)=_;rw[a5];omega
theorem bst_no {a:Line} (h:VL a) {p:Nat} (hp:(p:Int)<=a.Len) (hn:isNo (bst a p)=true):(bst a p).value=pre a.Chip a.Len.toNat-pre a.Chip p:=by
 rw[qOK h hp] at hn⊢;rcases bestS_is a (stt a) p with e|⟨h1,e⟩|⟨k,hk,h1,e⟩
 ·rw[e];rfl
 ·rw[e,h1] at hn;cases hn
 ·rw[e] at hn;have:isNo (stt a (placeN a p k))=true:=hn;rw[h1] at this;cases this
theorem qV2 (c:Int) (l:List qC) (r:Rect) {k:Nat} (hk:(k:Int)<=wid r):pre ((List.range (wid r).toNat).map (λx=>c*sliv l r x)) k=c*zD l ⟨⟨r.X.A,r.X.A+k⟩,r.Y⟩:=by
 unfold pre zD;rw[XG (g:=λi=>c*sliv l r i) (λi hi=>wT _ (by omega)),qNx,qXa]
theorem qY9 (l:List qC) (r:Rect) {i j:Int} (h0:0<=i) (h:i<=j):zD l ⟨⟨r.X.A,r.X.A+j⟩,r.Y⟩-zD l ⟨⟨r.X.A,r.X.A+i⟩,r.Y⟩=zD l ⟨⟨r.X.A+i,r.X.A+j⟩,r.Y⟩:=by
 have:=(qKk l).x (A:=r.X.A) (m:=r.X.A+i) (B:=r.X.A+j) r.Y (by omega) (by omega);omega
theorem qF0 (c:Int) (l:List qC) (r:Rect) {i j:Nat} (h:i<=j) (hj:(j:Int)<=wid r):pre ((List.range (wid r).toNat).map (λx=>c*sliv l r x)) j-pre ((List.range (wid r).toNat).map (λx=>c*sliv l r x)) i=c*zD l ⟨⟨r.X.A+i,r.X.A+j⟩,r.Y⟩:=by
 rw[qV2 c l r hj,qV2 c l r (by omega),<-gn,qY9 l r (by omega) (by omega)]
theorem gn_of (h:VE l ds ps r w t) {i q:Nat} (hi:i<(lineS l ds ps r w t).Sizes.length) (hq:¬((q:Int)+szAt (lineS l ds ps r w t) i>(lineS l ds ps r w t).Len)) (hg:¬gnAt (lineS l ds ps r w t) i q<0):
  gnAt (lineS l ds ps r w t) i q=AR l ds (ps.getD ((zH ps (r.Y.B-r.Y.A)).2.getD i du).toNat du) ⟨⟨r.X.A+q,r.X.A+(q+szAt (lineS l ds ps r w t) i)⟩,r.Y⟩ w t
  /\(bestR l ds (ps.getD ((zH ps (r.Y.B-r.Y.A)).2.getD i du).toNat du) ⟨⟨r.X.A+q,r.X.A+(q+szAt (lineS l ds ps r w t) i)⟩,r.Y⟩ w.Step t.Fine).2.1=true:=by
 have e:gnAt (lineS l ds ps r w t) i q=YI l ds (ps.getD ((zH ps (r.Y.B-r.Y.A)).2.getD i du).toNat du) r w t (szAt (lineS l ds ps r w t) i) q:=by
  unfold gnAt;show((qCQ l ds ps r w t (r.Y.B-r.Y.A)).getD i du).getD q du=_;unfold qCQ;rw[wT _ (show i<(zH ps (r.Y.B-r.Y.A)).1.length from hi)];unfold BC;rw[wT _ (by unfold szAt at hq;simp only[lineS] at hq;omega)];rfl
 rw[e] at hg⊢;unfold YI at hg⊢;by_cases c:(q:Int) % w.Pitch=0
 ·rw[if_pos c] at hg⊢;have ep:GN r (q:Int) ((q:Int)+szAt (lineS l ds ps r w t) i)=⟨⟨r.X.A+q,r.X.A+(q+szAt (lineS l ds ps r w t) i)⟩,r.Y⟩:=rfl;rw[ep] at hg⊢;refine⟨rfl,?_⟩;cases hb:(bestR l ds (ps.getD ((zH ps (r.Y.B-r.Y.A)).2.getD i du).toNat du) ⟨⟨r.X.A+q,r.X.A+(q+szAt (lineS l ds ps r w t) i)⟩,r.Y⟩ w.Step t.Fine).2.1 with
  |true=>rfl
  |false=>unfold AR at hg;rw[hb,kp] at hg;omega
 ·rw[if_neg c] at hg;omega
theorem qWE (h:VE l ds ps r w t):∀(m p:Nat),(p:Int)<=(lineS l ds ps r w t).Len->(lineS l ds ps r w t).Len.toNat<p+m->
  rowV (lvV l ds ps w t) (λc=>t.Dust*zD l c) 2 w.Kerf r (r.X.A+wid r) (r.X.A+p) ((walk (lineS l ds ps r w t) m p).map (pqOf ps (r.Y.B-r.Y.A) (lineS l ds ps r w t) r.X.A))=(bst (lineS l ds ps r w t) p).value
 |0,p,hp,hm=>by omega
 |m+1,p,hp,hm=>by
  have vl:=CW h;have kf:=vl.kerf;have hlen:(lineS l ds ps r w t).Len=wid r:=rfl;have hkf:(lineS l ds ps r w t).Kerf=w.Kerf:=rfl;have hsz:(lineS l ds ps r w t).Sizes=(zH ps (r.Y.B-r.Y.A)).1:=rfl;have hch:(lineS l ds ps r w t).Chip=(List.range (wid r).toNat).map (λx=>t.Chip*sliv l r x):=rfl;have hdu:(lineS l ds ps r w t).Dust=(List.range (wid r).toNat).map (λx=>t.Dust*sliv l r x):=rfl;have ln:=vl.len;rw[walk];cases hn:isNo (bst (lineS l ds ps r w t) p) with
  |true=>
   rw[bst_no vl hp hn,hch,qF0 _ l r (by omega) (by omega)];simp only[kn,uX,rowV];unfold lvV;rw[if_pos rfl];show t.Chip*zD l ⟨⟨r.X.A+p,r.X.A+wid r⟩,r.Y⟩=_;rw[hlen,show((wid r).toNat:Int)=wid r by omega]
  |false=>
   obtain⟨i,q,e,hi,hq,hg,hw,hv⟩:=bst_val vl hp hn;obtain⟨g1,g2⟩:=gn_of h hi hq hg;rw[hv,e];simp only[kp,ko,uh];have sz:=vl.sz i hi;have en:(endN (lineS l ds ps r w t) q i:Int)=q+szAt (lineS l ds ps r w t) i:=by unfold endN szAt;omega
   have hqs:(q:Int)+szAt (lineS l ds ps r w t) i<=wid r:=by omega
   have szp:1<=szAt (lineS l ds ps r w t) i:=sz.1;obtain⟨ip,hip,eip,_⟩:=(qYc h.pr (r.Y.B-r.Y.A)).at_ i hi;have hne:¬(zH ps (r.Y.B-r.Y.A)).2.getD i du= -1:=by rw[eip];omega
   have pq:pqOf ps (r.Y.B-r.Y.A) (lineS l ds ps r w t) r.X.A ⟨(i:Int),(q:Int)⟩=(⟨r.X.A+q,r.X.A+(q+szAt (lineS l ds ps r w t) i)⟩,.leaf ⟨1,(zH ps (r.Y.B-r.Y.A)).2.getD i du⟩):=rfl;rw[pq];unfold rowV;simp only;rw[q1P];have ev:lvV l ds ps w t ⟨wiP r 2 ⟨r.X.A+q,r.X.A+(q+szAt (lineS l ds ps r w t) i)⟩,(zH ps (r.Y.B-r.Y.A)).2.getD i du⟩=gnAt (lineS l ds ps r w t) i q:=by
    unfold lvV;rw[if_neg hne];have ew:wiP r 2 ⟨r.X.A+q,r.X.A+(q+szAt (lineS l ds ps r w t) i)⟩=⟨⟨r.X.A+q,r.X.A+(q+szAt (lineS l ds ps r w t) i)⟩,r.Y⟩:=rfl;simp only[ew];rw[g2,kn,g1]
   rw[ev];unfold candV;have egap:(if r.X.A+(q:Int)>r.X.A+p then lvV l ds ps w t ⟨wiP r 2 ⟨r.X.A+p,r.X.A+q-w.Kerf⟩,-1⟩+t.Dust*zD l (wiP r 2 ⟨r.X.A+q-w.Kerf,r.X.A+q⟩) else 0)=(if q=p then 0 else restV (lineS l ds ps r w t) p q):=by
    by_cases c:q=p
    ·rw[if_pos c,if_neg (by omega)]
    ·rw[if_neg c,if_pos (by omega)];have hk2:((q-w.Kerf.toNat:Nat):Int)=q-w.Kerf:=by omega
     unfold restV;rw[hch,hdu,hkf];have d1:=qF0 t.Chip l r (i:=p) (j:=q-w.Kerf.toNat) (by omega) (by omega);have d2:=qF0 t.Dust l r (i:=q-w.Kerf.toNat) (j:=q) (by omega) (by omega);unfold lvV;rw[if_pos rfl];show t.Chip*zD l ⟨⟨r.X.A+p,r.X.A+q-w.Kerf⟩,r.Y⟩+t.Dust*zD l ⟨⟨r.X.A+q-w.Kerf,r.X.A+q⟩,r.Y⟩=_;rw[hk2] at d1 d2;rw[show r.X.A+(q:Int)-w.Kerf=r.X.A+(q-w.Kerf) by omega,<-d1,<-d2];omega
   rw[egap];have etail:(if r.X.A+((q:Int)+szAt (lineS l ds ps r w t) i)<r.X.A+wid r then t.Dust*zD l (wiP r 2 ⟨r.X.A+(q+szAt (lineS l ds ps r w t) i),imin (r.X.A+(q+szAt (lineS l ds ps r w t) i)+w.Kerf) (r.X.A+wid r)⟩)+rowV (lvV l ds ps w t) (λc=>t.Dust*zD l c) 2 w.Kerf r (r.X.A+wid r) (imin (r.X.A+(q+szAt (lineS l ds ps r w t) i)+w.Kerf) (r.X.A+wid r)) (List.map (pqOf ps (r.Y.B-r.Y.A) (lineS l ds ps r w t) r.X.A) (if(endN (lineS l ds ps r w t) q i:Int)=(lineS l ds ps r w t).Len then[] else walk (lineS l ds ps r w t) m (nxtN (lineS l ds ps r w t) (endN (lineS l ds ps r w t) q i)))) else 0)
     =(if(endN (lineS l ds ps r w t) q i:Int)=(lineS l ds ps r w t).Len then 0 else(pre (lineS l ds ps r w t).Dust (nxtN (lineS l ds ps r w t) (endN (lineS l ds ps r w t) q i))-pre (lineS l ds ps r w t).Dust (endN (lineS l ds ps r w t) q i))+(bst (lineS l ds ps r w t) (nxtN (lineS l ds ps r w t) (endN (lineS l ds ps r w t) q i))).value):=by
    by_cases c:(endN (lineS l ds ps r w t) q i:Int)=(lineS l ds ps r w t).Len
    ·rw[if_neg (by omega),if_pos c]
    ·rw[if_pos (by omega),if_neg c,if_neg c];have nb:=qUK vl hi hq c;have en2:(nxtN (lineS l ds ps r w t) (endN (lineS l ds ps r w t) q i):Int)=imin ((endN (lineS l ds ps r w t) q i:Int)+w.Kerf) (wid r):=by
      have mm:=imin_or ((endN (lineS l ds ps r w t) q i:Int)+w.Kerf) (wid r);unfold nxtN;rw[hkf,hlen];omega
     have m1:=imin_or ((endN (lineS l ds ps r w t) q i:Int)+w.Kerf) (wid r);have m2:=imin_or (r.X.A+(q+szAt (lineS l ds ps r w t) i)+w.Kerf) (r.X.A+wid r);have en3:imin (r.X.A+(q+szAt (lineS l ds ps r w t) i)+w.Kerf) (r.X.A+wid r)=r.X.A+(nxtN (lineS l ds ps r w t) (endN (lineS l ds ps r w t) q i):Int):=by omega
     rw[en3,qWE h m _ nb.2.1 (by omega)];rw[hdu,qF0 t.Dust l r nb.2.2 (by omega)];show t.Dust*zD l ⟨⟨r.X.A+(q+szAt (lineS l ds ps r w t) i),r.X.A+(nxtN (lineS l ds ps r w t) (endN (lineS l ds ps r w t) q i):Int)⟩,r.Y⟩+_=_;rw[en]
   rw[etail];omega
end Go.SL.Saw

namespace Go.SL.Saw
variable {l :List qC} {ds:List qF} {ps:List Product} {r:Rect} {w:Saw} {t:Rates}
def qLc (ps:List Product) (r:Rect) (a:Line):List Pq:=(wE a).map (pqOf ps (r.Y.B-r.Y.A) a r.X.A)
theorem qWm (ps:List Product) (r:Rect) (a:Line):(qLc ps r a).map ptP=wD ps r a:=pq_pt _ _ _ _ _
theorem qX8 (r:Rect):r.X.A+wid r=r.X.B:=by unfold wid;omega
theorem qJ8 (h:VE l ds ps r w t):VB w.Kerf r.X.B r.X.A ((qLc ps r (lineS l ds ps r w t)).map ptP):=by
 have vl:=CW h;have:=qC5 vl r.X.A (bdN ps (r.Y.B-r.Y.A)) 3000 0 (by have:=vl.len;omega);rw[qWm];unfold wD wE;have e1:(lineS l ds ps r w t).Len=wid r:=rfl;have e2:(lineS l ds ps r w t).Kerf=w.Kerf:=rfl;rw[e1,e2,qX8,show r.X.A+((0:Nat):Int)=r.X.A by omega] at this;exact this
def qKm (ps:List Product) (r:Rect) (a:Line) (kerf:Int):T:=rowT 2 kerf r.X.B r.X.A (qLc ps r a)
theorem qKx (h:VE l ds ps r w t):wX (qKm ps r (lineS l ds ps r w t) w.Kerf)=rowN 2 (lineS l ds ps r w t).Kerf r.X (wD ps r (lineS l ds ps r w t)):=by
 unfold qKm rowN;rw[qQk 2 w.Kerf r.X.B _ _ (qJ8 h),qWm];rfl
theorem qKa (h:VE l ds ps r w t):okS (PH ps) w.Kerf (qKm ps r (lineS l ds ps r w t) w.Kerf) r:=by
 have vl:=CW h;have hr:=h.vr;unfold VR at hr;have e:wiP r 2 ⟨r.X.A,r.X.B⟩=r:=rfl;have key:=q0q (bd:=PH ps) (R:=r) (axis:=2) (B:=r.X.B) (.inl rfl) h.vw.kerf hr.1.2.2 (qLc ps r (lineS l ds ps r w t)) r.X.A hr.1.1 (by omega) (qJ8 h) ?_
 ·rw[e] at key;exact key
 ·intro x hx;unfold qLc wE at hx;obtain⟨y,hy,rfl⟩:=List.mem_map.1 hx;obtain⟨i,q,ey,hi,hq,hg⟩:=qB2 vl 3000 0 (by have:=vl.len;omega) y hy;subst ey;obtain⟨ip,hip,eip,hd⟩:=(qYc h.pr (r.Y.B-r.Y.A)).at_ i hi;show ripB 1=false/\chkN (PH ps) ⟨1,(zH ps (r.Y.B-r.Y.A)).2.getD ((i:Int)).toNat du⟩ ⟨wiP r 2 ⟨r.X.A+q,r.X.A+(q+(zH ps (r.Y.B-r.Y.A)).1.getD ((i:Int)).toNat du)⟩,1⟩=0;refine⟨rfl,?_⟩;rw[ko,eip];unfold chkN;simp only;rw[if_neg (by omega),if_neg (by omega),if_neg (by rw[show ripB 1=false from rfl];simp),if_pos trivial];unfold PH;rw[if_neg (by omega),ko]
  have hdm:dimOk (wiP r 2 ⟨r.X.A+q,r.X.A+(q+(zH ps (r.Y.B-r.Y.A)).1.getD i du)⟩) (ps.getD ip du)=true:=by
   show dimOk ⟨⟨r.X.A+q,r.X.A+(q+(zH ps (r.Y.B-r.Y.A)).1.getD i du)⟩,r.Y⟩ (ps.getD ip du)=true;unfold dimOk;simp only[uK,kr,uG];rcases hd with⟨d1,d2⟩|⟨d1,d2⟩
   ·right;omega
   ·left;omega
  rw[hdm];rfl
theorem qX2 (h:VE l ds ps r w t) (hn:(rowN 2 (lineS l ds ps r w t).Kerf r.X (wD ps r (lineS l ds ps r w t))).length<=127):VY l ds ps ⟨r,rowN 2 (lineS l ds ps r w t).Kerf r.X (wD ps r (lineS l ds ps r w t))⟩ w t:=by
 refine⟨h.sol,(PO ds).2 ⟨h.dl,h.dd⟩,h.pr,h.vw,?_⟩;rw[GH];refine⟨h.vr,h.vw.kerf,hn,?_⟩;simp only;rw[<-qKx h] at hn⊢;exact q1x (qKa h) hn
theorem edge_tv (h:VE l ds ps r w t):tv (lvV l ds ps w t) (λc=>t.Dust*zD l c) w.Kerf (qKm ps r (lineS l ds ps r w t) w.Kerf) r=(bst (lineS l ds ps r w t) 0).value:=by
 have vl:=CW h;have hr:=h.vr;unfold VR at hr;have ln:=vl.len;have e:wiP r 2 ⟨r.X.A,r.X.B⟩=r:=rfl;have key:=qZN (lvV l ds ps w t) (λc=>t.Dust*zD l c) (R:=r) (axis:=2) (B:=r.X.B) (.inl rfl) h.vw.kerf hr.1.2.2 (qLc ps r (lineS l ds ps r w t)) r.X.A hr.1.1 (by omega) (qJ8 h);rw[e] at key;unfold qKm;rw[key];have:=qWE h 3000 0 (by omega) (by omega);rw[qX8,show r.X.A+((0:Nat):Int)=r.X.A by omega] at this;exact this
theorem qY3 (h:VE l ds ps r w t) (hn:(rowN 2 (lineS l ds ps r w t).Kerf r.X (wD ps r (lineS l ds ps r w t))).length<=127):
  (qQI l ds ps ⟨r,rowN 2 (lineS l ds ps r w t).Kerf r.X (wD ps r (lineS l ds ps r w t))⟩ w t).Value=(bst (lineS l ds ps r w t) 0).value+t.Chip*(volT l-zD l r):=by
 rw[q0c (qX2 h hn),<-edge_tv h];unfold tv lvP ctP lvT ctT;simp only;rw[<-qKx h,qIz CT _ _ (qFV (qKa h)),qIz (cutG w.Kerf) _ _ (qFV (qKa h))]
end Go.SL.Saw

namespace Go.SL.Saw
variable {l :List qC} {ds:List qF} {ps:List Product} {F:Rect} {w:Saw} {t:Rates}
theorem qVE (r:Rect):XZ r=some (if r.X.A≥r.X.B\/r.Y.A≥r.Y.B then 19 else if r.X.A< -600\/600<r.X.A\/r.X.B< -600\/600<r.X.B\/r.Y.A< -600\/600<r.Y.A\/r.Y.B< -600\/600<r.Y.B then 9 else 0):=by
 have s:∀n,wC r (n+1) 0=(bif decide (r.X.A< -600)||decide (r.X.A>600) then some (.inl 9) else wC r n 1)
   /\wC r (n+1) 1=(bif decide (r.X.B< -600)||decide (r.X.B>600) then some (.inl 9) else wC r n 2)
   /\wC r (n+1) 2=(bif decide (r.Y.A< -600)||decide (r.Y.A>600) then some (.inl 9) else wC r n 3)
   /\wC r (n+1) 3=(bif decide (r.Y.B< -600)||decide (r.Y.B>600) then some (.inl 9) else wC r n 4)
   /\wC r (n+1) 4=some (.inr ()):=by
  intro n;have bo:∀(a b:Bool) (x y:Option (Int⊕Unit)),(bif a||b then x else y)=bif a then x else bif b then x else y:=by intro a b x y;cases a<;>rfl
  simp only[bo];exact⟨by kernel_rfl,by kernel_rfl,by kernel_rfl,by kernel_rfl,by kernel_rfl⟩
 have bt:∀x:Int,(decide (x< -600)||decide (x>600))=decide (x< -600\/600<x):=by
  intro x;rw[gp,uK,decide_eq_true_eq,decide_eq_true_eq,decide_eq_true_eq]
 simp only[bt] at s;obtain⟨k,hk⟩:∃k,FUEL=k+5:=⟨4611686018427387899,by rw[jF]⟩
 unfold XZ UH;by_cases h1:r.X.A≥r.X.B
 ·rw[kd h1,if_pos (.inl h1)];rfl
 by_cases h2:r.Y.A≥r.Y.B
 ·rw[ka h1,kd h2,if_pos (.inr h2)];rfl
 rw[ka h1,ka h2,if_neg (by omega)];simp only[kp];rw[hk,(s _).1,(s _).2.1,(s _).2.2.1,(s _).2.2.2.1,(s _).2.2.2.2];by_cases a1:r.X.A< -600\/600<r.X.A
 ·rw[kd a1,if_pos (by omega)];rfl
 by_cases a2:r.X.B< -600\/600<r.X.B
 ·rw[ka a1,kd a2,if_pos (by omega)];rfl
 by_cases a3:r.Y.A< -600\/600<r.Y.A
 ·rw[ka a1,ka a2,kd a3,if_pos (by omega)];rfl
 by_cases a4:r.Y.B< -600\/600<r.Y.B
 ·rw[ka a1,ka a2,ka a3,kd a4,if_pos (by omega)];rfl
 rw[ka a1,ka a2,ka a3,ka a4,if_neg (by omega)];rfl
theorem qEZ (l:List qC) (ds:List qF) (ps:List Product) (F:Rect) (w:Saw) (t:Rates):BW l ds ps F w t=some (chkE l ds ps F w t):=by
 unfold BW chkE;simp only[(RT l).1,qIQ,qCb,qNX,qVE,ke];have k:∀(n:Int) (a b:Option Int),(bif n !=0 then a else b)=if n≠0 then a else b:=by
  intro n a b;by_cases h:n=0
  ·rw[h];rfl
  ·have:(n !=0)=true:=by simpa using h
   rw[this,if_pos h];rfl
 simp only[k];split
 ·rfl
 ·split
  ·rfl
  ·split
   ·rfl
   ·split<;>rfl
def strR (F:Rect) (p q:Int):Rect:=⟨F.X,⟨F.Y.A+p,F.Y.A+q⟩⟩
def hei (F:Rect):Int:=F.Y.B-F.Y.A
theorem qNV (h:VR F) {p q:Int} (h1: -2000<=p/\p<=2000) (h2: -2000<=q/\q<=2000):NN F p q=some (strR F p q):=by
 unfold VR at h;unfold NN strR;rw[qK (n:=F.Y.A+p) (by omega),qK (n:=F.Y.A+q) (by omega)]
theorem q1R (h:VE l ds ps F w t) {p q:Int} (h1:0<=p) (h2:p<q) (h3:q<=hei F):VE l ds ps (strR F p q) w t:=by
 have hr:=h.vr;unfold VR at hr;unfold hei at h3;refine⟨h.sol,h.dl,h.dd,h.pr,h.vw,⟨hr.1,?_,?_,?_⟩⟩<;>(unfold strR;simp only;omega)
def hasB (n:List Node):Bool:=n.any (λx=>x.Kind==1)
theorem hasB_eq (n:List Node) (hl:n.length<=1000000):NY n=some (hasB n):=by
 unfold NY WJ YY;have key:∀(d i m:Nat),i+d=n.length->d<m->∃u,jO n m (i:Int)=some u/\(match u with| .inl v=>v≥0/\(n.drop i).any (λx=>x.Kind==1)=true| .inr _=>(n.drop i).any (λx=>x.Kind==1)=false):=by
  intro d
  induction d with
  |zero=>
   intro i m hi hm;obtain⟨m,rfl⟩:∃q,m=q+1:=⟨m-1,by omega⟩
   refine⟨.inr (),?_,?_⟩
   ·rw[jO,ka (by omega)];rfl
   ·rw[ug (by omega)];rfl
  |succ d ih=>
   intro i m hi hm;obtain⟨m,rfl⟩:∃q,m=q+1:=⟨m-1,by omega⟩
   rw[jO,kd (by omega),qU (by omega),qY (by omega)];unfold MM;simp only[kn,ko,ke];rw[VM n i (by omega)];cases hb:(n.getD i du).Kind==1 with
   |true=>exact⟨.inl (i:Int),rfl,by omega,by rw[List.any_cons,hb];rfl⟩
   |false=>
    obtain⟨u,e,hu⟩:=ih (i+1) m (by omega) (by omega);refine⟨u,e,?_⟩;cases u with
    |inl v=>exact⟨hu.1,by rw[List.any_cons,hb];exact hu.2⟩
    |inr v=>show(_::_).any _=false;rw[List.any_cons,hb];exact hu
 obtain⟨u,e,hu⟩:=key n.length 0 FUEL (by omega) (by rw[jF];omega);rw[gc] at hu;rw[show((0:Nat):Int)=0 from rfl] at e;rw[e];unfold hasB;cases u with
 |inl v=>simp only[ke,Sum.elim_inl];rw[kd hu.1,hu.2]
 |inr v=>simp only[ke,Sum.elim_inr];rw[hu];rfl
noncomputable def stG (l:List qC) (ds:List qF) (ps:List Product) (F:Rect) (w:Saw) (t:Rates) (h:Int) (p:Nat):Int×List Node:=
 if(p:Int) % w.Pitch=0 then
  (if(jR l ds ps (strR F p (p+h)) w t).2.2=0/\hasB (jR l ds ps (strR F p (p+h)) w t).1=true then((jR l ds ps (strR F p (p+h)) w t).2.1,(jR l ds ps (strR F p (p+h)) w t).1) else(-1,[]))
 else(-1,[])
theorem qSx (l:List qC) (ds:List qF) (ps:List Product) (r:Rect) (w:Saw) (t:Rates):(jR l ds ps r w t).1.length<=127:=by
 unfold jR qI2;split
 ·split
  ·rename_i h;exact h
  ·simp
 ·simp
def nRow (F:Rect) (h:Int):Nat:=(hei F-h+1).toNat
theorem qPS {ps:List Product} (h:wI ps=0) {x:Int} (hx:x∈hts ps):5<=x/\x<=721:=by
 rw[qYs h,q0X] at hx;obtain⟨i,hi,e⟩:=hx;have g:=qTq (qOd h hi);rcases e with rfl|rfl<;>omega
theorem qYW (h:VE l ds ps F w t) {j:Nat} (hj:j<(hts ps).length):
  QC l ds ps F w t (hts ps) (j:Int) FUEL [] [] 0=some ((List.range (nRow F ((hts ps).getD j du))).map (λp=>(stG l ds ps F w t ((hts ps).getD j du) p).1),(List.range (nRow F ((hts ps).getD j du))).map (λp=>(stG l ds ps F w t ((hts ps).getD j du) p).2)):=by
 have hb:=qPS h.pr (jE hj);have hr:=h.vr;have hr':=hr;unfold VR at hr';have hp:=h.vw.pitch;generalize hsz:(hts ps).getD j du=sz at*;have k:=zR (nRow F sz) (λn (s:List Int×List (List Node)) x=>QC l ds ps F w t (hts ps) (j:Int) n s.1 s.2 x) (λx s=>(s.1++[(stG l ds ps F w t sz x).1],s.2++[(stG l ds ps F w t sz x).2])) (λs=>s)
  (λx s=>s=((List.range x).map (λp=>(stG l ds ps F w t sz p).1),(List.range x).map (λp=>(stG l ds ps F w t sz p).2))) 0 (by omega) (by unfold nRow hei;omega)
  (λn x s hx hs=>by
   unfold nRow hei at hx;have hl1:s.1.length=x:=by rw[hs];simp
   have hl2:s.2.length=x:=by rw[hs];simp
   refine⟨?_,by rw[hs,kW,kH,kH];rfl⟩;rw[QC];unfold qBb HP;simp only[ko,hsz];rw[qK (n:=(x:Int)+sz) (by omega),qK (n:=F.Y.B-F.Y.A) (by omega),kd (by omega),nz_t (by omega),qNV hr (by omega) (by omega),wO (by omega),wO (by omega),qY (by omega)];simp only[kn,ke,qXp];rw[hasB_eq _ (by have:=qSx l ds ps (strR F x (x+sz)) w t;omega)];have em:Int.tmod (x:Int) w.Pitch=(x:Int) % w.Pitch:=uM (by omega);rw[em];unfold stG;simp only[ke];by_cases c:(x:Int) % w.Pitch=0
   ·rw[if_pos c,c];simp only[ut,kn];by_cases c2:(jR l ds ps (strR F x (x+sz)) w t).2.2=0
    ·have c2':((jR l ds ps (strR F x (x+sz)) w t).2.2==0)=true:=by simpa using c2
     rw[c2',kn];cases hbb:hasB (jR l ds ps (strR F x (x+sz)) w t).1 with
     |true=>rw[if_pos ⟨c2,rfl⟩];rfl
     |false=>rw[if_neg (by simp)];rfl
    ·have c2':((jR l ds ps (strR F x (x+sz)) w t).2.2==0)=false:=by simpa using c2
     rw[c2',kp,if_neg (λhh=>c2 hh.1)];simp only[kp]
   ·rw[if_neg c,show((x:Int) % w.Pitch==0)=false by rw[kL];exact c];simp only[kp])
  (λn s _=>by
   rw[QC];simp only[ko,hsz];unfold nRow hei;rw[qK (n:=F.Y.B-F.Y.A) (by omega),qK (n:=_+sz) (by omega),ka (by omega)];rfl) ([],[]) rfl
 have k1:=k.1;rw[k.2] at k1;exact k1
noncomputable def zP (l:List qC) (ds:List qF) (ps:List Product) (F:Rect) (w:Saw) (t:Rates):Line:=
 ⟨hei F,w.Kerf,1,hts ps,(List.range (hts ps).length).map (λj=>(List.range (nRow F ((hts ps).getD j du))).map (λp=>(stG l ds ps F w t ((hts ps).getD j du) p).1)),
  (List.range (hei F).toNat).map (λp:Nat=>t.Chip*zD l (strR F p (p+1))),(List.range (hei F).toNat).map (λp:Nat=>t.Dust*zD l (strR F p (p+1)))⟩
noncomputable def qDj (l:List qC) (ds:List qF) (ps:List Product) (F:Rect) (w:Saw) (t:Rates):List (List (List Node)):=
 (List.range (hts ps).length).map (λj=>(List.range (nRow F ((hts ps).getD j du))).map (λp=>(stG l ds ps F w t ((hts ps).getD j du) p).2))
theorem qQG (h:VSol l) (r:Rect):FV l r=some (zD l r):=by
 unfold FV;rw[(YA l).1,KF h];simp only[ke,qBY h];rfl
theorem qXx (h:VE l ds ps F w t):qDi l ds ps F w t=some (zP l ds ps F w t,qDj l ds ps F w t):=by
 have hr:=h.vr;have hr':=hr;unfold VR at hr';have hh:=qSd ps;unfold qDi;rw[qQL];simp only[ke];have k1:=zR (hts ps).length (λn (s:List (List (List Node))×List (List Int)) x=>GQ l ds ps F w t (hts ps) n s.1 x s.2) (λj s=>(s.1++[(List.range (nRow F ((hts ps).getD j du))).map (λp=>(stG l ds ps F w t ((hts ps).getD j du) p).2)],s.2++[(List.range (nRow F ((hts ps).getD j du))).map (λp=>(stG l ds ps F w t ((hts ps).getD j du) p).1)])) (λs=>s)
  (λx s=>s=((List.range x).map (λj=>(List.range (nRow F ((hts ps).getD j du))).map (λp=>(stG l ds ps F w t ((hts ps).getD j du) p).2)),(List.range x).map (λj=>(List.range (nRow F ((hts ps).getD j du))).map (λp=>(stG l ds ps F w t ((hts ps).getD j du) p).1)))) 0 (by omega) (by omega)
  (λn x s hx hs=>by
   have hl1:s.1.length=x:=by rw[hs];simp
   have hl2:s.2.length=x:=by rw[hs];simp
   refine⟨?_,by rw[hs,kW,kH,kH];rfl⟩;rw[GQ,kd (by omega),qU (by omega),qYW h hx,wO (by omega),wO (by omega),qY (by omega)];rfl)
  (λn s _=>by rw[GQ,ka (by omega)];rfl) ([],[]) rfl
 have e1:=k1.1;rw[k1.2] at e1;have k2:=zR (hei F).toNat (λn (s:List Int×List Int) x=>GW l F t n x s.1 s.2) (λp s=>(s.1++[t.Chip*zD l (strR F p (p+1))],s.2++[t.Dust*zD l (strR F p (p+1))])) (λs=>s)
  (λx s=>s=((List.range x).map (λp=>t.Chip*zD l (strR F (p:Nat) ((p:Nat)+1))),(List.range x).map (λp=>t.Dust*zD l (strR F (p:Nat) ((p:Nat)+1))))) 0 (by omega) (by unfold hei;omega)
  (λn x s hx hs=>by
   unfold hei at hx;have hl1:s.1.length=x:=by rw[hs];simp
   have hl2:s.2.length=x:=by rw[hs];simp
   refine⟨?_,by rw[hs,kW,kH,kH];rfl⟩;have wb:=qEL h.sol (strR F x (x+1));have m1:=jL (a:=t.Chip) (b:=zD l (strR F x (x+1))) (m:=1000) (n:=28800000000) (by have:=h.vw.chip;omega) (by have:=h.vw.chip;omega) (by omega) wb.2 (by omega) (by omega);have m2:=jL (a:=t.Dust) (b:=zD l (strR F x (x+1))) (m:=1000) (n:=28800000000) (by have:=h.vw.dust;omega) (by have:=h.vw.dust;omega) (by omega) wb.2 (by omega) (by omega);rw[GW,qK (n:=F.Y.B-F.Y.A) (by omega),kd (by omega),qK (n:=(x:Int)+1) (by omega),qNV hr (by omega) (by omega),wO (by omega),wO (by omega)];simp only[kn,ke,qQG h.sol]
   rw[qK (n:=t.Chip*_) (by omega),qK (n:=t.Dust*_) (by omega)];rfl)
  (λn s _=>by
   rw[GW,qK (n:=F.Y.B-F.Y.A) (by omega)];unfold hei;rw[ka (by omega)];rfl) ([],[]) rfl
 have e2:=k2.1;rw[k2.2] at e2;rw[show((0:Nat):Int)=0 from rfl] at e1 e2;rw[e1];simp only[ke];rw[e2,qK (n:=F.Y.B-F.Y.A) (by omega)];rfl
end Go.SL.Saw

namespace Go.SL.Saw
theorem qPk :∀{a b:List Int},a.Pairwise (·<·)->b.Pairwise (·<·)->(∀x,x∈a↔x∈b)->a=b
 |[],[],_,_,_=>rfl
 |[],y::b,_,_,h=>by have:=(h y).2 kK;cases this
 |x::a,[],_,_,h=>by have:=(h x).1 kK;cases this
 |x::a,y::b,ha,hb,h=>by
  obtain⟨a1,a2⟩:=kZ.1 ha;obtain⟨b1,b2⟩:=kZ.1 hb;have e:x=y:=by
   rcases kO.1 ((h x).1 kK) with e|e
   ·exact e
   ·rcases kO.1 ((h y).2 kK) with f|f
    ·exact f.symm
    ·have:=b1 x e;have:=a1 y f;omega
  subst e;rw[qPk a2 b2 λz=>⟨λhz=>?_,λhz=>?_⟩]
  ·rcases kO.1 ((h z).1 (kM _ hz)) with e|e
   ·have:=a1 z hz;omega
   ·exact e
  ·rcases kO.1 ((h z).2 (kM _ hz)) with e|e
   ·have:=b1 z hz;omega
   ·exact e
def insI (n:Int):List Int->List Int
 |[]=>[n]
 |x::r=>if x<n then x::insI n r else if x=n then x::r else n::x::r
theorem insI_mem (n:Int):∀(l:List Int) (x:Int),x∈insI n l↔x=n\/x∈l
 |[],x=>by simp[insI]
 |y::r,x=>by
  unfold insI;split
  ·rw[kO,insI_mem n r,kO,or_left_comm]
  ·split
   ·rename_i h;subst h;rw[kO];simp
   ·rw[kO]
theorem qG4 (n:Int):∀(l:List Int),l.Pairwise (·<·)->(insI n l).Pairwise (·<·)
 |[],_=>by simp[insI]
 |y::r,h=>by
  obtain⟨h1,h2⟩:=kZ.1 h;unfold insI;split
  ·rename_i c;refine kZ.2 ⟨λx hx=>?_,qG4 n r h2⟩;rcases(insI_mem n r x).1 hx with e|e
   ·omega
   ·exact h1 x e
  ·split
   ·exact h
   ·refine kZ.2 ⟨λx hx=>?_,h⟩;rcases kO.1 hx with e|e
    ·omega
    ·have:=h1 x e;omega
theorem qNR (n:Int):∀(l:List Int),(insI n l).length<=l.length+1
 |[]=>by simp[insI]
 |y::r=>by
  have:=qNR n r;unfold insI;split
  ·simp;omega
  ·split<;>simp
theorem qMA :∀(l:List Int),l.Pairwise (·<=·)->(comp l).Pairwise (·<·)
 |[],_=>List.Pairwise.nil
 |[a],_=>by simp[comp]
 |a::b::l,h=>by
  obtain⟨h1,h2⟩:=kZ.1 h;have ih:=qMA (b::l) h2;show(if a=b then comp (b::l) else a::comp (b::l)).Pairwise _;split
  ·exact ih
  ·rename_i c;refine kZ.2 ⟨λx hx=>?_,ih⟩;have hx':=(qOs (b::l) x).1 hx;have hb:=h1 b kK;rcases kO.1 hx' with e|e
   ·omega
   ·have:=(kZ.1 h2).1 x e;omega
def insG :List Product->List Int->List Int
 |[],s=>s
 |p::l,s=>insG l (insI (qZ p).2 (insI (qZ p).1 s))
theorem qW1 :∀(l:List Product) (s:List Int) (x:Int),x∈insG l s↔x∈s\/x∈allG l
 |[],s,x=>by simp[insG,allG]
 |p::l,s,x=>by
  unfold insG allG;rw[qW1 l,insI_mem,insI_mem];unfold allG;simp only[uW,List.mem_append,kO,uQ,or_false];constructor
  ·rintro((h|h|h)|h)
   ·exact .inr (.inl (.inr h))
   ·exact .inr (.inl (.inl h))
   ·exact .inl h
   ·exact .inr (.inr h)
  ·rintro(h|(h|h)|h)
   ·exact .inl (.inr (.inr h))
   ·exact .inl (.inr (.inl h))
   ·exact .inl (.inl h)
   ·exact .inr h
theorem qMz :∀(l:List Product) (s:List Int),s.Pairwise (·<·)->(insG l s).Pairwise (·<·)
 |[],s,h=>h
 |p::l,s,h=>qMz l _ (qG4 _ _ (qG4 _ _ h))
theorem q1q {ps:List Product} (h:wI ps=0):insG ps []=hts ps:=by
 refine qPk (qMz ps [] List.Pairwise.nil) ?_ λx=>?_
 ·unfold hts;rw[if_pos h];apply qMA;have:=qFj (le:=λx y:Int=>decide (x<=y)) (λx y z h1 h2=>by simp at*;omega) (λx y=>by simp;omega) (allG ps);exact this.imp λh=>by simpa using h
 ·rw[qW1,qYs h];simp
end Go.SL.Saw

namespace Go.SL.Saw
variable {s :List qC} {d:List qF} {p:List Product} {pt:qN} {w:Saw} {t:Rates}
theorem brd_trm (_hs:VSol s) {trim:Int} (ht:0<=trim) {c:zV} (hc:qOG s c):brdV s c+trmV s trim c<=zD s ⟨c.Box.X,c.Box.Y⟩:=by
 obtain⟨z1,z2,z3⟩:=hc.z;unfold brdV trmV qKB qOZ zD;have m1:=jN 0 (c.Box.Z.A-trim);have m2:=imin_or (c.Box.Z.B+trim) (solLen s);have e1:=qQt s c.Box.X c.Box.Y (A:=imax 0 (c.Box.Z.A-trim)) (m:=c.Box.Z.A) (B:=c.Box.Z.B) (by omega) (by omega);have e2:=qQt s c.Box.X c.Box.Y (A:=imax 0 (c.Box.Z.A-trim)) (m:=c.Box.Z.B) (B:=imin (c.Box.Z.B+trim) (solLen s)) (by omega) (by omega);have e3:=q1w s c.Box.X c.Box.Y (A:=imax 0 (c.Box.Z.A-trim)) (B:=imin (c.Box.Z.B+trim) (solLen s)) (C:=0) (D:=solLen s) (by omega) (by omega);have ez:c.Box.Z=⟨c.Box.Z.A,c.Box.Z.B⟩:=rfl;rw[ez];simp only;omega
theorem qX5 (hs:VSol s) (hp:wI p=0) {step fine trim:Int} (hf:0<=fine) (ht:0<=trim):∀{lv:List Leaf} {i:Nat},(∀x∈lv,qLa p x)->sumL (λc=>brdV s c+trmV s trim c) (bdsFrom s d p step fine i lv)<=sumL (λx=>zD s x.Rect) lv
 |[],_,_=>kT _
 |x::l,i,hg=>by
  have ih:=qX5 hs hp (step:=step) hf ht (i:=i+1) (λy hy=>hg y (kM _ hy));show sumL _ (bdOf s d p step fine i x++bdsFrom s d p step fine (i+1) l)<=_;rw[SG,ZB];have h1:sumL (λc=>brdV s c+trmV s trim c) (bdOf s d p step fine i x)<=zD s x.Rect:=by
   have hl:=qU0 (s:=s) (d:=d) (p:=p) step fine i x
   match hm:bdOf s d p step fine i x with
   |[]=>exact qVL _ _
   |[a]=>
    obtain⟨g,_,e3,e4,_⟩:=qU6 (s:=s) (d:=d) hp hf (hg x kK) (c:=a) (by rw[hm];exact kK);have:=brd_trm hs ht g;rw[e3,e4] at this;rw[ZB,qWJ];simp only[Int.add_zero];exact this
   |a::b::l=>rw[hm] at hl;simp at hl
  omega
theorem yC_nn (h:VY s d p pt w t):0<=yC s d p pt w t.Fine:=by
 have h1:=qX5 h.sol h.pr (d:=d) (step:=w.Step) (trim:=w.Trim) h.vw.fine.1 h.vw.trim.1 (i:=0) (qRQ h);rw[qWx] at h1;have h2:=h.parts.sum (zD s) (qKk s);have h3:=qIN h.sol pt.Frame;unfold yC yB yD qGE bds;omega
end Go.SL.Saw

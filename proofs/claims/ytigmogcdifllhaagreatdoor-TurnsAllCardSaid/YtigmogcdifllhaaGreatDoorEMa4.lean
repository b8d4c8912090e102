/- Poly's plain mathematics, part 19: edges that span a height. -/
import Derived.Test.YtigmogcdifllhaaGreatDoorEMa3
import Derived.Test.YtigmogcdifllhaaGreatDoorEMa2
set_option linter.unusedVariables false
set_option linter.unusedSimpArgs false
namespace Go.SL
namespace Saw
theorem qHe {n:Nat} {P:Nat->Prop} {i:Nat} (hi:i<n) (h0:P i) (hs:∀x,x<n->P x->P ((x+1) % n)):∀x,x<n->P x:=by
 have step:∀k,P ((i+k) % n):=by
  intro k
  induction k with
  |zero=>rw[ug,uW hi];exact h0
  |succ k ih=>
   have:=hs _ (kT _ (by omega)) ih;rw[gv] at this;exact this
 intro x hx;by_cases h:i<=x
 ·have:=step (x-i);rw[show i+(x-i)=x by omega,uW hx] at this;exact this
 ·have:=step (n-i+x);rw[show i+(n-i+x)=n+x by omega,Nat.add_mod_left,uW hx] at this;exact this
structure Cvx (H:List qA):Prop where
 n3:3<=H.length
 rg:∀p∈H,rng p
 lf:∀x,x<H.length->∀p∈H,0<=cross (Ep H x) (Eq' H x) p
 tn:∀x,x<H.length->0<cross (Ep H x) (Eq' H x) (Ep H ((x+2) % H.length))
theorem CY {H:List qA} {p:qA} (h:p∈H):∃x,x<H.length/\Ep H x=p:=by
 obtain⟨x,hx,e⟩:=uV.1 h;exact⟨x,hx,by rw[Ep,qIc hx];exact e⟩
theorem qK2 {H:List qA} (hc:Cvx H) (c:Int):¬∀p∈H,p.Y=c:=by
 intro h;have hn:=hc.n3;have t:=hc.tn 0 (by omega);have y0:=h (Ep H 0) (zK (by omega));have y1:=h (Eq' H 0) (zK (kT _ (by omega)));have y2:=h (Ep H ((0+2) % H.length)) (zK (kT _ (by omega)));unfold cross at t;rw[y0,y1,y2] at t;simp at t
theorem qOI {H:List qA} (hc:Cvx H) {y:Int} {a b:qA} (ha:a∈H) (hb:b∈H) (h1:a.Y<=y) (h2:y<=b.Y):∃j,j<H.length/\spU (Ep H j) (Eq' H j) y:=by
 refine Classical.byContradiction λhno=>?_;have no:∀j,j<H.length->¬spU (Ep H j) (Eq' H j) y:=λj hj hs=>hno ⟨j,hj,hs⟩;by_cases hlow:∃p∈H,p.Y<y
 ·obtain⟨p,hp,hpy⟩:=hlow;obtain⟨i,hi,e⟩:=CY hp;have:=qHe (P:=λx=>(Ep H x).Y<y) hi (by rw[e];exact hpy) (λx hx hx'=>by
   have h3:¬((Ep H x).Y<(Eq' H x).Y/\(Ep H x).Y<=y/\y<=(Eq' H x).Y):=no x hx;have h4:(Ep H x).Y<y:=hx';show(Eq' H x).Y<y;omega)
  obtain⟨k,hk,e'⟩:=CY hb;have:=this k hk;simp only[e'] at this;omega
 ·have hall:∀p∈H,y<=p.Y:=λp hp=>by
   rcases Int.lt_or_le p.Y y with h|h
   ·exact absurd ⟨p,hp,h⟩ hlow
   ·exact h
  have hay:a.Y=y:=by have:=hall a ha;omega
  obtain⟨i,hi,e⟩:=CY ha;have:=qHe (P:=λx=>(Ep H x).Y=y) hi (by rw[e];exact hay) (λx hx hx'=>by
   have h3:¬((Ep H x).Y<(Eq' H x).Y/\(Ep H x).Y<=y/\y<=(Eq' H x).Y):=no x hx;have h4:y<=(Eq' H x).Y:=hall (Eq' H x) (zK (kT _ (by omega)));have h5:(Ep H x).Y=y:=hx';show(Eq' H x).Y=y;omega)
  refine qK2 hc y (λp hp=>?_);obtain⟨k,hk,e'⟩:=CY hp;rw[<-e'];exact this k hk
theorem qOr {H:List qA} (hc:Cvx H) {y:Int} {a b:qA} (ha:a∈H) (hb:b∈H) (h1:a.Y<=y) (h2:y<=b.Y):∃j,j<H.length/\spD (Ep H j) (Eq' H j) y:=by
 refine Classical.byContradiction λhno=>?_;have no:∀j,j<H.length->¬spD (Ep H j) (Eq' H j) y:=λj hj hs=>hno ⟨j,hj,hs⟩;by_cases hhi:∃p∈H,y<p.Y
 ·obtain⟨p,hp,hpy⟩:=hhi;obtain⟨i,hi,e⟩:=CY hp;have:=qHe (P:=λx=>y<(Ep H x).Y) hi (by rw[e];exact hpy) (λx hx hx'=>by
   have h3:¬((Eq' H x).Y<(Ep H x).Y/\(Eq' H x).Y<=y/\y<=(Ep H x).Y):=no x hx;have h4:y<(Ep H x).Y:=hx';show y<(Eq' H x).Y;omega)
  obtain⟨k,hk,e'⟩:=CY ha;have:=this k hk;simp only[e'] at this;omega
 ·have hall:∀p∈H,p.Y<=y:=λp hp=>by
   rcases Int.lt_or_le y p.Y with h|h
   ·exact absurd ⟨p,hp,h⟩ hhi
   ·exact h
  have hby:b.Y=y:=by have:=hall b hb;omega
  obtain⟨i,hi,e⟩:=CY hb;have:=qHe (P:=λx=>(Ep H x).Y=y) hi (by rw[e];exact hby) (λx hx hx'=>by
   have h3:¬((Eq' H x).Y<(Ep H x).Y/\(Eq' H x).Y<=y/\y<=(Ep H x).Y):=no x hx;have h4:(Eq' H x).Y<=y:=hall (Eq' H x) (zK (kT _ (by omega)));have h5:(Ep H x).Y=y:=hx';show(Eq' H x).Y=y;omega)
  refine qK2 hc y (λp hp=>?_);obtain⟨k,hk,e'⟩:=CY hp;rw[<-e'];exact this k hk
theorem no_bad {H:List qA} (hc:Cvx H) {y:Int} {a b:qA} (ha:a∈H) (hb:b∈H) (h1:a.Y<=y) (h2:y<=b.Y) {j:Nat} (hj:j<H.length):¬bad (Ep H j) (Eq' H j) y:=by
 rintro⟨n1,n2,n3⟩;have la:=hc.lf j hj a ha;have lb:=hc.lf j hj b hb;generalize Ep H j=p at*;generalize Eq' H j=q at*;have hy:q.Y-p.Y=0:=by omega
 unfold cross at la lb;rw[hy,Int.mul_zero] at la lb;rcases Int.lt_trichotomy (q.X-p.X) 0 with h|h|h
 ·have:0<=(q.X-p.X)*(y-b.Y):=by
   have:=ky (show 0<=-(q.X-p.X) by omega) (show 0<=b.Y-y by omega);have e: -(q.X-p.X)*(b.Y-y)=(q.X-p.X)*(y-b.Y):=by grind
   omega
  have e:(q.X-p.X)*(y-p.Y)=(q.X-p.X)*(y-b.Y)+(q.X-p.X)*(b.Y-p.Y):=by grind
  omega
 ·rw[h] at n3;simp at n3
 ·have:0<=(q.X-p.X)*(y-a.Y):=ky (by omega) (by omega);have e:(q.X-p.X)*(y-p.Y)=(q.X-p.X)*(y-a.Y)+(q.X-p.X)*(a.Y-p.Y):=by grind
  omega
theorem qWm {p q:qA} {y:Int} (hp:rng p) (hq:rng q) (h:spU p q y):upB p q y<=600:=by
 refine Classical.byContradiction λhn=>?_;have hb:=(qCj h.1 601 y).1 (by omega);unfold cross at hb;simp only at hb;have e:(q.X-p.X)*(y-p.Y)-(601-p.X)*(q.Y-p.Y)= -((601-q.X)*(y-p.Y))-(601-p.X)*(q.Y-y):=by grind
 have a1:=ky (show 0<=601-q.X by omega) (show 0<=y-p.Y by omega);have a2:=ky (show 0<=601-p.X by omega) (show 0<=q.Y-y by omega);rcases kae (show 0<=y-p.Y by omega) with h3|h3
 ·have:=gz (show 0<601-q.X by omega) h3;omega
 ·have:=gz (show 0<601-p.X by omega) (show 0<q.Y-y by omega);omega
theorem qWg {p q:qA} {y:Int} (hp:rng p) (hq:rng q) (h:spD p q y): -600<=dnB p q y:=by
 refine Classical.byContradiction λhn=>?_;have hb:=(qCr h.1 (-601) y).1 (by omega);unfold cross at hb;simp only at hb;have e:(q.X-p.X)*(y-p.Y)-(-601-p.X)*(q.Y-p.Y)= -((601+q.X)*(p.Y-y))-(601+p.X)*(y-q.Y):=by grind
 have a1:=ky (show 0<=601+q.X by omega) (show 0<=p.Y-y by omega);have a2:=ky (show 0<=601+p.X by omega) (show 0<=y-q.Y by omega);rcases kae (show 0<=p.Y-y by omega) with h3|h3
 ·have:=gz (show 0<601+q.X by omega) h3;omega
 ·have:=gz (show 0<601+p.X by omega) (show 0<y-q.Y by omega);omega
theorem qQZ {a b:Int} (h:∀X,X<=a↔X<=b):a=b:=by have h1:=(h a).1 (kM _);have h2:=(h b).2 (kM _);omega
theorem qR6 {a b:Int} (h:∀X,a<=X↔b<=X):a=b:=by have h1:=(h a).1 (kM _);have h2:=(h b).2 (kM _);omega
theorem qUx {H:List qA} (hc:Cvx H) {y:Int} {a b:qA} (ha:a∈H) (hb:b∈H) (h1:a.Y<=y) (h2:y<=b.Y) (r:Int×Int):rS H y 0 H.length (-600,600)= .inr (pS H y 0 H.length r):=by
 have hn:=hc.n3;have mq:∀j,Eq' H j∈H:=λj=>zK (kT _ (by omega));have mp:∀j,j<H.length->Ep H j∈H:=λj hj=>zK hj;rcases rS_spec H y H.length 0 (-600,600) with⟨⟨j,_,j2,j3⟩,_⟩|⟨_,r',e,g1,g2⟩
 ·exact absurd j3 (no_bad hc ha hb h1 h2 (by omega))
 rw[e]
 congr 1
 refine Prod.ext ?_ ?_
 ·rcases pS_dn H y H.length 0 r with⟨_,h⟩|⟨j,_,j2,j3,j4⟩
  ·obtain⟨j,hj,hs⟩:=qOr hc ha hb h1 h2;exact absurd hs (h j (by omega) (by omega))
  ·have hj:j<H.length:=by omega
   rw[j4];refine qR6 (λX=>?_);rw[g1 X];refine⟨λh=>h.2 j (by omega) j2 j3.1,λh=>⟨uY (qWg (hc.rg _ (mp j hj)) (hc.rg _ (mq j)) j3) h,λk k1 k2 k3=>uY (dn_dn j3.1 j3.2.1 j3.2.2 k3 (hc.lf k (by omega) _ (mp j hj)) (hc.lf k (by omega) _ (mq j))) h⟩⟩
 ·rcases pS_up H y H.length 0 r with⟨_,h⟩|⟨j,_,j2,j3,j4⟩
  ·obtain⟨j,hj,hs⟩:=qOI hc ha hb h1 h2;exact absurd hs (h j (by omega) (by omega))
  ·have hj:j<H.length:=by omega
   rw[j4];refine qQZ (λX=>?_);rw[g2 X];refine⟨λh=>h.2 j (by omega) j2 j3.1,λh=>⟨uY h (qWm (hc.rg _ (mp j hj)) (hc.rg _ (mq j)) j3),λk k1 k2 k3=>uY h (up_up j3.1 j3.2.1 j3.2.2 k3 (hc.lf k (by omega) _ (mp j hj)) (hc.lf k (by omega) _ (mq j)))⟩⟩
theorem out_key {u v z:qA} {X y:Int} (h1:0<=cross u v ⟨X,y⟩) (h2:0<=cross v z ⟨X,y⟩) (h3:0<cross u v z):¬((v.Y<u.Y/\v.Y<z.Y/\y<v.Y)\/(u.Y<v.Y/\z.Y<v.Y/\v.Y<y)):=by
 have key:cross u v z*(v.Y-y)= -(cross u v ⟨X,y⟩*(z.Y-v.Y))-cross v z ⟨X,y⟩*(u.Y-v.Y):=by unfold cross;grind
 rintro(⟨a1,a2,a3⟩|⟨a1,a2,a3⟩)
 ·have b1:=gz h3 (show 0<v.Y-y by omega);have b2:=ky h1 (show 0<=z.Y-v.Y by omega);have b3:=ky h2 (show 0<=u.Y-v.Y by omega);omega
 ·have b1:=gz h3 (show 0<y-v.Y by omega);have b2:=ky h1 (show 0<=v.Y-z.Y by omega);have b3:=ky h2 (show 0<=v.Y-u.Y by omega);have e1:cross u v z*(y-v.Y)= -(cross u v z*(v.Y-y)):=by grind
  have e2:cross u v ⟨X,y⟩*(v.Y-z.Y)= -(cross u v ⟨X,y⟩*(z.Y-v.Y)):=by grind
  have e3:cross v z ⟨X,y⟩*(v.Y-u.Y)= -(cross v z ⟨X,y⟩*(u.Y-v.Y)):=by grind
  omega
theorem qWI {H:List qA} (hc:Cvx H) (c:Int) (hm:∃p∈H,p.Y=c):∃x,x<H.length/\(Ep H x).Y≠c/\(Eq' H x).Y=c:=by
 refine Classical.byContradiction λhno=>?_;have no:∀x,x<H.length->(Ep H x).Y≠c->(Eq' H x).Y≠c:=λx hx h1 h2=>hno ⟨x,hx,h1,h2⟩;have hne:∃p∈H,p.Y≠c:=Classical.byContradiction λh=>qK2 hc c (λp hp=>Classical.byContradiction λh'=>h ⟨p,hp,h'⟩);obtain⟨p,hp,hpc⟩:=hne;obtain⟨i,hi,e⟩:=CY hp;have:=qHe (P:=λx=>(Ep H x).Y≠c) hi (by rw[e];exact hpc) (λx hx h=>no x hx h);obtain⟨q,hq,hqc⟩:=hm;obtain⟨k,hk,e'⟩:=CY hq;exact this k hk (by rw[e'];exact hqc)
theorem nxt_ix {H:List qA} (hc:Cvx H) {x:Nat} (hx:x<H.length):Ep H ((x+1) % H.length)=Eq' H x/\Eq' H ((x+1) % H.length)=Ep H ((x+2) % H.length):=by
 refine⟨rfl,?_⟩;show H.getD (((x+1) % H.length+1) % H.length) daa=H.getD ((x+2) % H.length) daa;rw[gv]
theorem qLA {H:List qA} (hc:Cvx H) {y:Int} (hy:(∀p∈H,y<p.Y)\/(∀p∈H,p.Y<y)) (hnb:∀j,j<H.length->¬bad (Ep H j) (Eq' H j) y) (X:Int):¬∀j,j<H.length->0<=cross (Ep H j) (Eq' H j) ⟨X,y⟩:=by
 intro hall;have hn:=hc.n3;have mp:∀j,j<H.length->Ep H j∈H:=λj hj=>zK hj
 -- an extreme corner
 have ext:∃c,(∃p∈H,p.Y=c)/\((y<c/\∀p∈H,c<=p.Y)\/(c<y/\∀p∈H,p.Y<=c)):=by
  have gen:∀l:List qA,l≠[]->(∃p∈l,∀q∈l,p.Y<=q.Y)/\(∃p∈l,∀q∈l,q.Y<=p.Y):=by
   intro l
   induction l with
   |nil=>intro h;exact absurd rfl h
   |cons a l ih=>
    intro _;by_cases hl:l=[]
    ·subst hl;exact⟨⟨a,by simp,by simp⟩,⟨a,by simp,by simp⟩⟩
    ·obtain⟨⟨p,hp,h1⟩,q,hq,h2⟩:=ih hl;constructor
     ·by_cases h:a.Y<=p.Y
      ·refine⟨a,by simp,λr hr=>?_⟩;rcases kN.1 hr with rfl|hr
       ·exact kM _
       ·exact uY h (h1 r hr)
      ·refine⟨p,kD _ hp,λr hr=>?_⟩;rcases kN.1 hr with rfl|hr
       ·omega
       ·exact h1 r hr
     ·by_cases h:q.Y<=a.Y
      ·refine⟨a,by simp,λr hr=>?_⟩;rcases kN.1 hr with rfl|hr
       ·exact kM _
       ·exact uY (h2 r hr) h
      ·refine⟨q,kD _ hq,λr hr=>?_⟩;rcases kN.1 hr with rfl|hr
       ·omega
       ·exact h2 r hr
  obtain⟨⟨p,hp,h1⟩,q,hq,h2⟩:=gen H (λe=>by rw[e] at hn;simp at hn);rcases hy with hy|hy
  ·exact⟨p.Y,⟨p,hp,rfl⟩,.inl ⟨hy p hp,h1⟩⟩
  ·exact⟨q.Y,⟨q,hq,rfl⟩,.inr ⟨hy q hq,h2⟩⟩
 obtain⟨c,hcm,hce⟩:=ext;obtain⟨x,hx,x1,x2⟩:=qWI hc c hcm;have hx':(x+1) % H.length<H.length:=kT _ (by omega);have hx2:(x+2) % H.length<H.length:=kT _ (by omega);obtain⟨i1,i2⟩:=nxt_ix hc hx;have c1:=hall x hx;have c2:=hall _ hx';have nb:=hnb _ hx';have t:=hc.tn x hx;have mu:=mp x hx;have mz:=mp _ hx2;rw[i1,i2] at c2 nb;generalize Ep H x=u at*;generalize Eq' H x=v at*;generalize Ep H ((x+2) % H.length)=z at*;have key:=out_key c1 c2 t;rcases hce with⟨y1,y2⟩|⟨y1,y2⟩
 ·have yu:=y2 u mu;have yz:=y2 z mz;by_cases hz:z.Y=v.Y
  ·refine nb ⟨by omega,by omega,?_⟩;have e:cross u v z=(u.Y-v.Y)*(z.X-v.X):=by unfold cross;rw[hz];grind
   rw[e] at t;have hp:0<z.X-v.X:=by
    refine Classical.byContradiction λh=>?_;have:=ky (show 0<=u.Y-v.Y by omega) (show 0<=-(z.X-v.X) by omega);rw[Int.mul_neg] at this;omega
   have:=gz hp (show 0<v.Y-y by omega);have e2:(z.X-v.X)*(y-v.Y)= -((z.X-v.X)*(v.Y-y)):=by grind
   omega
  ·exact key (.inl ⟨by omega,by omega,by omega⟩)
 ·have yu:=y2 u mu;have yz:=y2 z mz;by_cases hz:z.Y=v.Y
  ·refine nb ⟨by omega,by omega,?_⟩;have e:cross u v z=(v.Y-u.Y)*(v.X-z.X):=by unfold cross;rw[hz];grind
   rw[e] at t;have hp:0<v.X-z.X:=by
    refine Classical.byContradiction λh=>?_;have:=ky (show 0<=v.Y-u.Y by omega) (show 0<=-(v.X-z.X) by omega);rw[Int.mul_neg] at this;omega
   have:=gz hp (show 0<y-v.Y by omega);have e2:(z.X-v.X)*(y-v.Y)= -((v.X-z.X)*(y-v.Y)):=by grind
   omega
  ·exact key (.inr ⟨by omega,by omega,by omega⟩)
theorem qHm {a:List qA} (h:hull a≠[]):a.length<=32/\a.all inRange=true/\hull a=hullOf (srt a)/\¬(chainR (srt a)).length+(chainR (srt a).reverse).length<5:=by
 unfold hull at h⊢;by_cases h1:(a.length:Int)>32
 ·rw[ka h1] at h;exact absurd rfl h
 ·rw[ke h1] at h⊢;cases hr:a.all inRange with
  |false=>rw[hr] at h;exact absurd rfl h
  |true=>
   rw[hr] at h;simp only[kr,kp] at h⊢;refine⟨by omega,trivial,trivial,λh5=>h ?_⟩;unfold hullOf;rw[if_pos h5]
theorem qHO {a:List qA} {p:qA} (hp:p∈hull a):p∈a:=by
 have h:hull a≠[]:=λe=>by rw[e] at hp;cases hp
 obtain⟨_,_,e,h5⟩:=qHm h;rw[e] at hp;exact(qEC a p).1 ((qFB (qBS a) h5).2.1 p hp)
theorem hull_lf {a:List qA} {x:Nat} (hx:x<(hull a).length) {p:qA} (hp:p∈a):0<=cross (Ep (hull a) x) (Eq' (hull a) x) p:=by
 have h:hull a≠[]:=λe=>by rw[e] at hx;simp at hx
 obtain⟨_,_,e,h5⟩:=qHm h;rw[e] at hx⊢;exact(qFB (qBS a) h5).2.2 x hx p ((qEC a p).2 hp)
theorem BB {a:List qA} {p:qA} (hp:p∈hull a):rng p:=by
 have h:hull a≠[]:=λe=>by rw[e] at hp;cases hp
 obtain⟨_,hr,_,_⟩:=qHm h;exact qCD.1 (kB.1 hr p (qHO hp))
theorem qCg {a:List qA} (h:hull a≠[]):Cvx (hull a):=by
 obtain⟨_,_,e,h5⟩:=qHm h;refine⟨by rw[e];exact(qFB (qBS a) h5).1,λp hp=>BB hp,λx hx p hp=>hull_lf hx (qHO hp),λx hx=>?_⟩;rw[e] at hx⊢;exact qVe (qBS a) h5 x hx
def inH (H:List qA) (X y:Int):Prop:=∀j,j<H.length->0<=cross (Ep H j) (Eq' H j) ⟨X,y⟩
structure YB (H:List qA) (l h:Int):Prop where
 lo:∃p∈H,p.Y=l
 hi:∃p∈H,p.Y=h
 all:∀p∈H,l<=p.Y/\p.Y<=h
theorem qKx :∀(l:List qA) (r:Rect),((l.foldl VJ r).Y.A=r.Y.A\/∃p∈l,p.Y=(l.foldl VJ r).Y.A)/\((l.foldl VJ r).Y.B=r.Y.B\/∃p∈l,p.Y=(l.foldl VJ r).Y.B)/\(l.foldl VJ r).Y.A<=r.Y.A/\r.Y.B<=(l.foldl VJ r).Y.B/\∀p∈l,(l.foldl VJ r).Y.A<=p.Y/\p.Y<=(l.foldl VJ r).Y.B
 |[],r=>⟨.inl rfl,.inl rfl,kM _,kM _,λp hp=>by cases hp⟩
 |a::l,r=>by
  obtain⟨h1,h2,h3,h4,h5⟩:=qKx l (VJ r a);have eA:(VJ r a).Y.A=imin r.Y.A a.Y:=rfl;have eB:(VJ r a).Y.B=imax r.Y.B a.Y:=rfl;have mA:imin r.Y.A a.Y<=r.Y.A/\imin r.Y.A a.Y<=a.Y/\(imin r.Y.A a.Y=r.Y.A\/imin r.Y.A a.Y=a.Y):=by unfold imin;split<;>omega
  have mB:r.Y.B<=imax r.Y.B a.Y/\a.Y<=imax r.Y.B a.Y/\(imax r.Y.B a.Y=r.Y.B\/imax r.Y.B a.Y=a.Y):=by unfold imax;split<;>omega
  rw[eA] at h1 h3;rw[eB] at h2 h4;simp only[uR];refine⟨?_,?_,by omega,by omega,λp hp=>?_⟩
  ·rcases h1 with h1|⟨p,hp,e⟩
   ·rcases mA.2.2 with e|e
    ·exact .inl (h1.trans e)
    ·exact .inr ⟨a,by simp,by omega⟩
   ·exact .inr ⟨p,kD _ hp,e⟩
  ·rcases h2 with h2|⟨p,hp,e⟩
   ·rcases mB.2.2 with e|e
    ·exact .inl (h2.trans e)
    ·exact .inr ⟨a,by simp,by omega⟩
   ·exact .inr ⟨p,kD _ hp,e⟩
  ·rcases kN.1 hp with rfl|hp
   ·omega
   ·exact h5 p hp
theorem qDy {H:List qA} (h:H≠[]):YB H (bounds H).Y.A (bounds H).Y.B:=by
 cases H with
 |nil=>exact absurd rfl h
 |cons a l=>
  obtain⟨h1,h2,h3,h4,h5⟩:=qKx l (Rect.mk (Span.mk a.X a.X) (Span.mk a.Y a.Y));unfold bounds;simp only at h3 h4⊢;refine⟨?_,?_,λp hp=>?_⟩
  ·rcases h1 with h1|⟨p,hp,e⟩
   ·exact⟨a,by simp,h1.symm⟩
   ·exact⟨p,kD _ hp,e⟩
  ·rcases h2 with h2|⟨p,hp,e⟩
   ·exact⟨a,by simp,h2.symm⟩
   ·exact⟨p,kD _ hp,e⟩
  ·rcases kN.1 hp with rfl|hp
   ·exact⟨h3,h4⟩
   ·exact h5 p hp
def atS (H:List qA) (y:Int):Int×Int:=pS H y 0 H.length ((bounds H).X.A,(bounds H).X.B)
theorem qHM {p q:qA} (h1:¬p.Y<q.Y) (h2:¬q.Y<p.Y) (X y:Int):cross p q ⟨X,y⟩=(q.X-p.X)*(y-p.Y):=by
 have e:q.Y-p.Y=0:=by omega
 unfold cross;rw[e];simp
theorem qUy {H:List qA} (hc:Cvx H) {y:Int} (hy:(∀p∈H,y<p.Y)\/(∀p∈H,p.Y<y)):∃r:Int×Int,(rS H y 0 H.length (-600,600)= .inl r\/rS H y 0 H.length (-600,600)= .inr r)/\r.2<r.1:=by
 rcases rS_spec H y H.length 0 (-600,600) with⟨_,e⟩|⟨nb,r',e,g1,g2⟩
 ·exact⟨(1,0),.inl e,by decide⟩
 ·refine⟨r',.inr e,Classical.byContradiction λhn=>?_⟩;have k1:=(g1 r'.1).1 (kM _);have k2:=(g2 r'.1).1 (by omega);refine qLA hc hy (λj hj=>nb j (by omega) (by omega)) r'.1 (λj hj=>?_);by_cases c1:(Ep H j).Y<(Eq' H j).Y
  ·exact(qCj c1 _ _).1 (k2.2 j (by omega) (by omega) c1)
  ·by_cases c2:(Eq' H j).Y<(Ep H j).Y
   ·exact(qCr c2 _ _).1 (k1.2 j (by omega) (by omega) c2)
   ·have:=nb j (by omega) (by omega);rw[qHM c1 c2];refine Classical.byContradiction λh=>this ⟨c1,c2,by omega⟩
theorem qWQ {H:List qA} (hc:Cvx H) {lo hi:Int} (hb:YB H lo hi) {y:Int} (h1:lo<=y) (h2:y<=hi) (X:Int):((atS H y).1<=X/\X<=(atS H y).2)↔inH H X y:=by
 obtain⟨p,hp,ep⟩:=hb.lo;obtain⟨q,hq,eq⟩:=hb.hi;have be:=qUx hc hp hq (show p.Y<=y by omega) (show y<=q.Y by omega) ((bounds H).X.A,(bounds H).X.B);rcases rS_spec H y H.length 0 (-600,600) with⟨_,e⟩|⟨nb,r',e,g1,g2⟩
 ·rw[be] at e;cases e
 ·rw[be] at e;have e':atS H y=r':=Sum.inr.inj e;rw[e',g1 X,g2 X];constructor
  ·rintro⟨⟨_,k1⟩,_,k2⟩ j hj;by_cases c1:(Ep H j).Y<(Eq' H j).Y
   ·exact(qCj c1 _ _).1 (k2 j (by omega) (by omega) c1)
   ·by_cases c2:(Eq' H j).Y<(Ep H j).Y
    ·exact(qCr c2 _ _).1 (k1 j (by omega) (by omega) c2)
    ·have:=nb j (by omega) (by omega);rw[qHM c1 c2];refine Classical.byContradiction λh=>this ⟨c1,c2,by omega⟩
  ·intro hin;have hn:=hc.n3;have mq:∀j,Eq' H j∈H:=λj=>zK (kT _ (by omega));have mp:∀j,j<H.length->Ep H j∈H:=λj hj=>zK hj;obtain⟨u,hu,su⟩:=qOI hc hp hq (show p.Y<=y by omega) (show y<=q.Y by omega);obtain⟨d,hd,sd⟩:=qOr hc hp hq (show p.Y<=y by omega) (show y<=q.Y by omega);have b1:=qWm (hc.rg _ (mp u hu)) (hc.rg _ (mq u)) su;have b2:=qWg (hc.rg _ (mp d hd)) (hc.rg _ (mq d)) sd;have b3:=(qCj su.1 X y).2 (hin u hu);have b4:=(qCr sd.1 X y).2 (hin d hd)
   exact⟨⟨by show-600<=X;omega,λj j1 j2 j3=>(qCr j3 X y).2 (hin j (by omega))⟩,by show X<=600;omega,λj j1 j2 j3=>(qCj j3 X y).2 (hin j (by omega))⟩
theorem qMA {H:List qA} (hc:Cvx H) {lo hi:Int} (hb:YB H lo hi) {X y:Int} (h:inH H X y):lo<=y/\y<=hi:=by
 have nb:∀j,j<H.length->¬bad (Ep H j) (Eq' H j) y:=λj hj hb=>by
  have:=h j hj;rw[qHM hb.1 hb.2.1] at this;have:=hb.2.2;omega
 refine⟨Classical.byContradiction λhn=>?_,Classical.byContradiction λhn=>?_⟩
 ·exact qLA hc (.inl λp hp=>by have:=(hb.all p hp).1;omega) nb X h
 ·exact qLA hc (.inr λp hp=>by have:=(hb.all p hp).2;omega) nb X h
def QJ (a:List qA) (lo hi:Int):Span:=
 if hull a=[]\/hi<=lo\/lo<(bounds (hull a)).Y.A\/(bounds (hull a)).Y.B<hi then⟨0,0⟩
 else if imin (atS (hull a) lo).2 (atS (hull a) hi).2<=imax (atS (hull a) lo).1 (atS (hull a) hi).1 then⟨0,0⟩
 else⟨imax (atS (hull a) lo).1 (atS (hull a) hi).1,imin (atS (hull a) lo).2 (atS (hull a) hi).2⟩
theorem YB.rg {H:List qA} {lo hi:Int} (hb:YB H lo hi) (hr:∀p∈H,rng p): -600<=lo/\hi<=600:=by
 obtain⟨p,hp,ep⟩:=hb.lo;obtain⟨q,hq,eq⟩:=hb.hi;have h1:=hr p hp;have h2:=hr q hq;omega
theorem qMw (a:List qA):(hull a).length<=64:=by
 by_cases h:hull a=[]
 ·rw[h];simp
 ·have:=(qHm h).1;have:=qX2 a;omega
theorem qT0 {H:List qA} (hr:∀p∈H,rng p) {y:Int} (hy: -600<=y/\y<=600) (hl:H.length<=64):SU y (bounds H) H=some (atS H y):=by
 have:=qMM H y hr hy (by omega) H.length FUEL 0 ((bounds H).X.A,(bounds H).X.B) (by omega) (by rw[FUEL_eq];omega);unfold SU;rw[show((0:Nat):Int)=0 from rfl] at this;simp only at this;rw[this];rfl
theorem qSA (a:List qA) (lo hi:Int):qEg a lo hi=some (QJ a lo hi):=by
 have hl:=qMw a;unfold qEg VX QJ;rw[qTv];simp only[kg,(qWc (hull a) (by omega)).1];by_cases h0:hull a=[]
 ·rw[h0];simp
 have e0:(((hull a).length:Int)==0)=false:=by
  have:0<(hull a).length:=uq.2 h0;rw[kC];omega
 have hb:=qDy h0;have hbr:=hb.rg (λp hp=>BB hp);rw[e0];by_cases h1:hi<=lo
 ·rw[ka (show lo≥hi from h1),if_pos (.inr (.inl h1))];rfl
 rw[ke (show¬lo≥hi from h1)];by_cases h2:lo<(bounds (hull a)).Y.A
 ·rw[ka h2,if_pos (.inr (.inr (.inl h2)))];rfl
 rw[ke h2];by_cases h3:(bounds (hull a)).Y.B<hi
 ·rw[ka (show hi>(bounds (hull a)).Y.B from h3),if_pos (.inr (.inr (.inr h3)))];rfl
 rw[ke (show¬hi>(bounds (hull a)).Y.B from h3),if_neg (by simp only[h0,false_or];omega)];rw[qT0 (λp hp=>BB hp) (show-600<=lo/\lo<=600 by omega) hl,qT0 (λp hp=>BB hp) (show-600<=hi/\hi<=600 by omega) hl];simp only[kr,kg];by_cases h4:imin (atS (hull a) lo).2 (atS (hull a) hi).2<=imax (atS (hull a) lo).1 (atS (hull a) hi).1
 ·rw[ka (show _≥_ from h4),if_pos h4];rfl
 ·rw[ke (show¬_≥_ from h4),if_neg h4];rfl
theorem CU {H:List qA} (hr:∀p∈H,rng p) {y:Int} (hy: -600<=y/\y<=600) (hl:H.length<=64):∀r,(rS H y 0 H.length (-600,600)= .inl r\/rS H y 0 H.length (-600,600)= .inr r)->NU H y=some r:=by
 intro r h;have:=qKB H y hr hy (by omega) H.length FUEL 0 (-600) 600 (by omega) (by rw[FUEL_eq];omega);unfold NU;rw[show((0:Nat):Int)=0 from rfl] at this;rw[this];rcases h with h|h<;>rw[h]<;>rfl
theorem qTi (a:List qA) (lo hi:Int):qCZ a lo hi=some (QJ a lo hi):=by
 have hl:=qMw a;unfold qCZ UA QJ;rw[qVJ];simp only[kg];by_cases h0:hull a=[]
 ·rw[h0];simp
 have e0:(((hull a).length:Int)==0)=false:=by
  have:0<(hull a).length:=uq.2 h0;rw[kC];omega
 have hb:=qDy h0;have hbr:=hb.rg (λp hp=>BB hp);have hc:=qCg h0;rw[e0];by_cases h1:hi<=lo
 ·rw[ka (show lo≥hi from h1),if_pos (.inr (.inl h1))];rfl
 rw[ke (show¬lo≥hi from h1)];by_cases h2:lo< -600
 ·rw[ka h2,if_pos (.inr (.inr (.inl (by omega))))];rfl
 rw[ke h2];by_cases h3:600<hi
 ·rw[ka (show hi>600 from h3),if_pos (.inr (.inr (.inr (by omega))))];rfl
 rw[ke (show¬hi>600 from h3)];simp only[kr];have some_r:∀y,∃r,(rS (hull a) y 0 (hull a).length (-600,600)= .inl r\/rS (hull a) y 0 (hull a).length (-600,600)= .inr r):=λy=>by
  cases h:rS (hull a) y 0 (hull a).length (-600,600) with
  |inl r=>exact⟨r,.inl rfl⟩
  |inr r=>exact⟨r,.inr rfl⟩
 have inner:∀y,(bounds (hull a)).Y.A<=y->y<=(bounds (hull a)).Y.B->NU (hull a) y=some (atS (hull a) y):=λy y1 y2=>by
  obtain⟨p,hp,ep⟩:=hb.lo;obtain⟨q,hq,eq⟩:=hb.hi;exact CU (λp hp=>BB hp) (by omega) hl _ (.inr (qUx hc hp hq (by omega) (by omega) _))
 by_cases h4:lo<(bounds (hull a)).Y.A
 ·rw[if_pos (.inr (.inr (.inl h4)))];obtain⟨r,hr,hlt⟩:=qUy hc (y:=lo) (.inl λp hp=>by have:=(hb.all p hp).1;omega);obtain⟨r2,hr2⟩:=some_r hi;rw[CU (λp hp=>BB hp) (by omega) hl _ hr,CU (λp hp=>BB hp) (by omega) hl _ hr2];simp only[kg];rw[ka (show r.1>r.2 from hlt)];rfl
 by_cases h5:(bounds (hull a)).Y.B<hi
 ·rw[if_pos (.inr (.inr (.inr h5)))];obtain⟨r2,hr2,hlt⟩:=qUy hc (y:=hi) (.inr λp hp=>by have:=(hb.all p hp).2;omega);obtain⟨r,hr⟩:=some_r lo;rw[CU (λp hp=>BB hp) (by omega) hl _ hr,CU (λp hp=>BB hp) (by omega) hl _ hr2];simp only[kg];rw[ka (show r2.1>r2.2 from hlt)];cases decide (r.1>r.2)<;>rfl
 rw[if_neg (by simp only[h0,false_or];omega),inner lo (by omega) (by omega),inner hi (by omega) (by omega)];simp only[kg,NI];have i1:∀a b:Int,imin a b<=a/\imin a b<=b:=λa b=>by unfold imin;split<;>omega
 have i2:∀a b:Int,a<=imax a b/\b<=imax a b:=λa b=>by unfold imax;split<;>omega
 have m1:=i1 (atS (hull a) lo).2 (atS (hull a) hi).2;have m2:=i2 (atS (hull a) lo).1 (atS (hull a) hi).1;by_cases h6:(atS (hull a) lo).1>(atS (hull a) lo).2
 ·rw[ka h6,if_pos (by omega)];rfl
 rw[ke h6];by_cases h7:(atS (hull a) hi).1>(atS (hull a) hi).2
 ·rw[ka h7,if_pos (by omega)];rfl
 rw[ke h7];by_cases h8:imin (atS (hull a) lo).2 (atS (hull a) hi).2<=imax (atS (hull a) lo).1 (atS (hull a) hi).1
 ·rw[ka (show _≥_ from h8),if_pos h8];rfl
 ·rw[ke (show¬_≥_ from h8),if_neg h8];rfl
def lin (al be c:Int) (p:qA):Int:=al*p.X+be*p.Y+c
theorem qWt (al be c:Int) (p q:qA) (X y:Int):(q.Y-p.Y)*lin al be c ⟨X,y⟩=(q.Y-y)*lin al be c p+(y-p.Y)*lin al be c q-al*cross p q ⟨X,y⟩:=by unfold lin cross;grind
theorem qVT {al be c:Int} {p q:qA} {X y:Int} (h:spU p q y) (hp:0<=lin al be c p) (hq:0<=lin al be c q) (ha:al<=0) (hx:0<=cross p q ⟨X,y⟩):0<=lin al be c ⟨X,y⟩:=by
 obtain⟨h1,h2,h3⟩:=h;refine Classical.byContradiction λhn=>?_;have e:=qWt al be c p q X y;have a1:=ky (show 0<=q.Y-y by omega) hp;have a2:=ky (show 0<=y-p.Y by omega) hq;have a3:=ky (show 0<=-al by omega) hx;have a4:=gz (show 0<q.Y-p.Y by omega) (show 0< -lin al be c ⟨X,y⟩ by omega);rw[Int.mul_neg] at a4;rw[Int.neg_mul] at a3;omega
theorem qXj {al be c:Int} {p q:qA} {X y:Int} (h:spD p q y) (hp:0<=lin al be c p) (hq:0<=lin al be c q) (ha:0<=al) (hx:0<=cross p q ⟨X,y⟩):0<=lin al be c ⟨X,y⟩:=by
 obtain⟨h1,h2,h3⟩:=h;refine Classical.byContradiction λhn=>?_;have e:=qWt al be c p q X y;have a1:=ky (show 0<=-(q.Y-y) by omega) hp;have a2:=ky (show 0<=-(y-p.Y) by omega) hq;have a3:=ky ha hx;have a4:=gz (show 0< -(q.Y-p.Y) by omega) (show 0< -lin al be c ⟨X,y⟩ by omega);rw[Int.neg_mul_neg] at a4;rw[Int.neg_mul] at a1 a2;omega
theorem lin_two {al be c:Int} {p q p' q':qA} {X y:Int} (h:spU p q y) (h':spD p' q' y) (hp:0<=lin al be c p) (hq:0<=lin al be c q) (hp':0<=lin al be c p') (hq':0<=lin al be c q')
  (hx:0<=cross p q ⟨X,y⟩) (hx':0<=cross p' q' ⟨X,y⟩):0<=lin al be c ⟨X,y⟩:=by
 by_cases ha:al<=0
 ·exact qVT h hp hq ha hx
 ·exact qXj h' hp' hq' (by omega) hx'
theorem qNO {H:List qA} (hc:Cvx H) {X y:Int} (hin:inH H X y) {al be c:Int} (h:∀p∈H,0<=lin al be c p):0<=lin al be c ⟨X,y⟩:=by
 have hn:=hc.n3;have hne:H≠[]:=λe=>by rw[e] at hn;simp at hn
 have hb:=qDy hne;have hy:=qMA hc hb hin;obtain⟨p,hp,ep⟩:=hb.lo;obtain⟨q,hq,eq⟩:=hb.hi;have mq:∀j,Eq' H j∈H:=λj=>zK (kT _ (by omega));have mp:∀j,j<H.length->Ep H j∈H:=λj hj=>zK hj;obtain⟨u,hu,su⟩:=qOI hc hp hq (show p.Y<=y by omega) (show y<=q.Y by omega);obtain⟨d,hd,sd⟩:=qOr hc hp hq (show p.Y<=y by omega) (show y<=q.Y by omega);exact lin_two su sd (h _ (mp u hu)) (h _ (mq u)) (h _ (mp d hd)) (h _ (mq d)) (hin u hu) (hin d hd)
theorem chord_spec (a:List qA) (lo hi:Int):(QJ a lo hi=⟨0,0⟩/\∀X,hull a≠[]->lo<hi->¬(inH (hull a) X lo/\inH (hull a) X hi/\inH (hull a) (X+1) lo/\inH (hull a) (X+1) hi))\/
  (hull a≠[]/\lo<hi/\(QJ a lo hi).A<(QJ a lo hi).B/\∀X,((QJ a lo hi).A<=X/\X<=(QJ a lo hi).B)↔(inH (hull a) X lo/\inH (hull a) X hi)):=by
 by_cases h0:hull a=[]
 ·exact .inl ⟨by unfold QJ;rw[if_pos (.inl h0)],λX h=>absurd h0 h⟩
 have hb:=qDy h0;have hc:=qCg h0;by_cases h1:hi<=lo
 ·exact .inl ⟨by unfold QJ;rw[if_pos (.inr (.inl h1))],λX _ h=>by omega⟩
 by_cases h2:lo<(bounds (hull a)).Y.A
 ·exact .inl ⟨by unfold QJ;rw[if_pos (.inr (.inr (.inl h2)))],λX _ _ h=>by have:=(qMA hc hb h.1).1;omega⟩
 by_cases h3:(bounds (hull a)).Y.B<hi
 ·exact .inl ⟨by unfold QJ;rw[if_pos (.inr (.inr (.inr h3)))],λX _ _ h=>by have:=(qMA hc hb h.2.1).2;omega⟩
 have i1:∀X,X<=imin (atS (hull a) lo).2 (atS (hull a) hi).2↔X<=(atS (hull a) lo).2/\X<=(atS (hull a) hi).2:=λX=>qTZ;have i2:∀X,imax (atS (hull a) lo).1 (atS (hull a) hi).1<=X↔(atS (hull a) lo).1<=X/\(atS (hull a) hi).1<=X:=λX=>qTS;have k1:=qWQ hc hb (y:=lo) (by omega) (by omega);have k2:=qWQ hc hb (y:=hi) (by omega) (by omega);have key:∀X,(imax (atS (hull a) lo).1 (atS (hull a) hi).1<=X/\X<=imin (atS (hull a) lo).2 (atS (hull a) hi).2)↔(inH (hull a) X lo/\inH (hull a) X hi):=λX=>by
  rw[i1,i2,<-k1 X,<-k2 X];constructor
  ·rintro⟨⟨a1,a2⟩,a3,a4⟩;exact⟨⟨a1,a3⟩,a2,a4⟩
  ·rintro⟨⟨a1,a2⟩,a3,a4⟩;exact⟨⟨a1,a3⟩,a2,a4⟩
 by_cases h4:imin (atS (hull a) lo).2 (atS (hull a) hi).2<=imax (atS (hull a) lo).1 (atS (hull a) hi).1
 ·refine .inl ⟨by unfold QJ;rw[if_neg (by simp only[h0,false_or];omega),if_pos h4],λX _ _ h=>?_⟩;have q1:=(key X).2 ⟨h.1,h.2.1⟩;have q2:=(key (X+1)).2 h.2.2;omega
 ·have e:QJ a lo hi=⟨imax (atS (hull a) lo).1 (atS (hull a) hi).1,imin (atS (hull a) lo).2 (atS (hull a) hi).2⟩:=by
   unfold QJ;rw[if_neg (by simp only[h0,false_or];omega),if_neg h4]
  rw[e];exact .inr ⟨h0,by omega,by simp only;omega,key⟩
structure Walk (pts w:List qA) (m M:qA):Prop where
 left:qF9 pts w
 turns:qB4 w
 asc:QM w
 sub:∀p∈w,p∈pts
 first:w.head? =some m
 last:w.getLast? =some M
theorem ends {s:List qA} (hs:QM s) (hne:s≠[]):∃m M,m∈s/\M∈s/\(∀p∈s,p=m\/pLt m p)/\(∀p∈s,p=M\/pLt p M):=by
 induction s with
 |nil=>exact absurd rfl hne
 |cons a s ih=>
  obtain⟨h1,h2⟩:=kK.1 hs;by_cases h:s=[]
  ·subst h;exact⟨a,a,by simp,by simp,by simp,by simp⟩
  ·obtain⟨m,M,hm,hM,t1,t2⟩:=ih h2 h;refine⟨a,M,by simp,kD _ hM,λp hp=>?_,λp hp=>?_⟩
   ·rcases kN.1 hp with rfl|hp
    ·exact .inl rfl
    ·exact .inr (h1 p hp)
   ·rcases kN.1 hp with rfl|hp
    ·exact .inr (h1 M hM)
    ·exact t2 p hp
theorem qUG {H:List qA} (hc:Cvx H) {X y:Int} (h:inH H X y): -600<=X/\X<=600:=by
 have a:=qNO hc h (al:=1) (be:=0) (c:=600) (λp hp=>by have:=hc.rg p hp;unfold lin;omega);have b:=qNO hc h (al:= -1) (be:=0) (c:=600) (λp hp=>by have:=hc.rg p hp;unfold lin;omega);unfold lin at a b;simp only at a b;omega
theorem qPG (p:List qA) (lo hi:Int):rngS (QJ p lo hi)=true/\nrm (QJ p lo hi)=QJ p lo hi:=by
 rcases chord_spec p lo hi with⟨e,_⟩|⟨h0,h1,h2,h3⟩
 ·rw[e];exact⟨rfl,rfl⟩
 ·have k1:=(h3 _).1 ⟨kM _,kaf h2⟩;have k2:=(h3 _).1 ⟨kaf h2,kM _⟩;have r1:=qUG (qCg h0) k1.1;have r2:=qUG (qCg h0) k2.1;refine⟨SM.2 (by omega),qJK ?_⟩;unfold empS;exact ke (by omega)
noncomputable def ofS (p:List qA):qF:=qBP (λj=>QJ p (10*((j:Int)-60)) (10*((j:Int)-60+1)))
theorem VS_of' (p:List qA):VS (ofS p):=qX0 (λj _=>by rw[(qPG _ _ _).2];exact(qPG _ _ _).1)
theorem qXY (p:List qA):qAC p=some (ofS p):=by
 have m1:∀r:Int,-60<=r->r<60->qBm r p=some (QJ p (10*r) (10*(r+1))):=λr h1 h2=>by
  unfold qBm ZS;rw[qD (n:=r+1) (by omega),qD (by omega),qD (by omega)];simp only[kg,qSA]
 unfold qAC;refine qPr (λj=>QJ p (10*((j:Int)-60)) (10*((j:Int)-60+1))) (yJ p) (λn x u w l hx=>?_) (λn u w l=>?_)
 ·rw[yJ,ka (show(x:Int)-60<60 by omega),m1 _ (by omega) (by omega)];simp only[kp,kg,KZ,FX,UH]
 ·rw[yJ];rfl
theorem qPS {p:List qA} {lo hi:Int} (h:(∀q∈p,lo<q.Y)\/(∀q∈p,q.Y<hi)):QJ p lo hi=⟨0,0⟩:=by
 rcases chord_spec p lo hi with⟨e,_⟩|⟨h0,h1,h2,h3⟩
 ·exact e
 ·have k1:=(h3 _).1 ⟨kM _,kaf h2⟩;have hb:=qDy h0;have y1:=qMA (qCg h0) hb k1.1;have y2:=qMA (qCg h0) hb k1.2;obtain⟨u,hu,eu⟩:=hb.lo;obtain⟨v,hv,ev⟩:=hb.hi;rcases h with h|h
  ·have:=h u (qHO hu);omega
  ·have:=h v (qHO hv);omega
theorem of_L1 (p:List qA) (hl:p.length<=1000) (y:Int):∃lo hi,BH p FUEL y y 0=some (lo,hi)/\∀q∈p,lo<=q.Y/\q.Y<=hi:=by
 have k:=jJ p (λn (s:Int×Int) x=>BH p n s.1 s.2 x) (λx=>(x:Int)) (λ_ a s=>(imin s.1 a.Y,imax s.2 a.Y)) (λs=>s) (λx s=>∀j,j<x->s.1<=(p.getD j daa).Y/\(p.getD j daa).Y<=s.2) (by omega)
  (λn x s hx hi=>by
   refine⟨?_,λj hj=>?_⟩
   ·rw[BH,ka (show(x:Int)<_ by omega),qJ (by omega),qM (by omega)];rfl
   ·have a1:=imin_or s.1 (p.getD x daa).Y;have a2:=wZ s.2 (p.getD x daa).Y;simp only;by_cases hjx:j=x
    ·subst hjx;omega
    ·have:=hi j (by omega);omega)
  (λn s _=>by rw[BH];simp) (i:=0) rfl (y,y) (λj hj=>by omega)
 refine⟨_,_,k.1,λq hq=>?_⟩;obtain⟨i,hi,e⟩:=uV.1 hq;have:=k.2 i hi;rw[ki,ks hi,kJ,e] at this;exact this
theorem of_L2 (p:List qA) (o:Int×Int) (ho:∀q∈p,o.1<=q.Y/\q.Y<=o.2):(WB p o FUEL [] (-60)).bind (λl=>RM (-60) l)=some (ofS p):=by
 have k:=jJ (List.range 120) (λn (l:List Span) x=>WB p o n l x) (λx=>(x:Int)-60) (λx (_:Nat) l=>l++[QJ p (10*((x:Int)-60)) (10*((x:Int)-60+1))]) (λl=>l) (λx l=>l.length=x) (by simp)
  (λn x l hx hi=>by
   have hx':x<120:=by simpa using hx
   refine⟨?_,by simp[hi]⟩;have e3:w64 ((x:Int)-60+1)=((x+1:Nat):Int)-60:=by rw[qD (by omega)];omega
   have k4:∀z,CL l ((x:Int)-60) (WB p o n) z=WB p o n (l++[z]) (((x+1:Nat):Int)-60):=λz=>by
    unfold CL;rw[QG (by omega),e3];rfl
   rw[WB,ka (show(x:Int)-60<60 by omega),qD (n:=(x:Int)-60+1) (by omega),qD (n:=10*((x:Int)-60)) (by omega),qD (n:=10*((x:Int)-60+1)) (by omega)];simp only[kp,qDc,k4];rw[qD (n:=(x:Int)-60+1) (by omega),qD (n:=10*((x:Int)-60)) (by omega),qD (n:=10*((x:Int)-60+1)) (by omega),qTi];simp only[kg];by_cases c1:10*((x:Int)-60)≥o.1
   ·rw[ka c1];by_cases c2:10*((x:Int)-60+1)<=o.2
    ·rw[ka c2];rfl
    ·rw[ke c2,qPS (.inr λq hq=>by have:=(ho q hq).2;omega)];rfl
   ·rw[ke c1,qPS (.inl λq hq=>by have:=(ho q hq).1;omega)];rfl)
  (λn l _=>by
   have e:(((List.range 120).length:Nat):Int)-60=60:=by rw[uc];rfl
   simp only[e];rw[WB];rfl) (i:= -60) rfl [] rfl
 rw[qI1 (λx (_:Nat)=>QJ p (10*((x:Int)-60)) (10*((x:Int)-60+1))),uj] at k;rw[k.1];simp only[kg];rw[qNq _ (by rw[qLi];simp)];have e:qBP (λj=>(mapi (λx (_:Nat)=>QJ p (10*((x:Int)-60)) (10*((x:Int)-60+1))) 0 (List.range 120)).getD j daa)=ofS p:=by
  unfold ofS;refine qGq (λj hj=>?_);rw[qK0 _ _ _ _ (by rw[uc];exact hj),kz]
 rw[e]
noncomputable def ofR (p:List qA):qF×Int:=if chk p=0 then(if(ofS p).Rows=[] then(nilS,18) else(ofS p,0)) else(nilS,chk p)
theorem Of_eq (p:List qA) (hl:p.length<=40):qEp p=some (ofR p)/\qHx p=some (ofR p):=by
 unfold qEp qHx ofR;rw[(qWh p).1,(qWh p).2,qXY];simp only[kg];by_cases hc:chk p=0
 ·rw[show(chk p !=0)=false by simpa using hc,if_pos hc];have h3:3<=p.length:=by
   refine Classical.byContradiction λhn=>?_;unfold chk at hc;rw[ka (show(p.length:Int)<3 by omega)] at hc;exact absurd hc (by intro h;simp at h)
  obtain⟨lo,hi,k1,k2⟩:=of_L1 p (by omega) (p.getD 0 daa).Y;have k3:=of_L2 p (lo,hi) k2;rw[qJ (by omega)];simp only[kr,kp,gK,k1,kg];cases hL:WB p (lo,hi) FUEL [] (-60) with
  |none=>rw[hL] at k3;cases k3
  |some l=>
   rw[hL] at k3;simp only[kg] at k3⊢;rw[k3];simp only[kg];by_cases he:(ofS p).Rows=[]
   ·rw[if_pos he,he];exact⟨rfl,rfl⟩
   ·have e0:(((ofS p).Rows.length:Int)==0)=false:=by
     have:0<(ofS p).Rows.length:=uq.2 he;rw[kC];omega
    rw[if_neg he,e0];exact⟨rfl,rfl⟩
 ·rw[show(chk p !=0)=true by simpa using hc,if_neg hc];exact⟨rfl,rfl⟩
theorem ofR_VS (p:List qA):VS (ofR p).1:=by
 unfold ofR;split
 ·split
  ·exact qJM
  ·exact VS_of' p
 ·exact qJM
end Saw
end Go.SL

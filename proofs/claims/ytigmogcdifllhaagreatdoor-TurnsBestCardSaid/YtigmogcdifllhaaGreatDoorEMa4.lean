import Derived.Test.YtigmogcdifllhaaGreatDoorEMa3
import Derived.Test.YtigmogcdifllhaaGreatDoorEMa2
set_option linter.unusedVariables false
set_option linter.unusedSimpArgs false
namespace Go.SL
namespace Saw
theorem qYE {H:List qA} (hc:Cvx H) (c:Int) (hm:∃p∈H,p.Y=c):∃x,x<H.length/\(Ep H x).Y≠c/\(Eq' H x).Y=c:=by
 refine Classical.byContradiction λhno=>?_;have no:∀x,x<H.length->(Ep H x).Y≠c->(Eq' H x).Y≠c:=λx hx h1 h2=>hno ⟨x,hx,h1,h2⟩;have hne:∃p∈H,p.Y≠c:=Classical.byContradiction λh=>qNg hc c (λp hp=>Classical.byContradiction λh'=>h ⟨p,hp,h'⟩);obtain⟨p,hp,hpc⟩:=hne;obtain⟨i,hi,e⟩:=AY hp;have:=qHI (P:=λx=>(Ep H x).Y≠c) hi (by rw[e];exact hpc) (λx hx h=>no x hx h);obtain⟨q,hq,hqc⟩:=hm;obtain⟨k,hk,e'⟩:=AY hq;exact this k hk (by rw[e'];exact hqc)
theorem nxt_ix {H:List qA} (hc:Cvx H) {x:Nat} (hx:x<H.length):Ep H ((x+1) % H.length)=Eq' H x/\Eq' H ((x+1) % H.length)=Ep H ((x+2) % H.length):=by
 refine⟨rfl,?_⟩;show H.getD (((x+1) % H.length+1) % H.length) du=H.getD ((x+2) % H.length) du;rw[uS]
theorem qNK {H:List qA} (hc:Cvx H) {y:Int} (hy:(∀p∈H,y<p.Y)\/(∀p∈H,p.Y<y)) (hnb:∀j,j<H.length->¬bad (Ep H j) (Eq' H j) y) (X:Int):¬∀j,j<H.length->0<=cross (Ep H j) (Eq' H j) ⟨X,y⟩:=by
 intro hall;have hn:=hc.n3;have mp:∀j,j<H.length->Ep H j∈H:=λj hj=>wJ hj
 -- an extreme corner
 have ext:∃c,(∃p∈H,p.Y=c)/\((y<c/\∀p∈H,c<=p.Y)\/(c<y/\∀p∈H,p.Y<=c)):=by
  have gen:∀l:List qA,l≠[]->(∃p∈l,∀q∈l,p.Y<=q.Y)/\(∃p∈l,∀q∈l,q.Y<=p.Y):=by
   intro l
   induction l with
   |nil=>intro h;exact absurd rfl h
   |cons a l ih=>
    intro _;by_cases hl:l=[]
    ·subst hl;exact⟨⟨a,by simp,by simp⟩,⟨a,by simp,by simp⟩⟩
    ·obtain⟨⟨p,hp,h1⟩,q,hq,h2⟩:=ih hl;constructor
     ·by_cases h:a.Y<=p.Y
      ·refine⟨a,by simp,λr hr=>?_⟩;rcases kW.1 hr with rfl|hr
       ·exact kX _
       ·exact dg h (h1 r hr)
      ·refine⟨p,kG _ hp,λr hr=>?_⟩;rcases kW.1 hr with rfl|hr
       ·omega
       ·exact h1 r hr
     ·by_cases h:q.Y<=a.Y
      ·refine⟨a,by simp,λr hr=>?_⟩;rcases kW.1 hr with rfl|hr
       ·exact kX _
       ·exact dg (h2 r hr) h
      ·refine⟨q,kG _ hq,λr hr=>?_⟩;rcases kW.1 hr with rfl|hr
       ·omega
       ·exact h2 r hr
  obtain⟨⟨p,hp,h1⟩,q,hq,h2⟩:=gen H (λe=>by rw[e] at hn;simp at hn);rcases hy with hy|hy
  ·exact⟨p.Y,⟨p,hp,rfl⟩,.inl ⟨hy p hp,h1⟩⟩
  ·exact⟨q.Y,⟨q,hq,rfl⟩,.inr ⟨hy q hq,h2⟩⟩
 obtain⟨c,hcm,hce⟩:=ext;obtain⟨x,hx,x1,x2⟩:=qYE hc c hcm;have hx':(x+1) % H.length<H.length:=kK _ (by omega);have hx2:(x+2) % H.length<H.length:=kK _ (by omega);obtain⟨i1,i2⟩:=nxt_ix hc hx;have c1:=hall x hx;have c2:=hall _ hx';have nb:=hnb _ hx';have t:=hc.tn x hx;have mu:=mp x hx;have mz:=mp _ hx2;rw[i1,i2] at c2 nb;generalize Ep H x=u at*;generalize Eq' H x=v at*;generalize Ep H ((x+2) % H.length)=z at*;have key:=out_key c1 c2 t;rcases hce with⟨y1,y2⟩|⟨y1,y2⟩
 ·have yu:=y2 u mu;have yz:=y2 z mz;by_cases hz:z.Y=v.Y
  ·refine nb ⟨by omega,by omega,?_⟩;have e:cross u v z=(u.Y-v.Y)*(z.X-v.X):=by unfold cross;rw[hz];grind
   rw[e] at t;have hp:0<z.X-v.X:=by
    refine Classical.byContradiction λh=>?_;have:=kC (show 0<=u.Y-v.Y by omega) (show 0<=-(z.X-v.X) by omega);rw[Int.mul_neg] at this;omega
   have:=gc hp (show 0<v.Y-y by omega);have e2:(z.X-v.X)*(y-v.Y)= -((z.X-v.X)*(v.Y-y)):=by grind
   omega
  ·exact key (.inl ⟨by omega,by omega,by omega⟩)
 ·have yu:=y2 u mu;have yz:=y2 z mz;by_cases hz:z.Y=v.Y
  ·refine nb ⟨by omega,by omega,?_⟩;have e:cross u v z=(v.Y-u.Y)*(v.X-z.X):=by unfold cross;rw[hz];grind
   rw[e] at t;have hp:0<v.X-z.X:=by
    refine Classical.byContradiction λh=>?_;have:=kC (show 0<=v.Y-u.Y by omega) (show 0<=-(v.X-z.X) by omega);rw[Int.mul_neg] at this;omega
   have:=gc hp (show 0<y-v.Y by omega);have e2:(z.X-v.X)*(y-v.Y)= -((v.X-z.X)*(y-v.Y)):=by grind
   omega
  ·exact key (.inr ⟨by omega,by omega,by omega⟩)
theorem qIe {a:List qA} (h:hull a≠[]):a.length<=32/\a.all inRange=true/\hull a=hullOf (srt a)/\¬(chainR (srt a)).length+(chainR (srt a).reverse).length<5:=by
 unfold hull at h⊢;by_cases h1:(a.length:Int)>32
 ·rw[ki h1] at h;exact absurd rfl h
 ·rw[kf h1] at h⊢;cases hr:a.all inRange with
  |false=>rw[hr] at h;exact absurd rfl h
  |true=>
   rw[hr] at h;simp only[kv,kp] at h⊢;refine⟨by omega,trivial,trivial,λh5=>h ?_⟩;unfold hullOf;rw[if_pos h5]
theorem qJj {a:List qA} {p:qA} (hp:p∈hull a):p∈a:=by
 have h:hull a≠[]:=λe=>by rw[e] at hp;cases hp
 obtain⟨_,_,e,h5⟩:=qIe h;rw[e] at hp;exact(qEH a p).1 ((qGx (qAX a) h5).2.1 p hp)
theorem hull_lf {a:List qA} {x:Nat} (hx:x<(hull a).length) {p:qA} (hp:p∈a):0<=cross (Ep (hull a) x) (Eq' (hull a) x) p:=by
 have h:hull a≠[]:=λe=>by rw[e] at hx;simp at hx
 obtain⟨_,_,e,h5⟩:=qIe h;rw[e] at hx⊢;exact(qGx (qAX a) h5).2.2 x hx p ((qEH a p).2 hp)
theorem VQ {a:List qA} {p:qA} (hp:p∈hull a):rng p:=by
 have h:hull a≠[]:=λe=>by rw[e] at hp;cases hp
 obtain⟨_,hr,_,_⟩:=qIe h;exact qCE.1 (ky.1 hr p (qJj hp))
theorem qBw {a:List qA} (h:hull a≠[]):Cvx (hull a):=by
 obtain⟨_,_,e,h5⟩:=qIe h;refine⟨by rw[e];exact(qGx (qAX a) h5).1,λp hp=>VQ hp,λx hx p hp=>hull_lf hx (qJj hp),λx hx=>?_⟩;rw[e] at hx⊢;exact qXF (qAX a) h5 x hx
def inH (H:List qA) (X y:Int):Prop:=∀j,j<H.length->0<=cross (Ep H j) (Eq' H j) ⟨X,y⟩
structure YB (H:List qA) (l h:Int):Prop where
 lo:∃p∈H,p.Y=l
 hi:∃p∈H,p.Y=h
 all:∀p∈H,l<=p.Y/\p.Y<=h
theorem qMF :∀(l:List qA) (r:Rect),((l.foldl TJ r).Y.A=r.Y.A\/∃p∈l,p.Y=(l.foldl TJ r).Y.A)/\((l.foldl TJ r).Y.B=r.Y.B\/∃p∈l,p.Y=(l.foldl TJ r).Y.B)/\(l.foldl TJ r).Y.A<=r.Y.A/\r.Y.B<=(l.foldl TJ r).Y.B/\∀p∈l,(l.foldl TJ r).Y.A<=p.Y/\p.Y<=(l.foldl TJ r).Y.B
 |[],r=>⟨.inl rfl,.inl rfl,kX _,kX _,λp hp=>by cases hp⟩
 |a::l,r=>by
  obtain⟨h1,h2,h3,h4,h5⟩:=qMF l (TJ r a);have eA:(TJ r a).Y.A=imin r.Y.A a.Y:=rfl;have eB:(TJ r a).Y.B=imax r.Y.B a.Y:=rfl;have mA:imin r.Y.A a.Y<=r.Y.A/\imin r.Y.A a.Y<=a.Y/\(imin r.Y.A a.Y=r.Y.A\/imin r.Y.A a.Y=a.Y):=by unfold imin;split<;>omega
  have mB:r.Y.B<=imax r.Y.B a.Y/\a.Y<=imax r.Y.B a.Y/\(imax r.Y.B a.Y=r.Y.B\/imax r.Y.B a.Y=a.Y):=by unfold imax;split<;>omega
  rw[eA] at h1 h3;rw[eB] at h2 h4;simp only[uG];refine⟨?_,?_,by omega,by omega,λp hp=>?_⟩
  ·rcases h1 with h1|⟨p,hp,e⟩
   ·rcases mA.2.2 with e|e
    ·exact .inl (h1.trans e)
    ·exact .inr ⟨a,by simp,by omega⟩
   ·exact .inr ⟨p,kG _ hp,e⟩
  ·rcases h2 with h2|⟨p,hp,e⟩
   ·rcases mB.2.2 with e|e
    ·exact .inl (h2.trans e)
    ·exact .inr ⟨a,by simp,by omega⟩
   ·exact .inr ⟨p,kG _ hp,e⟩
  ·rcases kW.1 hp with rfl|hp
   ·omega
   ·exact h5 p hp
theorem qDn {H:List qA} (h:H≠[]):YB H (bounds H).Y.A (bounds H).Y.B:=by
 cases H with
 |nil=>exact absurd rfl h
 |cons a l=>
  obtain⟨h1,h2,h3,h4,h5⟩:=qMF l (Rect.mk (Span.mk a.X a.X) (Span.mk a.Y a.Y));unfold bounds;simp only at h3 h4⊢;refine⟨?_,?_,λp hp=>?_⟩
  ·rcases h1 with h1|⟨p,hp,e⟩
   ·exact⟨a,by simp,h1.symm⟩
   ·exact⟨p,kG _ hp,e⟩
  ·rcases h2 with h2|⟨p,hp,e⟩
   ·exact⟨a,by simp,h2.symm⟩
   ·exact⟨p,kG _ hp,e⟩
  ·rcases kW.1 hp with rfl|hp
   ·exact⟨h3,h4⟩
   ·exact h5 p hp
def atS (H:List qA) (y:Int):Int×Int:=pS H y 0 H.length ((bounds H).X.A,(bounds H).X.B)
theorem qIM {p q:qA} (h1:¬p.Y<q.Y) (h2:¬q.Y<p.Y) (X y:Int):cross p q ⟨X,y⟩=(q.X-p.X)*(y-p.Y):=by
 have e:q.Y-p.Y=0:=by omega
 unfold cross;rw[e];simp
theorem qXa {H:List qA} (hc:Cvx H) {y:Int} (hy:(∀p∈H,y<p.Y)\/(∀p∈H,p.Y<y)):∃r:Int×Int,(rS H y 0 H.length (-600,600)= .inl r\/rS H y 0 H.length (-600,600)= .inr r)/\r.2<r.1:=by
 rcases rS_spec H y H.length 0 (-600,600) with⟨_,e⟩|⟨nb,r',e,g1,g2⟩
 ·exact⟨(1,0),.inl e,by decide⟩
 ·refine⟨r',.inr e,Classical.byContradiction λhn=>?_⟩;have k1:=(g1 r'.1).1 (kX _);have k2:=(g2 r'.1).1 (by omega);refine qNK hc hy (λj hj=>nb j (by omega) (by omega)) r'.1 (λj hj=>?_);by_cases c1:(Ep H j).Y<(Eq' H j).Y
  ·exact(qCp c1 _ _).1 (k2.2 j (by omega) (by omega) c1)
  ·by_cases c2:(Eq' H j).Y<(Ep H j).Y
   ·exact(qBG c2 _ _).1 (k1.2 j (by omega) (by omega) c2)
   ·have:=nb j (by omega) (by omega);rw[qIM c1 c2];refine Classical.byContradiction λh=>this ⟨c1,c2,by omega⟩
theorem qZd {H:List qA} (hc:Cvx H) {lo hi:Int} (hb:YB H lo hi) {y:Int} (h1:lo<=y) (h2:y<=hi) (X:Int):((atS H y).1<=X/\X<=(atS H y).2)↔inH H X y:=by
 obtain⟨p,hp,ep⟩:=hb.lo;obtain⟨q,hq,eq⟩:=hb.hi;have be:=qXC hc hp hq (show p.Y<=y by omega) (show y<=q.Y by omega) ((bounds H).X.A,(bounds H).X.B);rcases rS_spec H y H.length 0 (-600,600) with⟨_,e⟩|⟨nb,r',e,g1,g2⟩
 ·rw[be] at e;cases e
 ·rw[be] at e;have e':atS H y=r':=Sum.inr.inj e;rw[e',g1 X,g2 X];constructor
  ·rintro⟨⟨_,k1⟩,_,k2⟩ j hj;by_cases c1:(Ep H j).Y<(Eq' H j).Y
   ·exact(qCp c1 _ _).1 (k2 j (by omega) (by omega) c1)
   ·by_cases c2:(Eq' H j).Y<(Ep H j).Y
    ·exact(qBG c2 _ _).1 (k1 j (by omega) (by omega) c2)
    ·have:=nb j (by omega) (by omega);rw[qIM c1 c2];refine Classical.byContradiction λh=>this ⟨c1,c2,by omega⟩
  ·intro hin;have hn:=hc.n3;have mq:∀j,Eq' H j∈H:=λj=>wJ (kK _ (by omega));have mp:∀j,j<H.length->Ep H j∈H:=λj hj=>wJ hj;obtain⟨u,hu,su⟩:=qRv hc hp hq (show p.Y<=y by omega) (show y<=q.Y by omega);obtain⟨d,hd,sd⟩:=qRJ hc hp hq (show p.Y<=y by omega) (show y<=q.Y by omega);have b1:=qZu (hc.rg _ (mp u hu)) (hc.rg _ (mq u)) su;have b2:=qYo (hc.rg _ (mp d hd)) (hc.rg _ (mq d)) sd;have b3:=(qCp su.1 X y).2 (hin u hu);have b4:=(qBG sd.1 X y).2 (hin d hd)
   exact⟨⟨by show-600<=X;omega,λj j1 j2 j3=>(qBG j3 X y).2 (hin j (by omega))⟩,by show X<=600;omega,λj j1 j2 j3=>(qCp j3 X y).2 (hin j (by omega))⟩
theorem qPF {H:List qA} (hc:Cvx H) {lo hi:Int} (hb:YB H lo hi) {X y:Int} (h:inH H X y):lo<=y/\y<=hi:=by
 have nb:∀j,j<H.length->¬bad (Ep H j) (Eq' H j) y:=λj hj hb=>by
  have:=h j hj;rw[qIM hb.1 hb.2.1] at this;have:=hb.2.2;omega
 refine⟨Classical.byContradiction λhn=>?_,Classical.byContradiction λhn=>?_⟩
 ·exact qNK hc (.inl λp hp=>by have:=(hb.all p hp).1;omega) nb X h
 ·exact qNK hc (.inr λp hp=>by have:=(hb.all p hp).2;omega) nb X h
def QB (a:List qA) (lo hi:Int):Span:=
 if hull a=[]\/hi<=lo\/lo<(bounds (hull a)).Y.A\/(bounds (hull a)).Y.B<hi then⟨0,0⟩
 else if imin (atS (hull a) lo).2 (atS (hull a) hi).2<=imax (atS (hull a) lo).1 (atS (hull a) hi).1 then⟨0,0⟩
 else⟨imax (atS (hull a) lo).1 (atS (hull a) hi).1,imin (atS (hull a) lo).2 (atS (hull a) hi).2⟩
theorem YB.rg {H:List qA} {lo hi:Int} (hb:YB H lo hi) (hr:∀p∈H,rng p): -600<=lo/\hi<=600:=by
 obtain⟨p,hp,ep⟩:=hb.lo;obtain⟨q,hq,eq⟩:=hb.hi;have h1:=hr p hp;have h2:=hr q hq;omega
theorem qQB (a:List qA):(hull a).length<=64:=by
 by_cases h:hull a=[]
 ·rw[h];simp
 ·have:=(qIe h).1;have:=qZG a;omega
theorem qXc {H:List qA} (hr:∀p∈H,rng p) {y:Int} (hy: -600<=y/\y<=600) (hl:H.length<=64):DT y (bounds H) H=some (atS H y):=by
 have:=qPk H y hr hy (by omega) H.length FUEL 0 ((bounds H).X.A,(bounds H).X.B) (by omega) (by rw[FUEL_eq];omega);unfold DT;rw[show((0:Nat):Int)=0 from rfl] at this;simp only at this;rw[this];rfl
theorem qVF (a:List qA) (lo hi:Int):qA7 a lo hi=some (QB a lo hi):=by
 have hl:=qQB a;unfold qA7 UB QB;rw[qWs];simp only[kd,(qYW (hull a) (by omega)).1];by_cases h0:hull a=[]
 ·rw[h0];simp
 have e0:(((hull a).length:Int)==0)=false:=by
  have:0<(hull a).length:=uq.2 h0;rw[kT];omega
 have hb:=qDn h0;have hbr:=hb.rg (λp hp=>VQ hp);rw[e0];by_cases h1:hi<=lo
 ·rw[ki (show lo≥hi from h1),if_pos (.inr (.inl h1))];rfl
 rw[kf (show¬lo≥hi from h1)];by_cases h2:lo<(bounds (hull a)).Y.A
 ·rw[ki h2,if_pos (.inr (.inr (.inl h2)))];rfl
 rw[kf h2];by_cases h3:(bounds (hull a)).Y.B<hi
 ·rw[ki (show hi>(bounds (hull a)).Y.B from h3),if_pos (.inr (.inr (.inr h3)))];rfl
 rw[kf (show¬hi>(bounds (hull a)).Y.B from h3),if_neg (by simp only[h0,false_or];omega)];rw[qXc (λp hp=>VQ hp) (show-600<=lo/\lo<=600 by omega) hl,qXc (λp hp=>VQ hp) (show-600<=hi/\hi<=600 by omega) hl];simp only[kv,kd];by_cases h4:imin (atS (hull a) lo).2 (atS (hull a) hi).2<=imax (atS (hull a) lo).1 (atS (hull a) hi).1
 ·rw[ki (show _≥_ from h4),if_pos h4];rfl
 ·rw[kf (show¬_≥_ from h4),if_neg h4];rfl
theorem qC5 {H:List qA} (hr:∀p∈H,rng p) {y:Int} (hy: -600<=y/\y<=600) (hl:H.length<=64):∀r,(rS H y 0 H.length (-600,600)= .inl r\/rS H y 0 H.length (-600,600)= .inr r)->SH H y=some r:=by
 intro r h;have:=qMT H y hr hy (by omega) H.length FUEL 0 (-600) 600 (by omega) (by rw[FUEL_eq];omega);unfold SH;rw[show((0:Nat):Int)=0 from rfl] at this;rw[this];rcases h with h|h<;>rw[h]<;>rfl
theorem qWU (a:List qA) (lo hi:Int):qHg a lo hi=some (QB a lo hi):=by
 have hl:=qQB a;unfold qHg GP QB;rw[qXY];simp only[kd];by_cases h0:hull a=[]
 ·rw[h0];simp
 have e0:(((hull a).length:Int)==0)=false:=by
  have:0<(hull a).length:=uq.2 h0;rw[kT];omega
 have hb:=qDn h0;have hbr:=hb.rg (λp hp=>VQ hp);have hc:=qBw h0;rw[e0];by_cases h1:hi<=lo
 ·rw[ki (show lo≥hi from h1),if_pos (.inr (.inl h1))];rfl
 rw[kf (show¬lo≥hi from h1)];by_cases h2:lo< -600
 ·rw[ki h2,if_pos (.inr (.inr (.inl (by omega))))];rfl
 rw[kf h2];by_cases h3:600<hi
 ·rw[ki (show hi>600 from h3),if_pos (.inr (.inr (.inr (by omega))))];rfl
 rw[kf (show¬hi>600 from h3)];simp only[kv];have some_r:∀y,∃r,(rS (hull a) y 0 (hull a).length (-600,600)= .inl r\/rS (hull a) y 0 (hull a).length (-600,600)= .inr r):=λy=>by
  cases h:rS (hull a) y 0 (hull a).length (-600,600) with
  |inl r=>exact⟨r,.inl rfl⟩
  |inr r=>exact⟨r,.inr rfl⟩
 have inner:∀y,(bounds (hull a)).Y.A<=y->y<=(bounds (hull a)).Y.B->SH (hull a) y=some (atS (hull a) y):=λy y1 y2=>by
  obtain⟨p,hp,ep⟩:=hb.lo;obtain⟨q,hq,eq⟩:=hb.hi;exact qC5 (λp hp=>VQ hp) (by omega) hl _ (.inr (qXC hc hp hq (by omega) (by omega) _))
 by_cases h4:lo<(bounds (hull a)).Y.A
 ·rw[if_pos (.inr (.inr (.inl h4)))];obtain⟨r,hr,hlt⟩:=qXa hc (y:=lo) (.inl λp hp=>by have:=(hb.all p hp).1;omega);obtain⟨r2,hr2⟩:=some_r hi;rw[qC5 (λp hp=>VQ hp) (by omega) hl _ hr,qC5 (λp hp=>VQ hp) (by omega) hl _ hr2];simp only[kd];rw[ki (show r.1>r.2 from hlt)];rfl
 by_cases h5:(bounds (hull a)).Y.B<hi
 ·rw[if_pos (.inr (.inr (.inr h5)))];obtain⟨r2,hr2,hlt⟩:=qXa hc (y:=hi) (.inr λp hp=>by have:=(hb.all p hp).2;omega);obtain⟨r,hr⟩:=some_r lo;rw[qC5 (λp hp=>VQ hp) (by omega) hl _ hr,qC5 (λp hp=>VQ hp) (by omega) hl _ hr2];simp only[kd];rw[ki (show r2.1>r2.2 from hlt)];cases decide (r.1>r.2)<;>rfl
 rw[if_neg (by simp only[h0,false_or];omega),inner lo (by omega) (by omega),inner hi (by omega) (by omega)];simp only[kd,SP];have i1:∀a b:Int,imin a b<=a/\imin a b<=b:=λa b=>by unfold imin;split<;>omega
 have i2:∀a b:Int,a<=imax a b/\b<=imax a b:=λa b=>by unfold imax;split<;>omega
 have m1:=i1 (atS (hull a) lo).2 (atS (hull a) hi).2;have m2:=i2 (atS (hull a) lo).1 (atS (hull a) hi).1;by_cases h6:(atS (hull a) lo).1>(atS (hull a) lo).2
 ·rw[ki h6,if_pos (by omega)];rfl
 rw[kf h6];by_cases h7:(atS (hull a) hi).1>(atS (hull a) hi).2
 ·rw[ki h7,if_pos (by omega)];rfl
 rw[kf h7];by_cases h8:imin (atS (hull a) lo).2 (atS (hull a) hi).2<=imax (atS (hull a) lo).1 (atS (hull a) hi).1
 ·rw[ki (show _≥_ from h8),if_pos h8];rfl
 ·rw[kf (show¬_≥_ from h8),if_neg h8];rfl
def lin (al be c:Int) (p:qA):Int:=al*p.X+be*p.Y+c
theorem qYG (al be c:Int) (p q:qA) (X y:Int):(q.Y-p.Y)*lin al be c ⟨X,y⟩=(q.Y-y)*lin al be c p+(y-p.Y)*lin al be c q-al*cross p q ⟨X,y⟩:=by unfold lin cross;grind
theorem qY6 {al be c:Int} {p q:qA} {X y:Int} (h:spU p q y) (hp:0<=lin al be c p) (hq:0<=lin al be c q) (ha:al<=0) (hx:0<=cross p q ⟨X,y⟩):0<=lin al be c ⟨X,y⟩:=by
 obtain⟨h1,h2,h3⟩:=h;refine Classical.byContradiction λhn=>?_;have e:=qYG al be c p q X y;have a1:=kC (show 0<=q.Y-y by omega) hp;have a2:=kC (show 0<=y-p.Y by omega) hq;have a3:=kC (show 0<=-al by omega) hx;have a4:=gc (show 0<q.Y-p.Y by omega) (show 0< -lin al be c ⟨X,y⟩ by omega);rw[Int.mul_neg] at a4;rw[Int.neg_mul] at a3;omega
theorem qZp {al be c:Int} {p q:qA} {X y:Int} (h:spD p q y) (hp:0<=lin al be c p) (hq:0<=lin al be c q) (ha:0<=al) (hx:0<=cross p q ⟨X,y⟩):0<=lin al be c ⟨X,y⟩:=by
 obtain⟨h1,h2,h3⟩:=h;refine Classical.byContradiction λhn=>?_;have e:=qYG al be c p q X y;have a1:=kC (show 0<=-(q.Y-y) by omega) hp;have a2:=kC (show 0<=-(y-p.Y) by omega) hq;have a3:=kC ha hx;have a4:=gc (show 0< -(q.Y-p.Y) by omega) (show 0< -lin al be c ⟨X,y⟩ by omega);rw[Int.neg_mul_neg] at a4;rw[Int.neg_mul] at a1 a2;omega
theorem lin_two {al be c:Int} {p q p' q':qA} {X y:Int} (h:spU p q y) (h':spD p' q' y) (hp:0<=lin al be c p) (hq:0<=lin al be c q) (hp':0<=lin al be c p') (hq':0<=lin al be c q')
  (hx:0<=cross p q ⟨X,y⟩) (hx':0<=cross p' q' ⟨X,y⟩):0<=lin al be c ⟨X,y⟩:=by
 by_cases ha:al<=0
 ·exact qY6 h hp hq ha hx
 ·exact qZp h' hp' hq' (by omega) hx'
theorem qQv {H:List qA} (hc:Cvx H) {X y:Int} (hin:inH H X y) {al be c:Int} (h:∀p∈H,0<=lin al be c p):0<=lin al be c ⟨X,y⟩:=by
 have hn:=hc.n3;have hne:H≠[]:=λe=>by rw[e] at hn;simp at hn
 have hb:=qDn hne;have hy:=qPF hc hb hin;obtain⟨p,hp,ep⟩:=hb.lo;obtain⟨q,hq,eq⟩:=hb.hi;have mq:∀j,Eq' H j∈H:=λj=>wJ (kK _ (by omega));have mp:∀j,j<H.length->Ep H j∈H:=λj hj=>wJ hj;obtain⟨u,hu,su⟩:=qRv hc hp hq (show p.Y<=y by omega) (show y<=q.Y by omega);obtain⟨d,hd,sd⟩:=qRJ hc hp hq (show p.Y<=y by omega) (show y<=q.Y by omega);exact lin_two su sd (h _ (mp u hu)) (h _ (mq u)) (h _ (mp d hd)) (h _ (mq d)) (hin u hu) (hin d hd)
theorem chord_spec (a:List qA) (lo hi:Int):(QB a lo hi=⟨0,0⟩/\∀X,hull a≠[]->lo<hi->¬(inH (hull a) X lo/\inH (hull a) X hi/\inH (hull a) (X+1) lo/\inH (hull a) (X+1) hi))\/
  (hull a≠[]/\lo<hi/\(QB a lo hi).A<(QB a lo hi).B/\∀X,((QB a lo hi).A<=X/\X<=(QB a lo hi).B)↔(inH (hull a) X lo/\inH (hull a) X hi)):=by
 by_cases h0:hull a=[]
 ·exact .inl ⟨by unfold QB;rw[if_pos (.inl h0)],λX h=>absurd h0 h⟩
 have hb:=qDn h0;have hc:=qBw h0;by_cases h1:hi<=lo
 ·exact .inl ⟨by unfold QB;rw[if_pos (.inr (.inl h1))],λX _ h=>by omega⟩
 by_cases h2:lo<(bounds (hull a)).Y.A
 ·exact .inl ⟨by unfold QB;rw[if_pos (.inr (.inr (.inl h2)))],λX _ _ h=>by have:=(qPF hc hb h.1).1;omega⟩
 by_cases h3:(bounds (hull a)).Y.B<hi
 ·exact .inl ⟨by unfold QB;rw[if_pos (.inr (.inr (.inr h3)))],λX _ _ h=>by have:=(qPF hc hb h.2.1).2;omega⟩
 have i1:∀X,X<=imin (atS (hull a) lo).2 (atS (hull a) hi).2↔X<=(atS (hull a) lo).2/\X<=(atS (hull a) hi).2:=λX=>qXk;have i2:∀X,imax (atS (hull a) lo).1 (atS (hull a) hi).1<=X↔(atS (hull a) lo).1<=X/\(atS (hull a) hi).1<=X:=λX=>qXx;have k1:=qZd hc hb (y:=lo) (by omega) (by omega);have k2:=qZd hc hb (y:=hi) (by omega) (by omega);have key:∀X,(imax (atS (hull a) lo).1 (atS (hull a) hi).1<=X/\X<=imin (atS (hull a) lo).2 (atS (hull a) hi).2)↔(inH (hull a) X lo/\inH (hull a) X hi):=λX=>by
  rw[i1,i2,<-k1 X,<-k2 X];constructor
  ·rintro⟨⟨a1,a2⟩,a3,a4⟩;exact⟨⟨a1,a3⟩,a2,a4⟩
  ·rintro⟨⟨a1,a2⟩,a3,a4⟩;exact⟨⟨a1,a3⟩,a2,a4⟩
 by_cases h4:imin (atS (hull a) lo).2 (atS (hull a) hi).2<=imax (atS (hull a) lo).1 (atS (hull a) hi).1
 ·refine .inl ⟨by unfold QB;rw[if_neg (by simp only[h0,false_or];omega),if_pos h4],λX _ _ h=>?_⟩;have q1:=(key X).2 ⟨h.1,h.2.1⟩;have q2:=(key (X+1)).2 h.2.2;omega
 ·have e:QB a lo hi=⟨imax (atS (hull a) lo).1 (atS (hull a) hi).1,imin (atS (hull a) lo).2 (atS (hull a) hi).2⟩:=by
   unfold QB;rw[if_neg (by simp only[h0,false_or];omega),if_neg h4]
  rw[e];exact .inr ⟨h0,by omega,by simp only;omega,key⟩
structure Walk (pts w:List qA) (m M:qA):Prop where
 left:qGW pts w
 turns:qBi w
 asc:QH w
 sub:∀p∈w,p∈pts
 first:w.head? =some m
 last:w.getLast? =some M
theorem ends {s:List qA} (hs:QH s) (hne:s≠[]):∃m M,m∈s/\M∈s/\(∀p∈s,p=m\/pLt m p)/\(∀p∈s,p=M\/pLt p M):=by
 induction s with
 |nil=>exact absurd rfl hne
 |cons a s ih=>
  obtain⟨h1,h2⟩:=kO.1 hs;by_cases h:s=[]
  ·subst h;exact⟨a,a,by simp,by simp,by simp,by simp⟩
  ·obtain⟨m,M,hm,hM,t1,t2⟩:=ih h2 h;refine⟨a,M,by simp,kG _ hM,λp hp=>?_,λp hp=>?_⟩
   ·rcases kW.1 hp with rfl|hp
    ·exact .inl rfl
    ·exact .inr (h1 p hp)
   ·rcases kW.1 hp with rfl|hp
    ·exact .inr (h1 M hM)
    ·exact t2 p hp
theorem qXf {H:List qA} (hc:Cvx H) {X y:Int} (h:inH H X y): -600<=X/\X<=600:=by
 have a:=qQv hc h (al:=1) (be:=0) (c:=600) (λp hp=>by have:=hc.rg p hp;unfold lin;omega);have b:=qQv hc h (al:= -1) (be:=0) (c:=600) (λp hp=>by have:=hc.rg p hp;unfold lin;omega);unfold lin at a b;simp only at a b;omega
theorem qSw (p:List qA) (lo hi:Int):rngS (QB p lo hi)=true/\nrm (QB p lo hi)=QB p lo hi:=by
 rcases chord_spec p lo hi with⟨e,_⟩|⟨h0,h1,h2,h3⟩
 ·rw[e];exact⟨rfl,rfl⟩
 ·have k1:=(h3 _).1 ⟨kX _,df h2⟩;have k2:=(h3 _).1 ⟨df h2,kX _⟩;have r1:=qXf (qBw h0) k1.1;have r2:=qXf (qBw h0) k2.1;refine⟨qTZ.2 (by omega),qUr ?_⟩;unfold empS;exact kf (by omega)
noncomputable def ofS (p:List qA):qG:=qBa (λj=>QB p (10*((j:Int)-60)) (10*((j:Int)-60+1)))
theorem VS_of' (p:List qA):VS (ofS p):=qZ7 (λj _=>by rw[(qSw _ _ _).2];exact(qSw _ _ _).1)
theorem qZN (p:List qA):FA p=some (ofS p):=by
 have m1:∀r:Int,-60<=r->r<60->HX r p=some (QB p (10*r) (10*(r+1))):=λr h1 h2=>by
  unfold HX XU;rw[w64_o (n:=r+1) (by omega),w64_o (by omega),w64_o (by omega)];simp only[kd,qVF]
 unfold FA;refine qSH (λj=>QB p (10*((j:Int)-60)) (10*((j:Int)-60+1))) (jE p) (λn x u w l hx=>?_) (λn u w l=>?_)
 ·rw[jE,ki (show(x:Int)-60<60 by omega),m1 _ (by omega) (by omega)];simp only[kp,kd,VI,BP,RY]
 ·rw[jE];rfl
theorem qSk {p:List qA} {lo hi:Int} (h:(∀q∈p,lo<q.Y)\/(∀q∈p,q.Y<hi)):QB p lo hi=⟨0,0⟩:=by
 rcases chord_spec p lo hi with⟨e,_⟩|⟨h0,h1,h2,h3⟩
 ·exact e
 ·have k1:=(h3 _).1 ⟨kX _,df h2⟩;have hb:=qDn h0;have y1:=qPF (qBw h0) hb k1.1;have y2:=qPF (qBw h0) hb k1.2;obtain⟨u,hu,eu⟩:=hb.lo;obtain⟨v,hv,ev⟩:=hb.hi;rcases h with h|h
  ·have:=h u (qJj hu);omega
  ·have:=h v (qJj hv);omega
theorem of_L1 (p:List qA) (hl:p.length<=1000) (y:Int):∃lo hi,zaQ p FUEL y y 0=some (lo,hi)/\∀q∈p,lo<=q.Y/\q.Y<=hi:=by
 have k:=qF1 p (λn (s:Int×Int) x=>zaQ p n s.1 s.2 x) (λx=>(x:Int)) (λ_ a s=>(imin s.1 a.Y,imax s.2 a.Y)) (λs=>s) (λx s=>∀j,j<x->s.1<=(p.getD j du).Y/\(p.getD j du).Y<=s.2) (by omega)
  (λn x s hx hi=>by
   refine⟨?_,λj hj=>?_⟩
   ·rw[zaQ,ki (show(x:Int)<_ by omega),zR (by omega),wH (by omega)];rfl
   ·have a1:=qBA s.1 (p.getD x du).Y;have a2:=qHZ s.2 (p.getD x du).Y;simp only;by_cases hjx:j=x
    ·subst hjx;omega
    ·have:=hi j (by omega);omega)
  (λn s _=>by rw[zaQ];simp) (i:=0) rfl (y,y) (λj hj=>by omega)
 refine⟨_,_,k.1,λq hq=>?_⟩;obtain⟨i,hi,e⟩:=uK.1 hq;have:=k.2 i hi;rw[ka,ks hi,kF,e] at this;exact this
theorem of_L2 (p:List qA) (o:Int×Int) (ho:∀q∈p,o.1<=q.Y/\q.Y<=o.2):(WN p o FUEL [] (-60)).bind (λl=>UA (-60) l)=some (ofS p):=by
 have k:=qF1 (List.range 120) (λn (l:List Span) x=>WN p o n l x) (λx=>(x:Int)-60) (λx (_:Nat) l=>l++[QB p (10*((x:Int)-60)) (10*((x:Int)-60+1))]) (λl=>l) (λx l=>l.length=x) (by simp)
  (λn x l hx hi=>by
   have hx':x<120:=by simpa using hx
   refine⟨?_,by simp[hi]⟩;have e3:w64 ((x:Int)-60+1)=((x+1:Nat):Int)-60:=by rw[w64_o (by omega)];omega
   have k4:∀z,qCM l ((x:Int)-60) (WN p o n) z=WN p o n (l++[z]) (((x+1:Nat):Int)-60):=λz=>by
    unfold qCM;rw[yC (by omega),e3];rfl
   rw[WN,ki (show(x:Int)-60<60 by omega),w64_o (n:=(x:Int)-60+1) (by omega),w64_o (n:=10*((x:Int)-60)) (by omega),w64_o (n:=10*((x:Int)-60+1)) (by omega)];simp only[kp,qHd,k4];rw[w64_o (n:=(x:Int)-60+1) (by omega),w64_o (n:=10*((x:Int)-60)) (by omega),w64_o (n:=10*((x:Int)-60+1)) (by omega),qWU];simp only[kd];by_cases c1:10*((x:Int)-60)≥o.1
   ·rw[ki c1];by_cases c2:10*((x:Int)-60+1)<=o.2
    ·rw[ki c2];rfl
    ·rw[kf c2,qSk (.inr λq hq=>by have:=(ho q hq).2;omega)];rfl
   ·rw[kf c1,qSk (.inl λq hq=>by have:=(ho q hq).1;omega)];rfl)
  (λn l _=>by
   have e:(((List.range 120).length:Nat):Int)-60=60:=by rw[uD];rfl
   simp only[e];rw[WN];rfl) (i:= -60) rfl [] rfl
 rw[qKR (λx (_:Nat)=>QB p (10*((x:Int)-60)) (10*((x:Int)-60+1))),uw] at k;rw[k.1];simp only[kd];rw[qPv _ (by rw[qOz];simp)];have e:qBa (λj=>(mapi (λx (_:Nat)=>QB p (10*((x:Int)-60)) (10*((x:Int)-60+1))) 0 (List.range 120)).getD j du)=ofS p:=by
  unfold ofS;refine qHk (λj hj=>?_);rw[qNZ _ _ _ _ (by rw[uD];exact hj),kB]
 rw[e]
noncomputable def ofR (p:List qA):qG×Int:=if chk p=0 then(if(ofS p).Rows=[] then(nilS,18) else(ofS p,0)) else(nilS,chk p)
theorem Of_eq (p:List qA) (hl:p.length<=40):qAv p=some (ofR p)/\qNf p=some (ofR p):=by
 unfold qAv qNf ofR;rw[(qY3 p).1,(qY3 p).2,qZN];simp only[kd];by_cases hc:chk p=0
 ·rw[show(chk p !=0)=false by simpa using hc,if_pos hc];have h3:3<=p.length:=by
   refine Classical.byContradiction λhn=>?_;unfold chk at hc;rw[ki (show(p.length:Int)<3 by omega)] at hc;exact absurd hc (by intro h;simp at h)
  obtain⟨lo,hi,k1,k2⟩:=of_L1 p (by omega) (p.getD 0 du).Y;have k3:=of_L2 p (lo,hi) k2;rw[zR (by omega)];simp only[kv,kp,gB,k1,kd];cases hL:WN p (lo,hi) FUEL [] (-60) with
  |none=>rw[hL] at k3;cases k3
  |some l=>
   rw[hL] at k3;simp only[kd] at k3⊢;rw[k3];simp only[kd];by_cases he:(ofS p).Rows=[]
   ·rw[if_pos he,he];exact⟨rfl,rfl⟩
   ·have e0:(((ofS p).Rows.length:Int)==0)=false:=by
     have:0<(ofS p).Rows.length:=uq.2 he;rw[kT];omega
    rw[if_neg he,e0];exact⟨rfl,rfl⟩
 ·rw[show(chk p !=0)=true by simpa using hc,if_neg hc];exact⟨rfl,rfl⟩
theorem ofR_VS (p:List qA):VS (ofR p).1:=by
 unfold ofR;split
 ·split
  ·exact qKP
  ·exact VS_of' p
 ·exact qKP
end Saw
end Go.SL

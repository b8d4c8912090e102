/- Poly's plain mathematics, part 28: both chords. -/
import Derived.Test.YtigmogcdifllhaaGreatDoorEMa7
import Derived.Test.YtigmogcdifllhaaGreatDoorEMa5
set_option linter.unusedVariables false
set_option linter.unusedSimpArgs false
namespace Go.SL
namespace Saw
def atS (H:List qA) (y:Int):Int×Int:=pS H y 0 H.length ((bounds H).X.A,(bounds H).X.B)
theorem qIK {p q:qA} (h1:¬p.Y<q.Y) (h2:¬q.Y<p.Y) (X y:Int):cross p q ⟨X,y⟩=(q.X-p.X)*(y-p.Y):=by
 have e:q.Y-p.Y=0:=by omega
 unfold cross;rw[e];simp
theorem qWI {H:List qA} (hc:Cvx H) {y:Int} (hy:(∀p∈H,y<p.Y)\/(∀p∈H,p.Y<y)):∃r:Int×Int,(rS H y 0 H.length (-600,600)= .inl r\/rS H y 0 H.length (-600,600)= .inr r)/\r.2<r.1:=by
 rcases rS_spec H y H.length 0 (-600,600) with⟨_,e⟩|⟨nb,r',e,g1,g2⟩
 ·exact⟨(1,0),.inl e,by decide⟩
 ·refine⟨r',.inr e,Classical.byContradiction λhn=>?_⟩;have k1:=(g1 r'.1).1 (kV _);have k2:=(g2 r'.1).1 (by omega);refine qOh hc hy (λj hj=>nb j (by omega) (by omega)) r'.1 (λj hj=>?_);by_cases c1:(Ep H j).Y<(Eq' H j).Y
  ·exact(qBI c1 _ _).1 (k2.2 j (by omega) (by omega) c1)
  ·by_cases c2:(Eq' H j).Y<(Ep H j).Y
   ·exact(qBu c2 _ _).1 (k1.2 j (by omega) (by omega) c2)
   ·have:=nb j (by omega) (by omega);rw[qIK c1 c2];refine Classical.byContradiction λh=>this ⟨c1,c2,by omega⟩
theorem qYF {H:List qA} (hc:Cvx H) {lo hi:Int} (hb:YB H lo hi) {y:Int} (h1:lo<=y) (h2:y<=hi) (X:Int):((atS H y).1<=X/\X<=(atS H y).2)↔inH H X y:=by
 obtain⟨p,hp,ep⟩:=hb.lo;obtain⟨q,hq,eq⟩:=hb.hi;have be:=qWX hc hp hq (show p.Y<=y by omega) (show y<=q.Y by omega) ((bounds H).X.A,(bounds H).X.B);rcases rS_spec H y H.length 0 (-600,600) with⟨_,e⟩|⟨nb,r',e,g1,g2⟩
 ·rw[be] at e;cases e
 ·rw[be] at e;have e':atS H y=r':=Sum.inr.inj e;rw[e',g1 X,g2 X];constructor
  ·rintro⟨⟨_,k1⟩,_,k2⟩ j hj;by_cases c1:(Ep H j).Y<(Eq' H j).Y
   ·exact(qBI c1 _ _).1 (k2 j (by omega) (by omega) c1)
   ·by_cases c2:(Eq' H j).Y<(Ep H j).Y
    ·exact(qBu c2 _ _).1 (k1 j (by omega) (by omega) c2)
    ·have:=nb j (by omega) (by omega);rw[qIK c1 c2];refine Classical.byContradiction λh=>this ⟨c1,c2,by omega⟩
  ·intro hin;have hn:=hc.n3;have mq:∀j,Eq' H j∈H:=λj=>wG (kJ _ (by omega));have mp:∀j,j<H.length->Ep H j∈H:=λj hj=>wG hj;obtain⟨u,hu,su⟩:=qQQ hc hp hq (show p.Y<=y by omega) (show y<=q.Y by omega);obtain⟨d,hd,sd⟩:=qQD hc hp hq (show p.Y<=y by omega) (show y<=q.Y by omega);have b1:=qZe (hc.rg _ (mp u hu)) (hc.rg _ (mq u)) su;have b2:=qYG (hc.rg _ (mp d hd)) (hc.rg _ (mq d)) sd;have b3:=(qBI su.1 X y).2 (hin u hu);have b4:=(qBu sd.1 X y).2 (hin d hd)
   exact⟨⟨by show-600<=X;omega,λj j1 j2 j3=>(qBu j3 X y).2 (hin j (by omega))⟩,by show X<=600;omega,λj j1 j2 j3=>(qBI j3 X y).2 (hin j (by omega))⟩
theorem qPs {H:List qA} (hc:Cvx H) {lo hi:Int} (hb:YB H lo hi) {X y:Int} (h:inH H X y):lo<=y/\y<=hi:=by
 have nb:∀j,j<H.length->¬bad (Ep H j) (Eq' H j) y:=λj hj hb=>by
  have:=h j hj;rw[qIK hb.1 hb.2.1] at this;have:=hb.2.2;omega
 refine⟨Classical.byContradiction λhn=>?_,Classical.byContradiction λhn=>?_⟩
 ·exact qOh hc (.inl λp hp=>by have:=(hb.all p hp).1;omega) nb X h
 ·exact qOh hc (.inr λp hp=>by have:=(hb.all p hp).2;omega) nb X h
def yX (a:List qA) (lo hi:Int):Span:=
 if hull a=[]\/hi<=lo\/lo<(bounds (hull a)).Y.A\/(bounds (hull a)).Y.B<hi then⟨0,0⟩
 else if imin (atS (hull a) lo).2 (atS (hull a) hi).2<=imax (atS (hull a) lo).1 (atS (hull a) hi).1 then⟨0,0⟩
 else⟨imax (atS (hull a) lo).1 (atS (hull a) hi).1,imin (atS (hull a) lo).2 (atS (hull a) hi).2⟩
theorem YB.rg {H:List qA} {lo hi:Int} (hb:YB H lo hi) (hr:∀p∈H,rng p): -600<=lo/\hi<=600:=by
 obtain⟨p,hp,ep⟩:=hb.lo;obtain⟨q,hq,eq⟩:=hb.hi;have h1:=hr p hp;have h2:=hr q hq;omega
theorem qPE (a:List qA):(hull a).length<=64:=by
 by_cases h:hull a=[]
 ·rw[h];simp
 ·have:=(qHY h).1;have:=qZT a;omega
theorem qXh {H:List qA} (hr:∀p∈H,rng p) {y:Int} (hy: -600<=y/\y<=600) (hl:H.length<=64):GJ y (bounds H) H=some (atS H y):=by
 have:=qPo H y hr hy (by omega) H.length FUEL 0 ((bounds H).X.A,(bounds H).X.B) (by omega) (by rw[FUEL_eq];omega);unfold GJ;rw[show((0:Nat):Int)=0 from rfl] at this;simp only at this;rw[this];rfl
theorem qUy (a:List qA) (lo hi:Int):qA9 a lo hi=some (yX a lo hi):=by
 have hl:=qPE a;unfold qA9 TJ yX;rw[qWu];simp only[kd,(qZj (hull a) (by omega)).1];by_cases h0:hull a=[]
 ·rw[h0];simp
 have e0:(((hull a).length:Int)==0)=false:=by
  have:0<(hull a).length:=um.2 h0;rw[kL];omega
 have hb:=qDe h0;have hbr:=hb.rg (λp hp=>VB hp);rw[e0];by_cases h1:hi<=lo
 ·rw[ki (show lo≥hi from h1),if_pos (.inr (.inl h1))];rfl
 rw[kf (show¬lo≥hi from h1)];by_cases h2:lo<(bounds (hull a)).Y.A
 ·rw[ki h2,if_pos (.inr (.inr (.inl h2)))];rfl
 rw[kf h2];by_cases h3:(bounds (hull a)).Y.B<hi
 ·rw[ki (show hi>(bounds (hull a)).Y.B from h3),if_pos (.inr (.inr (.inr h3)))];rfl
 rw[kf (show¬hi>(bounds (hull a)).Y.B from h3),if_neg (by simp only[h0,false_or];omega)];rw[qXh (λp hp=>VB hp) (show-600<=lo/\lo<=600 by omega) hl,qXh (λp hp=>VB hp) (show-600<=hi/\hi<=600 by omega) hl];simp only[ku,kd];by_cases h4:imin (atS (hull a) lo).2 (atS (hull a) hi).2<=imax (atS (hull a) lo).1 (atS (hull a) hi).1
 ·rw[ki (show _≥_ from h4),if_pos h4];rfl
 ·rw[kf (show¬_≥_ from h4),if_neg h4];rfl
theorem qCC {H:List qA} (hr:∀p∈H,rng p) {y:Int} (hy: -600<=y/\y<=600) (hl:H.length<=64):∀r,(rS H y 0 H.length (-600,600)= .inl r\/rS H y 0 H.length (-600,600)= .inr r)->HB H y=some r:=by
 intro r h;have:=qMB H y hr hy (by omega) H.length FUEL 0 (-600) 600 (by omega) (by rw[FUEL_eq];omega);unfold HB;rw[show((0:Nat):Int)=0 from rfl] at this;rw[this];rcases h with h|h<;>rw[h]<;>rfl
theorem qWc (a:List qA) (lo hi:Int):qGY a lo hi=some (yX a lo hi):=by
 have hl:=qPE a;unfold qGY VY yX;rw[qXU];simp only[kd];by_cases h0:hull a=[]
 ·rw[h0];simp
 have e0:(((hull a).length:Int)==0)=false:=by
  have:0<(hull a).length:=um.2 h0;rw[kL];omega
 have hb:=qDe h0;have hbr:=hb.rg (λp hp=>VB hp);have hc:=qBq h0;rw[e0];by_cases h1:hi<=lo
 ·rw[ki (show lo≥hi from h1),if_pos (.inr (.inl h1))];rfl
 rw[kf (show¬lo≥hi from h1)];by_cases h2:lo< -600
 ·rw[ki h2,if_pos (.inr (.inr (.inl (by omega))))];rfl
 rw[kf h2];by_cases h3:600<hi
 ·rw[ki (show hi>600 from h3),if_pos (.inr (.inr (.inr (by omega))))];rfl
 rw[kf (show¬hi>600 from h3)];simp only[ku];have some_r:∀y,∃r,(rS (hull a) y 0 (hull a).length (-600,600)= .inl r\/rS (hull a) y 0 (hull a).length (-600,600)= .inr r):=λy=>by
  cases h:rS (hull a) y 0 (hull a).length (-600,600) with
  |inl r=>exact⟨r,.inl rfl⟩
  |inr r=>exact⟨r,.inr rfl⟩
 have inner:∀y,(bounds (hull a)).Y.A<=y->y<=(bounds (hull a)).Y.B->HB (hull a) y=some (atS (hull a) y):=λy y1 y2=>by
  obtain⟨p,hp,ep⟩:=hb.lo;obtain⟨q,hq,eq⟩:=hb.hi;exact qCC (λp hp=>VB hp) (by omega) hl _ (.inr (qWX hc hp hq (by omega) (by omega) _))
 by_cases h4:lo<(bounds (hull a)).Y.A
 ·rw[if_pos (.inr (.inr (.inl h4)))];obtain⟨r,hr,hlt⟩:=qWI hc (y:=lo) (.inl λp hp=>by have:=(hb.all p hp).1;omega);obtain⟨r2,hr2⟩:=some_r hi;rw[qCC (λp hp=>VB hp) (by omega) hl _ hr,qCC (λp hp=>VB hp) (by omega) hl _ hr2];simp only[kd];rw[ki (show r.1>r.2 from hlt)];rfl
 by_cases h5:(bounds (hull a)).Y.B<hi
 ·rw[if_pos (.inr (.inr (.inr h5)))];obtain⟨r2,hr2,hlt⟩:=qWI hc (y:=hi) (.inr λp hp=>by have:=(hb.all p hp).2;omega);obtain⟨r,hr⟩:=some_r lo;rw[qCC (λp hp=>VB hp) (by omega) hl _ hr,qCC (λp hp=>VB hp) (by omega) hl _ hr2];simp only[kd];rw[ki (show r2.1>r2.2 from hlt)];cases decide (r.1>r.2)<;>rfl
 rw[if_neg (by simp only[h0,false_or];omega),inner lo (by omega) (by omega),inner hi (by omega) (by omega)];simp only[kd,SS];have i1:∀a b:Int,imin a b<=a/\imin a b<=b:=λa b=>by unfold imin;split<;>omega
 have i2:∀a b:Int,a<=imax a b/\b<=imax a b:=λa b=>by unfold imax;split<;>omega
 have m1:=i1 (atS (hull a) lo).2 (atS (hull a) hi).2;have m2:=i2 (atS (hull a) lo).1 (atS (hull a) hi).1;by_cases h6:(atS (hull a) lo).1>(atS (hull a) lo).2
 ·rw[ki h6,if_pos (by omega)];rfl
 rw[kf h6];by_cases h7:(atS (hull a) hi).1>(atS (hull a) hi).2
 ·rw[ki h7,if_pos (by omega)];rfl
 rw[kf h7];by_cases h8:imin (atS (hull a) lo).2 (atS (hull a) hi).2<=imax (atS (hull a) lo).1 (atS (hull a) hi).1
 ·rw[ki (show _≥_ from h8),if_pos h8];rfl
 ·rw[kf (show¬_≥_ from h8),if_neg h8];rfl
def lin (al be c:Int) (p:qA):Int:=al*p.X+be*p.Y+c
theorem qYX (al be c:Int) (p q:qA) (X y:Int):(q.Y-p.Y)*lin al be c ⟨X,y⟩=(q.Y-y)*lin al be c p+(y-p.Y)*lin al be c q-al*cross p q ⟨X,y⟩:=by unfold lin cross;grind
theorem qZa {al be c:Int} {p q:qA} {X y:Int} (h:spU p q y) (hp:0<=lin al be c p) (hq:0<=lin al be c q) (ha:al<=0) (hx:0<=cross p q ⟨X,y⟩):0<=lin al be c ⟨X,y⟩:=by
 obtain⟨h1,h2,h3⟩:=h;refine Classical.byContradiction λhn=>?_;have e:=qYX al be c p q X y;have a1:=kB (show 0<=q.Y-y by omega) hp;have a2:=kB (show 0<=y-p.Y by omega) hq;have a3:=kB (show 0<=-al by omega) hx;have a4:=uX (show 0<q.Y-p.Y by omega) (show 0< -lin al be c ⟨X,y⟩ by omega);rw[Int.mul_neg] at a4;rw[Int.neg_mul] at a3;omega
theorem qYi {al be c:Int} {p q:qA} {X y:Int} (h:spD p q y) (hp:0<=lin al be c p) (hq:0<=lin al be c q) (ha:0<=al) (hx:0<=cross p q ⟨X,y⟩):0<=lin al be c ⟨X,y⟩:=by
 obtain⟨h1,h2,h3⟩:=h;refine Classical.byContradiction λhn=>?_;have e:=qYX al be c p q X y;have a1:=kB (show 0<=-(q.Y-y) by omega) hp;have a2:=kB (show 0<=-(y-p.Y) by omega) hq;have a3:=kB ha hx;have a4:=uX (show 0< -(q.Y-p.Y) by omega) (show 0< -lin al be c ⟨X,y⟩ by omega);rw[Int.neg_mul_neg] at a4;rw[Int.neg_mul] at a1 a2;omega
theorem lin_two {al be c:Int} {p q p' q':qA} {X y:Int} (h:spU p q y) (h':spD p' q' y) (hp:0<=lin al be c p) (hq:0<=lin al be c q) (hp':0<=lin al be c p') (hq':0<=lin al be c q')
  (hx:0<=cross p q ⟨X,y⟩) (hx':0<=cross p' q' ⟨X,y⟩):0<=lin al be c ⟨X,y⟩:=by
 by_cases ha:al<=0
 ·exact qZa h hp hq ha hx
 ·exact qYi h' hp' hq' (by omega) hx'
theorem qQn {H:List qA} (hc:Cvx H) {X y:Int} (hin:inH H X y) {al be c:Int} (h:∀p∈H,0<=lin al be c p):0<=lin al be c ⟨X,y⟩:=by
 have hn:=hc.n3;have hne:H≠[]:=λe=>by rw[e] at hn;simp at hn
 have hb:=qDe hne;have hy:=qPs hc hb hin;obtain⟨p,hp,ep⟩:=hb.lo;obtain⟨q,hq,eq⟩:=hb.hi;have mq:∀j,Eq' H j∈H:=λj=>wG (kJ _ (by omega));have mp:∀j,j<H.length->Ep H j∈H:=λj hj=>wG hj;obtain⟨u,hu,su⟩:=qQQ hc hp hq (show p.Y<=y by omega) (show y<=q.Y by omega);obtain⟨d,hd,sd⟩:=qQD hc hp hq (show p.Y<=y by omega) (show y<=q.Y by omega);exact lin_two su sd (h _ (mp u hu)) (h _ (mq u)) (h _ (mp d hd)) (h _ (mq d)) (hin u hu) (hin d hd)
theorem chord_spec (a:List qA) (lo hi:Int):(yX a lo hi=⟨0,0⟩/\∀X,hull a≠[]->lo<hi->¬(inH (hull a) X lo/\inH (hull a) X hi/\inH (hull a) (X+1) lo/\inH (hull a) (X+1) hi))\/
  (hull a≠[]/\lo<hi/\(yX a lo hi).A<(yX a lo hi).B/\∀X,((yX a lo hi).A<=X/\X<=(yX a lo hi).B)↔(inH (hull a) X lo/\inH (hull a) X hi)):=by
 by_cases h0:hull a=[]
 ·exact .inl ⟨by unfold yX;rw[if_pos (.inl h0)],λX h=>absurd h0 h⟩
 have hb:=qDe h0;have hc:=qBq h0;by_cases h1:hi<=lo
 ·exact .inl ⟨by unfold yX;rw[if_pos (.inr (.inl h1))],λX _ h=>by omega⟩
 by_cases h2:lo<(bounds (hull a)).Y.A
 ·exact .inl ⟨by unfold yX;rw[if_pos (.inr (.inr (.inl h2)))],λX _ _ h=>by have:=(qPs hc hb h.1).1;omega⟩
 by_cases h3:(bounds (hull a)).Y.B<hi
 ·exact .inl ⟨by unfold yX;rw[if_pos (.inr (.inr (.inr h3)))],λX _ _ h=>by have:=(qPs hc hb h.2.1).2;omega⟩
 have i1:∀X,X<=imin (atS (hull a) lo).2 (atS (hull a) hi).2↔X<=(atS (hull a) lo).2/\X<=(atS (hull a) hi).2:=λX=>qXf;have i2:∀X,imax (atS (hull a) lo).1 (atS (hull a) hi).1<=X↔(atS (hull a) lo).1<=X/\(atS (hull a) hi).1<=X:=λX=>qXl;have k1:=qYF hc hb (y:=lo) (by omega) (by omega);have k2:=qYF hc hb (y:=hi) (by omega) (by omega);have key:∀X,(imax (atS (hull a) lo).1 (atS (hull a) hi).1<=X/\X<=imin (atS (hull a) lo).2 (atS (hull a) hi).2)↔(inH (hull a) X lo/\inH (hull a) X hi):=λX=>by
  rw[i1,i2,<-k1 X,<-k2 X];constructor
  ·rintro⟨⟨a1,a2⟩,a3,a4⟩;exact⟨⟨a1,a3⟩,a2,a4⟩
  ·rintro⟨⟨a1,a2⟩,a3,a4⟩;exact⟨⟨a1,a3⟩,a2,a4⟩
 by_cases h4:imin (atS (hull a) lo).2 (atS (hull a) hi).2<=imax (atS (hull a) lo).1 (atS (hull a) hi).1
 ·refine .inl ⟨by unfold yX;rw[if_neg (by simp only[h0,false_or];omega),if_pos h4],λX _ _ h=>?_⟩;have q1:=(key X).2 ⟨h.1,h.2.1⟩;have q2:=(key (X+1)).2 h.2.2;omega
 ·have e:yX a lo hi=⟨imax (atS (hull a) lo).1 (atS (hull a) hi).1,imin (atS (hull a) lo).2 (atS (hull a) hi).2⟩:=by
   unfold yX;rw[if_neg (by simp only[h0,false_or];omega),if_neg h4]
  rw[e];exact .inr ⟨h0,by omega,by simp only;omega,key⟩
structure Walk (pts w:List qA) (m M:qA):Prop where
 left:qFO pts w
 turns:qAu w
 asc:QA w
 sub:∀p∈w,p∈pts
 first:w.head? =some m
 last:w.getLast? =some M
theorem ends {s:List qA} (hs:QA s) (hne:s≠[]):∃m M,m∈s/\M∈s/\(∀p∈s,p=m\/pLt m p)/\(∀p∈s,p=M\/pLt p M):=by
 induction s with
 |nil=>exact absurd rfl hne
 |cons a s ih=>
  obtain⟨h1,h2⟩:=kP.1 hs;by_cases h:s=[]
  ·subst h;exact⟨a,a,by simp,by simp,by simp,by simp⟩
  ·obtain⟨m,M,hm,hM,t1,t2⟩:=ih h2 h;refine⟨a,M,by simp,kF _ hM,λp hp=>?_,λp hp=>?_⟩
   ·rcases kW.1 hp with rfl|hp
    ·exact .inl rfl
    ·exact .inr (h1 p hp)
   ·rcases kW.1 hp with rfl|hp
    ·exact .inr (h1 M hM)
    ·exact t2 p hp
theorem qW3 {H:List qA} (hc:Cvx H) {X y:Int} (h:inH H X y): -600<=X/\X<=600:=by
 have a:=qQn hc h (al:=1) (be:=0) (c:=600) (λp hp=>by have:=hc.rg p hp;unfold lin;omega);have b:=qQn hc h (al:= -1) (be:=0) (c:=600) (λp hp=>by have:=hc.rg p hp;unfold lin;omega);unfold lin at a b;simp only at a b;omega
theorem qRR (p:List qA) (lo hi:Int):rngS (yX p lo hi)=true/\nrm (yX p lo hi)=yX p lo hi:=by
 rcases chord_spec p lo hi with⟨e,_⟩|⟨h0,h1,h2,h3⟩
 ·rw[e];exact⟨rfl,rfl⟩
 ·have k1:=(h3 _).1 ⟨kV _,db h2⟩;have k2:=(h3 _).1 ⟨db h2,kV _⟩;have r1:=qW3 (qBq h0) k1.1;have r2:=qW3 (qBq h0) k2.1;refine⟨qVD.2 (by omega),qVi ?_⟩;unfold empS;exact kf (by omega)
noncomputable def ofS (p:List qA):qH:=qAN (λj=>yX p (10*((j:Int)-60)) (10*((j:Int)-60+1)))
theorem VS_of' (p:List qA):VS (ofS p):=qZY (λj _=>by rw[(qRR _ _ _).2];exact(qRR _ _ _).1)
theorem qZv (p:List qA):NB p=some (ofS p):=by
 have m1:∀r:Int,-60<=r->r<60->HC r p=some (yX p (10*r) (10*(r+1))):=λr h1 h2=>by
  unfold HC XK;rw[w64_o (n:=r+1) (by omega),w64_o (by omega),w64_o (by omega)];simp only[kd,qUy]
 unfold NB;refine qRX (λj=>yX p (10*((j:Int)-60)) (10*((j:Int)-60+1))) (jE p) (λn x u w l hx=>?_) (λn u w l=>?_)
 ·rw[jE,ki (show(x:Int)-60<60 by omega),m1 _ (by omega) (by omega)];simp only[kp,kd,UA,BH,RB]
 ·rw[jE];rfl
theorem qSd {p:List qA} {lo hi:Int} (h:(∀q∈p,lo<q.Y)\/(∀q∈p,q.Y<hi)):yX p lo hi=⟨0,0⟩:=by
 rcases chord_spec p lo hi with⟨e,_⟩|⟨h0,h1,h2,h3⟩
 ·exact e
 ·have k1:=(h3 _).1 ⟨kV _,db h2⟩;have hb:=qDe h0;have y1:=qPs (qBq h0) hb k1.1;have y2:=qPs (qBq h0) hb k1.2;obtain⟨u,hu,eu⟩:=hb.lo;obtain⟨v,hv,ev⟩:=hb.hi;rcases h with h|h
  ·have:=h u (qIL hu);omega
  ·have:=h v (qIL hv);omega
theorem of_L1 (p:List qA) (hl:p.length<=1000) (y:Int):∃lo hi,NS p FUEL y y 0=some (lo,hi)/\∀q∈p,lo<=q.Y/\q.Y<=hi:=by
 have k:=qGp p (λn (s:Int×Int) x=>NS p n s.1 s.2 x) (λx=>(x:Int)) (λ_ a s=>(imin s.1 a.Y,imax s.2 a.Y)) (λs=>s) (λx s=>∀j,j<x->s.1<=(p.getD j dd).Y/\(p.getD j dd).Y<=s.2) (by omega)
  (λn x s hx hi=>by
   refine⟨?_,λj hj=>?_⟩
   ·rw[NS,ki (show(x:Int)<_ by omega),zS (by omega),wF (by omega)];rfl
   ·have a1:=qB0 s.1 (p.getD x dd).Y;have a2:=qHw s.2 (p.getD x dd).Y;simp only;by_cases hjx:j=x
    ·subst hjx;omega
    ·have:=hi j (by omega);omega)
  (λn s _=>by rw[NS];simp) (i:=0) rfl (y,y) (λj hj=>by omega)
 refine⟨_,_,k.1,λq hq=>?_⟩;obtain⟨i,hi,e⟩:=uH.1 hq;have:=k.2 i hi;rw[ka,kq hi,kE,e] at this;exact this
theorem of_L2 (p:List qA) (o:Int×Int) (ho:∀q∈p,o.1<=q.Y/\q.Y<=o.2):(WM p o FUEL [] (-60)).bind (λl=>TB (-60) l)=some (ofS p):=by
 have k:=qGp (List.range 120) (λn (l:List Span) x=>WM p o n l x) (λx=>(x:Int)-60) (λx (_:Nat) l=>l++[yX p (10*((x:Int)-60)) (10*((x:Int)-60+1))]) (λl=>l) (λx l=>l.length=x) (by simp)
  (λn x l hx hi=>by
   have hx':x<120:=by simpa using hx
   refine⟨?_,by simp[hi]⟩;have e3:w64 ((x:Int)-60+1)=((x+1:Nat):Int)-60:=by rw[w64_o (by omega)];omega
   have k4:∀z,qCi l ((x:Int)-60) (WM p o n) z=WM p o n (l++[z]) (((x+1:Nat):Int)-60):=λz=>by
    unfold qCi;rw[ZF (by omega),e3];rfl
   rw[WM,ki (show(x:Int)-60<60 by omega),w64_o (n:=(x:Int)-60+1) (by omega),w64_o (n:=10*((x:Int)-60)) (by omega),w64_o (n:=10*((x:Int)-60+1)) (by omega)];simp only[kp,qHa,k4];rw[w64_o (n:=(x:Int)-60+1) (by omega),w64_o (n:=10*((x:Int)-60)) (by omega),w64_o (n:=10*((x:Int)-60+1)) (by omega),qWc];simp only[kd];by_cases c1:10*((x:Int)-60)≥o.1
   ·rw[ki c1];by_cases c2:10*((x:Int)-60+1)<=o.2
    ·rw[ki c2];rfl
    ·rw[kf c2,qSd (.inr λq hq=>by have:=(ho q hq).2;omega)];rfl
   ·rw[kf c1,qSd (.inl λq hq=>by have:=(ho q hq).1;omega)];rfl)
  (λn l _=>by
   have e:(((List.range 120).length:Nat):Int)-60=60:=by rw[uB];rfl
   simp only[e];rw[WM];rfl) (i:= -60) rfl [] rfl
 rw[qKy (λx (_:Nat)=>yX p (10*((x:Int)-60)) (10*((x:Int)-60+1))),ur] at k;rw[k.1];simp only[kd];rw[qOq _ (by rw[qM3];simp)];have e:qAN (λj=>(mapi (λx (_:Nat)=>yX p (10*((x:Int)-60)) (10*((x:Int)-60+1))) 0 (List.range 120)).getD j dd)=ofS p:=by
  unfold ofS;refine qGU (λj hj=>?_);rw[qNX _ _ _ _ (by rw[uB];exact hj),kz]
 rw[e]
noncomputable def ofR (p:List qA):qH×Int:=if chk p=0 then(if(ofS p).Rows=[] then(nilS,18) else(ofS p,0)) else(nilS,chk p)
theorem Of_eq (p:List qA) (hl:p.length<=40):qAO p=some (ofR p)/\qNh p=some (ofR p):=by
 unfold qAO qNh ofR;rw[(qYA p).1,(qYA p).2,qZv];simp only[kd];by_cases hc:chk p=0
 ·rw[show(chk p !=0)=false by simpa using hc,if_pos hc];have h3:3<=p.length:=by
   refine Classical.byContradiction λhn=>?_;unfold chk at hc;rw[ki (show(p.length:Int)<3 by omega)] at hc;exact absurd hc (by intro h;simp at h)
  obtain⟨lo,hi,k1,k2⟩:=of_L1 p (by omega) (p.getD 0 dd).Y;have k3:=of_L2 p (lo,hi) k2;rw[zS (by omega)];simp only[ku,kp,gA,k1,kd];cases hL:WM p (lo,hi) FUEL [] (-60) with
  |none=>rw[hL] at k3;cases k3
  |some l=>
   rw[hL] at k3;simp only[kd] at k3⊢;rw[k3];simp only[kd];by_cases he:(ofS p).Rows=[]
   ·rw[if_pos he,he];exact⟨rfl,rfl⟩
   ·have e0:(((ofS p).Rows.length:Int)==0)=false:=by
     have:0<(ofS p).Rows.length:=um.2 he;rw[kL];omega
    rw[if_neg he,e0];exact⟨rfl,rfl⟩
 ·rw[show(chk p !=0)=true by simpa using hc,if_neg hc];exact⟨rfl,rfl⟩
theorem ofR_VS (p:List qA):VS (ofR p).1:=by
 unfold ofR;split
 ·split
  ·exact qKV
  ·exact VS_of' p
 ·exact qKV
end Saw
end Go.SL

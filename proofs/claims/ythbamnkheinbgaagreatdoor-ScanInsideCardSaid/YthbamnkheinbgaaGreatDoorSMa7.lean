/- Poly's plain mathematics, part 28: both chords. -/
import Derived.Test.YthbamnkheinbgaaGreatDoorSMa6
import Derived.Test.YthbamnkheinbgaaGreatDoorSMa4
set_option linter.unusedVariables false
set_option linter.unusedSimpArgs false
namespace Go.SL
namespace Saw
def atS (H:List qA) (y:Int):Int×Int:=pS H y 0 H.length ((bounds H).X.A,(bounds H).X.B)
theorem qBs {p q:qA} (h1:¬p.Y<q.Y) (h2:¬q.Y<p.Y) (X y:Int):cross p q ⟨X,y⟩=(q.X-p.X)*(y-p.Y):=by
 have e:q.Y-p.Y=0:=by omega
 unfold cross;rw[e];simp
theorem qMo {H:List qA} (hc:Cvx H) {y:Int} (hy:(∀p∈H,y<p.Y)\/(∀p∈H,p.Y<y)):∃r:Int×Int,(rS H y 0 H.length (-600,600)= .inl r\/rS H y 0 H.length (-600,600)= .inr r)/\r.2<r.1:=by
 rcases rS_spec H y H.length 0 (-600,600) with⟨_,e⟩|⟨nb,r',e,g1,g2⟩
 ·exact⟨(1,0),.inl e,by decide⟩
 ·refine⟨r',.inr e,Classical.byContradiction λhn=>?_⟩;have k1:=(g1 r'.1).1 (un _);have k2:=(g2 r'.1).1 (by omega);refine qFi hc hy (λj hj=>nb j (by omega) (by omega)) r'.1 (λj hj=>?_);by_cases c1:(Ep H j).Y<(Eq' H j).Y
  ·exact(FN c1 _ _).1 (k2.2 j (by omega) (by omega) c1)
  ·by_cases c2:(Eq' H j).Y<(Ep H j).Y
   ·exact(FZ c2 _ _).1 (k1.2 j (by omega) (by omega) c2)
   ·have:=nb j (by omega) (by omega);rw[qBs c1 c2];refine Classical.byContradiction λh=>this ⟨c1,c2,by omega⟩
theorem qOh {H:List qA} (hc:Cvx H) {lo hi:Int} (hb:YB H lo hi) {y:Int} (h1:lo<=y) (h2:y<=hi) (X:Int):((atS H y).1<=X/\X<=(atS H y).2)↔inH H X y:=by
 obtain⟨p,hp,ep⟩:=hb.lo;obtain⟨q,hq,eq⟩:=hb.hi;have be:=qMa hc hp hq (show p.Y<=y by omega) (show y<=q.Y by omega) ((bounds H).X.A,(bounds H).X.B);rcases rS_spec H y H.length 0 (-600,600) with⟨_,e⟩|⟨nb,r',e,g1,g2⟩
 ·rw[be] at e;cases e
 ·rw[be] at e;have e':atS H y=r':=Sum.inr.inj e;rw[e',g1 X,g2 X];constructor
  ·rintro⟨⟨_,k1⟩,_,k2⟩ j hj;by_cases c1:(Ep H j).Y<(Eq' H j).Y
   ·exact(FN c1 _ _).1 (k2 j (by omega) (by omega) c1)
   ·by_cases c2:(Eq' H j).Y<(Ep H j).Y
    ·exact(FZ c2 _ _).1 (k1 j (by omega) (by omega) c2)
    ·have:=nb j (by omega) (by omega);rw[qBs c1 c2];refine Classical.byContradiction λh=>this ⟨c1,c2,by omega⟩
  ·intro hin;have hn:=hc.n3;have mq:∀j,Eq' H j∈H:=λj=>qY (kH _ (by omega));have mp:∀j,j<H.length->Ep H j∈H:=λj hj=>qY hj;obtain⟨u,hu,su⟩:=qDU hc hp hq (show p.Y<=y by omega) (show y<=q.Y by omega);obtain⟨d,hd,sd⟩:=qHq hc hp hq (show p.Y<=y by omega) (show y<=q.Y by omega);have b1:=qNw (hc.rg _ (mp u hu)) (hc.rg _ (mq u)) su;have b2:=qNh (hc.rg _ (mp d hd)) (hc.rg _ (mq d)) sd;have b3:=(FN su.1 X y).2 (hin u hu);have b4:=(FZ sd.1 X y).2 (hin d hd);exact⟨⟨by show-600<=X;omega,λj j1 j2 j3=>(FZ j3 X y).2 (hin j (by omega))⟩,by show X<=600;omega,λj j1 j2 j3=>(FN j3 X y).2 (hin j (by omega))⟩
theorem qD0 {H:List qA} (hc:Cvx H) {lo hi:Int} (hb:YB H lo hi) {X y:Int} (h:inH H X y):lo<=y/\y<=hi:=by
 have nb:∀j,j<H.length->¬bad (Ep H j) (Eq' H j) y:=λj hj hb=>by
  have:=h j hj;rw[qBs hb.1 hb.2.1] at this;have:=hb.2.2;omega
 refine⟨Classical.byContradiction λhn=>?_,Classical.byContradiction λhn=>?_⟩
 ·exact qFi hc (.inl λp hp=>by have:=(hb.all p hp).1;omega) nb X h
 ·exact qFi hc (.inr λp hp=>by have:=(hb.all p hp).2;omega) nb X h
def zM (a:List qA) (lo hi:Int):Span:=
 if hull a=[]\/hi<=lo\/lo<(bounds (hull a)).Y.A\/(bounds (hull a)).Y.B<hi then⟨0,0⟩
 else if imin (atS (hull a) lo).2 (atS (hull a) hi).2<=imax (atS (hull a) lo).1 (atS (hull a) hi).1 then⟨0,0⟩
 else⟨imax (atS (hull a) lo).1 (atS (hull a) hi).1,imin (atS (hull a) lo).2 (atS (hull a) hi).2⟩
theorem YB.rg {H:List qA} {lo hi:Int} (hb:YB H lo hi) (hr:∀p∈H,rng p): -600<=lo/\hi<=600:=by
 obtain⟨p,hp,ep⟩:=hb.lo;obtain⟨q,hq,eq⟩:=hb.hi;have h1:=hr p hp;have h2:=hr q hq;omega
theorem qFS (a:List qA):(hull a).length<=64:=by
 by_cases h:hull a=[]
 ·rw[h];simp
 ·have:=(FO h).1;have:=qOL a;omega
theorem qLU {H:List qA} (hr:∀p∈H,rng p) {y:Int} (hy: -600<=y/\y<=600) (hl:H.length<=64):YP y (bounds H) H=some (atS H y):=by
 have:=qFO H y hr hy (by omega) H.length FUEL 0 ((bounds H).X.A,(bounds H).X.B) (by omega) (by rw[FUEL_eq];omega);unfold YP;rw[show((0:Nat):Int)=0 from rfl] at this;simp only at this;rw[this];rfl
theorem qJ6 (a:List qA) (lo hi:Int):BY a lo hi=some (zM a lo hi):=by
 have hl:=qFS a;unfold BY WY zM;rw[qEF];simp only[kd,(qNM (hull a) (by omega)).1];by_cases h0:hull a=[]
 ·rw[h0];simp
 have e0:(((hull a).length:Int)==0)=false:=by
  have:0<(hull a).length:=uf.2 h0;rw[ue];omega
 have hb:=BF h0;have hbr:=hb.rg (λp hp=>YI hp);rw[e0];by_cases h1:hi<=lo
 ·rw[kg (show lo≥hi from h1),if_pos (.inr (.inl h1))];rfl
 rw[kf (show¬lo≥hi from h1)];by_cases h2:lo<(bounds (hull a)).Y.A
 ·rw[kg h2,if_pos (.inr (.inr (.inl h2)))];rfl
 rw[kf h2];by_cases h3:(bounds (hull a)).Y.B<hi
 ·rw[kg (show hi>(bounds (hull a)).Y.B from h3),if_pos (.inr (.inr (.inr h3)))];rfl
 rw[kf (show¬hi>(bounds (hull a)).Y.B from h3),if_neg (by simp only[h0,false_or];omega)];rw[qLU (λp hp=>YI hp) (show-600<=lo/\lo<=600 by omega) hl,qLU (λp hp=>YI hp) (show-600<=hi/\hi<=600 by omega) hl];simp only[ku,kd];by_cases h4:imin (atS (hull a) lo).2 (atS (hull a) hi).2<=imax (atS (hull a) lo).1 (atS (hull a) hi).1
 ·rw[kg (show _≥_ from h4),if_pos h4];rfl
 ·rw[kf (show¬_≥_ from h4),if_neg h4];rfl
theorem HN {H:List qA} (hr:∀p∈H,rng p) {y:Int} (hy: -600<=y/\y<=600) (hl:H.length<=64):∀r,(rS H y 0 H.length (-600,600)= .inl r\/rS H y 0 H.length (-600,600)= .inr r)->TL H y=some r:=by
 intro r h;have:=qEM H y hr hy (by omega) H.length FUEL 0 (-600) 600 (by omega) (by rw[FUEL_eq];omega);unfold TL;rw[show((0:Nat):Int)=0 from rfl] at this;rw[this];rcases h with h|h<;>rw[h]<;>rfl
theorem qLK (a:List qA) (lo hi:Int):qAL a lo hi=some (zM a lo hi):=by
 have hl:=qFS a;unfold qAL XD zM;rw[qNa];simp only[kd];by_cases h0:hull a=[]
 ·rw[h0];simp
 have e0:(((hull a).length:Int)==0)=false:=by
  have:0<(hull a).length:=uf.2 h0;rw[ue];omega
 have hb:=BF h0;have hbr:=hb.rg (λp hp=>YI hp);have hc:=TI h0;rw[e0];by_cases h1:hi<=lo
 ·rw[kg (show lo≥hi from h1),if_pos (.inr (.inl h1))];rfl
 rw[kf (show¬lo≥hi from h1)];by_cases h2:lo< -600
 ·rw[kg h2,if_pos (.inr (.inr (.inl (by omega))))];rfl
 rw[kf h2];by_cases h3:600<hi
 ·rw[kg (show hi>600 from h3),if_pos (.inr (.inr (.inr (by omega))))];rfl
 rw[kf (show¬hi>600 from h3)];simp only[ku];have some_r:∀y,∃r,(rS (hull a) y 0 (hull a).length (-600,600)= .inl r\/rS (hull a) y 0 (hull a).length (-600,600)= .inr r):=λy=>by
  cases h:rS (hull a) y 0 (hull a).length (-600,600) with
  |inl r=>exact⟨r,.inl rfl⟩
  |inr r=>exact⟨r,.inr rfl⟩
 have inner:∀y,(bounds (hull a)).Y.A<=y->y<=(bounds (hull a)).Y.B->TL (hull a) y=some (atS (hull a) y):=λy y1 y2=>by
  obtain⟨p,hp,ep⟩:=hb.lo;obtain⟨q,hq,eq⟩:=hb.hi;exact HN (λp hp=>YI hp) (by omega) hl _ (.inr (qMa hc hp hq (by omega) (by omega) _))
 by_cases h4:lo<(bounds (hull a)).Y.A
 ·rw[if_pos (.inr (.inr (.inl h4)))];obtain⟨r,hr,hlt⟩:=qMo hc (y:=lo) (.inl λp hp=>by have:=(hb.all p hp).1;omega);obtain⟨r2,hr2⟩:=some_r hi;rw[HN (λp hp=>YI hp) (by omega) hl _ hr,HN (λp hp=>YI hp) (by omega) hl _ hr2];simp only[kd];rw[kg (show r.1>r.2 from hlt)];rfl
 by_cases h5:(bounds (hull a)).Y.B<hi
 ·rw[if_pos (.inr (.inr (.inr h5)))];obtain⟨r2,hr2,hlt⟩:=qMo hc (y:=hi) (.inr λp hp=>by have:=(hb.all p hp).2;omega);obtain⟨r,hr⟩:=some_r lo;rw[HN (λp hp=>YI hp) (by omega) hl _ hr,HN (λp hp=>YI hp) (by omega) hl _ hr2];simp only[kd];rw[kg (show r2.1>r2.2 from hlt)];cases decide (r.1>r.2)<;>rfl
 rw[if_neg (by simp only[h0,false_or];omega),inner lo (by omega) (by omega),inner hi (by omega) (by omega)];simp only[kd,UP];have i1:∀a b:Int,imin a b<=a/\imin a b<=b:=λa b=>by unfold imin;split<;>omega
 have i2:∀a b:Int,a<=imax a b/\b<=imax a b:=λa b=>by unfold imax;split<;>omega
 have m1:=i1 (atS (hull a) lo).2 (atS (hull a) hi).2;have m2:=i2 (atS (hull a) lo).1 (atS (hull a) hi).1;by_cases h6:(atS (hull a) lo).1>(atS (hull a) lo).2
 ·rw[kg h6,if_pos (by omega)];rfl
 rw[kf h6];by_cases h7:(atS (hull a) hi).1>(atS (hull a) hi).2
 ·rw[kg h7,if_pos (by omega)];rfl
 rw[kf h7];by_cases h8:imin (atS (hull a) lo).2 (atS (hull a) hi).2<=imax (atS (hull a) lo).1 (atS (hull a) hi).1
 ·rw[kg (show _≥_ from h8),if_pos h8];rfl
 ·rw[kf (show¬_≥_ from h8),if_neg h8];rfl
def lin (al be c:Int) (p:qA):Int:=al*p.X+be*p.Y+c
theorem qGQ (al be c:Int) (p q:qA) (X y:Int):(q.Y-p.Y)*lin al be c ⟨X,y⟩=(q.Y-y)*lin al be c p+(y-p.Y)*lin al be c q-al*cross p q ⟨X,y⟩:=by unfold lin cross;grind
theorem QP (u v p:qA):cross u v p=lin (-(v.Y-u.Y)) (v.X-u.X) (u.X*(v.Y-u.Y)-(v.X-u.X)*u.Y) p:=by unfold lin cross;grind
theorem qNH {al be c:Int} {p q:qA} {X y:Int} (h:spU p q y) (hp:0<=lin al be c p) (hq:0<=lin al be c q) (ha:al<=0) (hx:0<=cross p q ⟨X,y⟩):0<=lin al be c ⟨X,y⟩:=by
 obtain⟨h1,h2,h3⟩:=h;refine Classical.byContradiction λhn=>?_;have e:=qGQ al be c p q X y;have a1:=kv (show 0<=q.Y-y by omega) hp;have a2:=kv (show 0<=y-p.Y by omega) hq;have a3:=kv (show 0<=-al by omega) hx;have a4:=ui (show 0<q.Y-p.Y by omega) (show 0< -lin al be c ⟨X,y⟩ by omega);rw[uW] at a4;rw[uL] at a3;omega
theorem qNu {al be c:Int} {p q:qA} {X y:Int} (h:spD p q y) (hp:0<=lin al be c p) (hq:0<=lin al be c q) (ha:0<=al) (hx:0<=cross p q ⟨X,y⟩):0<=lin al be c ⟨X,y⟩:=by
 obtain⟨h1,h2,h3⟩:=h;refine Classical.byContradiction λhn=>?_;have e:=qGQ al be c p q X y;have a1:=kv (show 0<=-(q.Y-y) by omega) hp;have a2:=kv (show 0<=-(y-p.Y) by omega) hq;have a3:=kv ha hx;have a4:=ui (show 0< -(q.Y-p.Y) by omega) (show 0< -lin al be c ⟨X,y⟩ by omega);rw[Int.neg_mul_neg] at a4;rw[uL] at a1 a2;omega
theorem qL0 {al be c:Int} {p q p' q':qA} {X y:Int} (h:spU p q y) (h':spD p' q' y) (hp:0<=lin al be c p) (hq:0<=lin al be c q) (hp':0<=lin al be c p') (hq':0<=lin al be c q')
  (hx:0<=cross p q ⟨X,y⟩) (hx':0<=cross p' q' ⟨X,y⟩):0<=lin al be c ⟨X,y⟩:=by
 by_cases ha:al<=0
 ·exact qNH h hp hq ha hx
 ·exact qNu h' hp' hq' (by omega) hx'
theorem UF {H:List qA} (hc:Cvx H) {X y:Int} (hin:inH H X y) {al be c:Int} (h:∀p∈H,0<=lin al be c p):0<=lin al be c ⟨X,y⟩:=by
 have hn:=hc.n3;have hne:H≠[]:=λe=>by rw[e] at hn;simp at hn
 have hb:=BF hne;have hy:=qD0 hc hb hin;obtain⟨p,hp,ep⟩:=hb.lo;obtain⟨q,hq,eq⟩:=hb.hi;have mq:∀j,Eq' H j∈H:=λj=>qY (kH _ (by omega));have mp:∀j,j<H.length->Ep H j∈H:=λj hj=>qY hj;obtain⟨u,hu,su⟩:=qDU hc hp hq (show p.Y<=y by omega) (show y<=q.Y by omega);obtain⟨d,hd,sd⟩:=qHq hc hp hq (show p.Y<=y by omega) (show y<=q.Y by omega);exact qL0 su sd (h _ (mp u hu)) (h _ (mq u)) (h _ (mp d hd)) (h _ (mq d)) (hin u hu) (hin d hd)
theorem chord_spec (a:List qA) (lo hi:Int):(zM a lo hi=⟨0,0⟩/\∀X,hull a≠[]->lo<hi->¬(inH (hull a) X lo/\inH (hull a) X hi/\inH (hull a) (X+1) lo/\inH (hull a) (X+1) hi))\/
  (hull a≠[]/\lo<hi/\(zM a lo hi).A<(zM a lo hi).B/\∀X,((zM a lo hi).A<=X/\X<=(zM a lo hi).B)↔(inH (hull a) X lo/\inH (hull a) X hi)):=by
 by_cases h0:hull a=[]
 ·exact .inl ⟨by unfold zM;rw[if_pos (.inl h0)],λX h=>absurd h0 h⟩
 have hb:=BF h0;have hc:=TI h0;by_cases h1:hi<=lo
 ·exact .inl ⟨by unfold zM;rw[if_pos (.inr (.inl h1))],λX _ h=>by omega⟩
 by_cases h2:lo<(bounds (hull a)).Y.A
 ·exact .inl ⟨by unfold zM;rw[if_pos (.inr (.inr (.inl h2)))],λX _ _ h=>by have:=(qD0 hc hb h.1).1;omega⟩
 by_cases h3:(bounds (hull a)).Y.B<hi
 ·exact .inl ⟨by unfold zM;rw[if_pos (.inr (.inr (.inr h3)))],λX _ _ h=>by have:=(qD0 hc hb h.2.1).2;omega⟩
 have i1:∀X,X<=imin (atS (hull a) lo).2 (atS (hull a) hi).2↔X<=(atS (hull a) lo).2/\X<=(atS (hull a) hi).2:=λX=>qLX;have i2:∀X,imax (atS (hull a) lo).1 (atS (hull a) hi).1<=X↔(atS (hull a) lo).1<=X/\(atS (hull a) hi).1<=X:=λX=>qL1;have k1:=qOh hc hb (y:=lo) (by omega) (by omega);have k2:=qOh hc hb (y:=hi) (by omega) (by omega);have key:∀X,(imax (atS (hull a) lo).1 (atS (hull a) hi).1<=X/\X<=imin (atS (hull a) lo).2 (atS (hull a) hi).2)↔(inH (hull a) X lo/\inH (hull a) X hi):=λX=>by
  rw[i1,i2,<-k1 X,<-k2 X];constructor
  ·rintro⟨⟨a1,a2⟩,a3,a4⟩;exact⟨⟨a1,a3⟩,a2,a4⟩
  ·rintro⟨⟨a1,a2⟩,a3,a4⟩;exact⟨⟨a1,a3⟩,a2,a4⟩
 by_cases h4:imin (atS (hull a) lo).2 (atS (hull a) hi).2<=imax (atS (hull a) lo).1 (atS (hull a) hi).1
 ·refine .inl ⟨by unfold zM;rw[if_neg (by simp only[h0,false_or];omega),if_pos h4],λX _ _ h=>?_⟩;have q1:=(key X).2 ⟨h.1,h.2.1⟩;have q2:=(key (X+1)).2 h.2.2;omega
 ·have e:zM a lo hi=⟨imax (atS (hull a) lo).1 (atS (hull a) hi).1,imin (atS (hull a) lo).2 (atS (hull a) hi).2⟩:=by
   unfold zM;rw[if_neg (by simp only[h0,false_or];omega),if_neg h4]
  rw[e];exact .inr ⟨h0,by omega,by simp only;omega,key⟩
theorem qMT {dx dy ex ey al be:Int} (hd:pos dx dy) (he:pos ex ey) (ha:0<al) (hb:0<=be) (h1:al*ex= -(be*dx)) (h2:al*ey= -(be*dy)):False:=by
 unfold pos at hd he;rcases he with he|⟨he,he'⟩
 ·have a1:=ui ha he;have a2:=kv hb (show 0<=dx by omega);omega
 ·have a1:=ui ha he';rw[he,Int.mul_zero] at h1;rcases hd with hd|⟨hd,hd'⟩
  ·have b0:be=0:=by
    rcases Int.mul_eq_zero.1 (show be*dx=0 by omega) with h|h
    ·exact h
    ·omega
   rw[b0] at h2;simp at h2;omega
  ·have a2:=kv hb (show 0<=dy by omega);omega
theorem qB2 {pts:List qA} {u v:qA}:∀{l r:List qA},EZ pts (l++u::v::r)->∀q∈pts,0<=cross u v q
 |[],r,h=>h.1
 |[_],r,h=>h.2.1
 |_::b::l,r,h=>qB2 (l:=b::l) h.2
theorem qH3 {u v w:qA}:∀{l r:List qA},VL (l++u::v::w::r)->0<cross u v w
 |[],r,h=>h.1
 |[_],r,h=>h.2.1
 |[_,_],r,h=>h.2.2.1
 |_::b::c::l,r,h=>qH3 (l:=b::c::l) h.2
theorem qOi {c p1 p2 p3:qA} (h1:pLt c p1) (h2:pLt p1 p2) (h0:cross c p1 p2=0) (h3:0<cross c p1 p3) (h4:0<=cross p1 p3 p2):False:=by
 have k1:=jR h1;have k2:=jR h2;refine qMT k1 k2 h3 h4 ?_ ?_
 ·have:cross c p1 p3*(p2.X-p1.X)+cross p1 p3 p2*(p1.X-c.X)=cross c p1 p2*(p3.X-p1.X):=by unfold cross;grind
  rw[h0] at this;omega
 ·have:cross c p1 p3*(p2.Y-p1.Y)+cross p1 p3 p2*(p1.Y-c.Y)=cross c p1 p2*(p3.Y-p1.Y):=by unfold cross;grind
  rw[h0] at this;omega
structure Walk (pts w:List qA) (m M:qA):Prop where
 left:EZ pts w
 turns:VL w
 asc:wI w
 sub:∀p∈w,p∈pts
 first:w.head? =some m
 last:w.getLast? =some M
theorem qKT {s:List qA} (hs:wI s):(hullOf s).Nodup:=by
 by_cases h5:(chainR s).length+(chainR s.reverse).length<5
 ·unfold hullOf;rw[if_pos h5];exact List.nodup_nil
 obtain⟨m,M,lo,up,e1,e2,hm,hM,tm,tM,hlt,⟨r1,g1⟩,⟨r2,g2⟩,hH⟩:=qDl hs h5;have hi:=BM hs;have hu:=qDb hs;have d1:=hi.desc;have d2:=hu.asc;rw[e1,Desc,kN] at d1;rw[e2,wI,kN] at d2;rw[hH,List.nodup_append];refine⟨?_,?_,?_⟩
 ·rw[List.Nodup,uG];exact d1.2.imp (λh e=>by rw[e] at h;exact pLt_irrefl _ h)
 ·rw[List.Nodup,uG];exact d2.2.imp (λh e=>by rw[e] at h;exact pLt_irrefl _ h)
 ·intro p hp q hq e;subst e;have pM:pLt p M:=d1.1 p (by simpa using hp);have mp:pLt m p:=d2.1 p (by simpa using hq);have L1:=FY hi.left;have T1:=SG hi.turns;have L2:=FY hu.left;rw[e1,kO] at L1 T1;rw[e2,kO] at L2;have before:∀{x:qA} {l r:List qA},l=x::r->p∈l->p≠x->∃k1 u k2,l=k1++u::p::k2:=by
   intro x l r hl hpl hne;obtain⟨k1,k2,e⟩:=List.append_of_mem hpl;rcases List.eq_nil_or_concat k1 with rfl|⟨k,u,rfl⟩
   ·rw[hl] at e;injection e with e _;exact absurd e.symm hne
   ·exact⟨k,u,k2,by rw[e];simp⟩
  obtain⟨k1,u,k2,f1⟩:=before g1 hp (λe=>by rw[e] at mp;exact pLt_irrefl _ mp);obtain⟨k3,z,k4,f2⟩:=before g2 hq (λe=>by rw[e] at pM;exact pLt_irrefl _ pM);have hup:pLt u p:=by
   have:(lo.reverse).Pairwise pLt:=uG.2 d1.2;rw[f1,gv] at this;exact(kN.1 this.2.1).1 p (by simp)
  have hpz:pLt p z:=by
   have:(up.reverse).Pairwise (λa b=>pLt b a):=uG.2 d2.2;rw[f2,gv] at this;exact(kN.1 this.2.1).1 p (by simp)
  have us:u∈s:=hi.sub u (by rw[e1];exact kz _ (by rw[<-gx,f1];simp));have zs:z∈s:=hu.sub z (by rw[e2];exact kz _ (by rw[<-gx,f2];simp));obtain⟨v,k5,f3⟩:∃v k5,k2++[M]=v::k5:=by cases k2 with|nil=>exact⟨M,[],rfl⟩|cons v k=>exact⟨v,k++[M],rfl⟩
  have f4:lo.reverse++[M]=k1++u::p::v::k5:=by rw[f1,kK,uv,uv,f3]
  rw[f4] at L1 T1;rw[f2,kK] at L2;have a1:=qB2 L1 z zs;have a2:0<=cross p v z:=qB2 (l:=k1++[u]) (by rw[kK];exact L1) z zs;have a3:=qH3 T1;have a4:=qB2 (l:=k3) L2 u us;have e0:cross u p z=0:=by
   have:cross z p u= -cross u p z:=by unfold cross;grind
   omega
  exact qOi hup hpz e0 a3 a2
theorem ends {s:List qA} (hs:wI s) (hne:s≠[]):∃m M,m∈s/\M∈s/\(∀p∈s,p=m\/pLt m p)/\(∀p∈s,p=M\/pLt p M):=by
 induction s with
 |nil=>exact absurd rfl hne
 |cons a s ih=>
  obtain⟨h1,h2⟩:=kN.1 hs;by_cases h:s=[]
  ·subst h;exact⟨a,a,by simp,by simp,by simp,by simp⟩
  ·obtain⟨m,M,hm,hM,t1,t2⟩:=ih h2 h;refine⟨a,M,by simp,kz _ hM,λp hp=>?_,λp hp=>?_⟩
   ·rcases kU.1 hp with rfl|hp
    ·exact .inl rfl
    ·exact .inr (h1 p hp)
   ·rcases kU.1 hp with rfl|hp
    ·exact .inr (h1 M hM)
    ·exact t2 p hp
theorem qOd {l s:List qA} (hn:l.Nodup) (hs:∀p∈l,p∈s):l.length<=s.length:=by
 induction l generalizing s with
 |nil=>simp
 |cons a l ih=>
  obtain⟨h1,h2⟩:=List.nodup_cons.1 hn;obtain⟨k1,k2,e⟩:=List.append_of_mem (hs a (by simp));have:=ih h2 (s:=k1++k2) (λp hp=>by
   have:=hs p (kz _ hp);rw[e,um,kU] at this;rcases this with h|h|h
   ·simp[h]
   ·rw[h] at hp;exact absurd hp h1
   ·simp[h])
  rw[e];simp only[ul,uS] at this⊢;omega
theorem qGB (a:List qA):(hull a).Nodup:=by
 by_cases h:hull a=[]
 ·rw[h];exact List.nodup_nil
 ·rw[(FO h).2.2.1];exact qKT (UG a)
theorem hull_le (a:List qA):(hull a).length<=a.length:=qOd (qGB a) (λp hp=>AS hp)
theorem qMf {H:List qA} (hc:Cvx H) {X y:Int} (h:inH H X y): -600<=X/\X<=600:=by
 have a:=UF hc h (al:=1) (be:=0) (c:=600) (λp hp=>by have:=hc.rg p hp;unfold lin;omega);have b:=UF hc h (al:= -1) (be:=0) (c:=600) (λp hp=>by have:=hc.rg p hp;unfold lin;omega);unfold lin at a b;simp only at a b;omega
theorem qCL (p:List qA) (lo hi:Int):rngS (zM p lo hi)=true/\nrm (zM p lo hi)=zM p lo hi:=by
 rcases chord_spec p lo hi with⟨e,_⟩|⟨h0,h1,h2,h3⟩
 ·rw[e];exact⟨rfl,rfl⟩
 ·have k1:=(h3 _).1 ⟨un _,gw h2⟩;have k2:=(h3 _).1 ⟨gw h2,un _⟩;have r1:=qMf (TI h0) k1.1;have r2:=qMf (TI h0) k2.1;refine⟨qFG.2 (by omega),qFP ?_⟩;unfold empS;exact kf (by omega)
noncomputable def ofS (p:List qA):qC:=GH (λj=>zM p (10*((j:Int)-60)) (10*((j:Int)-60+1)))
theorem qDj (p:List qA):VS (ofS p):=qKI (λj _=>by rw[(qCL _ _ _).2];exact(qCL _ _ _).1)
theorem qNT (p:List qA) (r:Int):row (ofS p) r=if-60<=r/\r<60 then zM p (10*r) (10*(r+1)) else⟨0,0⟩:=by
 unfold ofS;rw[qIf (λr=>zM p (10*r) (10*(r+1))),(qCL _ _ _).2]
theorem qO0 (p:List qA):PA p=some (ofS p):=by
 have m1:∀r:Int,-60<=r->r<60->RM r p=some (zM p (10*r) (10*(r+1))):=λr h1 h2=>by
  unfold RM RG;rw[qQ (n:=r+1) (by omega),qQ (by omega),qQ (by omega)];simp only[kd,qJ6]
 unfold PA;refine qId (λj=>zM p (10*((j:Int)-60)) (10*((j:Int)-60+1))) (zT p) (λn x u w l hx=>?_) (λn u w l=>?_)
 ·rw[zT,kg (show(x:Int)-60<60 by omega),m1 _ (by omega) (by omega)];simp only[ko,kd,JX,KF,WE]
 ·rw[zT];rfl
theorem qIC {p:List qA} {lo hi:Int} (h:(∀q∈p,lo<q.Y)\/(∀q∈p,q.Y<hi)):zM p lo hi=⟨0,0⟩:=by
 rcases chord_spec p lo hi with⟨e,_⟩|⟨h0,h1,h2,h3⟩
 ·exact e
 ·have k1:=(h3 _).1 ⟨un _,gw h2⟩;have hb:=BF h0;have y1:=qD0 (TI h0) hb k1.1;have y2:=qD0 (TI h0) hb k1.2;obtain⟨u,hu,eu⟩:=hb.lo;obtain⟨v,hv,ev⟩:=hb.hi;rcases h with h|h
  ·have:=h u (AS hu);omega
  ·have:=h v (AS hv);omega
theorem of_L1 (p:List qA) (hl:p.length<=1000) (y:Int):∃lo hi,PO p FUEL y y 0=some (lo,hi)/\∀q∈p,lo<=q.Y/\q.Y<=hi:=by
 have k:=SR p (λn (s:Int×Int) x=>PO p n s.1 s.2 x) (λx=>(x:Int)) (λ_ a s=>(imin s.1 a.Y,imax s.2 a.Y)) (λs=>s) (λx s=>∀j,j<x->s.1<=(p.getD j dd).Y/\(p.getD j dd).Y<=s.2) (by omega)
  (λn x s hx hi=>by
   refine⟨?_,λj hj=>?_⟩
   ·rw[PO,kg (show(x:Int)<_ by omega),qX (by omega),zQ (by omega)];rfl
   ·have a1:=qDZ s.1 (p.getD x dd).Y;have a2:=qDR s.2 (p.getD x dd).Y;simp only;by_cases hjx:j=x
    ·subst hjx;omega
    ·have:=hi j (by omega);omega)
  (λn s _=>by rw[PO];simp) (i:=0) rfl (y,y) (λj hj=>by omega)
 refine⟨_,_,k.1,λq hq=>?_⟩;obtain⟨i,hi,e⟩:=uI.1 hq;have:=k.2 i hi;rw[ka,kq hi,kF,e] at this;exact this
theorem of_L2 (p:List qA) (o:Int×Int) (ho:∀q∈p,o.1<=q.Y/\q.Y<=o.2):(jV p o FUEL [] (-60)).bind (λl=>JD (-60) l)=some (ofS p):=by
 have k:=SR (List.range 120) (λn (l:List Span) x=>jV p o n l x) (λx=>(x:Int)-60) (λx (_:Nat) l=>l++[zM p (10*((x:Int)-60)) (10*((x:Int)-60+1))]) (λl=>l) (λx l=>l.length=x) (by simp)
  (λn x l hx hi=>by
   have hx':x<120:=by simpa using hx
   refine⟨?_,by simp[hi]⟩;have e3:w64 ((x:Int)-60+1)=((x+1:Nat):Int)-60:=by rw[qQ (by omega)];omega
   have k4:∀z,MP l ((x:Int)-60) (jV p o n) z=jV p o n (l++[z]) (((x+1:Nat):Int)-60):=λz=>by
    unfold MP;rw[JY (by omega),e3];rfl
   rw[jV,kg (show(x:Int)-60<60 by omega),qQ (n:=(x:Int)-60+1) (by omega),qQ (n:=10*((x:Int)-60)) (by omega),qQ (n:=10*((x:Int)-60+1)) (by omega)];simp only[ko,qAE,k4];rw[qQ (n:=(x:Int)-60+1) (by omega),qQ (n:=10*((x:Int)-60)) (by omega),qQ (n:=10*((x:Int)-60+1)) (by omega),qLK];simp only[kd];by_cases c1:10*((x:Int)-60)≥o.1
   ·rw[kg c1];by_cases c2:10*((x:Int)-60+1)<=o.2
    ·rw[kg c2];rfl
    ·rw[kf c2,qIC (.inr λq hq=>by have:=(ho q hq).2;omega)];rfl
   ·rw[kf c1,qIC (.inl λq hq=>by have:=(ho q hq).1;omega)];rfl)
  (λn l _=>by
   have e:(((List.range 120).length:Nat):Int)-60=60:=by rw[uD];rfl
   simp only[e];rw[jV];rfl) (i:= -60) rfl [] rfl
 rw[qAl (λx (_:Nat)=>zM p (10*((x:Int)-60)) (10*((x:Int)-60+1))),uu] at k;rw[k.1];simp only[kd];rw[qGs _ (by rw[qFd];simp)];have e:GH (λj=>(mapi (λx (_:Nat)=>zM p (10*((x:Int)-60)) (10*((x:Int)-60+1))) 0 (List.range 120)).getD j dd)=ofS p:=by
  unfold ofS;refine qAI (λj hj=>?_);rw[qFx _ _ _ _ (by rw[uD];exact hj),kI]
 rw[e]
noncomputable def ofR (p:List qA):qC×Int:=if chk p=0 then(if(ofS p).Rows=[] then(nilS,18) else(ofS p,0)) else(nilS,chk p)
theorem Of_eq (p:List qA) (hl:p.length<=40):BV p=some (ofR p)/\qFf p=some (ofR p):=by
 unfold BV qFf ofR;rw[(qFM p).1,(qFM p).2,qO0];simp only[kd];by_cases hc:chk p=0
 ·rw[show(chk p !=0)=false by simpa using hc,if_pos hc];have h3:3<=p.length:=by
   refine Classical.byContradiction λhn=>?_;unfold chk at hc;rw[kg (show(p.length:Int)<3 by omega)] at hc;exact absurd hc (by intro h;simp at h)
  obtain⟨lo,hi,k1,k2⟩:=of_L1 p (by omega) (p.getD 0 dd).Y;have k3:=of_L2 p (lo,hi) k2;rw[qX (by omega)];simp only[ku,ko,gG,k1,kd];cases hL:jV p (lo,hi) FUEL [] (-60) with
  |none=>rw[hL] at k3;cases k3
  |some l=>
   rw[hL] at k3;simp only[kd] at k3⊢;rw[k3];simp only[kd];by_cases he:(ofS p).Rows=[]
   ·rw[if_pos he,he];exact⟨rfl,rfl⟩
   ·have e0:(((ofS p).Rows.length:Int)==0)=false:=by
     have:0<(ofS p).Rows.length:=uf.2 he;rw[ue];omega
    rw[if_neg he,e0];exact⟨rfl,rfl⟩
 ·rw[show(chk p !=0)=true by simpa using hc,if_neg hc];exact⟨rfl,rfl⟩
theorem ofR_VS (p:List qA):VS (ofR p).1:=by
 unfold ofR;split
 ·split
  ·exact qC9
  ·exact qDj p
 ·exact qC9
def parC (a:List qA) (c:qA):Nat->Nat->Bool
 |_,0=>false
 |x,m+1=>xor (cro (Ep a x) (Eq' a x) c) (parC a c (x+1) m)
theorem qKJ (a:List qA) (c:qA):∀(m x:Nat) (b:Bool),((∃j,x<=j/\j<x+m/\onE (Ep a j) (Eq' a j) c=true)->Sum.elim id id (hasS a c x m b)=true)/\((∀j,x<=j->j<x+m->onE (Ep a j) (Eq' a j) c=false)->Sum.elim id id (hasS a c x m b)=xor b (parC a c x m))
 |0,x,b=>⟨fun⟨j,h1,h2,_⟩=>by omega,λ_=>by simp[hasS,parC]⟩
 |m+1,x,b=>by
  obtain⟨i1,i2⟩:=qKJ a c m (x+1) (bif cro (Ep a x) (Eq' a x) c then !b else b);unfold hasS;cases ho:onE (Ep a x) (Eq' a x) c with
  |true=>exact⟨λ_=>rfl,λh=>by rw[h x (by omega) (by omega)] at ho;cases ho⟩
  |false=>
   simp only[ku];refine⟨fun⟨j,h1,h2,h3⟩=>i1 ⟨j,?_,by omega,h3⟩,λh=>?_⟩
   ·by_cases e:j=x
    ·subst e;rw[ho] at h3;cases h3
    ·omega
   ·rw[i2 (λj h1 h2=>h j (by omega) (by omega)),parC];cases cro (Ep a x) (Eq' a x) c<;>cases b<;>cases parC a c (x+1) m<;>rfl
theorem qDu {a:List qA} {c:qA}:∀(m x:Nat),(∀j,x<=j->j<x+m->cro (Ep a j) (Eq' a j) c=false)->parC a c x m=false
 |0,_,_=>rfl
 |m+1,x,h=>by rw[parC,h x (by omega) (by omega),qDu m (x+1) (λj h1 h2=>h j (by omega) (by omega))];rfl
theorem qFH {a:List qA} {c:qA} {k:Nat}:∀(m x:Nat),x<=k->k<x+m->(∀j,x<=j->j<x+m->j≠k->cro (Ep a j) (Eq' a j) c=false)->parC a c x m=cro (Ep a k) (Eq' a k) c
 |0,x,h1,h2,_=>by omega
 |m+1,x,h1,h2,h=>by
  rw[parC];by_cases e:x=k
  ·subst e;rw[qDu m (x+1) (λj h3 h4=>h j (by omega) (by omega) (by omega))];simp
  ·rw[h x (by omega) (by omega) e,qFH m (x+1) (by omega) (by omega) (λj h3 h4 h5=>h j (by omega) (by omega) h5)];simp
theorem qJJ {a:List qA} {c:qA} {k l:Nat} (hkl:k≠l):∀(m x:Nat),x<=k->k<x+m->x<=l->l<x+m->(∀j,x<=j->j<x+m->j≠k->j≠l->cro (Ep a j) (Eq' a j) c=false)->parC a c x m=xor (cro (Ep a k) (Eq' a k) c) (cro (Ep a l) (Eq' a l) c)
 |0,x,h1,h2,_,_,_=>by omega
 |m+1,x,h1,h2,h3,h4,h=>by
  rw[parC];by_cases e:x=k
  ·subst e;rw[qFH m (x+1) (k:=l) (by omega) (by omega) (λj h5 h6 h7=>h j (by omega) (by omega) (by omega) h7)]
  ·by_cases e':x=l
   ·subst e';rw[qFH m (x+1) (k:=k) (by omega) (by omega) (λj h5 h6 h7=>h j (by omega) (by omega) h7 (by omega)),Bool.xor_comm]
   ·rw[h x (by omega) (by omega) e e',qJJ hkl m (x+1) (by omega) (by omega) (by omega) (by omega) (λj h5 h6 h7 h8=>h j (by omega) (by omega) h7 h8)];simp
theorem has_val {a:List qA} {c:qA} (h1:chk a=0) (h2:inRange c=true):((∃j,j<a.length/\onE (Ep a j) (Eq' a j) c=true)->has a c=true)/\((∀j,j<a.length->onE (Ep a j) (Eq' a j) c=false)->has a c=parC a c 0 a.length):=by
 obtain⟨i1,i2⟩:=qKJ a c a.length 0 false;unfold has;rw[show(chk a==0)=true by simpa using h1,h2];simp only[Bool.and_self,ko];refine⟨fun⟨j,hj,ho⟩=>i1 ⟨j,by omega,by omega,ho⟩,λh=>?_⟩;rw[i2 (λj _ hj=>h j (by omega))];simp
theorem qMF (o p q:qA):term p q=cross o p q+(term o q-term o p):=by unfold term cross;grind
theorem qIp (a:List qA) (o:qA) (hn:0<a.length):∀(m x:Nat) (acc:Int),x+m<=a.length->∃d:Int,TQ a x m acc=acc+d+(term o (a.getD ((x+m) % a.length) dd)-term o (a.getD (x % a.length) dd))/\((∀j,x<=j->j<x+m->0<=cross o (Ep a j) (Eq' a j))->0<=d/\∀j,x<=j->j<x+m->cross o (Ep a j) (Eq' a j)<=d)/\((∀j,x<=j->j<x+m->cross o (Ep a j) (Eq' a j)=0)->d=0)
 |0,x,acc,_=>⟨0,by unfold TQ;simp,λ_=>⟨un _,λj h1 h2=>by omega⟩,λ_=>rfl⟩
 |m+1,x,acc,hx=>by
  obtain⟨d,h1,h2,h3⟩:=qIp a o hn m (x+1) (acc+term (Ep a x) (Eq' a x)) (by omega);have ex:Ep a x=a.getD (x % a.length) dd:=by rw[ur (by omega)]
  refine⟨d+cross o (Ep a x) (Eq' a x),?_,λh=>?_,λh=>?_⟩
  ·unfold TQ;rw[h1,qMF o (Ep a x) (Eq' a x),ex,show x+1+m=x+(m+1) by omega];show _=_;have:Eq' a x=a.getD ((x+1) % a.length) dd:=rfl;rw[this];omega
  ·have h0:=h x (by omega) (by omega);have k:=h2 (λj h4 h5=>h j (by omega) (by omega));refine⟨by omega,λj h4 h5=>?_⟩;by_cases e:j=x
   ·subst e;omega
   ·have:=k.2 j (by omega) (by omega);omega
  ·rw[h3 (λj h4 h5=>h j (by omega) (by omega)),h x (by omega) (by omega)];rfl
theorem qOo (a b c:qA):cross a b c=cross b c a:=by unfold cross;grind
theorem qOQ {H:List qA} (hc:Cvx H):0<area H:=by
 have hn:=hc.n3;obtain⟨d,h1,h2,_⟩:=qIp H (Ep H 0) (by omega) H.length 0 0 (by omega);have k:=h2 (λj _ hj=>by rw[qOo];exact hc.lf j (by omega) _ (qY (by omega)));have t:=hc.tn 0 (by omega);have e1:Eq' H 0=Ep H 1:=by show H.getD ((0+1) % H.length) dd=_;rw[ur (by omega)]
 have e2:Ep H ((0+2) % H.length)=Eq' H 1:=rfl;rw[e1,e2] at t;have:=k.2 1 (by omega) (by omega);unfold area;rw[h1];simp only[kI,gY,Nat.zero_mod];omega
theorem cvx_chk {H:List qA} (hc:Cvx H) (hl:H.length<=32):chk H=0:=by
 have hn:=hc.n3;have ha:=qOQ hc;have hr:H.all inRange=true:=ky.2 λp hp=>YK.2 (hc.rg p hp);unfold chk;rw[kf (show¬(H.length:Int)<3 by omega),kf (show¬(H.length:Int)>32 by omega),hr,show(area H==0)=false by rw[ue];omega];rfl
end Saw
end Go.SL

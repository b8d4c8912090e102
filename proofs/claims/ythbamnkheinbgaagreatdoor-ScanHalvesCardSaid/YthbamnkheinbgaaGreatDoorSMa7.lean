/- Poly's plain mathematics, part 28: both chords. -/
import Derived.Test.YthbamnkheinbgaaGreatDoorSMa6
import Derived.Test.YthbamnkheinbgaaGreatDoorSMa4
set_option linter.unusedVariables false
set_option linter.unusedSimpArgs false
namespace Go.SL
namespace Saw
def atS (H:List qA) (y:Int):Int×Int:=pS H y 0 H.length ((bounds H).X.A,(bounds H).X.B)
theorem qDG {p q:qA} (h1:¬p.Y<q.Y) (h2:¬q.Y<p.Y) (X y:Int):cross p q ⟨X,y⟩=(q.X-p.X)*(y-p.Y):=by
 have e:q.Y-p.Y=0:=by omega
 unfold cross;rw[e];simp
theorem qOh {H:List qA} (hc:Cvx H) {y:Int} (hy:(∀p∈H,y<p.Y)\/(∀p∈H,p.Y<y)):∃r:Int×Int,(rS H y 0 H.length (-600,600)= .inl r\/rS H y 0 H.length (-600,600)= .inr r)/\r.2<r.1:=by
 rcases rS_spec H y H.length 0 (-600,600) with⟨_,e⟩|⟨nb,r',e,g1,g2⟩
 ·exact⟨(1,0),.inl e,by decide⟩
 ·refine⟨r',.inr e,Classical.byContradiction λhn=>?_⟩;have k1:=(g1 r'.1).1 (kZ _);have k2:=(g2 r'.1).1 (by omega);refine qGK hc hy (λj hj=>nb j (by omega) (by omega)) r'.1 (λj hj=>?_);by_cases c1:(Ep H j).Y<(Eq' H j).Y
  ·exact(SO c1 _ _).1 (k2.2 j (by omega) (by omega) c1)
  ·by_cases c2:(Eq' H j).Y<(Ep H j).Y
   ·exact(HH c2 _ _).1 (k1.2 j (by omega) (by omega) c2)
   ·have:=nb j (by omega) (by omega);rw[qDG c1 c2];refine Classical.byContradiction λh=>this ⟨c1,c2,by omega⟩
theorem qQw {H:List qA} (hc:Cvx H) {lo hi:Int} (hb:YB H lo hi) {y:Int} (h1:lo<=y) (h2:y<=hi) (X:Int):((atS H y).1<=X/\X<=(atS H y).2)↔inH H X y:=by
 obtain⟨p,hp,ep⟩:=hb.lo;obtain⟨q,hq,eq⟩:=hb.hi;have be:=qN7 hc hp hq (show p.Y<=y by omega) (show y<=q.Y by omega) ((bounds H).X.A,(bounds H).X.B);rcases rS_spec H y H.length 0 (-600,600) with⟨_,e⟩|⟨nb,r',e,g1,g2⟩
 ·rw[be] at e;cases e
 ·rw[be] at e;have e':atS H y=r':=Sum.inr.inj e;rw[e',g1 X,g2 X];constructor
  ·rintro⟨⟨_,k1⟩,_,k2⟩ j hj;by_cases c1:(Ep H j).Y<(Eq' H j).Y
   ·exact(SO c1 _ _).1 (k2 j (by omega) (by omega) c1)
   ·by_cases c2:(Eq' H j).Y<(Ep H j).Y
    ·exact(HH c2 _ _).1 (k1 j (by omega) (by omega) c2)
    ·have:=nb j (by omega) (by omega);rw[qDG c1 c2];refine Classical.byContradiction λh=>this ⟨c1,c2,by omega⟩
  ·intro hin;have hn:=hc.n3;have mq:∀j,Eq' H j∈H:=λj=>zU (kJ _ (by omega));have mp:∀j,j<H.length->Ep H j∈H:=λj hj=>zU hj;obtain⟨u,hu,su⟩:=qJG hc hp hq (show p.Y<=y by omega) (show y<=q.Y by omega);obtain⟨d,hd,sd⟩:=qJo hc hp hq (show p.Y<=y by omega) (show y<=q.Y by omega);have b1:=qQp (hc.rg _ (mp u hu)) (hc.rg _ (mq u)) su;have b2:=qPT (hc.rg _ (mp d hd)) (hc.rg _ (mq d)) sd;have b3:=(SO su.1 X y).2 (hin u hu);have b4:=(HH sd.1 X y).2 (hin d hd);exact⟨⟨by show-600<=X;omega,λj j1 j2 j3=>(HH j3 X y).2 (hin j (by omega))⟩,by show X<=600;omega,λj j1 j2 j3=>(SO j3 X y).2 (hin j (by omega))⟩
theorem qHv {H:List qA} (hc:Cvx H) {lo hi:Int} (hb:YB H lo hi) {X y:Int} (h:inH H X y):lo<=y/\y<=hi:=by
 have nb:∀j,j<H.length->¬bad (Ep H j) (Eq' H j) y:=λj hj hb=>by
  have:=h j hj;rw[qDG hb.1 hb.2.1] at this;have:=hb.2.2;omega
 refine⟨Classical.byContradiction λhn=>?_,Classical.byContradiction λhn=>?_⟩
 ·exact qGK hc (.inl λp hp=>by have:=(hb.all p hp).1;omega) nb X h
 ·exact qGK hc (.inr λp hp=>by have:=(hb.all p hp).2;omega) nb X h
def zH (a:List qA) (lo hi:Int):Span:=
 if hull a=[]\/hi<=lo\/lo<(bounds (hull a)).Y.A\/(bounds (hull a)).Y.B<hi then⟨0,0⟩
 else if imin (atS (hull a) lo).2 (atS (hull a) hi).2<=imax (atS (hull a) lo).1 (atS (hull a) hi).1 then⟨0,0⟩
 else⟨imax (atS (hull a) lo).1 (atS (hull a) hi).1,imin (atS (hull a) lo).2 (atS (hull a) hi).2⟩
theorem YB.rg {H:List qA} {lo hi:Int} (hb:YB H lo hi) (hr:∀p∈H,rng p): -600<=lo/\hi<=600:=by
 obtain⟨p,hp,ep⟩:=hb.lo;obtain⟨q,hq,eq⟩:=hb.hi;have h1:=hr p hp;have h2:=hr q hq;omega
theorem qIe (a:List qA):(hull a).length<=64:=by
 by_cases h:hull a=[]
 ·rw[h];simp
 ·have:=(qCv h).1;have:=qQC a;omega
theorem qN6 {H:List qA} (hr:∀p∈H,rng p) {y:Int} (hy: -600<=y/\y<=600) (hl:H.length<=64):KH y (bounds H) H=some (atS H y):=by
 have:=qID H y hr hy (by omega) H.length FUEL 0 ((bounds H).X.A,(bounds H).X.B) (by omega) (by rw[FUEL_eq];omega);unfold KH;rw[show((0:Nat):Int)=0 from rfl] at this;simp only at this;rw[this];rfl
theorem qMX (a:List qA) (lo hi:Int):LZ a lo hi=some (zH a lo hi):=by
 have hl:=qIe a;unfold LZ YC zH;rw[qNF];simp only[kd,(qPA (hull a) (by omega)).1];by_cases h0:hull a=[]
 ·rw[h0];simp
 have e0:(((hull a).length:Int)==0)=false:=by
  have:0<(hull a).length:=kT.2 h0;rw[un];omega
 have hb:=AO h0;have hbr:=hb.rg (λp hp=>XF hp);rw[e0];by_cases h1:hi<=lo
 ·rw[ke (show lo≥hi from h1),if_pos (.inr (.inl h1))];rfl
 rw[kf (show¬lo≥hi from h1)];by_cases h2:lo<(bounds (hull a)).Y.A
 ·rw[ke h2,if_pos (.inr (.inr (.inl h2)))];rfl
 rw[kf h2];by_cases h3:(bounds (hull a)).Y.B<hi
 ·rw[ke (show hi>(bounds (hull a)).Y.B from h3),if_pos (.inr (.inr (.inr h3)))];rfl
 rw[kf (show¬hi>(bounds (hull a)).Y.B from h3),if_neg (by simp only[h0,false_or];omega)];rw[qN6 (λp hp=>XF hp) (show-600<=lo/\lo<=600 by omega) hl,qN6 (λp hp=>XF hp) (show-600<=hi/\hi<=600 by omega) hl];simp only[ku,kd];by_cases h4:imin (atS (hull a) lo).2 (atS (hull a) hi).2<=imax (atS (hull a) lo).1 (atS (hull a) hi).1
 ·rw[ke (show _≥_ from h4),if_pos h4];rfl
 ·rw[kf (show¬_≥_ from h4),if_neg h4];rfl
theorem AK {H:List qA} (hr:∀p∈H,rng p) {y:Int} (hy: -600<=y/\y<=600) (hl:H.length<=64):∀r,(rS H y 0 H.length (-600,600)= .inl r\/rS H y 0 H.length (-600,600)= .inr r)->UX H y=some r:=by
 intro r h;have:=qGw H y hr hy (by omega) H.length FUEL 0 (-600) 600 (by omega) (by rw[FUEL_eq];omega);unfold UX;rw[show((0:Nat):Int)=0 from rfl] at this;rw[this];rcases h with h|h<;>rw[h]<;>rfl
theorem qNo (a:List qA) (lo hi:Int):qCa a lo hi=some (zH a lo hi):=by
 have hl:=qIe a;unfold qCa KO zH;rw[qOE];simp only[kd];by_cases h0:hull a=[]
 ·rw[h0];simp
 have e0:(((hull a).length:Int)==0)=false:=by
  have:0<(hull a).length:=kT.2 h0;rw[un];omega
 have hb:=AO h0;have hbr:=hb.rg (λp hp=>XF hp);have hc:=UC h0;rw[e0];by_cases h1:hi<=lo
 ·rw[ke (show lo≥hi from h1),if_pos (.inr (.inl h1))];rfl
 rw[kf (show¬lo≥hi from h1)];by_cases h2:lo< -600
 ·rw[ke h2,if_pos (.inr (.inr (.inl (by omega))))];rfl
 rw[kf h2];by_cases h3:600<hi
 ·rw[ke (show hi>600 from h3),if_pos (.inr (.inr (.inr (by omega))))];rfl
 rw[kf (show¬hi>600 from h3)];simp only[ku];have some_r:∀y,∃r,(rS (hull a) y 0 (hull a).length (-600,600)= .inl r\/rS (hull a) y 0 (hull a).length (-600,600)= .inr r):=λy=>by
  cases h:rS (hull a) y 0 (hull a).length (-600,600) with
  |inl r=>exact⟨r,.inl rfl⟩
  |inr r=>exact⟨r,.inr rfl⟩
 have inner:∀y,(bounds (hull a)).Y.A<=y->y<=(bounds (hull a)).Y.B->UX (hull a) y=some (atS (hull a) y):=λy y1 y2=>by
  obtain⟨p,hp,ep⟩:=hb.lo;obtain⟨q,hq,eq⟩:=hb.hi;exact AK (λp hp=>XF hp) (by omega) hl _ (.inr (qN7 hc hp hq (by omega) (by omega) _))
 by_cases h4:lo<(bounds (hull a)).Y.A
 ·rw[if_pos (.inr (.inr (.inl h4)))];obtain⟨r,hr,hlt⟩:=qOh hc (y:=lo) (.inl λp hp=>by have:=(hb.all p hp).1;omega);obtain⟨r2,hr2⟩:=some_r hi;rw[AK (λp hp=>XF hp) (by omega) hl _ hr,AK (λp hp=>XF hp) (by omega) hl _ hr2];simp only[kd];rw[ke (show r.1>r.2 from hlt)];rfl
 by_cases h5:(bounds (hull a)).Y.B<hi
 ·rw[if_pos (.inr (.inr (.inr h5)))];obtain⟨r2,hr2,hlt⟩:=qOh hc (y:=hi) (.inr λp hp=>by have:=(hb.all p hp).2;omega);obtain⟨r,hr⟩:=some_r lo;rw[AK (λp hp=>XF hp) (by omega) hl _ hr,AK (λp hp=>XF hp) (by omega) hl _ hr2];simp only[kd];rw[ke (show r2.1>r2.2 from hlt)];cases decide (r.1>r.2)<;>rfl
 rw[if_neg (by simp only[h0,false_or];omega),inner lo (by omega) (by omega),inner hi (by omega) (by omega)];simp only[kd,GM];have i1:∀a b:Int,imin a b<=a/\imin a b<=b:=λa b=>by unfold imin;split<;>omega
 have i2:∀a b:Int,a<=imax a b/\b<=imax a b:=λa b=>by unfold imax;split<;>omega
 have m1:=i1 (atS (hull a) lo).2 (atS (hull a) hi).2;have m2:=i2 (atS (hull a) lo).1 (atS (hull a) hi).1;by_cases h6:(atS (hull a) lo).1>(atS (hull a) lo).2
 ·rw[ke h6,if_pos (by omega)];rfl
 rw[kf h6];by_cases h7:(atS (hull a) hi).1>(atS (hull a) hi).2
 ·rw[ke h7,if_pos (by omega)];rfl
 rw[kf h7];by_cases h8:imin (atS (hull a) lo).2 (atS (hull a) hi).2<=imax (atS (hull a) lo).1 (atS (hull a) hi).1
 ·rw[ke (show _≥_ from h8),if_pos h8];rfl
 ·rw[kf (show¬_≥_ from h8),if_neg h8];rfl
def lin (al be c:Int) (p:qA):Int:=al*p.X+be*p.Y+c
theorem qP2 (al be c:Int) (p q:qA) (X y:Int):(q.Y-p.Y)*lin al be c ⟨X,y⟩=(q.Y-y)*lin al be c p+(y-p.Y)*lin al be c q-al*cross p q ⟨X,y⟩:=by unfold lin cross;grind
theorem qJT (u v p:qA):cross u v p=lin (-(v.Y-u.Y)) (v.X-u.X) (u.X*(v.Y-u.Y)-(v.X-u.X)*u.Y) p:=by unfold lin cross;grind
theorem qPx {al be c:Int} {p q:qA} {X y:Int} (h:spU p q y) (hp:0<=lin al be c p) (hq:0<=lin al be c q) (ha:al<=0) (hx:0<=cross p q ⟨X,y⟩):0<=lin al be c ⟨X,y⟩:=by
 obtain⟨h1,h2,h3⟩:=h;refine Classical.byContradiction λhn=>?_;have e:=qP2 al be c p q X y;have a1:=ky (show 0<=q.Y-y by omega) hp;have a2:=ky (show 0<=y-p.Y by omega) hq;have a3:=ky (show 0<=-al by omega) hx;have a4:=uY (show 0<q.Y-p.Y by omega) (show 0< -lin al be c ⟨X,y⟩ by omega);rw[Int.mul_neg] at a4;rw[Int.neg_mul] at a3;omega
theorem qP8 {al be c:Int} {p q:qA} {X y:Int} (h:spD p q y) (hp:0<=lin al be c p) (hq:0<=lin al be c q) (ha:0<=al) (hx:0<=cross p q ⟨X,y⟩):0<=lin al be c ⟨X,y⟩:=by
 obtain⟨h1,h2,h3⟩:=h;refine Classical.byContradiction λhn=>?_;have e:=qP2 al be c p q X y;have a1:=ky (show 0<=-(q.Y-y) by omega) hp;have a2:=ky (show 0<=-(y-p.Y) by omega) hq;have a3:=ky ha hx;have a4:=uY (show 0< -(q.Y-p.Y) by omega) (show 0< -lin al be c ⟨X,y⟩ by omega);rw[Int.neg_mul_neg] at a4;rw[Int.neg_mul] at a1 a2;omega
theorem lin_two {al be c:Int} {p q p' q':qA} {X y:Int} (h:spU p q y) (h':spD p' q' y) (hp:0<=lin al be c p) (hq:0<=lin al be c q) (hp':0<=lin al be c p') (hq':0<=lin al be c q')
  (hx:0<=cross p q ⟨X,y⟩) (hx':0<=cross p' q' ⟨X,y⟩):0<=lin al be c ⟨X,y⟩:=by
 by_cases ha:al<=0
 ·exact qPx h hp hq ha hx
 ·exact qP8 h' hp' hq' (by omega) hx'
theorem qC2 {H:List qA} (hc:Cvx H) {X y:Int} (hin:inH H X y) {al be c:Int} (h:∀p∈H,0<=lin al be c p):0<=lin al be c ⟨X,y⟩:=by
 have hn:=hc.n3;have hne:H≠[]:=λe=>by rw[e] at hn;simp at hn
 have hb:=AO hne;have hy:=qHv hc hb hin;obtain⟨p,hp,ep⟩:=hb.lo;obtain⟨q,hq,eq⟩:=hb.hi;have mq:∀j,Eq' H j∈H:=λj=>zU (kJ _ (by omega));have mp:∀j,j<H.length->Ep H j∈H:=λj hj=>zU hj;obtain⟨u,hu,su⟩:=qJG hc hp hq (show p.Y<=y by omega) (show y<=q.Y by omega);obtain⟨d,hd,sd⟩:=qJo hc hp hq (show p.Y<=y by omega) (show y<=q.Y by omega);exact lin_two su sd (h _ (mp u hu)) (h _ (mq u)) (h _ (mp d hd)) (h _ (mq d)) (hin u hu) (hin d hd)
theorem chord_spec (a:List qA) (lo hi:Int):(zH a lo hi=⟨0,0⟩/\∀X,hull a≠[]->lo<hi->¬(inH (hull a) X lo/\inH (hull a) X hi/\inH (hull a) (X+1) lo/\inH (hull a) (X+1) hi))\/
  (hull a≠[]/\lo<hi/\(zH a lo hi).A<(zH a lo hi).B/\∀X,((zH a lo hi).A<=X/\X<=(zH a lo hi).B)↔(inH (hull a) X lo/\inH (hull a) X hi)):=by
 by_cases h0:hull a=[]
 ·exact .inl ⟨by unfold zH;rw[if_pos (.inl h0)],λX h=>absurd h0 h⟩
 have hb:=AO h0;have hc:=UC h0;by_cases h1:hi<=lo
 ·exact .inl ⟨by unfold zH;rw[if_pos (.inr (.inl h1))],λX _ h=>by omega⟩
 by_cases h2:lo<(bounds (hull a)).Y.A
 ·exact .inl ⟨by unfold zH;rw[if_pos (.inr (.inr (.inl h2)))],λX _ _ h=>by have:=(qHv hc hb h.1).1;omega⟩
 by_cases h3:(bounds (hull a)).Y.B<hi
 ·exact .inl ⟨by unfold zH;rw[if_pos (.inr (.inr (.inr h3)))],λX _ _ h=>by have:=(qHv hc hb h.2.1).2;omega⟩
 have i1:∀X,X<=imin (atS (hull a) lo).2 (atS (hull a) hi).2↔X<=(atS (hull a) lo).2/\X<=(atS (hull a) hi).2:=λX=>qNY;have i2:∀X,imax (atS (hull a) lo).1 (atS (hull a) hi).1<=X↔(atS (hull a) lo).1<=X/\(atS (hull a) hi).1<=X:=λX=>qN8;have k1:=qQw hc hb (y:=lo) (by omega) (by omega);have k2:=qQw hc hb (y:=hi) (by omega) (by omega);have key:∀X,(imax (atS (hull a) lo).1 (atS (hull a) hi).1<=X/\X<=imin (atS (hull a) lo).2 (atS (hull a) hi).2)↔(inH (hull a) X lo/\inH (hull a) X hi):=λX=>by
  rw[i1,i2,<-k1 X,<-k2 X];constructor
  ·rintro⟨⟨a1,a2⟩,a3,a4⟩;exact⟨⟨a1,a3⟩,a2,a4⟩
  ·rintro⟨⟨a1,a2⟩,a3,a4⟩;exact⟨⟨a1,a3⟩,a2,a4⟩
 by_cases h4:imin (atS (hull a) lo).2 (atS (hull a) hi).2<=imax (atS (hull a) lo).1 (atS (hull a) hi).1
 ·refine .inl ⟨by unfold zH;rw[if_neg (by simp only[h0,false_or];omega),if_pos h4],λX _ _ h=>?_⟩;have q1:=(key X).2 ⟨h.1,h.2.1⟩;have q2:=(key (X+1)).2 h.2.2;omega
 ·have e:zH a lo hi=⟨imax (atS (hull a) lo).1 (atS (hull a) hi).1,imin (atS (hull a) lo).2 (atS (hull a) hi).2⟩:=by
   unfold zH;rw[if_neg (by simp only[h0,false_or];omega),if_neg h4]
  rw[e];exact .inr ⟨h0,by omega,by simp only;omega,key⟩
theorem qM7 {pts:List qA}:∀{st:List qA},SV pts st->SV (pts.map ng) (st.map ng)
 |[],_=>trivial
 |[_],_=>trivial
 |_::_::_,⟨h1,h2⟩=>⟨λp hp=>by obtain⟨q,hq,rfl⟩:=ui.1 hp;rw[UK];exact h1 q hq,qM7 h2⟩
theorem qJP :∀{st:List qA},VH st->VH (st.map ng)
 |[],_=>trivial
 |[_],_=>trivial
 |[_,_],_=>trivial
 |_::_::_::_,⟨h1,h2⟩=>⟨by rw[UK];exact h1,qJP h2⟩
structure Walk (pts w:List qA) (m M:qA):Prop where
 left:SV pts w
 turns:VH w
 asc:wQ w
 sub:∀p∈w,p∈pts
 first:w.head? =some m
 last:w.getLast? =some M
theorem walk_lo {s:List qA} (hs:wQ s) {m M:qA} (hm:m∈s) (hM:M∈s) (tm:∀p∈s,p=m\/pLt m p) (tM:∀p∈s,p=M\/pLt p M):Walk s (chainR s).reverse m M:=by
 have hi:=NQ hs;have hne:chainR s≠[]:=λe=>by have:=WG (gV hm);rw[e] at this;simp at this
 refine⟨SA hi.left,NZ hi.turns,uX.2 hi.desc,λp hp=>hi.sub p (by simpa using hp),?_,?_⟩
 ·obtain⟨t,ht⟩:=qAW hne;rw[List.head?_reverse,ht];have h1:=hi.bot t ht m hm;have h2:=tm t (hi.sub t (gv ht));rcases h1 with e|h1
  ·rw[e]
  ·rcases h2 with e|h2
   ·rw[e]
   ·exact absurd h2 (pLt_asymm h1)
 ·rw[List.getLast?_reverse];cases hcr:chainR s with
  |nil=>exact absurd hcr hne
  |cons t r=>
   have h1:=hi.top t r hcr M hM;have h2:=tM t (hi.sub t (by rw[hcr];simp));rcases h1 with e|h1
   ·rw[e];rfl
   ·rcases h2 with e|h2
    ·rw[e];rfl
    ·exact absurd h2 (pLt_asymm h1)
theorem walk_up {s:List qA} (hs:wQ s) {m M:qA} (hm:m∈s) (hM:M∈s) (tm:∀p∈s,p=m\/pLt m p) (tM:∀p∈s,p=M\/pLt p M):Walk (s.map ng) ((chainR s.reverse).reverse.map ng) (ng M) (ng m):=by
 have hi:=qE7 hs;have hne:chainR s.reverse≠[]:=λe=>by have:=WG (a:=s.reverse) (by simpa using gV hm);rw[e] at this;simp at this
 refine⟨qM7 (SA hi.left),qJP (NZ hi.turns),List.pairwise_map.2 (uX.2 (hi.asc.imp λh=>qCR.2 h)),λp hp=>?_,?_,?_⟩
 ·obtain⟨q,hq,rfl⟩:=ui.1 hp;exact gy (hi.sub q (by simpa using hq))
 ·obtain⟨t,ht⟩:=qAW hne;rw[List.head?_map,List.head?_reverse,ht];have h1:=hi.bot t ht M hM;have h2:=tM t (hi.sub t (gv ht));rcases h1 with e|h1
  ·rw[e];rfl
  ·rcases h2 with e|h2
   ·rw[e];rfl
   ·exact absurd h2 (pLt_asymm h1)
 ·rw[List.getLast?_map,List.getLast?_reverse];cases hcr:chainR s.reverse with
  |nil=>exact absurd hcr hne
  |cons t r=>
   have h1:=hi.top t r hcr m hm;have h2:=tm t (hi.sub t (by rw[hcr];simp));rcases h1 with e|h1
   ·rw[e];rfl
   ·rcases h2 with e|h2
    ·rw[e];rfl
    ·exact absurd h2 (pLt_asymm h1)
theorem ends {s:List qA} (hs:wQ s) (hne:s≠[]):∃m M,m∈s/\M∈s/\(∀p∈s,p=m\/pLt m p)/\(∀p∈s,p=M\/pLt p M):=by
 induction s with
 |nil=>exact absurd rfl hne
 |cons a s ih=>
  obtain⟨h1,h2⟩:=kO.1 hs;by_cases h:s=[]
  ·subst h;exact⟨a,a,by simp,by simp,by simp,by simp⟩
  ·obtain⟨m,M,hm,hM,t1,t2⟩:=ih h2 h;refine⟨a,M,by simp,kG _ hM,λp hp=>?_,λp hp=>?_⟩
   ·rcases ua.1 hp with rfl|hp
    ·exact .inl rfl
    ·exact .inr (h1 p hp)
   ·rcases ua.1 hp with rfl|hp
    ·exact .inr (h1 M hM)
    ·exact t2 p hp
theorem qO1 {m M p q r:qA} (hne:m≠M) (h1:cross m M p=0) (h2:cross m M q=0) (h3:cross m M r=0):cross p q r=0:=by
 have ex:(M.X-m.X)*cross p q r=0:=by
  have:(M.X-m.X)*cross p q r=(q.X-p.X)*(cross m M r-cross m M p)-(r.X-p.X)*(cross m M q-cross m M p):=by unfold cross;grind
  rw[this,h1,h2,h3];simp
 have ey:(M.Y-m.Y)*cross p q r=0:=by
  have:(M.Y-m.Y)*cross p q r=(q.Y-p.Y)*(cross m M r-cross m M p)-(r.Y-p.Y)*(cross m M q-cross m M p):=by unfold cross;grind
  rw[this,h1,h2,h3];simp
 rcases Int.mul_eq_zero.1 ex with h|h
 ·rcases Int.mul_eq_zero.1 ey with h'|h'
  ·refine absurd ?_ hne;cases m;cases M;simp only[qA.mk.injEq];simp only at h h';omega
  ·exact h'
 ·exact h
theorem qOS {s:List qA} (hs:wQ s) (h:hullOf s=[]) {p q r:qA} (hp:p∈s) (hq:q∈s) (hr:r∈s):cross p q r=0:=by
 have h5:(chainR s).length+(chainR s.reverse).length<5:=by
  refine Classical.byContradiction λh5=>?_;have:=(AS hs h5).1;rw[h] at this;simp at this
 obtain⟨m,M,hm,hM,t1,t2⟩:=ends hs (gV hp);by_cases e:m=M
 ·subst e;have one:∀x∈s,x=m:=λx hx=>by
   rcases t1 x hx with e|e
   ·exact e
   ·rcases t2 x hx with e'|e'
    ·exact e'
    ·exact absurd e (pLt_asymm e')
  rw[one p hp,one q hq,one r hr];unfold cross;simp
 ·have w1:=walk_lo hs hm hM t1 t2;have w2:=walk_up hs hm hM t1 t2;have two:∀{w:List qA} {a b:qA},w.head? =some a->w.getLast? =some b->a≠b->2<=w.length/\(w.length=2->w=[a,b]):=by
   intro w a b x1 x2 hne
   match w with
   |[]=>simp at x1
   |[c]=>
    simp only[List.head?_cons,uf] at x1;simp only[List.getLast?_singleton,uf] at x2;exact absurd (x1.symm.trans x2) hne
   |[c,d]=>
    simp only[List.head?_cons,uf] at x1;simp only[uO,List.getLast?_singleton,uf] at x2;exact⟨by simp,λ_=>by rw[x1,x2]⟩
   |c::d::f::w=>exact⟨by simp,λh=>by simp at h⟩
  have k1:=two w1.first w1.last e;have k2:=two w2.first w2.last (λh=>e (by rw[<-qHX m,<-h,qHX]));rw[kU] at k1;rw[ul,kU] at k2;have f1:=k1.2 (by omega);have f2:=k2.2 (by omega);have L1:=w1.left;have L2:=w2.left;rw[f1] at L1;rw[f2] at L2;have z:∀x∈s,cross m M x=0:=λx hx=>by
   have a1:=L1.1 x hx;have a2:=L2.1 (ng x) (gy hx);rw[UK] at a2;have:cross M m x= -cross m M x:=by unfold cross;grind
   omega
  exact qO1 e (z p hp) (z q hq) (z r hr)
theorem qRi {a:List qA} (hl:a.length<=32) (hr:a.all inRange=true) (h:hull a=[]) {p q r:qA} (hp:p∈a) (hq:q∈a) (hr':r∈a):cross p q r=0:=by
 unfold hull at h;rw[kf (by omega),hr] at h;exact qOS (VZ a) h ((GD a p).2 hp) ((GD a q).2 hq) ((GD a r).2 hr')
theorem qOa {H:List qA} (hc:Cvx H) {X y:Int} (h:inH H X y): -600<=X/\X<=600:=by
 have a:=qC2 hc h (al:=1) (be:=0) (c:=600) (λp hp=>by have:=hc.rg p hp;unfold lin;omega);have b:=qC2 hc h (al:= -1) (be:=0) (c:=600) (λp hp=>by have:=hc.rg p hp;unfold lin;omega);unfold lin at a b;simp only at a b;omega
theorem qFi (p:List qA) (lo hi:Int):rngS (zH p lo hi)=true/\nrm (zH p lo hi)=zH p lo hi:=by
 rcases chord_spec p lo hi with⟨e,_⟩|⟨h0,h1,h2,h3⟩
 ·rw[e];exact⟨rfl,rfl⟩
 ·have k1:=(h3 _).1 ⟨kZ _,gX h2⟩;have k2:=(h3 _).1 ⟨gX h2,kZ _⟩;have r1:=qOa (UC h0) k1.1;have r2:=qOa (UC h0) k2.1;refine⟨HZ.2 (by omega),qCY ?_⟩;unfold empS;exact kf (by omega)
noncomputable def ofS (p:List qA):qB:=TP (λj=>zH p (10*((j:Int)-60)) (10*((j:Int)-60+1)))
theorem qCz (p:List qA):VS (ofS p):=qC4 (λj _=>by rw[(qFi _ _ _).2];exact(qFi _ _ _).1)
theorem qQg (p:List qA) (r:Int):row (ofS p) r=if-60<=r/\r<60 then zH p (10*r) (10*(r+1)) else⟨0,0⟩:=by
 unfold ofS;rw[qAR (λr=>zH p (10*r) (10*(r+1))),(qFi _ _ _).2]
theorem qQz (p:List qA):RH p=some (ofS p):=by
 have m1:∀r:Int,-60<=r->r<60->UF r p=some (zH p (10*r) (10*(r+1))):=λr h1 h2=>by
  unfold UF TO;rw[qR (n:=r+1) (by omega),qR (by omega),qR (by omega)];simp only[kd,qMX]
 unfold RH;refine qBv (λj=>zH p (10*((j:Int)-60)) (10*((j:Int)-60+1))) (wA p) (λn x u w l hx=>?_) (λn u w l=>?_)
 ·rw[wA,ke (show(x:Int)-60<60 by omega),m1 _ (by omega) (by omega)];simp only[ko,kd,yE,PI,JH]
 ·rw[wA];rfl
theorem qJN {p:List qA} {lo hi:Int} (h:(∀q∈p,lo<q.Y)\/(∀q∈p,q.Y<hi)):zH p lo hi=⟨0,0⟩:=by
 rcases chord_spec p lo hi with⟨e,_⟩|⟨h0,h1,h2,h3⟩
 ·exact e
 ·have k1:=(h3 _).1 ⟨kZ _,gX h2⟩;have hb:=AO h0;have y1:=qHv (UC h0) hb k1.1;have y2:=qHv (UC h0) hb k1.2;obtain⟨u,hu,eu⟩:=hb.lo;obtain⟨v,hv,ev⟩:=hb.hi;rcases h with h|h
  ·have:=h u (HF hu);omega
  ·have:=h v (HF hv);omega
theorem of_L1 (p:List qA) (hl:p.length<=1000) (y:Int):∃lo hi,RT p FUEL y y 0=some (lo,hi)/\∀q∈p,lo<=q.Y/\q.Y<=hi:=by
 have k:=EY p (λn (s:Int×Int) x=>RT p n s.1 s.2 x) (λx=>(x:Int)) (λ_ a s=>(imin s.1 a.Y,imax s.2 a.Y)) (λs=>s) (λx s=>∀j,j<x->s.1<=(p.getD j dd).Y/\(p.getD j dd).Y<=s.2) (by omega)
  (λn x s hx hi=>by
   refine⟨?_,λj hj=>?_⟩
   ·rw[RT,ke (show(x:Int)<_ by omega),qY (by omega),zM (by omega)];rfl
   ·have a1:=qCe s.1 (p.getD x dd).Y;have a2:=qCH s.2 (p.getD x dd).Y;simp only;by_cases hjx:j=x
    ·subst hjx;omega
    ·have:=hi j (by omega);omega)
  (λn s _=>by rw[RT];simp) (i:=0) rfl (y,y) (λj hj=>by omega)
 refine⟨_,_,k.1,λq hq=>?_⟩;obtain⟨i,hi,e⟩:=uI.1 hq;have:=k.2 i hi;rw[ka,ki hi,kE,e] at this;exact this
theorem of_L2 (p:List qA) (o:Int×Int) (ho:∀q∈p,o.1<=q.Y/\q.Y<=o.2):(yK p o FUEL [] (-60)).bind (λl=>YA (-60) l)=some (ofS p):=by
 have k:=EY (List.range 120) (λn (l:List Span) x=>yK p o n l x) (λx=>(x:Int)-60) (λx (_:Nat) l=>l++[zH p (10*((x:Int)-60)) (10*((x:Int)-60+1))]) (λl=>l) (λx l=>l.length=x) (by simp)
  (λn x l hx hi=>by
   have hx':x<120:=by simpa using hx
   refine⟨?_,by simp[hi]⟩;have e3:w64 ((x:Int)-60+1)=((x+1:Nat):Int)-60:=by rw[qR (by omega)];omega
   have k4:∀z,EG l ((x:Int)-60) (yK p o n) z=yK p o n (l++[z]) (((x+1:Nat):Int)-60):=λz=>by
    unfold EG;rw[WD (by omega),e3];rfl
   rw[yK,ke (show(x:Int)-60<60 by omega),qR (n:=(x:Int)-60+1) (by omega),qR (n:=10*((x:Int)-60)) (by omega),qR (n:=10*((x:Int)-60+1)) (by omega)];simp only[ko,qBD,k4];rw[qR (n:=(x:Int)-60+1) (by omega),qR (n:=10*((x:Int)-60)) (by omega),qR (n:=10*((x:Int)-60+1)) (by omega),qNo];simp only[kd];by_cases c1:10*((x:Int)-60)≥o.1
   ·rw[ke c1];by_cases c2:10*((x:Int)-60+1)<=o.2
    ·rw[ke c2];rfl
    ·rw[kf c2,qJN (.inr λq hq=>by have:=(ho q hq).2;omega)];rfl
   ·rw[kf c1,qJN (.inl λq hq=>by have:=(ho q hq).1;omega)];rfl)
  (λn l _=>by
   have e:(((List.range 120).length:Nat):Int)-60=60:=by rw[ur];rfl
   simp only[e];rw[yK];rfl) (i:= -60) rfl [] rfl
 rw[qBA (λx (_:Nat)=>zH p (10*((x:Int)-60)) (10*((x:Int)-60+1))),uv] at k;rw[k.1];simp only[kd];rw[qHw _ (by rw[qHb];simp)];have e:TP (λj=>(mapi (λx (_:Nat)=>zH p (10*((x:Int)-60)) (10*((x:Int)-60+1))) 0 (List.range 120)).getD j dd)=ofS p:=by
  unfold ofS;refine qBH (λj hj=>?_);rw[qGA _ _ _ _ (by rw[ur];exact hj),kz]
 rw[e]
noncomputable def ofR (p:List qA):qB×Int:=if chk p=0 then(if(ofS p).Rows=[] then(nilS,18) else(ofS p,0)) else(nilS,chk p)
theorem Of_eq (p:List qA) (hl:p.length<=40):FX p=some (ofR p)/\qHi p=some (ofR p):=by
 unfold FX qHi ofR;rw[(qPr p).1,(qPr p).2,qQz];simp only[kd];by_cases hc:chk p=0
 ·rw[show(chk p !=0)=false by simpa using hc,if_pos hc];have h3:3<=p.length:=by
   refine Classical.byContradiction λhn=>?_;unfold chk at hc;rw[ke (show(p.length:Int)<3 by omega)] at hc;exact absurd hc (by intro h;simp at h)
  obtain⟨lo,hi,k1,k2⟩:=of_L1 p (by omega) (p.getD 0 dd).Y;have k3:=of_L2 p (lo,hi) k2;rw[qY (by omega)];simp only[ku,ko,gH,k1,kd];cases hL:yK p (lo,hi) FUEL [] (-60) with
  |none=>rw[hL] at k3;cases k3
  |some l=>
   rw[hL] at k3;simp only[kd] at k3⊢;rw[k3];simp only[kd];by_cases he:(ofS p).Rows=[]
   ·rw[if_pos he,he];exact⟨rfl,rfl⟩
   ·have e0:(((ofS p).Rows.length:Int)==0)=false:=by
     have:0<(ofS p).Rows.length:=kT.2 he;rw[un];omega
    rw[if_neg he,e0];exact⟨rfl,rfl⟩
 ·rw[show(chk p !=0)=true by simpa using hc,if_neg hc];exact⟨rfl,rfl⟩
theorem ofR_VS (p:List qA):VS (ofR p).1:=by
 unfold ofR;split
 ·split
  ·exact FV
  ·exact qCz p
 ·exact FV
end Saw
end Go.SL

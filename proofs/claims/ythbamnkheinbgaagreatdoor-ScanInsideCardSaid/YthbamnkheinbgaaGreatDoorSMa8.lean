/- Poly's plain mathematics, part 33: convex polygons: at each height one edge goes up, and one goes down. -/
import Derived.Test.YthbamnkheinbgaaGreatDoorSMa7
import Derived.Test.YthbamnkheinbgaaGreatDoorSMod
set_option linter.unusedVariables false
set_option linter.unusedSimpArgs false
namespace Go.SL
namespace Saw
theorem qMt {H:List qA} {j:Nat} (hj:j<H.length):∃i,i<H.length/\Eq' H i=Ep H j/\(i+2) % H.length=(j+1) % H.length:=by
 by_cases h:j=0
 ·subst h;refine⟨H.length-1,by omega,?_,?_⟩
  ·show H.getD ((H.length-1+1) % H.length) dd=_;rw[show H.length-1+1=H.length by omega,gY]
  ·rw[show H.length-1+2=H.length+1 by omega,Nat.add_mod_left]
 ·refine⟨j-1,by omega,?_,by rw[show j-1+2=j+1 by omega]⟩;show H.getD ((j-1+1) % H.length) dd=_;rw[show j-1+1=j by omega,ur hj]
theorem col_id1 (p q w z:qA):(q.Y-p.Y)*cross w z p= -((w.Y-p.Y)*((z.X-w.X)*(q.Y-p.Y)-(q.X-p.X)*(z.Y-w.Y))+cross p q w*(z.Y-w.Y)):=by unfold cross;grind
theorem col_id2 (p q w z:qA):(q.Y-p.Y)*cross w z q=(q.Y-w.Y)*((z.X-w.X)*(q.Y-p.Y)-(q.X-p.X)*(z.Y-w.Y))-cross p q w*(z.Y-w.Y):=by unfold cross;grind
theorem col_id3 (p q w z:qA):(q.Y-p.Y)*cross z w p= -((w.Y-p.Y)*((w.X-z.X)*(q.Y-p.Y)-(q.X-p.X)*(w.Y-z.Y))+cross p q w*(w.Y-z.Y)):=by unfold cross;grind
theorem col_id4 (p q w z:qA):(q.Y-p.Y)*cross z w q=(q.Y-w.Y)*((w.X-z.X)*(q.Y-p.Y)-(q.X-p.X)*(w.Y-z.Y))-cross p q w*(w.Y-z.Y):=by unfold cross;grind
theorem col_id5 (p q w z y:qA):(q.Y-p.Y)*cross z w y=(y.Y-w.Y)*((w.X-z.X)*(q.Y-p.Y)-(q.X-p.X)*(w.Y-z.Y))-(w.Y-z.Y)*((y.X-w.X)*(q.Y-p.Y)-(q.X-p.X)*(y.Y-w.Y)):=by unfold cross;grind
theorem qIq {a b E:Int} (ha:0<a) (hb:0<b) (h1:0<=-(a*E)) (h2:0<=b*E):E=0:=by
 rcases Int.lt_trichotomy E 0 with h|h|h
 ·have:=ui hb (show 0< -E by omega);rw[uW] at this;omega
 ·exact h
 ·have:=ui ha h;omega
theorem qM8 {p q w wn wp:qA} (h0:cross p q w=0) (h1:p.Y<w.Y) (h2:w.Y<q.Y) (a1:0<=cross w wn p) (a2:0<=cross w wn q) (b1:0<=cross wp w p) (b2:0<=cross wp w q) (t:0<cross wp w wn):False:=by
 have d:0<=q.Y-p.Y:=by omega
 have i1:=col_id1 p q w wn;have i2:=col_id2 p q w wn;have i3:=col_id3 p q w wp;have i4:=col_id4 p q w wp;have i5:=col_id5 p q w wp wn;rw[h0,Int.zero_mul] at i1 i2 i3 i4;have m1:=kv d a1;have m2:=kv d a2;have m3:=kv d b1;have m4:=kv d b2;have m5:=ui (show 0<q.Y-p.Y by omega) t;have E:=qIq (a:=w.Y-p.Y) (b:=q.Y-w.Y) (E:=(wn.X-w.X)*(q.Y-p.Y)-(q.X-p.X)*(wn.Y-w.Y)) (by omega) (by omega) (by omega) (by omega);have F:=qIq (a:=w.Y-p.Y) (b:=q.Y-w.Y) (E:=(w.X-wp.X)*(q.Y-p.Y)-(q.X-p.X)*(w.Y-wp.Y)) (by omega) (by omega) (by omega) (by omega);rw[E,F] at i5;simp at i5;omega
theorem qGL {H:List qA} (hc:Cvx H) {j:Nat} (hj:j<H.length) (hup:(Ep H j).Y<(Eq' H j).Y) {w:qA} (hw:w∈H) (h0:cross (Ep H j) (Eq' H j) w=0):w.Y=(Ep H j).Y\/w.Y=(Eq' H j).Y:=by
 have hn:=hc.n3;have hj1:(j+1) % H.length<H.length:=kH _ (by omega)
 -- the next edge
 have t1:=hc.tn j hj;have l1:=hc.lf _ hj1 w hw;have i1:=qJ5 hc hj;rw[i1.1,i1.2] at l1
 -- the edge before
 obtain⟨i,hi,e1,e2⟩:=qMt hj;have t2:=hc.tn i hi;have l2:=hc.lf i hi w hw;rw[e1,e2] at t2;rw[e1] at l2
 -- w's own edges
 obtain⟨m,hm,ew⟩:=XB hw;obtain⟨k,hk,f1,f2⟩:=qMt hm;have t3:=hc.tn k hk;rw[f1,f2,ew] at t3;have pm:Ep H j∈H:=qY hj;have qm:Eq' H j∈H:=qY hj1;have a1:=hc.lf m hm _ pm;have a2:=hc.lf m hm _ qm;have b1:=hc.lf k hk _ pm;have b2:=hc.lf k hk _ qm;rw[ew] at a1 a2;rw[f1,ew] at b1 b2;have eqm:Ep H ((m+1) % H.length)=Eq' H m:=rfl;rw[eqm] at t3;have eqj:Ep H ((j+1) % H.length)=Eq' H j:=rfl;rw[eqj] at t2;generalize Ep H j=p at*;generalize Eq' H j=q at*;generalize Ep H ((j+2) % H.length)=r at*;generalize Ep H i=o at*;generalize Eq' H m=wn at*;generalize Ep H k=wp at*;have d:0<q.Y-p.Y:=by omega
 have id1:(q.Y-p.Y)*cross q r w=(q.Y-w.Y)*cross p q r+(r.Y-q.Y)*cross p q w:=by unfold cross;grind
 have id2:(q.Y-p.Y)*cross o p w=(w.Y-p.Y)*cross o p q+(p.Y-o.Y)*cross p q w:=by unfold cross;grind
 rw[h0] at id1 id2;simp only[Int.mul_zero,Int.add_zero] at id1 id2;have g1:w.Y<=q.Y:=by
  refine Classical.byContradiction λhn'=>?_;have x1:=kv (gw d) l1;have x2:=ui (show 0< -(q.Y-w.Y) by omega) t1;rw[uL] at x2;omega
 have g2:p.Y<=w.Y:=by
  refine Classical.byContradiction λhn'=>?_;have x1:=kv (gw d) l2;have x2:=ui (show 0< -(w.Y-p.Y) by omega) t2;rw[uL] at x2;omega
 refine Classical.byContradiction λhn'=>?_;rw[not_or] at hn';exact qM8 h0 (by omega) (by omega) a1 a2 b1 b2 t3
theorem same_pt {p q w v:qA} (hY:p.Y<q.Y) (h1:cross p q w=0) (h2:cross p q v=0) (h3:w.Y=v.Y):w=v:=by
 have e:(q.Y-p.Y)*(w.X-v.X)=0:=by
  have:(q.Y-p.Y)*(w.X-v.X)=cross p q v-cross p q w+(q.X-p.X)*(w.Y-v.Y):=by unfold cross;grind
  rw[this,h1,h2,h3];simp
 rcases Int.mul_eq_zero.1 e with h|h
 ·omega
 ·cases w;cases v;simp only[qA.mk.injEq];simp only at h h3;omega
theorem up_id (a b c d:qA) (t:Int):((d.Y-t)*cross a b c+(t-c.Y)*cross a b d)+((b.Y-t)*cross c d a+(t-a.Y)*cross c d b)=0:=by unfold cross;grind
theorem qON {H:List qA} (hd:H.Nodup) {j k:Nat} (hj:j<H.length) (hk:k<H.length) (h:Ep H j=Ep H k):j=k:=by
 have e1:H[j]=H[k]:=by rw[<-MG hj,<-MG hk];exact h
 rcases Nat.lt_trichotomy j k with hlt|heq|hlt
 ·exact absurd e1 (uO.1 hd j k hj hk hlt)
 ·exact heq
 ·exact absurd e1.symm (uO.1 hd k j hk hj hlt)
theorem qNz {H:List qA} (hc:Cvx H) (hd:H.Nodup) {j k:Nat} (hj:j<H.length) (hk:k<H.length) {t:Int} (j1:(Ep H j).Y<=t) (j2:t+1<=(Eq' H j).Y) (k1:(Ep H k).Y<=t) (k2:t+1<=(Eq' H k).Y):j=k:=by
 have hn:=hc.n3;have pm:∀i,i<H.length->Ep H i∈H:=λi hi=>qY hi;have qm:∀i,Eq' H i∈H:=λi=>qY (kH _ (by omega));have A1:=hc.lf j hj _ (pm k hk);have A2:=hc.lf j hj _ (qm k);have B1:=hc.lf k hk _ (pm j hj);have B2:=hc.lf k hk _ (qm j);have zero:∀s,(Ep H j).Y<=s->s<=(Eq' H j).Y->(Ep H k).Y<=s->s<=(Eq' H k).Y->((Eq' H k).Y-s)*cross (Ep H j) (Eq' H j) (Ep H k)+(s-(Ep H k).Y)*cross (Ep H j) (Eq' H j) (Eq' H k)=0:=λs s1 s2 s3 s4=>by
  have e:=up_id (Ep H j) (Eq' H j) (Ep H k) (Eq' H k) s;have x1:=kv (show 0<=(Eq' H k).Y-s by omega) A1;have x2:=kv (show 0<=s-(Ep H k).Y by omega) A2;have x3:=kv (show 0<=(Eq' H j).Y-s by omega) B1;have x4:=kv (show 0<=s-(Ep H j).Y by omega) B2;omega
 have z1:=zero t (by omega) (by omega) (by omega) (by omega);have z2:=zero (t+1) (by omega) (by omega) (by omega) (by omega);have c1:cross (Ep H j) (Eq' H j) (Ep H k)=0:=by
  have x1:=kv (show 0<=(Eq' H k).Y-t by omega) A1;have x2:=kv (show 0<=t-(Ep H k).Y by omega) A2;rcases Int.mul_eq_zero.1 (show((Eq' H k).Y-t)*cross (Ep H j) (Eq' H j) (Ep H k)=0 by omega) with h|h
  ·omega
  ·exact h
 have c2:cross (Ep H j) (Eq' H j) (Eq' H k)=0:=by
  have x1:=kv (show 0<=(Eq' H k).Y-(t+1) by omega) A1;have x2:=kv (show 0<=t+1-(Ep H k).Y by omega) A2;rcases Int.mul_eq_zero.1 (show(t+1-(Ep H k).Y)*cross (Ep H j) (Eq' H j) (Eq' H k)=0 by omega) with h|h
  ·omega
  ·exact h
 have y1:=qGL hc hj (by omega) (pm k hk) c1;have y2:=qGL hc hj (by omega) (qm k) c2;have e:=same_pt (p:=Ep H j) (q:=Eq' H j) (w:=Ep H k) (v:=Ep H j) (by omega) c1 (NA _ _) (by omega);exact(qON hd hk hj e).symm
theorem cvx_ng {H:List qA} (hc:Cvx H):Cvx (H.map ng):=by
 have hn:=hc.n3;have ix:∀i,Ep (H.map ng) i=ng (Ep H i):=λi=>by
  show(H.map ng).getD i dd=ng (H.getD i dd);by_cases hi:i<H.length
  ·exact qFA ng H hi
  ·rw[ka,ka,ga (by simpa using hi),ga (by omega)];rfl
 have ix2:∀i,Eq' (H.map ng) i=ng (Eq' H i):=λi=>by
  show(H.map ng).getD ((i+1) % (H.map ng).length) dd=_;rw[gt];exact ix _
 refine⟨by simpa using hn,λp hp=>?_,λx hx p hp=>?_,λx hx=>?_⟩
 ·obtain⟨q,hq,rfl⟩:=go.1 hp;have:=hc.rg q hq;unfold ng rng at*;simp only;omega
 ·obtain⟨q,hq,rfl⟩:=go.1 hp;rw[ix,ix2,LX];exact hc.lf x (by simpa using hx) q hq
 ·rw[ix,ix2,gt,ix,LX];exact hc.tn x (by simpa using hx)
theorem ep_ng (H:List qA) (i:Nat):Ep (H.map ng) i=ng (Ep H i):=by
 show(H.map ng).getD i dd=ng (H.getD i dd);by_cases hi:i<H.length
 ·exact qFA ng H hi
 ·rw[ka,ka,ga (by simpa using hi),ga (by omega)];rfl
theorem eq_ng (H:List qA) (i:Nat):Eq' (H.map ng) i=ng (Eq' H i):=by
 show(H.map ng).getD ((i+1) % (H.map ng).length) dd=_;rw[gt];exact ep_ng H _
theorem qOv {H:List qA} (hd:H.Nodup):(H.map ng).Nodup:=by
 rw[List.Nodup,List.pairwise_map];exact hd.imp (λh e=>h (by have:=congrArg ng e;rwa [qJi,qJi] at this))
theorem dn_one {H:List qA} (hc:Cvx H) (hd:H.Nodup) {j k:Nat} (hj:j<H.length) (hk:k<H.length) {t:Int} (j1:(Eq' H j).Y<=t) (j2:t+1<=(Ep H j).Y) (k1:(Eq' H k).Y<=t) (k2:t+1<=(Ep H k).Y):j=k:=by
 have ny:∀p:qA,(ng p).Y= -p.Y:=λ_=>rfl;refine qNz (cvx_ng hc) (qOv hd) (by simpa using hj) (by simpa using hk) (t:= -(t+1)) ?_ ?_ ?_ ?_
 ·rw[ep_ng,ny];omega
 ·rw[eq_ng,ny];omega
 ·rw[ep_ng,ny];omega
 ·rw[eq_ng,ny];omega
theorem half_ex {H:List qA} {y:Int} {p q:qA} (hp:p∈H) (hq:q∈H) (h1:p.Y<=y) (h2:y<q.Y):(∃j,j<H.length/\(Ep H j).Y<=y/\y<(Eq' H j).Y)/\(∃j,j<H.length/\(Eq' H j).Y<=y/\y<(Ep H j).Y):=by
 obtain⟨i,hi,ei⟩:=XB hp;obtain⟨k,hk,ek⟩:=XB hq;constructor
 ·refine Classical.byContradiction λhno=>?_;have:=FM (P:=λx=>(Ep H x).Y<=y) hi (by rw[ei];exact h1) (λx hx h=>Classical.byContradiction λh'=>hno ⟨x,hx,h,by
   have:(Ep H ((x+1) % H.length)).Y=(Eq' H x).Y:=rfl;omega⟩)
  have:=this k hk;rw[ek] at this;omega
 ·refine Classical.byContradiction λhno=>?_;have:=FM (P:=λx=>y<(Ep H x).Y) hk (by rw[ek];exact h2) (λx hx h=>Classical.byContradiction λh'=>hno ⟨x,hx,by
   have:(Ep H ((x+1) % H.length)).Y=(Eq' H x).Y:=rfl;omega,h⟩)
  have:=this i hi;rw[ei] at this;omega
theorem AN {p q c:qA}:onE p q c=true↔cross p q c=0/\imin p.X q.X<=c.X/\c.X<=imax p.X q.X/\imin p.Y q.Y<=c.Y/\c.Y<=imax p.Y q.Y:=by
 unfold onE;simp
theorem VJ (a b:Int):(imin a b=a/\a<=b)\/(imin a b=b/\b<=a):=by unfold imin;split<;>omega
theorem VP (a b:Int):(imax a b=a/\b<=a)\/(imax a b=b/\a<=b):=by unfold imax;split<;>omega
theorem lin_idx (al be c0:Int) (p q:qA) (X y:Int):(q.X-p.X)*lin al be c0 ⟨X,y⟩=(q.X-X)*lin al be c0 p+(X-p.X)*lin al be c0 q+be*cross p q ⟨X,y⟩:=by unfold lin cross;grind
theorem KY {d v:Int} (hd:0<d) (h:0<=d*v):0<=v:=by
 refine Classical.byContradiction λhn=>?_;have:=ui hd (show 0< -v by omega);rw[uW] at this;omega
theorem seg_lin {al be c0:Int} {p q c:qA} (ho:onE p q c=true) (hp:0<=lin al be c0 p) (hq:0<=lin al be c0 q):0<=lin al be c0 c:=by
 obtain⟨h0,h1,h2,h3,h4⟩:=AN.1 ho;have m1:=VJ p.X q.X;have m2:=VP p.X q.X;have m3:=VJ p.Y q.Y;have m4:=VP p.Y q.Y;obtain⟨X,y⟩:=c;simp only at h1 h2 h3 h4;have iy:=qGQ al be c0 p q X y;have ix:=lin_idx al be c0 p q X y;rw[h0,Int.mul_zero] at iy ix;rcases Int.lt_trichotomy p.Y q.Y with c|c|c
 ·have a1:=kv (show 0<=q.Y-y by omega) hp;have a2:=kv (show 0<=y-p.Y by omega) hq;exact KY (show 0<q.Y-p.Y by omega) (by omega)
 ·rcases Int.lt_trichotomy p.X q.X with d|d|d
  ·have a1:=kv (show 0<=q.X-X by omega) hp;have a2:=kv (show 0<=X-p.X by omega) hq;exact KY (show 0<q.X-p.X by omega) (by omega)
  ·have ex:X=p.X:=by omega
   have ey:y=p.Y:=by omega
   rw[ex,ey];exact hp
  ·have a1:=kv (show 0<=-(q.X-X) by omega) hp;have a2:=kv (show 0<=-(X-p.X) by omega) hq;rw[uL] at a1 a2;refine KY (show 0< -(q.X-p.X) by omega) ?_;rw[uL];omega
 ·have a1:=kv (show 0<=-(q.Y-y) by omega) hp;have a2:=kv (show 0<=-(y-p.Y) by omega) hq;rw[uL] at a1 a2;refine KY (show 0< -(q.Y-p.Y) by omega) ?_;rw[uL];omega
theorem onE_in {H:List qA} (hc:Cvx H) {j:Nat} (hj:j<H.length) {c:qA} (ho:onE (Ep H j) (Eq' H j) c=true):inH H c.X c.Y:=by
 have hn:=hc.n3;intro i hi;have e:(⟨c.X,c.Y⟩:qA)=c:=rfl;rw[e,QP];refine seg_lin ho ?_ ?_
 ·rw[<-QP];exact hc.lf i hi _ (qY hj)
 ·rw[<-QP];exact hc.lf i hi _ (qY (kH _ (by omega)))
theorem on_up {p q c:qA} (hpq:p.Y<q.Y) (h1:p.Y<=c.Y) (h2:c.Y<=q.Y) (h0:cross p q c=0):onE p q c=true/\onE q p c=true:=by
 have e:(q.Y-p.Y)*(c.X-p.X)=(q.X-p.X)*(c.Y-p.Y):=by unfold cross at h0;grind
 have e':(q.Y-p.Y)*(q.X-c.X)=(q.X-p.X)*(q.Y-c.Y):=by unfold cross at h0;grind
 have d:0<q.Y-p.Y:=by omega
 have m1:=VJ p.X q.X;have m2:=VP p.X q.X;have m3:=VJ p.Y q.Y;have m4:=VP p.Y q.Y;have n1:=VJ q.X p.X;have n2:=VP q.X p.X;have n3:=VJ q.Y p.Y;have n4:=VP q.Y p.Y;have h0':cross q p c=0:=by rw[qH7,h0];rfl
 rw[AN,AN];rcases gW p.X q.X with c1|c1
 ·have a1:=KY d (v:=c.X-p.X) (by rw[e];exact kv (by omega) (by omega));have a2:=KY d (v:=q.X-c.X) (by rw[e'];exact kv (by omega) (by omega));exact⟨⟨h0,by omega,by omega,by omega,by omega⟩,h0',by omega,by omega,by omega,by omega⟩
 ·have a1:=KY d (v:= -(c.X-p.X)) (by rw[uW,e,<-uL];exact kv (by omega) (by omega));have a2:=KY d (v:= -(q.X-c.X)) (by rw[uW,e',<-uL];exact kv (by omega) (by omega));exact⟨⟨h0,by omega,by omega,by omega,by omega⟩,h0',by omega,by omega,by omega,by omega⟩
theorem onE_end (p q:qA):onE p q q=true/\onE p q p=true:=by
 have m1:=VJ p.X q.X;have m2:=VP p.X q.X;have m3:=VJ p.Y q.Y;have m4:=VP p.Y q.Y;rw[AN,AN];exact⟨⟨qDy _ _,by omega,by omega,by omega,by omega⟩,NA _ _,by omega,by omega,by omega,by omega⟩
theorem top_on {H:List qA} (hc:Cvx H) {X y:Int} (h:inH H X y) (htop:∀p∈H,p.Y<=y) {lo hi:qA} (hlo:lo∈H) (hhi:hi∈H) (h1:lo.Y<=y) (h2:y<=hi.Y):∃j,j<H.length/\onE (Ep H j) (Eq' H j) ⟨X,y⟩=true:=by
 have hn:=hc.n3;obtain⟨j,hj,sj⟩:=qDU hc hlo hhi h1 h2;have hj1:(j+1) % H.length<H.length:=kH _ (by omega);have hj2:((j+1) % H.length+1) % H.length<H.length:=kH _ (by omega);obtain⟨s1,s2,s3⟩:=sj;have i1:=qJ5 hc hj;have cj:=h j hj;have cj1:=h _ hj1;have cj2:=h _ hj2;have tj:=hc.tn j hj;have tj1:=hc.tn _ hj1;have zq:(Eq' H j).Y<=y:=htop _ (qY hj1);have zr:(Ep H (((j+1) % H.length+1) % H.length)).Y<=y:=htop _ (qY hj2);have zs:(Eq' H (((j+1) % H.length+1) % H.length)).Y<=y:=htop _ (qY (kH _ (by omega)));have er:Ep H (((j+1) % H.length+1) % H.length)=Ep H ((j+2) % H.length):=i1.2
 have es:Eq' H ((j+1) % H.length)=Ep H (((j+1) % H.length+1) % H.length):=rfl;rw[i1.1,es] at cj1;rw[i1.1,es] at tj1;have e3:Ep H (((j+1) % H.length+2) % H.length)=Eq' H (((j+1) % H.length+1) % H.length):=by
  show H.getD (((j+1) % H.length+2) % H.length) dd=H.getD ((((j+1) % H.length+1) % H.length+1) % H.length) dd;rw[uP ((j+1) % H.length+1)]
 rw[e3] at tj1;rw[<-er] at tj
 -- the edge j+1
 by_cases hz:(Ep H (((j+1) % H.length+1) % H.length)).Y=y
 · -- a horizontal edge at the top
  refine⟨(j+1) % H.length,hj1,?_⟩;rw[i1.1,es,AN];generalize Ep H j=p at*;generalize Eq' H j=q at*;generalize Ep H (((j+1) % H.length+1) % H.length)=r at*;generalize Eq' H (((j+1) % H.length+1) % H.length)=t at*;have hq:q.Y=y:=by omega
  have x1:X<=q.X:=by
   have:cross p q ⟨X,y⟩=(q.Y-p.Y)*(q.X-X):=by unfold cross;simp only;rw[<-hq];grind
   rw[this] at cj;have:=KY (show 0<q.Y-p.Y by omega) cj;omega
  have rq:r.X<q.X:=by
   have:cross p q r=(q.Y-p.Y)*(q.X-r.X):=by unfold cross;rw[hz,<-hq];grind
   rw[this] at tj;refine Classical.byContradiction λhn'=>?_;have:=kv (show 0<=q.Y-p.Y by omega) (show 0<=-(q.X-r.X) by omega);rw[uW] at this;omega
  have tY:t.Y<y:=by
   have:cross q r t=(q.X-r.X)*(y-t.Y):=by unfold cross;rw[hz,hq];grind
   rw[this] at tj1;refine Classical.byContradiction λhn'=>?_;have:=kv (show 0<=q.X-r.X by omega) (show 0<=-(y-t.Y) by omega);rw[uW] at this;omega
  have x2:r.X<=X:=by
   have:cross r t ⟨X,y⟩=(y-t.Y)*(X-r.X):=by unfold cross;simp only;rw[hz];grind
   rw[this] at cj2;have:=KY (show 0<y-t.Y by omega) cj2;omega
  have m1:=VJ q.X r.X;have m2:=VP q.X r.X;have m3:=VJ q.Y r.Y;have m4:=VP q.Y r.Y;refine⟨?_,by simp only;omega,by simp only;omega,by simp only;omega,by simp only;omega⟩;unfold cross;rw[hz,hq];simp
 · -- the top is one corner
  refine⟨j,hj,?_⟩;generalize Ep H j=p at*;generalize Eq' H j=q at*;generalize Ep H (((j+1) % H.length+1) % H.length)=r at*;have hq:q.Y=y:=by omega
  have x1:X<=q.X:=by
   have:cross p q ⟨X,y⟩=(q.Y-p.Y)*(q.X-X):=by unfold cross;simp only;rw[<-hq];grind
   rw[this] at cj;have:=KY (show 0<q.Y-p.Y by omega) cj;omega
  have x2:q.X<=X:=by
   have:cross q r ⟨X,y⟩=(q.Y-r.Y)*(X-q.X):=by unfold cross;simp only;rw[<-hq];grind
   rw[this] at cj1;have:=KY (show 0<q.Y-r.Y by omega) cj1;omega
  have e:(⟨X,y⟩:qA)=q:=by
   cases q;simp only[qA.mk.injEq];simp only at hq x1 x2;omega
  rw[e];exact(onE_end p q).1
theorem dn_up {p q p' q':qA} {X y:Int} (hu:p.Y<q.Y) (hd:spD p' q' y) (h1:0<=cross p q p') (h2:0<=cross p q q') (h3:cross p' q' ⟨X,y⟩<0):0<cross p q ⟨X,y⟩:=by
 obtain⟨d1,d2,d3⟩:=hd;have e:=qGQ (-(q.Y-p.Y)) (q.X-p.X) (p.X*(q.Y-p.Y)-(q.X-p.X)*p.Y) p' q' X y;rw[<-QP,<-QP,<-QP] at e;have a1:=kv (show 0<=-(q'.Y-y) by omega) h1;have a2:=kv (show 0<=-(y-p'.Y) by omega) h2;have a3:=ui (show 0<q.Y-p.Y by omega) (show 0< -cross p' q' ⟨X,y⟩ by omega);rw[uL] at a1 a2;rw[uW] at a3;rw[uL] at e;refine Classical.byContradiction λhn=>?_;have a4:=kv (show 0<=-(q'.Y-p'.Y) by omega) (show 0<=-cross p q ⟨X,y⟩ by omega);rw[Int.neg_mul_neg] at a4;omega
theorem cro_iff {p q c:qA}:cro p q c=true↔(p.Y<=c.Y/\c.Y<q.Y/\0<cross p q c)\/(q.Y<=c.Y/\c.Y<p.Y/\cross p q c<0):=by unfold cro;simp
theorem has_cvx {H:List qA} (hc:Cvx H) (hd:H.Nodup) (hl:H.length<=32) {c:qA} (hr:inRange c=true):has H c=true↔inH H c.X c.Y:=by
 obtain⟨v1,v2⟩:=has_val (cvx_chk hc hl) hr;have hn:=hc.n3;have hne:H≠[]:=λe=>by rw[e] at hn;simp at hn
 have hb:=BF hne;obtain⟨plo,mlo,elo⟩:=hb.lo;obtain⟨phi,mhi,ehi⟩:=hb.hi;have pm:∀i,i<H.length->Ep H i∈H:=λi hi=>qY hi;have qm:∀i,Eq' H i∈H:=λi=>qY (kH _ (by omega));have ec:(⟨c.X,c.Y⟩:qA)=c:=rfl;by_cases hon:∃j,j<H.length/\onE (Ep H j) (Eq' H j) c=true
 ·obtain⟨j,hj,ho⟩:=hon;exact⟨λ_=>onE_in hc hj ho,λ_=>v1 ⟨j,hj,ho⟩⟩
 have hno:∀j,j<H.length->onE (Ep H j) (Eq' H j) c=false:=λj hj=>by
  cases ho:onE (Ep H j) (Eq' H j) c with
  |false=>rfl
  |true=>exact absurd ⟨j,hj,ho⟩ hon
 rw[v2 hno];by_cases hy:(bounds H).Y.A<=c.Y/\c.Y<(bounds H).Y.B
 ·obtain⟨⟨u,hu,u1,u2⟩,d,hd',d1,d2⟩:=half_ex mlo mhi (show plo.Y<=c.Y by omega) (show c.Y<phi.Y by omega);have hud:u≠d:=λe=>by subst e;omega
  have oth:∀j,0<=j->j<0+H.length->j≠u->j≠d->cro (Ep H j) (Eq' H j) c=false:=λj _ hj nu nd=>by
   cases hcr:cro (Ep H j) (Eq' H j) c with
   |false=>rfl
   |true=>
    rcases cro_iff.1 hcr with⟨c1,c2,_⟩|⟨c1,c2,_⟩
    ·exact absurd (qNz hc hd (by omega) hu (t:=c.Y) c1 (by omega) u1 (by omega)) nu
    ·exact absurd (dn_one hc hd (by omega) hd' (t:=c.Y) c1 (by omega) d1 (by omega)) nd
  rw[qJJ hud H.length 0 (by omega) (by omega) (by omega) (by omega) oth];have su:spU (Ep H u) (Eq' H u) c.Y:=⟨by omega,by omega,by omega⟩
  have sd:spD (Ep H d) (Eq' H d) c.Y:=⟨by omega,by omega,by omega⟩
  have key:inH H c.X c.Y↔0<=cross (Ep H u) (Eq' H u) c/\0<=cross (Ep H d) (Eq' H d) c:=by
   refine⟨λh=>⟨h u hu,h d hd'⟩,fun⟨h1,h2⟩ i hi=>?_⟩;rw[QP];refine qL0 su sd ?_ ?_ ?_ ?_ h1 h2
   ·rw[<-QP];exact hc.lf i hi _ (pm u hu)
   ·rw[<-QP];exact hc.lf i hi _ (qm u)
   ·rw[<-QP];exact hc.lf i hi _ (pm d hd')
   ·rw[<-QP];exact hc.lf i hi _ (qm d)
  have cu:cro (Ep H u) (Eq' H u) c=decide (0<cross (Ep H u) (Eq' H u) c):=by
   rw[Bool.eq_iff_iff,cro_iff,decide_eq_true_eq];omega
  have cd:cro (Ep H d) (Eq' H d) c=decide (cross (Ep H d) (Eq' H d) c<0):=by
   rw[Bool.eq_iff_iff,cro_iff,decide_eq_true_eq];omega
  have nzu:cross (Ep H u) (Eq' H u) c≠0:=λe=>by
   have:=(on_up su.1 su.2.1 su.2.2 e).1;rw[hno u hu] at this;cases this
  rw[key,cu,cd];by_cases hdn:cross (Ep H d) (Eq' H d) c<0
  ·have:=dn_up (X:=c.X) su.1 sd (hc.lf u hu _ (pm d hd')) (hc.lf u hu _ (qm d)) hdn;rw[ec] at this;rw[kg hdn,kg this];refine⟨λh=>absurd h (by decide),λh=>by omega⟩
  ·rw[kf hdn];by_cases hup:0<cross (Ep H u) (Eq' H u) c
   ·rw[kg hup];exact⟨λ_=>⟨by omega,by omega⟩,λ_=>rfl⟩
   ·rw[kf hup];exact⟨λh=>absurd h (by decide),λh=>by omega⟩
 ·have par0:parC H c 0 H.length=false:=qDu H.length 0 (λj _ hj=>by
   cases hcr:cro (Ep H j) (Eq' H j) c with
   |false=>rfl
   |true=>
    have a1:=hb.all _ (pm j (by omega));have a2:=hb.all _ (qm j);rcases cro_iff.1 hcr with⟨c1,c2,_⟩|⟨c1,c2,_⟩<;>omega)
  rw[par0];refine⟨λh=>absurd h (by decide),λh=>?_⟩;have yb:=qD0 hc hb h;obtain⟨j,hj,ho⟩:=top_on hc h (λp hp=>by have:=(hb.all p hp).2;omega) mlo mhi (by omega) (by omega);rw[hno j hj] at ho;cases ho
theorem qOz {a:List qA} (h:hull a≠[]) {X y:Int} (hr:inRange ⟨X,y⟩=true):has (hull a) ⟨X,y⟩=true↔inH (hull a) X y:=
 has_cvx (TI h) (qGB a) (by have:=hull_le a;have:=(FO h).1;omega) hr
theorem CJ {a:List qA} (h:hull a≠[]) (X y:Int):has (hull a) ⟨X,y⟩=true↔inH (hull a) X y:=by
 cases hr:inRange ⟨X,y⟩ with
 |true=>exact qOz h hr
 |false=>
  have e:has (hull a) ⟨X,y⟩=false:=by unfold has;rw[hr];simp
  rw[e];refine⟨λh=>absurd h (by decide),λhin=>?_⟩;have hc:=TI h;have a1:=UF hc hin (al:=1) (be:=0) (c:=600) (λp hp=>by have:=hc.rg p hp;unfold lin;omega);have a2:=UF hc hin (al:= -1) (be:=0) (c:=600) (λp hp=>by have:=hc.rg p hp;unfold lin;omega);have a3:=UF hc hin (al:=0) (be:=1) (c:=600) (λp hp=>by have:=hc.rg p hp;unfold lin;omega);have a4:=UF hc hin (al:=0) (be:= -1) (c:=600) (λp hp=>by have:=hc.rg p hp;unfold lin;omega);unfold lin at a1 a2 a3 a4;simp only at a1 a2 a3 a4;have:inRange ⟨X,y⟩=true:=YK.2 (by simp only;omega);rw[this] at hr;cases hr
theorem zY :FUEL=4611686018427387904:=by unfold FUEL;rfl
theorem qV {n:Int} (h1: -9223372036854775808<=n) (h2:n<=9223372036854775807):w64 n=n:=by
 unfold w64 IntKind.wrap;simp only[IntKind.bits,IntKind.signed,Bool.true_and];split
 ·rename_i h;have h':n % 2^64≥2^(64-1):=kX h;omega
 ·rename_i h;have h':¬n % 2^64≥2^(64-1):=λhh=>h (kg hh);omega
theorem zH {i:Int} {n:Nat} (h0:0<=i) (h1:i<(n:Int)):inb i n=true:=by unfold inb;exact kg ⟨h0,h1⟩
theorem YU {b:Int} (h:b≠0):nz b=true:=by unfold nz;exact kg h
theorem qAr {n b:Nat} (h:n*b<=140737488355328):room n b=true:=by unfold room;exact kg h
theorem qKv (a:Int):PJ a=some (decide (-600<=a)&&decide (a<=600)):=by
 unfold PJ UU;by_cases h:a≥-600
 ·simp[h]
 ·simp[h]
def XT (p:qA):Bool:=(decide (-600<=p.X)&&decide (p.X<=600))&&(decide (-600<=p.Y)&&decide (p.Y<=600))
theorem qJc (p:qA):yI [p]=some (XT p):=by
 unfold yI;rw[zY];rw[show(4611686018427387904:Nat)=4611686018427387902+1+1 from rfl];unfold wH;have e1:w64 (0+1)=1:=by kernel_rfl
 have tail:wH [p] (4611686018427387902+1) 1=some (Sum.inr ()):=by
  unfold wH;simp
 have hi:inb 0 1=true:=by kernel_rfl
 simp only[uS,List.length_nil,kI,QV,e1,tail,hi,ko,gG,uU];have h01:decide ((0:Int)<((1:Nat):Int))=true:=by decide
 rw[h01];simp only[ko,XT];by_cases h1:p.X< -600
 ·have g1:¬-600<=p.X:=by omega
  simp[h1,g1]
 ·have g1: -600<=p.X:=by omega
  by_cases h2:p.X>600
  ·have g2:¬p.X<=600:=by omega
   simp[h1,h2,g2]
  ·have g2:p.X<=600:=by omega
   by_cases h3:p.Y< -600
   ·have g3:¬-600<=p.Y:=by omega
    simp[h1,h2,h3,g3]
   ·have g3: -600<=p.Y:=by omega
    by_cases h4:p.Y>600
    ·have g4:¬p.Y<=600:=by omega
     simp[h1,h2,h3,h4,g4]
    ·have g4:p.Y<=600:=by omega
     simp[h1,h2,h3,h4,g1,g2,g3,g4]
def SW (p:qA):Bool:=p.X==0&&(p.Y==0&&true)
def ZE (r:qD):Int:=bif r.Ok&&!XT r.P then 9 else bif !r.Ok&&!SW r.P then 19 else 0
def wK (l:List qD):Int:=match l with
 |[]=>0
 |r::l=>bif ZE r==0 then wK l else ZE r
def RY (c:Int):Int⊕Unit:=bif c==0 then .inr () else .inl c
theorem qDH {α:Type} [Inhabited α] (l:List α) (x:Nat) (h:x<l.length):l.drop x=l.getD x dd::l.drop (x+1):=by
 rw[gu h,ka,kq h];rfl
theorem qCP (a:Ring):∀(n:Nat) (x:Nat),a.Read.length<x+n->x<=a.Read.length->a.Read.length<=1000->jB a n (x:Int)=some (RY (wK (a.Read.drop x)))
 |0,x,h1,h2,_=>by omega
 |n+1,x,h1,h2,h3=>by
  unfold jB;by_cases hx:x<a.Read.length
  ·have hd:=qDH a.Read x hx;have ih:=qCP a n (x+1) (by omega) (by omega) h3;have e1:w64 ((x:Int)+1)=((x+1:Nat):Int):=by rw[qV (by omega) (by omega)];omega
   have c1:decide ((x:Int)<(a.Read.length:Int))=true:=kg (by omega);rw[c1,zH (by omega) (by omega),hd];simp only[ko,ks,qKv,kd,KP,GM,e1,ih,wK,ZE,XT,SW];generalize a.Read.getD x dd=r;cases r.Ok<;>cases (decide (-600<=r.P.X)&&decide (r.P.X<=600))<;>cases (decide (-600<=r.P.Y)&&decide (r.P.Y<=600))<;>cases (r.P.X==0&&(r.P.Y==0&&true))<;>simp[RY]
  ·have c1:decide ((x:Int)<(a.Read.length:Int))=false:=kf (by omega);rw[c1,uB (by omega)];rfl
theorem qEG (a:Ring):∀(n:Nat) (x:Nat),a.Read.length<x+n->x<=a.Read.length->a.Read.length<=1000->ZU a n (x:Int)=some (RY (wK (a.Read.drop x)))
 |0,x,h1,h2,_=>by omega
 |n+1,x,h1,h2,h3=>by
  unfold ZU;by_cases hx:x<a.Read.length
  ·have hd:=qDH a.Read x hx;have ih:=qEG a n (x+1) (by omega) (by omega) h3;have e1:w64 ((x:Int)+1)=((x+1:Nat):Int):=by rw[qV (by omega) (by omega)];omega
   have c1:decide ((x:Int)<(a.Read.length:Int))=true:=kg (by omega);rw[c1,zH (by omega) (by omega),hd];simp only[ko,ks,qJc,kd,LL,MF,e1,ih,wK,ZE,SW];generalize a.Read.getD x dd=r;cases r.Ok<;>cases XT r.P<;>cases (r.P.X==0&&(r.P.Y==0&&true))<;>simp[RY]
  ·have c1:decide ((x:Int)<(a.Read.length:Int))=false:=kf (by omega);rw[c1,uB (by omega)];rfl
def QQ (a:Ring):Int:=
 bif decide ((a.Read.length:Int)<8) then 3 else bif decide ((a.Read.length:Int)>32) then 4 else bif decide (a.Z<0) then 9 else bif decide (a.Z>20000) then 9 else wK a.Read
theorem EH (a:Ring):KJ a=some (QQ a):=by
 unfold KJ QQ GD;by_cases h1:(a.Read.length:Int)<8
 ·simp[h1]
 by_cases h2:(a.Read.length:Int)>32
 ·simp[h1,h2]
 have hl:=qCP a FUEL 0 (by rw[zY];omega) (by omega) (by omega);rw[uK] at hl;by_cases h3:a.Z<0
 ·simp[h1,h2,h3]
 by_cases h4:a.Z>20000
 ·simp[h1,h2,h3,h4]
 rw[kf h1,kf h2,kf h3,kf h4];have hl':jB a FUEL 0=some (RY (wK a.Read)):=hl;simp only[ku,hl',kd,RY];by_cases hc:wK a.Read=0
 ·rw[hc];rfl
 ·have hb:(wK a.Read==0)=false:=by simpa using hc
  rw[hb];rfl
theorem qDE (a:Ring):MJ a=some (QQ a):=by
 unfold MJ QQ LE;by_cases h1:(a.Read.length:Int)<8
 ·simp[h1]
 by_cases h2:(a.Read.length:Int)>32
 ·simp[h1,h2]
 have hl:=qEG a FUEL 0 (by rw[zY];omega) (by omega) (by omega);rw[uK] at hl;by_cases h3:a.Z<0
 ·simp[h1,h2,h3]
 by_cases h4:a.Z>20000
 ·simp[h1,h2,h3,h4]
 rw[kf h1,kf h2,kf h3,kf h4];have hl':ZU a FUEL 0=some (RY (wK a.Read)):=hl;simp only[ku,hl',kd,RY];by_cases hc:wK a.Read=0
 ·rw[hc];rfl
 ·have hb:(wK a.Read==0)=false:=by simpa using hc
  rw[hb];rfl
structure jF (a:Ring):Prop where
 lo:8<=a.Read.length
 hi:a.Read.length<=32
 z0:0<=a.Z
 z1:a.Z<=20000
 all:∀r∈a.Read,ZE r=0
theorem CB :∀{l:List qD},wK l=0↔∀r∈l,ZE r=0
 |[]=>by simp[wK]
 |r::l=>by
  simp only[wK,kU,forall_eq_or_imp];by_cases h:ZE r=0
  ·simp[h,CB (l:=l)]
  ·have hb:(ZE r==0)=false:=by simpa using h
   rw[hb];exact⟨λh'=>absurd h' h,λh'=>absurd h'.1 h⟩
theorem GC (a:Ring):QQ a=0↔jF a:=by
 unfold QQ;by_cases h1:(a.Read.length:Int)<8
 ·simp only[h1,decide_true,ko];exact⟨λh=>by omega,λh=>by have:=h.lo;omega⟩
 by_cases h2:(a.Read.length:Int)>32
 ·simp only[h1,h2,decide_true,decide_false,ko,ku];exact⟨λh=>by omega,λh=>by have:=h.hi;omega⟩
 by_cases h3:a.Z<0
 ·simp only[h1,h2,h3,decide_true,decide_false,ko,ku];exact⟨λh=>by omega,λh=>by have:=h.z0;omega⟩
 by_cases h4:a.Z>20000
 ·simp only[h1,h2,h3,h4,decide_true,decide_false,ko,ku];exact⟨λh=>by omega,λh=>by have:=h.z1;omega⟩
 simp only[h1,h2,h3,h4,decide_false,ku,CB];exact⟨λh=>⟨by omega,by omega,by omega,by omega,h⟩,λh=>h.all⟩
theorem qLC (a:Ring) (h:a.Read.length<=1000):NO a=some a:=by
 unfold NO QS;rw[qAr (by omega)];rfl
theorem qKH (a:Ring) (h:a.Read.length<=1000):IN a=some a:=by
 unfold IN;rw[qAr (by omega)];rfl
end Saw
end Go.SL

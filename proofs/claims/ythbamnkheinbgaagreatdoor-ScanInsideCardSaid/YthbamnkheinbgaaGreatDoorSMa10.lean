/- The ring laws' plain mathematics, part 5: repairing. -/
import Derived.Test.YthbamnkheinbgaaGreatDoorSMa9
import Derived.Test.YthbamnkheinbgaaGreatDoorSMa2
set_option linter.unusedVariables false
set_option linter.unusedSimpArgs false
set_option linter.unusedSectionVars false
namespace Go.SL
namespace Saw
theorem qCl (a b:Int) (hb:0<b):Int.tmod a b+b*Int.tdiv a b=a/\Int.tmod a b<b/\-b<Int.tmod a b/\(Int.tdiv a b).natAbs<=a.natAbs:=by
 refine⟨Int.tmod_add_mul_tdiv a b,gZ a hb,?_,?_⟩
 ·rcases gW 0 a with h|h
  ·have:=Int.tmod_nonneg b h;omega
  ·have h3:=gZ (-a) hb;rw[Int.neg_tmod] at h3;omega
 ·rw[Int.natAbs_tdiv];exact Nat.div_le_self _ _
theorem AB {a b q r:Int} (hb:0<b) (h:r+b*q=a) (h0:0<=r) (h1:r<b):a/b=q:=(Int.ediv_emod_unique hb).2 ⟨h,h0,h1⟩|>.1
theorem qEI (a b:Int) (hb:0<b) (h1: -4611686018427387904<=a) (h2:a<=4611686018427387904):TO a b=some (a/b):=by
 obtain⟨e,l,g,n⟩:=qCl a b hb;unfold TO GQ;rw[YU (by omega),qV (n:=Int.tdiv a b) (by omega) (by omega)];by_cases h:Int.tmod a b<0
 ·rw[kg h,qV (by omega) (by omega)];have:a/b=Int.tdiv a b-1:=AB hb (r:=Int.tmod a b+b) (by rw[gz,Int.mul_one];omega) (by omega) (by omega);rw[this];rfl
 ·rw[kf h];have:a/b=Int.tdiv a b:=AB hb (r:=Int.tmod a b) e (by omega) l;rw[this];rfl
theorem OZ (a b:Int) (hb:0<b) (h3:b<=4611686018427387904) (h1: -4611686018427387904<=a) (h2:a<=4611686018427387904):MR a b=some (a/b):=by
 obtain⟨e,l,g,n⟩:=qCl a b hb;have hc:Int.tdiv a b*b=b*Int.tdiv a b:=Int.mul_comm _ _;unfold MR LA;rw[YU (by omega),qV (n:=Int.tdiv a b) (by omega) (by omega),qV (n:=Int.tdiv a b*b) (by omega) (by omega)];by_cases h:Int.tmod a b<0
 ·rw[kg (by omega),qV (by omega) (by omega)];have:a/b=Int.tdiv a b-1:=AB hb (r:=Int.tmod a b+b) (by rw[gz,Int.mul_one];omega) (by omega) (by omega);rw[this];rfl
 ·rw[kf (by omega)];have:a/b=Int.tdiv a b:=AB hb (r:=Int.tmod a b) e (by omega) l;rw[this];rfl
def KN (x y:Int) (j g:Nat):Int:=x+(y-x)*(j:Int)/((g+1:Nat):Int)
theorem qEz (x y:Int) (g:Nat):KN x y 0 g=x:=by simp[KN]
theorem qES {d:Int} (j g:Nat) (hj:j<=g+1) (hd:0<=d):0<=d*(j:Int)/\d*(j:Int)<=d*((g+1:Nat):Int):=
 ⟨kv hd (by omega),Int.mul_le_mul_of_nonneg_left (by omega) hd⟩
theorem qHn (x y:Int) (j g:Nat) (hj:j<=g+1):(x<=y->x<=KN x y j g/\KN x y j g<=y)/\(y<=x->y<=KN x y j g/\KN x y j g<=x):=by
 have hp:(0:Int)<((g+1:Nat):Int):=by omega
 unfold KN;constructor
 ·intro h;obtain⟨h1,h2⟩:=qES j g hj (show 0<=y-x by omega);have h3:=Int.ediv_nonneg h1 (gw hp);have h4:=Int.ediv_le_ediv hp h2;rw[Int.mul_ediv_cancel _ (by omega)] at h4;omega
 ·intro h;obtain⟨h1,h2⟩:=qES j g hj (show 0<=x-y by omega);have e:(y-x)*(j:Int)= -((x-y)*(j:Int)):=by rw[<-uL];congr 1;omega
  rw[e];have h3: -((x-y)*(j:Int))/((g+1:Nat):Int)<=0/((g+1:Nat):Int):=Int.ediv_le_ediv hp (by omega);have h4: -((x-y)*((g+1:Nat):Int))/((g+1:Nat):Int)<=-((x-y)*(j:Int))/((g+1:Nat):Int):=Int.ediv_le_ediv hp (by omega);rw[<-uL,Int.mul_ediv_cancel _ (by omega)] at h4;rw[Int.zero_ediv] at h3;omega
def rg_val (a:Ring) (k d:Nat):qA:=⟨KN (rg_Pt a (rg_Mi a k)).X (rg_Pt a (rg_nb a k 1)).X d (rg_gap a k),KN (rg_Pt a (rg_Mi a k)).Y (rg_Pt a (rg_nb a k 1)).Y d (rg_gap a k)⟩
theorem qAt (a:Ring) (k:Nat):rg_val a k 0=rg_Pt a (rg_Mi a k):=by unfold rg_val;rw[qEz,qEz]
theorem MW {a:Ring} (g:jF a) (i:Nat):qKc (rg_Pt a i):=by
 unfold rg_Pt;by_cases h:i<a.Read.length
 ·refine(qIR (g.all _ ?_)).1;rw[ka,kq h];exact uQ h
 ·rw[ka,ga (by omega)];exact⟨by decide,by decide,by decide,by decide⟩
theorem MS (x y:Int) (j g:Nat) (hx: -600<=x) (hx':x<=600) (hy: -600<=y) (hy':y<=600) (hj:j<=g+1) (hg:g<=100):
  w64 (w64 (y-x)*(j:Int))=(y-x)*(j:Int)/\w64 (x+(y-x)*(j:Int)/((g+1:Nat):Int))=KN x y j g/\-4611686018427387904<=(y-x)*(j:Int)/\(y-x)*(j:Int)<=4611686018427387904:=by
 have hb:=qHn x y j g hj;have hm:w64 (x+(y-x)*(j:Int)/((g+1:Nat):Int))=KN x y j g:=by
  show w64 (KN x y j g)=_;rcases gW x y with h|h
  ·have:=hb.1 h;exact qV (by omega) (by omega)
  ·have:=hb.2 h;exact qV (by omega) (by omega)
 have hr: -1300000<=(y-x)*(j:Int)/\(y-x)*(j:Int)<=1300000:=by
  have h1:(y-x)*(j:Int)<=1200*(j:Int):=Int.mul_le_mul_of_nonneg_right (by omega) (by omega);have h2:(-1200)*(j:Int)<=(y-x)*(j:Int):=Int.mul_le_mul_of_nonneg_right (by omega) (by omega);omega
 refine⟨?_,hm,by omega,by omega⟩;rw[qV (n:=y-x) (by omega) (by omega),qV (by omega) (by omega)]
section
variable (a :Ring) (g:jF a)
include g
theorem CR {k:Nat} (hk:k<(rg_meas a).length):∀(n x:Nat) (l:List qA),rg_gap a k+1<x+n->1<=x->x<=rg_gap a k+1->l.length=a.Read.length->
  ∃r,ZT a (wC (rg_meas a)) (k:Int) ((rg_gap a k:Nat):Int) n l (x:Int)=some r/\r.length=a.Read.length/\
   (∀q,(∀d,x<=d->d<=rg_gap a k->q≠(rg_Mi a k+d) % a.Read.length)->r.getD q dd=l.getD q dd)/\(∀d,x<=d->d<=rg_gap a k->r.getD ((rg_Mi a k+d) % a.Read.length) dd=rg_val a k d)
 |0,x,l,h1,h2,h3,h4=>by omega
 |n+1,x,l,h1,h2,h3,h4=>by
  have hn:=g.hi;have hlo:=g.lo;have hg:=QM hk;have h0:=zB hk;have hml:=ZN a;unfold ZT;by_cases hx:x<=rg_gap a k
  ·have hlt:(rg_Mi a k+x) % a.Read.length<a.Read.length:=kH _ (by omega);have hk1:(k+1) % (rg_meas a).length<(rg_meas a).length:=kH _ (by omega);have hp:=MW g (rg_Mi a k);have hq:=MW g (rg_nb a k 1);obtain⟨e1,e2,e3,e4⟩:=MS (rg_Pt a (rg_Mi a k)).X (rg_Pt a (rg_nb a k 1)).X x (rg_gap a k) hp.1 hp.2.1 hq.1 hq.2.1 (by omega) (by omega);obtain⟨f1,f2,f3,f4⟩:=MS (rg_Pt a (rg_Mi a k)).Y (rg_Pt a (rg_nb a k 1)).Y x (rg_gap a k) hp.2.2.1 hp.2.2.2 hq.2.2.1 hq.2.2.2 (by omega) (by omega);have c1:decide ((x:Int)<=((rg_gap a k:Nat):Int))=true:=kg (by omega)
   have w1:w64 (((rg_gap a k:Nat):Int)+1)=((rg_gap a k+1:Nat):Int):=wQ _ (by omega);have w2:w64 (((rg_Mi a k:Nat):Int)+(x:Int))=((rg_Mi a k+x:Nat):Int):=by rw[qV (by omega) (by omega)];omega
   rw[c1,h4,YU (by omega),jX,wQ k (by omega),wP];simp only[ko,ks,YQ];rw[show(rg_meas a).getD ((k+1) % (rg_meas a).length) 0=rg_nb a k 1 from rfl,show(rg_meas a).getD k 0=rg_Mi a k from rfl];rw[show(a.Read.getD (rg_Mi a k) dd).P=rg_Pt a (rg_Mi a k) from rfl,show(a.Read.getD (rg_nb a k 1) dd).P=rg_Pt a (rg_nb a k 1) from rfl,w1,w2,wP,e1,f1,qEI _ _ (by omega) e3 e4,qEI _ _ (by omega) f3 f4,zH (show 0<=(((rg_Mi a k+x) % a.Read.length:Nat):Int) by omega) (by omega)];simp only[kd,ko,e2,f2,ks,wQ x (by omega)]
   obtain⟨r,hr,r1,r2,r3⟩:=CR hk n (x+1) (l.set ((rg_Mi a k+x) % a.Read.length) (rg_val a k x)) (by omega) (by omega) (by omega) (by rw[List.length_set];exact h4);refine⟨r,hr,r1,λq hq=>?_,λd hd1 hd2=>?_⟩
   ·rw[r2 q (λd hd=>hq d (by omega)),FX _ (λh=>hq x (kr _) hx h.symm)]
   ·by_cases he:d=x
    ·subst he;rw[r2 _ (λe he1 he2 hc=>?_),LU _ (by omega)]
     -- two places of one rg_gap differ
     have hM:=h0.1;rcases uJ (rg_Mi a k+d) a.Read.length with u|u<;>rcases uJ (rg_Mi a k+e) a.Read.length with v|v
     ·rw[qW u,qW v] at hc;omega
     ·rw[qW u,wU v (by omega)] at hc;omega
     ·omega
     ·rw[wU u (by omega),wU v (by omega)] at hc;omega
    ·exact r3 d (by omega) hd2
  ·have c1:decide ((x:Int)<=((rg_gap a k:Nat):Int))=false:=kf (by omega);rw[c1];exact⟨l,rfl,h4,λ_ _=>rfl,λd h1 h2=>by omega⟩
theorem qCW {k d k' d':Nat} (hk:k<(rg_meas a).length) (hk':k'<(rg_meas a).length) (hd:d<=rg_gap a k) (hd':d'<=rg_gap a k') (h:(rg_Mi a k+d) % a.Read.length=(rg_Mi a k'+d') % a.Read.length):k=k'/\d=d':=by
 have key:∀{k d k' d':Nat},k<(rg_meas a).length->k'<(rg_meas a).length->d<=rg_gap a k->d'<=rg_gap a k'->d<=d'->(rg_Mi a k+d) % a.Read.length=(rg_Mi a k'+d') % a.Read.length->k=k'/\d=d':=by
  intro k d k' d' hk hk' hd hd' hdd h;have h0:=zB hk;have h1:=zB hk';have g0:=QM hk;have g1:=QM hk';have hc:(rg_Mi a k'+(d'-d)) % a.Read.length=rg_Mi a k:=by
   have hM:=h0.1;have hM':=h1.1;rcases uJ (rg_Mi a k'+(d'-d)) a.Read.length with w|w
   ·rw[qW w];rcases uJ (rg_Mi a k+d) a.Read.length with u|u<;>rcases uJ (rg_Mi a k'+d') a.Read.length with v|v
    ·rw[qW u,qW v] at h;omega
    ·rw[qW u,wU v (by omega)] at h;omega
    ·rw[wU u (by omega),qW v] at h;omega
    ·rw[wU u (by omega),wU v (by omega)] at h;omega
   ·rw[wU w (by omega)];rcases uJ (rg_Mi a k+d) a.Read.length with u|u<;>rcases uJ (rg_Mi a k'+d') a.Read.length with v|v
    ·rw[qW u,qW v] at h;omega
    ·rw[qW u,wU v (by omega)] at h;omega
    ·rw[wU u (by omega),qW v] at h;omega
    ·rw[wU u (by omega),wU v (by omega)] at h;omega
  by_cases hz:d'-d=0
  ·rw[hz,kV,qW h1.1] at hc;exact⟨(qHW hk' hk hc).symm,by omega⟩
  ·have:=XS hk' (show 1<=d'-d by omega) (by omega);rw[hc,h0.2] at this;cases this
 rcases Nat.le_total d d' with hle|hle
 ·exact key hk hk' hd hd' hle h
 ·have:=key hk' hk hd' hd hle h.symm;exact⟨this.1.symm,this.2.symm⟩
theorem CF :∀(n x:Nat) (l:List qA),(rg_meas a).length<x+n->x<=(rg_meas a).length->l.length=a.Read.length->(∀k d,k<x->d<=rg_gap a k->l.getD ((rg_Mi a k+d) % a.Read.length) dd=rg_val a k d)->
  ∃r,QF a (wC (rg_meas a)) n l (x:Int)=some r/\r.length=a.Read.length/\∀k d,k<(rg_meas a).length->d<=rg_gap a k->r.getD ((rg_Mi a k+d) % a.Read.length) dd=rg_val a k d
 |0,x,l,h1,h2,_,_=>by omega
 |n+1,x,l,h1,h2,h3,h4=>by
  have hn:=g.hi;have hml:=ZN a;unfold QF;by_cases hx:x<(rg_meas a).length
  ·have h0:=zB hx;have hg:=QM hx;have hk1:(x+1) % (rg_meas a).length<(rg_meas a).length:=kH _ (by omega);have h5:=zB hk1;rw[jX,UN hx,zH (by omega) (by omega),YU (by omega),wQ x (by omega),wP,zH (n:=(rg_meas a).length) (show 0<=(((x+1) % (rg_meas a).length:Nat):Int) by omega) (by omega)];simp only[ko,ks,YQ]
   rw[show(rg_meas a).getD ((x+1) % (rg_meas a).length) 0=rg_Mi a ((x+1) % (rg_meas a).length) from rfl,show(rg_meas a).getD x 0=rg_Mi a x from rfl,h3,zH (show 0<=((rg_Mi a x:Nat):Int) by omega) (by omega),zH (show 0<=((rg_Mi a ((x+1) % (rg_meas a).length):Nat):Int) by omega) (by omega),qDO a (by omega) hx];simp only[ko,ks,kd];obtain⟨r,hr,r1,r2,r3⟩:=CR a g hx FUEL 1 (l.set (rg_Mi a x) (rg_Pt a (rg_Mi a x))) (by rw[zY];omega) (by omega) (by omega) (by rw[List.length_set];exact h3)
   have hr':ZT a (wC (rg_meas a)) (x:Int) ((rg_gap a x:Nat):Int) FUEL (l.set (rg_Mi a x) ((a.Read.getD (rg_Mi a x) dd).P)) 1=some r:=hr;rw[hr'];refine CF n (x+1) r (by omega) (by omega) r1 (λk d hk hd=>?_);have hkm:k<(rg_meas a).length:=by omega
   by_cases he:k=x
   ·subst he;by_cases hz:d=0
    ·subst hz;have hne:∀e,1<=e->e<=rg_gap a k->rg_Mi a k≠(rg_Mi a k+e) % a.Read.length:=λe h1 h2 hc=>by
      have:=XS hkm h1 h2;rw[<-hc,h0.2] at this;cases this
     rw[kV,qW h0.1,r2 _ hne,LU _ (by omega),qAt]
    ·exact r3 d (by omega) hd
   ·rw[r2 _ (λe h1 h2 hc=>he (qCW a g hkm hx hd h2 hc).1),FX _ (λhc=>?_),h4 k d (by omega) hd];refine he (qCW a g hkm hx hd (kY _) ?_).1;rw[kV,qW h0.1];exact hc.symm
  ·rw[jX,TY hx];exact⟨l,rfl,h3,λk d hk=>h4 k d (by omega)⟩
theorem qER (hm:1<=(rg_meas a).length) {q:Nat} (hq:q<a.Read.length):∃k d,k<(rg_meas a).length/\d<=rg_gap a k/\(rg_Mi a k+d) % a.Read.length=q/\(d=0↔rg_okAt a q=true):=by
 cases ho:rg_okAt a q with
 |true=>
  obtain⟨k,hk,e⟩:=PH hq ho;exact⟨k,0,hk,kY _,by rw[kV,e,qW hq],by simp⟩
 |false=>
  obtain⟨k,d,hk,h1,h2,h3⟩:=qIb hm hq ho;exact⟨k,d,hk,h2,h3,by simp;omega⟩
theorem qKh (hm:2<=(rg_meas a).length) {k:Nat} (hk:k<(rg_meas a).length):rg_gap a k+1<a.Read.length:=by
 have h0:=zB hk;unfold rg_gap;split
 ·rename_i h;have h1:=zB h;have:=DM (a:=a) (show k<k+1 by omega) h;omega
 ·have:=DM (a:=a) (show 0<k by omega) hk;omega
theorem HK (r:List qA) (hr1:r.length=a.Read.length) (hm:2<=(rg_meas a).length) (hr:∀k d,k<(rg_meas a).length->d<=rg_gap a k->r.getD ((rg_Mi a k+d) % a.Read.length) dd=rg_val a k d):
  ∀(n x:Nat),a.Read.length<x+n->x<=a.Read.length->yJ a n (r.take x) (x:Int)=some r
 |0,x,h1,h2=>by omega
 |n+1,x,h1,h2=>by
  have hn:=g.hi;have hlo:=g.lo;unfold yJ;by_cases hx:x<a.Read.length
  ·have hlen:(r.take x).length=x:=by rw[uq];omega
   have htk:r.take (x+1)=r.take x++[r.getD x dd]:=by
    rw[gB,kq (by omega),ka,kq (by omega)];rfl
   obtain⟨k,d,hk,hd,hq,hz⟩:=qER a g (by omega) hx;have h0:=zB hk;have hg:=QM hk;have ih:=HK r hr1 hm hr n (x+1) (by omega) (by omega);rw[UN hx,zH (by omega) (by omega),hlen,qAr (by omega)];simp only[ko,ks,NW,wQ x (by omega)];rw[show(a.Read.getD x dd).Ok=rg_okAt a x from rfl];have hv:=hr k d hk hd;rw[hq] at hv;rw[htk,hv] at ih;cases ho:rg_okAt a x with
   |true=>
    have hd0:=hz.2 ho;subst hd0;rw[qAt] at ih;rw[kV,qW h0.1] at hq;subst hq;exact ih
   |false=>
    have hd0:1<=d:=by
     rcases gV d with h|h
     ·rw[hz.1 h] at ho;cases ho
     ·exact h
    have hk1:(k+1) % (rg_meas a).length<(rg_meas a).length:=kH _ (by omega);have h5:=zB hk1;have hup:=qGX a (by omega) hk hd;have hdn:=qG3 a (by omega) hk hd0 (by omega);rw[hq] at hup hdn;rw[hup,hdn];have hM:=h0.1;have g3:=qKh a g hm hk;have q1:Int.tmod (w64 (w64 ((x:Int)-((rg_Mi a k:Nat):Int))+(a.Read.length:Int))) (a.Read.length:Int)=(d:Int):=by
     rw[qV (n:=(x:Int)-_) (by omega) (by omega),qV (by omega) (by omega)];rcases uJ (rg_Mi a k+d) a.Read.length with u|u
     ·rw[qW u] at hq;rw[show(x:Int)-((rg_Mi a k:Nat):Int)+(a.Read.length:Int)=((d+a.Read.length:Nat):Int) by omega,wP,uE,qW (by omega)]
     ·rw[wU u (by omega)] at hq;rw[show(x:Int)-((rg_Mi a k:Nat):Int)+(a.Read.length:Int)=((d:Nat):Int) by omega,wP,qW (by omega)]
    have hgn:=GB hk;have q2:Int.tmod (w64 (w64 (((rg_Mi a ((k+1) % (rg_meas a).length):Nat):Int)-((rg_Mi a k:Nat):Int))+(a.Read.length:Int))) (a.Read.length:Int)=((rg_gap a k+1:Nat):Int):=by
     rw[qV (n:=_-_) (by omega) (by omega),qV (by omega) (by omega)];rcases uJ (rg_Mi a k+(rg_gap a k+1)) a.Read.length with u|u
     ·rw[qW u] at hgn;rw[show((rg_Mi a ((k+1) % (rg_meas a).length):Nat):Int)-((rg_Mi a k:Nat):Int)+(a.Read.length:Int)=((rg_gap a k+1+a.Read.length:Nat):Int) by omega,wP,uE,qW (by omega)]
     ·rw[wU u (by omega)] at hgn;rw[show((rg_Mi a ((k+1) % (rg_meas a).length):Nat):Int)-((rg_Mi a k:Nat):Int)+(a.Read.length:Int)=((rg_gap a k+1:Nat):Int) by omega,wP,qW (by omega)]
    have hp:=MW g (rg_Mi a k);have hqq:=MW g (rg_nb a k 1);obtain⟨e1,e2,e3,e4⟩:=MS (rg_Pt a (rg_Mi a k)).X (rg_Pt a (rg_nb a k 1)).X d (rg_gap a k) hp.1 hp.2.1 hqq.1 hqq.2.1 (by omega) (by omega);obtain⟨f1,f2,f3,f4⟩:=MS (rg_Pt a (rg_Mi a k)).Y (rg_Pt a (rg_nb a k 1)).Y d (rg_gap a k) hp.2.2.1 hp.2.2.2 hqq.2.2.1 hqq.2.2.2 (by omega) (by omega);simp only[ku,kd,ks];rw[YU (by omega),zH (show 0<=((rg_Mi a k:Nat):Int) by omega) (by omega),zH (show 0<=((rg_Mi a ((k+1) % (rg_meas a).length):Nat):Int) by omega) (by omega),q1,q2]
    rw[show(a.Read.getD (rg_Mi a k) dd).P=rg_Pt a (rg_Mi a k) from rfl,show(a.Read.getD (rg_Mi a ((k+1) % (rg_meas a).length)) dd).P=rg_Pt a (rg_nb a k 1) from rfl,e1,f1,OZ _ _ (by omega) (by omega) e3 e4,OZ _ _ (by omega) (by omega) f3 f4];simp only[ko,kd,e2,f2];exact ih
  ·rw[TY hx,uV (by omega)];rfl
theorem qLv (hm:2<=(rg_meas a).length):∃r,r.length=a.Read.length/\(∀k d,k<(rg_meas a).length->d<=rg_gap a k->r.getD ((rg_Mi a k+d) % a.Read.length) dd=rg_val a k d)/\
  QF a (wC (rg_meas a)) FUEL (List.replicate ((a.Read.length:Int).toNat) (qA.mk 0 0)) 0=some r/\yJ a FUEL [] 0=some r:=by
 have hn:=g.hi;have hml:=ZN a;obtain⟨r,h1,h2,h3⟩:=CF a g FUEL 0 (List.replicate ((a.Read.length:Int).toNat) (qA.mk 0 0)) (by rw[zY];omega) (by omega) (by simp) (λk d h=>by omega);refine⟨r,h2,h3,h1,?_⟩;have:=HK a g r h2 hm h3 FUEL 0 (by rw[zY];omega) (by omega);rw[List.take_zero] at this;exact this
end
noncomputable def fill (a:Ring):List qA:=Classical.epsilon λr=>r.length=a.Read.length/\∀k d,k<(rg_meas a).length->d<=rg_gap a k->r.getD ((rg_Mi a k+d) % a.Read.length) dd=rg_val a k d
def NX (a:Ring):Int:=match BJ a with
 |some x=>x.2
 |none=>0
def rg_canFill (a:Ring) (most:Int):Bool:=!decide (((rg_meas a).length:Int)<3)&&!(decide (((a.Read.length-(rg_meas a).length:Nat):Int)>0)&&decide (NX a>most))
theorem qHT (a:Ring) (g:jF a) (hm:2<=(rg_meas a).length) {r:List qA} (h1:r.length=a.Read.length) (h2:∀k d,k<(rg_meas a).length->d<=rg_gap a k->r.getD ((rg_Mi a k+d) % a.Read.length) dd=rg_val a k d):r=fill a:=by
 have:=Classical.epsilon_spec (p:=λr:List qA=>r.length=a.Read.length/\∀k d,k<(rg_meas a).length->d<=rg_gap a k->r.getD ((rg_Mi a k+d) % a.Read.length) dd=rg_val a k d) ⟨r,h1,h2⟩;refine qLn (h1.trans this.1.symm) (λj hj=>?_);obtain⟨k,d,hk,hd,hq,_⟩:=qER a g (by omega) (show j<a.Read.length by omega);rw[<-hq,h2 k d hk hd];exact(this.2 k d hk hd).symm
theorem RT (a:Ring) (g:jF a) (hm:2<=(rg_meas a).length):(fill a).length=a.Read.length/\(∀k d,k<(rg_meas a).length->d<=rg_gap a k->(fill a).getD ((rg_Mi a k+d) % a.Read.length) dd=rg_val a k d)/\
  QF a (wC (rg_meas a)) FUEL (List.replicate ((a.Read.length:Int).toNat) (qA.mk 0 0)) 0=some (fill a)/\yJ a FUEL [] 0=some (fill a):=by
 obtain⟨r,h1,h2,h3,h4⟩:=qLv a g hm;obtain rfl:=qHT a g hm h1 h2;exact⟨h1,h2,h3,h4⟩
theorem qHm (a:Ring) (g:jF a) (most:Int):VV a most=some (bif rg_canFill a most then(fill a,0) else([],30)):=by
 have hn:=g.hi;have hml:=ZN a;obtain⟨L,hL,_⟩:=AH a (by omega);unfold VV XA rg_canFill;have hlo:NX a=(L:Int):=by unfold NX;rw[hL]
 have hmk:mkOk (a.Read.length:Int) 16=true:=by unfold mkOk;exact kg ⟨by omega,by omega,by omega⟩
 rw[EH,(GC a).2 g,LS a (by omega),hL,hlo,hmk];simp only[kd,uc,ku,jX];by_cases h3:((rg_meas a).length:Int)<3
 ·rw[kg h3];rfl
 ·rw[kf h3,(RT a g (by omega)).2.2.1];cases decide (((a.Read.length-(rg_meas a).length:Nat):Int)>0)<;>cases decide ((L:Int)>most)<;>rfl
theorem qI4 (a:Ring) (g:jF a) (most:Int):IG a most=some (bif rg_canFill a most then(fill a,0) else([],30)):=by
 have hn:=g.hi;have hml:=ZN a;obtain⟨L,hL,hR⟩:=AH a (by omega);unfold IG PW rg_canFill;have hlo:NX a=(L:Int):=by unfold NX;rw[hL]
 rw[qDE,(GC a).2 g,hR,hlo];simp only[kd,uc,ku];rw[qV (by omega) (by omega),show(a.Read.length:Int)-((a.Read.length-(rg_meas a).length:Nat):Int)=((rg_meas a).length:Int) by omega];by_cases h3:((rg_meas a).length:Int)<3
 ·rw[kg h3];rfl
 ·rw[kf h3,(RT a g (by omega)).2.2.2];cases decide (((a.Read.length-(rg_meas a).length:Nat):Int)>0)<;>cases decide ((L:Int)>most)<;>rfl
theorem qEE (a:Ring) (r:Int):∀(m:List Nat) (l:List qD) (j:Nat),j<l.length->(m.foldl (JL a r) l).getD j dd=bif decide (j∈m)&&rg_dropB a r j then qBE else l.getD j dd
 |[],l,j,_=>by simp
 |i::m,l,j,hj=>by
  rw[uH,qEE a r m _ j (by rw[AC];exact hj)];unfold JL;by_cases he:i=j
  ·subst he;cases hd:rg_dropB a r i with
   |false=>simp
   |true=>rw[ko,LU _ hj];simp
  ·have hm:decide (j∈i::m)=decide (j∈m):=by simp[Ne.symm he]
   rw[hm];cases hd:rg_dropB a r i with
   |false=>rfl
   |true=>rw[ko,FX _ he]
theorem qKF {a:Ring} {r:Int} {j:Nat} (h:rg_dropB a r j=true):j∈rg_meas a:=by
 unfold rg_dropB at h;rw[gh] at h;obtain⟨k,hk,h⟩:=h;rw[ki,decide_eq_true_eq] at h;rw[<-h.1];exact gc (qCQ (uz.1 hk))
def rg_cut (a:Ring) (r:Int) (j:Nat):Bool:=!decide (r<0)&&!decide (((rg_meas a).length:Int)<2)&&rg_dropB a r j
theorem qHp (a:Ring) (g:jF a) (r:Int) {j:Nat} (hj:j<a.Read.length):(rg_cleaned a r).Read.getD j dd=bif rg_cut a r j then qBE else a.Read.getD j dd:=by
 unfold rg_cleaned rg_cut;rw[(GC a).2 g];cases decide (r<0)<;>cases decide (((rg_meas a).length:Int)<2)<;>simp only[ko,ku,uc,uh,gH,Bool.false_and,Bool.true_and,Bool.and_false];rw[qEE _ _ _ _ _ hj];cases hd:rg_dropB a r j with
 |false=>simp
 |true=>simp[qKF hd]
theorem qLH {l:List qD} {P:qD->Prop} (h:∀j,j<l.length->P (l.getD j dd)):∀r∈l,P r:=by
 intro r hr;obtain⟨t,ht,he⟩:=uI.1 hr;have:=h t ht
 rwa [ka,kq ht,kF,he] at this
theorem qMR {a:Ring} (g:jF a) {j:Nat} (hj:j<a.Read.length):ZE (a.Read.getD j dd)=0:=by
 refine g.all _ ?_;rw[ka,kq hj];exact uQ hj
theorem qGy (a:Ring) (g:jF a) (r:Int):jF (rg_cleaned a r):=by
 have hl:=qHB a r;have hz:=qJ0 a r;refine⟨by rw[hl];exact g.lo,by rw[hl];exact g.hi,by rw[hz];exact g.z0,by rw[hz];exact g.z1,qLH λj hj=>?_⟩;rw[hl] at hj;rw[qHp a g r hj];cases rg_cut a r j with
 |true=>exact show ZE qBE=0 by decide
 |false=>exact qMR g hj
section
variable (a :Ring) (g:jF a) (hm:2<=(rg_meas a).length)
include g hm
theorem qML {i:Nat} (hi:i<a.Read.length) (ho:rg_okAt a i=true):(fill a).getD i dd=rg_Pt a i:=by
 obtain⟨k,hk,e⟩:=PH hi ho;have:=(RT a g hm).2.1 k 0 hk (kY _);rw[kV,e,qW hi,qAt,e] at this;exact this
end
end Saw
end Go.SL

namespace Go.SL
end Go.SL

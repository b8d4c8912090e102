/- The ring laws' plain mathematics, part 5: repairing. -/
import Derived.Test.YthbamnkheinbgaaGreatDoorSMa9
import Derived.Test.YthbamnkheinbgaaGreatDoorSMa2
set_option linter.unusedVariables false
set_option linter.unusedSimpArgs false
set_option linter.unusedSectionVars false
namespace Go.SL
namespace Saw
theorem qDo (a b:Int) (hb:0<b):Int.tmod a b+b*Int.tdiv a b=a/\Int.tmod a b<b/\-b<Int.tmod a b/\(Int.tdiv a b).natAbs<=a.natAbs:=by
 refine⟨Int.tmod_add_mul_tdiv a b,gN a hb,?_,?_⟩
 ·rcases Int.le_total 0 a with h|h
  ·have:=Int.tmod_nonneg b h;omega
  ·have h3:=gN (-a) hb;rw[Int.neg_tmod] at h3;omega
 ·rw[Int.natAbs_tdiv];exact Nat.div_le_self _ _
theorem IZ {a b q r:Int} (hb:0<b) (h:r+b*q=a) (h0:0<=r) (h1:r<b):a/b=q:=(Int.ediv_emod_unique hb).2 ⟨h,h0,h1⟩|>.1
theorem qF6 (a b:Int) (hb:0<b) (h1: -4611686018427387904<=a) (h2:a<=4611686018427387904):VN a b=some (a/b):=by
 obtain⟨e,l,g,n⟩:=qDo a b hb;unfold VN BJ;rw[XK (by omega),qW (n:=Int.tdiv a b) (by omega) (by omega)];by_cases h:Int.tmod a b<0
 ·rw[ke h,qW (by omega) (by omega)];have:a/b=Int.tdiv a b-1:=IZ hb (r:=Int.tmod a b+b) (by rw[gp,Int.mul_one];omega) (by omega) (by omega);rw[this];rfl
 ·rw[kg h];have:a/b=Int.tdiv a b:=IZ hb (r:=Int.tmod a b) e (by omega) l;rw[this];rfl
theorem qBk (a b:Int) (hb:0<b) (h3:b<=4611686018427387904) (h1: -4611686018427387904<=a) (h2:a<=4611686018427387904):RC a b=some (a/b):=by
 obtain⟨e,l,g,n⟩:=qDo a b hb;have hc:Int.tdiv a b*b=b*Int.tdiv a b:=Int.mul_comm _ _;unfold RC VQ;rw[XK (by omega),qW (n:=Int.tdiv a b) (by omega) (by omega),qW (n:=Int.tdiv a b*b) (by omega) (by omega)];by_cases h:Int.tmod a b<0
 ·rw[ke (by omega),qW (by omega) (by omega)];have:a/b=Int.tdiv a b-1:=IZ hb (r:=Int.tmod a b+b) (by rw[gp,Int.mul_one];omega) (by omega) (by omega);rw[this];rfl
 ·rw[kg (by omega)];have:a/b=Int.tdiv a b:=IZ hb (r:=Int.tmod a b) e (by omega) l;rw[this];rfl
def PJ (x y:Int) (j g:Nat):Int:=x+(y-x)*(j:Int)/((g+1:Nat):Int)
theorem qFX (x y:Int) (g:Nat):PJ x y 0 g=x:=by simp[PJ]
theorem qFT {d:Int} (j g:Nat) (hj:j<=g+1) (hd:0<=d):0<=d*(j:Int)/\d*(j:Int)<=d*((g+1:Nat):Int):=
 ⟨ky hd (by omega),Int.mul_le_mul_of_nonneg_left (by omega) hd⟩
theorem qJb (x y:Int) (j g:Nat) (hj:j<=g+1):(x<=y->x<=PJ x y j g/\PJ x y j g<=y)/\(y<=x->y<=PJ x y j g/\PJ x y j g<=x):=by
 have hp:(0:Int)<((g+1:Nat):Int):=by omega
 unfold PJ;constructor
 ·intro h;obtain⟨h1,h2⟩:=qFT j g hj (show 0<=y-x by omega);have h3:=Int.ediv_nonneg h1 (gM hp);have h4:=Int.ediv_le_ediv hp h2;rw[Int.mul_ediv_cancel _ (by omega)] at h4;omega
 ·intro h;obtain⟨h1,h2⟩:=qFT j g hj (show 0<=x-y by omega);have e:(y-x)*(j:Int)= -((x-y)*(j:Int)):=by rw[<-Int.neg_mul];congr 1;omega
  rw[e];have h3: -((x-y)*(j:Int))/((g+1:Nat):Int)<=0/((g+1:Nat):Int):=Int.ediv_le_ediv hp (by omega);have h4: -((x-y)*((g+1:Nat):Int))/((g+1:Nat):Int)<=-((x-y)*(j:Int))/((g+1:Nat):Int):=Int.ediv_le_ediv hp (by omega);rw[<-Int.neg_mul,Int.mul_ediv_cancel _ (by omega)] at h4;rw[Int.zero_ediv] at h3;omega
def rg_val (a:Ring) (k d:Nat):qA:=⟨PJ (rg_Pt a (rg_Mi a k)).X (rg_Pt a (rg_nb a k 1)).X d (rg_gap a k),PJ (rg_Pt a (rg_Mi a k)).Y (rg_Pt a (rg_nb a k 1)).Y d (rg_gap a k)⟩
theorem qFS (a:Ring) (k:Nat):rg_val a k 0=rg_Pt a (rg_Mi a k):=by unfold rg_val;rw[qFX,qFX]
theorem SO {a:Ring} (g:yW a) (i:Nat):qNb (rg_Pt a i):=by
 unfold rg_Pt;by_cases h:i<a.Read.length
 ·refine(qLl (g.all _ ?_)).1;rw[ka,kr h];exact uK h
 ·rw[ka,List.getElem?_eq_none (by omega)];exact⟨by decide,by decide,by decide,by decide⟩
theorem SP (x y:Int) (j g:Nat) (hx: -600<=x) (hx':x<=600) (hy: -600<=y) (hy':y<=600) (hj:j<=g+1) (hg:g<=100):
  w64 (w64 (y-x)*(j:Int))=(y-x)*(j:Int)/\w64 (x+(y-x)*(j:Int)/((g+1:Nat):Int))=PJ x y j g/\-4611686018427387904<=(y-x)*(j:Int)/\(y-x)*(j:Int)<=4611686018427387904:=by
 have hb:=qJb x y j g hj;have hm:w64 (x+(y-x)*(j:Int)/((g+1:Nat):Int))=PJ x y j g:=by
  show w64 (PJ x y j g)=_;rcases Int.le_total x y with h|h
  ·have:=hb.1 h;exact qW (by omega) (by omega)
  ·have:=hb.2 h;exact qW (by omega) (by omega)
 have hr: -1300000<=(y-x)*(j:Int)/\(y-x)*(j:Int)<=1300000:=by
  have h1:(y-x)*(j:Int)<=1200*(j:Int):=Int.mul_le_mul_of_nonneg_right (by omega) (by omega);have h2:(-1200)*(j:Int)<=(y-x)*(j:Int):=Int.mul_le_mul_of_nonneg_right (by omega) (by omega);omega
 refine⟨?_,hm,by omega,by omega⟩;rw[qW (n:=y-x) (by omega) (by omega),qW (by omega) (by omega)]
section
variable (a :Ring) (g:yW a)
include g
theorem qA4 {k:Nat} (hk:k<(rg_meas a).length):∀(n x:Nat) (l:List qA),rg_gap a k+1<x+n->1<=x->x<=rg_gap a k+1->l.length=a.Read.length->
  ∃r,WD a (wG (rg_meas a)) (k:Int) ((rg_gap a k:Nat):Int) n l (x:Int)=some r/\r.length=a.Read.length/\
   (∀q,(∀d,x<=d->d<=rg_gap a k->q≠(rg_Mi a k+d) % a.Read.length)->r.getD q dd=l.getD q dd)/\(∀d,x<=d->d<=rg_gap a k->r.getD ((rg_Mi a k+d) % a.Read.length) dd=rg_val a k d)
 |0,x,l,h1,h2,h3,h4=>by omega
 |n+1,x,l,h1,h2,h3,h4=>by
  have hn:=g.hi;have hlo:=g.lo;have hg:=QX hk;have h0:=zD hk;have hml:=ZS a;unfold WD;by_cases hx:x<=rg_gap a k
  ·have hlt:(rg_Mi a k+x) % a.Read.length<a.Read.length:=kK _ (by omega);have hk1:(k+1) % (rg_meas a).length<(rg_meas a).length:=kK _ (by omega);have hp:=SO g (rg_Mi a k);have hq:=SO g (rg_nb a k 1);obtain⟨e1,e2,e3,e4⟩:=SP (rg_Pt a (rg_Mi a k)).X (rg_Pt a (rg_nb a k 1)).X x (rg_gap a k) hp.1 hp.2.1 hq.1 hq.2.1 (by omega) (by omega);obtain⟨f1,f2,f3,f4⟩:=SP (rg_Pt a (rg_Mi a k)).Y (rg_Pt a (rg_nb a k 1)).Y x (rg_gap a k) hp.2.2.1 hp.2.2.2 hq.2.2.1 hq.2.2.2 (by omega) (by omega);have c1:decide ((x:Int)<=((rg_gap a k:Nat):Int))=true:=ke (by omega)
   have w1:w64 (((rg_gap a k:Nat):Int)+1)=((rg_gap a k+1:Nat):Int):=wS _ (by omega);have w2:w64 (((rg_Mi a k:Nat):Int)+(x:Int))=((rg_Mi a k+x:Nat):Int):=by rw[qW (by omega) (by omega)];omega
   rw[c1,h4,XK (by omega),yH,wS k (by omega),wU];simp only[kq,ks,XQ];rw[show(rg_meas a).getD ((k+1) % (rg_meas a).length) 0=rg_nb a k 1 from rfl,show(rg_meas a).getD k 0=rg_Mi a k from rfl];rw[show(a.Read.getD (rg_Mi a k) dd).P=rg_Pt a (rg_Mi a k) from rfl,show(a.Read.getD (rg_nb a k 1) dd).P=rg_Pt a (rg_nb a k 1) from rfl,w1,w2,wU,e1,f1,qF6 _ _ (by omega) e3 e4,qF6 _ _ (by omega) f3 f4,zM (show 0<=(((rg_Mi a k+x) % a.Read.length:Nat):Int) by omega) (by omega)];simp only[kd,kq,e2,f2,ks,wS x (by omega)]
   obtain⟨r,hr,r1,r2,r3⟩:=qA4 hk n (x+1) (l.set ((rg_Mi a k+x) % a.Read.length) (rg_val a k x)) (by omega) (by omega) (by omega) (by rw[List.length_set];exact h4);refine⟨r,hr,r1,λq hq=>?_,λd hd1 hd2=>?_⟩
   ·rw[r2 q (λd hd=>hq d (by omega)),MN _ (λh=>hq x (ki _) hx h.symm)]
   ·by_cases he:d=x
    ·subst he;rw[r2 _ (λe he1 he2 hc=>?_),MU _ (by omega)]
     -- two places of one rg_gap differ
     have hM:=h0.1;rcases uG (rg_Mi a k+d) a.Read.length with u|u<;>rcases uG (rg_Mi a k+e) a.Read.length with v|v
     ·rw[qX u,qX v] at hc;omega
     ·rw[qX u,jC v (by omega)] at hc;omega
     ·omega
     ·rw[jC u (by omega),jC v (by omega)] at hc;omega
    ·exact r3 d (by omega) hd2
  ·have c1:decide ((x:Int)<=((rg_gap a k:Nat):Int))=false:=kg (by omega);rw[c1];exact⟨l,rfl,h4,λ_ _=>rfl,λd h1 h2=>by omega⟩
theorem qEG {k d k' d':Nat} (hk:k<(rg_meas a).length) (hk':k'<(rg_meas a).length) (hd:d<=rg_gap a k) (hd':d'<=rg_gap a k') (h:(rg_Mi a k+d) % a.Read.length=(rg_Mi a k'+d') % a.Read.length):k=k'/\d=d':=by
 have key:∀{k d k' d':Nat},k<(rg_meas a).length->k'<(rg_meas a).length->d<=rg_gap a k->d'<=rg_gap a k'->d<=d'->(rg_Mi a k+d) % a.Read.length=(rg_Mi a k'+d') % a.Read.length->k=k'/\d=d':=by
  intro k d k' d' hk hk' hd hd' hdd h;have h0:=zD hk;have h1:=zD hk';have g0:=QX hk;have g1:=QX hk';have hc:(rg_Mi a k'+(d'-d)) % a.Read.length=rg_Mi a k:=by
   have hM:=h0.1;have hM':=h1.1;rcases uG (rg_Mi a k'+(d'-d)) a.Read.length with w|w
   ·rw[qX w];rcases uG (rg_Mi a k+d) a.Read.length with u|u<;>rcases uG (rg_Mi a k'+d') a.Read.length with v|v
    ·rw[qX u,qX v] at h;omega
    ·rw[qX u,jC v (by omega)] at h;omega
    ·rw[jC u (by omega),qX v] at h;omega
    ·rw[jC u (by omega),jC v (by omega)] at h;omega
   ·rw[jC w (by omega)];rcases uG (rg_Mi a k+d) a.Read.length with u|u<;>rcases uG (rg_Mi a k'+d') a.Read.length with v|v
    ·rw[qX u,qX v] at h;omega
    ·rw[qX u,jC v (by omega)] at h;omega
    ·rw[jC u (by omega),qX v] at h;omega
    ·rw[jC u (by omega),jC v (by omega)] at h;omega
  by_cases hz:d'-d=0
  ·rw[hz,kW,qX h1.1] at hc;exact⟨(qKz hk' hk hc).symm,by omega⟩
  ·have:=KJ hk' (show 1<=d'-d by omega) (by omega);rw[hc,h0.2] at this;cases this
 rcases Nat.le_total d d' with hle|hle
 ·exact key hk hk' hd hd' hle h
 ·have:=key hk' hk hd' hd hle h.symm;exact⟨this.1.symm,this.2.symm⟩
theorem qAJ :∀(n x:Nat) (l:List qA),(rg_meas a).length<x+n->x<=(rg_meas a).length->l.length=a.Read.length->(∀k d,k<x->d<=rg_gap a k->l.getD ((rg_Mi a k+d) % a.Read.length) dd=rg_val a k d)->
  ∃r,QR a (wG (rg_meas a)) n l (x:Int)=some r/\r.length=a.Read.length/\∀k d,k<(rg_meas a).length->d<=rg_gap a k->r.getD ((rg_Mi a k+d) % a.Read.length) dd=rg_val a k d
 |0,x,l,h1,h2,_,_=>by omega
 |n+1,x,l,h1,h2,h3,h4=>by
  have hn:=g.hi;have hml:=ZS a;unfold QR;by_cases hx:x<(rg_meas a).length
  ·have h0:=zD hx;have hg:=QX hx;have hk1:(x+1) % (rg_meas a).length<(rg_meas a).length:=kK _ (by omega);have h5:=zD hk1;rw[yH,UX hx,zM (by omega) (by omega),XK (by omega),wS x (by omega),wU,zM (n:=(rg_meas a).length) (show 0<=(((x+1) % (rg_meas a).length:Nat):Int) by omega) (by omega)];simp only[kq,ks,XQ]
   rw[show(rg_meas a).getD ((x+1) % (rg_meas a).length) 0=rg_Mi a ((x+1) % (rg_meas a).length) from rfl,show(rg_meas a).getD x 0=rg_Mi a x from rfl,h3,zM (show 0<=((rg_Mi a x:Nat):Int) by omega) (by omega),zM (show 0<=((rg_Mi a ((x+1) % (rg_meas a).length):Nat):Int) by omega) (by omega),qDQ a (by omega) hx];simp only[kq,ks,kd];obtain⟨r,hr,r1,r2,r3⟩:=qA4 a g hx FUEL 1 (l.set (rg_Mi a x) (rg_Pt a (rg_Mi a x))) (by rw[wA];omega) (by omega) (by omega) (by rw[List.length_set];exact h3)
   have hr':WD a (wG (rg_meas a)) (x:Int) ((rg_gap a x:Nat):Int) FUEL (l.set (rg_Mi a x) ((a.Read.getD (rg_Mi a x) dd).P)) 1=some r:=hr;rw[hr'];refine qAJ n (x+1) r (by omega) (by omega) r1 (λk d hk hd=>?_);have hkm:k<(rg_meas a).length:=by omega
   by_cases he:k=x
   ·subst he;by_cases hz:d=0
    ·subst hz;have hne:∀e,1<=e->e<=rg_gap a k->rg_Mi a k≠(rg_Mi a k+e) % a.Read.length:=λe h1 h2 hc=>by
      have:=KJ hkm h1 h2;rw[<-hc,h0.2] at this;cases this
     rw[kW,qX h0.1,r2 _ hne,MU _ (by omega),qFS]
    ·exact r3 d (by omega) hd
   ·rw[r2 _ (λe h1 h2 hc=>he (qEG a g hkm hx hd h2 hc).1),MN _ (λhc=>?_),h4 k d (by omega) hd];refine he (qEG a g hkm hx hd (kZ _) ?_).1;rw[kW,qX h0.1];exact hc.symm
  ·rw[yH,UY hx];exact⟨l,rfl,h3,λk d hk=>h4 k d (by omega)⟩
theorem qF1 (hm:1<=(rg_meas a).length) {q:Nat} (hq:q<a.Read.length):∃k d,k<(rg_meas a).length/\d<=rg_gap a k/\(rg_Mi a k+d) % a.Read.length=q/\(d=0↔rg_okAt a q=true):=by
 cases ho:rg_okAt a q with
 |true=>
  obtain⟨k,hk,e⟩:=DN hq ho;exact⟨k,0,hk,kZ _,by rw[kW,e,qX hq],by simp⟩
 |false=>
  obtain⟨k,d,hk,h1,h2,h3⟩:=qKm hm hq ho;exact⟨k,d,hk,h2,h3,by simp;omega⟩
theorem qNz (hm:2<=(rg_meas a).length) {k:Nat} (hk:k<(rg_meas a).length):rg_gap a k+1<a.Read.length:=by
 have h0:=zD hk;unfold rg_gap;split
 ·rename_i h;have h1:=zD h;have:=NJ (a:=a) (show k<k+1 by omega) h;omega
 ·have:=NJ (a:=a) (show 0<k by omega) hk;omega
theorem EX (r:List qA) (hr1:r.length=a.Read.length) (hm:2<=(rg_meas a).length) (hr:∀k d,k<(rg_meas a).length->d<=rg_gap a k->r.getD ((rg_Mi a k+d) % a.Read.length) dd=rg_val a k d):
  ∀(n x:Nat),a.Read.length<x+n->x<=a.Read.length->wX a n (r.take x) (x:Int)=some r
 |0,x,h1,h2=>by omega
 |n+1,x,h1,h2=>by
  have hn:=g.hi;have hlo:=g.lo;unfold wX;by_cases hx:x<a.Read.length
  ·have hlen:(r.take x).length=x:=by rw[ug];omega
   have htk:r.take (x+1)=r.take x++[r.getD x dd]:=by
    rw[gr,kr (by omega),ka,kr (by omega)];rfl
   obtain⟨k,d,hk,hd,hq,hz⟩:=qF1 a g (by omega) hx;have h0:=zD hk;have hg:=QX hk;have ih:=EX r hr1 hm hr n (x+1) (by omega) (by omega);rw[UX hx,zM (by omega) (by omega),hlen,qBd (by omega)];simp only[kq,ks,RQ,wS x (by omega)];rw[show(a.Read.getD x dd).Ok=rg_okAt a x from rfl];have hv:=hr k d hk hd;rw[hq] at hv;rw[htk,hv] at ih;cases ho:rg_okAt a x with
   |true=>
    have hd0:=hz.2 ho;subst hd0;rw[qFS] at ih;rw[kW,qX h0.1] at hq;subst hq;exact ih
   |false=>
    have hd0:1<=d:=by
     rcases gJ d with h|h
     ·rw[hz.1 h] at ho;cases ho
     ·exact h
    have hk1:(k+1) % (rg_meas a).length<(rg_meas a).length:=kK _ (by omega);have h5:=zD hk1;have hup:=qHv a (by omega) hk hd;have hdn:=qHT a (by omega) hk hd0 (by omega);rw[hq] at hup hdn;rw[hup,hdn];have hM:=h0.1;have g3:=qNz a g hm hk;have q1:Int.tmod (w64 (w64 ((x:Int)-((rg_Mi a k:Nat):Int))+(a.Read.length:Int))) (a.Read.length:Int)=(d:Int):=by
     rw[qW (n:=(x:Int)-_) (by omega) (by omega),qW (by omega) (by omega)];rcases uG (rg_Mi a k+d) a.Read.length with u|u
     ·rw[qX u] at hq;rw[show(x:Int)-((rg_Mi a k:Nat):Int)+(a.Read.length:Int)=((d+a.Read.length:Nat):Int) by omega,wU,uz,qX (by omega)]
     ·rw[jC u (by omega)] at hq;rw[show(x:Int)-((rg_Mi a k:Nat):Int)+(a.Read.length:Int)=((d:Nat):Int) by omega,wU,qX (by omega)]
    have hgn:=DF hk;have q2:Int.tmod (w64 (w64 (((rg_Mi a ((k+1) % (rg_meas a).length):Nat):Int)-((rg_Mi a k:Nat):Int))+(a.Read.length:Int))) (a.Read.length:Int)=((rg_gap a k+1:Nat):Int):=by
     rw[qW (n:=_-_) (by omega) (by omega),qW (by omega) (by omega)];rcases uG (rg_Mi a k+(rg_gap a k+1)) a.Read.length with u|u
     ·rw[qX u] at hgn;rw[show((rg_Mi a ((k+1) % (rg_meas a).length):Nat):Int)-((rg_Mi a k:Nat):Int)+(a.Read.length:Int)=((rg_gap a k+1+a.Read.length:Nat):Int) by omega,wU,uz,qX (by omega)]
     ·rw[jC u (by omega)] at hgn;rw[show((rg_Mi a ((k+1) % (rg_meas a).length):Nat):Int)-((rg_Mi a k:Nat):Int)+(a.Read.length:Int)=((rg_gap a k+1:Nat):Int) by omega,wU,qX (by omega)]
    have hp:=SO g (rg_Mi a k);have hqq:=SO g (rg_nb a k 1);obtain⟨e1,e2,e3,e4⟩:=SP (rg_Pt a (rg_Mi a k)).X (rg_Pt a (rg_nb a k 1)).X d (rg_gap a k) hp.1 hp.2.1 hqq.1 hqq.2.1 (by omega) (by omega);obtain⟨f1,f2,f3,f4⟩:=SP (rg_Pt a (rg_Mi a k)).Y (rg_Pt a (rg_nb a k 1)).Y d (rg_gap a k) hp.2.2.1 hp.2.2.2 hqq.2.2.1 hqq.2.2.2 (by omega) (by omega);simp only[ku,kd,ks];rw[XK (by omega),zM (show 0<=((rg_Mi a k:Nat):Int) by omega) (by omega),zM (show 0<=((rg_Mi a ((k+1) % (rg_meas a).length):Nat):Int) by omega) (by omega),q1,q2]
    rw[show(a.Read.getD (rg_Mi a k) dd).P=rg_Pt a (rg_Mi a k) from rfl,show(a.Read.getD (rg_Mi a ((k+1) % (rg_meas a).length)) dd).P=rg_Pt a (rg_nb a k 1) from rfl,e1,f1,qBk _ _ (by omega) (by omega) e3 e4,qBk _ _ (by omega) (by omega) f3 f4];simp only[kq,kd,e2,f2];exact ih
  ·rw[UY hx,uO (by omega)];rfl
theorem qNZ (hm:2<=(rg_meas a).length):∃r,r.length=a.Read.length/\(∀k d,k<(rg_meas a).length->d<=rg_gap a k->r.getD ((rg_Mi a k+d) % a.Read.length) dd=rg_val a k d)/\
  QR a (wG (rg_meas a)) FUEL (List.replicate ((a.Read.length:Int).toNat) (qA.mk 0 0)) 0=some r/\wX a FUEL [] 0=some r:=by
 have hn:=g.hi;have hml:=ZS a;obtain⟨r,h1,h2,h3⟩:=qAJ a g FUEL 0 (List.replicate ((a.Read.length:Int).toNat) (qA.mk 0 0)) (by rw[wA];omega) (by omega) (by simp) (λk d h=>by omega);refine⟨r,h2,h3,h1,?_⟩;have:=EX a g r h2 hm h3 FUEL 0 (by rw[wA];omega) (by omega);rw[List.take_zero] at this;exact this
end
noncomputable def fill (a:Ring):List qA:=Classical.epsilon λr=>r.length=a.Read.length/\∀k d,k<(rg_meas a).length->d<=rg_gap a k->r.getD ((rg_Mi a k+d) % a.Read.length) dd=rg_val a k d
def LO (a:Ring):Int:=match FC a with
 |some x=>x.2
 |none=>0
def rg_canFill (a:Ring) (most:Int):Bool:=!decide (((rg_meas a).length:Int)<3)&&!(decide (((a.Read.length-(rg_meas a).length:Nat):Int)>0)&&decide (LO a>most))
theorem qI1 (a:Ring) (g:yW a) (hm:2<=(rg_meas a).length) {r:List qA} (h1:r.length=a.Read.length) (h2:∀k d,k<(rg_meas a).length->d<=rg_gap a k->r.getD ((rg_Mi a k+d) % a.Read.length) dd=rg_val a k d):r=fill a:=by
 have:=Classical.epsilon_spec (p:=λr:List qA=>r.length=a.Read.length/\∀k d,k<(rg_meas a).length->d<=rg_gap a k->r.getD ((rg_Mi a k+d) % a.Read.length) dd=rg_val a k d) ⟨r,h1,h2⟩;refine qOg (h1.trans this.1.symm) (λj hj=>?_);obtain⟨k,d,hk,hd,hq,_⟩:=qF1 a g (by omega) (show j<a.Read.length by omega);rw[<-hq,h2 k d hk hd];exact(this.2 k d hk hd).symm
theorem CX (a:Ring) (g:yW a) (hm:2<=(rg_meas a).length):(fill a).length=a.Read.length/\(∀k d,k<(rg_meas a).length->d<=rg_gap a k->(fill a).getD ((rg_Mi a k+d) % a.Read.length) dd=rg_val a k d)/\
  QR a (wG (rg_meas a)) FUEL (List.replicate ((a.Read.length:Int).toNat) (qA.mk 0 0)) 0=some (fill a)/\wX a FUEL [] 0=some (fill a):=by
 obtain⟨r,h1,h2,h3,h4⟩:=qNZ a g hm;obtain rfl:=qI1 a g hm h1 h2;exact⟨h1,h2,h3,h4⟩
theorem qJW (a:Ring) (g:yW a) (most:Int):DB a most=some (bif rg_canFill a most then(fill a,0) else([],30)):=by
 have hn:=g.hi;have hml:=ZS a;obtain⟨L,hL,_⟩:=OK a (by omega);unfold DB XG rg_canFill;have hlo:LO a=(L:Int):=by unfold LO;rw[hL]
 have hmk:mkOk (a.Read.length:Int) 16=true:=by unfold mkOk;exact ke ⟨by omega,by omega,by omega⟩
 rw[AI,(GR a).2 g,HV a (by omega),hL,hlo,hmk];simp only[kd,uj,ku,yH];by_cases h3:((rg_meas a).length:Int)<3
 ·rw[ke h3];rfl
 ·rw[kg h3,(CX a g (by omega)).2.2.1];cases decide (((a.Read.length-(rg_meas a).length:Nat):Int)>0)<;>cases decide ((L:Int)>most)<;>rfl
theorem qKE (a:Ring) (g:yW a) (most:Int):UJ a most=some (bif rg_canFill a most then(fill a,0) else([],30)):=by
 have hn:=g.hi;have hml:=ZS a;obtain⟨L,hL,hR⟩:=OK a (by omega);unfold UJ YD rg_canFill;have hlo:LO a=(L:Int):=by unfold LO;rw[hL]
 rw[CO,(GR a).2 g,hR,hlo];simp only[kd,uj,ku];rw[qW (by omega) (by omega),show(a.Read.length:Int)-((a.Read.length-(rg_meas a).length:Nat):Int)=((rg_meas a).length:Int) by omega];by_cases h3:((rg_meas a).length:Int)<3
 ·rw[ke h3];rfl
 ·rw[kg h3,(CX a g (by omega)).2.2.2];cases decide (((a.Read.length-(rg_meas a).length:Nat):Int)>0)<;>cases decide ((L:Int)>most)<;>rfl
theorem qF4 (a:Ring) (r:Int):∀(m:List Nat) (l:List qE) (j:Nat),j<l.length->(m.foldl (JR a r) l).getD j dd=bif decide (j∈m)&&rg_dropB a r j then qCv else l.getD j dd
 |[],l,j,_=>by simp
 |i::m,l,j,hj=>by
  rw[uB,qF4 a r m _ j (by rw[OD];exact hj)];unfold JR;by_cases he:i=j
  ·subst he;cases hd:rg_dropB a r i with
   |false=>simp
   |true=>rw[kq,MU _ hj];simp
  ·have hm:decide (j∈i::m)=decide (j∈m):=by simp[Ne.symm he]
   rw[hm];cases hd:rg_dropB a r i with
   |false=>rfl
   |true=>rw[kq,MN _ he]
theorem qMT {a:Ring} {r:Int} {j:Nat} (h:rg_dropB a r j=true):j∈rg_meas a:=by
 unfold rg_dropB at h;rw[uZ] at h;obtain⟨k,hk,h⟩:=h;rw[ko,decide_eq_true_eq] at h;rw[<-h.1];exact uV (qEy (uA.1 hk))
def rg_cut (a:Ring) (r:Int) (j:Nat):Bool:=!decide (r<0)&&!decide (((rg_meas a).length:Int)<2)&&rg_dropB a r j
theorem qJe (a:Ring) (g:yW a) (r:Int) {j:Nat} (hj:j<a.Read.length):(rg_cleaned a r).Read.getD j dd=bif rg_cut a r j then qCv else a.Read.getD j dd:=by
 unfold rg_cleaned rg_cut;rw[(GR a).2 g];cases decide (r<0)<;>cases decide (((rg_meas a).length:Int)<2)<;>simp only[kq,ku,uj,uq,gP,Bool.false_and,Bool.true_and,Bool.and_false];rw[qF4 _ _ _ _ _ hj];cases hd:rg_dropB a r j with
 |false=>simp
 |true=>simp[qMT hd]
theorem qN7 {l:List qE} {P:qE->Prop} (h:∀j,j<l.length->P (l.getD j dd)):∀r∈l,P r:=by
 intro r hr;obtain⟨t,ht,he⟩:=uE.1 hr;have:=h t ht
 rwa [ka,kr ht,kC,he] at this
theorem qO4 {a:Ring} (g:yW a) {j:Nat} (hj:j<a.Read.length):ZK (a.Read.getD j dd)=0:=by
 refine g.all _ ?_;rw[ka,kr hj];exact uK hj
theorem qIb (a:Ring) (g:yW a) (r:Int):yW (rg_cleaned a r):=by
 have hl:=qJt a r;have hz:=qMc a r;refine⟨by rw[hl];exact g.lo,by rw[hl];exact g.hi,by rw[hz];exact g.z0,by rw[hz];exact g.z1,qN7 λj hj=>?_⟩;rw[hl] at hj;rw[qJe a g r hj];cases rg_cut a r j with
 |true=>exact show ZK qCv=0 by decide
 |false=>exact qO4 g hj
section
variable (a :Ring) (g:yW a) (hm:2<=(rg_meas a).length)
include g hm
end
end Saw
end Go.SL

namespace Go.SL
end Go.SL

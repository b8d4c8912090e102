/- The ring laws' plain mathematics, part 5: repairing. -/
import Derived.Test.YthbamnkheinbgaaGreatDoorSMa9
import Derived.Test.YthbamnkheinbgaaGreatDoorSMa2
set_option linter.unusedVariables false
set_option linter.unusedSimpArgs false
set_option linter.unusedSectionVars false
namespace Go.SL
namespace Saw
theorem qDP (a b:Int) (hb:0<b):Int.tmod a b+b*Int.tdiv a b=a/\Int.tmod a b<b/\-b<Int.tmod a b/\(Int.tdiv a b).natAbs<=a.natAbs:=by
 refine⟨Int.tmod_add_mul_tdiv a b,gY a hb,?_,?_⟩
 ·rcases Int.le_total 0 a with h|h
  ·have:=Int.tmod_nonneg b h;omega
  ·have h3:=gY (-a) hb;rw[Int.neg_tmod] at h3;omega
 ·rw[Int.natAbs_tdiv];exact Nat.div_le_self _ _
theorem OK {a b q r:Int} (hb:0<b) (h:r+b*q=a) (h0:0<=r) (h1:r<b):a/b=q:=(Int.ediv_emod_unique hb).2 ⟨h,h0,h1⟩|>.1
theorem qGl (a b:Int) (hb:0<b) (h1: -4611686018427387904<=a) (h2:a<=4611686018427387904):VX a b=some (a/b):=by
 obtain⟨e,l,g,n⟩:=qDP a b hb;unfold VX BG;rw[KP (by omega),qP (n:=Int.tdiv a b) (by omega) (by omega)];by_cases h:Int.tmod a b<0
 ·rw[ke h,qP (by omega) (by omega)];have:a/b=Int.tdiv a b-1:=OK hb (r:=Int.tmod a b+b) (by rw[gz,Int.mul_one];omega) (by omega) (by omega);rw[this];rfl
 ·rw[kf h];have:a/b=Int.tdiv a b:=OK hb (r:=Int.tmod a b) e (by omega) l;rw[this];rfl
theorem qA8 (a b:Int) (hb:0<b) (h3:b<=4611686018427387904) (h1: -4611686018427387904<=a) (h2:a<=4611686018427387904):EN a b=some (a/b):=by
 obtain⟨e,l,g,n⟩:=qDP a b hb;have hc:Int.tdiv a b*b=b*Int.tdiv a b:=Int.mul_comm _ _;unfold EN MZ;rw[KP (by omega),qP (n:=Int.tdiv a b) (by omega) (by omega),qP (n:=Int.tdiv a b*b) (by omega) (by omega)];by_cases h:Int.tmod a b<0
 ·rw[ke (by omega),qP (by omega) (by omega)];have:a/b=Int.tdiv a b-1:=OK hb (r:=Int.tmod a b+b) (by rw[gz,Int.mul_one];omega) (by omega) (by omega);rw[this];rfl
 ·rw[kf (by omega)];have:a/b=Int.tdiv a b:=OK hb (r:=Int.tmod a b) e (by omega) l;rw[this];rfl
def PZ (x y:Int) (j g:Nat):Int:=x+(y-x)*(j:Int)/((g+1:Nat):Int)
theorem qGk (x y:Int) (g:Nat):PZ x y 0 g=x:=by simp[PZ]
theorem qGh {d:Int} (j g:Nat) (hj:j<=g+1) (hd:0<=d):0<=d*(j:Int)/\d*(j:Int)<=d*((g+1:Nat):Int):=
 ⟨ky hd (by omega),Int.mul_le_mul_of_nonneg_left (by omega) hd⟩
theorem qJd (x y:Int) (j g:Nat) (hj:j<=g+1):(x<=y->x<=PZ x y j g/\PZ x y j g<=y)/\(y<=x->y<=PZ x y j g/\PZ x y j g<=x):=by
 have hp:(0:Int)<((g+1:Nat):Int):=by omega
 unfold PZ;constructor
 ·intro h;obtain⟨h1,h2⟩:=qGh j g hj (show 0<=y-x by omega);have h3:=Int.ediv_nonneg h1 (gX hp);have h4:=Int.ediv_le_ediv hp h2;rw[Int.mul_ediv_cancel _ (by omega)] at h4;omega
 ·intro h;obtain⟨h1,h2⟩:=qGh j g hj (show 0<=x-y by omega);have e:(y-x)*(j:Int)= -((x-y)*(j:Int)):=by rw[<-Int.neg_mul];congr 1;omega
  rw[e];have h3: -((x-y)*(j:Int))/((g+1:Nat):Int)<=0/((g+1:Nat):Int):=Int.ediv_le_ediv hp (by omega);have h4: -((x-y)*((g+1:Nat):Int))/((g+1:Nat):Int)<=-((x-y)*(j:Int))/((g+1:Nat):Int):=Int.ediv_le_ediv hp (by omega);rw[<-Int.neg_mul,Int.mul_ediv_cancel _ (by omega)] at h4;rw[Int.zero_ediv] at h3;omega
def rg_val (a:Ring) (k d:Nat):qA:=⟨PZ (rg_Pt a (rg_Mi a k)).X (rg_Pt a (rg_nb a k 1)).X d (rg_gap a k),PZ (rg_Pt a (rg_Mi a k)).Y (rg_Pt a (rg_nb a k 1)).Y d (rg_gap a k)⟩
theorem qBJ (a:Ring) (k:Nat):rg_val a k 0=rg_Pt a (rg_Mi a k):=by unfold rg_val;rw[qGk,qGk]
theorem EF {a:Ring} (g:wM a) (i:Nat):JF (rg_Pt a i):=by
 unfold rg_Pt;by_cases h:i<a.Read.length
 ·refine(IQ (g.all _ ?_)).1;rw[ka,ki h];exact uB h
 ·rw[ka,uW (by omega)];exact⟨by decide,by decide,by decide,by decide⟩
theorem SR (x y:Int) (j g:Nat) (hx: -600<=x) (hx':x<=600) (hy: -600<=y) (hy':y<=600) (hj:j<=g+1) (hg:g<=100):
  w64 (w64 (y-x)*(j:Int))=(y-x)*(j:Int)/\w64 (x+(y-x)*(j:Int)/((g+1:Nat):Int))=PZ x y j g/\-4611686018427387904<=(y-x)*(j:Int)/\(y-x)*(j:Int)<=4611686018427387904:=by
 have hb:=qJd x y j g hj;have hm:w64 (x+(y-x)*(j:Int)/((g+1:Nat):Int))=PZ x y j g:=by
  show w64 (PZ x y j g)=_;rcases Int.le_total x y with h|h
  ·have:=hb.1 h;exact qP (by omega) (by omega)
  ·have:=hb.2 h;exact qP (by omega) (by omega)
 have hr: -1300000<=(y-x)*(j:Int)/\(y-x)*(j:Int)<=1300000:=by
  have h1:(y-x)*(j:Int)<=1200*(j:Int):=Int.mul_le_mul_of_nonneg_right (by omega) (by omega);have h2:(-1200)*(j:Int)<=(y-x)*(j:Int):=Int.mul_le_mul_of_nonneg_right (by omega) (by omega);omega
 refine⟨?_,hm,by omega,by omega⟩;rw[qP (n:=y-x) (by omega) (by omega),qP (by omega) (by omega)]
section
variable (a :Ring) (g:wM a)
include g
theorem qBp {k:Nat} (hk:k<(rg_meas a).length):∀(n x:Nat) (l:List qA),rg_gap a k+1<x+n->1<=x->x<=rg_gap a k+1->l.length=a.Read.length->
  ∃r,WO a (wO (rg_meas a)) (k:Int) ((rg_gap a k:Nat):Int) n l (x:Int)=some r/\r.length=a.Read.length/\
   (∀q,(∀d,x<=d->d<=rg_gap a k->q≠(rg_Mi a k+d) % a.Read.length)->r.getD q dd=l.getD q dd)/\(∀d,x<=d->d<=rg_gap a k->r.getD ((rg_Mi a k+d) % a.Read.length) dd=rg_val a k d)
 |0,x,l,h1,h2,h3,h4=>by omega
 |n+1,x,l,h1,h2,h3,h4=>by
  have hn:=g.hi;have hlo:=g.lo;have hg:=ZH hk;have h0:=zF hk;have hml:=WK a;unfold WO;by_cases hx:x<=rg_gap a k
  ·have hlt:(rg_Mi a k+x) % a.Read.length<a.Read.length:=kJ _ (by omega);have hk1:(k+1) % (rg_meas a).length<(rg_meas a).length:=kJ _ (by omega);have hp:=EF g (rg_Mi a k);have hq:=EF g (rg_nb a k 1);obtain⟨e1,e2,e3,e4⟩:=SR (rg_Pt a (rg_Mi a k)).X (rg_Pt a (rg_nb a k 1)).X x (rg_gap a k) hp.1 hp.2.1 hq.1 hq.2.1 (by omega) (by omega);obtain⟨f1,f2,f3,f4⟩:=SR (rg_Pt a (rg_Mi a k)).Y (rg_Pt a (rg_nb a k 1)).Y x (rg_gap a k) hp.2.2.1 hp.2.2.2 hq.2.2.1 hq.2.2.2 (by omega) (by omega);have c1:decide ((x:Int)<=((rg_gap a k:Nat):Int))=true:=ke (by omega)
   have w1:w64 (((rg_gap a k:Nat):Int)+1)=((rg_gap a k+1:Nat):Int):=zY _ (by omega);have w2:w64 (((rg_Mi a k:Nat):Int)+(x:Int))=((rg_Mi a k+x:Nat):Int):=by rw[qP (by omega) (by omega)];omega
   rw[c1,h4,KP (by omega),yJ,zY k (by omega),jB];simp only[ko,ks,KG];rw[show(rg_meas a).getD ((k+1) % (rg_meas a).length) 0=rg_nb a k 1 from rfl,show(rg_meas a).getD k 0=rg_Mi a k from rfl];rw[show(a.Read.getD (rg_Mi a k) dd).P=rg_Pt a (rg_Mi a k) from rfl,show(a.Read.getD (rg_nb a k 1) dd).P=rg_Pt a (rg_nb a k 1) from rfl,w1,w2,jB,e1,f1,qGl _ _ (by omega) e3 e4,qGl _ _ (by omega) f3 f4,zC (show 0<=(((rg_Mi a k+x) % a.Read.length:Nat):Int) by omega) (by omega)];simp only[kd,ko,e2,f2,ks,zY x (by omega)]
   obtain⟨r,hr,r1,r2,r3⟩:=qBp hk n (x+1) (l.set ((rg_Mi a k+x) % a.Read.length) (rg_val a k x)) (by omega) (by omega) (by omega) (by rw[gr];exact h4);refine⟨r,hr,r1,λq hq=>?_,λd hd1 hd2=>?_⟩
   ·rw[r2 q (λd hd=>hq d (by omega)),QS _ (λh=>hq x (kr _) hx h.symm)]
   ·by_cases he:d=x
    ·subst he;rw[r2 _ (λe he1 he2 hc=>?_),WM _ (by omega)]
     -- two places of one rg_gap differ
     have hM:=h0.1;rcases uK (rg_Mi a k+d) a.Read.length with u|u<;>rcases uK (rg_Mi a k+e) a.Read.length with v|v
     ·rw[zA u,zA v] at hc;omega
     ·rw[zA u,jG v (by omega)] at hc;omega
     ·omega
     ·rw[jG u (by omega),jG v (by omega)] at hc;omega
    ·exact r3 d (by omega) hd2
  ·have c1:decide ((x:Int)<=((rg_gap a k:Nat):Int))=false:=kf (by omega);rw[c1];exact⟨l,rfl,h4,λ_ _=>rfl,λd h1 h2=>by omega⟩
theorem qE6 {k d k' d':Nat} (hk:k<(rg_meas a).length) (hk':k'<(rg_meas a).length) (hd:d<=rg_gap a k) (hd':d'<=rg_gap a k') (h:(rg_Mi a k+d) % a.Read.length=(rg_Mi a k'+d') % a.Read.length):k=k'/\d=d':=by
 have key:∀{k d k' d':Nat},k<(rg_meas a).length->k'<(rg_meas a).length->d<=rg_gap a k->d'<=rg_gap a k'->d<=d'->(rg_Mi a k+d) % a.Read.length=(rg_Mi a k'+d') % a.Read.length->k=k'/\d=d':=by
  intro k d k' d' hk hk' hd hd' hdd h;have h0:=zF hk;have h1:=zF hk';have g0:=ZH hk;have g1:=ZH hk';have hc:(rg_Mi a k'+(d'-d)) % a.Read.length=rg_Mi a k:=by
   have hM:=h0.1;have hM':=h1.1;rcases uK (rg_Mi a k'+(d'-d)) a.Read.length with w|w
   ·rw[zA w];rcases uK (rg_Mi a k+d) a.Read.length with u|u<;>rcases uK (rg_Mi a k'+d') a.Read.length with v|v
    ·rw[zA u,zA v] at h;omega
    ·rw[zA u,jG v (by omega)] at h;omega
    ·rw[jG u (by omega),zA v] at h;omega
    ·rw[jG u (by omega),jG v (by omega)] at h;omega
   ·rw[jG w (by omega)];rcases uK (rg_Mi a k+d) a.Read.length with u|u<;>rcases uK (rg_Mi a k'+d') a.Read.length with v|v
    ·rw[zA u,zA v] at h;omega
    ·rw[zA u,jG v (by omega)] at h;omega
    ·rw[jG u (by omega),zA v] at h;omega
    ·rw[jG u (by omega),jG v (by omega)] at h;omega
  by_cases hz:d'-d=0
  ·rw[hz,kX,zA h1.1] at hc;exact⟨(qJ2 hk' hk hc).symm,by omega⟩
  ·have:=PX hk' (show 1<=d'-d by omega) (by omega);rw[hc,h0.2] at this;cases this
 rcases Nat.le_total d d' with hle|hle
 ·exact key hk hk' hd hd' hle h
 ·have:=key hk' hk hd' hd hle h.symm;exact⟨this.1.symm,this.2.symm⟩
theorem qAT :∀(n x:Nat) (l:List qA),(rg_meas a).length<x+n->x<=(rg_meas a).length->l.length=a.Read.length->(∀k d,k<x->d<=rg_gap a k->l.getD ((rg_Mi a k+d) % a.Read.length) dd=rg_val a k d)->
  ∃r,QX a (wO (rg_meas a)) n l (x:Int)=some r/\r.length=a.Read.length/\∀k d,k<(rg_meas a).length->d<=rg_gap a k->r.getD ((rg_Mi a k+d) % a.Read.length) dd=rg_val a k d
 |0,x,l,h1,h2,_,_=>by omega
 |n+1,x,l,h1,h2,h3,h4=>by
  have hn:=g.hi;have hml:=WK a;unfold QX;by_cases hx:x<(rg_meas a).length
  ·have h0:=zF hx;have hg:=ZH hx;have hk1:(x+1) % (rg_meas a).length<(rg_meas a).length:=kJ _ (by omega);have h5:=zF hk1;rw[yJ,WN hx,zC (by omega) (by omega),KP (by omega),zY x (by omega),jB,zC (n:=(rg_meas a).length) (show 0<=(((x+1) % (rg_meas a).length:Nat):Int) by omega) (by omega)];simp only[ko,ks,KG]
   rw[show(rg_meas a).getD ((x+1) % (rg_meas a).length) 0=rg_Mi a ((x+1) % (rg_meas a).length) from rfl,show(rg_meas a).getD x 0=rg_Mi a x from rfl,h3,zC (show 0<=((rg_Mi a x:Nat):Int) by omega) (by omega),zC (show 0<=((rg_Mi a ((x+1) % (rg_meas a).length):Nat):Int) by omega) (by omega),qEP a (by omega) hx];simp only[ko,ks,kd];obtain⟨r,hr,r1,r2,r3⟩:=qBp a g hx FUEL 1 (l.set (rg_Mi a x) (rg_Pt a (rg_Mi a x))) (by rw[zT];omega) (by omega) (by omega) (by rw[gr];exact h3)
   have hr':WO a (wO (rg_meas a)) (x:Int) ((rg_gap a x:Nat):Int) FUEL (l.set (rg_Mi a x) ((a.Read.getD (rg_Mi a x) dd).P)) 1=some r:=hr;rw[hr'];refine qAT n (x+1) r (by omega) (by omega) r1 (λk d hk hd=>?_);have hkm:k<(rg_meas a).length:=by omega
   by_cases he:k=x
   ·subst he;by_cases hz:d=0
    ·subst hz;have hne:∀e,1<=e->e<=rg_gap a k->rg_Mi a k≠(rg_Mi a k+e) % a.Read.length:=λe h1 h2 hc=>by
      have:=PX hkm h1 h2;rw[<-hc,h0.2] at this;cases this
     rw[kX,zA h0.1,r2 _ hne,WM _ (by omega),qBJ]
    ·exact r3 d (by omega) hd
   ·rw[r2 _ (λe h1 h2 hc=>he (qE6 a g hkm hx hd h2 hc).1),QS _ (λhc=>?_),h4 k d (by omega) hd];refine he (qE6 a g hkm hx hd (ub _) ?_).1;rw[kX,zA h0.1];exact hc.symm
  ·rw[yJ,WQ hx];exact⟨l,rfl,h3,λk d hk=>h4 k d (by omega)⟩
theorem qGm (hm:1<=(rg_meas a).length) {q:Nat} (hq:q<a.Read.length):∃k d,k<(rg_meas a).length/\d<=rg_gap a k/\(rg_Mi a k+d) % a.Read.length=q/\(d=0↔rg_okAt a q=true):=by
 cases ho:rg_okAt a q with
 |true=>
  obtain⟨k,hk,e⟩:=RZ hq ho;exact⟨k,0,hk,ub _,by rw[kX,e,zA hq],by simp⟩
 |false=>
  obtain⟨k,d,hk,h1,h2,h3⟩:=qJ6 hm hq ho;exact⟨k,d,hk,h2,h3,by simp;omega⟩
theorem qLr (hm:2<=(rg_meas a).length) {k:Nat} (hk:k<(rg_meas a).length):rg_gap a k+1<a.Read.length:=by
 have h0:=zF hk;unfold rg_gap;split
 ·rename_i h;have h1:=zF h;have:=BM (a:=a) (show k<k+1 by omega) h;omega
 ·have:=BM (a:=a) (show 0<k by omega) hk;omega
theorem ID (r:List qA) (hr1:r.length=a.Read.length) (hm:2<=(rg_meas a).length) (hr:∀k d,k<(rg_meas a).length->d<=rg_gap a k->r.getD ((rg_Mi a k+d) % a.Read.length) dd=rg_val a k d):
  ∀(n x:Nat),a.Read.length<x+n->x<=a.Read.length->yQ a n (r.take x) (x:Int)=some r
 |0,x,h1,h2=>by omega
 |n+1,x,h1,h2=>by
  have hn:=g.hi;have hlo:=g.lo;unfold yQ;by_cases hx:x<a.Read.length
  ·have hlen:(r.take x).length=x:=by rw[uo];omega
   have htk:r.take (x+1)=r.take x++[r.getD x dd]:=by
    rw[gC,ki (by omega),ka,ki (by omega)];rfl
   obtain⟨k,d,hk,hd,hq,hz⟩:=qGm a g (by omega) hx;have h0:=zF hk;have hg:=ZH hk;have ih:=ID r hr1 hm hr n (x+1) (by omega) (by omega);rw[WN hx,zC (by omega) (by omega),hlen,qBw (by omega)];simp only[ko,ks,LR,zY x (by omega)];rw[show(a.Read.getD x dd).Ok=rg_okAt a x from rfl];have hv:=hr k d hk hd;rw[hq] at hv;rw[htk,hv] at ih;cases ho:rg_okAt a x with
   |true=>
    have hd0:=hz.2 ho;subst hd0;rw[qBJ] at ih;rw[kX,zA h0.1] at hq;subst hq;exact ih
   |false=>
    have hd0:1<=d:=by
     rcases gT d with h|h
     ·rw[hz.1 h] at ho;cases ho
     ·exact h
    have hk1:(k+1) % (rg_meas a).length<(rg_meas a).length:=kJ _ (by omega);have h5:=zF hk1;have hup:=qId a (by omega) hk hd;have hdn:=qIH a (by omega) hk hd0 (by omega);rw[hq] at hup hdn;rw[hup,hdn];have hM:=h0.1;have g3:=qLr a g hm hk;have q1:Int.tmod (w64 (w64 ((x:Int)-((rg_Mi a k:Nat):Int))+(a.Read.length:Int))) (a.Read.length:Int)=(d:Int):=by
     rw[qP (n:=(x:Int)-_) (by omega) (by omega),qP (by omega) (by omega)];rcases uK (rg_Mi a k+d) a.Read.length with u|u
     ·rw[zA u] at hq;rw[show(x:Int)-((rg_Mi a k:Nat):Int)+(a.Read.length:Int)=((d+a.Read.length:Nat):Int) by omega,jB,uD,zA (by omega)]
     ·rw[jG u (by omega)] at hq;rw[show(x:Int)-((rg_Mi a k:Nat):Int)+(a.Read.length:Int)=((d:Nat):Int) by omega,jB,zA (by omega)]
    have hgn:=DI hk;have q2:Int.tmod (w64 (w64 (((rg_Mi a ((k+1) % (rg_meas a).length):Nat):Int)-((rg_Mi a k:Nat):Int))+(a.Read.length:Int))) (a.Read.length:Int)=((rg_gap a k+1:Nat):Int):=by
     rw[qP (n:=_-_) (by omega) (by omega),qP (by omega) (by omega)];rcases uK (rg_Mi a k+(rg_gap a k+1)) a.Read.length with u|u
     ·rw[zA u] at hgn;rw[show((rg_Mi a ((k+1) % (rg_meas a).length):Nat):Int)-((rg_Mi a k:Nat):Int)+(a.Read.length:Int)=((rg_gap a k+1+a.Read.length:Nat):Int) by omega,jB,uD,zA (by omega)]
     ·rw[jG u (by omega)] at hgn;rw[show((rg_Mi a ((k+1) % (rg_meas a).length):Nat):Int)-((rg_Mi a k:Nat):Int)+(a.Read.length:Int)=((rg_gap a k+1:Nat):Int) by omega,jB,zA (by omega)]
    have hp:=EF g (rg_Mi a k);have hqq:=EF g (rg_nb a k 1);obtain⟨e1,e2,e3,e4⟩:=SR (rg_Pt a (rg_Mi a k)).X (rg_Pt a (rg_nb a k 1)).X d (rg_gap a k) hp.1 hp.2.1 hqq.1 hqq.2.1 (by omega) (by omega);obtain⟨f1,f2,f3,f4⟩:=SR (rg_Pt a (rg_Mi a k)).Y (rg_Pt a (rg_nb a k 1)).Y d (rg_gap a k) hp.2.2.1 hp.2.2.2 hqq.2.2.1 hqq.2.2.2 (by omega) (by omega);simp only[ku,kd,ks];rw[KP (by omega),zC (show 0<=((rg_Mi a k:Nat):Int) by omega) (by omega),zC (show 0<=((rg_Mi a ((k+1) % (rg_meas a).length):Nat):Int) by omega) (by omega),q1,q2]
    rw[show(a.Read.getD (rg_Mi a k) dd).P=rg_Pt a (rg_Mi a k) from rfl,show(a.Read.getD (rg_Mi a ((k+1) % (rg_meas a).length)) dd).P=rg_Pt a (rg_nb a k 1) from rfl,e1,f1,qA8 _ _ (by omega) (by omega) e3 e4,qA8 _ _ (by omega) (by omega) f3 f4];simp only[ko,kd,e2,f2];exact ih
  ·rw[WQ hx,uR (by omega)];rfl
theorem qNl (hm:2<=(rg_meas a).length):∃r,r.length=a.Read.length/\(∀k d,k<(rg_meas a).length->d<=rg_gap a k->r.getD ((rg_Mi a k+d) % a.Read.length) dd=rg_val a k d)/\
  QX a (wO (rg_meas a)) FUEL (List.replicate ((a.Read.length:Int).toNat) (qA.mk 0 0)) 0=some r/\yQ a FUEL [] 0=some r:=by
 have hn:=g.hi;have hml:=WK a;obtain⟨r,h1,h2,h3⟩:=qAT a g FUEL 0 (List.replicate ((a.Read.length:Int).toNat) (qA.mk 0 0)) (by rw[zT];omega) (by omega) (by simp) (λk d h=>by omega);refine⟨r,h2,h3,h1,?_⟩;have:=ID a g r h2 hm h3 FUEL 0 (by rw[zT];omega) (by omega);rw[List.take_zero] at this;exact this
end
noncomputable def fill (a:Ring):List qA:=Classical.epsilon λr=>r.length=a.Read.length/\∀k d,k<(rg_meas a).length->d<=rg_gap a k->r.getD ((rg_Mi a k+d) % a.Read.length) dd=rg_val a k d
def FU (a:Ring):Int:=match NP a with
 |some x=>x.2
 |none=>0
def rg_canFill (a:Ring) (most:Int):Bool:=!decide (((rg_meas a).length:Int)<3)&&!(decide (((a.Read.length-(rg_meas a).length:Nat):Int)>0)&&decide (FU a>most))
theorem qI1 (a:Ring) (g:wM a) (hm:2<=(rg_meas a).length) {r:List qA} (h1:r.length=a.Read.length) (h2:∀k d,k<(rg_meas a).length->d<=rg_gap a k->r.getD ((rg_Mi a k+d) % a.Read.length) dd=rg_val a k d):r=fill a:=by
 have:=Classical.epsilon_spec (p:=λr:List qA=>r.length=a.Read.length/\∀k d,k<(rg_meas a).length->d<=rg_gap a k->r.getD ((rg_Mi a k+d) % a.Read.length) dd=rg_val a k d) ⟨r,h1,h2⟩;refine DQ (h1.trans this.1.symm) (λj hj=>?_);obtain⟨k,d,hk,hd,hq,_⟩:=qGm a g (by omega) (show j<a.Read.length by omega);rw[<-hq,h2 k d hk hd];exact(this.2 k d hk hd).symm
theorem UM (a:Ring) (g:wM a) (hm:2<=(rg_meas a).length):(fill a).length=a.Read.length/\(∀k d,k<(rg_meas a).length->d<=rg_gap a k->(fill a).getD ((rg_Mi a k+d) % a.Read.length) dd=rg_val a k d)/\
  QX a (wO (rg_meas a)) FUEL (List.replicate ((a.Read.length:Int).toNat) (qA.mk 0 0)) 0=some (fill a)/\yQ a FUEL [] 0=some (fill a):=by
 obtain⟨r,h1,h2,h3,h4⟩:=qNl a g hm;obtain rfl:=qI1 a g hm h1 h2;exact⟨h1,h2,h3,h4⟩
theorem qJu (a:Ring) (g:wM a) (most:Int):DK a most=some (bif rg_canFill a most then(fill a,0) else([],30)):=by
 have hn:=g.hi;have hml:=WK a;obtain⟨L,hL,_⟩:=OQ a (by omega);unfold DK KI rg_canFill;have hlo:FU a=(L:Int):=by unfold FU;rw[hL]
 have hmk:mkOk (a.Read.length:Int) 16=true:=by unfold mkOk;exact ke ⟨by omega,by omega,by omega⟩
 rw[BE,(TD a).2 g,HI a (by omega),hL,hlo,hmk];simp only[kd,kP,ku,yJ];by_cases h3:((rg_meas a).length:Int)<3
 ·rw[ke h3];rfl
 ·rw[kf h3,(UM a g (by omega)).2.2.1];cases decide (((a.Read.length-(rg_meas a).length:Nat):Int)>0)<;>cases decide ((L:Int)>most)<;>rfl
theorem qK1 (a:Ring) (g:wM a) (most:Int):CC a most=some (bif rg_canFill a most then(fill a,0) else([],30)):=by
 have hn:=g.hi;have hml:=WK a;obtain⟨L,hL,hR⟩:=OQ a (by omega);unfold CC TU rg_canFill;have hlo:FU a=(L:Int):=by unfold FU;rw[hL]
 rw[qEp,(TD a).2 g,hR,hlo];simp only[kd,kP,ku];rw[qP (by omega) (by omega),show(a.Read.length:Int)-((a.Read.length-(rg_meas a).length:Nat):Int)=((rg_meas a).length:Int) by omega];by_cases h3:((rg_meas a).length:Int)<3
 ·rw[ke h3];rfl
 ·rw[kf h3,(UM a g (by omega)).2.2.2];cases decide (((a.Read.length-(rg_meas a).length:Nat):Int)>0)<;>cases decide ((L:Int)>most)<;>rfl
theorem qGe (a:Ring) (r:Int):∀(m:List Nat) (l:List qD) (j:Nat),j<l.length->(m.foldl (YR a r) l).getD j dd=bif decide (j∈m)&&rg_dropB a r j then qDo else l.getD j dd
 |[],l,j,_=>by simp
 |i::m,l,j,hj=>by
  rw[uG,qGe a r m _ j (by rw[OG];exact hj)];unfold YR;by_cases he:i=j
  ·subst he;cases hd:rg_dropB a r i with
   |false=>simp
   |true=>rw[ko,WM _ hj];simp
  ·have hm:decide (j∈i::m)=decide (j∈m):=by simp[Ne.symm he]
   rw[hm];cases hd:rg_dropB a r i with
   |false=>rfl
   |true=>rw[ko,QS _ he]
theorem qLO {a:Ring} {r:Int} {j:Nat} (h:rg_dropB a r j=true):j∈rg_meas a:=by
 unfold rg_dropB at h;rw[gg] at h;obtain⟨k,hk,h⟩:=h;rw[kp,decide_eq_true_eq] at h;rw[<-h.1];exact ga (qE5 (uu.1 hk))
def rg_cut (a:Ring) (r:Int) (j:Nat):Bool:=!decide (r<0)&&!decide (((rg_meas a).length:Int)<2)&&rg_dropB a r j
theorem qIT (a:Ring) (g:wM a) (r:Int) {j:Nat} (hj:j<a.Read.length):(rg_cleaned a r).Read.getD j dd=bif rg_cut a r j then qDo else a.Read.getD j dd:=by
 unfold rg_cleaned rg_cut;rw[(TD a).2 g];cases decide (r<0)<;>cases decide (((rg_meas a).length:Int)<2)<;>simp only[ko,ku,kP,kV,da,Bool.false_and,Bool.true_and,Bool.and_false];rw[qGe _ _ _ _ _ hj];cases hd:rg_dropB a r j with
 |false=>simp
 |true=>simp[qLO hd]
theorem qNj {a b:Ring} (hz:a.Z=b.Z) (hl:a.Read.length=b.Read.length) (h:∀j,j<a.Read.length->a.Read.getD j dd=b.Read.getD j dd):a=b:=by
 obtain⟨z,l⟩:=a;obtain⟨z',l'⟩:=b;obtain rfl:z=z':=hz;obtain rfl:l=l':=DQ hl h;rfl
theorem qNt {l:List qD} {P:qD->Prop} (h:∀j,j<l.length->P (l.getD j dd)):∀r∈l,P r:=by
 intro r hr;obtain⟨t,ht,he⟩:=uI.1 hr;have:=h t ht
 rwa [ka,ki ht,kE,he] at this
theorem qOW {a:Ring} (g:wM a) {j:Nat} (hj:j<a.Read.length):ZB (a.Read.getD j dd)=0:=by
 refine g.all _ ?_;rw[ka,ki hj];exact uB hj
theorem qIu (a:Ring) (g:wM a) (r:Int):wM (rg_cleaned a r):=by
 have hl:=qIV a r;have hz:=qMi a r;refine⟨by rw[hl];exact g.lo,by rw[hl];exact g.hi,by rw[hz];exact g.z0,by rw[hz];exact g.z1,qNt λj hj=>?_⟩;rw[hl] at hj;rw[qIT a g r hj];cases rg_cut a r j with
 |true=>exact show ZB qDo=0 by decide
 |false=>exact qOW g hj
theorem qJv (q:Nat) (a:Ring) (i:Nat):rg_okAt (jF q a) i=rg_okAt a i:=by
 unfold rg_okAt jF;by_cases h:i<a.Read.length
 ·rw[XL _ _ h];rfl
 ·rw[ka,ka,uW (by simp;omega),uW (by omega)]
theorem jK (q:Nat) (a:Ring):(jF q a).Read.length=a.Read.length:=by simp[jF]
theorem rg_turned_good (q:Nat) (a:Ring) (g:wM a):wM (jF q a):=by
 refine⟨by rw[jK];exact g.lo,by rw[jK];exact g.hi,g.z0,g.z1,λr hr=>?_⟩;obtain⟨s,hs,rfl⟩:=ui.1 hr;have h1:=g.all s hs;have h2:=IQ h1;have h3:=qKZ q h2.1;unfold ZB UQ;cases ho:s.Ok with
 |true=>
  have:WI (wI q s.P)=true:=by
   unfold WI;simp only[kp,decide_eq_true_eq];exact⟨⟨h3.1,h3.2.1⟩,⟨h3.2.2.1,h3.2.2.2⟩⟩
  rw[this];rfl
 |false=>rw[h2.2 ho,qKE];rfl
theorem qD2 (q:Nat) (a:Ring) {j:Nat} (hj:j<a.Read.length):(jF q a).Read.getD j dd=UQ q (a.Read.getD j dd):=XL _ _ hj
theorem qKC (q q':Nat) (hq:q<4) (hq':q'<4) (h:(q+q') % 4=0) (p:qA):wI q' (wI q p)=p:=by
 have:(q=0/\q'=0)\/(q=1/\q'=3)\/(q=2/\q'=2)\/(q=3/\q'=1):=by omega
 rcases this with⟨rfl,rfl⟩|⟨rfl,rfl⟩|⟨rfl,rfl⟩|⟨rfl,rfl⟩<;>simp[wI]
theorem qIU (q q':Nat) (hq:q<4) (hq':q'<4) (h:(q+q') % 4=0) (a:Ring):jF q' (jF q a)=a:=
 qNj rfl (by rw[jK,jK]) (λj hj=>by
  rw[jK,jK] at hj;rw[qD2 q' _ (by rw[jK];exact hj),qD2 q a hj];unfold UQ;rw[qKC q q' hq hq' h])
section
variable (a :Ring) (g:wM a) (hm:2<=(rg_meas a).length)
include g hm
theorem qPc {i:Nat} (hi:i<a.Read.length) (ho:rg_okAt a i=true):(fill a).getD i dd=rg_Pt a i:=by
 obtain⟨k,hk,e⟩:=RZ hi ho;have:=(UM a g hm).2.1 k 0 hk (ub _);rw[kX,e,zA hi,qBJ,e] at this;exact this
end
end Saw
end Go.SL

namespace Go.SL
end Go.SL

/- The ring laws' plain mathematics, part 5: repairing. -/
import Derived.Test.YtigmogcdifllhaaGreatDoorEMa5
import Derived.Test.YtigmogcdifllhaaGreatDoorEMa1
set_option linter.unusedVariables false
set_option linter.unusedSimpArgs false
set_option linter.unusedSectionVars false
namespace Go.SL
namespace Saw
theorem qIo (a b:Int) (hb:0<b):Int.tmod a b+b*Int.tdiv a b=a/\Int.tmod a b<b/\-b<Int.tmod a b/\(Int.tdiv a b).natAbs<=a.natAbs:=by
 refine⟨Int.tmod_add_mul_tdiv a b,gn a hb,?_,?_⟩
 ·rcases dK 0 a with h|h
  ·have:=dB b h;omega
  ·have h3:=gn (-a) hb;rw[Int.neg_tmod] at h3;omega
 ·rw[Int.natAbs_tdiv];exact dZ _ _
theorem qEu {a b q r:Int} (hb:0<b) (h:r+b*q=a) (h0:0<=r) (h1:r<b):a/b=q:=(Int.ediv_emod_unique hb).2 ⟨h,h0,h1⟩|>.1
theorem qKJ (a b:Int) (hb:0<b) (h1: -4611686018427387904<=a) (h2:a<=4611686018427387904):qBh a b=some (a/b):=by
 obtain⟨e,l,g,n⟩:=qIo a b hb;unfold qBh qAz;rw[NQ (by omega),qR (n:=Int.tdiv a b) (by omega) (by omega)];by_cases h:Int.tmod a b<0
 ·rw[ka h,qR (by omega) (by omega)];have:a/b=Int.tdiv a b-1:=qEu hb (r:=Int.tmod a b+b) (by rw[gL,Int.mul_one];omega) (by omega) (by omega);rw[this];rfl
 ·rw[ke h];have:a/b=Int.tdiv a b:=qEu hb (r:=Int.tmod a b) e (by omega) l;rw[this];rfl
theorem qF1 (a b:Int) (hb:0<b) (h3:b<=4611686018427387904) (h1: -4611686018427387904<=a) (h2:a<=4611686018427387904):CB a b=some (a/b):=by
 obtain⟨e,l,g,n⟩:=qIo a b hb;have hc:Int.tdiv a b*b=b*Int.tdiv a b:=Int.mul_comm _ _;unfold CB AU;rw[NQ (by omega),qR (n:=Int.tdiv a b) (by omega) (by omega),qR (n:=Int.tdiv a b*b) (by omega) (by omega)];by_cases h:Int.tmod a b<0
 ·rw[ka (by omega),qR (by omega) (by omega)];have:a/b=Int.tdiv a b-1:=qEu hb (r:=Int.tmod a b+b) (by rw[gL,Int.mul_one];omega) (by omega) (by omega);rw[this];rfl
 ·rw[ke (by omega)];have:a/b=Int.tdiv a b:=qEu hb (r:=Int.tmod a b) e (by omega) l;rw[this];rfl
def MQ (x y:Int) (j g:Nat):Int:=x+(y-x)*(j:Int)/((g+1:Nat):Int)
theorem qKU (x y:Int) (g:Nat):MQ x y 0 g=x:=by simp[MQ]
theorem qKu {d:Int} (j g:Nat) (hj:j<=g+1) (hd:0<=d):0<=d*(j:Int)/\d*(j:Int)<=d*((g+1:Nat):Int):=
 ⟨ky hd (by omega),gj (by omega) hd⟩
theorem qOe (x y:Int) (j g:Nat) (hj:j<=g+1):(x<=y->x<=MQ x y j g/\MQ x y j g<=y)/\(y<=x->y<=MQ x y j g/\MQ x y j g<=x):=by
 have hp:(0:Int)<((g+1:Nat):Int):=by omega
 unfold MQ;constructor
 ·intro h;obtain⟨h1,h2⟩:=qKu j g hj (show 0<=y-x by omega);have h3:=Int.ediv_nonneg h1 (kaf hp);have h4:=Int.ediv_le_ediv hp h2;rw[Int.mul_ediv_cancel _ (by omega)] at h4;omega
 ·intro h;obtain⟨h1,h2⟩:=qKu j g hj (show 0<=x-y by omega);have e:(y-x)*(j:Int)= -((x-y)*(j:Int)):=by rw[<-Int.neg_mul];congr 1;omega
  rw[e];have h3: -((x-y)*(j:Int))/((g+1:Nat):Int)<=0/((g+1:Nat):Int):=Int.ediv_le_ediv hp (by omega);have h4: -((x-y)*((g+1:Nat):Int))/((g+1:Nat):Int)<=-((x-y)*(j:Int))/((g+1:Nat):Int):=Int.ediv_le_ediv hp (by omega);rw[<-Int.neg_mul,Int.mul_ediv_cancel _ (by omega)] at h4;rw[Int.zero_ediv] at h3;omega
def rg_val (a:Ring) (k d:Nat):qA:=⟨MQ (rg_Pt a (rg_Mi a k)).X (rg_Pt a (rg_nb a k 1)).X d (rg_gap a k),MQ (rg_Pt a (rg_Mi a k)).Y (rg_Pt a (rg_nb a k 1)).Y d (rg_gap a k)⟩
theorem qKW (a:Ring) (k:Nat):rg_val a k 0=rg_Pt a (rg_Mi a k):=by unfold rg_val;rw[qKU,qKU]
theorem qCQ {a:Ring} (g:yH a) (i:Nat):BK (rg_Pt a i):=by
 unfold rg_Pt;by_cases h:i<a.Read.length
 ·refine(qDH (g.all _ ?_)).1;rw[ki,ks h];exact uJ h
 ·rw[ki,List.getElem?_eq_none (by omega)];exact⟨by decide,by decide,by decide,by decide⟩
theorem qCH (x y:Int) (j g:Nat) (hx: -600<=x) (hx':x<=600) (hy: -600<=y) (hy':y<=600) (hj:j<=g+1) (hg:g<=100):
  w64 (w64 (y-x)*(j:Int))=(y-x)*(j:Int)/\w64 (x+(y-x)*(j:Int)/((g+1:Nat):Int))=MQ x y j g/\-4611686018427387904<=(y-x)*(j:Int)/\(y-x)*(j:Int)<=4611686018427387904:=by
 have hb:=qOe x y j g hj;have hm:w64 (x+(y-x)*(j:Int)/((g+1:Nat):Int))=MQ x y j g:=by
  show w64 (MQ x y j g)=_;rcases dK x y with h|h
  ·have:=hb.1 h;exact qR (by omega) (by omega)
  ·have:=hb.2 h;exact qR (by omega) (by omega)
 have hr: -1300000<=(y-x)*(j:Int)/\(y-x)*(j:Int)<=1300000:=by
  have h1:(y-x)*(j:Int)<=1200*(j:Int):=dC (by omega) (by omega);have h2:(-1200)*(j:Int)<=(y-x)*(j:Int):=dC (by omega) (by omega);omega
 refine⟨?_,hm,by omega,by omega⟩;rw[qR (n:=y-x) (by omega) (by omega),qR (by omega) (by omega)]
section
variable (a :Ring) (g:yH a)
include g
theorem qFy {k:Nat} (hk:k<(rg_meas a).length):∀(n x:Nat) (l:List qA),rg_gap a k+1<x+n->1<=x->x<=rg_gap a k+1->l.length=a.Read.length->
  ∃r,UE a (jO (rg_meas a)) (k:Int) ((rg_gap a k:Nat):Int) n l (x:Int)=some r/\r.length=a.Read.length/\
   (∀q,(∀d,x<=d->d<=rg_gap a k->q≠(rg_Mi a k+d) % a.Read.length)->r.getD q daa=l.getD q daa)/\(∀d,x<=d->d<=rg_gap a k->r.getD ((rg_Mi a k+d) % a.Read.length) daa=rg_val a k d)
 |0,x,l,h1,h2,h3,h4=>by omega
 |n+1,x,l,h1,h2,h3,h4=>by
  have hn:=g.hi;have hlo:=g.lo;have hg:=KY hk;have h0:=zW hk;have hml:=TC a;unfold UE;by_cases hx:x<=rg_gap a k
  ·have hlt:(rg_Mi a k+x) % a.Read.length<a.Read.length:=kT _ (by omega);have hk1:(k+1) % (rg_meas a).length<(rg_meas a).length:=kT _ (by omega);have hp:=qCQ g (rg_Mi a k);have hq:=qCQ g (rg_nb a k 1);obtain⟨e1,e2,e3,e4⟩:=qCH (rg_Pt a (rg_Mi a k)).X (rg_Pt a (rg_nb a k 1)).X x (rg_gap a k) hp.1 hp.2.1 hq.1 hq.2.1 (by omega) (by omega);obtain⟨f1,f2,f3,f4⟩:=qCH (rg_Pt a (rg_Mi a k)).Y (rg_Pt a (rg_nb a k 1)).Y x (rg_gap a k) hp.2.2.1 hp.2.2.2 hq.2.2.1 hq.2.2.2 (by omega) (by omega);have c1:decide ((x:Int)<=((rg_gap a k:Nat):Int))=true:=ka (by omega)
   have w1:w64 (((rg_gap a k:Nat):Int)+1)=((rg_gap a k+1:Nat):Int):=wO _ (by omega);have w2:w64 (((rg_Mi a k:Nat):Int)+(x:Int))=((rg_Mi a k+x:Nat):Int):=by rw[qR (by omega) (by omega)];omega
   rw[c1,h4,NQ (by omega),JU,wO k (by omega),QB];simp only[kp,ko,NN];rw[show(rg_meas a).getD ((k+1) % (rg_meas a).length) 0=rg_nb a k 1 from rfl,show(rg_meas a).getD k 0=rg_Mi a k from rfl];rw[show(a.Read.getD (rg_Mi a k) daa).P=rg_Pt a (rg_Mi a k) from rfl,show(a.Read.getD (rg_nb a k 1) daa).P=rg_Pt a (rg_nb a k 1) from rfl,w1,w2,QB,e1,f1,qKJ _ _ (by omega) e3 e4,qKJ _ _ (by omega) f3 f4,zS (show 0<=(((rg_Mi a k+x) % a.Read.length:Nat):Int) by omega) (by omega)];simp only[kg,kp,e2,f2,ko,wO x (by omega)]
   obtain⟨r,hr,r1,r2,r3⟩:=qFy hk n (x+1) (l.set ((rg_Mi a k+x) % a.Read.length) (rg_val a k x)) (by omega) (by omega) (by omega) (by rw[gO];exact h4);refine⟨r,hr,r1,λq hq=>?_,λd hd1 hd2=>?_⟩
   ·rw[r2 q (λd hd=>hq d (by omega)),ZA _ (λh=>hq x (kq _) hx h.symm)]
   ·by_cases he:d=x
    ·subst he;rw[r2 _ (λe he1 he2 hc=>?_),KF _ (by omega)]
     -- two places of one rg_gap differ
     have hM:=h0.1;rcases uZ (rg_Mi a k+d) a.Read.length with u|u<;>rcases uZ (rg_Mi a k+e) a.Read.length with v|v
     ·rw[zQ u,zQ v] at hc;omega
     ·rw[zQ u,QS v (by omega)] at hc;omega
     ·omega
     ·rw[QS u (by omega),QS v (by omega)] at hc;omega
    ·exact r3 d (by omega) hd2
  ·have c1:decide ((x:Int)<=((rg_gap a k:Nat):Int))=false:=ke (by omega);rw[c1];exact⟨l,rfl,h4,λ_ _=>rfl,λd h1 h2=>by omega⟩
theorem qJQ {k d k' d':Nat} (hk:k<(rg_meas a).length) (hk':k'<(rg_meas a).length) (hd:d<=rg_gap a k) (hd':d'<=rg_gap a k') (h:(rg_Mi a k+d) % a.Read.length=(rg_Mi a k'+d') % a.Read.length):k=k'/\d=d':=by
 have key:∀{k d k' d':Nat},k<(rg_meas a).length->k'<(rg_meas a).length->d<=rg_gap a k->d'<=rg_gap a k'->d<=d'->(rg_Mi a k+d) % a.Read.length=(rg_Mi a k'+d') % a.Read.length->k=k'/\d=d':=by
  intro k d k' d' hk hk' hd hd' hdd h;have h0:=zW hk;have h1:=zW hk';have g0:=KY hk;have g1:=KY hk';have hc:(rg_Mi a k'+(d'-d)) % a.Read.length=rg_Mi a k:=by
   have hM:=h0.1;have hM':=h1.1;rcases uZ (rg_Mi a k'+(d'-d)) a.Read.length with w|w
   ·rw[zQ w];rcases uZ (rg_Mi a k+d) a.Read.length with u|u<;>rcases uZ (rg_Mi a k'+d') a.Read.length with v|v
    ·rw[zQ u,zQ v] at h;omega
    ·rw[zQ u,QS v (by omega)] at h;omega
    ·rw[QS u (by omega),zQ v] at h;omega
    ·rw[QS u (by omega),QS v (by omega)] at h;omega
   ·rw[QS w (by omega)];rcases uZ (rg_Mi a k+d) a.Read.length with u|u<;>rcases uZ (rg_Mi a k'+d') a.Read.length with v|v
    ·rw[zQ u,zQ v] at h;omega
    ·rw[zQ u,QS v (by omega)] at h;omega
    ·rw[QS u (by omega),zQ v] at h;omega
    ·rw[QS u (by omega),QS v (by omega)] at h;omega
  by_cases hz:d'-d=0
  ·rw[hz,ug,zQ h1.1] at hc;exact⟨(qO0 hk' hk hc).symm,by omega⟩
  ·have:=LY hk' (show 1<=d'-d by omega) (by omega);rw[hc,h0.2] at this;cases this
 rcases Nat.le_total d d' with hle|hle
 ·exact key hk hk' hd hd' hle h
 ·have:=key hk' hk hd' hd hle h.symm;exact⟨this.1.symm,this.2.symm⟩
theorem qGh :∀(n x:Nat) (l:List qA),(rg_meas a).length<x+n->x<=(rg_meas a).length->l.length=a.Read.length->(∀k d,k<x->d<=rg_gap a k->l.getD ((rg_Mi a k+d) % a.Read.length) daa=rg_val a k d)->
  ∃r,XV a (jO (rg_meas a)) n l (x:Int)=some r/\r.length=a.Read.length/\∀k d,k<(rg_meas a).length->d<=rg_gap a k->r.getD ((rg_Mi a k+d) % a.Read.length) daa=rg_val a k d
 |0,x,l,h1,h2,_,_=>by omega
 |n+1,x,l,h1,h2,h3,h4=>by
  have hn:=g.hi;have hml:=TC a;unfold XV;by_cases hx:x<(rg_meas a).length
  ·have h0:=zW hx;have hg:=KY hx;have hk1:(x+1) % (rg_meas a).length<(rg_meas a).length:=kT _ (by omega);have h5:=zW hk1;rw[JU,RB hx,zS (by omega) (by omega),NQ (by omega),wO x (by omega),QB,zS (n:=(rg_meas a).length) (show 0<=(((x+1) % (rg_meas a).length:Nat):Int) by omega) (by omega)];simp only[kp,ko,NN]
   rw[show(rg_meas a).getD ((x+1) % (rg_meas a).length) 0=rg_Mi a ((x+1) % (rg_meas a).length) from rfl,show(rg_meas a).getD x 0=rg_Mi a x from rfl,h3,zS (show 0<=((rg_Mi a x:Nat):Int) by omega) (by omega),zS (show 0<=((rg_Mi a ((x+1) % (rg_meas a).length):Nat):Int) by omega) (by omega),qJS a (by omega) hx];simp only[kp,ko,kg];obtain⟨r,hr,r1,r2,r3⟩:=qFy a g hx FUEL 1 (l.set (rg_Mi a x) (rg_Pt a (rg_Mi a x))) (by rw[wG];omega) (by omega) (by omega) (by rw[gO];exact h3)
   have hr':UE a (jO (rg_meas a)) (x:Int) ((rg_gap a x:Nat):Int) FUEL (l.set (rg_Mi a x) ((a.Read.getD (rg_Mi a x) daa).P)) 1=some r:=hr;rw[hr'];refine qGh n (x+1) r (by omega) (by omega) r1 (λk d hk hd=>?_);have hkm:k<(rg_meas a).length:=by omega
   by_cases he:k=x
   ·subst he;by_cases hz:d=0
    ·subst hz;have hne:∀e,1<=e->e<=rg_gap a k->rg_Mi a k≠(rg_Mi a k+e) % a.Read.length:=λe h1 h2 hc=>by
      have:=LY hkm h1 h2;rw[<-hc,h0.2] at this;cases this
     rw[ug,zQ h0.1,r2 _ hne,KF _ (by omega),qKW]
    ·exact r3 d (by omega) hd
   ·rw[r2 _ (λe h1 h2 hc=>he (qJQ a g hkm hx hd h2 hc).1),ZA _ (λhc=>?_),h4 k d (by omega) hd];refine he (qJQ a g hkm hx hd (ud _) ?_).1;rw[ug,zQ h0.1];exact hc.symm
  ·rw[JU,PR hx];exact⟨l,rfl,h3,λk d hk=>h4 k d (by omega)⟩
theorem qKO (hm:1<=(rg_meas a).length) {q:Nat} (hq:q<a.Read.length):∃k d,k<(rg_meas a).length/\d<=rg_gap a k/\(rg_Mi a k+d) % a.Read.length=q/\(d=0↔rg_okAt a q=true):=by
 cases ho:rg_okAt a q with
 |true=>
  obtain⟨k,hk,e⟩:=CT hq ho;exact⟨k,0,hk,ud _,by rw[ug,e,zQ hq],by simp⟩
 |false=>
  obtain⟨k,d,hk,h1,h2,h3⟩:=qPD hm hq ho;exact⟨k,d,hk,h2,h3,by simp;omega⟩
theorem qQ3 (hm:2<=(rg_meas a).length) {k:Nat} (hk:k<(rg_meas a).length):rg_gap a k+1<a.Read.length:=by
 have h0:=zW hk;unfold rg_gap;split
 ·rename_i h;have h1:=zW h;have:=qAV (a:=a) (show k<k+1 by omega) h;omega
 ·have:=qAV (a:=a) (show 0<k by omega) hk;omega
theorem qDv (r:List qA) (hr1:r.length=a.Read.length) (hm:2<=(rg_meas a).length) (hr:∀k d,k<(rg_meas a).length->d<=rg_gap a k->r.getD ((rg_Mi a k+d) % a.Read.length) daa=rg_val a k d):
  ∀(n x:Nat),a.Read.length<x+n->x<=a.Read.length->ZQ a n (r.take x) (x:Int)=some r
 |0,x,h1,h2=>by omega
 |n+1,x,h1,h2=>by
  have hn:=g.hi;have hlo:=g.lo;unfold ZQ;by_cases hx:x<a.Read.length
  ·have hlen:(r.take x).length=x:=by rw[ur];omega
   have htk:r.take (x+1)=r.take x++[r.getD x daa]:=by
    rw[ge,ks (by omega),ki,ks (by omega)];rfl
   obtain⟨k,d,hk,hd,hq,hz⟩:=qKO a g (by omega) hx;have h0:=zW hk;have hg:=KY hk;have ih:=qDv r hr1 hm hr n (x+1) (by omega) (by omega);rw[RB hx,zS (by omega) (by omega),hlen,qFX (by omega)];simp only[kp,ko,HI,wO x (by omega)];rw[show(a.Read.getD x daa).Ok=rg_okAt a x from rfl];have hv:=hr k d hk hd;rw[hq] at hv;rw[htk,hv] at ih;cases ho:rg_okAt a x with
   |true=>
    have hd0:=hz.2 ho;subst hd0;rw[qKW] at ih;rw[ug,zQ h0.1] at hq;subst hq;exact ih
   |false=>
    have hd0:1<=d:=by
     rcases kac d with h|h
     ·rw[hz.1 h] at ho;cases ho
     ·exact h
    have hk1:(k+1) % (rg_meas a).length<(rg_meas a).length:=kT _ (by omega);have h5:=zW hk1;have hup:=qLU a (by omega) hk hd;have hdn:=qMu a (by omega) hk hd0 (by omega);rw[hq] at hup hdn;rw[hup,hdn];have hM:=h0.1;have g3:=qQ3 a g hm hk;have q1:Int.tmod (w64 (w64 ((x:Int)-((rg_Mi a k:Nat):Int))+(a.Read.length:Int))) (a.Read.length:Int)=(d:Int):=by
     rw[qR (n:=(x:Int)-_) (by omega) (by omega),qR (by omega) (by omega)];rcases uZ (rg_Mi a k+d) a.Read.length with u|u
     ·rw[zQ u] at hq;rw[show(x:Int)-((rg_Mi a k:Nat):Int)+(a.Read.length:Int)=((d+a.Read.length:Nat):Int) by omega,QB,uN,zQ (by omega)]
     ·rw[QS u (by omega)] at hq;rw[show(x:Int)-((rg_Mi a k:Nat):Int)+(a.Read.length:Int)=((d:Nat):Int) by omega,QB,zQ (by omega)]
    have hgn:=CM hk;have q2:Int.tmod (w64 (w64 (((rg_Mi a ((k+1) % (rg_meas a).length):Nat):Int)-((rg_Mi a k:Nat):Int))+(a.Read.length:Int))) (a.Read.length:Int)=((rg_gap a k+1:Nat):Int):=by
     rw[qR (n:=_-_) (by omega) (by omega),qR (by omega) (by omega)];rcases uZ (rg_Mi a k+(rg_gap a k+1)) a.Read.length with u|u
     ·rw[zQ u] at hgn;rw[show((rg_Mi a ((k+1) % (rg_meas a).length):Nat):Int)-((rg_Mi a k:Nat):Int)+(a.Read.length:Int)=((rg_gap a k+1+a.Read.length:Nat):Int) by omega,QB,uN,zQ (by omega)]
     ·rw[QS u (by omega)] at hgn;rw[show((rg_Mi a ((k+1) % (rg_meas a).length):Nat):Int)-((rg_Mi a k:Nat):Int)+(a.Read.length:Int)=((rg_gap a k+1:Nat):Int) by omega,QB,zQ (by omega)]
    have hp:=qCQ g (rg_Mi a k);have hqq:=qCQ g (rg_nb a k 1);obtain⟨e1,e2,e3,e4⟩:=qCH (rg_Pt a (rg_Mi a k)).X (rg_Pt a (rg_nb a k 1)).X d (rg_gap a k) hp.1 hp.2.1 hqq.1 hqq.2.1 (by omega) (by omega);obtain⟨f1,f2,f3,f4⟩:=qCH (rg_Pt a (rg_Mi a k)).Y (rg_Pt a (rg_nb a k 1)).Y d (rg_gap a k) hp.2.2.1 hp.2.2.2 hqq.2.2.1 hqq.2.2.2 (by omega) (by omega);simp only[kr,kg,ko];rw[NQ (by omega),zS (show 0<=((rg_Mi a k:Nat):Int) by omega) (by omega),zS (show 0<=((rg_Mi a ((k+1) % (rg_meas a).length):Nat):Int) by omega) (by omega),q1,q2]
    rw[show(a.Read.getD (rg_Mi a k) daa).P=rg_Pt a (rg_Mi a k) from rfl,show(a.Read.getD (rg_Mi a ((k+1) % (rg_meas a).length)) daa).P=rg_Pt a (rg_nb a k 1) from rfl,e1,f1,qF1 _ _ (by omega) (by omega) e3 e4,qF1 _ _ (by omega) (by omega) f3 f4];simp only[kp,kg,e2,f2];exact ih
  ·rw[PR hx,gx (by omega)];rfl
theorem qTE (hm:2<=(rg_meas a).length):∃r,r.length=a.Read.length/\(∀k d,k<(rg_meas a).length->d<=rg_gap a k->r.getD ((rg_Mi a k+d) % a.Read.length) daa=rg_val a k d)/\
  XV a (jO (rg_meas a)) FUEL (List.replicate ((a.Read.length:Int).toNat) (qA.mk 0 0)) 0=some r/\ZQ a FUEL [] 0=some r:=by
 have hn:=g.hi;have hml:=TC a;obtain⟨r,h1,h2,h3⟩:=qGh a g FUEL 0 (List.replicate ((a.Read.length:Int).toNat) (qA.mk 0 0)) (by rw[wG];omega) (by omega) (by simp) (λk d h=>by omega);refine⟨r,h2,h3,h1,?_⟩;have:=qDv a g r h2 hm h3 FUEL 0 (by rw[wG];omega) (by omega);rw[List.take_zero] at this;exact this
end
noncomputable def fill (a:Ring):List qA:=Classical.epsilon λr=>r.length=a.Read.length/\∀k d,k<(rg_meas a).length->d<=rg_gap a k->r.getD ((rg_Mi a k+d) % a.Read.length) daa=rg_val a k d
def qB1 (a:Ring):Int:=match qDw a with
 |some x=>x.2
 |none=>0
def rg_canFill (a:Ring) (most:Int):Bool:=!decide (((rg_meas a).length:Int)<3)&&!(decide (((a.Read.length-(rg_meas a).length:Nat):Int)>0)&&decide (qB1 a>most))
theorem qOb (a:Ring) (g:yH a) (hm:2<=(rg_meas a).length) {r:List qA} (h1:r.length=a.Read.length) (h2:∀k d,k<(rg_meas a).length->d<=rg_gap a k->r.getD ((rg_Mi a k+d) % a.Read.length) daa=rg_val a k d):r=fill a:=by
 have:=Classical.epsilon_spec (p:=λr:List qA=>r.length=a.Read.length/\∀k d,k<(rg_meas a).length->d<=rg_gap a k->r.getD ((rg_Mi a k+d) % a.Read.length) daa=rg_val a k d) ⟨r,h1,h2⟩;refine CH (h1.trans this.1.symm) (λj hj=>?_);obtain⟨k,d,hk,hd,hq,_⟩:=qKO a g (by omega) (show j<a.Read.length by omega);rw[<-hq,h2 k d hk hd];exact(this.2 k d hk hd).symm
theorem qEK (a:Ring) (g:yH a) (hm:2<=(rg_meas a).length):(fill a).length=a.Read.length/\(∀k d,k<(rg_meas a).length->d<=rg_gap a k->(fill a).getD ((rg_Mi a k+d) % a.Read.length) daa=rg_val a k d)/\
  XV a (jO (rg_meas a)) FUEL (List.replicate ((a.Read.length:Int).toNat) (qA.mk 0 0)) 0=some (fill a)/\ZQ a FUEL [] 0=some (fill a):=by
 obtain⟨r,h1,h2,h3,h4⟩:=qTE a g hm;obtain rfl:=qOb a g hm h1 h2;exact⟨h1,h2,h3,h4⟩
theorem qOE (a:Ring) (g:yH a) (most:Int):qCE a most=some (bif rg_canFill a most then(fill a,0) else([],30)):=by
 have hn:=g.hi;have hml:=TC a;obtain⟨L,hL,_⟩:=qEA a (by omega);unfold qCE BZ rg_canFill;have hlo:qB1 a=(L:Int):=by unfold qB1;rw[hL]
 have hmk:mkOk (a.Read.length:Int) 16=true:=by unfold mkOk;exact ka ⟨by omega,by omega,by omega⟩
 rw[MC,(KP a).2 g,qCn a (by omega),hL,hlo,hmk];simp only[kg,kA,kr,JU];by_cases h3:((rg_meas a).length:Int)<3
 ·rw[ka h3];rfl
 ·rw[ke h3,(qEK a g (by omega)).2.2.1];cases decide (((a.Read.length-(rg_meas a).length:Nat):Int)>0)<;>cases decide ((L:Int)>most)<;>rfl
theorem qP0 (a:Ring) (g:yH a) (most:Int):qBr a most=some (bif rg_canFill a most then(fill a,0) else([],30)):=by
 have hn:=g.hi;have hml:=TC a;obtain⟨L,hL,hR⟩:=qEA a (by omega);unfold qBr GY rg_canFill;have hlo:qB1 a=(L:Int):=by unfold qB1;rw[hL]
 rw[ER,(KP a).2 g,hR,hlo];simp only[kg,kA,kr];rw[qR (by omega) (by omega),show(a.Read.length:Int)-((a.Read.length-(rg_meas a).length:Nat):Int)=((rg_meas a).length:Int) by omega];by_cases h3:((rg_meas a).length:Int)<3
 ·rw[ka h3];rfl
 ·rw[ke h3,(qEK a g (by omega)).2.2.2];cases decide (((a.Read.length-(rg_meas a).length:Nat):Int)>0)<;>cases decide ((L:Int)>most)<;>rfl
theorem qKC (a:Ring) (r:Int):∀(m:List Nat) (l:List qO) (j:Nat),j<l.length->(m.foldl (GP a r) l).getD j daa=bif decide (j∈m)&&rg_dropB a r j then qHV else l.getD j daa
 |[],l,j,_=>by simp
 |i::m,l,j,hj=>by
  rw[uR,qKC a r m _ j (by rw[qD7];exact hj)];unfold GP;by_cases he:i=j
  ·subst he;cases hd:rg_dropB a r i with
   |false=>simp
   |true=>rw[kp,KF _ hj];simp
  ·have hm:decide (j∈i::m)=decide (j∈m):=by simp[Ne.symm he]
   rw[hm];cases hd:rg_dropB a r i with
   |false=>rfl
   |true=>rw[kp,ZA _ he]
theorem qRx {a:Ring} {r:Int} {j:Nat} (h:rg_dropB a r j=true):j∈rg_meas a:=by
 unfold rg_dropB at h;rw[gZ] at h;obtain⟨k,hk,h⟩:=h;rw[kv,decide_eq_true_eq] at h;rw[<-h.1];exact gM (qIO (uO.1 hk))
def rg_cut (a:Ring) (r:Int) (j:Nat):Bool:=!decide (r<0)&&!decide (((rg_meas a).length:Int)<2)&&rg_dropB a r j
theorem qOi (a:Ring) (g:yH a) (r:Int) {j:Nat} (hj:j<a.Read.length):(rg_cleaned a r).Read.getD j daa=bif rg_cut a r j then qHV else a.Read.getD j daa:=by
 unfold rg_cleaned rg_cut;rw[(KP a).2 g];cases decide (r<0)<;>cases decide (((rg_meas a).length:Int)<2)<;>simp only[kp,kr,kA,kG,uC,Bool.false_and,Bool.true_and,Bool.and_false];rw[qKC _ _ _ _ _ hj];cases hd:rg_dropB a r j with
 |false=>simp
 |true=>simp[qRx hd]
theorem qTN {l:List qO} {P:qO->Prop} (h:∀j,j<l.length->P (l.getD j daa)):∀r∈l,P r:=by
 intro r hr;obtain⟨t,ht,he⟩:=uV.1 hr;have:=h t ht
 rwa [ki,ks ht,kJ,he] at this
theorem qVD {a:Ring} (g:yH a) {j:Nat} (hj:j<a.Read.length):RN (a.Read.getD j daa)=0:=by
 refine g.all _ ?_;rw[ki,ks hj];exact uJ hj
theorem qMX (a:Ring) (g:yH a) (r:Int):yH (rg_cleaned a r):=by
 have hl:=qOs a r;have hz:=qRp a r;refine⟨by rw[hl];exact g.lo,by rw[hl];exact g.hi,by rw[hz];exact g.z0,by rw[hz];exact g.z1,qTN λj hj=>?_⟩;rw[hl] at hj;rw[qOi a g r hj];cases rg_cut a r j with
 |true=>exact show RN qHV=0 by decide
 |false=>exact qVD g hj
section
variable (a :Ring) (g:yH a) (hm:2<=(rg_meas a).length)
include g hm
end
def insS (s:Span) (lo hi:Int):Bool:=decide ((lo<=s.A/\lo<=s.B)/\(s.A<=hi/\s.B<=hi))
theorem qU5 (s:Span) (lo hi:Int):GF s lo hi=some (insS s lo hi):=by
 unfold GF LB insS;have a:=imin_or s.A s.B;have b:=wZ s.A s.B;by_cases h1:imin s.A s.B≥lo
 ·rw[ka h1];by_cases h2:imax s.A s.B<=hi
  ·rw[ka h2,ka (by omega)];rfl
  ·rw[ke h2,ke (by omega)];rfl
 ·rw[ke h1,ke (show¬((lo<=s.A/\lo<=s.B)/\(s.A<=hi/\s.B<=hi)) by omega)];rfl
def chkD (d:qC):Int:=
 if d.Kind<1\/6<d.Kind then 10
 else bif empS d.Box.X||(empS d.Box.Y||empS d.Box.Z) then 19
 else bif insS d.Box.X (-600) 600&&(insS d.Box.Y (-600) 600&&insS d.Box.Z 0 20000) then 0 else 9
theorem qPz (s:Span):JM s=some (empS s):=rfl
theorem chkD_eq (d:qC):qBo d=some (chkD d):=by
 unfold qBo HO DU GZ chkD;simp only[qPz,qU5,kg];by_cases h1:d.Kind<1
 ·rw[ka h1,if_pos (.inl h1)];rfl
 rw[ke h1];by_cases h2:d.Kind>6
 ·rw[ka h2,if_pos (.inr h2)];rfl
 rw[ke h2,if_neg (by omega)];cases empS d.Box.X<;>cases empS d.Box.Y<;>cases empS d.Box.Z<;>cases insS d.Box.X (-600) 600<;>cases insS d.Box.Y (-600) 600<;>cases insS d.Box.Z 0 20000<;>rfl
structure VD (d:qC):Prop where
 k1:1<=d.Kind
 k2:d.Kind<=6
 x:d.Box.X.A<d.Box.X.B/\-600<=d.Box.X.A/\d.Box.X.B<=600
 y:d.Box.Y.A<d.Box.Y.B/\-600<=d.Box.Y.A/\d.Box.Y.B<=600
 z:d.Box.Z.A<d.Box.Z.B/\0<=d.Box.Z.A/\d.Box.Z.B<=20000
theorem qWj (d:qC):chkD d=0↔VD d:=by
 unfold chkD;by_cases h1:d.Kind<1\/6<d.Kind
 ·rw[if_pos h1];exact⟨λh=>absurd h (by decide),λh=>by have:=h.k1;have:=h.k2;omega⟩
 rw[if_neg h1];cases hx:empS d.Box.X with
 |true=>exact⟨λh=>absurd (show(19:Int)=0 from h) (by decide),λh=>by have:=h.x;have:=uw hx;omega⟩
 |false=>
 cases hy:empS d.Box.Y with
 |true=>exact⟨λh=>absurd (show(19:Int)=0 from h) (by decide),λh=>by have:=h.y;have:=uw hy;omega⟩
 |false=>
 cases hz:empS d.Box.Z with
 |true=>exact⟨λh=>absurd (show(19:Int)=0 from h) (by decide),λh=>by have:=h.z;have:=uw hz;omega⟩
 |false=>
 have ex:=of_decide_eq_false hx;have ey:=of_decide_eq_false hy;have ez:=of_decide_eq_false hz;unfold insS;by_cases i1:(-600<=d.Box.X.A/\-600<=d.Box.X.B)/\d.Box.X.A<=600/\d.Box.X.B<=600
 ·rw[ka i1];by_cases i2:(-600<=d.Box.Y.A/\-600<=d.Box.Y.B)/\d.Box.Y.A<=600/\d.Box.Y.B<=600
  ·rw[ka i2];by_cases i3:(0<=d.Box.Z.A/\0<=d.Box.Z.B)/\d.Box.Z.A<=20000/\d.Box.Z.B<=20000
   ·rw[ka i3];exact⟨λ_=>⟨by omega,by omega,by omega,by omega,by omega⟩,λ_=>rfl⟩
   ·rw[ke i3];exact⟨λh=>absurd h (by decide),λh=>by have:=h.z;omega⟩
  ·rw[ke i2];exact⟨λh=>absurd (show(9:Int)=0 from h) (by decide),λh=>by have:=h.y;omega⟩
 ·rw[ke i1];exact⟨λh=>absurd (show(9:Int)=0 from h) (by decide),λh=>by have:=h.x;omega⟩
def badD (d:qC):Option Int:=bif chkD d !=0 then some (chkD d) else none
def QD (l:List qC):Int:=if 64<l.length then 4 else match findE badD l with| .inl e=>e| .inr _=>0
theorem qEQ (l:List qC):KX l=some (QD l):=by
 unfold KX QD;by_cases h:64<l.length
 ·rw[if_pos h,ka (by omega)];rfl
 rw[if_neg h,ke (by omega)];have L:YJ l FUEL 0=some (findE badD l):=by
  refine YW l (YJ l) badD (by omega) (λn x hx=>?_) (λn=>?_)
  ·rw[YJ,ka (by omega),qJ (by omega)];simp only[kp,ko,qM (show x<4611686018427387904 by omega),chkD_eq,kg,badD];cases chkD (l.getD x daa) !=0<;>rfl
  ·rw[YJ,ke (by omega)];rfl
 rw[L];simp only[kr,kg];cases findE badD l<;>rfl
theorem qOP {d:qC}:badD d=none↔VD d:=by
 rw[<-qWj];unfold badD;by_cases h:chkD d=0
 ·rw[h];simp
 ·rw[show(chkD d !=0)=true by rw[ua];exact h];simp[h]
theorem yO (l:List qC):QD l=0↔l.length<=64/\∀d∈l,VD d:=by
 unfold QD;by_cases h:64<l.length
 ·rw[if_pos h];exact⟨λh=>absurd h (by decide),λh=>by omega⟩
 rw[if_neg h];cases hf:findE badD l with
 |inl e=>
  obtain⟨a,ha,hb⟩:=qDl hf;simp only;have hn:e≠0:=by
   unfold badD at hb;cases hc:chkD a !=0 with
   |true=>rw[hc] at hb;cases hb;exact ua.1 hc
   |false=>rw[hc] at hb;cases hb
  exact⟨λh=>absurd h hn,λh=>by rw[qOP.2 (h.2 a ha)] at hb;cases hb⟩
 |inr u=>exact⟨λ_=>⟨by omega,λd hd=>qOP.1 (DA.1 hf d hd)⟩,λ_=>rfl⟩
theorem qO9 (b:Box):CW b=some (empS b.X||(empS b.Y||empS b.Z)):=by
 unfold CW FH empS;show(bif decide (b.X.B<=b.X.A) then _ else bif decide (b.Y.B<=b.Y.A) then _ else some (decide (b.Z.B<=b.Z.A)))=_;cases decide (b.X.B<=b.X.A)<;>cases decide (b.Y.B<=b.Y.A)<;>rfl
theorem qR4 {s:Span} (h:empS s=false) (a b:Int):qCt s a b=some (insS s a b):=by
 have h':¬s.B<=s.A:=of_decide_eq_false h;unfold qCt qC2 insS;by_cases c1:a<=s.A
 ·rw[ka c1];simp only[kp]
  congr 1
  rw[decide_eq_decide];omega
 ·rw[ke c1,ke (show¬((a<=s.A/\a<=s.B)/\(s.A<=b/\s.B<=b)) from λq=>c1 q.1.1)];rfl
theorem qU8 {b:Box} (h:(empS b.X||(empS b.Y||empS b.Z))=false):qBn b=some (insS b.X (-600) 600&&(insS b.Y (-600) 600&&insS b.Z 0 20000)):=by
 have h1:empS b.X=false:=by cases e:empS b.X with|false=>rfl|true=>rw[e] at h;cases h
 have h2:empS b.Y=false:=by cases e:empS b.Y with|false=>rfl|true=>rw[h1,e] at h;cases h
 have h3:empS b.Z=false:=by cases e:empS b.Z with|false=>rfl|true=>rw[h1,h2,e] at h;cases h
 unfold qBn DE;simp only[qR4 h1,qR4 h2,qR4 h3,kg];cases insS b.X (-600) 600<;>cases insS b.Y (-600) 600<;>rfl
theorem qFo (l:List qC):TL l=some (QD l):=by
 unfold TL QD;by_cases h:64<l.length
 ·rw[if_pos h,ka (by omega)];rfl
 rw[if_neg h,ke (by omega)];have L:JD l FUEL 0=some (findE badD l):=by
  refine YW l (JD l) badD (by omega) (λn x hx=>?_) (λn=>?_)
  ·rw[JD,ka (by omega),qJ (by omega)];simp only[kp,ko,qM (show x<4611686018427387904 by omega),ID,qO9,kg];rw[qJ (by omega)];unfold badD chkD;by_cases h1:(l.getD x daa).Kind<1
   ·rw[ka h1,if_pos (.inl h1)];rfl
   rw[ke h1];by_cases h2:(l.getD x daa).Kind>6
   ·rw[ka h2,if_pos (.inr h2)];rfl
   rw[ke h2,if_neg (by omega)];simp only[kr,kp];cases he:(empS (l.getD x daa).Box.X||(empS (l.getD x daa).Box.Y||empS (l.getD x daa).Box.Z)) with
   |true=>rfl
   |false=>
    rw[qU8 he];cases (insS (l.getD x daa).Box.X (-600) 600&&(insS (l.getD x daa).Box.Y (-600) 600&&insS (l.getD x daa).Box.Z 0 20000))<;>rfl
  ·rw[JD,ke (by omega)];rfl
 rw[L];simp only[kr,kg];cases findE badD l<;>rfl
def rgs (s:Scan) (x:Nat):Ring:=s.Rings.getD x daa
def errR (s:Scan) (x:Nat):Option Int:=
 bif JL (rgs s x) !=0 then some (JL (rgs s x))
 else bif (decide (x=0)&&((rgs s x).Z !=0))||(decide (0<x)&&decide ((rgs s x).Z<=(rgs s (x-1)).Z)) then some 11
 else bif ((rgs s x).Read.length:Int) !=(((rgs s 0).Read.length:Nat):Int) then some 19 else none
def errZ (z:Int) (d:qC):Option Int:=bif decide (d.Box.Z.B>z) then some 9 else none
def endZ (s:Scan):Int:=(rgs s (s.Rings.length-1)).Z
def DN (s:Scan):Int:=
 if s.Rings.length<2 then 3 else if 24<s.Rings.length then 4
 else match findN (errR s) 0 s.Rings.length with
  | .inl e=>e
  | .inr _=>if QD s.Defects≠0 then QD s.Defects else match findE (errZ (endZ s)) s.Defects with| .inl e=>e| .inr _=>0
theorem qPC (s:Scan) (z:Int) (L:Nat->Int->Option (Int⊕Unit)) (hl:s.Defects.length<=64) (h0:∀n x,x<s.Defects.length->L (n+1) ((x:Nat):Int)=bif decide ((s.Defects.getD x daa).Box.Z.B>z) then some (.inl 9) else L n ((x+1:Nat):Int)) (h1:∀n,L (n+1) (s.Defects.length:Int)=some (.inr ())):
  L FUEL 0=some (findE (errZ z) s.Defects):=by
 refine YW s.Defects L (errZ z) (by omega) (λn x hx=>?_) h1;rw[h0 n x hx];unfold errZ;cases decide ((s.Defects.getD x daa).Box.Z.B>z)<;>rfl
theorem qSR (s:Scan):qBB s=some (DN s):=by
 unfold qBB DN;by_cases h2:s.Rings.length<2
 ·rw[if_pos h2,ka (by omega)];rfl
 rw[if_neg h2,ke (by omega)];by_cases h24:24<s.Rings.length
 ·rw[if_pos h24,ka (by omega)];rfl
 rw[if_neg h24,ke (by omega)];have L:yS s FUEL 0=some (findN (errR s) 0 s.Rings.length):=by
  refine QI s.Rings.length (yS s) (errR s) 0 (by omega) (by omega) (λn x _ hx=>?_) (λn=>?_)
  ·rw[yS,ka (by omega),qJ (by omega)];simp only[kp,ko,gK,MC,kg,RH,qM (show x<4611686018427387904 by omega),qJ (i:=0) (n:=s.Rings.length) (by omega)];unfold errR rgs;cases hc:JL (s.Rings.getD x daa) !=0 with
   |true=>rfl
   |false=>
    simp only[kr];by_cases hx0:x=0
    ·subst hx0;rw[show(((0:Nat):Int)==0)=true from rfl,ke (show¬((0:Nat):Int)>0 by omega)];cases (s.Rings.getD 0 daa).Z !=0 with
     |true=>rfl
     |false=>cases (((s.Rings.getD 0 daa).Read.length:Nat):Int) !=(((s.Rings.getD 0 daa).Read.length:Nat):Int)<;>rfl
    ·rw[show(((x:Nat):Int)==0)=false by rw[kC];omega,ka (show((x:Nat):Int)>0 by omega),qE0 (show-9223372036854775808<=(x:Int)-1 by omega) (by omega),qJ (by omega),ke hx0,ka (show 0<x by omega),show((x:Int)-1).toNat=x-1 by omega];cases decide ((s.Rings.getD x daa).Z<=(s.Rings.getD (x-1) daa).Z) with
     |true=>rfl
     |false=>cases ((s.Rings.getD x daa).Read.length:Int) !=(((s.Rings.getD 0 daa).Read.length:Nat):Int)<;>rfl
  ·rw[yS,ke (by omega)];rfl
 rw[L];simp only[kr,kg];cases findN (errR s) 0 s.Rings.length with
 |inl e=>rfl
 |inr u=>
  simp only[Sum.elim_inr,qEQ,kg];by_cases h13:QD s.Defects=0
  ·rw[h13,if_neg (by simp)];simp only[kA,kr];rw[qD (by omega),qJ (by omega)];have:=qPC s (endZ s) (GC s) ((yO _).1 h13).1 (λn x hx=>by
    rw[GC,ka (by omega),qJ (by omega)];simp only[kp,ko,qM (show x<4611686018427387904 by have:=((yO _).1 h13).1;omega)];rw[qD (by omega),show((s.Rings.length:Int)-1).toNat=s.Rings.length-1 by omega];rfl) (λn=>by rw[GC,ke (by omega)];rfl)
   rw[this];simp only[kp,kg];cases findE (errZ (endZ s)) s.Defects<;>rfl
  ·rw[show(QD s.Defects !=0)=true by rw[ua];exact h13,if_pos h13];rfl
def qD3 {ε σ:Type} (err:Nat->Option ε) (g:Nat->σ) (x:Nat) (_:σ):ε⊕σ:=match err x with|some e=> .inl e|none=> .inr (g x)
theorem qHE {ε σ:Type} (err:Nat->Option ε) (g:Nat->σ):∀(k x:Nat) (s:σ),runN (qD3 err g) x k s=Sum.elim Sum.inl (λ_=>Sum.inr (if k=0 then s else g (x+k-1))) (findN err x k)
 |0,x,s=>by simp[runN,findN]
 |k+1,x,s=>by
  unfold runN findN qD3;cases err x with
  |some e=>rfl
  |none=>
   simp only;have ih:=qHE err g k (x+1) (g x);unfold qD3 at ih;rw[ih];cases findN err (x+1) k with
   |inl e=>rfl
   |inr u=>
    simp only[Nat.add_eq_zero_iff,Nat.one_ne_zero,and_false,if_false,Sum.elim_inr]
    congr 1
    by_cases hk:k=0
    ·subst hk;rw[if_pos rfl];rfl
    ·rw[if_neg hk];congr 1;omega
theorem qPj (s:Scan):CR s=some (DN s):=by
 unfold CR DN;by_cases h2:s.Rings.length<2
 ·rw[if_pos h2,ka (by omega)];rfl
 rw[if_neg h2,ke (by omega)];by_cases h24:24<s.Rings.length
 ·rw[if_pos h24,ka (by omega)];rfl
 rw[if_neg h24,ke (by omega)];have L:=AB s.Rings.length (λn l i=>wL s n l i) (qD3 (errR s) (λx=>(rgs s x).Z)) (λr=>r) (λx l=>x=0\/l=(rgs s (x-1)).Z) (λn x l hx hi=>by
   have e:wL s (n+1) l (x:Int)=match errR s x with|some e=>some (.inl e)|none=>wL s n (rgs s x).Z ((x+1:Nat):Int):=by
    rw[wL,ka (by omega),qJ (by omega)];simp only[kp,ko,gK,ER,kg,KJ,qM (show x<4611686018427387904 by omega),qJ (i:=0) (n:=s.Rings.length) (by omega)];unfold errR rgs;cases hc:JL (s.Rings.getD x daa) !=0 with
    |true=>rfl
    |false=>
     simp only[kr];by_cases hx0:x=0
     ·subst hx0;rw[show(((0:Nat):Int)==0)=true from rfl,ke (show¬((0:Nat):Int)>0 by omega)];cases (s.Rings.getD 0 daa).Z !=0 with
      |true=>rfl
      |false=>cases (((s.Rings.getD 0 daa).Read.length:Nat):Int) !=(((s.Rings.getD 0 daa).Read.length:Nat):Int)<;>rfl
     ·have hl:l=(rgs s (x-1)).Z:=hi.resolve_left hx0;subst hl;unfold rgs;rw[show(((x:Nat):Int)==0)=false by rw[kC];omega,ka (show((x:Nat):Int)>0 by omega),ke hx0,ka (show 0<x by omega)];cases decide ((s.Rings.getD x daa).Z<=(s.Rings.getD (x-1) daa).Z) with
      |true=>rfl
      |false=>cases ((s.Rings.getD x daa).Read.length:Int) !=(((s.Rings.getD 0 daa).Read.length:Nat):Int)<;>rfl
   unfold qD3;cases he:errR s x with
   |some q=>rw[he] at e;exact e
   |none=>rw[he] at e;exact⟨e,.inr (by rw[kad])⟩)
  (λn l _=>by show wL s (n+1) l _=_;rw[wL,ke (by omega)];rfl) FUEL 0 0 (by rw[FUEL_eq];omega) (by omega) (.inl rfl)
 rw[qHE,if_neg (show¬s.Rings.length-0=0 by omega),show 0+(s.Rings.length-0)-1=s.Rings.length-1 by omega,kO] at L;have L':wL s FUEL 0 0=some (Sum.elim Sum.inl (λ_=>Sum.inr (rgs s (s.Rings.length-1)).Z) (findN (errR s) 0 s.Rings.length)):=L;rw[L'];simp only[kr,kg];cases findN (errR s) 0 s.Rings.length with
 |inl e=>rfl
 |inr u=>
  simp only[Sum.elim_inr,qFo,kg];by_cases h13:QD s.Defects=0
  ·rw[h13,if_neg (by simp)];simp only[kA,kr];have:=qPC s (endZ s) (TS s (endZ s)) ((yO _).1 h13).1 (λn x hx=>by
    rw[TS,ka (by omega),qJ (by omega)];simp only[kp,ko,qM (show x<4611686018427387904 by have:=((yO _).1 h13).1;omega)]) (λn=>by rw[TS,ke (by omega)];rfl)
   rw[show(rgs s (s.Rings.length-1)).Z=endZ s from rfl,this];simp only[kg];cases findE (errZ (endZ s)) s.Defects<;>rfl
  ·rw[show(QD s.Defects !=0)=true by rw[ua];exact h13,if_pos h13];rfl
theorem qVS {s:Scan} {x:Nat} (h:errR s x=none):yH (rgs s x)/\(x=0->(rgs s x).Z=0)/\(0<x->(rgs s (x-1)).Z<(rgs s x).Z)/\(rgs s x).Read.length=(rgs s 0).Read.length:=by
 unfold errR at h;cases h1:JL (rgs s x) !=0 with
 |true=>rw[h1] at h;cases h
 |false=>
  rw[h1] at h;simp only[kr] at h;cases h2:(decide (x=0)&&((rgs s x).Z !=0))||(decide (0<x)&&decide ((rgs s x).Z<=(rgs s (x-1)).Z)) with
  |true=>rw[h2] at h;cases h
  |false=>
   rw[h2] at h;simp only[kr] at h;cases h3:((rgs s x).Read.length:Int) !=(((rgs s 0).Read.length:Nat):Int) with
   |true=>rw[h3] at h;cases h
   |false=>
    simp only[gp,Bool.and_eq_false_iff,decide_eq_false_iff_not,kV] at h1 h2 h3;exact⟨(KP _).1 h1,λhx=>h2.1.resolve_left (λq=>q hx),λhx=>by rcases h2.2 with q|q<;>omega,by omega⟩
structure V15 (s:Scan):Prop where
 two:2<=s.Rings.length
 many:s.Rings.length<=24
 good:∀x,x<s.Rings.length->yH (rgs s x)
 zero:(rgs s 0).Z=0
 up:∀x,0<x->x<s.Rings.length->(rgs s (x-1)).Z<(rgs s x).Z
 same:∀x,x<s.Rings.length->(rgs s x).Read.length=(rgs s 0).Read.length
 def13:QD s.Defects=0
 ends:∀d∈s.Defects,d.Box.Z.B<=endZ s
theorem qPH {z:Int} {d:qC}:errZ z d=none↔d.Box.Z.B<=z:=by
 unfold errZ;by_cases h:d.Box.Z.B>z
 ·rw[ka h];simp;omega
 ·rw[ke h];simp;omega
theorem qHy (s:Scan):DN s=0↔V15 s:=by
 unfold DN;by_cases h2:s.Rings.length<2
 ·rw[if_pos h2];exact⟨λh=>absurd h (by decide),λh=>by have:=h.two;omega⟩
 rw[if_neg h2];by_cases h24:24<s.Rings.length
 ·rw[if_pos h24];exact⟨λh=>absurd h (by decide),λh=>by have:=h.many;omega⟩
 rw[if_neg h24];cases hf:findN (errR s) 0 s.Rings.length with
 |inl e=>
  obtain⟨i,_,hi,he,_⟩:=WK hf;simp only;refine⟨λh=>?_,λh=>?_⟩
  ·subst h;unfold errR at he;cases h1:JL (rgs s i) !=0 with
   |true=>rw[h1] at he;simp only[kp,uM] at he;rw[he] at h1;cases h1
   |false=>
    rw[h1] at he;simp only[kr] at he;cases h2:(decide (i=0)&&((rgs s i).Z !=0))||(decide (0<i)&&decide ((rgs s i).Z<=(rgs s (i-1)).Z))<;>rw[h2] at he<;>simp only[kp,kr] at he
    ·cases h3:((rgs s i).Read.length:Int) !=(((rgs s 0).Read.length:Nat):Int)<;>rw[h3] at he<;>cases he
    ·cases he
  ·have hi':i<s.Rings.length:=by omega
   exfalso;have:errR s i=none:=by
    unfold errR;rw[show JL (rgs s i)=0 from(KP _).2 (h.good i hi'),h.same i hi'];simp only[kA,kr];have:((decide (i=0)&&((rgs s i).Z !=0))||(decide (0<i)&&decide ((rgs s i).Z<=(rgs s (i-1)).Z)))=false:=by
     by_cases h0:i=0
     ·subst h0;rw[h.zero];simp
     ·rw[ke h0,ke (show¬(rgs s i).Z<=(rgs s (i-1)).Z by have:=h.up i (by omega) hi';omega)];simp
    rw[this];rfl
   rw[this] at he;cases he
 |inr u=>
  have hn:=KS.1 hf;simp only;by_cases h13:QD s.Defects=0
  ·rw[if_neg (by simpa using h13)];cases hz:findE (errZ (endZ s)) s.Defects with
   |inl e=>
    simp only;obtain⟨d,hd,he⟩:=qDl hz;refine⟨λh=>?_,λh=>?_⟩
    ·subst h;unfold errZ at he;cases h3:decide (d.Box.Z.B>endZ s)<;>rw[h3] at he<;>cases he
    ·rw[qPH.2 (h.ends d hd)] at he;cases he
   |inr u=>
    have hz':=DA.1 hz;have e:∀x,x<s.Rings.length->_:=λx hx=>qVS (hn x (by omega) (by omega));exact⟨λ_=>⟨by omega,by omega,λx hx=>(e x hx).1,(e 0 (by omega)).2.1 rfl,λx h0 hx=>(e x hx).2.2.1 h0,λx hx=>(e x hx).2.2.2,h13,λd hd=>qPH.1 (hz' d hd)⟩,λ_=>rfl⟩
  ·rw[if_pos h13];exact⟨λh=>absurd h h13,λh=>absurd h.def13 h13⟩
noncomputable def secR (r:Ring) (limit most:Int):qF×Int:=bif rg_canFill (rg_cleaned r limit) most then ofR (fill (rg_cleaned r limit)) else(nilS,30)
theorem qYO {a:Ring} (g:yH a) {most:Int} (h:rg_canFill a most=true):(fill a).length=a.Read.length:=by
 refine(qEK a g ?_).1;unfold rg_canFill at h;rw[kv] at h;have:=h.1;simp only[uF,decide_eq_false_iff_not] at this;omega
theorem qVR (r:Ring) (g:yH r) (limit most:Int):OA r limit most=some (secR r limit most)/\qAt r limit most=some ((secR r limit most).1,(secR r limit most).2==0):=by
 have g':=qMX r g limit;have hi:=g.hi;unfold OA qAt secR;rw[qQf r limit (by omega),qSK r limit (by omega)];simp only[kg];rw[show(Ring.mk (rg_cleaned r limit).Z (rg_cleaned r limit).Read)=rg_cleaned r limit from rfl,qOE _ g',qP0 _ g'];simp only[kg];cases hc:rg_canFill (rg_cleaned r limit) most with
 |false=>exact⟨rfl,rfl⟩
 |true=>
  simp only[kp,kA,kr];have hl:(fill (rg_cleaned r limit)).length<=40:=by
   rw[qYO g' hc];have:=g'.hi;omega
  rw[(Of_eq _ hl).1,(Of_eq _ hl).2];exact⟨rfl,rfl⟩
theorem qUu (r:Ring) (limit most:Int):VS (secR r limit most).1:=by
 unfold secR;cases rg_canFill (rg_cleaned r limit) most with
 |false=>exact qJM
 |true=>exact ofR_VS _
noncomputable def secI (s:Scan) (l m:Int) (i:Nat):qF×Int:=secR (rgs s i) l m
noncomputable def qAE (s:Scan) (l m:Int) (i:Nat):qF:=qFD (secI s l m i).1 (secI s l m (i+1)).1
noncomputable def slI (s:Scan) (l m:Int) (i:Nat):qB:=⟨(rgs s (i+1)).Z-(rgs s i).Z,qAE s l m i⟩
noncomputable def er1 (s:Scan) (l m:Int) (i:Nat):Option (List qB×Int):=if(secI s l m i).2≠0 then some ([],30) else none
noncomputable def er2 (s:Scan) (l m:Int) (i:Nat):Option (List qB×Int):=if(qAE s l m i).Rows=[] then some ([],30) else none
noncomputable def BX (s:Scan) (l m:Int):List qB×Int:=
 if DN s≠0 then([],DN s)
 else match findN (er1 s l m) 0 s.Rings.length with
  | .inl e=>e
  | .inr _=>match findN (er2 s l m) 0 (s.Rings.length-1) with
   | .inl e=>e
   | .inr _=>((List.range (s.Rings.length-1)).map (slI s l m),0)
theorem qUw (s:Scan) (l m:Int) (i:Nat):EF (secI s l m i).1 (secI s l m (i+1)).1=some (qAE s l m i)/\FV (secI s l m i).1 (secI s l m (i+1)).1=some (qAE s l m i):=by
 have h:=Meet_eq (secI s l m i).1 (secI s l m (i+1)).1;rw[ST (show VS (secI s l m i).1 from qUu _ _ _),ST (show VS (secI s l m (i+1)).1 from qUu _ _ _)] at h;exact h
theorem rows0 (x:qF):((x.Rows.length:Int)==0)=decide (x.Rows=[]):=by
 cases hx:x.Rows with
 |nil=>rfl
 |cons a l=>rw[ke (by simp)];rw[kC];simp;omega
def PN {α:Type} (f:Nat->α) (z:α) (N x:Nat):List α:=(List.range N).map (λi=>if i<x then f i else z)
theorem qF0 {α:Type} (f:Nat->α) (z:α) (N x:Nat):(PN f z N x).length=N:=by simp[PN]
theorem qNN {α:Type} (f:Nat->α) (z:α) (N:Nat):PN f z N 0=List.replicate N z:=by
 refine dw (by simp[PN]) λi h1 h2=>?_;simp[PN]
theorem qPf {α:Type} (f:Nat->α) (z:α) (N:Nat):PN f z N N=(List.range N).map f:=by
 refine dw (by simp[PN]) λi h1 h2=>?_;simp only[PN,kP,uc] at h1;simp only[PN,List.getElem_map,List.getElem_range,if_pos h1]
theorem partF_set {α:Type} (f:Nat->α) (z:α) (N x:Nat):(PN f z N x).set x (f x)=PN f z N (x+1):=by
 refine dw (by simp[PN]) λi h1 h2=>?_;by_cases h:i=x
 ·subst h;simp[PN]
 ·rw[List.getElem_set_ne (by omega)];simp only[PN,List.getElem_map,List.getElem_range];by_cases h3:i<x
  ·rw[if_pos h3,if_pos (by omega)]
  ·rw[if_neg h3,if_neg (by omega)]
theorem qPN {α ρ:Type} (N:Nat) (L:Nat->List α->Int->Option (ρ⊕List α)) (err:Nat->Option ρ) (f:Nat->α) (z:α) (hN:N<=1000000000)
  (h0:∀n x l,x<N->l.length=N->L (n+1) l (x:Int)=match err x with|some e=>some (.inl e)|none=>L n (l.set x (f x)) ((x+1:Nat):Int))
  (h1:∀n l,l.length=N->L (n+1) l (N:Int)=some (.inr l)):
  L FUEL (List.replicate N z) 0=some (Sum.elim Sum.inl (λ_=>Sum.inr ((List.range N).map f)) (findN err 0 N)):=by
 have h:=AB N L (qD3 err (λx=>PN f z N (x+1))) (λr=>r) (λx l=>l=PN f z N x) (λn x l hx hi=>by
   subst hi;have e:=h0 n x _ hx (qF0 f z N x);unfold qD3;cases he:err x with
   |some q=>rw[he] at e;exact e
   |none=>rw[he] at e;simp only[partF_set] at e;exact⟨e,rfl⟩)
  (λn l hi=>h1 n l (by rw[hi,qF0])) FUEL 0 (PN f z N 0) (by rw[FUEL_eq];omega) (by omega) rfl
 rw[qNN,qHE,kO] at h;rw[show((0:Nat):Int)=0 from rfl] at h;rw[h];cases findN err 0 N with
 |inl e=>rfl
 |inr u=>
  simp only[Sum.elim_inr];by_cases hn:N=0
  ·subst hn;rfl
  ·rw[if_neg hn,show 0+N-1+1=N by omega,qPf]
theorem qYm (s:Scan) (l m:Int):qBx s l m=some (BX s l m):=by
 unfold qBx BX;rw[qSR];simp only[kg];by_cases hc:¬DN s=0
 ·rw[show(DN s !=0)=true from ua.2 hc,if_pos hc];rfl
 have hc:DN s=0:=Classical.not_not.1 hc;rw[hc,if_neg (by simp)];simp only[kA,kr];have v:=(qHy s).1 hc;have v2:=v.two;have v24:=v.many;rw[qBz (by omega) (by omega)];have L1:=qPN s.Rings.length (GB s l m) (er1 s l m) (λi=>(secI s l m i).1) (qF.mk 0 ([]:List Span)) (by omega) (λn x t hx ht=>by
  rw[GB,ka (by omega),qJ (by omega)];simp only[kp,ko];rw[(qVR (s.Rings.getD x daa) (v.good x hx) l m).1];simp only[kg];unfold er1 secI rgs;by_cases he:(secR (s.Rings.getD x daa) l m).2=0
  ·rw[he,if_neg (by simp),qJ (by omega),qM (by omega)];rfl
  ·rw[if_pos he,show((secR (s.Rings.getD x daa) l m).2 !=0)=true from ua.2 he];rfl) (λn t ht=>by
  rw[GB,ke (by omega)];rfl)
 rw[ko,L1];simp only[kp,kg];cases findN (er1 s l m) 0 s.Rings.length with
 |inl e=>rfl
 |inr u=>
  simp only[Sum.elim_inr];rw[qD (by omega),show(s.Rings.length:Int)-1=((s.Rings.length-1:Nat):Int) by omega,qBz (by omega) (by omega),ko];have L2:=qPN (s.Rings.length-1) (GE s ((List.range s.Rings.length).map λi=>(secI s l m i).1)) (er2 s l m) (slI s l m) (qB.mk 0 (qF.mk 0 ([]:List Span))) (by omega) (λn x t hx ht=>by
   have gm:∀j,j<s.Rings.length->((List.range s.Rings.length).map λi=>(secI s l m i).1).getD j daa=(secI s l m j).1:=λj hj=>by
    rw[ki,kI,gY hj];rfl
   have hl:((List.range s.Rings.length).map λi=>(secI s l m i).1).length=s.Rings.length:=by simp
   rw[GE,qD (n:=(s.Rings.length:Int)-1) (by omega),show(s.Rings.length:Int)-1=((s.Rings.length-1:Nat):Int) by omega,ko,ka (by omega),hl,qM (show x<4611686018427387904 by omega),qJ (by omega),qJ (i:=((x+1:Nat):Int)) (by omega)];simp only[kp,ko];rw[gm x (by omega),gm (x+1) (by omega),(qUw s l m x).1];simp only[kg];rw[rows0];unfold er2;by_cases he:(qAE s l m x).Rows=[]
   ·rw[ka he,if_pos he];rfl
   ·rw[ke he,if_neg he,qJ (by omega)];have g1:=(v.good x (by omega)).z0;have g2:=(v.good x (by omega)).z1;have g3:=(v.good (x+1) (by omega)).z0;have g4:=(v.good (x+1) (by omega)).z1;rw[show(s.Rings.getD (x+1) daa).Z=(rgs s (x+1)).Z from rfl,show(s.Rings.getD x daa).Z=(rgs s x).Z from rfl,qD (by omega)];rfl) (λn t ht=>by
   rw[GE,qD (n:=(s.Rings.length:Int)-1) (by omega),show(s.Rings.length:Int)-1=((s.Rings.length-1:Nat):Int) by omega,ko,ke (by omega)];rfl)
  rw[L2];simp only[kp,kg];cases findN (er2 s l m) 0 (s.Rings.length-1) with
  |inl e=>rfl
  |inr u=>rfl
noncomputable def erB (s:Scan) (l m:Int) (i:Nat):Option (List qB×Int):=if(secI s l m i).2≠0 then some ([],30) else if 0<i/\(qAE s l m (i-1)).Rows=[] then some ([],30) else none
noncomputable def gB (s:Scan) (l m:Int) (x:Nat):List qB×Int×List Span:=((List.range x).map (slI s l m),(secI s l m x).1.Low,(secI s l m x).1.Rows)
theorem findN_two {ε:Type} (E:ε) {bad:Nat->Option ε} (h:∀i,bad i=none\/bad i=some E) (N:Nat):(findN bad 0 N= .inr ()/\∀i,i<N->bad i=none)\/(findN bad 0 N= .inl E/\∃i,i<N/\bad i≠none):=by
 cases hf:findN bad 0 N with
 |inl e=>
  obtain⟨i,_,hi,he,_⟩:=WK hf;rcases h i with q|q
  ·rw[q] at he;cases he
  ·rw[q] at he;cases he;exact .inr ⟨rfl,i,by omega,by rw[q];simp⟩
 |inr u=>exact .inl ⟨rfl,λi hi=>KS.1 hf i (by omega) (by omega)⟩
theorem qX3 (s:Scan) (l m:Int) (h2:2<=s.Rings.length):(match findN (erB s l m) 0 s.Rings.length with| .inl e=>e| .inr _=>((List.range (s.Rings.length-1)).map (slI s l m),(0:Int)))=(match findN (er1 s l m) 0 s.Rings.length with
  | .inl e=>e
  | .inr _=>match findN (er2 s l m) 0 (s.Rings.length-1) with
   | .inl e=>e
   | .inr _=>((List.range (s.Rings.length-1)).map (slI s l m),0)):=by
 have b1:∀i,er1 s l m i=none\/er1 s l m i=some ([],30):=λi=>by unfold er1;split<;>simp
 have b2:∀i,er2 s l m i=none\/er2 s l m i=some ([],30):=λi=>by unfold er2;split<;>simp
 have b3:∀i,erB s l m i=none\/erB s l m i=some ([],30):=λi=>by
  unfold erB;split
  ·exact .inr rfl
  ·split
   ·exact .inr rfl
   ·exact .inl rfl
 have n1:∀i,er1 s l m i=none↔(secI s l m i).2=0:=λi=>by unfold er1;by_cases h:(secI s l m i).2=0<;>simp[h]
 have n2:∀i,er2 s l m i=none↔¬(qAE s l m i).Rows=[]:=λi=>by unfold er2;by_cases h:(qAE s l m i).Rows=[]<;>simp[h]
 have n3:∀i,erB s l m i=none↔(secI s l m i).2=0/\(0<i->¬(qAE s l m (i-1)).Rows=[]):=λi=>by
  unfold erB;by_cases h:(secI s l m i).2=0
  ·by_cases h':0<i/\(qAE s l m (i-1)).Rows=[]
   ·simp[h,h']
   ·rw[if_neg (by simpa using h),if_neg h'];simp only[true_iff];exact⟨h,λq r=>h' ⟨q,r⟩⟩
  ·simp[h]
 rcases findN_two _ b3 s.Rings.length with⟨e3,a3⟩|⟨e3,i,hi,a3⟩
 ·rcases findN_two _ b1 s.Rings.length with⟨e1,a1⟩|⟨e1,j,hj,a1⟩
  ·rcases findN_two _ b2 (s.Rings.length-1) with⟨e2,a2⟩|⟨e2,j,hj,a2⟩
   ·rw[e3,e1];simp only[e2]
   ·exact absurd ((n2 j).2 (((n3 (j+1)).1 (a3 (j+1) (by omega))).2 (by omega))) a2
  ·exact absurd ((n1 j).2 ((n3 j).1 (a3 j hj)).1) a1
 ·rcases findN_two _ b1 s.Rings.length with⟨e1,a1⟩|⟨e1,j,hj,a1⟩
  ·rcases findN_two _ b2 (s.Rings.length-1) with⟨e2,a2⟩|⟨e2,j,hj,a2⟩
   ·exact absurd ((n3 i).2 ⟨(n1 i).1 (a1 i hi),λh0=>(n2 (i-1)).1 (a2 (i-1) (by omega))⟩) a3
   ·rw[e3,e1];simp only[e2]
  ·rw[e3,e1]
theorem qWK (s:Scan) (l m:Int):qCY s l m=some (BX s l m):=by
 unfold qCY BX;rw[qPj];simp only[kg];by_cases hc:¬DN s=0
 ·rw[show(DN s !=0)=true from ua.2 hc,if_pos hc];rfl
 have hc:DN s=0:=Classical.not_not.1 hc;rw[hc,if_neg (by simp)];simp only[kA,kr];have v:=(qHy s).1 hc;have v2:=v.two;have v24:=v.many;have L:=AB s.Rings.length (λn (t:List qB×Int×List Span) i=>jT s l m n t.1 i t.2.1 t.2.2) (qD3 (erB s l m) (gB s l m)) (λr=>Sum.map id (·.1) r) (λx t=>(x=0/\t=([],0,[]))\/(0<x/\t=gB s l m (x-1))) (λn x t hx hi=>by
   have e:jT s l m (n+1) t.1 (x:Int) t.2.1 t.2.2=match erB s l m x with|some e=>some (.inl e)|none=>jT s l m n (gB s l m x).1 ((x+1:Nat):Int) (gB s l m x).2.1 (gB s l m x).2.2:=by
    rw[jT,ka (by omega),qJ (by omega)];simp only[kp,ko];rw[(qVR (s.Rings.getD x daa) (v.good x hx) l m).2];simp only[kg,IB,qM (show x<4611686018427387904 by omega)];unfold erB;rw[show secI s l m x=secR (s.Rings.getD x daa) l m from rfl];by_cases he:(secR (s.Rings.getD x daa) l m).2=0
    ·rw[he,if_neg (by simp),show(!((0:Int)==0))=false from rfl];simp only[kr];rcases hi with⟨h0,ht⟩|⟨h0,ht⟩
     ·subst h0;subst ht;rw[ke (by omega),if_neg (by omega)];rfl
     ·subst ht;obtain⟨y,rfl⟩:∃y,x=y+1:=⟨x-1,by omega⟩
      rw[ka (by omega)];simp only[kad];have me:=(qUw s l m y).2;rw[show FV (qF.mk (gB s l m y).2.1 (gB s l m y).2.2) (qF.mk (secR (s.Rings.getD (y+1) daa) l m).1.Low (secR (s.Rings.getD (y+1) daa) l m).1.Rows)=FV (secI s l m y).1 (secI s l m (y+1)).1 from rfl,me];simp only[kp,kg];rw[rows0];by_cases hm:(qAE s l m y).Rows=[]
      ·rw[ka hm,if_pos ⟨by omega,hm⟩];rfl
      ·rw[ke hm,if_neg (λq=>hm q.2)];have hl:(gB s l m y).1.length=y:=by simp[gB]
       rw[hl,show w64 (((y+1:Nat):Int)-1)=(y:Int) by rw[qD (by omega)];omega,qJ (by omega),QG (by omega)];have g1:=(v.good y (by omega)).z0;have g2:=(v.good y (by omega)).z1;have g3:=(v.good (y+1) (by omega)).z0;have g4:=(v.good (y+1) (by omega)).z1;rw[ko,show(s.Rings.getD (y+1) daa).Z=(rgs s (y+1)).Z from rfl,show(s.Rings.getD y daa).Z=(rgs s y).Z from rfl,qD (by omega)];simp only[kp,kr];rw[show(gB s l m y).1++[qB.mk ((rgs s (y+1)).Z-(rgs s y).Z) (qAE s l m y)]=(gB s l m (y+1)).1 by
        simp only[gB,ul,kU,ut,dI];rfl]
       rfl
    ·rw[if_pos he,show(!((secR (s.Rings.getD x daa) l m).2==0))=true by rw[uF,kC];exact he];rfl
   unfold qD3;cases he:erB s l m x with
   |some q=>rw[he] at e;exact e
   |none=>rw[he] at e;exact⟨e,.inr ⟨by omega,by rw[kad]⟩⟩)
  (λn t _=>by show jT s l m (n+1) t.1 _ t.2.1 t.2.2=_;rw[jT,ke (by omega)];rfl) FUEL 0 ([],0,[]) (by rw[FUEL_eq];omega) (by omega) (.inl ⟨rfl,rfl⟩)
 rw[qHE,if_neg (show¬s.Rings.length-0=0 by omega),show 0+(s.Rings.length-0)-1=s.Rings.length-1 by omega,kO] at L;have L':jT s l m FUEL [] 0 0 []=some (Sum.map id (·.1) (Sum.elim Sum.inl (λ_=>Sum.inr (gB s l m (s.Rings.length-1))) (findN (erB s l m) 0 s.Rings.length))):=L;rw[L'];refine Eq.trans ?_ (congrArg some (qX3 s l m v2));simp only[kg];cases findN (erB s l m) 0 s.Rings.length with
 |inl e=>rfl
 |inr u=>rfl
structure CP (s:Scan):Prop where
 r:s.Rings.length<=1000000
 d:s.Defects.length<=1000000
 p:∀i,i<s.Rings.length->(rgs s i).Read.length<=1000000
end Saw
end Go.SL

/- The ring laws' plain mathematics, part 5: repairing. -/
import Derived.Test.YtigmogcdifllhaaGreatDoorEMa10
import Derived.Test.YtigmogcdifllhaaGreatDoorEMa3
set_option linter.unusedVariables false
set_option linter.unusedSimpArgs false
set_option linter.unusedSectionVars false
namespace Go.SL
namespace Saw
theorem qI6 (a b:Int) (hb:0<b):Int.tmod a b+b*Int.tdiv a b=a/\Int.tmod a b<b/\-b<Int.tmod a b/\(Int.tdiv a b).natAbs<=a.natAbs:=by
 refine⟨Int.tmod_add_mul_tdiv a b,gp a hb,?_,?_⟩
 ·rcases gX 0 a with h|h
  ·have:=Int.tmod_nonneg b h;omega
  ·have h3:=gp (-a) hb;rw[Int.neg_tmod] at h3;omega
 ·rw[Int.natAbs_tdiv];exact Nat.div_le_self _ _
theorem qDY {a b q r:Int} (hb:0<b) (h:r+b*q=a) (h0:0<=r) (h1:r<b):a/b=q:=(Int.ediv_emod_unique hb).2 ⟨h,h0,h1⟩|>.1
theorem qL7 (a b:Int) (hb:0<b) (h1: -4611686018427387904<=a) (h2:a<=4611686018427387904):HA a b=some (a/b):=by
 obtain⟨e,l,g,n⟩:=qI6 a b hb;unfold HA AG;rw[VF (by omega),zB (n:=Int.tdiv a b) (by omega) (by omega)];by_cases h:Int.tmod a b<0
 ·rw[kf h,zB (by omega) (by omega)];have:a/b=Int.tdiv a b-1:=qDY hb (r:=Int.tmod a b+b) (by rw[gF,Int.mul_one];omega) (by omega) (by omega);rw[this];rfl
 ·rw[ko h];have:a/b=Int.tdiv a b:=qDY hb (r:=Int.tmod a b) e (by omega) l;rw[this];rfl
theorem qFm (a b:Int) (hb:0<b) (h3:b<=4611686018427387904) (h1: -4611686018427387904<=a) (h2:a<=4611686018427387904):qCg a b=some (a/b):=by
 obtain⟨e,l,g,n⟩:=qI6 a b hb;have hc:Int.tdiv a b*b=b*Int.tdiv a b:=Int.mul_comm _ _;unfold qCg qA5;rw[VF (by omega),zB (n:=Int.tdiv a b) (by omega) (by omega),zB (n:=Int.tdiv a b*b) (by omega) (by omega)];by_cases h:Int.tmod a b<0
 ·rw[kf (by omega),zB (by omega) (by omega)];have:a/b=Int.tdiv a b-1:=qDY hb (r:=Int.tmod a b+b) (by rw[gF,Int.mul_one];omega) (by omega) (by omega);rw[this];rfl
 ·rw[ko (by omega)];have:a/b=Int.tdiv a b:=qDY hb (r:=Int.tmod a b) e (by omega) l;rw[this];rfl
def BH (x y:Int) (j g:Nat):Int:=x+(y-x)*(j:Int)/((g+1:Nat):Int)
theorem qMe (x y:Int) (g:Nat):BH x y 0 g=x:=by simp[BH]
theorem qLX {d:Int} (j g:Nat) (hj:j<=g+1) (hd:0<=d):0<=d*(j:Int)/\d*(j:Int)<=d*((g+1:Nat):Int):=
 ⟨kA hd (by omega),Int.mul_le_mul_of_nonneg_left (by omega) hd⟩
theorem qQ6 (x y:Int) (j g:Nat) (hj:j<=g+1):(x<=y->x<=BH x y j g/\BH x y j g<=y)/\(y<=x->y<=BH x y j g/\BH x y j g<=x):=by
 have hp:(0:Int)<((g+1:Nat):Int):=by omega
 unfold BH;constructor
 ·intro h;obtain⟨h1,h2⟩:=qLX j g hj (show 0<=y-x by omega);have h3:=Int.ediv_nonneg h1 (gZ hp);have h4:=Int.ediv_le_ediv hp h2;rw[Int.mul_ediv_cancel _ (by omega)] at h4;omega
 ·intro h;obtain⟨h1,h2⟩:=qLX j g hj (show 0<=x-y by omega);have e:(y-x)*(j:Int)= -((x-y)*(j:Int)):=by rw[<-Int.neg_mul];congr 1;omega
  rw[e];have h3: -((x-y)*(j:Int))/((g+1:Nat):Int)<=0/((g+1:Nat):Int):=Int.ediv_le_ediv hp (by omega);have h4: -((x-y)*((g+1:Nat):Int))/((g+1:Nat):Int)<=-((x-y)*(j:Int))/((g+1:Nat):Int):=Int.ediv_le_ediv hp (by omega);rw[<-Int.neg_mul,Int.mul_ediv_cancel _ (by omega)] at h4;rw[Int.zero_ediv] at h3;omega
def rg_val (a:Ring) (k d:Nat):qA:=⟨BH (rg_Pt a (rg_Mi a k)).X (rg_Pt a (rg_nb a k 1)).X d (rg_gap a k),BH (rg_Pt a (rg_Mi a k)).Y (rg_Pt a (rg_nb a k 1)).Y d (rg_gap a k)⟩
theorem qL4 (a:Ring) (k:Nat):rg_val a k 0=rg_Pt a (rg_Mi a k):=by unfold rg_val;rw[qMe,qMe]
theorem qBX {a:Ring} (g:QW a) (i:Nat):RB (rg_Pt a i):=by
 unfold rg_Pt;by_cases h:i<a.Read.length
 ·refine(qDb (g.all _ ?_)).1;rw[ka,kq h];exact uu h
 ·rw[ka,List.getElem?_eq_none (by omega)];exact⟨by decide,by decide,by decide,by decide⟩
theorem qB5 (x y:Int) (j g:Nat) (hx: -600<=x) (hx':x<=600) (hy: -600<=y) (hy':y<=600) (hj:j<=g+1) (hg:g<=100):
  w64 (w64 (y-x)*(j:Int))=(y-x)*(j:Int)/\w64 (x+(y-x)*(j:Int)/((g+1:Nat):Int))=BH x y j g/\-4611686018427387904<=(y-x)*(j:Int)/\(y-x)*(j:Int)<=4611686018427387904:=by
 have hb:=qQ6 x y j g hj;have hm:w64 (x+(y-x)*(j:Int)/((g+1:Nat):Int))=BH x y j g:=by
  show w64 (BH x y j g)=_;rcases gX x y with h|h
  ·have:=hb.1 h;exact zB (by omega) (by omega)
  ·have:=hb.2 h;exact zB (by omega) (by omega)
 have hr: -1300000<=(y-x)*(j:Int)/\(y-x)*(j:Int)<=1300000:=by
  have h1:(y-x)*(j:Int)<=1200*(j:Int):=Int.mul_le_mul_of_nonneg_right (by omega) (by omega);have h2:(-1200)*(j:Int)<=(y-x)*(j:Int):=Int.mul_le_mul_of_nonneg_right (by omega) (by omega);omega
 refine⟨?_,hm,by omega,by omega⟩;rw[zB (n:=y-x) (by omega) (by omega),zB (by omega) (by omega)]
section
variable (a :Ring) (g:QW a)
include g
theorem qFs {k:Nat} (hk:k<(rg_meas a).length):∀(n x:Nat) (l:List qA),rg_gap a k+1<x+n->1<=x->x<=rg_gap a k+1->l.length=a.Read.length->
  ∃r,KX a (jV (rg_meas a)) (k:Int) ((rg_gap a k:Nat):Int) n l (x:Int)=some r/\r.length=a.Read.length/\
   (∀q,(∀d,x<=d->d<=rg_gap a k->q≠(rg_Mi a k+d) % a.Read.length)->r.getD q dd=l.getD q dd)/\(∀d,x<=d->d<=rg_gap a k->r.getD ((rg_Mi a k+d) % a.Read.length) dd=rg_val a k d)
 |0,x,l,h1,h2,h3,h4=>by omega
 |n+1,x,l,h1,h2,h3,h4=>by
  have hn:=g.hi;have hlo:=g.lo;have hg:=XB hk;have h0:=zW hk;have hml:=KK a;unfold KX;by_cases hx:x<=rg_gap a k
  ·have hlt:(rg_Mi a k+x) % a.Read.length<a.Read.length:=kJ _ (by omega);have hk1:(k+1) % (rg_meas a).length<(rg_meas a).length:=kJ _ (by omega);have hp:=qBX g (rg_Mi a k);have hq:=qBX g (rg_nb a k 1);obtain⟨e1,e2,e3,e4⟩:=qB5 (rg_Pt a (rg_Mi a k)).X (rg_Pt a (rg_nb a k 1)).X x (rg_gap a k) hp.1 hp.2.1 hq.1 hq.2.1 (by omega) (by omega);obtain⟨f1,f2,f3,f4⟩:=qB5 (rg_Pt a (rg_Mi a k)).Y (rg_Pt a (rg_nb a k 1)).Y x (rg_gap a k) hp.2.2.1 hp.2.2.2 hq.2.2.1 hq.2.2.2 (by omega) (by omega);have c1:decide ((x:Int)<=((rg_gap a k:Nat):Int))=true:=kf (by omega)
   have w1:w64 (((rg_gap a k:Nat):Int)+1)=((rg_gap a k+1:Nat):Int):=wX _ (by omega);have w2:w64 (((rg_Mi a k:Nat):Int)+(x:Int))=((rg_Mi a k+x:Nat):Int):=by rw[zB (by omega) (by omega)];omega
   rw[c1,h4,VF (by omega),WH,wX k (by omega),yP];simp only[kp,ki,GE];rw[show(rg_meas a).getD ((k+1) % (rg_meas a).length) 0=rg_nb a k 1 from rfl,show(rg_meas a).getD k 0=rg_Mi a k from rfl];rw[show(a.Read.getD (rg_Mi a k) dd).P=rg_Pt a (rg_Mi a k) from rfl,show(a.Read.getD (rg_nb a k 1) dd).P=rg_Pt a (rg_nb a k 1) from rfl,w1,w2,yP,e1,f1,qL7 _ _ (by omega) e3 e4,qL7 _ _ (by omega) f3 f4,zS (show 0<=(((rg_Mi a k+x) % a.Read.length:Nat):Int) by omega) (by omega)];simp only[kd,kp,e2,f2,ki,wX x (by omega)]
   obtain⟨r,hr,r1,r2,r3⟩:=qFs hk n (x+1) (l.set ((rg_Mi a k+x) % a.Read.length) (rg_val a k x)) (by omega) (by omega) (by omega) (by rw[ga];exact h4);refine⟨r,hr,r1,λq hq=>?_,λd hd1 hd2=>?_⟩
   ·rw[r2 q (λd hd=>hq d (by omega)),YA _ (λh=>hq x (ke _) hx h.symm)]
   ·by_cases he:d=x
    ·subst he;rw[r2 _ (λe he1 he2 hc=>?_),KY _ (by omega)]
     -- two places of one rg_gap differ
     have hM:=h0.1;rcases uH (rg_Mi a k+d) a.Read.length with u|u<;>rcases uH (rg_Mi a k+e) a.Read.length with v|v
     ·rw[zQ u,zQ v] at hc;omega
     ·rw[zQ u,QD v (by omega)] at hc;omega
     ·omega
     ·rw[QD u (by omega),QD v (by omega)] at hc;omega
    ·exact r3 d (by omega) hd2
  ·have c1:decide ((x:Int)<=((rg_gap a k:Nat):Int))=false:=ko (by omega);rw[c1];exact⟨l,rfl,h4,λ_ _=>rfl,λd h1 h2=>by omega⟩
theorem qKh {k d k' d':Nat} (hk:k<(rg_meas a).length) (hk':k'<(rg_meas a).length) (hd:d<=rg_gap a k) (hd':d'<=rg_gap a k') (h:(rg_Mi a k+d) % a.Read.length=(rg_Mi a k'+d') % a.Read.length):k=k'/\d=d':=by
 have key:∀{k d k' d':Nat},k<(rg_meas a).length->k'<(rg_meas a).length->d<=rg_gap a k->d'<=rg_gap a k'->d<=d'->(rg_Mi a k+d) % a.Read.length=(rg_Mi a k'+d') % a.Read.length->k=k'/\d=d':=by
  intro k d k' d' hk hk' hd hd' hdd h;have h0:=zW hk;have h1:=zW hk';have g0:=XB hk;have g1:=XB hk';have hc:(rg_Mi a k'+(d'-d)) % a.Read.length=rg_Mi a k:=by
   have hM:=h0.1;have hM':=h1.1;rcases uH (rg_Mi a k'+(d'-d)) a.Read.length with w|w
   ·rw[zQ w];rcases uH (rg_Mi a k+d) a.Read.length with u|u<;>rcases uH (rg_Mi a k'+d') a.Read.length with v|v
    ·rw[zQ u,zQ v] at h;omega
    ·rw[zQ u,QD v (by omega)] at h;omega
    ·rw[QD u (by omega),zQ v] at h;omega
    ·rw[QD u (by omega),QD v (by omega)] at h;omega
   ·rw[QD w (by omega)];rcases uH (rg_Mi a k+d) a.Read.length with u|u<;>rcases uH (rg_Mi a k'+d') a.Read.length with v|v
    ·rw[zQ u,zQ v] at h;omega
    ·rw[zQ u,QD v (by omega)] at h;omega
    ·rw[QD u (by omega),zQ v] at h;omega
    ·rw[QD u (by omega),QD v (by omega)] at h;omega
  by_cases hz:d'-d=0
  ·rw[hz,kY,zQ h1.1] at hc;exact⟨(qRl hk' hk hc).symm,by omega⟩
  ·have:=DS hk' (show 1<=d'-d by omega) (by omega);rw[hc,h0.2] at this;cases this
 rcases Nat.le_total d d' with hle|hle
 ·exact key hk hk' hd hd' hle h
 ·have:=key hk' hk hd' hd hle h.symm;exact⟨this.1.symm,this.2.symm⟩
theorem qGa :∀(n x:Nat) (l:List qA),(rg_meas a).length<x+n->x<=(rg_meas a).length->l.length=a.Read.length->(∀k d,k<x->d<=rg_gap a k->l.getD ((rg_Mi a k+d) % a.Read.length) dd=rg_val a k d)->
  ∃r,JT a (jV (rg_meas a)) n l (x:Int)=some r/\r.length=a.Read.length/\∀k d,k<(rg_meas a).length->d<=rg_gap a k->r.getD ((rg_Mi a k+d) % a.Read.length) dd=rg_val a k d
 |0,x,l,h1,h2,_,_=>by omega
 |n+1,x,l,h1,h2,h3,h4=>by
  have hn:=g.hi;have hml:=KK a;unfold JT;by_cases hx:x<(rg_meas a).length
  ·have h0:=zW hx;have hg:=XB hx;have hk1:(x+1) % (rg_meas a).length<(rg_meas a).length:=kJ _ (by omega);have h5:=zW hk1;rw[WH,PJ hx,zS (by omega) (by omega),VF (by omega),wX x (by omega),yP,zS (n:=(rg_meas a).length) (show 0<=(((x+1) % (rg_meas a).length:Nat):Int) by omega) (by omega)];simp only[kp,ki,GE]
   rw[show(rg_meas a).getD ((x+1) % (rg_meas a).length) 0=rg_Mi a ((x+1) % (rg_meas a).length) from rfl,show(rg_meas a).getD x 0=rg_Mi a x from rfl,h3,zS (show 0<=((rg_Mi a x:Nat):Int) by omega) (by omega),zS (show 0<=((rg_Mi a ((x+1) % (rg_meas a).length):Nat):Int) by omega) (by omega),qJ0 a (by omega) hx];simp only[kp,ki,kd];obtain⟨r,hr,r1,r2,r3⟩:=qFs a g hx FUEL 1 (l.set (rg_Mi a x) (rg_Pt a (rg_Mi a x))) (by rw[wO];omega) (by omega) (by omega) (by rw[ga];exact h3)
   have hr':KX a (jV (rg_meas a)) (x:Int) ((rg_gap a x:Nat):Int) FUEL (l.set (rg_Mi a x) ((a.Read.getD (rg_Mi a x) dd).P)) 1=some r:=hr;rw[hr'];refine qGa n (x+1) r (by omega) (by omega) r1 (λk d hk hd=>?_);have hkm:k<(rg_meas a).length:=by omega
   by_cases he:k=x
   ·subst he;by_cases hz:d=0
    ·subst hz;have hne:∀e,1<=e->e<=rg_gap a k->rg_Mi a k≠(rg_Mi a k+e) % a.Read.length:=λe h1 h2 hc=>by
      have:=DS hkm h1 h2;rw[<-hc,h0.2] at this;cases this
     rw[kY,zQ h0.1,r2 _ hne,KY _ (by omega),qL4]
    ·exact r3 d (by omega) hd
   ·rw[r2 _ (λe h1 h2 hc=>he (qKh a g hkm hx hd h2 hc).1),YA _ (λhc=>?_),h4 k d (by omega) hd];refine he (qKh a g hkm hx hd (kv _) ?_).1;rw[kY,zQ h0.1];exact hc.symm
  ·rw[WH,PK hx];exact⟨l,rfl,h3,λk d hk=>h4 k d (by omega)⟩
theorem qL1 (hm:1<=(rg_meas a).length) {q:Nat} (hq:q<a.Read.length):∃k d,k<(rg_meas a).length/\d<=rg_gap a k/\(rg_Mi a k+d) % a.Read.length=q/\(d=0↔rg_okAt a q=true):=by
 cases ho:rg_okAt a q with
 |true=>
  obtain⟨k,hk,e⟩:=EW hq ho;exact⟨k,0,hk,kv _,by rw[kY,e,zQ hq],by simp⟩
 |false=>
  obtain⟨k,d,hk,h1,h2,h3⟩:=qRx hm hq ho;exact⟨k,d,hk,h2,h3,by simp;omega⟩
theorem qTb (hm:2<=(rg_meas a).length) {k:Nat} (hk:k<(rg_meas a).length):rg_gap a k+1<a.Read.length:=by
 have h0:=zW hk;unfold rg_gap;split
 ·rename_i h;have h1:=zW h;have:=ON (a:=a) (show k<k+1 by omega) h;omega
 ·have:=ON (a:=a) (show 0<k by omega) hk;omega
theorem qCR (r:List qA) (hr1:r.length=a.Read.length) (hm:2<=(rg_meas a).length) (hr:∀k d,k<(rg_meas a).length->d<=rg_gap a k->r.getD ((rg_Mi a k+d) % a.Read.length) dd=rg_val a k d):
  ∀(n x:Nat),a.Read.length<x+n->x<=a.Read.length->WU a n (r.take x) (x:Int)=some r
 |0,x,h1,h2=>by omega
 |n+1,x,h1,h2=>by
  have hn:=g.hi;have hlo:=g.lo;unfold WU;by_cases hx:x<a.Read.length
  ·have hlen:(r.take x).length=x:=by rw[ub];omega
   have htk:r.take (x+1)=r.take x++[r.getD x dd]:=by
    rw[gH,kq (by omega),ka,kq (by omega)];rfl
   obtain⟨k,d,hk,hd,hq,hz⟩:=qL1 a g (by omega) hx;have h0:=zW hk;have hg:=XB hk;have ih:=qCR r hr1 hm hr n (x+1) (by omega) (by omega);rw[PJ hx,zS (by omega) (by omega),hlen,qFS (by omega)];simp only[kp,ki,qAl,wX x (by omega)];rw[show(a.Read.getD x dd).Ok=rg_okAt a x from rfl];have hv:=hr k d hk hd;rw[hq] at hv;rw[htk,hv] at ih;cases ho:rg_okAt a x with
   |true=>
    have hd0:=hz.2 ho;subst hd0;rw[qL4] at ih;rw[kY,zQ h0.1] at hq;subst hq;exact ih
   |false=>
    have hd0:1<=d:=by
     rcases gW d with h|h
     ·rw[hz.1 h] at ho;cases ho
     ·exact h
    have hk1:(k+1) % (rg_meas a).length<(rg_meas a).length:=kJ _ (by omega);have h5:=zW hk1;have hup:=qPh a (by omega) hk hd;have hdn:=qPe a (by omega) hk hd0 (by omega);rw[hq] at hup hdn;rw[hup,hdn];have hM:=h0.1;have g3:=qTb a g hm hk;have q1:Int.tmod (w64 (w64 ((x:Int)-((rg_Mi a k:Nat):Int))+(a.Read.length:Int))) (a.Read.length:Int)=(d:Int):=by
     rw[zB (n:=(x:Int)-_) (by omega) (by omega),zB (by omega) (by omega)];rcases uH (rg_Mi a k+d) a.Read.length with u|u
     ·rw[zQ u] at hq;rw[show(x:Int)-((rg_Mi a k:Nat):Int)+(a.Read.length:Int)=((d+a.Read.length:Nat):Int) by omega,yP,uB,zQ (by omega)]
     ·rw[QD u (by omega)] at hq;rw[show(x:Int)-((rg_Mi a k:Nat):Int)+(a.Read.length:Int)=((d:Nat):Int) by omega,yP,zQ (by omega)]
    have hgn:=ER hk;have q2:Int.tmod (w64 (w64 (((rg_Mi a ((k+1) % (rg_meas a).length):Nat):Int)-((rg_Mi a k:Nat):Int))+(a.Read.length:Int))) (a.Read.length:Int)=((rg_gap a k+1:Nat):Int):=by
     rw[zB (n:=_-_) (by omega) (by omega),zB (by omega) (by omega)];rcases uH (rg_Mi a k+(rg_gap a k+1)) a.Read.length with u|u
     ·rw[zQ u] at hgn;rw[show((rg_Mi a ((k+1) % (rg_meas a).length):Nat):Int)-((rg_Mi a k:Nat):Int)+(a.Read.length:Int)=((rg_gap a k+1+a.Read.length:Nat):Int) by omega,yP,uB,zQ (by omega)]
     ·rw[QD u (by omega)] at hgn;rw[show((rg_Mi a ((k+1) % (rg_meas a).length):Nat):Int)-((rg_Mi a k:Nat):Int)+(a.Read.length:Int)=((rg_gap a k+1:Nat):Int) by omega,yP,zQ (by omega)]
    have hp:=qBX g (rg_Mi a k);have hqq:=qBX g (rg_nb a k 1);obtain⟨e1,e2,e3,e4⟩:=qB5 (rg_Pt a (rg_Mi a k)).X (rg_Pt a (rg_nb a k 1)).X d (rg_gap a k) hp.1 hp.2.1 hqq.1 hqq.2.1 (by omega) (by omega);obtain⟨f1,f2,f3,f4⟩:=qB5 (rg_Pt a (rg_Mi a k)).Y (rg_Pt a (rg_nb a k 1)).Y d (rg_gap a k) hp.2.2.1 hp.2.2.2 hqq.2.2.1 hqq.2.2.2 (by omega) (by omega);simp only[ku,kd,ki];rw[VF (by omega),zS (show 0<=((rg_Mi a k:Nat):Int) by omega) (by omega),zS (show 0<=((rg_Mi a ((k+1) % (rg_meas a).length):Nat):Int) by omega) (by omega),q1,q2]
    rw[show(a.Read.getD (rg_Mi a k) dd).P=rg_Pt a (rg_Mi a k) from rfl,show(a.Read.getD (rg_Mi a ((k+1) % (rg_meas a).length)) dd).P=rg_Pt a (rg_nb a k 1) from rfl,e1,f1,qFm _ _ (by omega) (by omega) e3 e4,qFm _ _ (by omega) (by omega) f3 f4];simp only[kp,kd,e2,f2];exact ih
  ·rw[PK hx,uQ (by omega)];rfl
theorem qVy (hm:2<=(rg_meas a).length):∃r,r.length=a.Read.length/\(∀k d,k<(rg_meas a).length->d<=rg_gap a k->r.getD ((rg_Mi a k+d) % a.Read.length) dd=rg_val a k d)/\
  JT a (jV (rg_meas a)) FUEL (List.replicate ((a.Read.length:Int).toNat) (qA.mk 0 0)) 0=some r/\WU a FUEL [] 0=some r:=by
 have hn:=g.hi;have hml:=KK a;obtain⟨r,h1,h2,h3⟩:=qGa a g FUEL 0 (List.replicate ((a.Read.length:Int).toNat) (qA.mk 0 0)) (by rw[wO];omega) (by omega) (by simp) (λk d h=>by omega);refine⟨r,h2,h3,h1,?_⟩;have:=qCR a g r h2 hm h3 FUEL 0 (by rw[wO];omega) (by omega);rw[List.take_zero] at this;exact this
end
noncomputable def fill (a:Ring):List qA:=Classical.epsilon λr=>r.length=a.Read.length/\∀k d,k<(rg_meas a).length->d<=rg_gap a k->r.getD ((rg_Mi a k+d) % a.Read.length) dd=rg_val a k d
def qAD (a:Ring):Int:=match OS a with
 |some x=>x.2
 |none=>0
def rg_canFill (a:Ring) (most:Int):Bool:=!decide (((rg_meas a).length:Int)<3)&&!(decide (((a.Read.length-(rg_meas a).length:Nat):Int)>0)&&decide (qAD a>most))
theorem qP6 (a:Ring) (g:QW a) (hm:2<=(rg_meas a).length) {r:List qA} (h1:r.length=a.Read.length) (h2:∀k d,k<(rg_meas a).length->d<=rg_gap a k->r.getD ((rg_Mi a k+d) % a.Read.length) dd=rg_val a k d):r=fill a:=by
 have:=Classical.epsilon_spec (p:=λr:List qA=>r.length=a.Read.length/\∀k d,k<(rg_meas a).length->d<=rg_gap a k->r.getD ((rg_Mi a k+d) % a.Read.length) dd=rg_val a k d) ⟨r,h1,h2⟩;refine qCb (h1.trans this.1.symm) (λj hj=>?_);obtain⟨k,d,hk,hd,hq,_⟩:=qL1 a g (by omega) (show j<a.Read.length by omega);rw[<-hq,h2 k d hk hd];exact(this.2 k d hk hd).symm
theorem qEn (a:Ring) (g:QW a) (hm:2<=(rg_meas a).length):(fill a).length=a.Read.length/\(∀k d,k<(rg_meas a).length->d<=rg_gap a k->(fill a).getD ((rg_Mi a k+d) % a.Read.length) dd=rg_val a k d)/\
  JT a (jV (rg_meas a)) FUEL (List.replicate ((a.Read.length:Int).toNat) (qA.mk 0 0)) 0=some (fill a)/\WU a FUEL [] 0=some (fill a):=by
 obtain⟨r,h1,h2,h3,h4⟩:=qVy a g hm;obtain rfl:=qP6 a g hm h1 h2;exact⟨h1,h2,h3,h4⟩
theorem qQ1 (a:Ring) (g:QW a) (most:Int):EP a most=some (bif rg_canFill a most then(fill a,0) else([],30)):=by
 have hn:=g.hi;have hml:=KK a;obtain⟨L,hL,_⟩:=qEe a (by omega);unfold EP GU rg_canFill;have hlo:qAD a=(L:Int):=by unfold qAD;rw[hL]
 have hmk:mkOk (a.Read.length:Int) 16=true:=by unfold mkOk;exact kf ⟨by omega,by omega,by omega⟩
 rw[AL,(NG a).2 g,qBl a (by omega),hL,hlo,hmk];simp only[kd,kQ,ku,WH];by_cases h3:((rg_meas a).length:Int)<3
 ·rw[kf h3];rfl
 ·rw[ko h3,(qEn a g (by omega)).2.2.1];cases decide (((a.Read.length-(rg_meas a).length:Nat):Int)>0)<;>cases decide ((L:Int)>most)<;>rfl
theorem qSx (a:Ring) (g:QW a) (most:Int):qEL a most=some (bif rg_canFill a most then(fill a,0) else([],30)):=by
 have hn:=g.hi;have hml:=KK a;obtain⟨L,hL,hR⟩:=qEe a (by omega);unfold qEL NU rg_canFill;have hlo:qAD a=(L:Int):=by unfold qAD;rw[hL]
 rw[qET,(NG a).2 g,hR,hlo];simp only[kd,kQ,ku];rw[zB (by omega) (by omega),show(a.Read.length:Int)-((a.Read.length-(rg_meas a).length:Nat):Int)=((rg_meas a).length:Int) by omega];by_cases h3:((rg_meas a).length:Int)<3
 ·rw[kf h3];rfl
 ·rw[ko h3,(qEn a g (by omega)).2.2.2];cases decide (((a.Read.length-(rg_meas a).length:Nat):Int)>0)<;>cases decide ((L:Int)>most)<;>rfl
theorem qL0 (a:Ring) (r:Int):∀(m:List Nat) (l:List qO) (j:Nat),j<l.length->(m.foldl (UH a r) l).getD j dd=bif decide (j∈m)&&rg_dropB a r j then qIo else l.getD j dd
 |[],l,j,_=>by simp
 |i::m,l,j,hj=>by
  rw[uD,qL0 a r m _ j (by rw[qDR];exact hj)];unfold UH;by_cases he:i=j
  ·subst he;cases hd:rg_dropB a r i with
   |false=>simp
   |true=>rw[kp,KY _ hj];simp
  ·have hm:decide (j∈i::m)=decide (j∈m):=by simp[Ne.symm he]
   rw[hm];cases hd:rg_dropB a r i with
   |false=>rfl
   |true=>rw[kp,YA _ he]
theorem qTw {a:Ring} {r:Int} {j:Nat} (h:rg_dropB a r j=true):j∈rg_meas a:=by
 unfold rg_dropB at h;rw[gf] at h;obtain⟨k,hk,h⟩:=h;rw[kr,decide_eq_true_eq] at h;rw[<-h.1];exact uY (qJS (uC.1 hk))
def rg_cut (a:Ring) (r:Int) (j:Nat):Bool:=!decide (r<0)&&!decide (((rg_meas a).length:Int)<2)&&rg_dropB a r j
theorem qQ9 (a:Ring) (g:QW a) (r:Int) {j:Nat} (hj:j<a.Read.length):(rg_cleaned a r).Read.getD j dd=bif rg_cut a r j then qIo else a.Read.getD j dd:=by
 unfold rg_cleaned rg_cut;rw[(NG a).2 g];cases decide (r<0)<;>cases decide (((rg_meas a).length:Int)<2)<;>simp only[kp,ku,kQ,um,gL,Bool.false_and,Bool.true_and,Bool.and_false];rw[qL0 _ _ _ _ _ hj];cases hd:rg_dropB a r j with
 |false=>simp
 |true=>simp[qTw hd]
theorem qVv {l:List qO} {P:qO->Prop} (h:∀j,j<l.length->P (l.getD j dd)):∀r∈l,P r:=by
 intro r hr;obtain⟨t,ht,he⟩:=uF.1 hr;have:=h t ht
 rwa [ka,kq ht,kE,he] at this
theorem qWY {a:Ring} (g:QW a) {j:Nat} (hj:j<a.Read.length):YJ (a.Read.getD j dd)=0:=by
 refine g.all _ ?_;rw[ka,kq hj];exact uu hj
theorem qOa (a:Ring) (g:QW a) (r:Int):QW (rg_cleaned a r):=by
 have hl:=qQ7 a r;have hz:=qTd a r;refine⟨by rw[hl];exact g.lo,by rw[hl];exact g.hi,by rw[hz];exact g.z0,by rw[hz];exact g.z1,qVv λj hj=>?_⟩;rw[hl] at hj;rw[qQ9 a g r hj];cases rg_cut a r j with
 |true=>exact show YJ qIo=0 by decide
 |false=>exact qWY g hj
theorem AJ (q:Nat) (a:Ring):(WZ q a).Read.length=a.Read.length:=by simp[WZ]
theorem rg_turned_good (q:Nat) (a:Ring) (g:QW a):QW (WZ q a):=by
 refine⟨by rw[AJ];exact g.lo,by rw[AJ];exact g.hi,g.z0,g.z1,λr hr=>?_⟩;obtain⟨s,hs,rfl⟩:=uO.1 hr;have h1:=g.all s hs;have h2:=qDb h1;have h3:=qR9 q h2.1;unfold YJ UV;cases ho:s.Ok with
 |true=>
  have:KO (rg_turnP q s.P)=true:=by
   unfold KO;simp only[kr,decide_eq_true_eq];exact⟨⟨h3.1,h3.2.1⟩,⟨h3.2.2.1,h3.2.2.2⟩⟩
  rw[this];rfl
 |false=>rw[h2.2 ho,qSt];rfl
section
variable (a :Ring) (g:QW a) (hm:2<=(rg_meas a).length)
include g hm
end
end Saw
end Go.SL

namespace Go.SL
end Go.SL

namespace Go.SL
def runN {σ ρ:Type} (step:Nat->σ->ρ⊕σ):Nat->Nat->σ->ρ⊕σ
 |_,0,s=> .inr s
 |x,k+1,s=>match step x s with
  | .inl r=> .inl r
  | .inr s'=>runN step (x+1) k s'
theorem qCm {σ ρ β:Type} (N:Nat) (L:Nat->σ->Int->Option β) (step:Nat->σ->ρ⊕σ) (fin:ρ⊕σ->β) (Inv:Nat->σ->Prop)
  (h0:∀n x s,x<N->Inv x s->match step x s with| .inl r=>L (n+1) s (x:Int)=some (fin (.inl r))| .inr s'=>L (n+1) s (x:Int)=L n s' ((x+1:Nat):Int)/\Inv (x+1) s')
  (h1:∀n s,Inv N s->L (n+1) s (N:Int)=some (fin (.inr s))):
  ∀(n x:Nat) (s:σ),N<x+n->x<=N->Inv x s->L n s (x:Int)=some (fin (runN step x (N-x) s))
 |0,x,s,hn,hx,_=>by omega
 |n+1,x,s,hn,hx,hi=>by
  by_cases h:x<N
  ·have k:=h0 n x s h hi;obtain⟨m,hm⟩:∃m,N-x=m+1:=⟨N-x-1,by omega⟩
   rw[hm];unfold runN;cases hs:step x s with
   |inl r=>rw[hs] at k;exact k
   |inr s'=>
    rw[hs] at k;rw[k.1,qCm N L step fin Inv h0 h1 n (x+1) s' (by omega) (by omega) k.2,show N-(x+1)=m by omega]
  ·have e:x=N:=by omega
   subst e;rw[gU];exact h1 n s hi
theorem runN_inv {σ ρ:Type} (step:Nat->σ->ρ⊕σ) (Inv:Nat->σ->Prop) (N:Nat) (h:∀x s s',x<N->Inv x s->step x s= .inr s'->Inv (x+1) s'):
  ∀(k x:Nat) (s s':σ),x+k=N->Inv x s->runN step x k s= .inr s'->Inv N s'
 |0,x,s,s',hx,hi,hr=>by cases hr;exact hx▸hi
 |k+1,x,s,s',hx,hi,hr=>by
  unfold runN at hr;cases hs:step x s with
  |inl r=>rw[hs] at hr;cases hr
  |inr t=>rw[hs] at hr;exact runN_inv step Inv N h k (x+1) t s' (by omega) (h x s t (by omega) hi hs) hr
def findN {ε:Type} (bad:Nat->Option ε):Nat->Nat->ε⊕Unit
 |_,0=> .inr ()
 |x,k+1=>match bad x with
  |some e=> .inl e
  |none=>findN bad (x+1) k
theorem qIq {ε:Type} {bad:Nat->Option ε}:∀{k x:Nat},findN bad x k= .inr ()↔∀i,x<=i->i<x+k->bad i=none
 |0,x=>by simp[findN];intro i h1 h2;omega
 |k+1,x=>by
  unfold findN;cases hb:bad x with
  |some e=>simp only[reduceCtorEq,false_iff];intro h;rw[h x (ke _) (by omega)] at hb;cases hb
  |none=>
   simp only[qIq (k:=k)];constructor
   ·intro h i h1 h2;by_cases e:i=x
    ·subst e;exact hb
    ·exact h i (by omega) (by omega)
   ·intro h i h1 h2;exact h i (by omega) (by omega)
theorem qOD {ε:Type} {bad:Nat->Option ε} {e:ε}:∀{k x:Nat},findN bad x k= .inl e->∃i,x<=i/\i<x+k/\bad i=some e/\∀j,x<=j->j<i->bad j=none
 |0,x,h=>by cases h
 |k+1,x,h=>by
  unfold findN at h;cases hb:bad x with
  |some e'=>rw[hb] at h;cases h;exact⟨x,ke _,by omega,hb,λj h1 h2=>by omega⟩
  |none=>
   rw[hb] at h;obtain⟨i,h1,h2,h3,h4⟩:=qOD (k:=k) h;refine⟨i,by omega,by omega,h3,λj a b=>?_⟩;by_cases e':j=x
   ·subst e';exact hb
   ·exact h4 j (by omega) b
theorem qRB {ε:Type} (bad:Nat->Option ε):∀(k x:Nat),runN (λx (_:Unit)=>match bad x with|some e=>(.inl e:ε⊕Unit)|none=> .inr ()) x k ()=findN bad x k
 |0,_=>rfl
 |k+1,x=>by
  unfold runN findN;cases bad x with
  |some e=>rfl
  |none=>exact qRB bad k (x+1)
theorem qPE {ε:Type} (N:Nat) (L:Nat->Int->Option (ε⊕Unit)) (bad:Nat->Option ε) (x:Nat) (hx:x<=N) (hN:N<=1000000000)
  (h0:∀n i,x<=i->i<N->L (n+1) (i:Int)=match bad i with|some e=>some (.inl e)|none=>L n ((i+1:Nat):Int))
  (h1:∀n,L (n+1) (N:Int)=some (.inr ())):L FUEL (x:Int)=some (findN bad x (N-x)):=by
 have k:=qCm N (λn (_:Unit) i=>L n i) (λi _=>match bad i with|some e=>(.inl e:ε⊕Unit)|none=> .inr ()) (λr=>r) (λi _=>x<=i)
  (λn i s hi hxi=>by
   have h:=h0 n i hxi hi;cases hb:bad i with
   |some e=>simp only;rw[h,hb]
   |none=>simp only;rw[h,hb];exact⟨rfl,by omega⟩)
  (λn s _=>h1 n) FUEL x () (by rw[FUEL_eq];omega) hx (ke _)
 rw[qRB] at k;exact k
def IB {σ:Type} (f:Nat->σ->σ):Nat->Nat->σ->σ
 |_,0,s=>s
 |x,k+1,s=>IB f (x+1) k (f x s)
theorem runN_fold {σ ρ:Type} (f:Nat->σ->σ):∀(k x:Nat) (s:σ),runN (λx s=>(.inr (f x s):ρ⊕σ)) x k s= .inr (IB f x k s)
 |0,_,_=>rfl
 |k+1,x,s=>by unfold runN IB;exact runN_fold f k (x+1) (f x s)
theorem CS {σ β:Type} (N:Nat) (L:Nat->σ->Int->Option β) (f:Nat->σ->σ) (out:σ->β) (Inv:Nat->σ->Prop) (x:Nat) (hx:x<=N) (hN:N<=1000000000)
  (h0:∀n i s,i<N->Inv i s->L (n+1) s (i:Int)=L n (f i s) ((i+1:Nat):Int)/\Inv (i+1) (f i s))
  (h1:∀n s,Inv N s->L (n+1) s (N:Int)=some (out s)) (s:σ) (hs:Inv x s):L FUEL s (x:Int)=some (out (IB f x (N-x) s))/\Inv N (IB f x (N-x) s):=by
 have k:=qCm N L (λi s=>(.inr (f i s):Unit⊕σ)) (λr=>match r with| .inl _=>out s| .inr s=>out s) Inv (λn i s hi hs=>h0 n i s hi hs) (λn s hs=>h1 n s hs) FUEL x s (by rw[FUEL_eq];omega) hx hs;rw[runN_fold] at k;refine⟨k,?_⟩;exact runN_inv (λi s=>(.inr (f i s):Unit⊕σ)) Inv N (λi s s' hi hs e=>by cases e;exact(h0 0 i s hi hs).2) (N-x) x s _ (by omega) hs (runN_fold f (N-x) x s)
theorem qPo {σ:Type} (f:Nat->σ->σ):∀(k x:Nat) (s:σ),IB f x (k+1) s=f (x+k) (IB f x k s)
 |0,x,s=>rfl
 |k+1,x,s=>by
  rw[IB,qPo f k (x+1) (f x s),IB,show x+1+k=x+(k+1) by omega]
end Go.SL

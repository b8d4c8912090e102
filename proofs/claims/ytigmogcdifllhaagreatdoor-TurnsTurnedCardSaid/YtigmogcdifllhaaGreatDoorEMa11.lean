/- The ring laws' plain mathematics, part 5: repairing. -/
import Derived.Test.YtigmogcdifllhaaGreatDoorEMa10
import Derived.Test.YtigmogcdifllhaaGreatDoorEMa3
set_option linter.unusedVariables false
set_option linter.unusedSimpArgs false
set_option linter.unusedSectionVars false
namespace Go.SL
namespace Saw
theorem qJp (a b:Int) (hb:0<b):Int.tmod a b+b*Int.tdiv a b=a/\Int.tmod a b<b/\-b<Int.tmod a b/\(Int.tdiv a b).natAbs<=a.natAbs:=by
 refine⟨Int.tmod_add_mul_tdiv a b,gt a hb,?_,?_⟩
 ·rcases gZ 0 a with h|h
  ·have:=Int.tmod_nonneg b h;omega
  ·have h3:=gt (-a) hb;rw[Int.neg_tmod] at h3;omega
 ·rw[Int.natAbs_tdiv];exact Nat.div_le_self _ _
theorem qEm {a b q r:Int} (hb:0<b) (h:r+b*q=a) (h0:0<=r) (h1:r<b):a/b=q:=(Int.ediv_emod_unique hb).2 ⟨h,h0,h1⟩|>.1
theorem qMl (a b:Int) (hb:0<b) (h1: -4611686018427387904<=a) (h2:a<=4611686018427387904):HN a b=some (a/b):=by
 obtain⟨e,l,g,n⟩:=qJp a b hb;unfold HN AY;rw[DI (by omega),zA (n:=Int.tdiv a b) (by omega) (by omega)];by_cases h:Int.tmod a b<0
 ·rw[ki h,zA (by omega) (by omega)];have:a/b=Int.tdiv a b-1:=qEm hb (r:=Int.tmod a b+b) (by rw[gG,Int.mul_one];omega) (by omega) (by omega);rw[this];rfl
 ·rw[kf h];have:a/b=Int.tdiv a b:=qEm hb (r:=Int.tmod a b) e (by omega) l;rw[this];rfl
theorem qGm (a b:Int) (hb:0<b) (h3:b<=4611686018427387904) (h1: -4611686018427387904<=a) (h2:a<=4611686018427387904):qCz a b=some (a/b):=by
 obtain⟨e,l,g,n⟩:=qJp a b hb;have hc:Int.tdiv a b*b=b*Int.tdiv a b:=Int.mul_comm _ _;unfold qCz qBf;rw[DI (by omega),zA (n:=Int.tdiv a b) (by omega) (by omega),zA (n:=Int.tdiv a b*b) (by omega) (by omega)];by_cases h:Int.tmod a b<0
 ·rw[ki (by omega),zA (by omega) (by omega)];have:a/b=Int.tdiv a b-1:=qEm hb (r:=Int.tmod a b+b) (by rw[gG,Int.mul_one];omega) (by omega) (by omega);rw[this];rfl
 ·rw[kf (by omega)];have:a/b=Int.tdiv a b:=qEm hb (r:=Int.tmod a b) e (by omega) l;rw[this];rfl
def NI (x y:Int) (j g:Nat):Int:=x+(y-x)*(j:Int)/((g+1:Nat):Int)
theorem qMq (x y:Int) (g:Nat):NI x y 0 g=x:=by simp[NI]
theorem qMt {d:Int} (j g:Nat) (hj:j<=g+1) (hd:0<=d):0<=d*(j:Int)/\d*(j:Int)<=d*((g+1:Nat):Int):=
 ⟨kB hd (by omega),Int.mul_le_mul_of_nonneg_left (by omega) hd⟩
theorem qRf (x y:Int) (j g:Nat) (hj:j<=g+1):(x<=y->x<=NI x y j g/\NI x y j g<=y)/\(y<=x->y<=NI x y j g/\NI x y j g<=x):=by
 have hp:(0:Int)<((g+1:Nat):Int):=by omega
 unfold NI;constructor
 ·intro h;obtain⟨h1,h2⟩:=qMt j g hj (show 0<=y-x by omega);have h3:=Int.ediv_nonneg h1 (db hp);have h4:=Int.ediv_le_ediv hp h2;rw[Int.mul_ediv_cancel _ (by omega)] at h4;omega
 ·intro h;obtain⟨h1,h2⟩:=qMt j g hj (show 0<=x-y by omega);have e:(y-x)*(j:Int)= -((x-y)*(j:Int)):=by rw[<-Int.neg_mul];congr 1;omega
  rw[e];have h3: -((x-y)*(j:Int))/((g+1:Nat):Int)<=0/((g+1:Nat):Int):=Int.ediv_le_ediv hp (by omega);have h4: -((x-y)*((g+1:Nat):Int))/((g+1:Nat):Int)<=-((x-y)*(j:Int))/((g+1:Nat):Int):=Int.ediv_le_ediv hp (by omega);rw[<-Int.neg_mul,Int.mul_ediv_cancel _ (by omega)] at h4;rw[Int.zero_ediv] at h3;omega
def rg_val (a:Ring) (k d:Nat):qA:=⟨NI (rg_Pt a (rg_Mi a k)).X (rg_Pt a (rg_nb a k 1)).X d (rg_gap a k),NI (rg_Pt a (rg_Mi a k)).Y (rg_Pt a (rg_nb a k 1)).Y d (rg_gap a k)⟩
theorem qMu (a:Ring) (k:Nat):rg_val a k 0=rg_Pt a (rg_Mi a k):=by unfold rg_val;rw[qMq,qMq]
theorem qCr {a:Ring} (g:QT a) (i:Nat):RN (rg_Pt a i):=by
 unfold rg_Pt;by_cases h:i<a.Read.length
 ·refine(qDx (g.all _ ?_)).1;rw[ka,kq h];exact uv h
 ·rw[ka,List.getElem?_eq_none (by omega)];exact⟨by decide,by decide,by decide,by decide⟩
theorem qCo (x y:Int) (j g:Nat) (hx: -600<=x) (hx':x<=600) (hy: -600<=y) (hy':y<=600) (hj:j<=g+1) (hg:g<=100):
  w64 (w64 (y-x)*(j:Int))=(y-x)*(j:Int)/\w64 (x+(y-x)*(j:Int)/((g+1:Nat):Int))=NI x y j g/\-4611686018427387904<=(y-x)*(j:Int)/\(y-x)*(j:Int)<=4611686018427387904:=by
 have hb:=qRf x y j g hj;have hm:w64 (x+(y-x)*(j:Int)/((g+1:Nat):Int))=NI x y j g:=by
  show w64 (NI x y j g)=_;rcases gZ x y with h|h
  ·have:=hb.1 h;exact zA (by omega) (by omega)
  ·have:=hb.2 h;exact zA (by omega) (by omega)
 have hr: -1300000<=(y-x)*(j:Int)/\(y-x)*(j:Int)<=1300000:=by
  have h1:(y-x)*(j:Int)<=1200*(j:Int):=Int.mul_le_mul_of_nonneg_right (by omega) (by omega);have h2:(-1200)*(j:Int)<=(y-x)*(j:Int):=Int.mul_le_mul_of_nonneg_right (by omega) (by omega);omega
 refine⟨?_,hm,by omega,by omega⟩;rw[zA (n:=y-x) (by omega) (by omega),zA (by omega) (by omega)]
section
variable (a :Ring) (g:QT a)
include g
theorem qGe {k:Nat} (hk:k<(rg_meas a).length):∀(n x:Nat) (l:List qA),rg_gap a k+1<x+n->1<=x->x<=rg_gap a k+1->l.length=a.Read.length->
  ∃r,PO a (jS (rg_meas a)) (k:Int) ((rg_gap a k:Nat):Int) n l (x:Int)=some r/\r.length=a.Read.length/\
   (∀q,(∀d,x<=d->d<=rg_gap a k->q≠(rg_Mi a k+d) % a.Read.length)->r.getD q dd=l.getD q dd)/\(∀d,x<=d->d<=rg_gap a k->r.getD ((rg_Mi a k+d) % a.Read.length) dd=rg_val a k d)
 |0,x,l,h1,h2,h3,h4=>by omega
 |n+1,x,l,h1,h2,h3,h4=>by
  have hn:=g.hi;have hlo:=g.lo;have hg:=YX hk;have h0:=zW hk;have hml:=KV a;unfold PO;by_cases hx:x<=rg_gap a k
  ·have hlt:(rg_Mi a k+x) % a.Read.length<a.Read.length:=kJ _ (by omega);have hk1:(k+1) % (rg_meas a).length<(rg_meas a).length:=kJ _ (by omega);have hp:=qCr g (rg_Mi a k);have hq:=qCr g (rg_nb a k 1);obtain⟨e1,e2,e3,e4⟩:=qCo (rg_Pt a (rg_Mi a k)).X (rg_Pt a (rg_nb a k 1)).X x (rg_gap a k) hp.1 hp.2.1 hq.1 hq.2.1 (by omega) (by omega);obtain⟨f1,f2,f3,f4⟩:=qCo (rg_Pt a (rg_Mi a k)).Y (rg_Pt a (rg_nb a k 1)).Y x (rg_gap a k) hp.2.2.1 hp.2.2.2 hq.2.2.1 hq.2.2.2 (by omega) (by omega);have c1:decide ((x:Int)<=((rg_gap a k:Nat):Int))=true:=ki (by omega)
   have w1:w64 (((rg_gap a k:Nat):Int)+1)=((rg_gap a k+1:Nat):Int):=jB _ (by omega);have w2:w64 (((rg_Mi a k:Nat):Int)+(x:Int))=((rg_Mi a k+x:Nat):Int):=by rw[zA (by omega) (by omega)];omega
   rw[c1,h4,DI (by omega),WK,jB k (by omega),yQ];simp only[kp,kg,GG];rw[show(rg_meas a).getD ((k+1) % (rg_meas a).length) 0=rg_nb a k 1 from rfl,show(rg_meas a).getD k 0=rg_Mi a k from rfl];rw[show(a.Read.getD (rg_Mi a k) dd).P=rg_Pt a (rg_Mi a k) from rfl,show(a.Read.getD (rg_nb a k 1) dd).P=rg_Pt a (rg_nb a k 1) from rfl,w1,w2,yQ,e1,f1,qMl _ _ (by omega) e3 e4,qMl _ _ (by omega) f3 f4,zT (show 0<=(((rg_Mi a k+x) % a.Read.length:Nat):Int) by omega) (by omega)];simp only[kd,kp,e2,f2,kg,jB x (by omega)]
   obtain⟨r,hr,r1,r2,r3⟩:=qGe hk n (x+1) (l.set ((rg_Mi a k+x) % a.Read.length) (rg_val a k x)) (by omega) (by omega) (by omega) (by rw[gc];exact h4);refine⟨r,hr,r1,λq hq=>?_,λd hd1 hd2=>?_⟩
   ·rw[r2 q (λd hd=>hq d (by omega)),JY _ (λh=>hq x (ke _) hx h.symm)]
   ·by_cases he:d=x
    ·subst he;rw[r2 _ (λe he1 he2 hc=>?_),PH _ (by omega)]
     -- two places of one rg_gap differ
     have hM:=h0.1;rcases uJ (rg_Mi a k+d) a.Read.length with u|u<;>rcases uJ (rg_Mi a k+e) a.Read.length with v|v
     ·rw[zP u,zP v] at hc;omega
     ·rw[zP u,QF v (by omega)] at hc;omega
     ·omega
     ·rw[QF u (by omega),QF v (by omega)] at hc;omega
    ·exact r3 d (by omega) hd2
  ·have c1:decide ((x:Int)<=((rg_gap a k:Nat):Int))=false:=kf (by omega);rw[c1];exact⟨l,rfl,h4,λ_ _=>rfl,λd h1 h2=>by omega⟩
theorem qKj {k d k' d':Nat} (hk:k<(rg_meas a).length) (hk':k'<(rg_meas a).length) (hd:d<=rg_gap a k) (hd':d'<=rg_gap a k') (h:(rg_Mi a k+d) % a.Read.length=(rg_Mi a k'+d') % a.Read.length):k=k'/\d=d':=by
 have key:∀{k d k' d':Nat},k<(rg_meas a).length->k'<(rg_meas a).length->d<=rg_gap a k->d'<=rg_gap a k'->d<=d'->(rg_Mi a k+d) % a.Read.length=(rg_Mi a k'+d') % a.Read.length->k=k'/\d=d':=by
  intro k d k' d' hk hk' hd hd' hdd h;have h0:=zW hk;have h1:=zW hk';have g0:=YX hk;have g1:=YX hk';have hc:(rg_Mi a k'+(d'-d)) % a.Read.length=rg_Mi a k:=by
   have hM:=h0.1;have hM':=h1.1;rcases uJ (rg_Mi a k'+(d'-d)) a.Read.length with w|w
   ·rw[zP w];rcases uJ (rg_Mi a k+d) a.Read.length with u|u<;>rcases uJ (rg_Mi a k'+d') a.Read.length with v|v
    ·rw[zP u,zP v] at h;omega
    ·rw[zP u,QF v (by omega)] at h;omega
    ·rw[QF u (by omega),zP v] at h;omega
    ·rw[QF u (by omega),QF v (by omega)] at h;omega
   ·rw[QF w (by omega)];rcases uJ (rg_Mi a k+d) a.Read.length with u|u<;>rcases uJ (rg_Mi a k'+d') a.Read.length with v|v
    ·rw[zP u,zP v] at h;omega
    ·rw[zP u,QF v (by omega)] at h;omega
    ·rw[QF u (by omega),zP v] at h;omega
    ·rw[QF u (by omega),QF v (by omega)] at h;omega
  by_cases hz:d'-d=0
  ·rw[hz,kX,zP h1.1] at hc;exact⟨(qRZ hk' hk hc).symm,by omega⟩
  ·have:=BK hk' (show 1<=d'-d by omega) (by omega);rw[hc,h0.2] at this;cases this
 rcases Nat.le_total d d' with hle|hle
 ·exact key hk hk' hd hd' hle h
 ·have:=key hk' hk hd' hd hle h.symm;exact⟨this.1.symm,this.2.symm⟩
theorem qGN :∀(n x:Nat) (l:List qA),(rg_meas a).length<x+n->x<=(rg_meas a).length->l.length=a.Read.length->(∀k d,k<x->d<=rg_gap a k->l.getD ((rg_Mi a k+d) % a.Read.length) dd=rg_val a k d)->
  ∃r,YD a (jS (rg_meas a)) n l (x:Int)=some r/\r.length=a.Read.length/\∀k d,k<(rg_meas a).length->d<=rg_gap a k->r.getD ((rg_Mi a k+d) % a.Read.length) dd=rg_val a k d
 |0,x,l,h1,h2,_,_=>by omega
 |n+1,x,l,h1,h2,h3,h4=>by
  have hn:=g.hi;have hml:=KV a;unfold YD;by_cases hx:x<(rg_meas a).length
  ·have h0:=zW hx;have hg:=YX hx;have hk1:(x+1) % (rg_meas a).length<(rg_meas a).length:=kJ _ (by omega);have h5:=zW hk1;rw[WK,PN hx,zT (by omega) (by omega),DI (by omega),jB x (by omega),yQ,zT (n:=(rg_meas a).length) (show 0<=(((x+1) % (rg_meas a).length:Nat):Int) by omega) (by omega)];simp only[kp,kg,GG]
   rw[show(rg_meas a).getD ((x+1) % (rg_meas a).length) 0=rg_Mi a ((x+1) % (rg_meas a).length) from rfl,show(rg_meas a).getD x 0=rg_Mi a x from rfl,h3,zT (show 0<=((rg_Mi a x:Nat):Int) by omega) (by omega),zT (show 0<=((rg_Mi a ((x+1) % (rg_meas a).length):Nat):Int) by omega) (by omega),qJV a (by omega) hx];simp only[kp,kg,kd];obtain⟨r,hr,r1,r2,r3⟩:=qGe a g hx FUEL 1 (l.set (rg_Mi a x) (rg_Pt a (rg_Mi a x))) (by rw[wQ];omega) (by omega) (by omega) (by rw[gc];exact h3)
   have hr':PO a (jS (rg_meas a)) (x:Int) ((rg_gap a x:Nat):Int) FUEL (l.set (rg_Mi a x) ((a.Read.getD (rg_Mi a x) dd).P)) 1=some r:=hr;rw[hr'];refine qGN n (x+1) r (by omega) (by omega) r1 (λk d hk hd=>?_);have hkm:k<(rg_meas a).length:=by omega
   by_cases he:k=x
   ·subst he;by_cases hz:d=0
    ·subst hz;have hne:∀e,1<=e->e<=rg_gap a k->rg_Mi a k≠(rg_Mi a k+e) % a.Read.length:=λe h1 h2 hc=>by
      have:=BK hkm h1 h2;rw[<-hc,h0.2] at this;cases this
     rw[kX,zP h0.1,r2 _ hne,PH _ (by omega),qMu]
    ·exact r3 d (by omega) hd
   ·rw[r2 _ (λe h1 h2 hc=>he (qKj a g hkm hx hd h2 hc).1),JY _ (λhc=>?_),h4 k d (by omega) hd];refine he (qKj a g hkm hx hd (kv _) ?_).1;rw[kX,zP h0.1];exact hc.symm
  ·rw[WK,PJ hx];exact⟨l,rfl,h3,λk d hk=>h4 k d (by omega)⟩
theorem qMI (hm:1<=(rg_meas a).length) {q:Nat} (hq:q<a.Read.length):∃k d,k<(rg_meas a).length/\d<=rg_gap a k/\(rg_Mi a k+d) % a.Read.length=q/\(d=0↔rg_okAt a q=true):=by
 cases ho:rg_okAt a q with
 |true=>
  obtain⟨k,hk,e⟩:=AF hq ho;exact⟨k,0,hk,kv _,by rw[kX,e,zP hq],by simp⟩
 |false=>
  obtain⟨k,d,hk,h1,h2,h3⟩:=qRP hm hq ho;exact⟨k,d,hk,h2,h3,by simp;omega⟩
theorem qTH (hm:2<=(rg_meas a).length) {k:Nat} (hk:k<(rg_meas a).length):rg_gap a k+1<a.Read.length:=by
 have h0:=zW hk;unfold rg_gap;split
 ·rename_i h;have h1:=zW h;have:=OQ (a:=a) (show k<k+1 by omega) h;omega
 ·have:=OQ (a:=a) (show 0<k by omega) hk;omega
theorem qC0 (r:List qA) (hr1:r.length=a.Read.length) (hm:2<=(rg_meas a).length) (hr:∀k d,k<(rg_meas a).length->d<=rg_gap a k->r.getD ((rg_Mi a k+d) % a.Read.length) dd=rg_val a k d):
  ∀(n x:Nat),a.Read.length<x+n->x<=a.Read.length->WV a n (r.take x) (x:Int)=some r
 |0,x,h1,h2=>by omega
 |n+1,x,h1,h2=>by
  have hn:=g.hi;have hlo:=g.lo;unfold WV;by_cases hx:x<a.Read.length
  ·have hlen:(r.take x).length=x:=by rw[ua];omega
   have htk:r.take (x+1)=r.take x++[r.getD x dd]:=by
    rw[gI,kq (by omega),ka,kq (by omega)];rfl
   obtain⟨k,d,hk,hd,hq,hz⟩:=qMI a g (by omega) hx;have h0:=zW hk;have hg:=YX hk;have ih:=qC0 r hr1 hm hr n (x+1) (by omega) (by omega);rw[PN hx,zT (by omega) (by omega),hlen,qGB (by omega)];simp only[kp,kg,qA3,jB x (by omega)];rw[show(a.Read.getD x dd).Ok=rg_okAt a x from rfl];have hv:=hr k d hk hd;rw[hq] at hv;rw[htk,hv] at ih;cases ho:rg_okAt a x with
   |true=>
    have hd0:=hz.2 ho;subst hd0;rw[qMu] at ih;rw[kX,zP h0.1] at hq;subst hq;exact ih
   |false=>
    have hd0:1<=d:=by
     rcases gY d with h|h
     ·rw[hz.1 h] at ho;cases ho
     ·exact h
    have hk1:(k+1) % (rg_meas a).length<(rg_meas a).length:=kJ _ (by omega);have h5:=zW hk1;have hup:=qP0 a (by omega) hk hd;have hdn:=qOB a (by omega) hk hd0 (by omega);rw[hq] at hup hdn;rw[hup,hdn];have hM:=h0.1;have g3:=qTH a g hm hk;have q1:Int.tmod (w64 (w64 ((x:Int)-((rg_Mi a k:Nat):Int))+(a.Read.length:Int))) (a.Read.length:Int)=(d:Int):=by
     rw[zA (n:=(x:Int)-_) (by omega) (by omega),zA (by omega) (by omega)];rcases uJ (rg_Mi a k+d) a.Read.length with u|u
     ·rw[zP u] at hq;rw[show(x:Int)-((rg_Mi a k:Nat):Int)+(a.Read.length:Int)=((d+a.Read.length:Nat):Int) by omega,yQ,uC,zP (by omega)]
     ·rw[QF u (by omega)] at hq;rw[show(x:Int)-((rg_Mi a k:Nat):Int)+(a.Read.length:Int)=((d:Nat):Int) by omega,yQ,zP (by omega)]
    have hgn:=AT hk;have q2:Int.tmod (w64 (w64 (((rg_Mi a ((k+1) % (rg_meas a).length):Nat):Int)-((rg_Mi a k:Nat):Int))+(a.Read.length:Int))) (a.Read.length:Int)=((rg_gap a k+1:Nat):Int):=by
     rw[zA (n:=_-_) (by omega) (by omega),zA (by omega) (by omega)];rcases uJ (rg_Mi a k+(rg_gap a k+1)) a.Read.length with u|u
     ·rw[zP u] at hgn;rw[show((rg_Mi a ((k+1) % (rg_meas a).length):Nat):Int)-((rg_Mi a k:Nat):Int)+(a.Read.length:Int)=((rg_gap a k+1+a.Read.length:Nat):Int) by omega,yQ,uC,zP (by omega)]
     ·rw[QF u (by omega)] at hgn;rw[show((rg_Mi a ((k+1) % (rg_meas a).length):Nat):Int)-((rg_Mi a k:Nat):Int)+(a.Read.length:Int)=((rg_gap a k+1:Nat):Int) by omega,yQ,zP (by omega)]
    have hp:=qCr g (rg_Mi a k);have hqq:=qCr g (rg_nb a k 1);obtain⟨e1,e2,e3,e4⟩:=qCo (rg_Pt a (rg_Mi a k)).X (rg_Pt a (rg_nb a k 1)).X d (rg_gap a k) hp.1 hp.2.1 hqq.1 hqq.2.1 (by omega) (by omega);obtain⟨f1,f2,f3,f4⟩:=qCo (rg_Pt a (rg_Mi a k)).Y (rg_Pt a (rg_nb a k 1)).Y d (rg_gap a k) hp.2.2.1 hp.2.2.2 hqq.2.2.1 hqq.2.2.2 (by omega) (by omega);simp only[ku,kd,kg];rw[DI (by omega),zT (show 0<=((rg_Mi a k:Nat):Int) by omega) (by omega),zT (show 0<=((rg_Mi a ((k+1) % (rg_meas a).length):Nat):Int) by omega) (by omega),q1,q2]
    rw[show(a.Read.getD (rg_Mi a k) dd).P=rg_Pt a (rg_Mi a k) from rfl,show(a.Read.getD (rg_Mi a ((k+1) % (rg_meas a).length)) dd).P=rg_Pt a (rg_nb a k 1) from rfl,e1,f1,qGm _ _ (by omega) (by omega) e3 e4,qGm _ _ (by omega) (by omega) f3 f4];simp only[kp,kd,e2,f2];exact ih
  ·rw[PJ hx,uS (by omega)];rfl
theorem qWA (hm:2<=(rg_meas a).length):∃r,r.length=a.Read.length/\(∀k d,k<(rg_meas a).length->d<=rg_gap a k->r.getD ((rg_Mi a k+d) % a.Read.length) dd=rg_val a k d)/\
  YD a (jS (rg_meas a)) FUEL (List.replicate ((a.Read.length:Int).toNat) (qA.mk 0 0)) 0=some r/\WV a FUEL [] 0=some r:=by
 have hn:=g.hi;have hml:=KV a;obtain⟨r,h1,h2,h3⟩:=qGN a g FUEL 0 (List.replicate ((a.Read.length:Int).toNat) (qA.mk 0 0)) (by rw[wQ];omega) (by omega) (by simp) (λk d h=>by omega);refine⟨r,h2,h3,h1,?_⟩;have:=qC0 a g r h2 hm h3 FUEL 0 (by rw[wQ];omega) (by omega);rw[List.take_zero] at this;exact this
end
noncomputable def fill (a:Ring):List qA:=Classical.epsilon λr=>r.length=a.Read.length/\∀k d,k<(rg_meas a).length->d<=rg_gap a k->r.getD ((rg_Mi a k+d) % a.Read.length) dd=rg_val a k d
def qAZ (a:Ring):Int:=match CK a with
 |some x=>x.2
 |none=>0
def rg_canFill (a:Ring) (most:Int):Bool:=!decide (((rg_meas a).length:Int)<3)&&!(decide (((a.Read.length-(rg_meas a).length:Nat):Int)>0)&&decide (qAZ a>most))
theorem qQW (a:Ring) (g:QT a) (hm:2<=(rg_meas a).length) {r:List qA} (h1:r.length=a.Read.length) (h2:∀k d,k<(rg_meas a).length->d<=rg_gap a k->r.getD ((rg_Mi a k+d) % a.Read.length) dd=rg_val a k d):r=fill a:=by
 have:=Classical.epsilon_spec (p:=λr:List qA=>r.length=a.Read.length/\∀k d,k<(rg_meas a).length->d<=rg_gap a k->r.getD ((rg_Mi a k+d) % a.Read.length) dd=rg_val a k d) ⟨r,h1,h2⟩;refine qCm (h1.trans this.1.symm) (λj hj=>?_);obtain⟨k,d,hk,hd,hq,_⟩:=qMI a g (by omega) (show j<a.Read.length by omega);rw[<-hq,h2 k d hk hd];exact(this.2 k d hk hd).symm
theorem qES (a:Ring) (g:QT a) (hm:2<=(rg_meas a).length):(fill a).length=a.Read.length/\(∀k d,k<(rg_meas a).length->d<=rg_gap a k->(fill a).getD ((rg_Mi a k+d) % a.Read.length) dd=rg_val a k d)/\
  YD a (jS (rg_meas a)) FUEL (List.replicate ((a.Read.length:Int).toNat) (qA.mk 0 0)) 0=some (fill a)/\WV a FUEL [] 0=some (fill a):=by
 obtain⟨r,h1,h2,h3,h4⟩:=qWA a g hm;obtain rfl:=qQW a g hm h1 h2;exact⟨h1,h2,h3,h4⟩
theorem qRd (a:Ring) (g:QT a) (most:Int):AU a most=some (bif rg_canFill a most then(fill a,0) else([],30)):=by
 have hn:=g.hi;have hml:=KV a;obtain⟨L,hL,_⟩:=qEu a (by omega);unfold AU GZ rg_canFill;have hlo:qAZ a=(L:Int):=by unfold qAZ;rw[hL]
 have hmk:mkOk (a.Read.length:Int) 16=true:=by unfold mkOk;exact ki ⟨by omega,by omega,by omega⟩
 rw[IJ,(NQ a).2 g,qB7 a (by omega),hL,hlo,hmk];simp only[kd,kQ,ku,WK];by_cases h3:((rg_meas a).length:Int)<3
 ·rw[ki h3];rfl
 ·rw[kf h3,(qES a g (by omega)).2.2.1];cases decide (((a.Read.length-(rg_meas a).length:Nat):Int)>0)<;>cases decide ((L:Int)>most)<;>rfl
theorem qSo (a:Ring) (g:QT a) (most:Int):qE4 a most=some (bif rg_canFill a most then(fill a,0) else([],30)):=by
 have hn:=g.hi;have hml:=KV a;obtain⟨L,hL,hR⟩:=qEu a (by omega);unfold qE4 FH rg_canFill;have hlo:qAZ a=(L:Int):=by unfold qAZ;rw[hL]
 rw[qFB,(NQ a).2 g,hR,hlo];simp only[kd,kQ,ku];rw[zA (by omega) (by omega),show(a.Read.length:Int)-((a.Read.length-(rg_meas a).length:Nat):Int)=((rg_meas a).length:Int) by omega];by_cases h3:((rg_meas a).length:Int)<3
 ·rw[ki h3];rfl
 ·rw[kf h3,(qES a g (by omega)).2.2.2];cases decide (((a.Read.length-(rg_meas a).length:Nat):Int)>0)<;>cases decide ((L:Int)>most)<;>rfl
theorem qMC (a:Ring) (r:Int):∀(m:List Nat) (l:List qO) (j:Nat),j<l.length->(m.foldl (UD a r) l).getD j dd=bif decide (j∈m)&&rg_dropB a r j then qIH else l.getD j dd
 |[],l,j,_=>by simp
 |i::m,l,j,hj=>by
  rw[uE,qMC a r m _ j (by rw[qEg];exact hj)];unfold UD;by_cases he:i=j
  ·subst he;cases hd:rg_dropB a r i with
   |false=>simp
   |true=>rw[kp,PH _ hj];simp
  ·have hm:decide (j∈i::m)=decide (j∈m):=by simp[Ne.symm he]
   rw[hm];cases hd:rg_dropB a r i with
   |false=>rfl
   |true=>rw[kp,JY _ he]
theorem qUz {a:Ring} {r:Int} {j:Nat} (h:rg_dropB a r j=true):j∈rg_meas a:=by
 unfold rg_dropB at h;rw[gg] at h;obtain⟨k,hk,h⟩:=h;rw[kr,decide_eq_true_eq] at h;rw[<-h.1];exact uZ (qKK (uD.1 hk))
def rg_cut (a:Ring) (r:Int) (j:Nat):Bool:=!decide (r<0)&&!decide (((rg_meas a).length:Int)<2)&&rg_dropB a r j
theorem qQT (a:Ring) (g:QT a) (r:Int) {j:Nat} (hj:j<a.Read.length):(rg_cleaned a r).Read.getD j dd=bif rg_cut a r j then qIH else a.Read.getD j dd:=by
 unfold rg_cleaned rg_cut;rw[(NQ a).2 g];cases decide (r<0)<;>cases decide (((rg_meas a).length:Int)<2)<;>simp only[kp,ku,kQ,uc,gM,Bool.false_and,Bool.true_and,Bool.and_false];rw[qMC _ _ _ _ _ hj];cases hd:rg_dropB a r j with
 |false=>simp
 |true=>simp[qUz hd]
theorem qV9 {l:List qO} {P:qO->Prop} (h:∀j,j<l.length->P (l.getD j dd)):∀r∈l,P r:=by
 intro r hr;obtain⟨t,ht,he⟩:=uH.1 hr;have:=h t ht
 rwa [ka,kq ht,kE,he] at this
theorem qXy {a:Ring} (g:QT a) {j:Nat} (hj:j<a.Read.length):YK (a.Read.getD j dd)=0:=by
 refine g.all _ ?_;rw[ka,kq hj];exact uv hj
theorem qPG (a:Ring) (g:QT a) (r:Int):QT (rg_cleaned a r):=by
 have hl:=qQG a r;have hz:=qT6 a r;refine⟨by rw[hl];exact g.lo,by rw[hl];exact g.hi,by rw[hz];exact g.z0,by rw[hz];exact g.z1,qV9 λj hj=>?_⟩;rw[hl] at hj;rw[qQT a g r hj];cases rg_cut a r j with
 |true=>exact show YK qIH=0 by decide
 |false=>exact qXy g hj
theorem IG (q:Nat) (a:Ring):(JF q a).Read.length=a.Read.length:=by simp[JF]
theorem rg_turned_good (q:Nat) (a:Ring) (g:QT a):QT (JF q a):=by
 refine⟨by rw[IG];exact g.lo,by rw[IG];exact g.hi,g.z0,g.z1,λr hr=>?_⟩;obtain⟨s,hs,rfl⟩:=uQ.1 hr;have h1:=g.all s hs;have h2:=qDx h1;have h3:=qSu q h2.1;unfold YK VC;cases ho:s.Ok with
 |true=>
  have:KS (rg_turnP q s.P)=true:=by
   unfold KS;simp only[kr,decide_eq_true_eq];exact⟨⟨h3.1,h3.2.1⟩,⟨h3.2.2.1,h3.2.2.2⟩⟩
  rw[this];rfl
 |false=>rw[h2.2 ho,qTf];rfl
section
variable (a :Ring) (g:QT a) (hm:2<=(rg_meas a).length)
include g hm
end
end Saw
end Go.SL

namespace Go.SL
end Go.SL

namespace Go.SL
def runN {σ ρ:Type} (step:Nat->σ->ρ⊕σ):Nat->Nat->σ->ρ⊕σ
 |_,0,s=> .inr s
 |x,k+1,s=>match step x s with
  | .inl r=> .inl r
  | .inr s'=>runN step (x+1) k s'
theorem qC7 {σ ρ β:Type} (N:Nat) (L:Nat->σ->Int->Option β) (step:Nat->σ->ρ⊕σ) (fin:ρ⊕σ->β) (Inv:Nat->σ->Prop)
  (h0:∀n x s,x<N->Inv x s->match step x s with| .inl r=>L (n+1) s (x:Int)=some (fin (.inl r))| .inr s'=>L (n+1) s (x:Int)=L n s' ((x+1:Nat):Int)/\Inv (x+1) s')
  (h1:∀n s,Inv N s->L (n+1) s (N:Int)=some (fin (.inr s))):
  ∀(n x:Nat) (s:σ),N<x+n->x<=N->Inv x s->L n s (x:Int)=some (fin (runN step x (N-x) s))
 |0,x,s,hn,hx,_=>by omega
 |n+1,x,s,hn,hx,hi=>by
  by_cases h:x<N
  ·have k:=h0 n x s h hi;obtain⟨m,hm⟩:∃m,N-x=m+1:=⟨N-x-1,by omega⟩
   rw[hm];unfold runN;cases hs:step x s with
   |inl r=>rw[hs] at k;exact k
   |inr s'=>
    rw[hs] at k;rw[k.1,qC7 N L step fin Inv h0 h1 n (x+1) s' (by omega) (by omega) k.2,show N-(x+1)=m by omega]
  ·have e:x=N:=by omega
   subst e;rw[gW];exact h1 n s hi
theorem runN_inv {σ ρ:Type} (step:Nat->σ->ρ⊕σ) (Inv:Nat->σ->Prop) (N:Nat) (h:∀x s s',x<N->Inv x s->step x s= .inr s'->Inv (x+1) s'):
  ∀(k x:Nat) (s s':σ),x+k=N->Inv x s->runN step x k s= .inr s'->Inv N s'
 |0,x,s,s',hx,hi,hr=>by cases hr;exact hx▸hi
 |k+1,x,s,s',hx,hi,hr=>by
  unfold runN at hr;cases hs:step x s with
  |inl r=>rw[hs] at hr;cases hr
  |inr t=>rw[hs] at hr;exact runN_inv step Inv N h k (x+1) t s' (by omega) (h x s t (by omega) hi hs) hr
def findN {ε:Type} (bad:Nat->Option ε):Nat->Nat->ε⊕Unit
 |_,0=> .inr ()
 |x,k+1=>match bad x with
  |some e=> .inl e
  |none=>findN bad (x+1) k
theorem qIJ {ε:Type} {bad:Nat->Option ε}:∀{k x:Nat},findN bad x k= .inr ()↔∀i,x<=i->i<x+k->bad i=none
 |0,x=>by simp[findN];intro i h1 h2;omega
 |k+1,x=>by
  unfold findN;cases hb:bad x with
  |some e=>simp only[reduceCtorEq,false_iff];intro h;rw[h x (ke _) (by omega)] at hb;cases hb
  |none=>
   simp only[qIJ (k:=k)];constructor
   ·intro h i h1 h2;by_cases e:i=x
    ·subst e;exact hb
    ·exact h i (by omega) (by omega)
   ·intro h i h1 h2;exact h i (by omega) (by omega)
theorem qQa {ε:Type} {bad:Nat->Option ε} {e:ε}:∀{k x:Nat},findN bad x k= .inl e->∃i,x<=i/\i<x+k/\bad i=some e/\∀j,x<=j->j<i->bad j=none
 |0,x,h=>by cases h
 |k+1,x,h=>by
  unfold findN at h;cases hb:bad x with
  |some e'=>rw[hb] at h;cases h;exact⟨x,ke _,by omega,hb,λj h1 h2=>by omega⟩
  |none=>
   rw[hb] at h;obtain⟨i,h1,h2,h3,h4⟩:=qQa (k:=k) h;refine⟨i,by omega,by omega,h3,λj a b=>?_⟩;by_cases e':j=x
   ·subst e';exact hb
   ·exact h4 j (by omega) b
theorem qRS {ε:Type} (bad:Nat->Option ε):∀(k x:Nat),runN (λx (_:Unit)=>match bad x with|some e=>(.inl e:ε⊕Unit)|none=> .inr ()) x k ()=findN bad x k
 |0,_=>rfl
 |k+1,x=>by
  unfold runN findN;cases bad x with
  |some e=>rfl
  |none=>exact qRS bad k (x+1)
theorem qO3 {ε:Type} (N:Nat) (L:Nat->Int->Option (ε⊕Unit)) (bad:Nat->Option ε) (x:Nat) (hx:x<=N) (hN:N<=1000000000)
  (h0:∀n i,x<=i->i<N->L (n+1) (i:Int)=match bad i with|some e=>some (.inl e)|none=>L n ((i+1:Nat):Int))
  (h1:∀n,L (n+1) (N:Int)=some (.inr ())):L FUEL (x:Int)=some (findN bad x (N-x)):=by
 have k:=qC7 N (λn (_:Unit) i=>L n i) (λi _=>match bad i with|some e=>(.inl e:ε⊕Unit)|none=> .inr ()) (λr=>r) (λi _=>x<=i)
  (λn i s hi hxi=>by
   have h:=h0 n i hxi hi;cases hb:bad i with
   |some e=>simp only;rw[h,hb]
   |none=>simp only;rw[h,hb];exact⟨rfl,by omega⟩)
  (λn s _=>h1 n) FUEL x () (by rw[FUEL_eq];omega) hx (ke _)
 rw[qRS] at k;exact k
def IL {σ:Type} (f:Nat->σ->σ):Nat->Nat->σ->σ
 |_,0,s=>s
 |x,k+1,s=>IL f (x+1) k (f x s)
theorem runN_fold {σ ρ:Type} (f:Nat->σ->σ):∀(k x:Nat) (s:σ),runN (λx s=>(.inr (f x s):ρ⊕σ)) x k s= .inr (IL f x k s)
 |0,_,_=>rfl
 |k+1,x,s=>by unfold runN IL;exact runN_fold f k (x+1) (f x s)
theorem qA0 {σ β:Type} (N:Nat) (L:Nat->σ->Int->Option β) (f:Nat->σ->σ) (out:σ->β) (Inv:Nat->σ->Prop) (x:Nat) (hx:x<=N) (hN:N<=1000000000)
  (h0:∀n i s,i<N->Inv i s->L (n+1) s (i:Int)=L n (f i s) ((i+1:Nat):Int)/\Inv (i+1) (f i s))
  (h1:∀n s,Inv N s->L (n+1) s (N:Int)=some (out s)) (s:σ) (hs:Inv x s):L FUEL s (x:Int)=some (out (IL f x (N-x) s))/\Inv N (IL f x (N-x) s):=by
 have k:=qC7 N L (λi s=>(.inr (f i s):Unit⊕σ)) (λr=>match r with| .inl _=>out s| .inr s=>out s) Inv (λn i s hi hs=>h0 n i s hi hs) (λn s hs=>h1 n s hs) FUEL x s (by rw[FUEL_eq];omega) hx hs;rw[runN_fold] at k;refine⟨k,?_⟩;exact runN_inv (λi s=>(.inr (f i s):Unit⊕σ)) Inv N (λi s s' hi hs e=>by cases e;exact(h0 0 i s hi hs).2) (N-x) x s _ (by omega) hs (runN_fold f (N-x) x s)
theorem qPm {σ:Type} (f:Nat->σ->σ):∀(k x:Nat) (s:σ),IL f x (k+1) s=f (x+k) (IL f x k s)
 |0,x,s=>rfl
 |k+1,x,s=>by
  rw[IL,qPm f k (x+1) (f x s),IL,show x+1+k=x+(k+1) by omega]
end Go.SL

/- The ring laws' plain mathematics, part 5: repairing. -/
import Derived.Test.YtigmogcdifllhaaGreatDoorEMa10
import Derived.Test.YtigmogcdifllhaaGreatDoorEMa3
set_option linter.unusedVariables false
set_option linter.unusedSimpArgs false
set_option linter.unusedSectionVars false
namespace Go.SL
namespace Saw
theorem qIX (a b:Int) (hb:0<b):Int.tmod a b+b*Int.tdiv a b=a/\Int.tmod a b<b/\-b<Int.tmod a b/\(Int.tdiv a b).natAbs<=a.natAbs:=by
 refine⟨Int.tmod_add_mul_tdiv a b,gp a hb,?_,?_⟩
 ·rcases gX 0 a with h|h
  ·have:=Int.tmod_nonneg b h;omega
  ·have h3:=gp (-a) hb;rw[Int.neg_tmod] at h3;omega
 ·rw[Int.natAbs_tdiv];exact Nat.div_le_self _ _
theorem qDT {a b q r:Int} (hb:0<b) (h:r+b*q=a) (h0:0<=r) (h1:r<b):a/b=q:=(Int.ediv_emod_unique hb).2 ⟨h,h0,h1⟩|>.1
theorem qMi (a b:Int) (hb:0<b) (h1: -4611686018427387904<=a) (h2:a<=4611686018427387904):SA a b=some (a/b):=by
 obtain⟨e,l,g,n⟩:=qIX a b hb;unfold SA AU;rw[GR (by omega),zB (n:=Int.tdiv a b) (by omega) (by omega)];by_cases h:Int.tmod a b<0
 ·rw[kf h,zB (by omega) (by omega)];have:a/b=Int.tdiv a b-1:=qDT hb (r:=Int.tmod a b+b) (by rw[gF,Int.mul_one];omega) (by omega) (by omega);rw[this];rfl
 ·rw[ko h];have:a/b=Int.tdiv a b:=qDT hb (r:=Int.tmod a b) e (by omega) l;rw[this];rfl
theorem qGj (a b:Int) (hb:0<b) (h3:b<=4611686018427387904) (h1: -4611686018427387904<=a) (h2:a<=4611686018427387904):qB0 a b=some (a/b):=by
 obtain⟨e,l,g,n⟩:=qIX a b hb;have hc:Int.tdiv a b*b=b*Int.tdiv a b:=Int.mul_comm _ _;unfold qB0 qBt;rw[GR (by omega),zB (n:=Int.tdiv a b) (by omega) (by omega),zB (n:=Int.tdiv a b*b) (by omega) (by omega)];by_cases h:Int.tmod a b<0
 ·rw[kf (by omega),zB (by omega) (by omega)];have:a/b=Int.tdiv a b-1:=qDT hb (r:=Int.tmod a b+b) (by rw[gF,Int.mul_one];omega) (by omega) (by omega);rw[this];rfl
 ·rw[ko (by omega)];have:a/b=Int.tdiv a b:=qDT hb (r:=Int.tmod a b) e (by omega) l;rw[this];rfl
def NC (x y:Int) (j g:Nat):Int:=x+(y-x)*(j:Int)/((g+1:Nat):Int)
theorem qMe (x y:Int) (g:Nat):NC x y 0 g=x:=by simp[NC]
theorem qMh {d:Int} (j g:Nat) (hj:j<=g+1) (hd:0<=d):0<=d*(j:Int)/\d*(j:Int)<=d*((g+1:Nat):Int):=
 ⟨kA hd (by omega),Int.mul_le_mul_of_nonneg_left (by omega) hd⟩
theorem qQZ (x y:Int) (j g:Nat) (hj:j<=g+1):(x<=y->x<=NC x y j g/\NC x y j g<=y)/\(y<=x->y<=NC x y j g/\NC x y j g<=x):=by
 have hp:(0:Int)<((g+1:Nat):Int):=by omega
 unfold NC;constructor
 ·intro h;obtain⟨h1,h2⟩:=qMh j g hj (show 0<=y-x by omega);have h3:=Int.ediv_nonneg h1 (gZ hp);have h4:=Int.ediv_le_ediv hp h2;rw[Int.mul_ediv_cancel _ (by omega)] at h4;omega
 ·intro h;obtain⟨h1,h2⟩:=qMh j g hj (show 0<=x-y by omega);have e:(y-x)*(j:Int)= -((x-y)*(j:Int)):=by rw[<-Int.neg_mul];congr 1;omega
  rw[e];have h3: -((x-y)*(j:Int))/((g+1:Nat):Int)<=0/((g+1:Nat):Int):=Int.ediv_le_ediv hp (by omega);have h4: -((x-y)*((g+1:Nat):Int))/((g+1:Nat):Int)<=-((x-y)*(j:Int))/((g+1:Nat):Int):=Int.ediv_le_ediv hp (by omega);rw[<-Int.neg_mul,Int.mul_ediv_cancel _ (by omega)] at h4;rw[Int.zero_ediv] at h3;omega
def rg_val (a:Ring) (k d:Nat):qA:=⟨NC (rg_Pt a (rg_Mi a k)).X (rg_Pt a (rg_nb a k 1)).X d (rg_gap a k),NC (rg_Pt a (rg_Mi a k)).Y (rg_Pt a (rg_nb a k 1)).Y d (rg_gap a k)⟩
theorem qL0 (a:Ring) (k:Nat):rg_val a k 0=rg_Pt a (rg_Mi a k):=by unfold rg_val;rw[qMe,qMe]
theorem qBX {a:Ring} (g:QX a) (i:Nat):PU (rg_Pt a i):=by
 unfold rg_Pt;by_cases h:i<a.Read.length
 ·refine(qDl (g.all _ ?_)).1;rw[ka,kq h];exact uu h
 ·rw[ka,List.getElem?_eq_none (by omega)];exact⟨by decide,by decide,by decide,by decide⟩
theorem qCk (x y:Int) (j g:Nat) (hx: -600<=x) (hx':x<=600) (hy: -600<=y) (hy':y<=600) (hj:j<=g+1) (hg:g<=100):
  w64 (w64 (y-x)*(j:Int))=(y-x)*(j:Int)/\w64 (x+(y-x)*(j:Int)/((g+1:Nat):Int))=NC x y j g/\-4611686018427387904<=(y-x)*(j:Int)/\(y-x)*(j:Int)<=4611686018427387904:=by
 have hb:=qQZ x y j g hj;have hm:w64 (x+(y-x)*(j:Int)/((g+1:Nat):Int))=NC x y j g:=by
  show w64 (NC x y j g)=_;rcases gX x y with h|h
  ·have:=hb.1 h;exact zB (by omega) (by omega)
  ·have:=hb.2 h;exact zB (by omega) (by omega)
 have hr: -1300000<=(y-x)*(j:Int)/\(y-x)*(j:Int)<=1300000:=by
  have h1:(y-x)*(j:Int)<=1200*(j:Int):=Int.mul_le_mul_of_nonneg_right (by omega) (by omega);have h2:(-1200)*(j:Int)<=(y-x)*(j:Int):=Int.mul_le_mul_of_nonneg_right (by omega) (by omega);omega
 refine⟨?_,hm,by omega,by omega⟩;rw[zB (n:=y-x) (by omega) (by omega),zB (by omega) (by omega)]
section
variable (a :Ring) (g:QX a)
include g
theorem qFm {k:Nat} (hk:k<(rg_meas a).length):∀(n x:Nat) (l:List qA),rg_gap a k+1<x+n->1<=x->x<=rg_gap a k+1->l.length=a.Read.length->
  ∃r,PJ a (jV (rg_meas a)) (k:Int) ((rg_gap a k:Nat):Int) n l (x:Int)=some r/\r.length=a.Read.length/\
   (∀q,(∀d,x<=d->d<=rg_gap a k->q≠(rg_Mi a k+d) % a.Read.length)->r.getD q dd=l.getD q dd)/\(∀d,x<=d->d<=rg_gap a k->r.getD ((rg_Mi a k+d) % a.Read.length) dd=rg_val a k d)
 |0,x,l,h1,h2,h3,h4=>by omega
 |n+1,x,l,h1,h2,h3,h4=>by
  have hn:=g.hi;have hlo:=g.lo;have hg:=YT hk;have h0:=zW hk;have hml:=KN a;unfold PJ;by_cases hx:x<=rg_gap a k
  ·have hlt:(rg_Mi a k+x) % a.Read.length<a.Read.length:=kJ _ (by omega);have hk1:(k+1) % (rg_meas a).length<(rg_meas a).length:=kJ _ (by omega);have hp:=qBX g (rg_Mi a k);have hq:=qBX g (rg_nb a k 1);obtain⟨e1,e2,e3,e4⟩:=qCk (rg_Pt a (rg_Mi a k)).X (rg_Pt a (rg_nb a k 1)).X x (rg_gap a k) hp.1 hp.2.1 hq.1 hq.2.1 (by omega) (by omega);obtain⟨f1,f2,f3,f4⟩:=qCk (rg_Pt a (rg_Mi a k)).Y (rg_Pt a (rg_nb a k 1)).Y x (rg_gap a k) hp.2.2.1 hp.2.2.2 hq.2.2.1 hq.2.2.2 (by omega) (by omega);have c1:decide ((x:Int)<=((rg_gap a k:Nat):Int))=true:=kf (by omega)
   have w1:w64 (((rg_gap a k:Nat):Int)+1)=((rg_gap a k+1:Nat):Int):=wW _ (by omega);have w2:w64 (((rg_Mi a k:Nat):Int)+(x:Int))=((rg_Mi a k+x:Nat):Int):=by rw[zB (by omega) (by omega)];omega
   rw[c1,h4,GR (by omega),WF,wW k (by omega),yO];simp only[kp,ki,GT];rw[show(rg_meas a).getD ((k+1) % (rg_meas a).length) 0=rg_nb a k 1 from rfl,show(rg_meas a).getD k 0=rg_Mi a k from rfl];rw[show(a.Read.getD (rg_Mi a k) dd).P=rg_Pt a (rg_Mi a k) from rfl,show(a.Read.getD (rg_nb a k 1) dd).P=rg_Pt a (rg_nb a k 1) from rfl,w1,w2,yO,e1,f1,qMi _ _ (by omega) e3 e4,qMi _ _ (by omega) f3 f4,zS (show 0<=(((rg_Mi a k+x) % a.Read.length:Nat):Int) by omega) (by omega)];simp only[kd,kp,e2,f2,ki,wW x (by omega)]
   obtain⟨r,hr,r1,r2,r3⟩:=qFm hk n (x+1) (l.set ((rg_Mi a k+x) % a.Read.length) (rg_val a k x)) (by omega) (by omega) (by omega) (by rw[ga];exact h4);refine⟨r,hr,r1,λq hq=>?_,λd hd1 hd2=>?_⟩
   ·rw[r2 q (λd hd=>hq d (by omega)),JW _ (λh=>hq x (ke _) hx h.symm)]
   ·by_cases he:d=x
    ·subst he;rw[r2 _ (λe he1 he2 hc=>?_),PE _ (by omega)]
     -- two places of one rg_gap differ
     have hM:=h0.1;rcases uH (rg_Mi a k+d) a.Read.length with u|u<;>rcases uH (rg_Mi a k+e) a.Read.length with v|v
     ·rw[zQ u,zQ v] at hc;omega
     ·rw[zQ u,QI v (by omega)] at hc;omega
     ·omega
     ·rw[QI u (by omega),QI v (by omega)] at hc;omega
    ·exact r3 d (by omega) hd2
  ·have c1:decide ((x:Int)<=((rg_gap a k:Nat):Int))=false:=ko (by omega);rw[c1];exact⟨l,rfl,h4,λ_ _=>rfl,λd h1 h2=>by omega⟩
theorem qJ5 {k d k' d':Nat} (hk:k<(rg_meas a).length) (hk':k'<(rg_meas a).length) (hd:d<=rg_gap a k) (hd':d'<=rg_gap a k') (h:(rg_Mi a k+d) % a.Read.length=(rg_Mi a k'+d') % a.Read.length):k=k'/\d=d':=by
 have key:∀{k d k' d':Nat},k<(rg_meas a).length->k'<(rg_meas a).length->d<=rg_gap a k->d'<=rg_gap a k'->d<=d'->(rg_Mi a k+d) % a.Read.length=(rg_Mi a k'+d') % a.Read.length->k=k'/\d=d':=by
  intro k d k' d' hk hk' hd hd' hdd h;have h0:=zW hk;have h1:=zW hk';have g0:=YT hk;have g1:=YT hk';have hc:(rg_Mi a k'+(d'-d)) % a.Read.length=rg_Mi a k:=by
   have hM:=h0.1;have hM':=h1.1;rcases uH (rg_Mi a k'+(d'-d)) a.Read.length with w|w
   ·rw[zQ w];rcases uH (rg_Mi a k+d) a.Read.length with u|u<;>rcases uH (rg_Mi a k'+d') a.Read.length with v|v
    ·rw[zQ u,zQ v] at h;omega
    ·rw[zQ u,QI v (by omega)] at h;omega
    ·rw[QI u (by omega),zQ v] at h;omega
    ·rw[QI u (by omega),QI v (by omega)] at h;omega
   ·rw[QI w (by omega)];rcases uH (rg_Mi a k+d) a.Read.length with u|u<;>rcases uH (rg_Mi a k'+d') a.Read.length with v|v
    ·rw[zQ u,zQ v] at h;omega
    ·rw[zQ u,QI v (by omega)] at h;omega
    ·rw[QI u (by omega),zQ v] at h;omega
    ·rw[QI u (by omega),QI v (by omega)] at h;omega
  by_cases hz:d'-d=0
  ·rw[hz,kY,zQ h1.1] at hc;exact⟨(qRC hk' hk hc).symm,by omega⟩
  ·have:=BD hk' (show 1<=d'-d by omega) (by omega);rw[hc,h0.2] at this;cases this
 rcases Nat.le_total d d' with hle|hle
 ·exact key hk hk' hd hd' hle h
 ·have:=key hk' hk hd' hd hle h.symm;exact⟨this.1.symm,this.2.symm⟩
theorem qF1 :∀(n x:Nat) (l:List qA),(rg_meas a).length<x+n->x<=(rg_meas a).length->l.length=a.Read.length->(∀k d,k<x->d<=rg_gap a k->l.getD ((rg_Mi a k+d) % a.Read.length) dd=rg_val a k d)->
  ∃r,JX a (jV (rg_meas a)) n l (x:Int)=some r/\r.length=a.Read.length/\∀k d,k<(rg_meas a).length->d<=rg_gap a k->r.getD ((rg_Mi a k+d) % a.Read.length) dd=rg_val a k d
 |0,x,l,h1,h2,_,_=>by omega
 |n+1,x,l,h1,h2,h3,h4=>by
  have hn:=g.hi;have hml:=KN a;unfold JX;by_cases hx:x<(rg_meas a).length
  ·have h0:=zW hx;have hg:=YT hx;have hk1:(x+1) % (rg_meas a).length<(rg_meas a).length:=kJ _ (by omega);have h5:=zW hk1;rw[WF,PA hx,zS (by omega) (by omega),GR (by omega),wW x (by omega),yO,zS (n:=(rg_meas a).length) (show 0<=(((x+1) % (rg_meas a).length:Nat):Int) by omega) (by omega)];simp only[kp,ki,GT]
   rw[show(rg_meas a).getD ((x+1) % (rg_meas a).length) 0=rg_Mi a ((x+1) % (rg_meas a).length) from rfl,show(rg_meas a).getD x 0=rg_Mi a x from rfl,h3,zS (show 0<=((rg_Mi a x:Nat):Int) by omega) (by omega),zS (show 0<=((rg_Mi a ((x+1) % (rg_meas a).length):Nat):Int) by omega) (by omega),qKH a (by omega) hx];simp only[kp,ki,kd];obtain⟨r,hr,r1,r2,r3⟩:=qFm a g hx FUEL 1 (l.set (rg_Mi a x) (rg_Pt a (rg_Mi a x))) (by rw[wO];omega) (by omega) (by omega) (by rw[ga];exact h3)
   have hr':PJ a (jV (rg_meas a)) (x:Int) ((rg_gap a x:Nat):Int) FUEL (l.set (rg_Mi a x) ((a.Read.getD (rg_Mi a x) dd).P)) 1=some r:=hr;rw[hr'];refine qF1 n (x+1) r (by omega) (by omega) r1 (λk d hk hd=>?_);have hkm:k<(rg_meas a).length:=by omega
   by_cases he:k=x
   ·subst he;by_cases hz:d=0
    ·subst hz;have hne:∀e,1<=e->e<=rg_gap a k->rg_Mi a k≠(rg_Mi a k+e) % a.Read.length:=λe h1 h2 hc=>by
      have:=BD hkm h1 h2;rw[<-hc,h0.2] at this;cases this
     rw[kY,zQ h0.1,r2 _ hne,PE _ (by omega),qL0]
    ·exact r3 d (by omega) hd
   ·rw[r2 _ (λe h1 h2 hc=>he (qJ5 a g hkm hx hd h2 hc).1),JW _ (λhc=>?_),h4 k d (by omega) hd];refine he (qJ5 a g hkm hx hd (kv _) ?_).1;rw[kY,zQ h0.1];exact hc.symm
  ·rw[WF,KX hx];exact⟨l,rfl,h3,λk d hk=>h4 k d (by omega)⟩
theorem qL5 (hm:1<=(rg_meas a).length) {q:Nat} (hq:q<a.Read.length):∃k d,k<(rg_meas a).length/\d<=rg_gap a k/\(rg_Mi a k+d) % a.Read.length=q/\(d=0↔rg_okAt a q=true):=by
 cases ho:rg_okAt a q with
 |true=>
  obtain⟨k,hk,e⟩:=EO hq ho;exact⟨k,0,hk,kv _,by rw[kY,e,zQ hq],by simp⟩
 |false=>
  obtain⟨k,d,hk,h1,h2,h3⟩:=qRA hm hq ho;exact⟨k,d,hk,h2,h3,by simp;omega⟩
theorem qUl (hm:2<=(rg_meas a).length) {k:Nat} (hk:k<(rg_meas a).length):rg_gap a k+1<a.Read.length:=by
 have h0:=zW hk;unfold rg_gap;split
 ·rename_i h;have h1:=zW h;have:=IH (a:=a) (show k<k+1 by omega) h;omega
 ·have:=IH (a:=a) (show 0<k by omega) hk;omega
theorem qCE (r:List qA) (hr1:r.length=a.Read.length) (hm:2<=(rg_meas a).length) (hr:∀k d,k<(rg_meas a).length->d<=rg_gap a k->r.getD ((rg_Mi a k+d) % a.Read.length) dd=rg_val a k d):
  ∀(n x:Nat),a.Read.length<x+n->x<=a.Read.length->WM a n (r.take x) (x:Int)=some r
 |0,x,h1,h2=>by omega
 |n+1,x,h1,h2=>by
  have hn:=g.hi;have hlo:=g.lo;unfold WM;by_cases hx:x<a.Read.length
  ·have hlen:(r.take x).length=x:=by rw[ub];omega
   have htk:r.take (x+1)=r.take x++[r.getD x dd]:=by
    rw[gH,kq (by omega),ka,kq (by omega)];rfl
   obtain⟨k,d,hk,hd,hq,hz⟩:=qL5 a g (by omega) hx;have h0:=zW hk;have hg:=YT hk;have ih:=qCE r hr1 hm hr n (x+1) (by omega) (by omega);rw[PA hx,zS (by omega) (by omega),hlen,qGt (by omega)];simp only[kp,ki,CO,wW x (by omega)];rw[show(a.Read.getD x dd).Ok=rg_okAt a x from rfl];have hv:=hr k d hk hd;rw[hq] at hv;rw[htk,hv] at ih;cases ho:rg_okAt a x with
   |true=>
    have hd0:=hz.2 ho;subst hd0;rw[qL0] at ih;rw[kY,zQ h0.1] at hq;subst hq;exact ih
   |false=>
    have hd0:1<=d:=by
     rcases gW d with h|h
     ·rw[hz.1 h] at ho;cases ho
     ·exact h
    have hk1:(k+1) % (rg_meas a).length<(rg_meas a).length:=kJ _ (by omega);have h5:=zW hk1;have hup:=qOR a (by omega) hk hd;have hdn:=qNT a (by omega) hk hd0 (by omega);rw[hq] at hup hdn;rw[hup,hdn];have hM:=h0.1;have g3:=qUl a g hm hk;have q1:Int.tmod (w64 (w64 ((x:Int)-((rg_Mi a k:Nat):Int))+(a.Read.length:Int))) (a.Read.length:Int)=(d:Int):=by
     rw[zB (n:=(x:Int)-_) (by omega) (by omega),zB (by omega) (by omega)];rcases uH (rg_Mi a k+d) a.Read.length with u|u
     ·rw[zQ u] at hq;rw[show(x:Int)-((rg_Mi a k:Nat):Int)+(a.Read.length:Int)=((d+a.Read.length:Nat):Int) by omega,yO,uB,zQ (by omega)]
     ·rw[QI u (by omega)] at hq;rw[show(x:Int)-((rg_Mi a k:Nat):Int)+(a.Read.length:Int)=((d:Nat):Int) by omega,yO,zQ (by omega)]
    have hgn:=EK hk;have q2:Int.tmod (w64 (w64 (((rg_Mi a ((k+1) % (rg_meas a).length):Nat):Int)-((rg_Mi a k:Nat):Int))+(a.Read.length:Int))) (a.Read.length:Int)=((rg_gap a k+1:Nat):Int):=by
     rw[zB (n:=_-_) (by omega) (by omega),zB (by omega) (by omega)];rcases uH (rg_Mi a k+(rg_gap a k+1)) a.Read.length with u|u
     ·rw[zQ u] at hgn;rw[show((rg_Mi a ((k+1) % (rg_meas a).length):Nat):Int)-((rg_Mi a k:Nat):Int)+(a.Read.length:Int)=((rg_gap a k+1+a.Read.length:Nat):Int) by omega,yO,uB,zQ (by omega)]
     ·rw[QI u (by omega)] at hgn;rw[show((rg_Mi a ((k+1) % (rg_meas a).length):Nat):Int)-((rg_Mi a k:Nat):Int)+(a.Read.length:Int)=((rg_gap a k+1:Nat):Int) by omega,yO,zQ (by omega)]
    have hp:=qBX g (rg_Mi a k);have hqq:=qBX g (rg_nb a k 1);obtain⟨e1,e2,e3,e4⟩:=qCk (rg_Pt a (rg_Mi a k)).X (rg_Pt a (rg_nb a k 1)).X d (rg_gap a k) hp.1 hp.2.1 hqq.1 hqq.2.1 (by omega) (by omega);obtain⟨f1,f2,f3,f4⟩:=qCk (rg_Pt a (rg_Mi a k)).Y (rg_Pt a (rg_nb a k 1)).Y d (rg_gap a k) hp.2.2.1 hp.2.2.2 hqq.2.2.1 hqq.2.2.2 (by omega) (by omega);simp only[ku,kd,ki];rw[GR (by omega),zS (show 0<=((rg_Mi a k:Nat):Int) by omega) (by omega),zS (show 0<=((rg_Mi a ((k+1) % (rg_meas a).length):Nat):Int) by omega) (by omega),q1,q2]
    rw[show(a.Read.getD (rg_Mi a k) dd).P=rg_Pt a (rg_Mi a k) from rfl,show(a.Read.getD (rg_Mi a ((k+1) % (rg_meas a).length)) dd).P=rg_Pt a (rg_nb a k 1) from rfl,e1,f1,qGj _ _ (by omega) (by omega) e3 e4,qGj _ _ (by omega) (by omega) f3 f4];simp only[kp,kd,e2,f2];exact ih
  ·rw[KX hx,uQ (by omega)];rfl
theorem qVw (hm:2<=(rg_meas a).length):∃r,r.length=a.Read.length/\(∀k d,k<(rg_meas a).length->d<=rg_gap a k->r.getD ((rg_Mi a k+d) % a.Read.length) dd=rg_val a k d)/\
  JX a (jV (rg_meas a)) FUEL (List.replicate ((a.Read.length:Int).toNat) (qA.mk 0 0)) 0=some r/\WM a FUEL [] 0=some r:=by
 have hn:=g.hi;have hml:=KN a;obtain⟨r,h1,h2,h3⟩:=qF1 a g FUEL 0 (List.replicate ((a.Read.length:Int).toNat) (qA.mk 0 0)) (by rw[wO];omega) (by omega) (by simp) (λk d h=>by omega);refine⟨r,h2,h3,h1,?_⟩;have:=qCE a g r h2 hm h3 FUEL 0 (by rw[wO];omega) (by omega);rw[List.take_zero] at this;exact this
end
noncomputable def fill (a:Ring):List qA:=Classical.epsilon λr=>r.length=a.Read.length/\∀k d,k<(rg_meas a).length->d<=rg_gap a k->r.getD ((rg_Mi a k+d) % a.Read.length) dd=rg_val a k d
def qAd (a:Ring):Int:=match OQ a with
 |some x=>x.2
 |none=>0
def rg_canFill (a:Ring) (most:Int):Bool:=!decide (((rg_meas a).length:Int)<3)&&!(decide (((a.Read.length-(rg_meas a).length:Nat):Int)>0)&&decide (qAd a>most))
theorem qQB (a:Ring) (g:QX a) (hm:2<=(rg_meas a).length) {r:List qA} (h1:r.length=a.Read.length) (h2:∀k d,k<(rg_meas a).length->d<=rg_gap a k->r.getD ((rg_Mi a k+d) % a.Read.length) dd=rg_val a k d):r=fill a:=by
 have:=Classical.epsilon_spec (p:=λr:List qA=>r.length=a.Read.length/\∀k d,k<(rg_meas a).length->d<=rg_gap a k->r.getD ((rg_Mi a k+d) % a.Read.length) dd=rg_val a k d) ⟨r,h1,h2⟩;refine qB2 (h1.trans this.1.symm) (λj hj=>?_);obtain⟨k,d,hk,hd,hq,_⟩:=qL5 a g (by omega) (show j<a.Read.length by omega);rw[<-hq,h2 k d hk hd];exact(this.2 k d hk hd).symm
theorem qEL (a:Ring) (g:QX a) (hm:2<=(rg_meas a).length):(fill a).length=a.Read.length/\(∀k d,k<(rg_meas a).length->d<=rg_gap a k->(fill a).getD ((rg_Mi a k+d) % a.Read.length) dd=rg_val a k d)/\
  JX a (jV (rg_meas a)) FUEL (List.replicate ((a.Read.length:Int).toNat) (qA.mk 0 0)) 0=some (fill a)/\WM a FUEL [] 0=some (fill a):=by
 obtain⟨r,h1,h2,h3,h4⟩:=qVw a g hm;obtain rfl:=qQB a g hm h1 h2;exact⟨h1,h2,h3,h4⟩
theorem qQO (a:Ring) (g:QX a) (most:Int):EZ a most=some (bif rg_canFill a most then(fill a,0) else([],30)):=by
 have hn:=g.hi;have hml:=KN a;obtain⟨L,hL,_⟩:=qEf a (by omega);unfold EZ VL rg_canFill;have hlo:qAd a=(L:Int):=by unfold qAd;rw[hL]
 have hmk:mkOk (a.Read.length:Int) 16=true:=by unfold mkOk;exact kf ⟨by omega,by omega,by omega⟩
 rw[IE,(NM a).2 g,qA5 a (by omega),hL,hlo,hmk];simp only[kd,kQ,ku,WF];by_cases h3:((rg_meas a).length:Int)<3
 ·rw[kf h3];rfl
 ·rw[ko h3,(qEL a g (by omega)).2.2.1];cases decide (((a.Read.length-(rg_meas a).length:Nat):Int)>0)<;>cases decide ((L:Int)>most)<;>rfl
theorem qSz (a:Ring) (g:QX a) (most:Int):qEM a most=some (bif rg_canFill a most then(fill a,0) else([],30)):=by
 have hn:=g.hi;have hml:=KN a;obtain⟨L,hL,hR⟩:=qEf a (by omega);unfold qEM FK rg_canFill;have hlo:qAd a=(L:Int):=by unfold qAd;rw[hL]
 rw[qFa,(NM a).2 g,hR,hlo];simp only[kd,kQ,ku];rw[zB (by omega) (by omega),show(a.Read.length:Int)-((a.Read.length-(rg_meas a).length:Nat):Int)=((rg_meas a).length:Int) by omega];by_cases h3:((rg_meas a).length:Int)<3
 ·rw[kf h3];rfl
 ·rw[ko h3,(qEL a g (by omega)).2.2.2];cases decide (((a.Read.length-(rg_meas a).length:Nat):Int)>0)<;>cases decide ((L:Int)>most)<;>rfl
theorem qL4 (a:Ring) (r:Int):∀(m:List Nat) (l:List qO) (j:Nat),j<l.length->(m.foldl (TN a r) l).getD j dd=bif decide (j∈m)&&rg_dropB a r j then qIi else l.getD j dd
 |[],l,j,_=>by simp
 |i::m,l,j,hj=>by
  rw[uD,qL4 a r m _ j (by rw[qDW];exact hj)];unfold TN;by_cases he:i=j
  ·subst he;cases hd:rg_dropB a r i with
   |false=>simp
   |true=>rw[kp,PE _ hj];simp
  ·have hm:decide (j∈i::m)=decide (j∈m):=by simp[Ne.symm he]
   rw[hm];cases hd:rg_dropB a r i with
   |false=>rfl
   |true=>rw[kp,JW _ he]
theorem qVb {a:Ring} {r:Int} {j:Nat} (h:rg_dropB a r j=true):j∈rg_meas a:=by
 unfold rg_dropB at h;rw[gf] at h;obtain⟨k,hk,h⟩:=h;rw[kr,decide_eq_true_eq] at h;rw[<-h.1];exact uY (qKm (uC.1 hk))
def rg_cut (a:Ring) (r:Int) (j:Nat):Bool:=!decide (r<0)&&!decide (((rg_meas a).length:Int)<2)&&rg_dropB a r j
theorem qQx (a:Ring) (g:QX a) (r:Int) {j:Nat} (hj:j<a.Read.length):(rg_cleaned a r).Read.getD j dd=bif rg_cut a r j then qIi else a.Read.getD j dd:=by
 unfold rg_cleaned rg_cut;rw[(NM a).2 g];cases decide (r<0)<;>cases decide (((rg_meas a).length:Int)<2)<;>simp only[kp,ku,kQ,um,gL,Bool.false_and,Bool.true_and,Bool.and_false];rw[qL4 _ _ _ _ _ hj];cases hd:rg_dropB a r j with
 |false=>simp
 |true=>simp[qVb hd]
theorem qVP {l:List qO} {P:qO->Prop} (h:∀j,j<l.length->P (l.getD j dd)):∀r∈l,P r:=by
 intro r hr;obtain⟨t,ht,he⟩:=uF.1 hr;have:=h t ht
 rwa [ka,kq ht,kE,he] at this
theorem qXf {a:Ring} (g:QX a) {j:Nat} (hj:j<a.Read.length):YJ (a.Read.getD j dd)=0:=by
 refine g.all _ ?_;rw[ka,kq hj];exact uu hj
theorem qPe (a:Ring) (g:QX a) (r:Int):QX (rg_cleaned a r):=by
 have hl:=qQl a r;have hz:=qUK a r;refine⟨by rw[hl];exact g.lo,by rw[hl];exact g.hi,by rw[hz];exact g.z0,by rw[hz];exact g.z1,qVP λj hj=>?_⟩;rw[hl] at hj;rw[qQx a g r hj];cases rg_cut a r j with
 |true=>exact show YJ qIi=0 by decide
 |false=>exact qXf g hj
theorem IB (q:Nat) (a:Ring):(WZ q a).Read.length=a.Read.length:=by simp[WZ]
theorem rg_turned_good (q:Nat) (a:Ring) (g:QX a):QX (WZ q a):=by
 refine⟨by rw[IB];exact g.lo,by rw[IB];exact g.hi,g.z0,g.z1,λr hr=>?_⟩;obtain⟨s,hs,rfl⟩:=uO.1 hr;have h1:=g.all s hs;have h2:=qDl h1;have h3:=qSl q h2.1;unfold YJ UU;cases ho:s.Ok with
 |true=>
  have:KJ (rg_turnP q s.P)=true:=by
   unfold KJ;simp only[kr,decide_eq_true_eq];exact⟨⟨h3.1,h3.2.1⟩,⟨h3.2.2.1,h3.2.2.2⟩⟩
  rw[this];rfl
 |false=>rw[h2.2 ho,qSx];rfl
section
variable (a :Ring) (g:QX a) (hm:2<=(rg_meas a).length)
include g hm
end
end Saw
end Go.SL

namespace Go.SL
end Go.SL

namespace Go.SL
def runN {σ ρ:Type} (step:Nat->σ->ρ⊕σ):Nat->Nat->σ->ρ⊕σ
 |_,0,s=> .inr s
 |x,k+1,s=>match step x s with
  | .inl r=> .inl r
  | .inr s'=>runN step (x+1) k s'
theorem qCF {σ ρ β:Type} (N:Nat) (L:Nat->σ->Int->Option β) (step:Nat->σ->ρ⊕σ) (fin:ρ⊕σ->β) (Inv:Nat->σ->Prop)
  (h0:∀n x s,x<N->Inv x s->match step x s with| .inl r=>L (n+1) s (x:Int)=some (fin (.inl r))| .inr s'=>L (n+1) s (x:Int)=L n s' ((x+1:Nat):Int)/\Inv (x+1) s')
  (h1:∀n s,Inv N s->L (n+1) s (N:Int)=some (fin (.inr s))):
  ∀(n x:Nat) (s:σ),N<x+n->x<=N->Inv x s->L n s (x:Int)=some (fin (runN step x (N-x) s))
 |0,x,s,hn,hx,_=>by omega
 |n+1,x,s,hn,hx,hi=>by
  by_cases h:x<N
  ·have k:=h0 n x s h hi;obtain⟨m,hm⟩:∃m,N-x=m+1:=⟨N-x-1,by omega⟩
   rw[hm];unfold runN;cases hs:step x s with
   |inl r=>rw[hs] at k;exact k
   |inr s'=>
    rw[hs] at k;rw[k.1,qCF N L step fin Inv h0 h1 n (x+1) s' (by omega) (by omega) k.2,show N-(x+1)=m by omega]
  ·have e:x=N:=by omega
   subst e;rw[gU];exact h1 n s hi
theorem runN_inv {σ ρ:Type} (step:Nat->σ->ρ⊕σ) (Inv:Nat->σ->Prop) (N:Nat) (h:∀x s s',x<N->Inv x s->step x s= .inr s'->Inv (x+1) s'):
  ∀(k x:Nat) (s s':σ),x+k=N->Inv x s->runN step x k s= .inr s'->Inv N s'
 |0,x,s,s',hx,hi,hr=>by cases hr;exact hx▸hi
 |k+1,x,s,s',hx,hi,hr=>by
  unfold runN at hr;cases hs:step x s with
  |inl r=>rw[hs] at hr;cases hr
  |inr t=>rw[hs] at hr;exact runN_inv step Inv N h k (x+1) t s' (by omega) (h x s t (by omega) hi hs) hr
def findN {ε:Type} (bad:Nat->Option ε):Nat->Nat->ε⊕Unit
 |_,0=> .inr ()
 |x,k+1=>match bad x with
  |some e=> .inl e
  |none=>findN bad (x+1) k
theorem qH5 {ε:Type} {bad:Nat->Option ε}:∀{k x:Nat},findN bad x k= .inr ()↔∀i,x<=i->i<x+k->bad i=none
 |0,x=>by simp[findN];intro i h1 h2;omega
 |k+1,x=>by
  unfold findN;cases hb:bad x with
  |some e=>simp only[reduceCtorEq,false_iff];intro h;rw[h x (ke _) (by omega)] at hb;cases hb
  |none=>
   simp only[qH5 (k:=k)];constructor
   ·intro h i h1 h2;by_cases e:i=x
    ·subst e;exact hb
    ·exact h i (by omega) (by omega)
   ·intro h i h1 h2;exact h i (by omega) (by omega)
theorem qOA {ε:Type} {bad:Nat->Option ε} {e:ε}:∀{k x:Nat},findN bad x k= .inl e->∃i,x<=i/\i<x+k/\bad i=some e/\∀j,x<=j->j<i->bad j=none
 |0,x,h=>by cases h
 |k+1,x,h=>by
  unfold findN at h;cases hb:bad x with
  |some e'=>rw[hb] at h;cases h;exact⟨x,ke _,by omega,hb,λj h1 h2=>by omega⟩
  |none=>
   rw[hb] at h;obtain⟨i,h1,h2,h3,h4⟩:=qOA (k:=k) h;refine⟨i,by omega,by omega,h3,λj a b=>?_⟩;by_cases e':j=x
   ·subst e';exact hb
   ·exact h4 j (by omega) b
theorem qRR {ε:Type} (bad:Nat->Option ε):∀(k x:Nat),runN (λx (_:Unit)=>match bad x with|some e=>(.inl e:ε⊕Unit)|none=> .inr ()) x k ()=findN bad x k
 |0,_=>rfl
 |k+1,x=>by
  unfold runN findN;cases bad x with
  |some e=>rfl
  |none=>exact qRR bad k (x+1)
theorem qPI {ε:Type} (N:Nat) (L:Nat->Int->Option (ε⊕Unit)) (bad:Nat->Option ε) (x:Nat) (hx:x<=N) (hN:N<=1000000000)
  (h0:∀n i,x<=i->i<N->L (n+1) (i:Int)=match bad i with|some e=>some (.inl e)|none=>L n ((i+1:Nat):Int))
  (h1:∀n,L (n+1) (N:Int)=some (.inr ())):L FUEL (x:Int)=some (findN bad x (N-x)):=by
 have k:=qCF N (λn (_:Unit) i=>L n i) (λi _=>match bad i with|some e=>(.inl e:ε⊕Unit)|none=> .inr ()) (λr=>r) (λi _=>x<=i)
  (λn i s hi hxi=>by
   have h:=h0 n i hxi hi;cases hb:bad i with
   |some e=>simp only;rw[h,hb]
   |none=>simp only;rw[h,hb];exact⟨rfl,by omega⟩)
  (λn s _=>h1 n) FUEL x () (by rw[FUEL_eq];omega) hx (ke _)
 rw[qRR] at k;exact k
def ID {σ:Type} (f:Nat->σ->σ):Nat->Nat->σ->σ
 |_,0,s=>s
 |x,k+1,s=>ID f (x+1) k (f x s)
theorem runN_fold {σ ρ:Type} (f:Nat->σ->σ):∀(k x:Nat) (s:σ),runN (λx s=>(.inr (f x s):ρ⊕σ)) x k s= .inr (ID f x k s)
 |0,_,_=>rfl
 |k+1,x,s=>by unfold runN ID;exact runN_fold f k (x+1) (f x s)
theorem qAt {σ β:Type} (N:Nat) (L:Nat->σ->Int->Option β) (f:Nat->σ->σ) (out:σ->β) (Inv:Nat->σ->Prop) (x:Nat) (hx:x<=N) (hN:N<=1000000000)
  (h0:∀n i s,i<N->Inv i s->L (n+1) s (i:Int)=L n (f i s) ((i+1:Nat):Int)/\Inv (i+1) (f i s))
  (h1:∀n s,Inv N s->L (n+1) s (N:Int)=some (out s)) (s:σ) (hs:Inv x s):L FUEL s (x:Int)=some (out (ID f x (N-x) s))/\Inv N (ID f x (N-x) s):=by
 have k:=qCF N L (λi s=>(.inr (f i s):Unit⊕σ)) (λr=>match r with| .inl _=>out s| .inr s=>out s) Inv (λn i s hi hs=>h0 n i s hi hs) (λn s hs=>h1 n s hs) FUEL x s (by rw[FUEL_eq];omega) hx hs;rw[runN_fold] at k;refine⟨k,?_⟩;exact runN_inv (λi s=>(.inr (f i s):Unit⊕σ)) Inv N (λi s s' hi hs e=>by cases e;exact(h0 0 i s hi hs).2) (N-x) x s _ (by omega) hs (runN_fold f (N-x) x s)
theorem qO1 {σ:Type} (f:Nat->σ->σ):∀(k x:Nat) (s:σ),ID f x (k+1) s=f (x+k) (ID f x k s)
 |0,x,s=>rfl
 |k+1,x,s=>by
  rw[ID,qO1 f k (x+1) (f x s),ID,show x+1+k=x+(k+1) by omega]
end Go.SL

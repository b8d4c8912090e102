/- The ring laws' plain mathematics, part 5: repairing. -/
import Derived.Test.YtigmogcdifllhaaGreatDoorEMa10
import Derived.Test.YtigmogcdifllhaaGreatDoorEMa3
set_option linter.unusedVariables false
set_option linter.unusedSimpArgs false
set_option linter.unusedSectionVars false
namespace Go.SL
namespace Saw
theorem qKf (a b:Int) (hb:0<b):Int.tmod a b+b*Int.tdiv a b=a/\Int.tmod a b<b/\-b<Int.tmod a b/\(Int.tdiv a b).natAbs<=a.natAbs:=by
 refine⟨Int.tmod_add_mul_tdiv a b,uL a hb,?_,?_⟩
 ·rcases gI 0 a with h|h
  ·have:=gA b h;omega
  ·have h3:=uL (-a) hb;rw[Int.neg_tmod] at h3;omega
 ·rw[Int.natAbs_tdiv];exact Nat.div_le_self _ _
theorem qEY {a b q r:Int} (hb:0<b) (h:r+b*q=a) (h0:0<=r) (h1:r<b):a/b=q:=(Int.ediv_emod_unique hb).2 ⟨h,h0,h1⟩|>.1
theorem qNQ (a b:Int) (hb:0<b) (h1: -4611686018427387904<=a) (h2:a<=4611686018427387904):HH a b=some (a/b):=by
 obtain⟨e,l,g,n⟩:=qKf a b hb;unfold HH IA;rw[UU (by omega),qZ (n:=Int.tdiv a b) (by omega) (by omega)];by_cases h:Int.tmod a b<0
 ·rw[kf h,qZ (by omega) (by omega)];have:a/b=Int.tdiv a b-1:=qEY hb (r:=Int.tmod a b+b) (by rw[gC,Int.mul_one];omega) (by omega) (by omega);rw[this];rfl
 ·rw[kg h];have:a/b=Int.tdiv a b:=qEY hb (r:=Int.tmod a b) e (by omega) l;rw[this];rfl
theorem qHe (a b:Int) (hb:0<b) (h3:b<=4611686018427387904) (h1: -4611686018427387904<=a) (h2:a<=4611686018427387904):DY a b=some (a/b):=by
 obtain⟨e,l,g,n⟩:=qKf a b hb;have hc:Int.tdiv a b*b=b*Int.tdiv a b:=Int.mul_comm _ _;unfold DY MS;rw[UU (by omega),qZ (n:=Int.tdiv a b) (by omega) (by omega),qZ (n:=Int.tdiv a b*b) (by omega) (by omega)];by_cases h:Int.tmod a b<0
 ·rw[kf (by omega),qZ (by omega) (by omega)];have:a/b=Int.tdiv a b-1:=qEY hb (r:=Int.tmod a b+b) (by rw[gC,Int.mul_one];omega) (by omega) (by omega);rw[this];rfl
 ·rw[kg (by omega)];have:a/b=Int.tdiv a b:=qEY hb (r:=Int.tmod a b) e (by omega) l;rw[this];rfl
def DJ (x y:Int) (j g:Nat):Int:=x+(y-x)*(j:Int)/((g+1:Nat):Int)
theorem qNZ (x y:Int) (g:Nat):DJ x y 0 g=x:=by simp[DJ]
theorem qNP {d:Int} (j g:Nat) (hj:j<=g+1) (hd:0<=d):0<=d*(j:Int)/\d*(j:Int)<=d*((g+1:Nat):Int):=
 ⟨kz hd (by omega),Int.mul_le_mul_of_nonneg_left (by omega) hd⟩
theorem qSy (x y:Int) (j g:Nat) (hj:j<=g+1):(x<=y->x<=DJ x y j g/\DJ x y j g<=y)/\(y<=x->y<=DJ x y j g/\DJ x y j g<=x):=by
 have hp:(0:Int)<((g+1:Nat):Int):=by omega
 unfold DJ;constructor
 ·intro h;obtain⟨h1,h2⟩:=qNP j g hj (show 0<=y-x by omega);have h3:=Int.ediv_nonneg h1 (gX hp);have h4:=Int.ediv_le_ediv hp h2;rw[Int.mul_ediv_cancel _ (by omega)] at h4;omega
 ·intro h;obtain⟨h1,h2⟩:=qNP j g hj (show 0<=x-y by omega);have e:(y-x)*(j:Int)= -((x-y)*(j:Int)):=by rw[<-Int.neg_mul];congr 1;omega
  rw[e];have h3: -((x-y)*(j:Int))/((g+1:Nat):Int)<=0/((g+1:Nat):Int):=Int.ediv_le_ediv hp (by omega);have h4: -((x-y)*((g+1:Nat):Int))/((g+1:Nat):Int)<=-((x-y)*(j:Int))/((g+1:Nat):Int):=Int.ediv_le_ediv hp (by omega);rw[<-Int.neg_mul,Int.mul_ediv_cancel _ (by omega)] at h4;rw[Int.zero_ediv] at h3;omega
def rg_val (a:Ring) (k d:Nat):qA:=⟨DJ (rg_Pt a (rg_Mi a k)).X (rg_Pt a (rg_nb a k 1)).X d (rg_gap a k),DJ (rg_Pt a (rg_Mi a k)).Y (rg_Pt a (rg_nb a k 1)).Y d (rg_gap a k)⟩
theorem qNL (a:Ring) (k:Nat):rg_val a k 0=rg_Pt a (rg_Mi a k):=by unfold rg_val;rw[qNZ,qNZ]
theorem qCI {a:Ring} (g:jK a) (i:Nat):TA (rg_Pt a i):=by
 unfold rg_Pt;by_cases h:i<a.Read.length
 ·refine(qDC (g.all _ ?_)).1;rw[ka,kp h];exact uq h
 ·rw[ka,List.getElem?_eq_none (by omega)];exact⟨by decide,by decide,by decide,by decide⟩
theorem qCK (x y:Int) (j g:Nat) (hx: -600<=x) (hx':x<=600) (hy: -600<=y) (hy':y<=600) (hj:j<=g+1) (hg:g<=100):
  w64 (w64 (y-x)*(j:Int))=(y-x)*(j:Int)/\w64 (x+(y-x)*(j:Int)/((g+1:Nat):Int))=DJ x y j g/\-4611686018427387904<=(y-x)*(j:Int)/\(y-x)*(j:Int)<=4611686018427387904:=by
 have hb:=qSy x y j g hj;have hm:w64 (x+(y-x)*(j:Int)/((g+1:Nat):Int))=DJ x y j g:=by
  show w64 (DJ x y j g)=_;rcases gI x y with h|h
  ·have:=hb.1 h;exact qZ (by omega) (by omega)
  ·have:=hb.2 h;exact qZ (by omega) (by omega)
 have hr: -1300000<=(y-x)*(j:Int)/\(y-x)*(j:Int)<=1300000:=by
  have h1:(y-x)*(j:Int)<=1200*(j:Int):=Int.mul_le_mul_of_nonneg_right (by omega) (by omega);have h2:(-1200)*(j:Int)<=(y-x)*(j:Int):=Int.mul_le_mul_of_nonneg_right (by omega) (by omega);omega
 refine⟨?_,hm,by omega,by omega⟩;rw[qZ (n:=y-x) (by omega) (by omega),qZ (by omega) (by omega)]
section
variable (a :Ring) (g:jK a)
include g
theorem qHE {k:Nat} (hk:k<(rg_meas a).length):∀(n x:Nat) (l:List qA),rg_gap a k+1<x+n->1<=x->x<=rg_gap a k+1->l.length=a.Read.length->
  ∃r,XY a (jB (rg_meas a)) (k:Int) ((rg_gap a k:Nat):Int) n l (x:Int)=some r/\r.length=a.Read.length/\
   (∀q,(∀d,x<=d->d<=rg_gap a k->q≠(rg_Mi a k+d) % a.Read.length)->r.getD q dd=l.getD q dd)/\(∀d,x<=d->d<=rg_gap a k->r.getD ((rg_Mi a k+d) % a.Read.length) dd=rg_val a k d)
 |0,x,l,h1,h2,h3,h4=>by omega
 |n+1,x,l,h1,h2,h3,h4=>by
  have hn:=g.hi;have hlo:=g.lo;have hg:=JS hk;have h0:=zZ hk;have hml:=XI a;unfold XY;by_cases hx:x<=rg_gap a k
  ·have hlt:(rg_Mi a k+x) % a.Read.length<a.Read.length:=kH _ (by omega);have hk1:(k+1) % (rg_meas a).length<(rg_meas a).length:=kH _ (by omega);have hp:=qCI g (rg_Mi a k);have hq:=qCI g (rg_nb a k 1);obtain⟨e1,e2,e3,e4⟩:=qCK (rg_Pt a (rg_Mi a k)).X (rg_Pt a (rg_nb a k 1)).X x (rg_gap a k) hp.1 hp.2.1 hq.1 hq.2.1 (by omega) (by omega);obtain⟨f1,f2,f3,f4⟩:=qCK (rg_Pt a (rg_Mi a k)).Y (rg_Pt a (rg_nb a k 1)).Y x (rg_gap a k) hp.2.2.1 hp.2.2.2 hq.2.2.1 hq.2.2.2 (by omega) (by omega);have c1:decide ((x:Int)<=((rg_gap a k:Nat):Int))=true:=kf (by omega)
   have w1:w64 (((rg_gap a k:Nat):Int)+1)=((rg_gap a k+1:Nat):Int):=wK _ (by omega);have w2:w64 (((rg_Mi a k:Nat):Int)+(x:Int))=((rg_Mi a k+x:Nat):Int):=by rw[qZ (by omega) (by omega)];omega
   rw[c1,h4,UU (by omega),ZR,wK k (by omega),jV];simp only[ko,kr,TL];rw[show(rg_meas a).getD ((k+1) % (rg_meas a).length) 0=rg_nb a k 1 from rfl,show(rg_meas a).getD k 0=rg_Mi a k from rfl];rw[show(a.Read.getD (rg_Mi a k) dd).P=rg_Pt a (rg_Mi a k) from rfl,show(a.Read.getD (rg_nb a k 1) dd).P=rg_Pt a (rg_nb a k 1) from rfl,w1,w2,jV,e1,f1,qNQ _ _ (by omega) e3 e4,qNQ _ _ (by omega) f3 f4,zV (show 0<=(((rg_Mi a k+x) % a.Read.length:Nat):Int) by omega) (by omega)];simp only[ke,ko,e2,f2,kr,wK x (by omega)]
   obtain⟨r,hr,r1,r2,r3⟩:=qHE hk n (x+1) (l.set ((rg_Mi a k+x) % a.Read.length) (rg_val a k x)) (by omega) (by omega) (by omega) (by rw[ga];exact h4);refine⟨r,hr,r1,λq hq=>?_,λd hd1 hd2=>?_⟩
   ·rw[r2 q (λd hd=>hq d (by omega)),yZ _ (λh=>hq x (kd _) hx h.symm)]
   ·by_cases he:d=x
    ·subst he;rw[r2 _ (λe he1 he2 hc=>?_),JA _ (by omega)]
     -- two places of one rg_gap differ
     have hM:=h0.1;rcases uH (rg_Mi a k+d) a.Read.length with u|u<;>rcases uH (rg_Mi a k+e) a.Read.length with v|v
     ·rw[zU u,zU v] at hc;omega
     ·rw[zU u,yQ v (by omega)] at hc;omega
     ·omega
     ·rw[yQ u (by omega),yQ v (by omega)] at hc;omega
    ·exact r3 d (by omega) hd2
  ·have c1:decide ((x:Int)<=((rg_gap a k:Nat):Int))=false:=kg (by omega);rw[c1];exact⟨l,rfl,h4,λ_ _=>rfl,λd h1 h2=>by omega⟩
theorem qK2 {k d k' d':Nat} (hk:k<(rg_meas a).length) (hk':k'<(rg_meas a).length) (hd:d<=rg_gap a k) (hd':d'<=rg_gap a k') (h:(rg_Mi a k+d) % a.Read.length=(rg_Mi a k'+d') % a.Read.length):k=k'/\d=d':=by
 have key:∀{k d k' d':Nat},k<(rg_meas a).length->k'<(rg_meas a).length->d<=rg_gap a k->d'<=rg_gap a k'->d<=d'->(rg_Mi a k+d) % a.Read.length=(rg_Mi a k'+d') % a.Read.length->k=k'/\d=d':=by
  intro k d k' d' hk hk' hd hd' hdd h;have h0:=zZ hk;have h1:=zZ hk';have g0:=JS hk;have g1:=JS hk';have hc:(rg_Mi a k'+(d'-d)) % a.Read.length=rg_Mi a k:=by
   have hM:=h0.1;have hM':=h1.1;rcases uH (rg_Mi a k'+(d'-d)) a.Read.length with w|w
   ·rw[zU w];rcases uH (rg_Mi a k+d) a.Read.length with u|u<;>rcases uH (rg_Mi a k'+d') a.Read.length with v|v
    ·rw[zU u,zU v] at h;omega
    ·rw[zU u,yQ v (by omega)] at h;omega
    ·rw[yQ u (by omega),zU v] at h;omega
    ·rw[yQ u (by omega),yQ v (by omega)] at h;omega
   ·rw[yQ w (by omega)];rcases uH (rg_Mi a k+d) a.Read.length with u|u<;>rcases uH (rg_Mi a k'+d') a.Read.length with v|v
    ·rw[zU u,zU v] at h;omega
    ·rw[zU u,yQ v (by omega)] at h;omega
    ·rw[yQ u (by omega),zU v] at h;omega
    ·rw[yQ u (by omega),yQ v (by omega)] at h;omega
  by_cases hz:d'-d=0
  ·rw[hz,kV,zU h1.1] at hc;exact⟨(qUn hk' hk hc).symm,by omega⟩
  ·have:=VG hk' (show 1<=d'-d by omega) (by omega);rw[hc,h0.2] at this;cases this
 rcases Nat.le_total d d' with hle|hle
 ·exact key hk hk' hd hd' hle h
 ·have:=key hk' hk hd' hd hle h.symm;exact⟨this.1.symm,this.2.symm⟩
theorem qHl :∀(n x:Nat) (l:List qA),(rg_meas a).length<x+n->x<=(rg_meas a).length->l.length=a.Read.length->(∀k d,k<x->d<=rg_gap a k->l.getD ((rg_Mi a k+d) % a.Read.length) dd=rg_val a k d)->
  ∃r,JE a (jB (rg_meas a)) n l (x:Int)=some r/\r.length=a.Read.length/\∀k d,k<(rg_meas a).length->d<=rg_gap a k->r.getD ((rg_Mi a k+d) % a.Read.length) dd=rg_val a k d
 |0,x,l,h1,h2,_,_=>by omega
 |n+1,x,l,h1,h2,h3,h4=>by
  have hn:=g.hi;have hml:=XI a;unfold JE;by_cases hx:x<(rg_meas a).length
  ·have h0:=zZ hx;have hg:=JS hx;have hk1:(x+1) % (rg_meas a).length<(rg_meas a).length:=kH _ (by omega);have h5:=zZ hk1;rw[ZR,YC hx,zV (by omega) (by omega),UU (by omega),wK x (by omega),jV,zV (n:=(rg_meas a).length) (show 0<=(((x+1) % (rg_meas a).length:Nat):Int) by omega) (by omega)];simp only[ko,kr,TL]
   rw[show(rg_meas a).getD ((x+1) % (rg_meas a).length) 0=rg_Mi a ((x+1) % (rg_meas a).length) from rfl,show(rg_meas a).getD x 0=rg_Mi a x from rfl,h3,zV (show 0<=((rg_Mi a x:Nat):Int) by omega) (by omega),zV (show 0<=((rg_Mi a ((x+1) % (rg_meas a).length):Nat):Int) by omega) (by omega),qLO a (by omega) hx];simp only[ko,kr,ke];obtain⟨r,hr,r1,r2,r3⟩:=qHE a g hx FUEL 1 (l.set (rg_Mi a x) (rg_Pt a (rg_Mi a x))) (by rw[wD];omega) (by omega) (by omega) (by rw[ga];exact h3)
   have hr':XY a (jB (rg_meas a)) (x:Int) ((rg_gap a x:Nat):Int) FUEL (l.set (rg_Mi a x) ((a.Read.getD (rg_Mi a x) dd).P)) 1=some r:=hr;rw[hr'];refine qHl n (x+1) r (by omega) (by omega) r1 (λk d hk hd=>?_);have hkm:k<(rg_meas a).length:=by omega
   by_cases he:k=x
   ·subst he;by_cases hz:d=0
    ·subst hz;have hne:∀e,1<=e->e<=rg_gap a k->rg_Mi a k≠(rg_Mi a k+e) % a.Read.length:=λe h1 h2 hc=>by
      have:=VG hkm h1 h2;rw[<-hc,h0.2] at this;cases this
     rw[kV,zU h0.1,r2 _ hne,JA _ (by omega),qNL]
    ·exact r3 d (by omega) hd
   ·rw[r2 _ (λe h1 h2 hc=>he (qK2 a g hkm hx hd h2 hc).1),yZ _ (λhc=>?_),h4 k d (by omega) hd];refine he (qK2 a g hkm hx hd (kS _) ?_).1;rw[kV,zU h0.1];exact hc.symm
  ·rw[ZR,YE hx];exact⟨l,rfl,h3,λk d hk=>h4 k d (by omega)⟩
theorem qN0 (hm:1<=(rg_meas a).length) {q:Nat} (hq:q<a.Read.length):∃k d,k<(rg_meas a).length/\d<=rg_gap a k/\(rg_Mi a k+d) % a.Read.length=q/\(d=0↔rg_okAt a q=true):=by
 cases ho:rg_okAt a q with
 |true=>
  obtain⟨k,hk,e⟩:=EY hq ho;exact⟨k,0,hk,kS _,by rw[kV,e,zU hq],by simp⟩
 |false=>
  obtain⟨k,d,hk,h1,h2,h3⟩:=qTL hm hq ho;exact⟨k,d,hk,h2,h3,by simp;omega⟩
theorem qXQ (hm:2<=(rg_meas a).length) {k:Nat} (hk:k<(rg_meas a).length):rg_gap a k+1<a.Read.length:=by
 have h0:=zZ hk;unfold rg_gap;split
 ·rename_i h;have h1:=zZ h;have:=OU (a:=a) (show k<k+1 by omega) h;omega
 ·have:=OU (a:=a) (show 0<k by omega) hk;omega
theorem qCR (r:List qA) (hr1:r.length=a.Read.length) (hm:2<=(rg_meas a).length) (hr:∀k d,k<(rg_meas a).length->d<=rg_gap a k->r.getD ((rg_Mi a k+d) % a.Read.length) dd=rg_val a k d):
  ∀(n x:Nat),a.Read.length<x+n->x<=a.Read.length->yA a n (r.take x) (x:Int)=some r
 |0,x,h1,h2=>by omega
 |n+1,x,h1,h2=>by
  have hn:=g.hi;have hlo:=g.lo;unfold yA;by_cases hx:x<a.Read.length
  ·have hlen:(r.take x).length=x:=by rw[ug];omega
   have htk:r.take (x+1)=r.take x++[r.getD x dd]:=by
    rw[gE,kp (by omega),ka,kp (by omega)];rfl
   obtain⟨k,d,hk,hd,hq,hz⟩:=qN0 a g (by omega) hx;have h0:=zZ hk;have hg:=JS hk;have ih:=qCR r hr1 hm hr n (x+1) (by omega) (by omega);rw[YC hx,zV (by omega) (by omega),hlen,qG8 (by omega)];simp only[ko,kr,BM,wK x (by omega)];rw[show(a.Read.getD x dd).Ok=rg_okAt a x from rfl];have hv:=hr k d hk hd;rw[hq] at hv;rw[htk,hv] at ih;cases ho:rg_okAt a x with
   |true=>
    have hd0:=hz.2 ho;subst hd0;rw[qNL] at ih;rw[kV,zU h0.1] at hq;subst hq;exact ih
   |false=>
    have hd0:1<=d:=by
     rcases gU d with h|h
     ·rw[hz.1 h] at ho;cases ho
     ·exact h
    have hk1:(k+1) % (rg_meas a).length<(rg_meas a).length:=kH _ (by omega);have h5:=zZ hk1;have hup:=qRx a (by omega) hk hd;have hdn:=qQA a (by omega) hk hd0 (by omega);rw[hq] at hup hdn;rw[hup,hdn];have hM:=h0.1;have g3:=qXQ a g hm hk;have q1:Int.tmod (w64 (w64 ((x:Int)-((rg_Mi a k:Nat):Int))+(a.Read.length:Int))) (a.Read.length:Int)=(d:Int):=by
     rw[qZ (n:=(x:Int)-_) (by omega) (by omega),qZ (by omega) (by omega)];rcases uH (rg_Mi a k+d) a.Read.length with u|u
     ·rw[zU u] at hq;rw[show(x:Int)-((rg_Mi a k:Nat):Int)+(a.Read.length:Int)=((d+a.Read.length:Nat):Int) by omega,jV,uA,zU (by omega)]
     ·rw[yQ u (by omega)] at hq;rw[show(x:Int)-((rg_Mi a k:Nat):Int)+(a.Read.length:Int)=((d:Nat):Int) by omega,jV,zU (by omega)]
    have hgn:=AA hk;have q2:Int.tmod (w64 (w64 (((rg_Mi a ((k+1) % (rg_meas a).length):Nat):Int)-((rg_Mi a k:Nat):Int))+(a.Read.length:Int))) (a.Read.length:Int)=((rg_gap a k+1:Nat):Int):=by
     rw[qZ (n:=_-_) (by omega) (by omega),qZ (by omega) (by omega)];rcases uH (rg_Mi a k+(rg_gap a k+1)) a.Read.length with u|u
     ·rw[zU u] at hgn;rw[show((rg_Mi a ((k+1) % (rg_meas a).length):Nat):Int)-((rg_Mi a k:Nat):Int)+(a.Read.length:Int)=((rg_gap a k+1+a.Read.length:Nat):Int) by omega,jV,uA,zU (by omega)]
     ·rw[yQ u (by omega)] at hgn;rw[show((rg_Mi a ((k+1) % (rg_meas a).length):Nat):Int)-((rg_Mi a k:Nat):Int)+(a.Read.length:Int)=((rg_gap a k+1:Nat):Int) by omega,jV,zU (by omega)]
    have hp:=qCI g (rg_Mi a k);have hqq:=qCI g (rg_nb a k 1);obtain⟨e1,e2,e3,e4⟩:=qCK (rg_Pt a (rg_Mi a k)).X (rg_Pt a (rg_nb a k 1)).X d (rg_gap a k) hp.1 hp.2.1 hqq.1 hqq.2.1 (by omega) (by omega);obtain⟨f1,f2,f3,f4⟩:=qCK (rg_Pt a (rg_Mi a k)).Y (rg_Pt a (rg_nb a k 1)).Y d (rg_gap a k) hp.2.2.1 hp.2.2.2 hqq.2.2.1 hqq.2.2.2 (by omega) (by omega);simp only[ku,ke,kr];rw[UU (by omega),zV (show 0<=((rg_Mi a k:Nat):Int) by omega) (by omega),zV (show 0<=((rg_Mi a ((k+1) % (rg_meas a).length):Nat):Int) by omega) (by omega),q1,q2]
    rw[show(a.Read.getD (rg_Mi a k) dd).P=rg_Pt a (rg_Mi a k) from rfl,show(a.Read.getD (rg_Mi a ((k+1) % (rg_meas a).length)) dd).P=rg_Pt a (rg_nb a k 1) from rfl,e1,f1,qHe _ _ (by omega) (by omega) e3 e4,qHe _ _ (by omega) (by omega) f3 f4];simp only[ko,ke,e2,f2];exact ih
  ·rw[YE hx,uR (by omega)];rfl
theorem qYK (hm:2<=(rg_meas a).length):∃r,r.length=a.Read.length/\(∀k d,k<(rg_meas a).length->d<=rg_gap a k->r.getD ((rg_Mi a k+d) % a.Read.length) dd=rg_val a k d)/\
  JE a (jB (rg_meas a)) FUEL (List.replicate ((a.Read.length:Int).toNat) (qA.mk 0 0)) 0=some r/\yA a FUEL [] 0=some r:=by
 have hn:=g.hi;have hml:=XI a;obtain⟨r,h1,h2,h3⟩:=qHl a g FUEL 0 (List.replicate ((a.Read.length:Int).toNat) (qA.mk 0 0)) (by rw[wD];omega) (by omega) (by simp) (λk d h=>by omega);refine⟨r,h2,h3,h1,?_⟩;have:=qCR a g r h2 hm h3 FUEL 0 (by rw[wD];omega) (by omega);rw[List.take_zero] at this;exact this
end
noncomputable def fill (a:Ring):List qA:=Classical.epsilon λr=>r.length=a.Read.length/\∀k d,k<(rg_meas a).length->d<=rg_gap a k->r.getD ((rg_Mi a k+d) % a.Read.length) dd=rg_val a k d
def qBa (a:Ring):Int:=match CH a with
 |some x=>x.2
 |none=>0
def rg_canFill (a:Ring) (most:Int):Bool:=!decide (((rg_meas a).length:Int)<3)&&!(decide (((a.Read.length-(rg_meas a).length:Nat):Int)>0)&&decide (qBa a>most))
theorem qTz (a:Ring) (g:jK a) (hm:2<=(rg_meas a).length) {r:List qA} (h1:r.length=a.Read.length) (h2:∀k d,k<(rg_meas a).length->d<=rg_gap a k->r.getD ((rg_Mi a k+d) % a.Read.length) dd=rg_val a k d):r=fill a:=by
 have:=Classical.epsilon_spec (p:=λr:List qA=>r.length=a.Read.length/\∀k d,k<(rg_meas a).length->d<=rg_gap a k->r.getD ((rg_Mi a k+d) % a.Read.length) dd=rg_val a k d) ⟨r,h1,h2⟩;refine EJ (h1.trans this.1.symm) (λj hj=>?_);obtain⟨k,d,hk,hd,hq,_⟩:=qN0 a g (by omega) (show j<a.Read.length by omega);rw[<-hq,h2 k d hk hd];exact(this.2 k d hk hd).symm
theorem qGa (a:Ring) (g:jK a) (hm:2<=(rg_meas a).length):(fill a).length=a.Read.length/\(∀k d,k<(rg_meas a).length->d<=rg_gap a k->(fill a).getD ((rg_Mi a k+d) % a.Read.length) dd=rg_val a k d)/\
  JE a (jB (rg_meas a)) FUEL (List.replicate ((a.Read.length:Int).toNat) (qA.mk 0 0)) 0=some (fill a)/\yA a FUEL [] 0=some (fill a):=by
 obtain⟨r,h1,h2,h3,h4⟩:=qYK a g hm;obtain rfl:=qTz a g hm h1 h2;exact⟨h1,h2,h3,h4⟩
theorem qSQ (a:Ring) (g:jK a) (most:Int):EK a most=some (bif rg_canFill a most then(fill a,0) else([],30)):=by
 have hn:=g.hi;have hml:=XI a;obtain⟨L,hL,_⟩:=qE9 a (by omega);unfold EK TM rg_canFill;have hlo:qBa a=(L:Int):=by unfold qBa;rw[hL]
 have hmk:mkOk (a.Read.length:Int) 16=true:=by unfold mkOk;exact kf ⟨by omega,by omega,by omega⟩
 rw[GS,(JL a).2 g,qB5 a (by omega),hL,hlo,hmk];simp only[ke,kL,ku,ZR];by_cases h3:((rg_meas a).length:Int)<3
 ·rw[kf h3];rfl
 ·rw[kg h3,(qGa a g (by omega)).2.2.1];cases decide (((a.Read.length-(rg_meas a).length:Nat):Int)>0)<;>cases decide ((L:Int)>most)<;>rfl
theorem qVz (a:Ring) (g:jK a) (most:Int):NJ a most=some (bif rg_canFill a most then(fill a,0) else([],30)):=by
 have hn:=g.hi;have hml:=XI a;obtain⟨L,hL,hR⟩:=qE9 a (by omega);unfold NJ PM rg_canFill;have hlo:qBa a=(L:Int):=by unfold qBa;rw[hL]
 rw[LT,(JL a).2 g,hR,hlo];simp only[ke,kL,ku];rw[qZ (by omega) (by omega),show(a.Read.length:Int)-((a.Read.length-(rg_meas a).length:Nat):Int)=((rg_meas a).length:Int) by omega];by_cases h3:((rg_meas a).length:Int)<3
 ·rw[kf h3];rfl
 ·rw[kg h3,(qGa a g (by omega)).2.2.2];cases decide (((a.Read.length-(rg_meas a).length:Nat):Int)>0)<;>cases decide ((L:Int)>most)<;>rfl
theorem qN2 (a:Ring) (r:Int):∀(m:List Nat) (l:List qL) (j:Nat),j<l.length->(m.foldl (PN a r) l).getD j dd=bif decide (j∈m)&&rg_dropB a r j then qJq else l.getD j dd
 |[],l,j,_=>by simp
 |i::m,l,j,hj=>by
  rw[uD,qN2 a r m _ j (by rw[qEW];exact hj)];unfold PN;by_cases he:i=j
  ·subst he;cases hd:rg_dropB a r i with
   |false=>simp
   |true=>rw[ko,JA _ hj];simp
  ·have hm:decide (j∈i::m)=decide (j∈m):=by simp[Ne.symm he]
   rw[hm];cases hd:rg_dropB a r i with
   |false=>rfl
   |true=>rw[ko,yZ _ he]
theorem qWg {a:Ring} {r:Int} {j:Nat} (h:rg_dropB a r j=true):j∈rg_meas a:=by
 unfold rg_dropB at h;rw[gg] at h;obtain⟨k,hk,h⟩:=h;rw[kq,decide_eq_true_eq] at h;rw[<-h.1];exact uY (qL4 (uC.1 hk))
def rg_cut (a:Ring) (r:Int) (j:Nat):Bool:=!decide (r<0)&&!decide (((rg_meas a).length:Int)<2)&&rg_dropB a r j
theorem qTF (a:Ring) (g:jK a) (r:Int) {j:Nat} (hj:j<a.Read.length):(rg_cleaned a r).Read.getD j dd=bif rg_cut a r j then qJq else a.Read.getD j dd:=by
 unfold rg_cleaned rg_cut;rw[(JL a).2 g];cases decide (r<0)<;>cases decide (((rg_meas a).length:Int)<2)<;>simp only[ko,ku,kL,kZ,gJ,Bool.false_and,Bool.true_and,Bool.and_false];rw[qN2 _ _ _ _ _ hj];cases hd:rg_dropB a r j with
 |false=>simp
 |true=>simp[qWg hd]
theorem qYG {l:List qL} {P:qL->Prop} (h:∀j,j<l.length->P (l.getD j dd)):∀r∈l,P r:=by
 intro r hr;obtain⟨t,ht,he⟩:=uF.1 hr;have:=h t ht
 rwa [ka,kp ht,kB,he] at this
theorem q0j {a:Ring} (g:jK a) {j:Nat} (hj:j<a.Read.length):YW (a.Read.getD j dd)=0:=by
 refine g.all _ ?_;rw[ka,kp hj];exact uq hj
theorem qP5 (a:Ring) (g:jK a) (r:Int):jK (rg_cleaned a r):=by
 have hl:=qSF a r;have hz:=qWL a r;refine⟨by rw[hl];exact g.lo,by rw[hl];exact g.hi,by rw[hz];exact g.z0,by rw[hz];exact g.z1,qYG λj hj=>?_⟩;rw[hl] at hj;rw[qTF a g r hj];cases rg_cut a r j with
 |true=>exact show YW qJq=0 by decide
 |false=>exact q0j g hj
section
variable (a :Ring) (g:jK a) (hm:2<=(rg_meas a).length)
include g hm
end
end Saw
end Go.SL

namespace Go.SL
end Go.SL

namespace Go.SL
def runN {σ ρ:Type} (step:Nat->σ->ρ⊕σ):Nat->Nat->σ->ρ⊕σ
 |_,0,s=> .inr s
 |x,k+1,s=>match step x s with
  | .inl r=> .inl r
  | .inr s'=>runN step (x+1) k s'
theorem FN {σ ρ β:Type} (N:Nat) (L:Nat->σ->Int->Option β) (step:Nat->σ->ρ⊕σ) (fin:ρ⊕σ->β) (Inv:Nat->σ->Prop)
  (h0:∀n x s,x<N->Inv x s->match step x s with| .inl r=>L (n+1) s (x:Int)=some (fin (.inl r))| .inr s'=>L (n+1) s (x:Int)=L n s' ((x+1:Nat):Int)/\Inv (x+1) s')
  (h1:∀n s,Inv N s->L (n+1) s (N:Int)=some (fin (.inr s))):
  ∀(n x:Nat) (s:σ),N<x+n->x<=N->Inv x s->L n s (x:Int)=some (fin (runN step x (N-x) s))
 |0,x,s,hn,hx,_=>by omega
 |n+1,x,s,hn,hx,hi=>by
  by_cases h:x<N
  ·have k:=h0 n x s h hi;obtain⟨m,hm⟩:∃m,N-x=m+1:=⟨N-x-1,by omega⟩
   rw[hm];unfold runN;cases hs:step x s with
   |inl r=>rw[hs] at k;exact k
   |inr s'=>
    rw[hs] at k;rw[k.1,FN N L step fin Inv h0 h1 n (x+1) s' (by omega) (by omega) k.2,show N-(x+1)=m by omega]
  ·have e:x=N:=by omega
   subst e;rw[gS];exact h1 n s hi
theorem runN_inv {σ ρ:Type} (step:Nat->σ->ρ⊕σ) (Inv:Nat->σ->Prop) (N:Nat) (h:∀x s s',x<N->Inv x s->step x s= .inr s'->Inv (x+1) s'):
  ∀(k x:Nat) (s s':σ),x+k=N->Inv x s->runN step x k s= .inr s'->Inv N s'
 |0,x,s,s',hx,hi,hr=>by cases hr;exact hx▸hi
 |k+1,x,s,s',hx,hi,hr=>by
  unfold runN at hr;cases hs:step x s with
  |inl r=>rw[hs] at hr;cases hr
  |inr t=>rw[hs] at hr;exact runN_inv step Inv N h k (x+1) t s' (by omega) (h x s t (by omega) hi hs) hr
def findN {ε:Type} (bad:Nat->Option ε):Nat->Nat->ε⊕Unit
 |_,0=> .inr ()
 |x,k+1=>match bad x with
  |some e=> .inl e
  |none=>findN bad (x+1) k
theorem VJ {ε:Type} {bad:Nat->Option ε}:∀{k x:Nat},findN bad x k= .inr ()↔∀i,x<=i->i<x+k->bad i=none
 |0,x=>by simp[findN];intro i h1 h2;omega
 |k+1,x=>by
  unfold findN;cases hb:bad x with
  |some e=>simp only[reduceCtorEq,false_iff];intro h;rw[h x (kd _) (by omega)] at hb;cases hb
  |none=>
   simp only[VJ (k:=k)];constructor
   ·intro h i h1 h2;by_cases e:i=x
    ·subst e;exact hb
    ·exact h i (by omega) (by omega)
   ·intro h i h1 h2;exact h i (by omega) (by omega)
theorem RK {ε:Type} {bad:Nat->Option ε} {e:ε}:∀{k x:Nat},findN bad x k= .inl e->∃i,x<=i/\i<x+k/\bad i=some e/\∀j,x<=j->j<i->bad j=none
 |0,x,h=>by cases h
 |k+1,x,h=>by
  unfold findN at h;cases hb:bad x with
  |some e'=>rw[hb] at h;cases h;exact⟨x,kd _,by omega,hb,λj h1 h2=>by omega⟩
  |none=>
   rw[hb] at h;obtain⟨i,h1,h2,h3,h4⟩:=RK (k:=k) h;refine⟨i,by omega,by omega,h3,λj a b=>?_⟩;by_cases e':j=x
   ·subst e';exact hb
   ·exact h4 j (by omega) b
theorem qMc {ε:Type} (bad:Nat->Option ε):∀(k x:Nat),runN (λx (_:Unit)=>match bad x with|some e=>(.inl e:ε⊕Unit)|none=> .inr ()) x k ()=findN bad x k
 |0,_=>rfl
 |k+1,x=>by
  unfold runN findN;cases bad x with
  |some e=>rfl
  |none=>exact qMc bad k (x+1)
theorem qE0 {ε:Type} (N:Nat) (L:Nat->Int->Option (ε⊕Unit)) (bad:Nat->Option ε) (x:Nat) (hx:x<=N) (hN:N<=1000000000)
  (h0:∀n i,x<=i->i<N->L (n+1) (i:Int)=match bad i with|some e=>some (.inl e)|none=>L n ((i+1:Nat):Int))
  (h1:∀n,L (n+1) (N:Int)=some (.inr ())):L FUEL (x:Int)=some (findN bad x (N-x)):=by
 have k:=FN N (λn (_:Unit) i=>L n i) (λi _=>match bad i with|some e=>(.inl e:ε⊕Unit)|none=> .inr ()) (λr=>r) (λi _=>x<=i)
  (λn i s hi hxi=>by
   have h:=h0 n i hxi hi;cases hb:bad i with
   |some e=>simp only;rw[h,hb]
   |none=>simp only;rw[h,hb];exact⟨rfl,by omega⟩)
  (λn s _=>h1 n) FUEL x () (by rw[FUEL_eq];omega) hx (kd _)
 rw[qMc] at k;exact k
def qJT {σ:Type} (f:Nat->σ->σ):Nat->Nat->σ->σ
 |_,0,s=>s
 |x,k+1,s=>qJT f (x+1) k (f x s)
theorem runN_fold {σ ρ:Type} (f:Nat->σ->σ):∀(k x:Nat) (s:σ),runN (λx s=>(.inr (f x s):ρ⊕σ)) x k s= .inr (qJT f x k s)
 |0,_,_=>rfl
 |k+1,x,s=>by unfold runN qJT;exact runN_fold f k (x+1) (f x s)
theorem MC {σ β:Type} (N:Nat) (L:Nat->σ->Int->Option β) (f:Nat->σ->σ) (out:σ->β) (Inv:Nat->σ->Prop) (x:Nat) (hx:x<=N) (hN:N<=1000000000)
  (h0:∀n i s,i<N->Inv i s->L (n+1) s (i:Int)=L n (f i s) ((i+1:Nat):Int)/\Inv (i+1) (f i s))
  (h1:∀n s,Inv N s->L (n+1) s (N:Int)=some (out s)) (s:σ) (hs:Inv x s):L FUEL s (x:Int)=some (out (qJT f x (N-x) s))/\Inv N (qJT f x (N-x) s):=by
 have k:=FN N L (λi s=>(.inr (f i s):Unit⊕σ)) (λr=>match r with| .inl _=>out s| .inr s=>out s) Inv (λn i s hi hs=>h0 n i s hi hs) (λn s hs=>h1 n s hs) FUEL x s (by rw[FUEL_eq];omega) hx hs;rw[runN_fold] at k;refine⟨k,?_⟩;exact runN_inv (λi s=>(.inr (f i s):Unit⊕σ)) Inv N (λi s s' hi hs e=>by cases e;exact(h0 0 i s hi hs).2) (N-x) x s _ (by omega) hs (runN_fold f (N-x) x s)
end Go.SL

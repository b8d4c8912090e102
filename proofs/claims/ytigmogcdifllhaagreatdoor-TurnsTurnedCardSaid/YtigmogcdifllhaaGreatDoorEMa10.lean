/- The ring laws' plain mathematics, part 2: the measured readings, their qEu. -/
import Derived.Test.YtigmogcdifllhaaGreatDoorEMa9
set_option linter.unusedVariables false
set_option linter.unusedSimpArgs false
namespace Go.SL
namespace Saw
def rg_okAt (a:Ring) (i:Nat):Bool:=(a.Read.getD i dd).Ok
def rg_meas (a:Ring):List Nat:=(List.range a.Read.length).filter (rg_okAt a)
def rg_Mi (a:Ring) (k:Nat):Nat:=(rg_meas a).getD k 0
def jS (l:List Nat):List Int:=List.map (λi:Nat=>(i:Int)) l
theorem WK (l:List Nat):(jS l).length=l.length:=by simp[jS]
theorem GG (l:List Nat) (k:Nat):(jS l).getD k dd=((l.getD k 0:Nat):Int):=by
 unfold jS;rw[ka,ka,kG];cases l[k]? <;>rfl
theorem jB (x:Nat) (h:x<=1000000):w64 ((x:Int)+1)=((x+1:Nat):Int):=by rw[zA (by omega) (by omega)];omega
theorem PN {x n:Nat} (h:x<n):decide ((x:Int)<((n:Nat):Int))=true:=ki (by omega)
theorem PJ {x n:Nat} (h:¬x<n):decide ((x:Int)<((n:Nat):Int))=false:=kf (by omega)
theorem yQ (a b:Nat):Int.tmod (a:Int) (b:Int)=((a % b:Nat):Int):=rfl
theorem qFa (a:Ring):∀(n x:Nat) (l:List Int),a.Read.length<x+n->x<=a.Read.length->a.Read.length<=1000->l.length<=x->
  QG a n l (x:Int)=some (l++jS ((List.range' x (a.Read.length-x)).filter (rg_okAt a)))
 |0,x,l,h1,h2,_,_=>by omega
 |n+1,x,l,h1,h2,h3,h4=>by
  unfold QG;by_cases hx:x<a.Read.length
  ·rw[PN hx,zT (by omega) (by omega),show a.Read.length-x=(a.Read.length-(x+1))+1 by omega,List.range'_succ,List.filter_cons,qGB (n:=l.length+1) (by omega)];simp only[kp,kg,DQ,jB x (by omega)];rw[show(a.Read.getD x dd).Ok=rg_okAt a x from rfl];cases hk:rg_okAt a x with
   |true=>
    rw[kp,qFa a n (x+1) _ (by omega) (by omega) h3 (by simp;omega)];simp[jS]
   |false=>
    rw[ku,qFa a n (x+1) _ (by omega) (by omega) h3 (by omega)];simp
  ·rw[PJ hx,show a.Read.length-x=0 by omega];simp[jS]
theorem qB7 (a:Ring) (h:a.Read.length<=1000):KB a=some (jS (rg_meas a)):=by
 unfold KB;have:=qFa a FUEL 0 [] (by rw[wQ];omega) (by omega) h (by simp);have h':QG a FUEL [] 0=some (jS (rg_meas a)):=by
  rw[show(0:Int)=((0:Nat):Int) from rfl,this,ur,gq,<-gP];rfl
 rw[h'];rfl
theorem qKK {a:Ring} {k:Nat} (h:k<(rg_meas a).length):(rg_meas a)[k]? =some (rg_Mi a k):=by
 unfold rg_Mi;rw[ka,kq h];rfl
theorem zW {a:Ring} {k:Nat} (h:k<(rg_meas a).length):rg_Mi a k<a.Read.length/\rg_okAt a (rg_Mi a k)=true:=by
 have:=uZ (qKK h);unfold rg_meas at this;rw[List.mem_filter,uD] at this;exact this
theorem AF {a:Ring} {q:Nat} (h1:q<a.Read.length) (h2:rg_okAt a q=true):∃t,t<(rg_meas a).length/\rg_Mi a t=q:=by
 have hm:q∈rg_meas a:=by unfold rg_meas;rw[List.mem_filter,uD];exact⟨h1,h2⟩
 obtain⟨t,ht,he⟩:=uH.1 hm;exact⟨t,ht,by unfold rg_Mi;rw[ka,kq ht,he];rfl⟩
theorem OQ {a:Ring} {i j:Nat} (hij:i<j) (hj:j<(rg_meas a).length):rg_Mi a i<rg_Mi a j:=by
 have hp:(rg_meas a).Pairwise (·<·):=List.Pairwise.filter _ List.pairwise_lt_range;have h1:=gy.1 hp i j (by omega) hj hij;have e1:(rg_meas a)[i]'(by omega)=rg_Mi a i:=by unfold rg_Mi;rw[ka,kq (by omega)];rfl
 have e2:(rg_meas a)[j]=rg_Mi a j:=by unfold rg_Mi;rw[ka,kq hj];rfl
 rwa [e1,e2] at h1
theorem MU {a:Ring} {i j:Nat} (hij:i<=j) (hj:j<(rg_meas a).length):rg_Mi a i<=rg_Mi a j:=by
 rcases Nat.lt_or_eq_of_le hij with h|rfl
 ·exact Nat.le_of_lt (OQ h hj)
 ·exact ke _
def rg_gap (a:Ring) (k:Nat):Nat:=if k+1<(rg_meas a).length then rg_Mi a (k+1)-rg_Mi a k-1 else rg_Mi a 0+a.Read.length-rg_Mi a k-1
theorem qJV (a:Ring) (h:a.Read.length<=1000) {k:Nat} (hk:k<(rg_meas a).length):NP a (jS (rg_meas a)) (k:Int)=some ((rg_gap a k:Nat):Int):=by
 have h0:=zW hk;have hl:(rg_meas a).length<=a.Read.length:=by unfold rg_meas;exact uq (gO _ _) (by simp)
 unfold NP rg_gap;rw[jB k (by omega),WK];by_cases hk1:k+1<(rg_meas a).length
 ·have h1:=zW hk1;have h2:=OQ (a:=a) (show k<k+1 by omega) hk1;rw[PN hk1,zT (by omega) (by omega),zT (by omega) (by omega),if_pos hk1];simp only[kp,kg,GG];rw[show(rg_meas a).getD (k+1) 0=rg_Mi a (k+1) from rfl,show(rg_meas a).getD k 0=rg_Mi a k from rfl];rw[zA (n:=((rg_Mi a (k+1):Nat):Int)-_) (by omega) (by omega),zA (by omega) (by omega)]
  congr 1
  omega
 ·have h1:=zW (a:=a) (k:=0) (by omega);have h2:=MU (a:=a) (kv k) hk;rw[PJ hk1,ku,zT (by omega) (by omega),zT (by omega) (by omega),if_neg hk1];simp only[kp,kg,gA,GG];rw[show(rg_meas a).getD 0 0=rg_Mi a 0 from rfl,show(rg_meas a).getD k 0=rg_Mi a k from rfl];rw[zA (n:=((rg_Mi a 0:Nat):Int)+_) (by omega) (by omega),zA (n:=((rg_Mi a 0:Nat):Int)+_-_) (by omega) (by omega),zA (by omega) (by omega)]
  congr 1
  omega
theorem zP {x n:Nat} (h:x<n):x % n=x:=uw h
theorem QF {x n:Nat} (h1:n<=x) (h2:x<2*n):x % n=x-n:=by
 rw[Nat.mod_eq_sub_mod h1,uw (by omega)]
theorem YX {a:Ring} {k:Nat} (hk:k<(rg_meas a).length):rg_gap a k+1<=a.Read.length:=by
 have h0:=zW hk;unfold rg_gap;split
 ·rename_i h;have:=zW h;omega
 ·have:=MU (a:=a) (kv k) hk;omega
theorem BK {a:Ring} {k d:Nat} (hk:k<(rg_meas a).length) (h1:1<=d) (h2:d<=rg_gap a k):rg_okAt a ((rg_Mi a k+d) % a.Read.length)=false:=by
 have h0:=zW hk;have hg:=YX hk;cases ho:rg_okAt a ((rg_Mi a k+d) % a.Read.length) with
 |false=>rfl
 |true=>
  obtain⟨t,ht,he⟩:=AF (kJ _ (by omega)) ho;unfold rg_gap at h2;split at h2
  ·rename_i hk1;have h3:=zW hk1;rw[zP (by omega)] at he;rcases uJ t (k+1) with h|h
   ·have:=MU (a:=a) (show t<=k by omega) hk;omega
   ·have:=MU (a:=a) h ht;omega
  ·rename_i hk1;have ht':=MU (a:=a) (show t<=k by omega) hk;have hz:=MU (a:=a) (kv t) ht;by_cases hc:rg_Mi a k+d<a.Read.length
   ·rw[zP hc] at he;omega
   ·rw[QF (by omega) (by omega)] at he;omega
theorem AT {a:Ring} {k:Nat} (hk:k<(rg_meas a).length):(rg_Mi a k+(rg_gap a k+1)) % a.Read.length=rg_Mi a ((k+1) % (rg_meas a).length):=by
 have h0:=zW hk;unfold rg_gap;split
 ·rename_i hk1;have h3:=zW hk1;have h4:=OQ (a:=a) (show k<k+1 by omega) hk1;rw[zP hk1,show rg_Mi a k+(rg_Mi a (k+1)-rg_Mi a k-1+1)=rg_Mi a (k+1) by omega,zP h3.1]
 ·rename_i hk1;have hz:=zW (a:=a) (k:=0) (by omega);have hle:=MU (a:=a) (kv k) hk;rw[show k+1=(rg_meas a).length by omega,Nat.mod_self,show rg_Mi a k+(rg_Mi a 0+a.Read.length-rg_Mi a k-1+1)=rg_Mi a 0+a.Read.length by omega,uC,zP hz.1]
theorem qJo (a:Ring) (q:Nat):∀(m j:Nat),(rg_meas a).length=j+m->1<=m->rg_Mi a j<q->∃k,k<(rg_meas a).length/\rg_Mi a k<q/\(k+1<(rg_meas a).length->q<=rg_Mi a (k+1))
 |0,_,_,h,_=>by omega
 |m+1,j,hm,_,hj=>by
  by_cases h:j+1<(rg_meas a).length
  ·by_cases hq:rg_Mi a (j+1)<q
   ·exact qJo a q m (j+1) (by omega) (by omega) hq
   ·exact⟨j,by omega,hj,λ_=>by omega⟩
  ·exact⟨j,by omega,hj,λh'=>absurd h' h⟩
theorem qRP {a:Ring} {q:Nat} (hm:1<=(rg_meas a).length) (hq:q<a.Read.length) (ho:rg_okAt a q=false):∃k d,k<(rg_meas a).length/\1<=d/\d<=rg_gap a k/\(rg_Mi a k+d) % a.Read.length=q:=by
 have hne:∀t,t<(rg_meas a).length->rg_Mi a t≠q:=λt ht he=>by
  have:=(zW ht).2;rw[he,ho] at this;cases this
 by_cases h0:rg_Mi a 0<q
 ·obtain⟨k,hk,h1,h2⟩:=qJo a q (rg_meas a).length 0 (by omega) hm h0;refine⟨k,q-rg_Mi a k,hk,by omega,?_,by rw[show rg_Mi a k+(q-rg_Mi a k)=q by omega,zP hq]⟩;unfold rg_gap;split
  ·rename_i hk1;have:=hne (k+1) hk1;have:=h2 hk1;omega
  ·omega
 ·have hne0:=hne 0 (by omega);have hlast:(rg_meas a).length-1<(rg_meas a).length:=by omega
  have hl:=zW (a:=a) hlast;have hle:=MU (a:=a) (kv ((rg_meas a).length-1)) hlast;refine⟨(rg_meas a).length-1,q+a.Read.length-rg_Mi a ((rg_meas a).length-1),hlast,by omega,?_,?_⟩
  ·unfold rg_gap;rw[if_neg (by omega)];omega
  ·rw[show rg_Mi a ((rg_meas a).length-1)+(q+a.Read.length-rg_Mi a ((rg_meas a).length-1))=q+a.Read.length by omega,uC,zP hq]
theorem qMA (x y:Nat):imax (x:Int) (y:Int)=((max x y:Nat):Int):=by
 unfold imax;split<;>omega
theorem qDT (a:Ring) (h:a.Read.length<=1000):∀(n x mx:Nat),(rg_meas a).length<x+n->x<=(rg_meas a).length->
  ∃R:Nat,DF a (jS (rg_meas a)) n (mx:Int) (x:Int)=some (R:Int)/\mx<=R/\(∀k,x<=k->k<(rg_meas a).length->rg_gap a k<=R)/\(R=mx\/∃k,k<(rg_meas a).length/\R=rg_gap a k)
 |0,x,mx,h1,h2=>by omega
 |n+1,x,mx,h1,h2=>by
  have hl:(rg_meas a).length<=a.Read.length:=by unfold rg_meas;exact uq (gO _ _) (by simp)
  unfold DF;rw[WK];by_cases hx:x<(rg_meas a).length
  ·rw[PN hx,qJV a h hx];simp only[kp,kd,qMA,jB x (by omega)];obtain⟨R,e,h3,h4,h5⟩:=qDT a h n (x+1) (max mx (rg_gap a x)) (by omega) (by omega);refine⟨R,e,by omega,λk hk1 hk2=>?_,?_⟩
   ·rcases uJ x k with hk|hk
    ·exact h4 k hk hk2
    ·obtain rfl:k=x:=by omega
     omega
   ·rcases h5 with h5|h5
    ·rcases Nat.le_total mx (rg_gap a x) with hg|hg
     ·exact .inr ⟨x,hx,by omega⟩
     ·exact .inl (by omega)
    ·exact .inr h5
  ·rw[PJ hx];exact⟨mx,rfl,ke _,λk hk1 hk2=>by omega,.inl rfl⟩
theorem qCs (a:Ring) (h:a.Read.length<=1000) (q r:Nat) (hq:q<a.Read.length) (hr:r<=a.Read.length) (h1:∀d,d<r->rg_okAt a ((q+d) % a.Read.length)=false) (h2:r=a.Read.length\/rg_okAt a ((q+r) % a.Read.length)=true):
  ∀(n x:Nat),r<x+n->x<=r->QP a (q:Int) n (x:Int)=some (r:Int)
 |0,x,h3,h4=>by omega
 |n+1,x,h3,h4=>by
  unfold QP;by_cases hx:x<a.Read.length
  ·have e:w64 ((q:Int)+(x:Int))=((q+x:Nat):Int):=by rw[zA (by omega) (by omega)];omega
   have hm:(q+x) % a.Read.length<a.Read.length:=kJ _ (by omega);rw[PN hx,DI (by omega),e,yQ,zT (by omega) (by omega)];simp only[kp,kg,qDl,jB x (by omega)];rw[show(a.Read.getD ((q+x) % a.Read.length) dd).Ok=rg_okAt a ((q+x) % a.Read.length) from rfl];by_cases hxr:x<r
   ·rw[h1 x hxr];exact qCs a h q r hq hr h1 h2 n (x+1) (by omega) (by omega)
   ·obtain rfl:x=r:=by omega
    rcases h2 with h2|h2
    ·omega
    ·rw[h2];rfl
  ·rw[PJ hx];obtain rfl:x=r:=by omega
   rfl
theorem OM (a:Ring) (h:a.Read.length<=1000) (run:Nat->Nat) (hrun:∀q,q<a.Read.length->rg_okAt a q=false->QP a (q:Int) FUEL 0=some ((run q:Nat):Int)):∀(n x c mx:Nat),a.Read.length<x+n->x<=a.Read.length->c<=x->
  ∃R:Nat,TP a n (c:Int) (mx:Int) (x:Int)=some (((c+(List.range' x (a.Read.length-x)).countP (λi=>!rg_okAt a i):Nat):Int),(R:Int))/\mx<=R/\(∀q,x<=q->q<a.Read.length->rg_okAt a q=false->run q<=R)/\(R=mx\/∃q,q<a.Read.length/\rg_okAt a q=false/\R=run q)
 |0,x,c,mx,h1,h2,_=>by omega
 |n+1,x,c,mx,h1,h2,hc=>by
  unfold TP;by_cases hx:x<a.Read.length
  ·rw[PN hx,zT (by omega) (by omega),show a.Read.length-x=(a.Read.length-(x+1))+1 by omega,List.range'_succ,List.countP_cons];simp only[kp,kg,qDB,jB x (by omega),jB c (by omega)];rw[show(a.Read.getD x dd).Ok=rg_okAt a x from rfl];cases ho:rg_okAt a x with
   |true=>
    obtain⟨R,e,h3,h4,h5⟩:=OM a h run hrun n (x+1) c mx (by omega) (by omega) (by omega);refine⟨R,by rw[kp,e];simp,h3,λq hq1 hq2 hq3=>?_,h5⟩;rcases uJ x q with hk|hk
    ·exact h4 q hk hq2 hq3
    ·obtain rfl:q=x:=by omega
     rw[ho] at hq3;cases hq3
   |false=>
    obtain⟨R,e,h3,h4,h5⟩:=OM a h run hrun n (x+1) (c+1) (max mx (run x)) (by omega) (by omega) (by omega);refine⟨R,?_,by omega,λq hq1 hq2 hq3=>?_,?_⟩
    ·rw[ku,hrun x hx ho];simp only[kd,qMA,e,gM,if_true]
     congr 3
     omega
    ·rcases uJ x q with hk|hk
     ·exact h4 q hk hq2 hq3
     ·obtain rfl:q=x:=by omega
      omega
    ·rcases h5 with h5|h5
     ·rcases Nat.le_total mx (run x) with hg|hg
      ·exact .inr ⟨x,hx,ho,by omega⟩
      ·exact .inl (by omega)
     ·exact .inr h5
  ·rw[PJ hx,show a.Read.length-x=0 by omega];exact⟨mx,by simp,ke _,λq h1 h2=>by omega,.inl rfl⟩
theorem qZd (a:Ring) (h:a.Read.length<=1000) (q:Nat) (hq:q<a.Read.length) (ho:rg_okAt a q=false):
  ∃r,QP a (q:Int) FUEL 0=some ((r:Nat):Int)/\(((rg_meas a).length=0/\r=a.Read.length)\/∃k d,k<(rg_meas a).length/\1<=d/\d<=rg_gap a k/\(rg_Mi a k+d) % a.Read.length=q/\r=rg_gap a k+1-d):=by
 by_cases hm:(rg_meas a).length=0
 ·refine⟨a.Read.length,qCs a h q _ hq (ke _) (λd _=>?_) (.inl rfl) FUEL 0 (by rw[wQ];omega) (by omega),.inl ⟨hm,rfl⟩⟩;cases ho:rg_okAt a ((q+d) % a.Read.length) with
  |false=>rfl
  |true=>
   obtain⟨t,ht,_⟩:=AF (kJ _ (by omega)) ho;omega
 ·obtain⟨k,d,hk,h1,h2,h3⟩:=qRP (by omega) hq ho;have hg:=YX hk;have hs:∀e,(q+e) % a.Read.length=(rg_Mi a k+(d+e)) % a.Read.length:=λe=>by rw[<-h3,uO,uT]
  refine⟨rg_gap a k+1-d,qCs a h q _ hq (by omega) (λe he=>?_) (.inr ?_) FUEL 0 (by rw[wQ];omega) (by omega),.inr ⟨k,d,hk,h1,h2,h3,rfl⟩⟩
  ·rw[hs];exact BK hk (by omega) (by omega)
  ·rw[hs,show d+(rg_gap a k+1-d)=rg_gap a k+1 by omega,AT hk];exact(zW (kJ _ (by omega))).2
theorem qNM (a:Ring):(rg_meas a).length+(List.range' 0 a.Read.length).countP (λi=>!rg_okAt a i)=a.Read.length:=by
 have:=List.length_eq_countP_add_countP (rg_okAt a) (l:=List.range a.Read.length);rw[uB] at this;rw[<-gP];unfold rg_meas;rw[<-List.countP_eq_length_filter];have e:(List.range a.Read.length).countP (λi=>!rg_okAt a i)=(List.range a.Read.length).countP (λi=>decide ¬rg_okAt a i=true):=by
  congr 1
  funext i
  cases rg_okAt a i<;>rfl
 rw[e];omega
theorem qEu (a:Ring) (h:a.Read.length<=1000):∃L:Nat,CK a=some (((a.Read.length-(rg_meas a).length:Nat):Int),(L:Int))/\qAm a=some (((a.Read.length-(rg_meas a).length:Nat):Int),(L:Int)):=by
 have hl:(rg_meas a).length<=a.Read.length:=by unfold rg_meas;exact uq (gO _ _) (by simp)
 have hc:=qNM a;have hex:∀q,∃r,q<a.Read.length->rg_okAt a q=false->QP a (q:Int) FUEL 0=some ((r:Nat):Int)/\(((rg_meas a).length=0/\r=a.Read.length)\/∃k d,k<(rg_meas a).length/\1<=d/\d<=rg_gap a k/\(rg_Mi a k+d) % a.Read.length=q/\r=rg_gap a k+1-d):=λq=>by
  by_cases hq:q<a.Read.length/\rg_okAt a q=false
  ·obtain⟨r,hr⟩:=qZd a h q hq.1 hq.2;exact⟨r,λ_ _=>hr⟩
  ·exact⟨0,λh1 h2=>absurd ⟨h1,h2⟩ hq⟩
 obtain⟨run,hrun⟩:∃f:Nat->Nat,∀q,q<a.Read.length->rg_okAt a q=false->QP a (q:Int) FUEL 0=some ((f q:Nat):Int)/\(((rg_meas a).length=0/\f q=a.Read.length)\/∃k d,k<(rg_meas a).length/\1<=d/\d<=rg_gap a k/\(rg_Mi a k+d) % a.Read.length=q/\f q=rg_gap a k+1-d):=
  ⟨λq=>Classical.choose (hex q),λq=>Classical.choose_spec (hex q)⟩
 obtain⟨R2,e2,_,g2,t2⟩:=OM a h run (λq h1 h2=>(hrun q h1 h2).1) FUEL 0 0 0 (by rw[wQ];omega) (by omega) (by omega);have e2':qAm a=some (((a.Read.length-(rg_meas a).length:Nat):Int),(R2:Int)):=by
  unfold qAm;have e3:TP a FUEL 0 0 0=some (((a.Read.length-(rg_meas a).length:Nat):Int),(R2:Int)):=by
   rw[gq,kz] at e2;rw[show a.Read.length-(rg_meas a).length=(List.range' 0 a.Read.length).countP (λi=>!rg_okAt a i) by omega];exact e2
  rw[e3];rfl
 have hw:w64 ((a.Read.length:Int)-((rg_meas a).length:Int))=((a.Read.length-(rg_meas a).length:Nat):Int):=by
  rw[zA (by omega) (by omega)];omega
 unfold CK;rw[qB7 a h];simp only[kd,WK];by_cases hm:(rg_meas a).length=0
 ·have:(((rg_meas a).length:Int)==0)=true:=by simp[hm]
  rw[this,kp,hw];have hR:R2=a.Read.length-(rg_meas a).length:=by
   rw[hm,gq];by_cases hn:a.Read.length=0
   ·rcases t2 with t|⟨q,hq,_⟩<;>omega
   ·have ho:rg_okAt a 0=false:=by
     cases ho:rg_okAt a 0 with
     |false=>rfl
     |true=>
      obtain⟨t,ht,_⟩:=AF (a:=a) (q:=0) (by omega) ho;omega
    have h1:=g2 0 (ke _) (by omega) ho;have rg_val:∀q,q<a.Read.length->rg_okAt a q=false->run q=a.Read.length:=λq h1 h2=>by
     rcases(hrun q h1 h2).2 with⟨_,h3⟩|⟨k,d,hk,_⟩
     ·exact h3
     ·omega
    rw[rg_val 0 (by omega) ho] at h1;rcases t2 with t|⟨q,h3,h4,t⟩
    ·omega
    ·rw[t,rg_val q h3 h4]
  exact⟨R2,by rw[hR],e2'⟩
 ·have:(((rg_meas a).length:Int)==0)=false:=kL.2 (by omega);rw[this,ku,hw];obtain⟨R1,e1,_,g1,t1⟩:=qDT a h FUEL 0 0 (by rw[wQ];omega) (by omega);have e1':DF a (jS (rg_meas a)) FUEL 0 0=some (R1:Int):=e1;rw[e1'];have hR:R1=R2:=by
   apply Nat.le_antisymm
   ·rcases t1 with t|⟨k,hk,t⟩
    ·omega
    ·by_cases hz:rg_gap a k=0
     ·omega
     ·have hg:=YX hk;have ho:=BK hk (ke 1) (by omega);have hq:(rg_Mi a k+1) % a.Read.length<a.Read.length:=kJ _ (by omega);have h1:=g2 _ (kv _) hq ho;have hv:QP a (((rg_Mi a k+1) % a.Read.length:Nat):Int) FUEL 0=some ((rg_gap a k:Nat):Int):=by
       have hs:∀e,((rg_Mi a k+1) % a.Read.length+e) % a.Read.length=(rg_Mi a k+(1+e)) % a.Read.length:=λe=>by rw[uO,uT]
       refine qCs a h _ _ hq (by omega) (λe he=>?_) (.inr ?_) FUEL 0 (by rw[wQ];omega) (by omega)
       ·rw[hs];exact BK hk (by omega) (by omega)
       ·rw[hs,show 1+rg_gap a k=rg_gap a k+1 by omega,AT hk];exact(zW (kJ _ (by omega))).2
      have h2:=(hrun _ hq ho).1;rw[hv] at h2;have h3:rg_gap a k=run ((rg_Mi a k+1) % a.Read.length):=by
       have:=kC h2;omega
      omega
   ·rcases t2 with t|⟨q,h3,h4,t⟩
    ·omega
    ·rcases(hrun q h3 h4).2 with⟨h5,_⟩|⟨k,d,hk,hd1,hd2,_,hr⟩
     ·omega
     ·have:=g1 k (kv _) hk;omega
  exact⟨R2,by rw[hR];rfl,e2'⟩
end Saw
end Go.SL

set_option linter.unusedSectionVars false
namespace Go.SL
namespace Saw
theorem KV (a:Ring):(rg_meas a).length<=a.Read.length:=by unfold rg_meas;exact uq (gO _ _) (by simp)
theorem qF7 (a:Ring) (h:a.Read.length<=1000) {k:Nat} (hk:k<(rg_meas a).length):∀(n c:Nat),1<=c->c<=rg_gap a k+1->rg_gap a k+1<c+n->
  TN a.Read 1 n (((rg_Mi a k+c) % a.Read.length:Nat):Int)=some ((rg_Mi a ((k+1) % (rg_meas a).length):Nat):Int)
 |0,c,h1,h2,h3=>by omega
 |n+1,c,h1,h2,h3=>by
  have h0:=zW hk;have hlt:(rg_Mi a k+c) % a.Read.length<a.Read.length:=kJ _ (by omega);unfold TN;rw[zT (by omega) (by omega),DI (by omega)];simp only[kp,kg];rw[show(a.Read.getD ((rg_Mi a k+c) % a.Read.length) dd).Ok=rg_okAt a ((rg_Mi a k+c) % a.Read.length) from rfl];by_cases hc:c=rg_gap a k+1
  ·subst hc;rw[AT hk,(zW (kJ _ (by omega))).2];rfl
  ·rw[BK hk h1 (by omega)];have e:w64 (w64 ((((rg_Mi a k+c) % a.Read.length:Nat):Int)+1)+(a.Read.length:Int))=(((rg_Mi a k+c) % a.Read.length+1+a.Read.length:Nat):Int):=by
    rw[zA (n:=_+1) (by omega) (by omega),zA (by omega) (by omega)];omega
   rw[e,yQ,uC,uO,uT];exact qF7 a h hk n (c+1) (by omega) (by omega) (by omega)
theorem qFN (a:Ring) (h:a.Read.length<=1000) {k:Nat} (hk:k<(rg_meas a).length):∀(n c:Nat),c<=rg_gap a k->c<n->
  TN a.Read (-1) n (((rg_Mi a k+c) % a.Read.length:Nat):Int)=some ((rg_Mi a k:Nat):Int)
 |0,c,h1,h2=>by omega
 |n+1,c,h1,h2=>by
  have h0:=zW hk;have hg:=YX hk;have hlt:(rg_Mi a k+c) % a.Read.length<a.Read.length:=kJ _ (by omega);unfold TN;rw[zT (by omega) (by omega),DI (by omega)];simp only[kp,kg];rw[show(a.Read.getD ((rg_Mi a k+c) % a.Read.length) dd).Ok=rg_okAt a ((rg_Mi a k+c) % a.Read.length) from rfl];by_cases hc:c=0
  ·subst hc;rw[kX,zP h0.1,h0.2];rfl
  ·rw[BK hk (by omega) h1];have e:w64 (w64 ((((rg_Mi a k+c) % a.Read.length:Nat):Int)+ -1)+(a.Read.length:Int))=(((rg_Mi a k+c) % a.Read.length+(a.Read.length-1):Nat):Int):=by
    rw[zA (n:=_+ -1) (by omega) (by omega),zA (by omega) (by omega)];omega
   rw[e,yQ,uO,show rg_Mi a k+c+(a.Read.length-1)=rg_Mi a k+(c-1)+a.Read.length by omega,uC];exact qFN a h hk n (c-1) (by omega) (by omega)
theorem qP0 (a:Ring) (h:a.Read.length<=1000) {k d:Nat} (hk:k<(rg_meas a).length) (hd:d<=rg_gap a k):
  YW a.Read (((rg_Mi a k+d) % a.Read.length:Nat):Int) 1=some ((rg_Mi a ((k+1) % (rg_meas a).length):Nat):Int):=by
 have h0:=zW hk;have hlt:(rg_Mi a k+d) % a.Read.length<a.Read.length:=kJ _ (by omega);have hg:=YX hk;unfold YW;rw[DI (by omega)];have e:w64 (w64 ((((rg_Mi a k+d) % a.Read.length:Nat):Int)+1)+(a.Read.length:Int))=(((rg_Mi a k+d) % a.Read.length+1+a.Read.length:Nat):Int):=by
  rw[zA (n:=_+1) (by omega) (by omega),zA (by omega) (by omega)];omega
 rw[e,yQ,uC,uO,uT,qF7 a h hk FUEL (d+1) (by omega) (by omega) (by rw[wQ];omega)];rfl
theorem qOB (a:Ring) (h:a.Read.length<=1000) {k d:Nat} (hk:k<(rg_meas a).length) (h1:1<=d) (hd:d<=rg_gap a k+1):
  YW a.Read (((rg_Mi a k+d) % a.Read.length:Nat):Int) (-1)=some ((rg_Mi a k:Nat):Int):=by
 have h0:=zW hk;have hlt:(rg_Mi a k+d) % a.Read.length<a.Read.length:=kJ _ (by omega);have hg:=YX hk;unfold YW;rw[DI (by omega)];have e:w64 (w64 ((((rg_Mi a k+d) % a.Read.length:Nat):Int)+ -1)+(a.Read.length:Int))=(((rg_Mi a k+d) % a.Read.length+(a.Read.length-1):Nat):Int):=by
  rw[zA (n:=_+ -1) (by omega) (by omega),zA (by omega) (by omega)];omega
 rw[e,yQ,uO,show rg_Mi a k+d+(a.Read.length-1)=rg_Mi a k+(d-1)+a.Read.length by omega,uC,qFN a h hk FUEL (d-1) (by omega) (by rw[wQ];omega)];rfl
theorem qXK (a:Ring) (h:a.Read.length<=1000) {k:Nat} (hk:k<(rg_meas a).length):YW a.Read ((rg_Mi a k:Nat):Int) 1=some ((rg_Mi a ((k+1) % (rg_meas a).length):Nat):Int):=by
 have:=qP0 a h hk (kv (rg_gap a k))
 rwa [kX,zP (zW hk).1] at this
theorem qXs (a:Ring) (h:a.Read.length<=1000) {k:Nat} (hk:k<(rg_meas a).length):YW a.Read ((rg_Mi a k:Nat):Int) (-1)=some ((rg_Mi a ((k+((rg_meas a).length-1)) % (rg_meas a).length):Nat):Int):=by
 have hk':(k+((rg_meas a).length-1)) % (rg_meas a).length<(rg_meas a).length:=kJ _ (by omega);have:=qOB a h hk' (show 1<=rg_gap a _+1 by omega) (ke _);rw[AT hk',uO,show k+((rg_meas a).length-1)+1=k+(rg_meas a).length by omega,uC,zP hk] at this;exact this
def rg_farB (p q:qA) (r:Int):Bool:=decide (w64 (p.X-q.X)>r)||(decide (w64 (q.X-p.X)>r)||(decide (w64 (p.Y-q.Y)>r)||decide (w64 (q.Y-p.Y)>r)))
theorem qP8 (x y r:Int):decide (imax x y>r)=(decide (x>r)||decide (y>r)):=by
 unfold imax;by_cases h1:x>r<;>by_cases h2:y>r<;>by_cases h3:y>x<;>simp[h1,h2,h3]<;>omega
theorem qYm (p q:qA) (r:Int):qE2 p q r=some (rg_farB p q r):=by
 unfold qE2 qCj rg_farB;rw[qP8,qP8];cases decide (w64 (p.X-q.X)>r)<;>cases decide (w64 (q.X-p.X)>r)<;>simp
theorem qWC (p q:qA) (r:Int):qCn p q r=some (rg_farB p q r):=by
 unfold qCn GX rg_farB;cases decide (w64 (p.X-q.X)>r)<;>cases decide (w64 (q.X-p.X)>r)<;>cases decide (w64 (p.Y-q.Y)>r)<;>simp
def rg_Pt (a:Ring) (i:Nat):qA:=(a.Read.getD i dd).P
def rg_nb (a:Ring) (k e:Nat):Nat:=rg_Mi a ((k+e) % (rg_meas a).length)
def rg_Ek (a:Ring) (r:Int) (k:Nat):Bool:=rg_farB (rg_Pt a (rg_Mi a k)) (rg_Pt a (rg_nb a k ((rg_meas a).length-1))) r&&rg_farB (rg_Pt a (rg_Mi a k)) (rg_Pt a (rg_nb a k 1)) r
def rg_dropB (a:Ring) (r:Int) (q:Nat):Bool:=(List.range (rg_meas a).length).any λk=>decide (rg_Mi a k=q)&&rg_Ek a r k
theorem qRZ {a:Ring} {i j:Nat} (hi:i<(rg_meas a).length) (hj:j<(rg_meas a).length) (h:rg_Mi a i=rg_Mi a j):i=j:=by
 rcases Nat.lt_trichotomy i j with h1|h1|h1
 ·have:=OQ h1 hj;omega
 ·exact h1
 ·have:=OQ h1 hi;omega
theorem qMD {a:Ring} {r:Int} {k:Nat} (hk:k<(rg_meas a).length):rg_dropB a r (rg_Mi a k)=rg_Ek a r k:=by
 unfold rg_dropB;cases he:rg_Ek a r k with
 |true=>
  rw[gg];exact⟨k,uD.2 hk,by simp[he]⟩
 |false=>
  rw[List.any_eq_false];intro j hj;have hj':=uD.1 hj;by_cases h:rg_Mi a j=rg_Mi a k
  ·rw[qRZ hj' hk h,he];simp
  ·simp[h]
def qIH :qO:=qO.mk (qA.mk 0 0) false
def UD (a:Ring) (r:Int) (l:List qO) (i:Nat):List qO:=bif rg_dropB a r i then l.set i qIH else l
theorem qEg (a:Ring) (r:Int) (l:List qO) (i:Nat):(UD a r l i).length=l.length:=by
 unfold UD;cases rg_dropB a r i<;>simp
theorem qFQ (a:Ring) (r:Int):∀(m:List Nat) (l:List qO),(m.foldl (UD a r) l).length=l.length
 |[],_=>rfl
 |i::m,l=>by rw[uE,qFQ a r m,qEg]
section
variable (a :Ring) (r:Int) (h:a.Read.length<=1000)
include h
theorem qYE (k n:Nat) (b:Bool):yO a r (jS (rg_meas a)) (k:Int) (n+1) b 2=some b:=by
 rw[yO];rfl
theorem qQe (k n:Nat) (hk:k<(rg_meas a).length) (b:Bool) (x x1:Int) (e:Nat) (hx:decide (x<2)=true) (hx2:inb x 2=true) (hx1:w64 (x+1)=x1)
  (he:w64 (w64 ((k:Int)+((rg_meas a).length:Int))+([-1,1]:List Int).getD x.toNat 0)=((k+e:Nat):Int)):
  yO a r (jS (rg_meas a)) (k:Int) (n+1) b x=yO a r (jS (rg_meas a)) (k:Int) n (b&&rg_farB (rg_Pt a (rg_Mi a k)) (rg_Pt a (rg_nb a k e)) r) x1:=by
 have hk':(k+e) % (rg_meas a).length<(rg_meas a).length:=kJ _ (by omega);have h1:=zW hk';have h0:=zW hk;rw[yO,hx,hx2,WK,he,DI (by omega),yQ,zT (by omega) (by omega)];simp only[kp,kg,GG];rw[show(rg_meas a).getD ((k+e) % (rg_meas a).length) 0=rg_nb a k e from rfl,show(rg_meas a).getD k 0=rg_Mi a k from rfl,zT (show 0<=((rg_nb a k e:Nat):Int) by omega) (by unfold rg_nb;omega),zT (show 0<=((rg_Mi a k:Nat):Int) by omega) (by omega)];simp only[kp,kg,qYm,kd,AW,hx1];cases b<;>rfl
theorem qZs (k:Nat) (hk:k<(rg_meas a).length):yO a r (jS (rg_meas a)) (k:Int) FUEL true 0=some (rg_Ek a r k):=by
 have hl:=KV a;rw[wQ,show(9223372036854775808:Nat)=9223372036854775805+1+1+1 from rfl];rw[qQe a r h k _ hk true 0 1 ((rg_meas a).length-1) (by decide) (by decide) (by kernel_rfl) (by
  rw[show([-1,1]:List Int).getD (0:Int).toNat 0= -1 from rfl,zA (n:=(k:Int)+_) (by omega) (by omega),zA (by omega) (by omega)];omega)]
 rw[qQe a r h k _ hk _ 1 2 ((rg_meas a).length+1) (by decide) (by decide) (by kernel_rfl) (by
  rw[show([-1,1]:List Int).getD (1:Int).toNat 0=1 from rfl,zA (n:=(k:Int)+_) (by omega) (by omega),zA (by omega) (by omega)];omega)]
 rw[qYE a r h];have e:rg_nb a k ((rg_meas a).length+1)=rg_nb a k 1:=by
  unfold rg_nb;rw[show k+((rg_meas a).length+1)=k+1+(rg_meas a).length by omega,uC]
 rw[e];simp[rg_Ek]
theorem qJm :∀(n x:Nat) (l:List qO),(rg_meas a).length<x+n->x<=(rg_meas a).length->l.length=a.Read.length->
  JG a r (jS (rg_meas a)) n (x:Int) l=some (((rg_meas a).drop x).foldl (UD a r) l)
 |0,x,l,h1,h2,_=>by omega
 |n+1,x,l,h1,h2,h3=>by
  have hl:=KV a;unfold JG;rw[WK];by_cases hx:x<(rg_meas a).length
  ·have h0:=zW hx;rw[PN hx,zT (by omega) (by omega),qZs a r h x hx,gS hx,uE];have hg:(rg_meas a)[x]=rg_Mi a x:=by have:=qKK hx;rw[kq hx] at this;exact kC this
   rw[hg];simp only[kp,kd,kg,GG,IK,jB x (by omega)];rw[show(rg_meas a).getD x 0=rg_Mi a x from rfl,zT (show 0<=((rg_Mi a x:Nat):Int) by omega) (by omega)];simp only[kp,kg];have ih:=qJm n (x+1) (UD a r l (rg_Mi a x)) (by omega) (by omega) (by rw[qEg];exact h3);rw[<-ih];unfold UD;rw[qMD hx];cases rg_Ek a r x<;>rfl
  ·rw[PJ hx,uz (by omega)];rfl
theorem EM :∀(n x:Nat) (l:List qO),a.Read.length<x+n->x<=a.Read.length->l.length=a.Read.length->
  YN a r n (x:Int) l=some ((List.range' x (a.Read.length-x)).foldl (λl i=>if rg_okAt a i=true then UD a r l i else l) l)
 |0,x,l,h1,h2,_=>by omega
 |n+1,x,l,h1,h2,h3=>by
  unfold YN;by_cases hx:x<a.Read.length
  ·rw[PN hx,zT (by omega) (by omega),show a.Read.length-x=(a.Read.length-(x+1))+1 by omega,List.range'_succ,uE];simp only[kp,kg,qBN,HV,jB x (by omega)];rw[show(a.Read.getD x dd).Ok=rg_okAt a x from rfl];cases ho:rg_okAt a x with
   |false=>exact EM n (x+1) l (by omega) (by omega) h3
   |true=>
    obtain⟨k,hk,hkx⟩:=AF hx ho;subst hkx;have hp:(k+((rg_meas a).length-1)) % (rg_meas a).length<(rg_meas a).length:=kJ _ (by omega);have hn:(k+1) % (rg_meas a).length<(rg_meas a).length:=kJ _ (by omega);have h4:=zW hp;have h5:=zW hn;rw[qXK a h hk,qXs a h hk];simp only[uc,ku,kd,kg];rw[zT (show 0<=((rg_Mi a ((k+((rg_meas a).length-1)) % (rg_meas a).length):Nat):Int) by omega) (by omega),zT (show 0<=((rg_Mi a ((k+1) % (rg_meas a).length):Nat):Int) by omega) (by omega),zT (show 0<=((rg_Mi a k:Nat):Int) by omega) (by omega)];simp only[kp,qWC,kd,if_true]
    have ih:=EM n (rg_Mi a k+1) (UD a r l (rg_Mi a k)) (by omega) (by omega) (by rw[qEg];exact h3);rw[<-ih];unfold UD;rw[qMD hk];unfold rg_Ek rg_nb;rw[show(a.Read.getD (rg_Mi a k) dd).P=rg_Pt a (rg_Mi a k) from rfl,show(a.Read.getD (rg_Mi a ((k+((rg_meas a).length-1)) % (rg_meas a).length)) dd).P=rg_Pt a (rg_Mi a ((k+((rg_meas a).length-1)) % (rg_meas a).length)) from rfl,
     show(a.Read.getD (rg_Mi a ((k+1) % (rg_meas a).length)) dd).P=rg_Pt a (rg_Mi a ((k+1) % (rg_meas a).length)) from rfl]
    cases rg_farB (rg_Pt a (rg_Mi a k)) (rg_Pt a (rg_Mi a ((k+((rg_meas a).length-1)) % (rg_meas a).length))) r<;>cases rg_farB (rg_Pt a (rg_Mi a k)) (rg_Pt a (rg_Mi a ((k+1) % (rg_meas a).length))) r<;>rfl
  ·rw[PJ hx,show a.Read.length-x=0 by omega];rfl
end
def rg_cleaned (a:Ring) (r:Int):Ring:=bif decide (r<0) then a else bif decide (((rg_meas a).length:Int)<2) then a else bif JU a !=0 then a else⟨a.Z,(rg_meas a).foldl (UD a r) a.Read⟩
theorem qSP (a:Ring) (r:Int) (h:a.Read.length<=1000):qAf a r=some (rg_cleaned a r):=by
 have hl:=KV a;unfold qAf BY rg_cleaned;rw[qMp a h,qB7 a h];simp only[kd,IJ,WK];have hL:JG a r (jS (rg_meas a)) FUEL 0 a.Read=some ((rg_meas a).foldl (UD a r) a.Read):=by
  have:=qJm a r h FUEL 0 a.Read (by rw[wQ];omega) (by omega) rfl
  rwa [uK] at this
 rw[hL];cases decide (r<0)<;>cases decide (((rg_meas a).length:Int)<2)<;>cases (JU a !=0)<;>rfl
theorem qVv (a:Ring) (r:Int) (h:a.Read.length<=1000):qHf a r=some (rg_cleaned a r):=by
 have hl:=KV a;obtain⟨L,_,hg⟩:=qEu a h;unfold qHf SN rg_cleaned;rw[hg,qTY a h];simp only[kd,qFB];have hw:w64 ((a.Read.length:Int)-((a.Read.length-(rg_meas a).length:Nat):Int))=((rg_meas a).length:Int):=by
  rw[zA (by omega) (by omega)];omega
 have hL:YN a r FUEL 0 a.Read=some ((rg_meas a).foldl (UD a r) a.Read):=by
  have:=EM a r h FUEL 0 a.Read (by rw[wQ];omega) (by omega) rfl;rw[gq,<-gP,<-List.foldl_filter] at this;exact this
 rw[hw,hL];cases decide (r<0)<;>cases decide (((rg_meas a).length:Int)<2)<;>cases (JU a !=0)<;>rfl
theorem qQG (a:Ring) (r:Int):(rg_cleaned a r).Read.length=a.Read.length:=by
 unfold rg_cleaned;cases decide (r<0)<;>cases decide (((rg_meas a).length:Int)<2)<;>cases (JU a !=0)<;>simp[qFQ]
theorem qT6 (a:Ring) (r:Int):(rg_cleaned a r).Z=a.Z:=by
 unfold rg_cleaned;cases decide (r<0)<;>cases decide (((rg_meas a).length:Int)<2)<;>cases (JU a !=0)<;>rfl
theorem qCm {α:Type} [Inhabited α] {l t:List α} (h:l.length=t.length) (hj:∀j,j<l.length->l.getD j dd=t.getD j dd):l=t:=by
 apply gC h;intro i h1 h2;have:=hj i h1
 rwa [ka,ka,kq h1,kq h2] at this
theorem PH {α:Type} [Inhabited α] {l:List α} {x:Nat} (v:α) (h:x<l.length):(l.set x v).getD x dd=v:=by
 rw[ka,uR h];rfl
theorem JY {α:Type} [Inhabited α] {l:List α} {x j:Nat} (v:α) (h:x≠j):(l.set x v).getD j dd=l.getD j dd:=by
 rw[ka,gx h,<-ka]
theorem AS {α β:Type} [Inhabited α] [Inhabited β] (f:α->β) (l:List α) {j:Nat} (h:j<l.length):(l.map f).getD j dd=f (l.getD j dd):=by
 rw[ka,ka,kG,kq h];rfl
def rg_turnP (q:Nat) (p:qA):qA:=match q with
 |0=>p
 |1=>⟨-p.Y,p.X⟩
 |2=>⟨-p.X,-p.Y⟩
 |_=>⟨p.Y,-p.X⟩
def RN (p:qA):Prop:= -600<=p.X/\p.X<=600/\-600<=p.Y/\p.Y<=600
theorem qSu {p:qA} (q:Nat) (h:RN p):RN (rg_turnP q p):=by
 obtain⟨h1,h2,h3,h4⟩:=h;unfold rg_turnP;split<;>refine⟨?_,?_,?_,?_⟩<;>(try simp only)<;>omega
theorem qDx {r:qO} (h:YK r=0):RN r.P/\(r.Ok=false->r.P=⟨0,0⟩):=by
 unfold YK at h;cases ho:r.Ok with
 |true=>
  rw[ho] at h;cases hr:KS r.P with
  |false=>rw[hr] at h;simp at h
  |true=>
   simp only[KS,kr,decide_eq_true_eq] at hr;exact⟨⟨hr.1.1,hr.1.2,hr.2.1,hr.2.2⟩,λh=>by cases h⟩
 |false=>
  rw[ho] at h;cases hz:qCO r.P with
  |false=>rw[hz] at h;simp at h
  |true=>
   have:r.P=⟨0,0⟩:=by
    obtain⟨⟨x,y⟩,o⟩:=r;simp only[qCO,Bool.and_true,kr,beq_iff_eq] at hz;simp only at hz⊢;rw[hz.1,hz.2]
   rw[this];exact⟨⟨by decide,by decide,by decide,by decide⟩,λ_=>rfl⟩
theorem qGo (l:List qA) (hs:∀p∈l,RN p) (h:l.length<=1000):∀(n x:Nat),l.length<x+n->x<=l.length->ZM l n (x:Int)=some (.inr ())
 |0,x,h1,h2=>by omega
 |n+1,x,h1,h2=>by
  unfold ZM;by_cases hx:x<l.length
  ·have hm:RN (l.getD x dd):=hs _ (by rw[ka,kq hx];exact uv hx);rw[PN hx,zT (by omega) (by omega)];simp only[kp,kg,zaQ,jB x (by omega)];have e1:((l.getD x dd).X== -9223372036854775808)=false:=kL.2 (by have:=hm.1;omega);have e2:((l.getD x dd).Y== -9223372036854775808)=false:=kL.2 (by have:=hm.2.2.1;omega);rw[e1,e2];exact qGo l hs h n (x+1) (by omega) (by omega)
  ·rw[PJ hx];rfl
theorem qOr (l:List qA) (hs:∀p∈l,RN p) (h:l.length<=1000):LK l=some true:=by
 unfold LK;have:=qGo l hs h FUEL 0 (by rw[wQ];omega) (by omega);have h':ZM l FUEL 0=some (.inr ()):=this;rw[h'];rfl
theorem qQk (q:Nat) (hq:q<4) (p:qA) (hs:RN p):
  qA.mk (w64 (w64 ((zK.getD q dd).X*p.X)-w64 ((zK.getD q dd).Y*p.Y))) (w64 (w64 ((zK.getD q dd).Y*p.X)+w64 ((zK.getD q dd).X*p.Y)))=rg_turnP q p:=by
 obtain⟨h1,h2,h3,h4⟩:=hs;obtain⟨x,y⟩:=p;simp only at h1 h2 h3 h4
 match q,hq with
 |0,_=>
  simp only[zK,kZ,rg_turnP,Int.one_mul,Int.zero_mul];rw[zA (n:=x) (by omega) (by omega),zA (n:=y) (by omega) (by omega),zA (n:=0) (by omega) (by omega),zA (by omega) (by omega),zA (by omega) (by omega)]
  congr 1<;>omega
 |1,_=>
  simp only[zK,kZ,gD,rg_turnP,Int.one_mul,Int.zero_mul];rw[zA (n:=x) (by omega) (by omega),zA (n:=y) (by omega) (by omega),zA (n:=0) (by omega) (by omega),zA (by omega) (by omega),zA (by omega) (by omega)]
  congr 1<;>omega
 |2,_=>
  simp only[zK,kZ,gD,rg_turnP,Int.zero_mul];rw[zA (n:= -1*x) (by omega) (by omega),zA (n:= -1*y) (by omega) (by omega),zA (n:=0) (by omega) (by omega),zA (by omega) (by omega),zA (by omega) (by omega)]
  congr 1<;>omega
 |3,_=>
  simp only[zK,kZ,gD,rg_turnP,Int.zero_mul];rw[zA (n:= -1*x) (by omega) (by omega),zA (n:= -1*y) (by omega) (by omega),zA (n:=0) (by omega) (by omega),zA (by omega) (by omega),zA (by omega) (by omega)]
  congr 1<;>omega
theorem qFv (l:List qA) (hs:∀p∈l,RN p) (h:l.length<=1000) (r:Int) (q:Nat) (hq:q<4) (hr:Int.tmod (w64 (Int.tmod r 4+4)) 4=(q:Int)):
  ∀(n x:Nat) (t:List qA),l.length<x+n->x<=l.length->t.length=l.length->(∀j,j<x->t.getD j dd=rg_turnP q (l.getD j dd))->GL l r n t (x:Int)=some (l.map (rg_turnP q))
 |0,x,t,h1,h2,_,_=>by omega
 |n+1,x,t,h1,h2,h3,h4=>by
  unfold GL;by_cases hx:x<l.length
  ·have hm:RN (l.getD x dd):=hs _ (by rw[ka,kq hx];exact uv hx);rw[PN hx,zT (by omega) (by omega),zT (by omega) (by omega),hr];simp only[kp,kg,jB x (by omega)];rw[qQk q hq _ hm];refine qFv l hs h r q hq hr n (x+1) _ (by omega) (by omega) (by rw[gc];exact h3) (λj hj=>?_);by_cases he:x=j
   ·subst he;rw[PH _ (by omega)]
   ·rw[JY _ he];exact h4 j (by omega)
  ·rw[PJ hx];have:t=l.map (rg_turnP q):=qCm (by simp[h3]) (λj hj=>by rw[h4 j (by omega),AS _ _ (by omega)]);rw[this];rfl
theorem qQH (l:List qA) (hs:∀p∈l,RN p) (h:l.length<=1000) (r:Int) (q:Nat) (hq:q<4) (hr:Int.tmod (w64 (Int.tmod r 4+4)) 4=(q:Int)):qCF l r=some (l.map (rg_turnP q)):=by
 unfold qCF;have hmk:mkOk (l.length:Int) 16=true:=by unfold mkOk;exact ki ⟨by omega,by omega,by omega⟩
 have hL:=qFv l hs h r q hq hr FUEL 0 (List.replicate l.length (qA.mk 0 0)) (by rw[wQ];omega) (by omega) (by simp) (λj hj=>by omega);have hL':GL l r FUEL (List.replicate l.length (qA.mk 0 0)) 0=some (l.map (rg_turnP q)):=hL;rw[qOr l hs h,hr,hmk,zT (by omega) (by omega)];simp only[kd,uc,ku,kp,kg,hL']
def VC (q:Nat) (r:qO):qO:=⟨rg_turnP q r.P,r.Ok⟩
def JF (q:Nat) (a:Ring):Ring:=⟨a.Z,a.Read.map (VC q)⟩
theorem qHO (a:Ring) (h:a.Read.length<=1000):∀(n x:Nat) (t:List qA),a.Read.length<x+n->x<=a.Read.length->t.length=a.Read.length->(∀j,j<x->t.getD j dd=(a.Read.getD j dd).P)->
  VR a n t (x:Int)=some (a.Read.map (·.P))
 |0,x,t,h1,h2,_,_=>by omega
 |n+1,x,t,h1,h2,h3,h4=>by
  unfold VR;by_cases hx:x<a.Read.length
  ·rw[PN hx,zT (by omega) (by omega),zT (by omega) (by omega)];simp only[kp,kg,jB x (by omega)];refine qHO a h n (x+1) _ (by omega) (by omega) (by rw[gc];exact h3) (λj hj=>?_);by_cases he:x=j
   ·subst he;rw[PH _ (by omega)]
   ·rw[JY _ he];exact h4 j (by omega)
  ·rw[PJ hx];have:t=a.Read.map (·.P):=qCm (by simp[h3]) (λj hj=>by rw[h4 j (by omega),AS _ _ (by omega)]);rw[this];rfl
theorem qHh (a:Ring) (h:a.Read.length<=1000) (q:Nat):∀(n x:Nat) (t:List qO),a.Read.length<x+n->x<=a.Read.length->t.length=a.Read.length->(∀j,j<x->t.getD j dd=VC q (a.Read.getD j dd))->(∀j,x<=j->t.getD j dd=a.Read.getD j dd)->
  GQ ((a.Read.map (·.P)).map (rg_turnP q)) n (x:Int) t=some (a.Read.map (VC q))
 |0,x,t,h1,h2,_,_,_=>by omega
 |n+1,x,t,h1,h2,h3,h4,h5=>by
  unfold GQ;rw[ga,ga];by_cases hx:x<a.Read.length
  ·rw[PN hx,zT (by omega) (by omega),zT (by omega) (by omega)];simp only[kp,kg,jB x (by omega)];rw[h5 x (ke _),AS _ _ (by simpa using hx),AS _ _ hx];refine qHh a h q n (x+1) _ (by omega) (by omega) (by rw[gc];exact h3) (λj hj=>?_) (λj hj=>?_)
   ·by_cases he:x=j
    ·subst he;rw[PH _ (by omega)];rfl
    ·rw[JY _ he];exact h4 j (by omega)
   ·rw[JY _ (by omega)];exact h5 j (by omega)
  ·rw[PJ hx];have:t=a.Read.map (VC q):=qCm (by simp[h3]) (λj hj=>by rw[h4 j (by omega),AS _ _ (by omega)]);rw[this];rfl
theorem qUJ (a:Ring) (r:Int) (g:QT a) (q:Nat) (hq:q<4) (hr:Int.tmod (w64 (Int.tmod r 4+4)) 4=(q:Int)):qDf a r=some (JF q a):=by
 have hn:=g.hi;unfold qDf;have hmk:mkOk (a.Read.length:Int) 16=true:=by unfold mkOk;exact ki ⟨by omega,by omega,by omega⟩
 have hL:VR a FUEL (List.replicate a.Read.length (qA.mk 0 0)) 0=some (a.Read.map (·.P)):=qHO a (by omega) FUEL 0 _ (by rw[wQ];omega) (by omega) (by simp) (λj hj=>by omega);have hL2:GQ ((a.Read.map (·.P)).map (rg_turnP q)) FUEL 0 a.Read=some (a.Read.map (VC q)):=qHh a (by omega) q FUEL 0 _ (by rw[wQ];omega) (by omega) rfl (λj hj=>by omega) (λ_ _=>rfl);have hp:=qQH (a.Read.map (·.P)) (λp hp=>by
  obtain⟨x,hx,rfl⟩:=uQ.1 hp;exact(qDx (g.all x hx)).1) (by simpa using by omega) r q hq hr
 rw[qMp a (by omega),IJ,(NQ a).2 g,hmk];simp only[kd,kQ,ku,kp,kg,hL,hp,hL2];rfl
theorem qTf (q:Nat):rg_turnP q ⟨0,0⟩=⟨0,0⟩:=by
 unfold rg_turnP;split<;>rfl
end Saw
end Go.SL

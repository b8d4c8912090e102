/- The ring laws' plain mathematics, part 2: the measured readings, their qEf. -/
import Derived.Test.YtigmogcdifllhaaGreatDoorEMa9
set_option linter.unusedVariables false
set_option linter.unusedSimpArgs false
namespace Go.SL
namespace Saw
def rg_okAt (a:Ring) (i:Nat):Bool:=(a.Read.getD i dd).Ok
def rg_meas (a:Ring):List Nat:=(List.range a.Read.length).filter (rg_okAt a)
def rg_Mi (a:Ring) (k:Nat):Nat:=(rg_meas a).getD k 0
def jV (l:List Nat):List Int:=List.map (λi:Nat=>(i:Int)) l
theorem WF (l:List Nat):(jV l).length=l.length:=by simp[jV]
theorem GT (l:List Nat) (k:Nat):(jV l).getD k dd=((l.getD k 0:Nat):Int):=by
 unfold jV;rw[ka,ka,kG];cases l[k]? <;>rfl
theorem wW (x:Nat) (h:x<=1000000):w64 ((x:Int)+1)=((x+1:Nat):Int):=by rw[zB (by omega) (by omega)];omega
theorem PA {x n:Nat} (h:x<n):decide ((x:Int)<((n:Nat):Int))=true:=kf (by omega)
theorem KX {x n:Nat} (h:¬x<n):decide ((x:Int)<((n:Nat):Int))=false:=ko (by omega)
theorem yO (a b:Nat):Int.tmod (a:Int) (b:Int)=((a % b:Nat):Int):=rfl
theorem qE3 (a:Ring):∀(n x:Nat) (l:List Int),a.Read.length<x+n->x<=a.Read.length->a.Read.length<=1000->l.length<=x->
  QD a n l (x:Int)=some (l++jV ((List.range' x (a.Read.length-x)).filter (rg_okAt a)))
 |0,x,l,h1,h2,_,_=>by omega
 |n+1,x,l,h1,h2,h3,h4=>by
  unfold QD;by_cases hx:x<a.Read.length
  ·rw[PA hx,zS (by omega) (by omega),show a.Read.length-x=(a.Read.length-(x+1))+1 by omega,List.range'_succ,List.filter_cons,qGt (n:=l.length+1) (by omega)];simp only[kp,ki,DM,wW x (by omega)];rw[show(a.Read.getD x dd).Ok=rg_okAt a x from rfl];cases hk:rg_okAt a x with
   |true=>
    rw[kp,qE3 a n (x+1) _ (by omega) (by omega) h3 (by simp;omega)];simp[jV]
   |false=>
    rw[ku,qE3 a n (x+1) _ (by omega) (by omega) h3 (by omega)];simp
  ·rw[KX hx,show a.Read.length-x=0 by omega];simp[jV]
theorem qA5 (a:Ring) (h:a.Read.length<=1000):KB a=some (jV (rg_meas a)):=by
 unfold KB;have:=qE3 a FUEL 0 [] (by rw[wO];omega) (by omega) h (by simp);have h':QD a FUEL [] 0=some (jV (rg_meas a)):=by
  rw[show(0:Int)=((0:Nat):Int) from rfl,this,uq,go,<-gO];rfl
 rw[h'];rfl
theorem qKm {a:Ring} {k:Nat} (h:k<(rg_meas a).length):(rg_meas a)[k]? =some (rg_Mi a k):=by
 unfold rg_Mi;rw[ka,kq h];rfl
theorem zW {a:Ring} {k:Nat} (h:k<(rg_meas a).length):rg_Mi a k<a.Read.length/\rg_okAt a (rg_Mi a k)=true:=by
 have:=uY (qKm h);unfold rg_meas at this;rw[List.mem_filter,uC] at this;exact this
theorem EO {a:Ring} {q:Nat} (h1:q<a.Read.length) (h2:rg_okAt a q=true):∃t,t<(rg_meas a).length/\rg_Mi a t=q:=by
 have hm:q∈rg_meas a:=by unfold rg_meas;rw[List.mem_filter,uC];exact⟨h1,h2⟩
 obtain⟨t,ht,he⟩:=uF.1 hm;exact⟨t,ht,by unfold rg_Mi;rw[ka,kq ht,he];rfl⟩
theorem IH {a:Ring} {i j:Nat} (hij:i<j) (hj:j<(rg_meas a).length):rg_Mi a i<rg_Mi a j:=by
 have hp:(rg_meas a).Pairwise (·<·):=List.Pairwise.filter _ List.pairwise_lt_range;have h1:=gw.1 hp i j (by omega) hj hij;have e1:(rg_meas a)[i]'(by omega)=rg_Mi a i:=by unfold rg_Mi;rw[ka,kq (by omega)];rfl
 have e2:(rg_meas a)[j]=rg_Mi a j:=by unfold rg_Mi;rw[ka,kq hj];rfl
 rwa [e1,e2] at h1
theorem LC {a:Ring} {i j:Nat} (hij:i<=j) (hj:j<(rg_meas a).length):rg_Mi a i<=rg_Mi a j:=by
 rcases Nat.lt_or_eq_of_le hij with h|rfl
 ·exact Nat.le_of_lt (IH h hj)
 ·exact ke _
def rg_gap (a:Ring) (k:Nat):Nat:=if k+1<(rg_meas a).length then rg_Mi a (k+1)-rg_Mi a k-1 else rg_Mi a 0+a.Read.length-rg_Mi a k-1
theorem qKH (a:Ring) (h:a.Read.length<=1000) {k:Nat} (hk:k<(rg_meas a).length):NH a (jV (rg_meas a)) (k:Int)=some ((rg_gap a k:Nat):Int):=by
 have h0:=zW hk;have hl:(rg_meas a).length<=a.Read.length:=by unfold rg_meas;exact uo (gN _ _) (by simp)
 unfold NH rg_gap;rw[wW k (by omega),WF];by_cases hk1:k+1<(rg_meas a).length
 ·have h1:=zW hk1;have h2:=IH (a:=a) (show k<k+1 by omega) hk1;rw[PA hk1,zS (by omega) (by omega),zS (by omega) (by omega),if_pos hk1];simp only[kp,ki,GT];rw[show(rg_meas a).getD (k+1) 0=rg_Mi a (k+1) from rfl,show(rg_meas a).getD k 0=rg_Mi a k from rfl];rw[zB (n:=((rg_Mi a (k+1):Nat):Int)-_) (by omega) (by omega),zB (by omega) (by omega)]
  congr 1
  omega
 ·have h1:=zW (a:=a) (k:=0) (by omega);have h2:=LC (a:=a) (kv k) hk;rw[KX hk1,ku,zS (by omega) (by omega),zS (by omega) (by omega),if_neg hk1];simp only[kp,ki,gy,GT];rw[show(rg_meas a).getD 0 0=rg_Mi a 0 from rfl,show(rg_meas a).getD k 0=rg_Mi a k from rfl];rw[zB (n:=((rg_Mi a 0:Nat):Int)+_) (by omega) (by omega),zB (n:=((rg_Mi a 0:Nat):Int)+_-_) (by omega) (by omega),zB (by omega) (by omega)]
  congr 1
  omega
theorem zQ {x n:Nat} (h:x<n):x % n=x:=uv h
theorem QI {x n:Nat} (h1:n<=x) (h2:x<2*n):x % n=x-n:=by
 rw[Nat.mod_eq_sub_mod h1,uv (by omega)]
theorem YT {a:Ring} {k:Nat} (hk:k<(rg_meas a).length):rg_gap a k+1<=a.Read.length:=by
 have h0:=zW hk;unfold rg_gap;split
 ·rename_i h;have:=zW h;omega
 ·have:=LC (a:=a) (kv k) hk;omega
theorem BD {a:Ring} {k d:Nat} (hk:k<(rg_meas a).length) (h1:1<=d) (h2:d<=rg_gap a k):rg_okAt a ((rg_Mi a k+d) % a.Read.length)=false:=by
 have h0:=zW hk;have hg:=YT hk;cases ho:rg_okAt a ((rg_Mi a k+d) % a.Read.length) with
 |false=>rfl
 |true=>
  obtain⟨t,ht,he⟩:=EO (kJ _ (by omega)) ho;unfold rg_gap at h2;split at h2
  ·rename_i hk1;have h3:=zW hk1;rw[zQ (by omega)] at he;rcases uH t (k+1) with h|h
   ·have:=LC (a:=a) (show t<=k by omega) hk;omega
   ·have:=LC (a:=a) h ht;omega
  ·rename_i hk1;have ht':=LC (a:=a) (show t<=k by omega) hk;have hz:=LC (a:=a) (kv t) ht;by_cases hc:rg_Mi a k+d<a.Read.length
   ·rw[zQ hc] at he;omega
   ·rw[QI (by omega) (by omega)] at he;omega
theorem EK {a:Ring} {k:Nat} (hk:k<(rg_meas a).length):(rg_Mi a k+(rg_gap a k+1)) % a.Read.length=rg_Mi a ((k+1) % (rg_meas a).length):=by
 have h0:=zW hk;unfold rg_gap;split
 ·rename_i hk1;have h3:=zW hk1;have h4:=IH (a:=a) (show k<k+1 by omega) hk1;rw[zQ hk1,show rg_Mi a k+(rg_Mi a (k+1)-rg_Mi a k-1+1)=rg_Mi a (k+1) by omega,zQ h3.1]
 ·rename_i hk1;have hz:=zW (a:=a) (k:=0) (by omega);have hle:=LC (a:=a) (kv k) hk;rw[show k+1=(rg_meas a).length by omega,Nat.mod_self,show rg_Mi a k+(rg_Mi a 0+a.Read.length-rg_Mi a k-1+1)=rg_Mi a 0+a.Read.length by omega,uB,zQ hz.1]
theorem qI4 (a:Ring) (q:Nat):∀(m j:Nat),(rg_meas a).length=j+m->1<=m->rg_Mi a j<q->∃k,k<(rg_meas a).length/\rg_Mi a k<q/\(k+1<(rg_meas a).length->q<=rg_Mi a (k+1))
 |0,_,_,h,_=>by omega
 |m+1,j,hm,_,hj=>by
  by_cases h:j+1<(rg_meas a).length
  ·by_cases hq:rg_Mi a (j+1)<q
   ·exact qI4 a q m (j+1) (by omega) (by omega) hq
   ·exact⟨j,by omega,hj,λ_=>by omega⟩
  ·exact⟨j,by omega,hj,λh'=>absurd h' h⟩
theorem qRA {a:Ring} {q:Nat} (hm:1<=(rg_meas a).length) (hq:q<a.Read.length) (ho:rg_okAt a q=false):∃k d,k<(rg_meas a).length/\1<=d/\d<=rg_gap a k/\(rg_Mi a k+d) % a.Read.length=q:=by
 have hne:∀t,t<(rg_meas a).length->rg_Mi a t≠q:=λt ht he=>by
  have:=(zW ht).2;rw[he,ho] at this;cases this
 by_cases h0:rg_Mi a 0<q
 ·obtain⟨k,hk,h1,h2⟩:=qI4 a q (rg_meas a).length 0 (by omega) hm h0;refine⟨k,q-rg_Mi a k,hk,by omega,?_,by rw[show rg_Mi a k+(q-rg_Mi a k)=q by omega,zQ hq]⟩;unfold rg_gap;split
  ·rename_i hk1;have:=hne (k+1) hk1;have:=h2 hk1;omega
  ·omega
 ·have hne0:=hne 0 (by omega);have hlast:(rg_meas a).length-1<(rg_meas a).length:=by omega
  have hl:=zW (a:=a) hlast;have hle:=LC (a:=a) (kv ((rg_meas a).length-1)) hlast;refine⟨(rg_meas a).length-1,q+a.Read.length-rg_Mi a ((rg_meas a).length-1),hlast,by omega,?_,?_⟩
  ·unfold rg_gap;rw[if_neg (by omega)];omega
  ·rw[show rg_Mi a ((rg_meas a).length-1)+(q+a.Read.length-rg_Mi a ((rg_meas a).length-1))=q+a.Read.length by omega,uB,zQ hq]
theorem qL1 (x y:Nat):imax (x:Int) (y:Int)=((max x y:Nat):Int):=by
 unfold imax;split<;>omega
theorem qDC (a:Ring) (h:a.Read.length<=1000):∀(n x mx:Nat),(rg_meas a).length<x+n->x<=(rg_meas a).length->
  ∃R:Nat,GM a (jV (rg_meas a)) n (mx:Int) (x:Int)=some (R:Int)/\mx<=R/\(∀k,x<=k->k<(rg_meas a).length->rg_gap a k<=R)/\(R=mx\/∃k,k<(rg_meas a).length/\R=rg_gap a k)
 |0,x,mx,h1,h2=>by omega
 |n+1,x,mx,h1,h2=>by
  have hl:(rg_meas a).length<=a.Read.length:=by unfold rg_meas;exact uo (gN _ _) (by simp)
  unfold GM;rw[WF];by_cases hx:x<(rg_meas a).length
  ·rw[PA hx,qKH a h hx];simp only[kp,kd,qL1,wW x (by omega)];obtain⟨R,e,h3,h4,h5⟩:=qDC a h n (x+1) (max mx (rg_gap a x)) (by omega) (by omega);refine⟨R,e,by omega,λk hk1 hk2=>?_,?_⟩
   ·rcases uH x k with hk|hk
    ·exact h4 k hk hk2
    ·obtain rfl:k=x:=by omega
     omega
   ·rcases h5 with h5|h5
    ·rcases Nat.le_total mx (rg_gap a x) with hg|hg
     ·exact .inr ⟨x,hx,by omega⟩
     ·exact .inl (by omega)
    ·exact .inr h5
  ·rw[KX hx];exact⟨mx,rfl,ke _,λk hk1 hk2=>by omega,.inl rfl⟩
theorem qBY (a:Ring) (h:a.Read.length<=1000) (q r:Nat) (hq:q<a.Read.length) (hr:r<=a.Read.length) (h1:∀d,d<r->rg_okAt a ((q+d) % a.Read.length)=false) (h2:r=a.Read.length\/rg_okAt a ((q+r) % a.Read.length)=true):
  ∀(n x:Nat),r<x+n->x<=r->QM a (q:Int) n (x:Int)=some (r:Int)
 |0,x,h3,h4=>by omega
 |n+1,x,h3,h4=>by
  unfold QM;by_cases hx:x<a.Read.length
  ·have e:w64 ((q:Int)+(x:Int))=((q+x:Nat):Int):=by rw[zB (by omega) (by omega)];omega
   have hm:(q+x) % a.Read.length<a.Read.length:=kJ _ (by omega);rw[PA hx,GR (by omega),e,yO,zS (by omega) (by omega)];simp only[kp,ki,qC4,wW x (by omega)];rw[show(a.Read.getD ((q+x) % a.Read.length) dd).Ok=rg_okAt a ((q+x) % a.Read.length) from rfl];by_cases hxr:x<r
   ·rw[h1 x hxr];exact qBY a h q r hq hr h1 h2 n (x+1) (by omega) (by omega)
   ·obtain rfl:x=r:=by omega
    rcases h2 with h2|h2
    ·omega
    ·rw[h2];rfl
  ·rw[KX hx];obtain rfl:x=r:=by omega
   rfl
theorem OP (a:Ring) (h:a.Read.length<=1000) (run:Nat->Nat) (hrun:∀q,q<a.Read.length->rg_okAt a q=false->QM a (q:Int) FUEL 0=some ((run q:Nat):Int)):∀(n x c mx:Nat),a.Read.length<x+n->x<=a.Read.length->c<=x->
  ∃R:Nat,RS a n (c:Int) (mx:Int) (x:Int)=some (((c+(List.range' x (a.Read.length-x)).countP (λi=>!rg_okAt a i):Nat):Int),(R:Int))/\mx<=R/\(∀q,x<=q->q<a.Read.length->rg_okAt a q=false->run q<=R)/\(R=mx\/∃q,q<a.Read.length/\rg_okAt a q=false/\R=run q)
 |0,x,c,mx,h1,h2,_=>by omega
 |n+1,x,c,mx,h1,h2,hc=>by
  unfold RS;by_cases hx:x<a.Read.length
  ·rw[PA hx,zS (by omega) (by omega),show a.Read.length-x=(a.Read.length-(x+1))+1 by omega,List.range'_succ,List.countP_cons];simp only[kp,ki,qDo,wW x (by omega),wW c (by omega)];rw[show(a.Read.getD x dd).Ok=rg_okAt a x from rfl];cases ho:rg_okAt a x with
   |true=>
    obtain⟨R,e,h3,h4,h5⟩:=OP a h run hrun n (x+1) c mx (by omega) (by omega) (by omega);refine⟨R,by rw[kp,e];simp,h3,λq hq1 hq2 hq3=>?_,h5⟩;rcases uH x q with hk|hk
    ·exact h4 q hk hq2 hq3
    ·obtain rfl:q=x:=by omega
     rw[ho] at hq3;cases hq3
   |false=>
    obtain⟨R,e,h3,h4,h5⟩:=OP a h run hrun n (x+1) (c+1) (max mx (run x)) (by omega) (by omega) (by omega);refine⟨R,?_,by omega,λq hq1 hq2 hq3=>?_,?_⟩
    ·rw[ku,hrun x hx ho];simp only[kd,qL1,e,gL,if_true]
     congr 3
     omega
    ·rcases uH x q with hk|hk
     ·exact h4 q hk hq2 hq3
     ·obtain rfl:q=x:=by omega
      omega
    ·rcases h5 with h5|h5
     ·rcases Nat.le_total mx (run x) with hg|hg
      ·exact .inr ⟨x,hx,ho,by omega⟩
      ·exact .inl (by omega)
     ·exact .inr h5
  ·rw[KX hx,show a.Read.length-x=0 by omega];exact⟨mx,by simp,ke _,λq h1 h2=>by omega,.inl rfl⟩
theorem qYo (a:Ring) (h:a.Read.length<=1000) (q:Nat) (hq:q<a.Read.length) (ho:rg_okAt a q=false):
  ∃r,QM a (q:Int) FUEL 0=some ((r:Nat):Int)/\(((rg_meas a).length=0/\r=a.Read.length)\/∃k d,k<(rg_meas a).length/\1<=d/\d<=rg_gap a k/\(rg_Mi a k+d) % a.Read.length=q/\r=rg_gap a k+1-d):=by
 by_cases hm:(rg_meas a).length=0
 ·refine⟨a.Read.length,qBY a h q _ hq (ke _) (λd _=>?_) (.inl rfl) FUEL 0 (by rw[wO];omega) (by omega),.inl ⟨hm,rfl⟩⟩;cases ho:rg_okAt a ((q+d) % a.Read.length) with
  |false=>rfl
  |true=>
   obtain⟨t,ht,_⟩:=EO (kJ _ (by omega)) ho;omega
 ·obtain⟨k,d,hk,h1,h2,h3⟩:=qRA (by omega) hq ho;have hg:=YT hk;have hs:∀e,(q+e) % a.Read.length=(rg_Mi a k+(d+e)) % a.Read.length:=λe=>by rw[<-h3,uM,uR]
  refine⟨rg_gap a k+1-d,qBY a h q _ hq (by omega) (λe he=>?_) (.inr ?_) FUEL 0 (by rw[wO];omega) (by omega),.inr ⟨k,d,hk,h1,h2,h3,rfl⟩⟩
  ·rw[hs];exact BD hk (by omega) (by omega)
  ·rw[hs,show d+(rg_gap a k+1-d)=rg_gap a k+1 by omega,EK hk];exact(zW (kJ _ (by omega))).2
theorem qMv (a:Ring):(rg_meas a).length+(List.range' 0 a.Read.length).countP (λi=>!rg_okAt a i)=a.Read.length:=by
 have:=List.length_eq_countP_add_countP (rg_okAt a) (l:=List.range a.Read.length);rw[uA] at this;rw[<-gO];unfold rg_meas;rw[<-List.countP_eq_length_filter];have e:(List.range a.Read.length).countP (λi=>!rg_okAt a i)=(List.range a.Read.length).countP (λi=>decide ¬rg_okAt a i=true):=by
  congr 1
  funext i
  cases rg_okAt a i<;>rfl
 rw[e];omega
theorem qEf (a:Ring) (h:a.Read.length<=1000):∃L:Nat,OQ a=some (((a.Read.length-(rg_meas a).length:Nat):Int),(L:Int))/\qAS a=some (((a.Read.length-(rg_meas a).length:Nat):Int),(L:Int)):=by
 have hl:(rg_meas a).length<=a.Read.length:=by unfold rg_meas;exact uo (gN _ _) (by simp)
 have hc:=qMv a;have hex:∀q,∃r,q<a.Read.length->rg_okAt a q=false->QM a (q:Int) FUEL 0=some ((r:Nat):Int)/\(((rg_meas a).length=0/\r=a.Read.length)\/∃k d,k<(rg_meas a).length/\1<=d/\d<=rg_gap a k/\(rg_Mi a k+d) % a.Read.length=q/\r=rg_gap a k+1-d):=λq=>by
  by_cases hq:q<a.Read.length/\rg_okAt a q=false
  ·obtain⟨r,hr⟩:=qYo a h q hq.1 hq.2;exact⟨r,λ_ _=>hr⟩
  ·exact⟨0,λh1 h2=>absurd ⟨h1,h2⟩ hq⟩
 obtain⟨run,hrun⟩:∃f:Nat->Nat,∀q,q<a.Read.length->rg_okAt a q=false->QM a (q:Int) FUEL 0=some ((f q:Nat):Int)/\(((rg_meas a).length=0/\f q=a.Read.length)\/∃k d,k<(rg_meas a).length/\1<=d/\d<=rg_gap a k/\(rg_Mi a k+d) % a.Read.length=q/\f q=rg_gap a k+1-d):=
  ⟨λq=>Classical.choose (hex q),λq=>Classical.choose_spec (hex q)⟩
 obtain⟨R2,e2,_,g2,t2⟩:=OP a h run (λq h1 h2=>(hrun q h1 h2).1) FUEL 0 0 0 (by rw[wO];omega) (by omega) (by omega);have e2':qAS a=some (((a.Read.length-(rg_meas a).length:Nat):Int),(R2:Int)):=by
  unfold qAS;have e3:RS a FUEL 0 0 0=some (((a.Read.length-(rg_meas a).length:Nat):Int),(R2:Int)):=by
   rw[go,kz] at e2;rw[show a.Read.length-(rg_meas a).length=(List.range' 0 a.Read.length).countP (λi=>!rg_okAt a i) by omega];exact e2
  rw[e3];rfl
 have hw:w64 ((a.Read.length:Int)-((rg_meas a).length:Int))=((a.Read.length-(rg_meas a).length:Nat):Int):=by
  rw[zB (by omega) (by omega)];omega
 unfold OQ;rw[qA5 a h];simp only[kd,WF];by_cases hm:(rg_meas a).length=0
 ·have:(((rg_meas a).length:Int)==0)=true:=by simp[hm]
  rw[this,kp,hw];have hR:R2=a.Read.length-(rg_meas a).length:=by
   rw[hm,go];by_cases hn:a.Read.length=0
   ·rcases t2 with t|⟨q,hq,_⟩<;>omega
   ·have ho:rg_okAt a 0=false:=by
     cases ho:rg_okAt a 0 with
     |false=>rfl
     |true=>
      obtain⟨t,ht,_⟩:=EO (a:=a) (q:=0) (by omega) ho;omega
    have h1:=g2 0 (ke _) (by omega) ho;have rg_val:∀q,q<a.Read.length->rg_okAt a q=false->run q=a.Read.length:=λq h1 h2=>by
     rcases(hrun q h1 h2).2 with⟨_,h3⟩|⟨k,d,hk,_⟩
     ·exact h3
     ·omega
    rw[rg_val 0 (by omega) ho] at h1;rcases t2 with t|⟨q,h3,h4,t⟩
    ·omega
    ·rw[t,rg_val q h3 h4]
  exact⟨R2,by rw[hR],e2'⟩
 ·have:(((rg_meas a).length:Int)==0)=false:=kR.2 (by omega);rw[this,ku,hw];obtain⟨R1,e1,_,g1,t1⟩:=qDC a h FUEL 0 0 (by rw[wO];omega) (by omega);have e1':GM a (jV (rg_meas a)) FUEL 0 0=some (R1:Int):=e1;rw[e1'];have hR:R1=R2:=by
   apply Nat.le_antisymm
   ·rcases t1 with t|⟨k,hk,t⟩
    ·omega
    ·by_cases hz:rg_gap a k=0
     ·omega
     ·have hg:=YT hk;have ho:=BD hk (ke 1) (by omega);have hq:(rg_Mi a k+1) % a.Read.length<a.Read.length:=kJ _ (by omega);have h1:=g2 _ (kv _) hq ho;have hv:QM a (((rg_Mi a k+1) % a.Read.length:Nat):Int) FUEL 0=some ((rg_gap a k:Nat):Int):=by
       have hs:∀e,((rg_Mi a k+1) % a.Read.length+e) % a.Read.length=(rg_Mi a k+(1+e)) % a.Read.length:=λe=>by rw[uM,uR]
       refine qBY a h _ _ hq (by omega) (λe he=>?_) (.inr ?_) FUEL 0 (by rw[wO];omega) (by omega)
       ·rw[hs];exact BD hk (by omega) (by omega)
       ·rw[hs,show 1+rg_gap a k=rg_gap a k+1 by omega,EK hk];exact(zW (kJ _ (by omega))).2
      have h2:=(hrun _ hq ho).1;rw[hv] at h2;have h3:rg_gap a k=run ((rg_Mi a k+1) % a.Read.length):=by
       have:=kC h2;omega
      omega
   ·rcases t2 with t|⟨q,h3,h4,t⟩
    ·omega
    ·rcases(hrun q h3 h4).2 with⟨h5,_⟩|⟨k,d,hk,hd1,hd2,_,hr⟩
     ·omega
     ·have:=g1 k (kv _) hk;omega
  exact⟨R2,by rw[hR];rfl,e2'⟩
end Saw
end Go.SL

set_option linter.unusedSectionVars false
namespace Go.SL
namespace Saw
theorem KN (a:Ring):(rg_meas a).length<=a.Read.length:=by unfold rg_meas;exact uo (gN _ _) (by simp)
theorem qGe (a:Ring) (h:a.Read.length<=1000) {k:Nat} (hk:k<(rg_meas a).length):∀(n c:Nat),1<=c->c<=rg_gap a k+1->rg_gap a k+1<c+n->
  RU a.Read 1 n (((rg_Mi a k+c) % a.Read.length:Nat):Int)=some ((rg_Mi a ((k+1) % (rg_meas a).length):Nat):Int)
 |0,c,h1,h2,h3=>by omega
 |n+1,c,h1,h2,h3=>by
  have h0:=zW hk;have hlt:(rg_Mi a k+c) % a.Read.length<a.Read.length:=kJ _ (by omega);unfold RU;rw[zS (by omega) (by omega),GR (by omega)];simp only[kp,ki];rw[show(a.Read.getD ((rg_Mi a k+c) % a.Read.length) dd).Ok=rg_okAt a ((rg_Mi a k+c) % a.Read.length) from rfl];by_cases hc:c=rg_gap a k+1
  ·subst hc;rw[EK hk,(zW (kJ _ (by omega))).2];rfl
  ·rw[BD hk h1 (by omega)];have e:w64 (w64 ((((rg_Mi a k+c) % a.Read.length:Nat):Int)+1)+(a.Read.length:Int))=(((rg_Mi a k+c) % a.Read.length+1+a.Read.length:Nat):Int):=by
    rw[zB (n:=_+1) (by omega) (by omega),zB (by omega) (by omega)];omega
   rw[e,yO,uB,uM,uR];exact qGe a h hk n (c+1) (by omega) (by omega) (by omega)
theorem qFG (a:Ring) (h:a.Read.length<=1000) {k:Nat} (hk:k<(rg_meas a).length):∀(n c:Nat),c<=rg_gap a k->c<n->
  RU a.Read (-1) n (((rg_Mi a k+c) % a.Read.length:Nat):Int)=some ((rg_Mi a k:Nat):Int)
 |0,c,h1,h2=>by omega
 |n+1,c,h1,h2=>by
  have h0:=zW hk;have hg:=YT hk;have hlt:(rg_Mi a k+c) % a.Read.length<a.Read.length:=kJ _ (by omega);unfold RU;rw[zS (by omega) (by omega),GR (by omega)];simp only[kp,ki];rw[show(a.Read.getD ((rg_Mi a k+c) % a.Read.length) dd).Ok=rg_okAt a ((rg_Mi a k+c) % a.Read.length) from rfl];by_cases hc:c=0
  ·subst hc;rw[kY,zQ h0.1,h0.2];rfl
  ·rw[BD hk (by omega) h1];have e:w64 (w64 ((((rg_Mi a k+c) % a.Read.length:Nat):Int)+ -1)+(a.Read.length:Int))=(((rg_Mi a k+c) % a.Read.length+(a.Read.length-1):Nat):Int):=by
    rw[zB (n:=_+ -1) (by omega) (by omega),zB (by omega) (by omega)];omega
   rw[e,yO,uM,show rg_Mi a k+c+(a.Read.length-1)=rg_Mi a k+(c-1)+a.Read.length by omega,uB];exact qFG a h hk n (c-1) (by omega) (by omega)
theorem qOR (a:Ring) (h:a.Read.length<=1000) {k d:Nat} (hk:k<(rg_meas a).length) (hd:d<=rg_gap a k):
  YO a.Read (((rg_Mi a k+d) % a.Read.length:Nat):Int) 1=some ((rg_Mi a ((k+1) % (rg_meas a).length):Nat):Int):=by
 have h0:=zW hk;have hlt:(rg_Mi a k+d) % a.Read.length<a.Read.length:=kJ _ (by omega);have hg:=YT hk;unfold YO;rw[GR (by omega)];have e:w64 (w64 ((((rg_Mi a k+d) % a.Read.length:Nat):Int)+1)+(a.Read.length:Int))=(((rg_Mi a k+d) % a.Read.length+1+a.Read.length:Nat):Int):=by
  rw[zB (n:=_+1) (by omega) (by omega),zB (by omega) (by omega)];omega
 rw[e,yO,uB,uM,uR,qGe a h hk FUEL (d+1) (by omega) (by omega) (by rw[wO];omega)];rfl
theorem qNT (a:Ring) (h:a.Read.length<=1000) {k d:Nat} (hk:k<(rg_meas a).length) (h1:1<=d) (hd:d<=rg_gap a k+1):
  YO a.Read (((rg_Mi a k+d) % a.Read.length:Nat):Int) (-1)=some ((rg_Mi a k:Nat):Int):=by
 have h0:=zW hk;have hlt:(rg_Mi a k+d) % a.Read.length<a.Read.length:=kJ _ (by omega);have hg:=YT hk;unfold YO;rw[GR (by omega)];have e:w64 (w64 ((((rg_Mi a k+d) % a.Read.length:Nat):Int)+ -1)+(a.Read.length:Int))=(((rg_Mi a k+d) % a.Read.length+(a.Read.length-1):Nat):Int):=by
  rw[zB (n:=_+ -1) (by omega) (by omega),zB (by omega) (by omega)];omega
 rw[e,yO,uM,show rg_Mi a k+d+(a.Read.length-1)=rg_Mi a k+(d-1)+a.Read.length by omega,uB,qFG a h hk FUEL (d-1) (by omega) (by rw[wO];omega)];rfl
theorem qXn (a:Ring) (h:a.Read.length<=1000) {k:Nat} (hk:k<(rg_meas a).length):YO a.Read ((rg_Mi a k:Nat):Int) 1=some ((rg_Mi a ((k+1) % (rg_meas a).length):Nat):Int):=by
 have:=qOR a h hk (kv (rg_gap a k))
 rwa [kY,zQ (zW hk).1] at this
theorem qXr (a:Ring) (h:a.Read.length<=1000) {k:Nat} (hk:k<(rg_meas a).length):YO a.Read ((rg_Mi a k:Nat):Int) (-1)=some ((rg_Mi a ((k+((rg_meas a).length-1)) % (rg_meas a).length):Nat):Int):=by
 have hk':(k+((rg_meas a).length-1)) % (rg_meas a).length<(rg_meas a).length:=kJ _ (by omega);have:=qNT a h hk' (show 1<=rg_gap a _+1 by omega) (ke _);rw[EK hk',uM,show k+((rg_meas a).length-1)+1=k+(rg_meas a).length by omega,uB,zQ hk] at this;exact this
def rg_farB (p q:qA) (r:Int):Bool:=decide (w64 (p.X-q.X)>r)||(decide (w64 (q.X-p.X)>r)||(decide (w64 (p.Y-q.Y)>r)||decide (w64 (q.Y-p.Y)>r)))
theorem qPY (x y r:Int):decide (imax x y>r)=(decide (x>r)||decide (y>r)):=by
 unfold imax;by_cases h1:x>r<;>by_cases h2:y>r<;>by_cases h3:y>x<;>simp[h1,h2,h3]<;>omega
theorem qXY (p q:qA) (r:Int):qE7 p q r=some (rg_farB p q r):=by
 unfold qE7 qB4 rg_farB;rw[qPY,qPY];cases decide (w64 (p.X-q.X)>r)<;>cases decide (w64 (q.X-p.X)>r)<;>simp
theorem qV2 (p q:qA) (r:Int):qB5 p q r=some (rg_farB p q r):=by
 unfold qB5 GL rg_farB;cases decide (w64 (p.X-q.X)>r)<;>cases decide (w64 (q.X-p.X)>r)<;>cases decide (w64 (p.Y-q.Y)>r)<;>simp
def rg_Pt (a:Ring) (i:Nat):qA:=(a.Read.getD i dd).P
def rg_nb (a:Ring) (k e:Nat):Nat:=rg_Mi a ((k+e) % (rg_meas a).length)
def rg_Ek (a:Ring) (r:Int) (k:Nat):Bool:=rg_farB (rg_Pt a (rg_Mi a k)) (rg_Pt a (rg_nb a k ((rg_meas a).length-1))) r&&rg_farB (rg_Pt a (rg_Mi a k)) (rg_Pt a (rg_nb a k 1)) r
def rg_dropB (a:Ring) (r:Int) (q:Nat):Bool:=(List.range (rg_meas a).length).any λk=>decide (rg_Mi a k=q)&&rg_Ek a r k
theorem qRC {a:Ring} {i j:Nat} (hi:i<(rg_meas a).length) (hj:j<(rg_meas a).length) (h:rg_Mi a i=rg_Mi a j):i=j:=by
 rcases Nat.lt_trichotomy i j with h1|h1|h1
 ·have:=IH h1 hj;omega
 ·exact h1
 ·have:=IH h1 hi;omega
theorem qL6 {a:Ring} {r:Int} {k:Nat} (hk:k<(rg_meas a).length):rg_dropB a r (rg_Mi a k)=rg_Ek a r k:=by
 unfold rg_dropB;cases he:rg_Ek a r k with
 |true=>
  rw[gf];exact⟨k,uC.2 hk,by simp[he]⟩
 |false=>
  rw[List.any_eq_false];intro j hj;have hj':=uC.1 hj;by_cases h:rg_Mi a j=rg_Mi a k
  ·rw[qRC hj' hk h,he];simp
  ·simp[h]
def qIi :qO:=qO.mk (qA.mk 0 0) false
def TN (a:Ring) (r:Int) (l:List qO) (i:Nat):List qO:=bif rg_dropB a r i then l.set i qIi else l
theorem qDW (a:Ring) (r:Int) (l:List qO) (i:Nat):(TN a r l i).length=l.length:=by
 unfold TN;cases rg_dropB a r i<;>simp
theorem qFp (a:Ring) (r:Int):∀(m:List Nat) (l:List qO),(m.foldl (TN a r) l).length=l.length
 |[],_=>rfl
 |i::m,l=>by rw[uD,qFp a r m,qDW]
section
variable (a :Ring) (r:Int) (h:a.Read.length<=1000)
include h
theorem qYn (k n:Nat) (b:Bool):yJ a r (jV (rg_meas a)) (k:Int) (n+1) b 2=some b:=by
 rw[yJ];rfl
theorem qPa (k n:Nat) (hk:k<(rg_meas a).length) (b:Bool) (x x1:Int) (e:Nat) (hx:decide (x<2)=true) (hx2:inb x 2=true) (hx1:w64 (x+1)=x1)
  (he:w64 (w64 ((k:Int)+((rg_meas a).length:Int))+([-1,1]:List Int).getD x.toNat 0)=((k+e:Nat):Int)):
  yJ a r (jV (rg_meas a)) (k:Int) (n+1) b x=yJ a r (jV (rg_meas a)) (k:Int) n (b&&rg_farB (rg_Pt a (rg_Mi a k)) (rg_Pt a (rg_nb a k e)) r) x1:=by
 have hk':(k+e) % (rg_meas a).length<(rg_meas a).length:=kJ _ (by omega);have h1:=zW hk';have h0:=zW hk;rw[yJ,hx,hx2,WF,he,GR (by omega),yO,zS (by omega) (by omega)];simp only[kp,ki,GT];rw[show(rg_meas a).getD ((k+e) % (rg_meas a).length) 0=rg_nb a k e from rfl,show(rg_meas a).getD k 0=rg_Mi a k from rfl,zS (show 0<=((rg_nb a k e:Nat):Int) by omega) (by unfold rg_nb;omega),zS (show 0<=((rg_Mi a k:Nat):Int) by omega) (by omega)];simp only[kp,ki,qXY,kd,AY,hx1];cases b<;>rfl
theorem qYR (k:Nat) (hk:k<(rg_meas a).length):yJ a r (jV (rg_meas a)) (k:Int) FUEL true 0=some (rg_Ek a r k):=by
 have hl:=KN a;rw[wO,show(9223372036854775808:Nat)=9223372036854775805+1+1+1 from rfl];rw[qPa a r h k _ hk true 0 1 ((rg_meas a).length-1) (by decide) (by decide) (by kernel_rfl) (by
  rw[show([-1,1]:List Int).getD (0:Int).toNat 0= -1 from rfl,zB (n:=(k:Int)+_) (by omega) (by omega),zB (by omega) (by omega)];omega)]
 rw[qPa a r h k _ hk _ 1 2 ((rg_meas a).length+1) (by decide) (by decide) (by kernel_rfl) (by
  rw[show([-1,1]:List Int).getD (1:Int).toNat 0=1 from rfl,zB (n:=(k:Int)+_) (by omega) (by omega),zB (by omega) (by omega)];omega)]
 rw[qYn a r h];have e:rg_nb a k ((rg_meas a).length+1)=rg_nb a k 1:=by
  unfold rg_nb;rw[show k+((rg_meas a).length+1)=k+1+(rg_meas a).length by omega,uB]
 rw[e];simp[rg_Ek]
theorem qIW :∀(n x:Nat) (l:List qO),(rg_meas a).length<x+n->x<=(rg_meas a).length->l.length=a.Read.length->
  JA a r (jV (rg_meas a)) n (x:Int) l=some (((rg_meas a).drop x).foldl (TN a r) l)
 |0,x,l,h1,h2,_=>by omega
 |n+1,x,l,h1,h2,h3=>by
  have hl:=KN a;unfold JA;rw[WF];by_cases hx:x<(rg_meas a).length
  ·have h0:=zW hx;rw[PA hx,zS (by omega) (by omega),qYR a r h x hx,gR hx,uD];have hg:(rg_meas a)[x]=rg_Mi a x:=by have:=qKm hx;rw[kq hx] at this;exact kC this
   rw[hg];simp only[kp,kd,ki,GT,AL,wW x (by omega)];rw[show(rg_meas a).getD x 0=rg_Mi a x from rfl,zS (show 0<=((rg_Mi a x:Nat):Int) by omega) (by omega)];simp only[kp,ki];have ih:=qIW n (x+1) (TN a r l (rg_Mi a x)) (by omega) (by omega) (by rw[qDW];exact h3);rw[<-ih];unfold TN;rw[qL6 hx];cases rg_Ek a r x<;>rfl
  ·rw[KX hx,uw (by omega)];rfl
theorem SW :∀(n x:Nat) (l:List qO),a.Read.length<x+n->x<=a.Read.length->l.length=a.Read.length->
  YM a r n (x:Int) l=some ((List.range' x (a.Read.length-x)).foldl (λl i=>if rg_okAt a i=true then TN a r l i else l) l)
 |0,x,l,h1,h2,_=>by omega
 |n+1,x,l,h1,h2,h3=>by
  unfold YM;by_cases hx:x<a.Read.length
  ·rw[PA hx,zS (by omega) (by omega),show a.Read.length-x=(a.Read.length-(x+1))+1 by omega,List.range'_succ,uD];simp only[kp,ki,qBi,HY,wW x (by omega)];rw[show(a.Read.getD x dd).Ok=rg_okAt a x from rfl];cases ho:rg_okAt a x with
   |false=>exact SW n (x+1) l (by omega) (by omega) h3
   |true=>
    obtain⟨k,hk,hkx⟩:=EO hx ho;subst hkx;have hp:(k+((rg_meas a).length-1)) % (rg_meas a).length<(rg_meas a).length:=kJ _ (by omega);have hn:(k+1) % (rg_meas a).length<(rg_meas a).length:=kJ _ (by omega);have h4:=zW hp;have h5:=zW hn;rw[qXn a h hk,qXr a h hk];simp only[um,ku,kd,ki];rw[zS (show 0<=((rg_Mi a ((k+((rg_meas a).length-1)) % (rg_meas a).length):Nat):Int) by omega) (by omega),zS (show 0<=((rg_Mi a ((k+1) % (rg_meas a).length):Nat):Int) by omega) (by omega),zS (show 0<=((rg_Mi a k:Nat):Int) by omega) (by omega)];simp only[kp,qV2,kd,if_true]
    have ih:=SW n (rg_Mi a k+1) (TN a r l (rg_Mi a k)) (by omega) (by omega) (by rw[qDW];exact h3);rw[<-ih];unfold TN;rw[qL6 hk];unfold rg_Ek rg_nb;rw[show(a.Read.getD (rg_Mi a k) dd).P=rg_Pt a (rg_Mi a k) from rfl,show(a.Read.getD (rg_Mi a ((k+((rg_meas a).length-1)) % (rg_meas a).length)) dd).P=rg_Pt a (rg_Mi a ((k+((rg_meas a).length-1)) % (rg_meas a).length)) from rfl,
     show(a.Read.getD (rg_Mi a ((k+1) % (rg_meas a).length)) dd).P=rg_Pt a (rg_Mi a ((k+1) % (rg_meas a).length)) from rfl]
    cases rg_farB (rg_Pt a (rg_Mi a k)) (rg_Pt a (rg_Mi a ((k+((rg_meas a).length-1)) % (rg_meas a).length))) r<;>cases rg_farB (rg_Pt a (rg_Mi a k)) (rg_Pt a (rg_Mi a ((k+1) % (rg_meas a).length))) r<;>rfl
  ·rw[KX hx,show a.Read.length-x=0 by omega];rfl
end
def rg_cleaned (a:Ring) (r:Int):Ring:=bif decide (r<0) then a else bif decide (((rg_meas a).length:Int)<2) then a else bif JS a !=0 then a else⟨a.Z,(rg_meas a).foldl (TN a r) a.Read⟩
theorem qSN (a:Ring) (r:Int) (h:a.Read.length<=1000):CM a r=some (rg_cleaned a r):=by
 have hl:=KN a;unfold CM BT rg_cleaned;rw[qMc a h,qA5 a h];simp only[kd,IE,WF];have hL:JA a r (jV (rg_meas a)) FUEL 0 a.Read=some ((rg_meas a).foldl (TN a r) a.Read):=by
  have:=qIW a r h FUEL 0 a.Read (by rw[wO];omega) (by omega) rfl
  rwa [uI] at this
 rw[hL];cases decide (r<0)<;>cases decide (((rg_meas a).length:Int)<2)<;>cases (JS a !=0)<;>rfl
theorem qTu (a:Ring) (r:Int) (h:a.Read.length<=1000):qGF a r=some (rg_cleaned a r):=by
 have hl:=KN a;obtain⟨L,_,hg⟩:=qEf a h;unfold qGF HK rg_cleaned;rw[hg,qTD a h];simp only[kd,qFa];have hw:w64 ((a.Read.length:Int)-((a.Read.length-(rg_meas a).length:Nat):Int))=((rg_meas a).length:Int):=by
  rw[zB (by omega) (by omega)];omega
 have hL:YM a r FUEL 0 a.Read=some ((rg_meas a).foldl (TN a r) a.Read):=by
  have:=SW a r h FUEL 0 a.Read (by rw[wO];omega) (by omega) rfl;rw[go,<-gO,<-List.foldl_filter] at this;exact this
 rw[hw,hL];cases decide (r<0)<;>cases decide (((rg_meas a).length:Int)<2)<;>cases (JS a !=0)<;>rfl
theorem qQl (a:Ring) (r:Int):(rg_cleaned a r).Read.length=a.Read.length:=by
 unfold rg_cleaned;cases decide (r<0)<;>cases decide (((rg_meas a).length:Int)<2)<;>cases (JS a !=0)<;>simp[qFp]
theorem qUK (a:Ring) (r:Int):(rg_cleaned a r).Z=a.Z:=by
 unfold rg_cleaned;cases decide (r<0)<;>cases decide (((rg_meas a).length:Int)<2)<;>cases (JS a !=0)<;>rfl
theorem qB2 {α:Type} [Inhabited α] {l t:List α} (h:l.length=t.length) (hj:∀j,j<l.length->l.getD j dd=t.getD j dd):l=t:=by
 apply gB h;intro i h1 h2;have:=hj i h1
 rwa [ka,ka,kq h1,kq h2] at this
theorem PE {α:Type} [Inhabited α] {l:List α} {x:Nat} (v:α) (h:x<l.length):(l.set x v).getD x dd=v:=by
 rw[ka,uP h];rfl
theorem JW {α:Type} [Inhabited α] {l:List α} {x j:Nat} (v:α) (h:x≠j):(l.set x v).getD j dd=l.getD j dd:=by
 rw[ka,gv h,<-ka]
theorem EW {α β:Type} [Inhabited α] [Inhabited β] (f:α->β) (l:List α) {j:Nat} (h:j<l.length):(l.map f).getD j dd=f (l.getD j dd):=by
 rw[ka,ka,kG,kq h];rfl
def rg_turnP (q:Nat) (p:qA):qA:=match q with
 |0=>p
 |1=>⟨-p.Y,p.X⟩
 |2=>⟨-p.X,-p.Y⟩
 |_=>⟨p.Y,-p.X⟩
def PU (p:qA):Prop:= -600<=p.X/\p.X<=600/\-600<=p.Y/\p.Y<=600
theorem qSl {p:qA} (q:Nat) (h:PU p):PU (rg_turnP q p):=by
 obtain⟨h1,h2,h3,h4⟩:=h;unfold rg_turnP;split<;>refine⟨?_,?_,?_,?_⟩<;>(try simp only)<;>omega
theorem qDl {r:qO} (h:YJ r=0):PU r.P/\(r.Ok=false->r.P=⟨0,0⟩):=by
 unfold YJ at h;cases ho:r.Ok with
 |true=>
  rw[ho] at h;cases hr:KJ r.P with
  |false=>rw[hr] at h;simp at h
  |true=>
   simp only[KJ,kr,decide_eq_true_eq] at hr;exact⟨⟨hr.1.1,hr.1.2,hr.2.1,hr.2.2⟩,λh=>by cases h⟩
 |false=>
  rw[ho] at h;cases hz:qCz r.P with
  |false=>rw[hz] at h;simp at h
  |true=>
   have:r.P=⟨0,0⟩:=by
    obtain⟨⟨x,y⟩,o⟩:=r;simp only[qCz,Bool.and_true,kr,beq_iff_eq] at hz;simp only at hz⊢;rw[hz.1,hz.2]
   rw[this];exact⟨⟨by decide,by decide,by decide,by decide⟩,λ_=>rfl⟩
theorem qFJ (l:List qA) (hs:∀p∈l,PU p) (h:l.length<=1000):∀(n x:Nat),l.length<x+n->x<=l.length->ZJ l n (x:Int)=some (.inr ())
 |0,x,h1,h2=>by omega
 |n+1,x,h1,h2=>by
  unfold ZJ;by_cases hx:x<l.length
  ·have hm:PU (l.getD x dd):=hs _ (by rw[ka,kq hx];exact uu hx);rw[PA hx,zS (by omega) (by omega)];simp only[kp,ki,FI,wW x (by omega)];have e1:((l.getD x dd).X== -9223372036854775808)=false:=kR.2 (by have:=hm.1;omega);have e2:((l.getD x dd).Y== -9223372036854775808)=false:=kR.2 (by have:=hm.2.2.1;omega);rw[e1,e2];exact qFJ l hs h n (x+1) (by omega) (by omega)
  ·rw[KX hx];rfl
theorem qOZ (l:List qA) (hs:∀p∈l,PU p) (h:l.length<=1000):ME l=some true:=by
 unfold ME;have:=qFJ l hs h FUEL 0 (by rw[wO];omega) (by omega);have h':ZJ l FUEL 0=some (.inr ()):=this;rw[h'];rfl
theorem qOY (q:Nat) (hq:q<4) (p:qA) (hs:PU p):
  qA.mk (w64 (w64 ((zL.getD q dd).X*p.X)-w64 ((zL.getD q dd).Y*p.Y))) (w64 (w64 ((zL.getD q dd).Y*p.X)+w64 ((zL.getD q dd).X*p.Y)))=rg_turnP q p:=by
 obtain⟨h1,h2,h3,h4⟩:=hs;obtain⟨x,y⟩:=p;simp only at h1 h2 h3 h4
 match q,hq with
 |0,_=>
  simp only[zL,ua,rg_turnP,Int.one_mul,Int.zero_mul];rw[zB (n:=x) (by omega) (by omega),zB (n:=y) (by omega) (by omega),zB (n:=0) (by omega) (by omega),zB (by omega) (by omega),zB (by omega) (by omega)]
  congr 1<;>omega
 |1,_=>
  simp only[zL,ua,gC,rg_turnP,Int.one_mul,Int.zero_mul];rw[zB (n:=x) (by omega) (by omega),zB (n:=y) (by omega) (by omega),zB (n:=0) (by omega) (by omega),zB (by omega) (by omega),zB (by omega) (by omega)]
  congr 1<;>omega
 |2,_=>
  simp only[zL,ua,gC,rg_turnP,Int.zero_mul];rw[zB (n:= -1*x) (by omega) (by omega),zB (n:= -1*y) (by omega) (by omega),zB (n:=0) (by omega) (by omega),zB (by omega) (by omega),zB (by omega) (by omega)]
  congr 1<;>omega
 |3,_=>
  simp only[zL,ua,gC,rg_turnP,Int.zero_mul];rw[zB (n:= -1*x) (by omega) (by omega),zB (n:= -1*y) (by omega) (by omega),zB (n:=0) (by omega) (by omega),zB (by omega) (by omega),zB (by omega) (by omega)]
  congr 1<;>omega
theorem qEP (l:List qA) (hs:∀p∈l,PU p) (h:l.length<=1000) (r:Int) (q:Nat) (hq:q<4) (hr:Int.tmod (w64 (Int.tmod r 4+4)) 4=(q:Int)):
  ∀(n x:Nat) (t:List qA),l.length<x+n->x<=l.length->t.length=l.length->(∀j,j<x->t.getD j dd=rg_turnP q (l.getD j dd))->GS l r n t (x:Int)=some (l.map (rg_turnP q))
 |0,x,t,h1,h2,_,_=>by omega
 |n+1,x,t,h1,h2,h3,h4=>by
  unfold GS;by_cases hx:x<l.length
  ·have hm:PU (l.getD x dd):=hs _ (by rw[ka,kq hx];exact uu hx);rw[PA hx,zS (by omega) (by omega),zS (by omega) (by omega),hr];simp only[kp,ki,wW x (by omega)];rw[qOY q hq _ hm];refine qEP l hs h r q hq hr n (x+1) _ (by omega) (by omega) (by rw[ga];exact h3) (λj hj=>?_);by_cases he:x=j
   ·subst he;rw[PE _ (by omega)]
   ·rw[JW _ he];exact h4 j (by omega)
  ·rw[KX hx];have:t=l.map (rg_turnP q):=qB2 (by simp[h3]) (λj hj=>by rw[h4 j (by omega),EW _ _ (by omega)]);rw[this];rfl
theorem qQs (l:List qA) (hs:∀p∈l,PU p) (h:l.length<=1000) (r:Int) (q:Nat) (hq:q<4) (hr:Int.tmod (w64 (Int.tmod r 4+4)) 4=(q:Int)):qCp l r=some (l.map (rg_turnP q)):=by
 unfold qCp;have hmk:mkOk (l.length:Int) 16=true:=by unfold mkOk;exact kf ⟨by omega,by omega,by omega⟩
 have hL:=qEP l hs h r q hq hr FUEL 0 (List.replicate l.length (qA.mk 0 0)) (by rw[wO];omega) (by omega) (by simp) (λj hj=>by omega);have hL':GS l r FUEL (List.replicate l.length (qA.mk 0 0)) 0=some (l.map (rg_turnP q)):=hL;rw[qOZ l hs h,hr,hmk,zS (by omega) (by omega)];simp only[kd,um,ku,kp,ki,hL']
def UU (q:Nat) (r:qO):qO:=⟨rg_turnP q r.P,r.Ok⟩
def WZ (q:Nat) (a:Ring):Ring:=⟨a.Z,a.Read.map (UU q)⟩
theorem qHB (a:Ring) (h:a.Read.length<=1000):∀(n x:Nat) (t:List qA),a.Read.length<x+n->x<=a.Read.length->t.length=a.Read.length->(∀j,j<x->t.getD j dd=(a.Read.getD j dd).P)->
  GA a n t (x:Int)=some (a.Read.map (·.P))
 |0,x,t,h1,h2,_,_=>by omega
 |n+1,x,t,h1,h2,h3,h4=>by
  unfold GA;by_cases hx:x<a.Read.length
  ·rw[PA hx,zS (by omega) (by omega),zS (by omega) (by omega)];simp only[kp,ki,wW x (by omega)];refine qHB a h n (x+1) _ (by omega) (by omega) (by rw[ga];exact h3) (λj hj=>?_);by_cases he:x=j
   ·subst he;rw[PE _ (by omega)]
   ·rw[JW _ he];exact h4 j (by omega)
  ·rw[KX hx];have:t=a.Read.map (·.P):=qB2 (by simp[h3]) (λj hj=>by rw[h4 j (by omega),EW _ _ (by omega)]);rw[this];rfl
theorem qHG (a:Ring) (h:a.Read.length<=1000) (q:Nat):∀(n x:Nat) (t:List qO),a.Read.length<x+n->x<=a.Read.length->t.length=a.Read.length->(∀j,j<x->t.getD j dd=UU q (a.Read.getD j dd))->(∀j,x<=j->t.getD j dd=a.Read.getD j dd)->
  VF ((a.Read.map (·.P)).map (rg_turnP q)) n (x:Int) t=some (a.Read.map (UU q))
 |0,x,t,h1,h2,_,_,_=>by omega
 |n+1,x,t,h1,h2,h3,h4,h5=>by
  unfold VF;rw[uZ,uZ];by_cases hx:x<a.Read.length
  ·rw[PA hx,zS (by omega) (by omega),zS (by omega) (by omega)];simp only[kp,ki,wW x (by omega)];rw[h5 x (ke _),EW _ _ (by simpa using hx),EW _ _ hx];refine qHG a h q n (x+1) _ (by omega) (by omega) (by rw[ga];exact h3) (λj hj=>?_) (λj hj=>?_)
   ·by_cases he:x=j
    ·subst he;rw[PE _ (by omega)];rfl
    ·rw[JW _ he];exact h4 j (by omega)
   ·rw[JW _ (by omega)];exact h5 j (by omega)
  ·rw[KX hx];have:t=a.Read.map (UU q):=qB2 (by simp[h3]) (λj hj=>by rw[h4 j (by omega),EW _ _ (by omega)]);rw[this];rfl
theorem qVr (a:Ring) (r:Int) (g:QX a) (q:Nat) (hq:q<4) (hr:Int.tmod (w64 (Int.tmod r 4+4)) 4=(q:Int)):qCw a r=some (WZ q a):=by
 have hn:=g.hi;unfold qCw;have hmk:mkOk (a.Read.length:Int) 16=true:=by unfold mkOk;exact kf ⟨by omega,by omega,by omega⟩
 have hL:GA a FUEL (List.replicate a.Read.length (qA.mk 0 0)) 0=some (a.Read.map (·.P)):=qHB a (by omega) FUEL 0 _ (by rw[wO];omega) (by omega) (by simp) (λj hj=>by omega);have hL2:VF ((a.Read.map (·.P)).map (rg_turnP q)) FUEL 0 a.Read=some (a.Read.map (UU q)):=qHG a (by omega) q FUEL 0 _ (by rw[wO];omega) (by omega) rfl (λj hj=>by omega) (λ_ _=>rfl);have hp:=qQs (a.Read.map (·.P)) (λp hp=>by
  obtain⟨x,hx,rfl⟩:=uO.1 hp;exact(qDl (g.all x hx)).1) (by simpa using by omega) r q hq hr
 rw[qMc a (by omega),IE,(NM a).2 g,hmk];simp only[kd,kQ,ku,kp,ki,hL,hp,hL2];rfl
theorem qSx (q:Nat):rg_turnP q ⟨0,0⟩=⟨0,0⟩:=by
 unfold rg_turnP;split<;>rfl
end Saw
end Go.SL

/- The ring laws' plain mathematics, part 2: the measured readings, their qE9. -/
import Derived.Test.YtigmogcdifllhaaGreatDoorEMa9
set_option linter.unusedVariables false
set_option linter.unusedSimpArgs false
namespace Go.SL
namespace Saw
def rg_okAt (a:Ring) (i:Nat):Bool:=(a.Read.getD i dd).Ok
def rg_meas (a:Ring):List Nat:=(List.range a.Read.length).filter (rg_okAt a)
def rg_Mi (a:Ring) (k:Nat):Nat:=(rg_meas a).getD k 0
def jB (l:List Nat):List Int:=List.map (λi:Nat=>(i:Int)) l
theorem ZR (l:List Nat):(jB l).length=l.length:=by simp[jB]
theorem TL (l:List Nat) (k:Nat):(jB l).getD k dd=((l.getD k 0:Nat):Int):=by
 unfold jB;rw[ka,ka,kF];cases l[k]? <;>rfl
theorem wK (x:Nat) (h:x<=1000000):w64 ((x:Int)+1)=((x+1:Nat):Int):=by rw[qZ (by omega) (by omega)];omega
theorem YC {x n:Nat} (h:x<n):decide ((x:Int)<((n:Nat):Int))=true:=kf (by omega)
theorem YE {x n:Nat} (h:¬x<n):decide ((x:Int)<((n:Nat):Int))=false:=kg (by omega)
theorem jV (a b:Nat):Int.tmod (a:Int) (b:Int)=((a % b:Nat):Int):=rfl
theorem qFg (a:Ring):∀(n x:Nat) (l:List Int),a.Read.length<x+n->x<=a.Read.length->a.Read.length<=1000->l.length<=x->
  yU a n l (x:Int)=some (l++jB ((List.range' x (a.Read.length-x)).filter (rg_okAt a)))
 |0,x,l,h1,h2,_,_=>by omega
 |n+1,x,l,h1,h2,h3,h4=>by
  unfold yU;by_cases hx:x<a.Read.length
  ·rw[YC hx,zV (by omega) (by omega),show a.Read.length-x=(a.Read.length-(x+1))+1 by omega,List.range'_succ,List.filter_cons,qG8 (n:=l.length+1) (by omega)];simp only[ko,kr,VN,wK x (by omega)];rw[show(a.Read.getD x dd).Ok=rg_okAt a x from rfl];cases hk:rg_okAt a x with
   |true=>
    rw[ko,qFg a n (x+1) _ (by omega) (by omega) h3 (by simp;omega)];simp[jB]
   |false=>
    rw[ku,qFg a n (x+1) _ (by omega) (by omega) h3 (by omega)];simp
  ·rw[YE hx,show a.Read.length-x=0 by omega];simp[jB]
theorem qB5 (a:Ring) (h:a.Read.length<=1000):YJ a=some (jB (rg_meas a)):=by
 unfold YJ;have:=qFg a FUEL 0 [] (by rw[wD];omega) (by omega) h (by simp);have h':yU a FUEL [] 0=some (jB (rg_meas a)):=by
  rw[show(0:Int)=((0:Nat):Int) from rfl,this,un,uZ,<-gM];rfl
 rw[h'];rfl
theorem qL4 {a:Ring} {k:Nat} (h:k<(rg_meas a).length):(rg_meas a)[k]? =some (rg_Mi a k):=by
 unfold rg_Mi;rw[ka,kp h];rfl
theorem zZ {a:Ring} {k:Nat} (h:k<(rg_meas a).length):rg_Mi a k<a.Read.length/\rg_okAt a (rg_Mi a k)=true:=by
 have:=uY (qL4 h);unfold rg_meas at this;rw[List.mem_filter,uC] at this;exact this
theorem EY {a:Ring} {q:Nat} (h1:q<a.Read.length) (h2:rg_okAt a q=true):∃t,t<(rg_meas a).length/\rg_Mi a t=q:=by
 have hm:q∈rg_meas a:=by unfold rg_meas;rw[List.mem_filter,uC];exact⟨h1,h2⟩
 obtain⟨t,ht,he⟩:=uF.1 hm;exact⟨t,ht,by unfold rg_Mi;rw[ka,kp ht,he];rfl⟩
theorem OU {a:Ring} {i j:Nat} (hij:i<j) (hj:j<(rg_meas a).length):rg_Mi a i<rg_Mi a j:=by
 have hp:(rg_meas a).Pairwise (·<·):=List.Pairwise.filter _ List.pairwise_lt_range;have h1:=gr.1 hp i j (by omega) hj hij;have e1:(rg_meas a)[i]'(by omega)=rg_Mi a i:=by unfold rg_Mi;rw[ka,kp (by omega)];rfl
 have e2:(rg_meas a)[j]=rg_Mi a j:=by unfold rg_Mi;rw[ka,kp hj];rfl
 rwa [e1,e2] at h1
theorem FW {a:Ring} {i j:Nat} (hij:i<=j) (hj:j<(rg_meas a).length):rg_Mi a i<=rg_Mi a j:=by
 rcases Nat.lt_or_eq_of_le hij with h|rfl
 ·exact Nat.le_of_lt (OU h hj)
 ·exact kd _
def rg_gap (a:Ring) (k:Nat):Nat:=if k+1<(rg_meas a).length then rg_Mi a (k+1)-rg_Mi a k-1 else rg_Mi a 0+a.Read.length-rg_Mi a k-1
theorem qLO (a:Ring) (h:a.Read.length<=1000) {k:Nat} (hk:k<(rg_meas a).length):DQ a (jB (rg_meas a)) (k:Int)=some ((rg_gap a k:Nat):Int):=by
 have h0:=zZ hk;have hl:(rg_meas a).length<=a.Read.length:=by unfold rg_meas;exact ur (gL _ _) (by simp)
 unfold DQ rg_gap;rw[wK k (by omega),ZR];by_cases hk1:k+1<(rg_meas a).length
 ·have h1:=zZ hk1;have h2:=OU (a:=a) (show k<k+1 by omega) hk1;rw[YC hk1,zV (by omega) (by omega),zV (by omega) (by omega),if_pos hk1];simp only[ko,kr,TL];rw[show(rg_meas a).getD (k+1) 0=rg_Mi a (k+1) from rfl,show(rg_meas a).getD k 0=rg_Mi a k from rfl];rw[qZ (n:=((rg_Mi a (k+1):Nat):Int)-_) (by omega) (by omega),qZ (by omega) (by omega)]
  congr 1
  omega
 ·have h1:=zZ (a:=a) (k:=0) (by omega);have h2:=FW (a:=a) (kS k) hk;rw[YE hk1,ku,zV (by omega) (by omega),zV (by omega) (by omega),if_neg hk1];simp only[ko,kr,gt,TL];rw[show(rg_meas a).getD 0 0=rg_Mi a 0 from rfl,show(rg_meas a).getD k 0=rg_Mi a k from rfl];rw[qZ (n:=((rg_Mi a 0:Nat):Int)+_) (by omega) (by omega),qZ (n:=((rg_Mi a 0:Nat):Int)+_-_) (by omega) (by omega),qZ (by omega) (by omega)]
  congr 1
  omega
theorem zU {x n:Nat} (h:x<n):x % n=x:=uG h
theorem yQ {x n:Nat} (h1:n<=x) (h2:x<2*n):x % n=x-n:=by
 rw[Nat.mod_eq_sub_mod h1,uG (by omega)]
theorem JS {a:Ring} {k:Nat} (hk:k<(rg_meas a).length):rg_gap a k+1<=a.Read.length:=by
 have h0:=zZ hk;unfold rg_gap;split
 ·rename_i h;have:=zZ h;omega
 ·have:=FW (a:=a) (kS k) hk;omega
theorem VG {a:Ring} {k d:Nat} (hk:k<(rg_meas a).length) (h1:1<=d) (h2:d<=rg_gap a k):rg_okAt a ((rg_Mi a k+d) % a.Read.length)=false:=by
 have h0:=zZ hk;have hg:=JS hk;cases ho:rg_okAt a ((rg_Mi a k+d) % a.Read.length) with
 |false=>rfl
 |true=>
  obtain⟨t,ht,he⟩:=EY (kH _ (by omega)) ho;unfold rg_gap at h2;split at h2
  ·rename_i hk1;have h3:=zZ hk1;rw[zU (by omega)] at he;rcases uH t (k+1) with h|h
   ·have:=FW (a:=a) (show t<=k by omega) hk;omega
   ·have:=FW (a:=a) h ht;omega
  ·rename_i hk1;have ht':=FW (a:=a) (show t<=k by omega) hk;have hz:=FW (a:=a) (kS t) ht;by_cases hc:rg_Mi a k+d<a.Read.length
   ·rw[zU hc] at he;omega
   ·rw[yQ (by omega) (by omega)] at he;omega
theorem AA {a:Ring} {k:Nat} (hk:k<(rg_meas a).length):(rg_Mi a k+(rg_gap a k+1)) % a.Read.length=rg_Mi a ((k+1) % (rg_meas a).length):=by
 have h0:=zZ hk;unfold rg_gap;split
 ·rename_i hk1;have h3:=zZ hk1;have h4:=OU (a:=a) (show k<k+1 by omega) hk1;rw[zU hk1,show rg_Mi a k+(rg_Mi a (k+1)-rg_Mi a k-1+1)=rg_Mi a (k+1) by omega,zU h3.1]
 ·rename_i hk1;have hz:=zZ (a:=a) (k:=0) (by omega);have hle:=FW (a:=a) (kS k) hk;rw[show k+1=(rg_meas a).length by omega,Nat.mod_self,show rg_Mi a k+(rg_Mi a 0+a.Read.length-rg_Mi a k-1+1)=rg_Mi a 0+a.Read.length by omega,uA,zU hz.1]
theorem qKz (a:Ring) (q:Nat):∀(m j:Nat),(rg_meas a).length=j+m->1<=m->rg_Mi a j<q->∃k,k<(rg_meas a).length/\rg_Mi a k<q/\(k+1<(rg_meas a).length->q<=rg_Mi a (k+1))
 |0,_,_,h,_=>by omega
 |m+1,j,hm,_,hj=>by
  by_cases h:j+1<(rg_meas a).length
  ·by_cases hq:rg_Mi a (j+1)<q
   ·exact qKz a q m (j+1) (by omega) (by omega) hq
   ·exact⟨j,by omega,hj,λ_=>by omega⟩
  ·exact⟨j,by omega,hj,λh'=>absurd h' h⟩
theorem qTL {a:Ring} {q:Nat} (hm:1<=(rg_meas a).length) (hq:q<a.Read.length) (ho:rg_okAt a q=false):∃k d,k<(rg_meas a).length/\1<=d/\d<=rg_gap a k/\(rg_Mi a k+d) % a.Read.length=q:=by
 have hne:∀t,t<(rg_meas a).length->rg_Mi a t≠q:=λt ht he=>by
  have:=(zZ ht).2;rw[he,ho] at this;cases this
 by_cases h0:rg_Mi a 0<q
 ·obtain⟨k,hk,h1,h2⟩:=qKz a q (rg_meas a).length 0 (by omega) hm h0;refine⟨k,q-rg_Mi a k,hk,by omega,?_,by rw[show rg_Mi a k+(q-rg_Mi a k)=q by omega,zU hq]⟩;unfold rg_gap;split
  ·rename_i hk1;have:=hne (k+1) hk1;have:=h2 hk1;omega
  ·omega
 ·have hne0:=hne 0 (by omega);have hlast:(rg_meas a).length-1<(rg_meas a).length:=by omega
  have hl:=zZ (a:=a) hlast;have hle:=FW (a:=a) (kS ((rg_meas a).length-1)) hlast;refine⟨(rg_meas a).length-1,q+a.Read.length-rg_Mi a ((rg_meas a).length-1),hlast,by omega,?_,?_⟩
  ·unfold rg_gap;rw[if_neg (by omega)];omega
  ·rw[show rg_Mi a ((rg_meas a).length-1)+(q+a.Read.length-rg_Mi a ((rg_meas a).length-1))=q+a.Read.length by omega,uA,zU hq]
theorem qN5 (x y:Nat):imax (x:Int) (y:Int)=((max x y:Nat):Int):=by
 unfold imax;split<;>omega
theorem qEu (a:Ring) (h:a.Read.length<=1000):∀(n x mx:Nat),(rg_meas a).length<x+n->x<=(rg_meas a).length->
  ∃R:Nat,UD a (jB (rg_meas a)) n (mx:Int) (x:Int)=some (R:Int)/\mx<=R/\(∀k,x<=k->k<(rg_meas a).length->rg_gap a k<=R)/\(R=mx\/∃k,k<(rg_meas a).length/\R=rg_gap a k)
 |0,x,mx,h1,h2=>by omega
 |n+1,x,mx,h1,h2=>by
  have hl:(rg_meas a).length<=a.Read.length:=by unfold rg_meas;exact ur (gL _ _) (by simp)
  unfold UD;rw[ZR];by_cases hx:x<(rg_meas a).length
  ·rw[YC hx,qLO a h hx];simp only[ko,ke,qN5,wK x (by omega)];obtain⟨R,e,h3,h4,h5⟩:=qEu a h n (x+1) (max mx (rg_gap a x)) (by omega) (by omega);refine⟨R,e,by omega,λk hk1 hk2=>?_,?_⟩
   ·rcases uH x k with hk|hk
    ·exact h4 k hk hk2
    ·obtain rfl:k=x:=by omega
     omega
   ·rcases h5 with h5|h5
    ·rcases Nat.le_total mx (rg_gap a x) with hg|hg
     ·exact .inr ⟨x,hx,by omega⟩
     ·exact .inl (by omega)
    ·exact .inr h5
  ·rw[YE hx];exact⟨mx,rfl,kd _,λk hk1 hk2=>by omega,.inl rfl⟩
theorem qCO (a:Ring) (h:a.Read.length<=1000) (q r:Nat) (hq:q<a.Read.length) (hr:r<=a.Read.length) (h1:∀d,d<r->rg_okAt a ((q+d) % a.Read.length)=false) (h2:r=a.Read.length\/rg_okAt a ((q+r) % a.Read.length)=true):
  ∀(n x:Nat),r<x+n->x<=r->jA a (q:Int) n (x:Int)=some (r:Int)
 |0,x,h3,h4=>by omega
 |n+1,x,h3,h4=>by
  unfold jA;by_cases hx:x<a.Read.length
  ·have e:w64 ((q:Int)+(x:Int))=((q+x:Nat):Int):=by rw[qZ (by omega) (by omega)];omega
   have hm:(q+x) % a.Read.length<a.Read.length:=kH _ (by omega);rw[YC hx,UU (by omega),e,jV,zV (by omega) (by omega)];simp only[ko,kr,AH,wK x (by omega)];rw[show(a.Read.getD ((q+x) % a.Read.length) dd).Ok=rg_okAt a ((q+x) % a.Read.length) from rfl];by_cases hxr:x<r
   ·rw[h1 x hxr];exact qCO a h q r hq hr h1 h2 n (x+1) (by omega) (by omega)
   ·obtain rfl:x=r:=by omega
    rcases h2 with h2|h2
    ·omega
    ·rw[h2];rfl
  ·rw[YE hx];obtain rfl:x=r:=by omega
   rfl
theorem IU (a:Ring) (h:a.Read.length<=1000) (run:Nat->Nat) (hrun:∀q,q<a.Read.length->rg_okAt a q=false->jA a (q:Int) FUEL 0=some ((run q:Nat):Int)):∀(n x c mx:Nat),a.Read.length<x+n->x<=a.Read.length->c<=x->
  ∃R:Nat,WL a n (c:Int) (mx:Int) (x:Int)=some (((c+(List.range' x (a.Read.length-x)).countP (λi=>!rg_okAt a i):Nat):Int),(R:Int))/\mx<=R/\(∀q,x<=q->q<a.Read.length->rg_okAt a q=false->run q<=R)/\(R=mx\/∃q,q<a.Read.length/\rg_okAt a q=false/\R=run q)
 |0,x,c,mx,h1,h2,_=>by omega
 |n+1,x,c,mx,h1,h2,hc=>by
  unfold WL;by_cases hx:x<a.Read.length
  ·rw[YC hx,zV (by omega) (by omega),show a.Read.length-x=(a.Read.length-(x+1))+1 by omega,List.range'_succ,List.countP_cons];simp only[ko,kr,AL,wK x (by omega),wK c (by omega)];rw[show(a.Read.getD x dd).Ok=rg_okAt a x from rfl];cases ho:rg_okAt a x with
   |true=>
    obtain⟨R,e,h3,h4,h5⟩:=IU a h run hrun n (x+1) c mx (by omega) (by omega) (by omega);refine⟨R,by rw[ko,e];simp,h3,λq hq1 hq2 hq3=>?_,h5⟩;rcases uH x q with hk|hk
    ·exact h4 q hk hq2 hq3
    ·obtain rfl:q=x:=by omega
     rw[ho] at hq3;cases hq3
   |false=>
    obtain⟨R,e,h3,h4,h5⟩:=IU a h run hrun n (x+1) (c+1) (max mx (run x)) (by omega) (by omega) (by omega);refine⟨R,?_,by omega,λq hq1 hq2 hq3=>?_,?_⟩
    ·rw[ku,hrun x hx ho];simp only[ke,qN5,e,gJ,if_true]
     congr 3
     omega
    ·rcases uH x q with hk|hk
     ·exact h4 q hk hq2 hq3
     ·obtain rfl:q=x:=by omega
      omega
    ·rcases h5 with h5|h5
     ·rcases Nat.le_total mx (run x) with hg|hg
      ·exact .inr ⟨x,hx,ho,by omega⟩
      ·exact .inl (by omega)
     ·exact .inr h5
  ·rw[YE hx,show a.Read.length-x=0 by omega];exact⟨mx,by simp,kd _,λq h1 h2=>by omega,.inl rfl⟩
theorem q1a (a:Ring) (h:a.Read.length<=1000) (q:Nat) (hq:q<a.Read.length) (ho:rg_okAt a q=false):
  ∃r,jA a (q:Int) FUEL 0=some ((r:Nat):Int)/\(((rg_meas a).length=0/\r=a.Read.length)\/∃k d,k<(rg_meas a).length/\1<=d/\d<=rg_gap a k/\(rg_Mi a k+d) % a.Read.length=q/\r=rg_gap a k+1-d):=by
 by_cases hm:(rg_meas a).length=0
 ·refine⟨a.Read.length,qCO a h q _ hq (kd _) (λd _=>?_) (.inl rfl) FUEL 0 (by rw[wD];omega) (by omega),.inl ⟨hm,rfl⟩⟩;cases ho:rg_okAt a ((q+d) % a.Read.length) with
  |false=>rfl
  |true=>
   obtain⟨t,ht,_⟩:=EY (kH _ (by omega)) ho;omega
 ·obtain⟨k,d,hk,h1,h2,h3⟩:=qTL (by omega) hq ho;have hg:=JS hk;have hs:∀e,(q+e) % a.Read.length=(rg_Mi a k+(d+e)) % a.Read.length:=λe=>by rw[<-h3,uP,uS]
  refine⟨rg_gap a k+1-d,qCO a h q _ hq (by omega) (λe he=>?_) (.inr ?_) FUEL 0 (by rw[wD];omega) (by omega),.inr ⟨k,d,hk,h1,h2,h3,rfl⟩⟩
  ·rw[hs];exact VG hk (by omega) (by omega)
  ·rw[hs,show d+(rg_gap a k+1-d)=rg_gap a k+1 by omega,AA hk];exact(zZ (kH _ (by omega))).2
theorem qOi (a:Ring):(rg_meas a).length+(List.range' 0 a.Read.length).countP (λi=>!rg_okAt a i)=a.Read.length:=by
 have:=List.length_eq_countP_add_countP (rg_okAt a) (l:=List.range a.Read.length);rw[uj] at this;rw[<-gM];unfold rg_meas;rw[<-List.countP_eq_length_filter];have e:(List.range a.Read.length).countP (λi=>!rg_okAt a i)=(List.range a.Read.length).countP (λi=>decide ¬rg_okAt a i=true):=by
  congr 1
  funext i
  cases rg_okAt a i<;>rfl
 rw[e];omega
theorem qE9 (a:Ring) (h:a.Read.length<=1000):∃L:Nat,CH a=some (((a.Read.length-(rg_meas a).length:Nat):Int),(L:Int))/\VR a=some (((a.Read.length-(rg_meas a).length:Nat):Int),(L:Int)):=by
 have hl:(rg_meas a).length<=a.Read.length:=by unfold rg_meas;exact ur (gL _ _) (by simp)
 have hc:=qOi a;have hex:∀q,∃r,q<a.Read.length->rg_okAt a q=false->jA a (q:Int) FUEL 0=some ((r:Nat):Int)/\(((rg_meas a).length=0/\r=a.Read.length)\/∃k d,k<(rg_meas a).length/\1<=d/\d<=rg_gap a k/\(rg_Mi a k+d) % a.Read.length=q/\r=rg_gap a k+1-d):=λq=>by
  by_cases hq:q<a.Read.length/\rg_okAt a q=false
  ·obtain⟨r,hr⟩:=q1a a h q hq.1 hq.2;exact⟨r,λ_ _=>hr⟩
  ·exact⟨0,λh1 h2=>absurd ⟨h1,h2⟩ hq⟩
 obtain⟨run,hrun⟩:∃f:Nat->Nat,∀q,q<a.Read.length->rg_okAt a q=false->jA a (q:Int) FUEL 0=some ((f q:Nat):Int)/\(((rg_meas a).length=0/\f q=a.Read.length)\/∃k d,k<(rg_meas a).length/\1<=d/\d<=rg_gap a k/\(rg_Mi a k+d) % a.Read.length=q/\f q=rg_gap a k+1-d):=
  ⟨λq=>Classical.choose (hex q),λq=>Classical.choose_spec (hex q)⟩
 obtain⟨R2,e2,_,g2,t2⟩:=IU a h run (λq h1 h2=>(hrun q h1 h2).1) FUEL 0 0 0 (by rw[wD];omega) (by omega) (by omega);have e2':VR a=some (((a.Read.length-(rg_meas a).length:Nat):Int),(R2:Int)):=by
  unfold VR;have e3:WL a FUEL 0 0 0=some (((a.Read.length-(rg_meas a).length:Nat):Int),(R2:Int)):=by
   rw[uZ,ky] at e2;rw[show a.Read.length-(rg_meas a).length=(List.range' 0 a.Read.length).countP (λi=>!rg_okAt a i) by omega];exact e2
  rw[e3];rfl
 have hw:w64 ((a.Read.length:Int)-((rg_meas a).length:Int))=((a.Read.length-(rg_meas a).length:Nat):Int):=by
  rw[qZ (by omega) (by omega)];omega
 unfold CH;rw[qB5 a h];simp only[ke,ZR];by_cases hm:(rg_meas a).length=0
 ·have:(((rg_meas a).length:Int)==0)=true:=by simp[hm]
  rw[this,ko,hw];have hR:R2=a.Read.length-(rg_meas a).length:=by
   rw[hm,uZ];by_cases hn:a.Read.length=0
   ·rcases t2 with t|⟨q,hq,_⟩<;>omega
   ·have ho:rg_okAt a 0=false:=by
     cases ho:rg_okAt a 0 with
     |false=>rfl
     |true=>
      obtain⟨t,ht,_⟩:=EY (a:=a) (q:=0) (by omega) ho;omega
    have h1:=g2 0 (kd _) (by omega) ho;have rg_val:∀q,q<a.Read.length->rg_okAt a q=false->run q=a.Read.length:=λq h1 h2=>by
     rcases(hrun q h1 h2).2 with⟨_,h3⟩|⟨k,d,hk,_⟩
     ·exact h3
     ·omega
    rw[rg_val 0 (by omega) ho] at h1;rcases t2 with t|⟨q,h3,h4,t⟩
    ·omega
    ·rw[t,rg_val q h3 h4]
  exact⟨R2,by rw[hR],e2'⟩
 ·have:(((rg_meas a).length:Int)==0)=false:=kU.2 (by omega);rw[this,ku,hw];obtain⟨R1,e1,_,g1,t1⟩:=qEu a h FUEL 0 0 (by rw[wD];omega) (by omega);have e1':UD a (jB (rg_meas a)) FUEL 0 0=some (R1:Int):=e1;rw[e1'];have hR:R1=R2:=by
   apply Nat.le_antisymm
   ·rcases t1 with t|⟨k,hk,t⟩
    ·omega
    ·by_cases hz:rg_gap a k=0
     ·omega
     ·have hg:=JS hk;have ho:=VG hk (kd 1) (by omega);have hq:(rg_Mi a k+1) % a.Read.length<a.Read.length:=kH _ (by omega);have h1:=g2 _ (kS _) hq ho;have hv:jA a (((rg_Mi a k+1) % a.Read.length:Nat):Int) FUEL 0=some ((rg_gap a k:Nat):Int):=by
       have hs:∀e,((rg_Mi a k+1) % a.Read.length+e) % a.Read.length=(rg_Mi a k+(1+e)) % a.Read.length:=λe=>by rw[uP,uS]
       refine qCO a h _ _ hq (by omega) (λe he=>?_) (.inr ?_) FUEL 0 (by rw[wD];omega) (by omega)
       ·rw[hs];exact VG hk (by omega) (by omega)
       ·rw[hs,show 1+rg_gap a k=rg_gap a k+1 by omega,AA hk];exact(zZ (kH _ (by omega))).2
      have h2:=(hrun _ hq ho).1;rw[hv] at h2;have h3:rg_gap a k=run ((rg_Mi a k+1) % a.Read.length):=by
       have:=kD h2;omega
      omega
   ·rcases t2 with t|⟨q,h3,h4,t⟩
    ·omega
    ·rcases(hrun q h3 h4).2 with⟨h5,_⟩|⟨k,d,hk,hd1,hd2,_,hr⟩
     ·omega
     ·have:=g1 k (kS _) hk;omega
  exact⟨R2,by rw[hR];rfl,e2'⟩
end Saw
end Go.SL

set_option linter.unusedSectionVars false
namespace Go.SL
namespace Saw
theorem XI (a:Ring):(rg_meas a).length<=a.Read.length:=by unfold rg_meas;exact ur (gL _ _) (by simp)
theorem qG9 (a:Ring) (h:a.Read.length<=1000) {k:Nat} (hk:k<(rg_meas a).length):∀(n c:Nat),1<=c->c<=rg_gap a k+1->rg_gap a k+1<c+n->
  YO a.Read 1 n (((rg_Mi a k+c) % a.Read.length:Nat):Int)=some ((rg_Mi a ((k+1) % (rg_meas a).length):Nat):Int)
 |0,c,h1,h2,h3=>by omega
 |n+1,c,h1,h2,h3=>by
  have h0:=zZ hk;have hlt:(rg_Mi a k+c) % a.Read.length<a.Read.length:=kH _ (by omega);unfold YO;rw[zV (by omega) (by omega),UU (by omega)];simp only[ko,kr];rw[show(a.Read.getD ((rg_Mi a k+c) % a.Read.length) dd).Ok=rg_okAt a ((rg_Mi a k+c) % a.Read.length) from rfl];by_cases hc:c=rg_gap a k+1
  ·subst hc;rw[AA hk,(zZ (kH _ (by omega))).2];rfl
  ·rw[VG hk h1 (by omega)];have e:w64 (w64 ((((rg_Mi a k+c) % a.Read.length:Nat):Int)+1)+(a.Read.length:Int))=(((rg_Mi a k+c) % a.Read.length+1+a.Read.length:Nat):Int):=by
    rw[qZ (n:=_+1) (by omega) (by omega),qZ (by omega) (by omega)];omega
   rw[e,jV,uA,uP,uS];exact qG9 a h hk n (c+1) (by omega) (by omega) (by omega)
theorem qG5 (a:Ring) (h:a.Read.length<=1000) {k:Nat} (hk:k<(rg_meas a).length):∀(n c:Nat),c<=rg_gap a k->c<n->
  YO a.Read (-1) n (((rg_Mi a k+c) % a.Read.length:Nat):Int)=some ((rg_Mi a k:Nat):Int)
 |0,c,h1,h2=>by omega
 |n+1,c,h1,h2=>by
  have h0:=zZ hk;have hg:=JS hk;have hlt:(rg_Mi a k+c) % a.Read.length<a.Read.length:=kH _ (by omega);unfold YO;rw[zV (by omega) (by omega),UU (by omega)];simp only[ko,kr];rw[show(a.Read.getD ((rg_Mi a k+c) % a.Read.length) dd).Ok=rg_okAt a ((rg_Mi a k+c) % a.Read.length) from rfl];by_cases hc:c=0
  ·subst hc;rw[kV,zU h0.1,h0.2];rfl
  ·rw[VG hk (by omega) h1];have e:w64 (w64 ((((rg_Mi a k+c) % a.Read.length:Nat):Int)+ -1)+(a.Read.length:Int))=(((rg_Mi a k+c) % a.Read.length+(a.Read.length-1):Nat):Int):=by
    rw[qZ (n:=_+ -1) (by omega) (by omega),qZ (by omega) (by omega)];omega
   rw[e,jV,uP,show rg_Mi a k+c+(a.Read.length-1)=rg_Mi a k+(c-1)+a.Read.length by omega,uA];exact qG5 a h hk n (c-1) (by omega) (by omega)
theorem qRx (a:Ring) (h:a.Read.length<=1000) {k d:Nat} (hk:k<(rg_meas a).length) (hd:d<=rg_gap a k):
  QY a.Read (((rg_Mi a k+d) % a.Read.length:Nat):Int) 1=some ((rg_Mi a ((k+1) % (rg_meas a).length):Nat):Int):=by
 have h0:=zZ hk;have hlt:(rg_Mi a k+d) % a.Read.length<a.Read.length:=kH _ (by omega);have hg:=JS hk;unfold QY;rw[UU (by omega)];have e:w64 (w64 ((((rg_Mi a k+d) % a.Read.length:Nat):Int)+1)+(a.Read.length:Int))=(((rg_Mi a k+d) % a.Read.length+1+a.Read.length:Nat):Int):=by
  rw[qZ (n:=_+1) (by omega) (by omega),qZ (by omega) (by omega)];omega
 rw[e,jV,uA,uP,uS,qG9 a h hk FUEL (d+1) (by omega) (by omega) (by rw[wD];omega)];rfl
theorem qQA (a:Ring) (h:a.Read.length<=1000) {k d:Nat} (hk:k<(rg_meas a).length) (h1:1<=d) (hd:d<=rg_gap a k+1):
  QY a.Read (((rg_Mi a k+d) % a.Read.length:Nat):Int) (-1)=some ((rg_Mi a k:Nat):Int):=by
 have h0:=zZ hk;have hlt:(rg_Mi a k+d) % a.Read.length<a.Read.length:=kH _ (by omega);have hg:=JS hk;unfold QY;rw[UU (by omega)];have e:w64 (w64 ((((rg_Mi a k+d) % a.Read.length:Nat):Int)+ -1)+(a.Read.length:Int))=(((rg_Mi a k+d) % a.Read.length+(a.Read.length-1):Nat):Int):=by
  rw[qZ (n:=_+ -1) (by omega) (by omega),qZ (by omega) (by omega)];omega
 rw[e,jV,uP,show rg_Mi a k+d+(a.Read.length-1)=rg_Mi a k+(d-1)+a.Read.length by omega,uA,qG5 a h hk FUEL (d-1) (by omega) (by rw[wD];omega)];rfl
theorem qZ4 (a:Ring) (h:a.Read.length<=1000) {k:Nat} (hk:k<(rg_meas a).length):QY a.Read ((rg_Mi a k:Nat):Int) 1=some ((rg_Mi a ((k+1) % (rg_meas a).length):Nat):Int):=by
 have:=qRx a h hk (kS (rg_gap a k))
 rwa [kV,zU (zZ hk).1] at this
theorem q0w (a:Ring) (h:a.Read.length<=1000) {k:Nat} (hk:k<(rg_meas a).length):QY a.Read ((rg_Mi a k:Nat):Int) (-1)=some ((rg_Mi a ((k+((rg_meas a).length-1)) % (rg_meas a).length):Nat):Int):=by
 have hk':(k+((rg_meas a).length-1)) % (rg_meas a).length<(rg_meas a).length:=kH _ (by omega);have:=qQA a h hk' (show 1<=rg_gap a _+1 by omega) (kd _);rw[AA hk',uP,show k+((rg_meas a).length-1)+1=k+(rg_meas a).length by omega,uA,zU hk] at this;exact this
def rg_farB (p q:qA) (r:Int):Bool:=decide (w64 (p.X-q.X)>r)||(decide (w64 (q.X-p.X)>r)||(decide (w64 (p.Y-q.Y)>r)||decide (w64 (q.Y-p.Y)>r)))
theorem qRp (x y r:Int):decide (imax x y>r)=(decide (x>r)||decide (y>r)):=by
 unfold imax;by_cases h1:x>r<;>by_cases h2:y>r<;>by_cases h3:y>x<;>simp[h1,h2,h3]<;>omega
theorem q0Z (p q:qA) (r:Int):qFq p q r=some (rg_farB p q r):=by
 unfold qFq qCJ rg_farB;rw[qRp,qRp];cases decide (w64 (p.X-q.X)>r)<;>cases decide (w64 (q.X-p.X)>r)<;>simp
theorem qZa (p q:qA) (r:Int):BC p q r=some (rg_farB p q r):=by
 unfold BC XZ rg_farB;cases decide (w64 (p.X-q.X)>r)<;>cases decide (w64 (q.X-p.X)>r)<;>cases decide (w64 (p.Y-q.Y)>r)<;>simp
def rg_Pt (a:Ring) (i:Nat):qA:=(a.Read.getD i dd).P
def rg_nb (a:Ring) (k e:Nat):Nat:=rg_Mi a ((k+e) % (rg_meas a).length)
def rg_Ek (a:Ring) (r:Int) (k:Nat):Bool:=rg_farB (rg_Pt a (rg_Mi a k)) (rg_Pt a (rg_nb a k ((rg_meas a).length-1))) r&&rg_farB (rg_Pt a (rg_Mi a k)) (rg_Pt a (rg_nb a k 1)) r
def rg_dropB (a:Ring) (r:Int) (q:Nat):Bool:=(List.range (rg_meas a).length).any λk=>decide (rg_Mi a k=q)&&rg_Ek a r k
theorem qUn {a:Ring} {i j:Nat} (hi:i<(rg_meas a).length) (hj:j<(rg_meas a).length) (h:rg_Mi a i=rg_Mi a j):i=j:=by
 rcases Nat.lt_trichotomy i j with h1|h1|h1
 ·have:=OU h1 hj;omega
 ·exact h1
 ·have:=OU h1 hi;omega
theorem qNU {a:Ring} {r:Int} {k:Nat} (hk:k<(rg_meas a).length):rg_dropB a r (rg_Mi a k)=rg_Ek a r k:=by
 unfold rg_dropB;cases he:rg_Ek a r k with
 |true=>
  rw[gg];exact⟨k,uC.2 hk,by simp[he]⟩
 |false=>
  rw[List.any_eq_false];intro j hj;have hj':=uC.1 hj;by_cases h:rg_Mi a j=rg_Mi a k
  ·rw[qUn hj' hk h,he];simp
  ·simp[h]
def qJq :qL:=qL.mk (qA.mk 0 0) false
def PN (a:Ring) (r:Int) (l:List qL) (i:Nat):List qL:=bif rg_dropB a r i then l.set i qJq else l
theorem qEW (a:Ring) (r:Int) (l:List qL) (i:Nat):(PN a r l i).length=l.length:=by
 unfold PN;cases rg_dropB a r i<;>simp
theorem qG6 (a:Ring) (r:Int):∀(m:List Nat) (l:List qL),(m.foldl (PN a r) l).length=l.length
 |[],_=>rfl
 |i::m,l=>by rw[uD,qG6 a r m,qEW]
section
variable (a :Ring) (r:Int) (h:a.Read.length<=1000)
include h
theorem q0Y (k n:Nat) (b:Bool):jQ a r (jB (rg_meas a)) (k:Int) (n+1) b 2=some b:=by
 rw[jQ];rfl
theorem qQ0 (k n:Nat) (hk:k<(rg_meas a).length) (b:Bool) (x x1:Int) (e:Nat) (hx:decide (x<2)=true) (hx2:inb x 2=true) (hx1:w64 (x+1)=x1)
  (he:w64 (w64 ((k:Int)+((rg_meas a).length:Int))+([-1,1]:List Int).getD x.toNat 0)=((k+e:Nat):Int)):
  jQ a r (jB (rg_meas a)) (k:Int) (n+1) b x=jQ a r (jB (rg_meas a)) (k:Int) n (b&&rg_farB (rg_Pt a (rg_Mi a k)) (rg_Pt a (rg_nb a k e)) r) x1:=by
 have hk':(k+e) % (rg_meas a).length<(rg_meas a).length:=kH _ (by omega);have h1:=zZ hk';have h0:=zZ hk;rw[jQ,hx,hx2,ZR,he,UU (by omega),jV,zV (by omega) (by omega)];simp only[ko,kr,TL];rw[show(rg_meas a).getD ((k+e) % (rg_meas a).length) 0=rg_nb a k e from rfl,show(rg_meas a).getD k 0=rg_Mi a k from rfl,zV (show 0<=((rg_nb a k e:Nat):Int) by omega) (by unfold rg_nb;omega),zV (show 0<=((rg_Mi a k:Nat):Int) by omega) (by omega)];simp only[ko,kr,q0Z,ke,AW,hx1];cases b<;>rfl
theorem q2f (k:Nat) (hk:k<(rg_meas a).length):jQ a r (jB (rg_meas a)) (k:Int) FUEL true 0=some (rg_Ek a r k):=by
 have hl:=XI a;rw[wD,show(9223372036854775808:Nat)=9223372036854775805+1+1+1 from rfl];rw[qQ0 a r h k _ hk true 0 1 ((rg_meas a).length-1) (by decide) (by decide) (by kernel_rfl) (by
  rw[show([-1,1]:List Int).getD (0:Int).toNat 0= -1 from rfl,qZ (n:=(k:Int)+_) (by omega) (by omega),qZ (by omega) (by omega)];omega)]
 rw[qQ0 a r h k _ hk _ 1 2 ((rg_meas a).length+1) (by decide) (by decide) (by kernel_rfl) (by
  rw[show([-1,1]:List Int).getD (1:Int).toNat 0=1 from rfl,qZ (n:=(k:Int)+_) (by omega) (by omega),qZ (by omega) (by omega)];omega)]
 rw[q0Y a r h];have e:rg_nb a k ((rg_meas a).length+1)=rg_nb a k 1:=by
  unfold rg_nb;rw[show k+((rg_meas a).length+1)=k+1+(rg_meas a).length by omega,uA]
 rw[e];simp[rg_Ek]
theorem qKx :∀(n x:Nat) (l:List qL),(rg_meas a).length<x+n->x<=(rg_meas a).length->l.length=a.Read.length->
  WO a r (jB (rg_meas a)) n (x:Int) l=some (((rg_meas a).drop x).foldl (PN a r) l)
 |0,x,l,h1,h2,_=>by omega
 |n+1,x,l,h1,h2,h3=>by
  have hl:=XI a;unfold WO;rw[ZR];by_cases hx:x<(rg_meas a).length
  ·have h0:=zZ hx;rw[YC hx,zV (by omega) (by omega),q2f a r h x hx,gP hx,uD];have hg:(rg_meas a)[x]=rg_Mi a x:=by have:=qL4 hx;rw[kp hx] at this;exact kD this
   rw[hg];simp only[ko,ke,kr,TL,AO,wK x (by omega)];rw[show(rg_meas a).getD x 0=rg_Mi a x from rfl,zV (show 0<=((rg_Mi a x:Nat):Int) by omega) (by omega)];simp only[ko,kr];have ih:=qKx n (x+1) (PN a r l (rg_Mi a x)) (by omega) (by omega) (by rw[qEW];exact h3);rw[<-ih];unfold PN;rw[qNU hx];cases rg_Ek a r x<;>rfl
  ·rw[YE hx,uw (by omega)];rfl
theorem SC :∀(n x:Nat) (l:List qL),a.Read.length<x+n->x<=a.Read.length->l.length=a.Read.length->
  jR a r n (x:Int) l=some ((List.range' x (a.Read.length-x)).foldl (λl i=>if rg_okAt a i=true then PN a r l i else l) l)
 |0,x,l,h1,h2,_=>by omega
 |n+1,x,l,h1,h2,h3=>by
  unfold jR;by_cases hx:x<a.Read.length
  ·rw[YC hx,zV (by omega) (by omega),show a.Read.length-x=(a.Read.length-(x+1))+1 by omega,List.range'_succ,uD];simp only[ko,kr,MR,UW,wK x (by omega)];rw[show(a.Read.getD x dd).Ok=rg_okAt a x from rfl];cases ho:rg_okAt a x with
   |false=>exact SC n (x+1) l (by omega) (by omega) h3
   |true=>
    obtain⟨k,hk,hkx⟩:=EY hx ho;subst hkx;have hp:(k+((rg_meas a).length-1)) % (rg_meas a).length<(rg_meas a).length:=kH _ (by omega);have hn:(k+1) % (rg_meas a).length<(rg_meas a).length:=kH _ (by omega);have h4:=zZ hp;have h5:=zZ hn;rw[qZ4 a h hk,q0w a h hk];simp only[kZ,ku,ke,kr];rw[zV (show 0<=((rg_Mi a ((k+((rg_meas a).length-1)) % (rg_meas a).length):Nat):Int) by omega) (by omega),zV (show 0<=((rg_Mi a ((k+1) % (rg_meas a).length):Nat):Int) by omega) (by omega),zV (show 0<=((rg_Mi a k:Nat):Int) by omega) (by omega)];simp only[ko,qZa,ke,if_true]
    have ih:=SC n (rg_Mi a k+1) (PN a r l (rg_Mi a k)) (by omega) (by omega) (by rw[qEW];exact h3);rw[<-ih];unfold PN;rw[qNU hk];unfold rg_Ek rg_nb;rw[show(a.Read.getD (rg_Mi a k) dd).P=rg_Pt a (rg_Mi a k) from rfl,show(a.Read.getD (rg_Mi a ((k+((rg_meas a).length-1)) % (rg_meas a).length)) dd).P=rg_Pt a (rg_Mi a ((k+((rg_meas a).length-1)) % (rg_meas a).length)) from rfl,
     show(a.Read.getD (rg_Mi a ((k+1) % (rg_meas a).length)) dd).P=rg_Pt a (rg_Mi a ((k+1) % (rg_meas a).length)) from rfl]
    cases rg_farB (rg_Pt a (rg_Mi a k)) (rg_Pt a (rg_Mi a ((k+((rg_meas a).length-1)) % (rg_meas a).length))) r<;>cases rg_farB (rg_Pt a (rg_Mi a k)) (rg_Pt a (rg_Mi a ((k+1) % (rg_meas a).length))) r<;>rfl
  ·rw[YE hx,show a.Read.length-x=0 by omega];rfl
end
def rg_cleaned (a:Ring) (r:Int):Ring:=bif decide (r<0) then a else bif decide (((rg_meas a).length:Int)<2) then a else bif ZO a !=0 then a else⟨a.Z,(rg_meas a).foldl (PN a r) a.Read⟩
theorem qU9 (a:Ring) (r:Int) (h:a.Read.length<=1000):qAz a r=some (rg_cleaned a r):=by
 have hl:=XI a;unfold qAz DN rg_cleaned;rw[qH2 a h,qB5 a h];simp only[ke,GS,ZR];have hL:WO a r (jB (rg_meas a)) FUEL 0 a.Read=some ((rg_meas a).foldl (PN a r) a.Read):=by
  have:=qKx a r h FUEL 0 a.Read (by rw[wD];omega) (by omega) rfl
  rwa [uI] at this
 rw[hL];cases decide (r<0)<;>cases decide (((rg_meas a).length:Int)<2)<;>cases (ZO a !=0)<;>rfl
theorem qYp (a:Ring) (r:Int) (h:a.Read.length<=1000):EG a r=some (rg_cleaned a r):=by
 have hl:=XI a;obtain⟨L,_,hg⟩:=qE9 a h;unfold EG UR rg_cleaned;rw[hg,qF2 a h];simp only[ke,LT];have hw:w64 ((a.Read.length:Int)-((a.Read.length-(rg_meas a).length:Nat):Int))=((rg_meas a).length:Int):=by
  rw[qZ (by omega) (by omega)];omega
 have hL:jR a r FUEL 0 a.Read=some ((rg_meas a).foldl (PN a r) a.Read):=by
  have:=SC a r h FUEL 0 a.Read (by rw[wD];omega) (by omega) rfl;rw[uZ,<-gM,<-List.foldl_filter] at this;exact this
 rw[hw,hL];cases decide (r<0)<;>cases decide (((rg_meas a).length:Int)<2)<;>cases (ZO a !=0)<;>rfl
theorem qSF (a:Ring) (r:Int):(rg_cleaned a r).Read.length=a.Read.length:=by
 unfold rg_cleaned;cases decide (r<0)<;>cases decide (((rg_meas a).length:Int)<2)<;>cases (ZO a !=0)<;>simp[qG6]
theorem qWL (a:Ring) (r:Int):(rg_cleaned a r).Z=a.Z:=by
 unfold rg_cleaned;cases decide (r<0)<;>cases decide (((rg_meas a).length:Int)<2)<;>cases (ZO a !=0)<;>rfl
theorem EJ {α:Type} [Inhabited α] {l t:List α} (h:l.length=t.length) (hj:∀j,j<l.length->l.getD j dd=t.getD j dd):l=t:=by
 apply gx h;intro i h1 h2;have:=hj i h1
 rwa [ka,ka,kp h1,kp h2] at this
theorem JA {α:Type} [Inhabited α] {l:List α} {x:Nat} (v:α) (h:x<l.length):(l.set x v).getD x dd=v:=by
 rw[ka,gj h];rfl
theorem yZ {α:Type} [Inhabited α] {l:List α} {x j:Nat} (v:α) (h:x≠j):(l.set x v).getD j dd=l.getD j dd:=by
 rw[ka,gO h,<-ka]
theorem BB {α β:Type} [Inhabited α] [Inhabited β] (f:α->β) (l:List α) {j:Nat} (h:j<l.length):(l.map f).getD j dd=f (l.getD j dd):=by
 rw[ka,ka,kF,kp h];rfl
def jL (q:Nat) (p:qA):qA:=match q with
 |0=>p
 |1=>⟨-p.Y,p.X⟩
 |2=>⟨-p.X,-p.Y⟩
 |_=>⟨p.Y,-p.X⟩
def TA (p:qA):Prop:= -600<=p.X/\p.X<=600/\-600<=p.Y/\p.Y<=600
theorem qDC {r:qL} (h:YW r=0):TA r.P/\(r.Ok=false->r.P=⟨0,0⟩):=by
 unfold YW at h;cases ho:r.Ok with
 |true=>
  rw[ho] at h;cases hr:VM r.P with
  |false=>rw[hr] at h;simp at h
  |true=>
   simp only[VM,kq,decide_eq_true_eq] at hr;exact⟨⟨hr.1.1,hr.1.2,hr.2.1,hr.2.2⟩,λh=>by cases h⟩
 |false=>
  rw[ho] at h;cases hz:qDr r.P with
  |false=>rw[hz] at h;simp at h
  |true=>
   have:r.P=⟨0,0⟩:=by
    obtain⟨⟨x,y⟩,o⟩:=r;simp only[qDr,Bool.and_true,kq,beq_iff_eq] at hz;simp only at hz⊢;rw[hz.1,hz.2]
   rw[this];exact⟨⟨by decide,by decide,by decide,by decide⟩,λ_=>rfl⟩
theorem qVj (r:Int):∃q:Nat,q<4/\Int.tmod (w64 (Int.tmod r 4+4)) 4=(q:Int):=by
 have h1:=uL r (show(0:Int)<4 by decide);have h2: -4<Int.tmod r 4:=by
  rcases gI 0 r with h|h
  ·have:=gA 4 h;omega
  ·have:=gA 4 (show 0<=-r by omega);have h3:=uL (-r) (show(0:Int)<4 by decide);rw[Int.neg_tmod] at this h3;omega
 rw[qZ (by omega) (by omega)];obtain⟨n,hn⟩:=Int.eq_ofNat_of_zero_le (show 0<=Int.tmod r 4+4 by omega);rw[hn];exact⟨n % 4,kH _ (by decide),rfl⟩
theorem qG2 (l:List qA) (hs:∀p∈l,TA p) (h:l.length<=1000):∀(n x:Nat),l.length<x+n->x<=l.length->QN l n (x:Int)=some (.inr ())
 |0,x,h1,h2=>by omega
 |n+1,x,h1,h2=>by
  unfold QN;by_cases hx:x<l.length
  ·have hm:TA (l.getD x dd):=hs _ (by rw[ka,kp hx];exact uq hx);rw[YC hx,zV (by omega) (by omega)];simp only[ko,kr,BQ,wK x (by omega)];have e1:((l.getD x dd).X== -9223372036854775808)=false:=kU.2 (by have:=hm.1;omega);have e2:((l.getD x dd).Y== -9223372036854775808)=false:=kU.2 (by have:=hm.2.2.1;omega);rw[e1,e2];exact qG2 l hs h n (x+1) (by omega) (by omega)
  ·rw[YE hx];rfl
theorem qR8 (l:List qA) (hs:∀p∈l,TA p) (h:l.length<=1000):NS l=some true:=by
 unfold NS;have:=qG2 l hs h FUEL 0 (by rw[wD];omega) (by omega);have h':QN l FUEL 0=some (.inr ()):=this;rw[h'];rfl
theorem qRR (q:Nat) (hq:q<4) (p:qA) (hs:TA p):
  qA.mk (w64 (w64 ((zO.getD q dd).X*p.X)-w64 ((zO.getD q dd).Y*p.Y))) (w64 (w64 ((zO.getD q dd).Y*p.X)+w64 ((zO.getD q dd).X*p.Y)))=jL q p:=by
 obtain⟨h1,h2,h3,h4⟩:=hs;obtain⟨x,y⟩:=p;simp only at h1 h2 h3 h4
 match q,hq with
 |0,_=>
  simp only[zO,kY,jL,Int.one_mul,Int.zero_mul];rw[qZ (n:=x) (by omega) (by omega),qZ (n:=y) (by omega) (by omega),qZ (n:=0) (by omega) (by omega),qZ (by omega) (by omega),qZ (by omega) (by omega)]
  congr 1<;>omega
 |1,_=>
  simp only[zO,kY,gy,jL,Int.one_mul,Int.zero_mul];rw[qZ (n:=x) (by omega) (by omega),qZ (n:=y) (by omega) (by omega),qZ (n:=0) (by omega) (by omega),qZ (by omega) (by omega),qZ (by omega) (by omega)]
  congr 1<;>omega
 |2,_=>
  simp only[zO,kY,gy,jL,Int.zero_mul];rw[qZ (n:= -1*x) (by omega) (by omega),qZ (n:= -1*y) (by omega) (by omega),qZ (n:=0) (by omega) (by omega),qZ (by omega) (by omega),qZ (by omega) (by omega)]
  congr 1<;>omega
 |3,_=>
  simp only[zO,kY,gy,jL,Int.zero_mul];rw[qZ (n:= -1*x) (by omega) (by omega),qZ (n:= -1*y) (by omega) (by omega),qZ (n:=0) (by omega) (by omega),qZ (by omega) (by omega),qZ (by omega) (by omega)]
  congr 1<;>omega
theorem qF1 (l:List qA) (hs:∀p∈l,TA p) (h:l.length<=1000) (r:Int) (q:Nat) (hq:q<4) (hr:Int.tmod (w64 (Int.tmod r 4+4)) 4=(q:Int)):
  ∀(n x:Nat) (t:List qA),l.length<x+n->x<=l.length->t.length=l.length->(∀j,j<x->t.getD j dd=jL q (l.getD j dd))->UM l r n t (x:Int)=some (l.map (jL q))
 |0,x,t,h1,h2,_,_=>by omega
 |n+1,x,t,h1,h2,h3,h4=>by
  unfold UM;by_cases hx:x<l.length
  ·have hm:TA (l.getD x dd):=hs _ (by rw[ka,kp hx];exact uq hx);rw[YC hx,zV (by omega) (by omega),zV (by omega) (by omega),hr];simp only[ko,kr,wK x (by omega)];rw[qRR q hq _ hm];refine qF1 l hs h r q hq hr n (x+1) _ (by omega) (by omega) (by rw[ga];exact h3) (λj hj=>?_);by_cases he:x=j
   ·subst he;rw[JA _ (by omega)]
   ·rw[yZ _ he];exact h4 j (by omega)
  ·rw[YE hx];have:t=l.map (jL q):=EJ (by simp[h3]) (λj hj=>by rw[h4 j (by omega),BB _ _ (by omega)]);rw[this];rfl
theorem qS6 (l:List qA) (hs:∀p∈l,TA p) (h:l.length<=1000) (r:Int) (q:Nat) (hq:q<4) (hr:Int.tmod (w64 (Int.tmod r 4+4)) 4=(q:Int)):qDq l r=some (l.map (jL q)):=by
 unfold qDq;have hmk:mkOk (l.length:Int) 16=true:=by unfold mkOk;exact kf ⟨by omega,by omega,by omega⟩
 have hL:=qF1 l hs h r q hq hr FUEL 0 (List.replicate l.length (qA.mk 0 0)) (by rw[wD];omega) (by omega) (by simp) (λj hj=>by omega);have hL':UM l r FUEL (List.replicate l.length (qA.mk 0 0)) 0=some (l.map (jL q)):=hL;rw[qR8 l hs h,hr,hmk,zV (by omega) (by omega)];simp only[ke,kZ,ku,ko,kr,hL']
def KU (q:Nat) (r:qL):qL:=⟨jL q r.P,r.Ok⟩
def qLI (q:Nat) (a:Ring):Ring:=⟨a.Z,a.Read.map (KU q)⟩
theorem qIk (a:Ring) (h:a.Read.length<=1000):∀(n x:Nat) (t:List qA),a.Read.length<x+n->x<=a.Read.length->t.length=a.Read.length->(∀j,j<x->t.getD j dd=(a.Read.getD j dd).P)->
  TQ a n t (x:Int)=some (a.Read.map (·.P))
 |0,x,t,h1,h2,_,_=>by omega
 |n+1,x,t,h1,h2,h3,h4=>by
  unfold TQ;by_cases hx:x<a.Read.length
  ·rw[YC hx,zV (by omega) (by omega),zV (by omega) (by omega)];simp only[ko,kr,wK x (by omega)];refine qIk a h n (x+1) _ (by omega) (by omega) (by rw[ga];exact h3) (λj hj=>?_);by_cases he:x=j
   ·subst he;rw[JA _ (by omega)]
   ·rw[yZ _ he];exact h4 j (by omega)
  ·rw[YE hx];have:t=a.Read.map (·.P):=EJ (by simp[h3]) (λj hj=>by rw[h4 j (by omega),BB _ _ (by omega)]);rw[this];rfl
theorem qII (a:Ring) (h:a.Read.length<=1000) (q:Nat):∀(n x:Nat) (t:List qL),a.Read.length<x+n->x<=a.Read.length->t.length=a.Read.length->(∀j,j<x->t.getD j dd=KU q (a.Read.getD j dd))->(∀j,x<=j->t.getD j dd=a.Read.getD j dd)->
  UZ ((a.Read.map (·.P)).map (jL q)) n (x:Int) t=some (a.Read.map (KU q))
 |0,x,t,h1,h2,_,_,_=>by omega
 |n+1,x,t,h1,h2,h3,h4,h5=>by
  unfold UZ;rw[uO,uO];by_cases hx:x<a.Read.length
  ·rw[YC hx,zV (by omega) (by omega),zV (by omega) (by omega)];simp only[ko,kr,wK x (by omega)];rw[h5 x (kd _),BB _ _ (by simpa using hx),BB _ _ hx];refine qII a h q n (x+1) _ (by omega) (by omega) (by rw[ga];exact h3) (λj hj=>?_) (λj hj=>?_)
   ·by_cases he:x=j
    ·subst he;rw[JA _ (by omega)];rfl
    ·rw[yZ _ he];exact h4 j (by omega)
   ·rw[yZ _ (by omega)];exact h5 j (by omega)
  ·rw[YE hx];have:t=a.Read.map (KU q):=EJ (by simp[h3]) (λj hj=>by rw[h4 j (by omega),BB _ _ (by omega)]);rw[this];rfl
theorem qWP (a:Ring) (r:Int) (g:jK a) (q:Nat) (hq:q<4) (hr:Int.tmod (w64 (Int.tmod r 4+4)) 4=(q:Int)):jY a r=some (qLI q a):=by
 have hn:=g.hi;unfold jY;have hmk:mkOk (a.Read.length:Int) 16=true:=by unfold mkOk;exact kf ⟨by omega,by omega,by omega⟩
 have hL:TQ a FUEL (List.replicate a.Read.length (qA.mk 0 0)) 0=some (a.Read.map (·.P)):=qIk a (by omega) FUEL 0 _ (by rw[wD];omega) (by omega) (by simp) (λj hj=>by omega);have hL2:UZ ((a.Read.map (·.P)).map (jL q)) FUEL 0 a.Read=some (a.Read.map (KU q)):=qII a (by omega) q FUEL 0 _ (by rw[wD];omega) (by omega) rfl (λj hj=>by omega) (λ_ _=>rfl);have hp:=qS6 (a.Read.map (·.P)) (λp hp=>by
  obtain⟨x,hx,rfl⟩:=gu.1 hp;exact(qDC (g.all x hx)).1) (by simpa using by omega) r q hq hr
 rw[qH2 a (by omega),GS,(JL a).2 g,hmk];simp only[ke,kL,ku,ko,kr,hL,hp,hL2];rfl
theorem qOm (a:Ring) (r:Int) (h:a.Read.length<=1000) (hb:¬jK a):jY a r=some a:=by
 unfold jY;have:(ZO a !=0)=true:=gb.2 (λh=>hb ((JL a).1 h));rw[qH2 a h,GS];simp only[ke,this,ko]
theorem qTG (q:Nat) (hq:q<4) (p:qA) (hs:TA p):NW p (q:Int)=some (jL q p):=by
 unfold NW;rw[wD,show(9223372036854775808:Nat)=9223372036854775803+1+1+1+1+1 from rfl];obtain⟨h1,h2,h3,h4⟩:=hs;obtain⟨x,y⟩:=p;simp only at h1 h2 h3 h4;have ws:∀z:Int,-600<=z->z<=600->w64 (0-z)= -z:=λz h1 h2=>by rw[qZ (by omega) (by omega)];omega
 have e1:w64 (0+1)=1:=by kernel_rfl
 have e2:w64 (1+1)=2:=by kernel_rfl
 have e3:w64 (2+1)=3:=by kernel_rfl
 have stop:∀(n:Nat) (z:qA),QP (q:Int) (n+1) (q:Int) z=some z:=λn z=>by
  rw[QP];simp
 have go:∀(n:Nat) (i:Int) (z:qA),i<(q:Int)->QP (q:Int) (n+1) i z=QP (q:Int) n (w64 (i+1)) ⟨w64 (0-z.Y),z.X⟩:=λn i z hi=>by
  rw[QP,kf hi];rfl
 match q,hq with
 |0,_=>rw[show(0:Int)=((0:Nat):Int) from rfl,stop];rfl
 |1,_=>
  rw[go _ _ _ (by decide),e1,show(1:Int)=((1:Nat):Int) from rfl,stop];simp only[ke,jL,ws y h3 h4]
 |2,_=>
  rw[go _ _ _ (by decide),e1,go _ _ _ (by decide),e2,show(2:Int)=((2:Nat):Int) from rfl,stop];simp only[ke,jL,ws y h3 h4,ws x h1 h2]
 |3,_=>
  rw[go _ _ _ (by decide),e1,go _ _ _ (by decide),e2,go _ _ _ (by decide),e3,show(3:Int)=((3:Nat):Int) from rfl,stop];simp only[ke,jL,ws y h3 h4,ws x h1 h2,ws (-y) (by omega) (by omega),Int.neg_neg]
theorem qU2 (q:Nat):jL q ⟨0,0⟩=⟨0,0⟩:=by
 unfold jL;split<;>rfl
theorem qAl (a:Ring) (g:jK a) (r:Int) (q:Nat) (hq:q<4) (hr:Int.tmod (w64 (Int.tmod r 4+4)) 4=(q:Int)):∀(n x:Nat) (t:List qL),a.Read.length<x+n->x<=a.Read.length->t.length=a.Read.length->(∀j,j<x->t.getD j dd=KU q (a.Read.getD j dd))->(∀j,x<=j->t.getD j dd=a.Read.getD j dd)->
  WM r n (x:Int) t=some (a.Read.map (KU q))
 |0,x,t,h1,h2,_,_,_=>by omega
 |n+1,x,t,h1,h2,h3,h4,h5=>by
  have hn:=g.hi;unfold WM;rw[h3];by_cases hx:x<a.Read.length
  ·have hmem:a.Read.getD x dd∈a.Read:=by rw[ka,kp hx];exact uq hx
   have hm:=qDC (g.all _ hmem);rw[YC hx,zV (by omega) (by omega)];simp only[ko,kr,wK x (by omega),AV,h5 x (kd _),JI,hr,ke,qTG q hq _ hm.1];cases ho:(a.Read.getD x dd).Ok with
   |true=>
    refine qAl a g r q hq hr n (x+1) _ (by omega) (by omega) (by rw[ga];exact h3) (λj hj=>?_) (λj hj=>?_)
    ·by_cases he:x=j
     ·subst he;rw[JA _ (by omega)];unfold KU;rw[ho]
     ·rw[yZ _ he];exact h4 j (by omega)
    ·rw[yZ _ (by omega)];exact h5 j (by omega)
   |false=>
    refine qAl a g r q hq hr n (x+1) t (by omega) (by omega) h3 (λj hj=>?_) (λj hj=>h5 j (by omega));by_cases he:x=j
    ·subst he;rw[h5 x (kd _)];unfold KU;rw[hm.2 ho,qU2,<-hm.2 ho]
    ·exact h4 j (by omega)
  ·rw[YE hx];have:t=a.Read.map (KU q):=EJ (by simp[h3]) (λj hj=>by rw[h4 j (by omega),BB _ _ (by omega)]);rw[this];rfl
theorem qZc (a:Ring) (r:Int) (g:jK a) (q:Nat) (hq:q<4) (hr:Int.tmod (w64 (Int.tmod r 4+4)) 4=(q:Int)):XJ a r=some (qLI q a):=by
 have hn:=g.hi;unfold XJ;have hL:WM r FUEL 0 a.Read=some (a.Read.map (KU q)):=qAl a g r q hq hr FUEL 0 _ (by rw[wD];omega) (by omega) rfl (λj hj=>by omega) (λ_ _=>rfl);rw[qF2 a (by omega),LT,(JL a).2 g];simp only[ke,kL,ku,hL];rfl
theorem qRE (a:Ring) (r:Int) (h:a.Read.length<=1000) (hb:¬jK a):XJ a r=some a:=by
 unfold XJ;have:(ZO a !=0)=true:=gb.2 (λh=>hb ((JL a).1 h));rw[qF2 a h,LT];simp only[ke,this,ko]
theorem qVE (a:Ring) (r:Int) (h:a.Read.length<=1000):∃b,jY a r=some b/\XJ a r=some b/\b.Read.length=a.Read.length:=by
 obtain⟨q,hq,hr⟩:=qVj r;by_cases g:jK a
 ·exact⟨_,qWP a r g q hq hr,qZc a r g q hq hr,by simp[qLI]⟩
 ·exact⟨_,qOm a r h g,qRE a r h g,rfl⟩
end Saw
end Go.SL

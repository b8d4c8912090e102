/- The ring laws' plain mathematics, part 2: the measured readings, their AH. -/
import Derived.Test.YthbamnkheinbgaaGreatDoorSMa8
set_option linter.unusedVariables false
set_option linter.unusedSimpArgs false
namespace Go.SL
namespace Saw
def rg_okAt (a:Ring) (i:Nat):Bool:=(a.Read.getD i dd).Ok
def rg_meas (a:Ring):List Nat:=(List.range a.Read.length).filter (rg_okAt a)
def rg_Mi (a:Ring) (k:Nat):Nat:=(rg_meas a).getD k 0
def wC (l:List Nat):List Int:=List.map (λi:Nat=>(i:Int)) l
theorem jX (l:List Nat):(wC l).length=l.length:=by simp[wC]
theorem YQ (l:List Nat) (k:Nat):(wC l).getD k dd=((l.getD k 0:Nat):Int):=by
 unfold wC;rw[ka,ka,kJ];cases l[k]? <;>rfl
theorem wQ (x:Nat) (h:x<=1000000):w64 ((x:Int)+1)=((x+1:Nat):Int):=by rw[qV (by omega) (by omega)];omega
theorem UN {x n:Nat} (h:x<n):decide ((x:Int)<((n:Nat):Int))=true:=kg (by omega)
theorem TY {x n:Nat} (h:¬x<n):decide ((x:Int)<((n:Nat):Int))=false:=kf (by omega)
theorem wP (a b:Nat):Int.tmod (a:Int) (b:Int)=((a % b:Nat):Int):=rfl
theorem IQ (a:Ring):∀(n x:Nat) (l:List Int),a.Read.length<x+n->x<=a.Read.length->a.Read.length<=1000->l.length<=x->
  wZ a n l (x:Int)=some (l++wC ((List.range' x (a.Read.length-x)).filter (rg_okAt a)))
 |0,x,l,h1,h2,_,_=>by omega
 |n+1,x,l,h1,h2,h3,h4=>by
  unfold wZ;by_cases hx:x<a.Read.length
  ·rw[UN hx,zH (by omega) (by omega),show a.Read.length-x=(a.Read.length-(x+1))+1 by omega,List.range'_succ,List.filter_cons,qAr (n:=l.length+1) (by omega)];simp only[ko,ks,KI,wQ x (by omega)];rw[show(a.Read.getD x dd).Ok=rg_okAt a x from rfl];cases hk:rg_okAt a x with
   |true=>
    rw[ko,IQ a n (x+1) _ (by omega) (by omega) h3 (by simp;omega)];simp[wC]
   |false=>
    rw[ku,IQ a n (x+1) _ (by omega) (by omega) h3 (by omega)];simp
  ·rw[TY hx,show a.Read.length-x=0 by omega];simp[wC]
theorem LS (a:Ring) (h:a.Read.length<=1000):ZH a=some (wC (rg_meas a)):=by
 unfold ZH;have:=IQ a FUEL 0 [] (by rw[zY];omega) (by omega) h (by simp);have h':wZ a FUEL [] 0=some (wC (rg_meas a)):=by
  rw[show(0:Int)=((0:Nat):Int) from rfl,this,uu,gE,<-gJ];rfl
 rw[h'];rfl
theorem qCQ {a:Ring} {k:Nat} (h:k<(rg_meas a).length):(rg_meas a)[k]? =some (rg_Mi a k):=by
 unfold rg_Mi;rw[ka,kq h];rfl
theorem zB {a:Ring} {k:Nat} (h:k<(rg_meas a).length):rg_Mi a k<a.Read.length/\rg_okAt a (rg_Mi a k)=true:=by
 have:=gc (qCQ h);unfold rg_meas at this;rw[List.mem_filter,uz] at this;exact this
theorem PH {a:Ring} {q:Nat} (h1:q<a.Read.length) (h2:rg_okAt a q=true):∃t,t<(rg_meas a).length/\rg_Mi a t=q:=by
 have hm:q∈rg_meas a:=by unfold rg_meas;rw[List.mem_filter,uz];exact⟨h1,h2⟩
 obtain⟨t,ht,he⟩:=uI.1 hm;exact⟨t,ht,by unfold rg_Mi;rw[ka,kq ht,he];rfl⟩
theorem DM {a:Ring} {i j:Nat} (hij:i<j) (hj:j<(rg_meas a).length):rg_Mi a i<rg_Mi a j:=by
 have hp:(rg_meas a).Pairwise (·<·):=List.Pairwise.filter _ List.pairwise_lt_range;have h1:=uO.1 hp i j (by omega) hj hij;have e1:(rg_meas a)[i]'(by omega)=rg_Mi a i:=by unfold rg_Mi;rw[ka,kq (by omega)];rfl
 have e2:(rg_meas a)[j]=rg_Mi a j:=by unfold rg_Mi;rw[ka,kq hj];rfl
 rwa [e1,e2] at h1
theorem TA {a:Ring} {i j:Nat} (hij:i<=j) (hj:j<(rg_meas a).length):rg_Mi a i<=rg_Mi a j:=by
 rcases Nat.lt_or_eq_of_le hij with h|rfl
 ·exact Nat.le_of_lt (DM h hj)
 ·exact kr _
def rg_gap (a:Ring) (k:Nat):Nat:=if k+1<(rg_meas a).length then rg_Mi a (k+1)-rg_Mi a k-1 else rg_Mi a 0+a.Read.length-rg_Mi a k-1
theorem qDO (a:Ring) (h:a.Read.length<=1000) {k:Nat} (hk:k<(rg_meas a).length):PF a (wC (rg_meas a)) (k:Int)=some ((rg_gap a k:Nat):Int):=by
 have h0:=zB hk;have hl:(rg_meas a).length<=a.Read.length:=by unfold rg_meas;exact ud (gI _ _) (by simp)
 unfold PF rg_gap;rw[wQ k (by omega),jX];by_cases hk1:k+1<(rg_meas a).length
 ·have h1:=zB hk1;have h2:=DM (a:=a) (show k<k+1 by omega) hk1;rw[UN hk1,zH (by omega) (by omega),zH (by omega) (by omega),if_pos hk1];simp only[ko,ks,YQ];rw[show(rg_meas a).getD (k+1) 0=rg_Mi a (k+1) from rfl,show(rg_meas a).getD k 0=rg_Mi a k from rfl];rw[qV (n:=((rg_Mi a (k+1):Nat):Int)-_) (by omega) (by omega),qV (by omega) (by omega)]
  congr 1
  omega
 ·have h1:=zB (a:=a) (k:=0) (by omega);have h2:=TA (a:=a) (kY k) hk;rw[TY hk1,ku,zH (by omega) (by omega),zH (by omega) (by omega),if_neg hk1];simp only[ko,ks,gG,YQ];rw[show(rg_meas a).getD 0 0=rg_Mi a 0 from rfl,show(rg_meas a).getD k 0=rg_Mi a k from rfl];rw[qV (n:=((rg_Mi a 0:Nat):Int)+_) (by omega) (by omega),qV (n:=((rg_Mi a 0:Nat):Int)+_-_) (by omega) (by omega),qV (by omega) (by omega)]
  congr 1
  omega
theorem qW {x n:Nat} (h:x<n):x % n=x:=ur h
theorem wU {x n:Nat} (h1:n<=x) (h2:x<2*n):x % n=x-n:=by
 rw[Nat.mod_eq_sub_mod h1,ur (by omega)]
theorem QM {a:Ring} {k:Nat} (hk:k<(rg_meas a).length):rg_gap a k+1<=a.Read.length:=by
 have h0:=zB hk;unfold rg_gap;split
 ·rename_i h;have:=zB h;omega
 ·have:=TA (a:=a) (kY k) hk;omega
theorem XS {a:Ring} {k d:Nat} (hk:k<(rg_meas a).length) (h1:1<=d) (h2:d<=rg_gap a k):rg_okAt a ((rg_Mi a k+d) % a.Read.length)=false:=by
 have h0:=zB hk;have hg:=QM hk;cases ho:rg_okAt a ((rg_Mi a k+d) % a.Read.length) with
 |false=>rfl
 |true=>
  obtain⟨t,ht,he⟩:=PH (kH _ (by omega)) ho;unfold rg_gap at h2;split at h2
  ·rename_i hk1;have h3:=zB hk1;rw[qW (by omega)] at he;rcases uJ t (k+1) with h|h
   ·have:=TA (a:=a) (show t<=k by omega) hk;omega
   ·have:=TA (a:=a) h ht;omega
  ·rename_i hk1;have ht':=TA (a:=a) (show t<=k by omega) hk;have hz:=TA (a:=a) (kY t) ht;by_cases hc:rg_Mi a k+d<a.Read.length
   ·rw[qW hc] at he;omega
   ·rw[wU (by omega) (by omega)] at he;omega
theorem GB {a:Ring} {k:Nat} (hk:k<(rg_meas a).length):(rg_Mi a k+(rg_gap a k+1)) % a.Read.length=rg_Mi a ((k+1) % (rg_meas a).length):=by
 have h0:=zB hk;unfold rg_gap;split
 ·rename_i hk1;have h3:=zB hk1;have h4:=DM (a:=a) (show k<k+1 by omega) hk1;rw[qW hk1,show rg_Mi a k+(rg_Mi a (k+1)-rg_Mi a k-1+1)=rg_Mi a (k+1) by omega,qW h3.1]
 ·rename_i hk1;have hz:=zB (a:=a) (k:=0) (by omega);have hle:=TA (a:=a) (kY k) hk;rw[show k+1=(rg_meas a).length by omega,gY,show rg_Mi a k+(rg_Mi a 0+a.Read.length-rg_Mi a k-1+1)=rg_Mi a 0+a.Read.length by omega,uE,qW hz.1]
theorem qCc (a:Ring) (q:Nat):∀(m j:Nat),(rg_meas a).length=j+m->1<=m->rg_Mi a j<q->∃k,k<(rg_meas a).length/\rg_Mi a k<q/\(k+1<(rg_meas a).length->q<=rg_Mi a (k+1))
 |0,_,_,h,_=>by omega
 |m+1,j,hm,_,hj=>by
  by_cases h:j+1<(rg_meas a).length
  ·by_cases hq:rg_Mi a (j+1)<q
   ·exact qCc a q m (j+1) (by omega) (by omega) hq
   ·exact⟨j,by omega,hj,λ_=>by omega⟩
  ·exact⟨j,by omega,hj,λh'=>absurd h' h⟩
theorem qIb {a:Ring} {q:Nat} (hm:1<=(rg_meas a).length) (hq:q<a.Read.length) (ho:rg_okAt a q=false):∃k d,k<(rg_meas a).length/\1<=d/\d<=rg_gap a k/\(rg_Mi a k+d) % a.Read.length=q:=by
 have hne:∀t,t<(rg_meas a).length->rg_Mi a t≠q:=λt ht he=>by
  have:=(zB ht).2;rw[he,ho] at this;cases this
 by_cases h0:rg_Mi a 0<q
 ·obtain⟨k,hk,h1,h2⟩:=qCc a q (rg_meas a).length 0 (by omega) hm h0;refine⟨k,q-rg_Mi a k,hk,by omega,?_,by rw[show rg_Mi a k+(q-rg_Mi a k)=q by omega,qW hq]⟩;unfold rg_gap;split
  ·rename_i hk1;have:=hne (k+1) hk1;have:=h2 hk1;omega
  ·omega
 ·have hne0:=hne 0 (by omega);have hlast:(rg_meas a).length-1<(rg_meas a).length:=by omega
  have hl:=zB (a:=a) hlast;have hle:=TA (a:=a) (kY ((rg_meas a).length-1)) hlast;refine⟨(rg_meas a).length-1,q+a.Read.length-rg_Mi a ((rg_meas a).length-1),hlast,by omega,?_,?_⟩
  ·unfold rg_gap;rw[if_neg (by omega)];omega
  ·rw[show rg_Mi a ((rg_meas a).length-1)+(q+a.Read.length-rg_Mi a ((rg_meas a).length-1))=q+a.Read.length by omega,uE,qW hq]
theorem qEQ (x y:Nat):imax (x:Int) (y:Int)=((max x y:Nat):Int):=by
 unfold imax;split<;>omega
theorem ET (a:Ring) (h:a.Read.length<=1000):∀(n x mx:Nat),(rg_meas a).length<x+n->x<=(rg_meas a).length->
  ∃R:Nat,XC a (wC (rg_meas a)) n (mx:Int) (x:Int)=some (R:Int)/\mx<=R/\(∀k,x<=k->k<(rg_meas a).length->rg_gap a k<=R)/\(R=mx\/∃k,k<(rg_meas a).length/\R=rg_gap a k)
 |0,x,mx,h1,h2=>by omega
 |n+1,x,mx,h1,h2=>by
  have hl:(rg_meas a).length<=a.Read.length:=by unfold rg_meas;exact ud (gI _ _) (by simp)
  unfold XC;rw[jX];by_cases hx:x<(rg_meas a).length
  ·rw[UN hx,qDO a h hx];simp only[ko,kd,qEQ,wQ x (by omega)];obtain⟨R,e,h3,h4,h5⟩:=ET a h n (x+1) (max mx (rg_gap a x)) (by omega) (by omega);refine⟨R,e,by omega,λk hk1 hk2=>?_,?_⟩
   ·rcases uJ x k with hk|hk
    ·exact h4 k hk hk2
    ·obtain rfl:k=x:=by omega
     omega
   ·rcases h5 with h5|h5
    ·rcases Nat.le_total mx (rg_gap a x) with hg|hg
     ·exact .inr ⟨x,hx,by omega⟩
     ·exact .inl (by omega)
    ·exact .inr h5
  ·rw[TY hx];exact⟨mx,rfl,kr _,λk hk1 hk2=>by omega,.inl rfl⟩
theorem MI (a:Ring) (h:a.Read.length<=1000) (q r:Nat) (hq:q<a.Read.length) (hr:r<=a.Read.length) (h1:∀d,d<r->rg_okAt a ((q+d) % a.Read.length)=false) (h2:r=a.Read.length\/rg_okAt a ((q+r) % a.Read.length)=true):
  ∀(n x:Nat),r<x+n->x<=r->jA a (q:Int) n (x:Int)=some (r:Int)
 |0,x,h3,h4=>by omega
 |n+1,x,h3,h4=>by
  unfold jA;by_cases hx:x<a.Read.length
  ·have e:w64 ((q:Int)+(x:Int))=((q+x:Nat):Int):=by rw[qV (by omega) (by omega)];omega
   have hm:(q+x) % a.Read.length<a.Read.length:=kH _ (by omega);rw[UN hx,YU (by omega),e,wP,zH (by omega) (by omega)];simp only[ko,ks,EG,wQ x (by omega)];rw[show(a.Read.getD ((q+x) % a.Read.length) dd).Ok=rg_okAt a ((q+x) % a.Read.length) from rfl];by_cases hxr:x<r
   ·rw[h1 x hxr];exact MI a h q r hq hr h1 h2 n (x+1) (by omega) (by omega)
   ·obtain rfl:x=r:=by omega
    rcases h2 with h2|h2
    ·omega
    ·rw[h2];rfl
  ·rw[TY hx];obtain rfl:x=r:=by omega
   rfl
theorem DQ (a:Ring) (h:a.Read.length<=1000) (run:Nat->Nat) (hrun:∀q,q<a.Read.length->rg_okAt a q=false->jA a (q:Int) FUEL 0=some ((run q:Nat):Int)):∀(n x c mx:Nat),a.Read.length<x+n->x<=a.Read.length->c<=x->
  ∃R:Nat,WW a n (c:Int) (mx:Int) (x:Int)=some (((c+(List.range' x (a.Read.length-x)).countP (λi=>!rg_okAt a i):Nat):Int),(R:Int))/\mx<=R/\(∀q,x<=q->q<a.Read.length->rg_okAt a q=false->run q<=R)/\(R=mx\/∃q,q<a.Read.length/\rg_okAt a q=false/\R=run q)
 |0,x,c,mx,h1,h2,_=>by omega
 |n+1,x,c,mx,h1,h2,hc=>by
  unfold WW;by_cases hx:x<a.Read.length
  ·rw[UN hx,zH (by omega) (by omega),show a.Read.length-x=(a.Read.length-(x+1))+1 by omega,List.range'_succ,List.countP_cons];simp only[ko,ks,EC,wQ x (by omega),wQ c (by omega)];rw[show(a.Read.getD x dd).Ok=rg_okAt a x from rfl];cases ho:rg_okAt a x with
   |true=>
    obtain⟨R,e,h3,h4,h5⟩:=DQ a h run hrun n (x+1) c mx (by omega) (by omega) (by omega);refine⟨R,by rw[ko,e];simp,h3,λq hq1 hq2 hq3=>?_,h5⟩;rcases uJ x q with hk|hk
    ·exact h4 q hk hq2 hq3
    ·obtain rfl:q=x:=by omega
     rw[ho] at hq3;cases hq3
   |false=>
    obtain⟨R,e,h3,h4,h5⟩:=DQ a h run hrun n (x+1) (c+1) (max mx (run x)) (by omega) (by omega) (by omega);refine⟨R,?_,by omega,λq hq1 hq2 hq3=>?_,?_⟩
    ·rw[ku,hrun x hx ho];simp only[kd,qEQ,e,gH,if_true]
     congr 3
     omega
    ·rcases uJ x q with hk|hk
     ·exact h4 q hk hq2 hq3
     ·obtain rfl:q=x:=by omega
      omega
    ·rcases h5 with h5|h5
     ·rcases Nat.le_total mx (run x) with hg|hg
      ·exact .inr ⟨x,hx,ho,by omega⟩
      ·exact .inl (by omega)
     ·exact .inr h5
  ·rw[TY hx,show a.Read.length-x=0 by omega];exact⟨mx,by simp,kr _,λq h1 h2=>by omega,.inl rfl⟩
theorem qOa (a:Ring) (h:a.Read.length<=1000) (q:Nat) (hq:q<a.Read.length) (ho:rg_okAt a q=false):
  ∃r,jA a (q:Int) FUEL 0=some ((r:Nat):Int)/\(((rg_meas a).length=0/\r=a.Read.length)\/∃k d,k<(rg_meas a).length/\1<=d/\d<=rg_gap a k/\(rg_Mi a k+d) % a.Read.length=q/\r=rg_gap a k+1-d):=by
 by_cases hm:(rg_meas a).length=0
 ·refine⟨a.Read.length,MI a h q _ hq (kr _) (λd _=>?_) (.inl rfl) FUEL 0 (by rw[zY];omega) (by omega),.inl ⟨hm,rfl⟩⟩;cases ho:rg_okAt a ((q+d) % a.Read.length) with
  |false=>rfl
  |true=>
   obtain⟨t,ht,_⟩:=PH (kH _ (by omega)) ho;omega
 ·obtain⟨k,d,hk,h1,h2,h3⟩:=qIb (by omega) hq ho;have hg:=QM hk;have hs:∀e,(q+e) % a.Read.length=(rg_Mi a k+(d+e)) % a.Read.length:=λe=>by rw[<-h3,uP,uX]
  refine⟨rg_gap a k+1-d,MI a h q _ hq (by omega) (λe he=>?_) (.inr ?_) FUEL 0 (by rw[zY];omega) (by omega),.inr ⟨k,d,hk,h1,h2,h3,rfl⟩⟩
  ·rw[hs];exact XS hk (by omega) (by omega)
  ·rw[hs,show d+(rg_gap a k+1-d)=rg_gap a k+1 by omega,GB hk];exact(zB (kH _ (by omega))).2
theorem qE2 (a:Ring):(rg_meas a).length+(List.range' 0 a.Read.length).countP (λi=>!rg_okAt a i)=a.Read.length:=by
 have:=List.length_eq_countP_add_countP (rg_okAt a) (l:=List.range a.Read.length);rw[uD] at this;rw[<-gJ];unfold rg_meas;rw[<-List.countP_eq_length_filter];have e:(List.range a.Read.length).countP (λi=>!rg_okAt a i)=(List.range a.Read.length).countP (λi=>decide ¬rg_okAt a i=true):=by
  congr 1
  funext i
  cases rg_okAt a i<;>rfl
 rw[e];omega
theorem AH (a:Ring) (h:a.Read.length<=1000):∃L:Nat,BJ a=some (((a.Read.length-(rg_meas a).length:Nat):Int),(L:Int))/\NT a=some (((a.Read.length-(rg_meas a).length:Nat):Int),(L:Int)):=by
 have hl:(rg_meas a).length<=a.Read.length:=by unfold rg_meas;exact ud (gI _ _) (by simp)
 have hc:=qE2 a;have hex:∀q,∃r,q<a.Read.length->rg_okAt a q=false->jA a (q:Int) FUEL 0=some ((r:Nat):Int)/\(((rg_meas a).length=0/\r=a.Read.length)\/∃k d,k<(rg_meas a).length/\1<=d/\d<=rg_gap a k/\(rg_Mi a k+d) % a.Read.length=q/\r=rg_gap a k+1-d):=λq=>by
  by_cases hq:q<a.Read.length/\rg_okAt a q=false
  ·obtain⟨r,hr⟩:=qOa a h q hq.1 hq.2;exact⟨r,λ_ _=>hr⟩
  ·exact⟨0,λh1 h2=>absurd ⟨h1,h2⟩ hq⟩
 obtain⟨run,hrun⟩:∃f:Nat->Nat,∀q,q<a.Read.length->rg_okAt a q=false->jA a (q:Int) FUEL 0=some ((f q:Nat):Int)/\(((rg_meas a).length=0/\f q=a.Read.length)\/∃k d,k<(rg_meas a).length/\1<=d/\d<=rg_gap a k/\(rg_Mi a k+d) % a.Read.length=q/\f q=rg_gap a k+1-d):=
  ⟨λq=>Classical.choose (hex q),λq=>Classical.choose_spec (hex q)⟩
 obtain⟨R2,e2,_,g2,t2⟩:=DQ a h run (λq h1 h2=>(hrun q h1 h2).1) FUEL 0 0 0 (by rw[zY];omega) (by omega) (by omega);have e2':NT a=some (((a.Read.length-(rg_meas a).length:Nat):Int),(R2:Int)):=by
  unfold NT;have e3:WW a FUEL 0 0 0=some (((a.Read.length-(rg_meas a).length:Nat):Int),(R2:Int)):=by
   rw[gE,kI] at e2;rw[show a.Read.length-(rg_meas a).length=(List.range' 0 a.Read.length).countP (λi=>!rg_okAt a i) by omega];exact e2
  rw[e3];rfl
 have hw:w64 ((a.Read.length:Int)-((rg_meas a).length:Int))=((a.Read.length-(rg_meas a).length:Nat):Int):=by
  rw[qV (by omega) (by omega)];omega
 unfold BJ;rw[LS a h];simp only[kd,jX];by_cases hm:(rg_meas a).length=0
 ·have:(((rg_meas a).length:Int)==0)=true:=by simp[hm]
  rw[this,ko,hw];have hR:R2=a.Read.length-(rg_meas a).length:=by
   rw[hm,gE];by_cases hn:a.Read.length=0
   ·rcases t2 with t|⟨q,hq,_⟩<;>omega
   ·have ho:rg_okAt a 0=false:=by
     cases ho:rg_okAt a 0 with
     |false=>rfl
     |true=>
      obtain⟨t,ht,_⟩:=PH (a:=a) (q:=0) (by omega) ho;omega
    have h1:=g2 0 (kr _) (by omega) ho;have rg_val:∀q,q<a.Read.length->rg_okAt a q=false->run q=a.Read.length:=λq h1 h2=>by
     rcases(hrun q h1 h2).2 with⟨_,h3⟩|⟨k,d,hk,_⟩
     ·exact h3
     ·omega
    rw[rg_val 0 (by omega) ho] at h1;rcases t2 with t|⟨q,h3,h4,t⟩
    ·omega
    ·rw[t,rg_val q h3 h4]
  exact⟨R2,by rw[hR],e2'⟩
 ·have:(((rg_meas a).length:Int)==0)=false:=ue.2 (by omega);rw[this,ku,hw];obtain⟨R1,e1,_,g1,t1⟩:=ET a h FUEL 0 0 (by rw[zY];omega) (by omega);have e1':XC a (wC (rg_meas a)) FUEL 0 0=some (R1:Int):=e1;rw[e1'];have hR:R1=R2:=by
   apply Nat.le_antisymm
   ·rcases t1 with t|⟨k,hk,t⟩
    ·omega
    ·by_cases hz:rg_gap a k=0
     ·omega
     ·have hg:=QM hk;have ho:=XS hk (kr 1) (by omega);have hq:(rg_Mi a k+1) % a.Read.length<a.Read.length:=kH _ (by omega);have h1:=g2 _ (kY _) hq ho;have hv:jA a (((rg_Mi a k+1) % a.Read.length:Nat):Int) FUEL 0=some ((rg_gap a k:Nat):Int):=by
       have hs:∀e,((rg_Mi a k+1) % a.Read.length+e) % a.Read.length=(rg_Mi a k+(1+e)) % a.Read.length:=λe=>by rw[uP,uX]
       refine MI a h _ _ hq (by omega) (λe he=>?_) (.inr ?_) FUEL 0 (by rw[zY];omega) (by omega)
       ·rw[hs];exact XS hk (by omega) (by omega)
       ·rw[hs,show 1+rg_gap a k=rg_gap a k+1 by omega,GB hk];exact(zB (kH _ (by omega))).2
      have h2:=(hrun _ hq ho).1;rw[hv] at h2;have h3:rg_gap a k=run ((rg_Mi a k+1) % a.Read.length):=by
       have:=kP h2;omega
      omega
   ·rcases t2 with t|⟨q,h3,h4,t⟩
    ·omega
    ·rcases(hrun q h3 h4).2 with⟨h5,_⟩|⟨k,d,hk,hd1,hd2,_,hr⟩
     ·omega
     ·have:=g1 k (kY _) hk;omega
  exact⟨R2,by rw[hR];rfl,e2'⟩
end Saw
end Go.SL

set_option linter.unusedSectionVars false
namespace Go.SL
namespace Saw
theorem ZN (a:Ring):(rg_meas a).length<=a.Read.length:=by unfold rg_meas;exact ud (gI _ _) (by simp)
theorem CW (a:Ring) (h:a.Read.length<=1000) {k:Nat} (hk:k<(rg_meas a).length):∀(n c:Nat),1<=c->c<=rg_gap a k+1->rg_gap a k+1<c+n->
  JB a.Read 1 n (((rg_Mi a k+c) % a.Read.length:Nat):Int)=some ((rg_Mi a ((k+1) % (rg_meas a).length):Nat):Int)
 |0,c,h1,h2,h3=>by omega
 |n+1,c,h1,h2,h3=>by
  have h0:=zB hk;have hlt:(rg_Mi a k+c) % a.Read.length<a.Read.length:=kH _ (by omega);unfold JB;rw[zH (by omega) (by omega),YU (by omega)];simp only[ko,ks];rw[show(a.Read.getD ((rg_Mi a k+c) % a.Read.length) dd).Ok=rg_okAt a ((rg_Mi a k+c) % a.Read.length) from rfl];by_cases hc:c=rg_gap a k+1
  ·subst hc;rw[GB hk,(zB (kH _ (by omega))).2];rfl
  ·rw[XS hk h1 (by omega)];have e:w64 (w64 ((((rg_Mi a k+c) % a.Read.length:Nat):Int)+1)+(a.Read.length:Int))=(((rg_Mi a k+c) % a.Read.length+1+a.Read.length:Nat):Int):=by
    rw[qV (n:=_+1) (by omega) (by omega),qV (by omega) (by omega)];omega
   rw[e,wP,uE,uP,uX];exact CW a h hk n (c+1) (by omega) (by omega) (by omega)
theorem qAi (a:Ring) (h:a.Read.length<=1000) {k:Nat} (hk:k<(rg_meas a).length):∀(n c:Nat),c<=rg_gap a k->c<n->
  JB a.Read (-1) n (((rg_Mi a k+c) % a.Read.length:Nat):Int)=some ((rg_Mi a k:Nat):Int)
 |0,c,h1,h2=>by omega
 |n+1,c,h1,h2=>by
  have h0:=zB hk;have hg:=QM hk;have hlt:(rg_Mi a k+c) % a.Read.length<a.Read.length:=kH _ (by omega);unfold JB;rw[zH (by omega) (by omega),YU (by omega)];simp only[ko,ks];rw[show(a.Read.getD ((rg_Mi a k+c) % a.Read.length) dd).Ok=rg_okAt a ((rg_Mi a k+c) % a.Read.length) from rfl];by_cases hc:c=0
  ·subst hc;rw[kV,qW h0.1,h0.2];rfl
  ·rw[XS hk (by omega) h1];have e:w64 (w64 ((((rg_Mi a k+c) % a.Read.length:Nat):Int)+ -1)+(a.Read.length:Int))=(((rg_Mi a k+c) % a.Read.length+(a.Read.length-1):Nat):Int):=by
    rw[qV (n:=_+ -1) (by omega) (by omega),qV (by omega) (by omega)];omega
   rw[e,wP,uP,show rg_Mi a k+c+(a.Read.length-1)=rg_Mi a k+(c-1)+a.Read.length by omega,uE];exact qAi a h hk n (c-1) (by omega) (by omega)
theorem qGX (a:Ring) (h:a.Read.length<=1000) {k d:Nat} (hk:k<(rg_meas a).length) (hd:d<=rg_gap a k):
  QJ a.Read (((rg_Mi a k+d) % a.Read.length:Nat):Int) 1=some ((rg_Mi a ((k+1) % (rg_meas a).length):Nat):Int):=by
 have h0:=zB hk;have hlt:(rg_Mi a k+d) % a.Read.length<a.Read.length:=kH _ (by omega);have hg:=QM hk;unfold QJ;rw[YU (by omega)];have e:w64 (w64 ((((rg_Mi a k+d) % a.Read.length:Nat):Int)+1)+(a.Read.length:Int))=(((rg_Mi a k+d) % a.Read.length+1+a.Read.length:Nat):Int):=by
  rw[qV (n:=_+1) (by omega) (by omega),qV (by omega) (by omega)];omega
 rw[e,wP,uE,uP,uX,CW a h hk FUEL (d+1) (by omega) (by omega) (by rw[zY];omega)];rfl
theorem qG3 (a:Ring) (h:a.Read.length<=1000) {k d:Nat} (hk:k<(rg_meas a).length) (h1:1<=d) (hd:d<=rg_gap a k+1):
  QJ a.Read (((rg_Mi a k+d) % a.Read.length:Nat):Int) (-1)=some ((rg_Mi a k:Nat):Int):=by
 have h0:=zB hk;have hlt:(rg_Mi a k+d) % a.Read.length<a.Read.length:=kH _ (by omega);have hg:=QM hk;unfold QJ;rw[YU (by omega)];have e:w64 (w64 ((((rg_Mi a k+d) % a.Read.length:Nat):Int)+ -1)+(a.Read.length:Int))=(((rg_Mi a k+d) % a.Read.length+(a.Read.length-1):Nat):Int):=by
  rw[qV (n:=_+ -1) (by omega) (by omega),qV (by omega) (by omega)];omega
 rw[e,wP,uP,show rg_Mi a k+d+(a.Read.length-1)=rg_Mi a k+(d-1)+a.Read.length by omega,uE,qAi a h hk FUEL (d-1) (by omega) (by rw[zY];omega)];rfl
theorem qMZ (a:Ring) (h:a.Read.length<=1000) {k:Nat} (hk:k<(rg_meas a).length):QJ a.Read ((rg_Mi a k:Nat):Int) 1=some ((rg_Mi a ((k+1) % (rg_meas a).length):Nat):Int):=by
 have:=qGX a h hk (kY (rg_gap a k))
 rwa [kV,qW (zB hk).1] at this
theorem qM7 (a:Ring) (h:a.Read.length<=1000) {k:Nat} (hk:k<(rg_meas a).length):QJ a.Read ((rg_Mi a k:Nat):Int) (-1)=some ((rg_Mi a ((k+((rg_meas a).length-1)) % (rg_meas a).length):Nat):Int):=by
 have hk':(k+((rg_meas a).length-1)) % (rg_meas a).length<(rg_meas a).length:=kH _ (by omega);have:=qG3 a h hk' (show 1<=rg_gap a _+1 by omega) (kr _);rw[GB hk',uP,show k+((rg_meas a).length-1)+1=k+(rg_meas a).length by omega,uE,qW hk] at this;exact this
def rg_farB (p q:qA) (r:Int):Bool:=decide (w64 (p.X-q.X)>r)||(decide (w64 (q.X-p.X)>r)||(decide (w64 (p.Y-q.Y)>r)||decide (w64 (q.Y-p.Y)>r)))
theorem qGZ (x y r:Int):decide (imax x y>r)=(decide (x>r)||decide (y>r)):=by
 unfold imax;by_cases h1:x>r<;>by_cases h2:y>r<;>by_cases h3:y>x<;>simp[h1,h2,h3]<;>omega
theorem qNY (p q:qA) (r:Int):IS p q r=some (rg_farB p q r):=by
 unfold IS MO rg_farB;rw[qGZ,qGZ];cases decide (w64 (p.X-q.X)>r)<;>cases decide (w64 (q.X-p.X)>r)<;>simp
theorem qLO (p q:qA) (r:Int):HH p q r=some (rg_farB p q r):=by
 unfold HH YX rg_farB;cases decide (w64 (p.X-q.X)>r)<;>cases decide (w64 (q.X-p.X)>r)<;>cases decide (w64 (p.Y-q.Y)>r)<;>simp
def rg_Pt (a:Ring) (i:Nat):qA:=(a.Read.getD i dd).P
def rg_nb (a:Ring) (k e:Nat):Nat:=rg_Mi a ((k+e) % (rg_meas a).length)
def rg_Ek (a:Ring) (r:Int) (k:Nat):Bool:=rg_farB (rg_Pt a (rg_Mi a k)) (rg_Pt a (rg_nb a k ((rg_meas a).length-1))) r&&rg_farB (rg_Pt a (rg_Mi a k)) (rg_Pt a (rg_nb a k 1)) r
def rg_dropB (a:Ring) (r:Int) (q:Nat):Bool:=(List.range (rg_meas a).length).any λk=>decide (rg_Mi a k=q)&&rg_Ek a r k
theorem qHW {a:Ring} {i j:Nat} (hi:i<(rg_meas a).length) (hj:j<(rg_meas a).length) (h:rg_Mi a i=rg_Mi a j):i=j:=by
 rcases Nat.lt_trichotomy i j with h1|h1|h1
 ·have:=DM h1 hj;omega
 ·exact h1
 ·have:=DM h1 hi;omega
theorem qEP {a:Ring} {r:Int} {k:Nat} (hk:k<(rg_meas a).length):rg_dropB a r (rg_Mi a k)=rg_Ek a r k:=by
 unfold rg_dropB;cases he:rg_Ek a r k with
 |true=>
  rw[gh];exact⟨k,uz.2 hk,by simp[he]⟩
 |false=>
  rw[List.any_eq_false];intro j hj;have hj':=uz.1 hj;by_cases h:rg_Mi a j=rg_Mi a k
  ·rw[qHW hj' hk h,he];simp
  ·simp[h]
def qBE :qD:=qD.mk (qA.mk 0 0) false
def JL (a:Ring) (r:Int) (l:List qD) (i:Nat):List qD:=bif rg_dropB a r i then l.set i qBE else l
theorem AC (a:Ring) (r:Int) (l:List qD) (i:Nat):(JL a r l i).length=l.length:=by
 unfold JL;cases rg_dropB a r i<;>simp
theorem CG (a:Ring) (r:Int):∀(m:List Nat) (l:List qD),(m.foldl (JL a r) l).length=l.length
 |[],_=>rfl
 |i::m,l=>by rw[uH,CG a r m,AC]
section
variable (a :Ring) (r:Int) (h:a.Read.length<=1000)
include h
theorem qNA (k n:Nat) (b:Bool):wN a r (wC (rg_meas a)) (k:Int) (n+1) b 2=some b:=by
 rw[wN];rfl
theorem qGM (k n:Nat) (hk:k<(rg_meas a).length) (b:Bool) (x x1:Int) (e:Nat) (hx:decide (x<2)=true) (hx2:inb x 2=true) (hx1:w64 (x+1)=x1)
  (he:w64 (w64 ((k:Int)+((rg_meas a).length:Int))+([-1,1]:List Int).getD x.toNat 0)=((k+e:Nat):Int)):
  wN a r (wC (rg_meas a)) (k:Int) (n+1) b x=wN a r (wC (rg_meas a)) (k:Int) n (b&&rg_farB (rg_Pt a (rg_Mi a k)) (rg_Pt a (rg_nb a k e)) r) x1:=by
 have hk':(k+e) % (rg_meas a).length<(rg_meas a).length:=kH _ (by omega);have h1:=zB hk';have h0:=zB hk;rw[wN,hx,hx2,jX,he,YU (by omega),wP,zH (by omega) (by omega)];simp only[ko,ks,YQ];rw[show(rg_meas a).getD ((k+e) % (rg_meas a).length) 0=rg_nb a k e from rfl,show(rg_meas a).getD k 0=rg_Mi a k from rfl,zH (show 0<=((rg_nb a k e:Nat):Int) by omega) (by unfold rg_nb;omega),zH (show 0<=((rg_Mi a k:Nat):Int) by omega) (by omega)];simp only[ko,ks,qNY,kd,GL,hx1];cases b<;>rfl
theorem qOO (k:Nat) (hk:k<(rg_meas a).length):wN a r (wC (rg_meas a)) (k:Int) FUEL true 0=some (rg_Ek a r k):=by
 have hl:=ZN a;rw[zY,show(4611686018427387904:Nat)=4611686018427387901+1+1+1 from rfl];rw[qGM a r h k _ hk true 0 1 ((rg_meas a).length-1) (by decide) (by decide) (by kernel_rfl) (by
  rw[show([-1,1]:List Int).getD (0:Int).toNat 0= -1 from rfl,qV (n:=(k:Int)+_) (by omega) (by omega),qV (by omega) (by omega)];omega)]
 rw[qGM a r h k _ hk _ 1 2 ((rg_meas a).length+1) (by decide) (by decide) (by kernel_rfl) (by
  rw[show([-1,1]:List Int).getD (1:Int).toNat 0=1 from rfl,qV (n:=(k:Int)+_) (by omega) (by omega),qV (by omega) (by omega)];omega)]
 rw[qNA a r h];have e:rg_nb a k ((rg_meas a).length+1)=rg_nb a k 1:=by
  unfold rg_nb;rw[show k+((rg_meas a).length+1)=k+1+(rg_meas a).length by omega,uE]
 rw[e];simp[rg_Ek]
theorem qCe :∀(n x:Nat) (l:List qD),(rg_meas a).length<x+n->x<=(rg_meas a).length->l.length=a.Read.length->
  yO a r (wC (rg_meas a)) n (x:Int) l=some (((rg_meas a).drop x).foldl (JL a r) l)
 |0,x,l,h1,h2,_=>by omega
 |n+1,x,l,h1,h2,h3=>by
  have hl:=ZN a;unfold yO;rw[jX];by_cases hx:x<(rg_meas a).length
  ·have h0:=zB hx;rw[UN hx,zH (by omega) (by omega),qOO a r h x hx,gu hx,uH];have hg:(rg_meas a)[x]=rg_Mi a x:=by have:=qCQ hx;rw[kq hx] at this;exact kP this
   rw[hg];simp only[ko,kd,ks,YQ,GS,wQ x (by omega)];rw[show(rg_meas a).getD x 0=rg_Mi a x from rfl,zH (show 0<=((rg_Mi a x:Nat):Int) by omega) (by omega)];simp only[ko,ks];have ih:=qCe n (x+1) (JL a r l (rg_Mi a x)) (by omega) (by omega) (by rw[AC];exact h3);rw[<-ih];unfold JL;rw[qEP hx];cases rg_Ek a r x<;>rfl
  ·rw[TY hx,uB (by omega)];rfl
theorem VB :∀(n x:Nat) (l:List qD),a.Read.length<x+n->x<=a.Read.length->l.length=a.Read.length->
  QG a r n (x:Int) l=some ((List.range' x (a.Read.length-x)).foldl (λl i=>if rg_okAt a i=true then JL a r l i else l) l)
 |0,x,l,h1,h2,_=>by omega
 |n+1,x,l,h1,h2,h3=>by
  unfold QG;by_cases hx:x<a.Read.length
  ·rw[UN hx,zH (by omega) (by omega),show a.Read.length-x=(a.Read.length-(x+1))+1 by omega,List.range'_succ,uH];simp only[ko,ks,FQ,UJ,wQ x (by omega)];rw[show(a.Read.getD x dd).Ok=rg_okAt a x from rfl];cases ho:rg_okAt a x with
   |false=>exact VB n (x+1) l (by omega) (by omega) h3
   |true=>
    obtain⟨k,hk,hkx⟩:=PH hx ho;subst hkx;have hp:(k+((rg_meas a).length-1)) % (rg_meas a).length<(rg_meas a).length:=kH _ (by omega);have hn:(k+1) % (rg_meas a).length<(rg_meas a).length:=kH _ (by omega);have h4:=zB hp;have h5:=zB hn;rw[qMZ a h hk,qM7 a h hk];simp only[uh,ku,kd,ks];rw[zH (show 0<=((rg_Mi a ((k+((rg_meas a).length-1)) % (rg_meas a).length):Nat):Int) by omega) (by omega),zH (show 0<=((rg_Mi a ((k+1) % (rg_meas a).length):Nat):Int) by omega) (by omega),zH (show 0<=((rg_Mi a k:Nat):Int) by omega) (by omega)];simp only[ko,qLO,kd,if_true]
    have ih:=VB n (rg_Mi a k+1) (JL a r l (rg_Mi a k)) (by omega) (by omega) (by rw[AC];exact h3);rw[<-ih];unfold JL;rw[qEP hk];unfold rg_Ek rg_nb;rw[show(a.Read.getD (rg_Mi a k) dd).P=rg_Pt a (rg_Mi a k) from rfl,show(a.Read.getD (rg_Mi a ((k+((rg_meas a).length-1)) % (rg_meas a).length)) dd).P=rg_Pt a (rg_Mi a ((k+((rg_meas a).length-1)) % (rg_meas a).length)) from rfl,
     show(a.Read.getD (rg_Mi a ((k+1) % (rg_meas a).length)) dd).P=rg_Pt a (rg_Mi a ((k+1) % (rg_meas a).length)) from rfl]
    cases rg_farB (rg_Pt a (rg_Mi a k)) (rg_Pt a (rg_Mi a ((k+((rg_meas a).length-1)) % (rg_meas a).length))) r<;>cases rg_farB (rg_Pt a (rg_Mi a k)) (rg_Pt a (rg_Mi a ((k+1) % (rg_meas a).length))) r<;>rfl
  ·rw[TY hx,show a.Read.length-x=0 by omega];rfl
end
def rg_cleaned (a:Ring) (r:Int):Ring:=bif decide (r<0) then a else bif decide (((rg_meas a).length:Int)<2) then a else bif QQ a !=0 then a else⟨a.Z,(rg_meas a).foldl (JL a r) a.Read⟩
theorem qIE (a:Ring) (r:Int) (h:a.Read.length<=1000):FB a r=some (rg_cleaned a r):=by
 have hl:=ZN a;unfold FB KW rg_cleaned;rw[qLC a h,LS a h];simp only[kd,EH,jX];have hL:yO a r (wC (rg_meas a)) FUEL 0 a.Read=some ((rg_meas a).foldl (JL a r) a.Read):=by
  have:=qCe a r h FUEL 0 a.Read (by rw[zY];omega) (by omega) rfl
  rwa [uK] at this
 rw[hL];cases decide (r<0)<;>cases decide (((rg_meas a).length:Int)<2)<;>cases (QQ a !=0)<;>rfl
theorem qLc (a:Ring) (r:Int) (h:a.Read.length<=1000):qAJ a r=some (rg_cleaned a r):=by
 have hl:=ZN a;obtain⟨L,_,hg⟩:=AH a h;unfold qAJ TS rg_cleaned;rw[hg,qKH a h];simp only[kd,qDE];have hw:w64 ((a.Read.length:Int)-((a.Read.length-(rg_meas a).length:Nat):Int))=((rg_meas a).length:Int):=by
  rw[qV (by omega) (by omega)];omega
 have hL:QG a r FUEL 0 a.Read=some ((rg_meas a).foldl (JL a r) a.Read):=by
  have:=VB a r h FUEL 0 a.Read (by rw[zY];omega) (by omega) rfl;rw[gE,<-gJ,<-List.foldl_filter] at this;exact this
 rw[hw,hL];cases decide (r<0)<;>cases decide (((rg_meas a).length:Int)<2)<;>cases (QQ a !=0)<;>rfl
theorem qHB (a:Ring) (r:Int):(rg_cleaned a r).Read.length=a.Read.length:=by
 unfold rg_cleaned;cases decide (r<0)<;>cases decide (((rg_meas a).length:Int)<2)<;>cases (QQ a !=0)<;>simp[CG]
theorem qJ0 (a:Ring) (r:Int):(rg_cleaned a r).Z=a.Z:=by
 unfold rg_cleaned;cases decide (r<0)<;>cases decide (((rg_meas a).length:Int)<2)<;>cases (QQ a !=0)<;>rfl
theorem qLn {α:Type} [Inhabited α] {l t:List α} (h:l.length=t.length) (hj:∀j,j<l.length->l.getD j dd=t.getD j dd):l=t:=by
 apply gN h;intro i h1 h2;have:=hj i h1
 rwa [ka,ka,kq h1,kq h2] at this
theorem LU {α:Type} [Inhabited α] {l:List α} {x:Nat} (v:α) (h:x<l.length):(l.set x v).getD x dd=v:=by
 rw[ka,gk h];rfl
theorem FX {α:Type} [Inhabited α] {l:List α} {x j:Nat} (v:α) (h:x≠j):(l.set x v).getD j dd=l.getD j dd:=by
 rw[ka,gM h,<-ka]
def qKc (p:qA):Prop:= -600<=p.X/\p.X<=600/\-600<=p.Y/\p.Y<=600
theorem qIR {r:qD} (h:ZE r=0):qKc r.P/\(r.Ok=false->r.P=⟨0,0⟩):=by
 unfold ZE at h;cases ho:r.Ok with
 |true=>
  rw[ho] at h;cases hr:XT r.P with
  |false=>rw[hr] at h;simp at h
  |true=>
   simp only[XT,ki,decide_eq_true_eq] at hr;exact⟨⟨hr.1.1,hr.1.2,hr.2.1,hr.2.2⟩,λh=>by cases h⟩
 |false=>
  rw[ho] at h;cases hz:SW r.P with
  |false=>rw[hz] at h;simp at h
  |true=>
   have:r.P=⟨0,0⟩:=by
    obtain⟨⟨x,y⟩,o⟩:=r;simp only[SW,gP,ki,beq_iff_eq] at hz;simp only at hz⊢;rw[hz.1,hz.2]
   rw[this];exact⟨⟨by decide,by decide,by decide,by decide⟩,λ_=>rfl⟩
end Saw
end Go.SL

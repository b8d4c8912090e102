/- The ring laws' plain mathematics, part 2: the measured readings, their OQ. -/
import Derived.Test.YthbamnkheinbgaaGreatDoorSMa8
set_option linter.unusedVariables false
set_option linter.unusedSimpArgs false
namespace Go.SL
namespace Saw
def rg_okAt (a:Ring) (i:Nat):Bool:=(a.Read.getD i dd).Ok
def rg_meas (a:Ring):List Nat:=(List.range a.Read.length).filter (rg_okAt a)
def rg_Mi (a:Ring) (k:Nat):Nat:=(rg_meas a).getD k 0
def wO (l:List Nat):List Int:=List.map (λi:Nat=>(i:Int)) l
theorem yJ (l:List Nat):(wO l).length=l.length:=by simp[wO]
theorem KG (l:List Nat) (k:Nat):(wO l).getD k dd=((l.getD k 0:Nat):Int):=by
 unfold wO;rw[ka,ka,kD];cases l[k]? <;>rfl
theorem zY (x:Nat) (h:x<=1000000):w64 ((x:Int)+1)=((x+1:Nat):Int):=by rw[qP (by omega) (by omega)];omega
theorem WN {x n:Nat} (h:x<n):decide ((x:Int)<((n:Nat):Int))=true:=ke (by omega)
theorem WQ {x n:Nat} (h:¬x<n):decide ((x:Int)<((n:Nat):Int))=false:=kf (by omega)
theorem jB (a b:Nat):Int.tmod (a:Int) (b:Int)=((a % b:Nat):Int):=rfl
theorem qAe (a:Ring):∀(n x:Nat) (l:List Int),a.Read.length<x+n->x<=a.Read.length->a.Read.length<=1000->l.length<=x->
  jD a n l (x:Int)=some (l++wO ((List.range' x (a.Read.length-x)).filter (rg_okAt a)))
 |0,x,l,h1,h2,_,_=>by omega
 |n+1,x,l,h1,h2,h3,h4=>by
  unfold jD;by_cases hx:x<a.Read.length
  ·rw[WN hx,zC (by omega) (by omega),show a.Read.length-x=(a.Read.length-(x+1))+1 by omega,List.range'_succ,List.filter_cons,qBw (n:=l.length+1) (by omega)];simp only[ko,ks,PH,zY x (by omega)];rw[show(a.Read.getD x dd).Ok=rg_okAt a x from rfl];cases hk:rg_okAt a x with
   |true=>
    rw[ko,qAe a n (x+1) _ (by omega) (by omega) h3 (by simp;omega)];simp[wO]
   |false=>
    rw[ku,qAe a n (x+1) _ (by omega) (by omega) h3 (by omega)];simp
  ·rw[WQ hx,show a.Read.length-x=0 by omega];simp[wO]
theorem HI (a:Ring) (h:a.Read.length<=1000):ZW a=some (wO (rg_meas a)):=by
 unfold ZW;have:=qAe a FUEL 0 [] (by rw[zT];omega) (by omega) h (by simp);have h':jD a FUEL [] 0=some (wO (rg_meas a)):=by
  rw[show(0:Int)=((0:Nat):Int) from rfl,this,uv,gF,<-gJ];rfl
 rw[h'];rfl
theorem qE5 {a:Ring} {k:Nat} (h:k<(rg_meas a).length):(rg_meas a)[k]? =some (rg_Mi a k):=by
 unfold rg_Mi;rw[ka,ki h];rfl
theorem zF {a:Ring} {k:Nat} (h:k<(rg_meas a).length):rg_Mi a k<a.Read.length/\rg_okAt a (rg_Mi a k)=true:=by
 have:=ga (qE5 h);unfold rg_meas at this;rw[List.mem_filter,uu] at this;exact this
theorem RZ {a:Ring} {q:Nat} (h1:q<a.Read.length) (h2:rg_okAt a q=true):∃t,t<(rg_meas a).length/\rg_Mi a t=q:=by
 have hm:q∈rg_meas a:=by unfold rg_meas;rw[List.mem_filter,uu];exact⟨h1,h2⟩
 obtain⟨t,ht,he⟩:=uI.1 hm;exact⟨t,ht,by unfold rg_Mi;rw[ka,ki ht,he];rfl⟩
theorem BM {a:Ring} {i j:Nat} (hij:i<j) (hj:j<(rg_meas a).length):rg_Mi a i<rg_Mi a j:=by
 have hp:(rg_meas a).Pairwise (·<·):=List.Pairwise.filter _ List.pairwise_lt_range;have h1:=gt.1 hp i j (by omega) hj hij;have e1:(rg_meas a)[i]'(by omega)=rg_Mi a i:=by unfold rg_Mi;rw[ka,ki (by omega)];rfl
 have e2:(rg_meas a)[j]=rg_Mi a j:=by unfold rg_Mi;rw[ka,ki hj];rfl
 rwa [e1,e2] at h1
theorem UZ {a:Ring} {i j:Nat} (hij:i<=j) (hj:j<(rg_meas a).length):rg_Mi a i<=rg_Mi a j:=by
 rcases Nat.lt_or_eq_of_le hij with h|rfl
 ·exact Nat.le_of_lt (BM h hj)
 ·exact kr _
def rg_gap (a:Ring) (k:Nat):Nat:=if k+1<(rg_meas a).length then rg_Mi a (k+1)-rg_Mi a k-1 else rg_Mi a 0+a.Read.length-rg_Mi a k-1
theorem qEP (a:Ring) (h:a.Read.length<=1000) {k:Nat} (hk:k<(rg_meas a).length):TF a (wO (rg_meas a)) (k:Int)=some ((rg_gap a k:Nat):Int):=by
 have h0:=zF hk;have hl:(rg_meas a).length<=a.Read.length:=by unfold rg_meas;exact ug (gI _ _) (by simp)
 unfold TF rg_gap;rw[zY k (by omega),yJ];by_cases hk1:k+1<(rg_meas a).length
 ·have h1:=zF hk1;have h2:=BM (a:=a) (show k<k+1 by omega) hk1;rw[WN hk1,zC (by omega) (by omega),zC (by omega) (by omega),if_pos hk1];simp only[ko,ks,KG];rw[show(rg_meas a).getD (k+1) 0=rg_Mi a (k+1) from rfl,show(rg_meas a).getD k 0=rg_Mi a k from rfl];rw[qP (n:=((rg_Mi a (k+1):Nat):Int)-_) (by omega) (by omega),qP (by omega) (by omega)]
  congr 1
  omega
 ·have h1:=zF (a:=a) (k:=0) (by omega);have h2:=UZ (a:=a) (ub k) hk;rw[WQ hk1,ku,zC (by omega) (by omega),zC (by omega) (by omega),if_neg hk1];simp only[ko,ks,gH,KG];rw[show(rg_meas a).getD 0 0=rg_Mi a 0 from rfl,show(rg_meas a).getD k 0=rg_Mi a k from rfl];rw[qP (n:=((rg_Mi a 0:Nat):Int)+_) (by omega) (by omega),qP (n:=((rg_Mi a 0:Nat):Int)+_-_) (by omega) (by omega),qP (by omega) (by omega)]
  congr 1
  omega
theorem zA {x n:Nat} (h:x<n):x % n=x:=uJ h
theorem jG {x n:Nat} (h1:n<=x) (h2:x<2*n):x % n=x-n:=by
 rw[Nat.mod_eq_sub_mod h1,uJ (by omega)]
theorem ZH {a:Ring} {k:Nat} (hk:k<(rg_meas a).length):rg_gap a k+1<=a.Read.length:=by
 have h0:=zF hk;unfold rg_gap;split
 ·rename_i h;have:=zF h;omega
 ·have:=UZ (a:=a) (ub k) hk;omega
theorem PX {a:Ring} {k d:Nat} (hk:k<(rg_meas a).length) (h1:1<=d) (h2:d<=rg_gap a k):rg_okAt a ((rg_Mi a k+d) % a.Read.length)=false:=by
 have h0:=zF hk;have hg:=ZH hk;cases ho:rg_okAt a ((rg_Mi a k+d) % a.Read.length) with
 |false=>rfl
 |true=>
  obtain⟨t,ht,he⟩:=RZ (kJ _ (by omega)) ho;unfold rg_gap at h2;split at h2
  ·rename_i hk1;have h3:=zF hk1;rw[zA (by omega)] at he;rcases uK t (k+1) with h|h
   ·have:=UZ (a:=a) (show t<=k by omega) hk;omega
   ·have:=UZ (a:=a) h ht;omega
  ·rename_i hk1;have ht':=UZ (a:=a) (show t<=k by omega) hk;have hz:=UZ (a:=a) (ub t) ht;by_cases hc:rg_Mi a k+d<a.Read.length
   ·rw[zA hc] at he;omega
   ·rw[jG (by omega) (by omega)] at he;omega
theorem DI {a:Ring} {k:Nat} (hk:k<(rg_meas a).length):(rg_Mi a k+(rg_gap a k+1)) % a.Read.length=rg_Mi a ((k+1) % (rg_meas a).length):=by
 have h0:=zF hk;unfold rg_gap;split
 ·rename_i hk1;have h3:=zF hk1;have h4:=BM (a:=a) (show k<k+1 by omega) hk1;rw[zA hk1,show rg_Mi a k+(rg_Mi a (k+1)-rg_Mi a k-1+1)=rg_Mi a (k+1) by omega,zA h3.1]
 ·rename_i hk1;have hz:=zF (a:=a) (k:=0) (by omega);have hle:=UZ (a:=a) (ub k) hk;rw[show k+1=(rg_meas a).length by omega,Nat.mod_self,show rg_Mi a k+(rg_Mi a 0+a.Read.length-rg_Mi a k-1+1)=rg_Mi a 0+a.Read.length by omega,uD,zA hz.1]
theorem qDY (a:Ring) (q:Nat):∀(m j:Nat),(rg_meas a).length=j+m->1<=m->rg_Mi a j<q->∃k,k<(rg_meas a).length/\rg_Mi a k<q/\(k+1<(rg_meas a).length->q<=rg_Mi a (k+1))
 |0,_,_,h,_=>by omega
 |m+1,j,hm,_,hj=>by
  by_cases h:j+1<(rg_meas a).length
  ·by_cases hq:rg_Mi a (j+1)<q
   ·exact qDY a q m (j+1) (by omega) (by omega) hq
   ·exact⟨j,by omega,hj,λ_=>by omega⟩
  ·exact⟨j,by omega,hj,λh'=>absurd h' h⟩
theorem qJ6 {a:Ring} {q:Nat} (hm:1<=(rg_meas a).length) (hq:q<a.Read.length) (ho:rg_okAt a q=false):∃k d,k<(rg_meas a).length/\1<=d/\d<=rg_gap a k/\(rg_Mi a k+d) % a.Read.length=q:=by
 have hne:∀t,t<(rg_meas a).length->rg_Mi a t≠q:=λt ht he=>by
  have:=(zF ht).2;rw[he,ho] at this;cases this
 by_cases h0:rg_Mi a 0<q
 ·obtain⟨k,hk,h1,h2⟩:=qDY a q (rg_meas a).length 0 (by omega) hm h0;refine⟨k,q-rg_Mi a k,hk,by omega,?_,by rw[show rg_Mi a k+(q-rg_Mi a k)=q by omega,zA hq]⟩;unfold rg_gap;split
  ·rename_i hk1;have:=hne (k+1) hk1;have:=h2 hk1;omega
  ·omega
 ·have hne0:=hne 0 (by omega);have hlast:(rg_meas a).length-1<(rg_meas a).length:=by omega
  have hl:=zF (a:=a) hlast;have hle:=UZ (a:=a) (ub ((rg_meas a).length-1)) hlast;refine⟨(rg_meas a).length-1,q+a.Read.length-rg_Mi a ((rg_meas a).length-1),hlast,by omega,?_,?_⟩
  ·unfold rg_gap;rw[if_neg (by omega)];omega
  ·rw[show rg_Mi a ((rg_meas a).length-1)+(q+a.Read.length-rg_Mi a ((rg_meas a).length-1))=q+a.Read.length by omega,uD,zA hq]
theorem qGv (x y:Nat):imax (x:Int) (y:Int)=((max x y:Nat):Int):=by
 unfold imax;split<;>omega
theorem IT (a:Ring) (h:a.Read.length<=1000):∀(n x mx:Nat),(rg_meas a).length<x+n->x<=(rg_meas a).length->
  ∃R:Nat,KZ a (wO (rg_meas a)) n (mx:Int) (x:Int)=some (R:Int)/\mx<=R/\(∀k,x<=k->k<(rg_meas a).length->rg_gap a k<=R)/\(R=mx\/∃k,k<(rg_meas a).length/\R=rg_gap a k)
 |0,x,mx,h1,h2=>by omega
 |n+1,x,mx,h1,h2=>by
  have hl:(rg_meas a).length<=a.Read.length:=by unfold rg_meas;exact ug (gI _ _) (by simp)
  unfold KZ;rw[yJ];by_cases hx:x<(rg_meas a).length
  ·rw[WN hx,qEP a h hx];simp only[ko,kd,qGv,zY x (by omega)];obtain⟨R,e,h3,h4,h5⟩:=IT a h n (x+1) (max mx (rg_gap a x)) (by omega) (by omega);refine⟨R,e,by omega,λk hk1 hk2=>?_,?_⟩
   ·rcases uK x k with hk|hk
    ·exact h4 k hk hk2
    ·obtain rfl:k=x:=by omega
     omega
   ·rcases h5 with h5|h5
    ·rcases Nat.le_total mx (rg_gap a x) with hg|hg
     ·exact .inr ⟨x,hx,by omega⟩
     ·exact .inl (by omega)
    ·exact .inr h5
  ·rw[WQ hx];exact⟨mx,rfl,kr _,λk hk1 hk2=>by omega,.inl rfl⟩
theorem SS (a:Ring) (h:a.Read.length<=1000) (q r:Nat) (hq:q<a.Read.length) (hr:r<=a.Read.length) (h1:∀d,d<r->rg_okAt a ((q+d) % a.Read.length)=false) (h2:r=a.Read.length\/rg_okAt a ((q+r) % a.Read.length)=true):
  ∀(n x:Nat),r<x+n->x<=r->jI a (q:Int) n (x:Int)=some (r:Int)
 |0,x,h3,h4=>by omega
 |n+1,x,h3,h4=>by
  unfold jI;by_cases hx:x<a.Read.length
  ·have e:w64 ((q:Int)+(x:Int))=((q+x:Nat):Int):=by rw[qP (by omega) (by omega)];omega
   have hm:(q+x) % a.Read.length<a.Read.length:=kJ _ (by omega);rw[WN hx,KP (by omega),e,jB,zC (by omega) (by omega)];simp only[ko,ks,IP,zY x (by omega)];rw[show(a.Read.getD ((q+x) % a.Read.length) dd).Ok=rg_okAt a ((q+x) % a.Read.length) from rfl];by_cases hxr:x<r
   ·rw[h1 x hxr];exact SS a h q r hq hr h1 h2 n (x+1) (by omega) (by omega)
   ·obtain rfl:x=r:=by omega
    rcases h2 with h2|h2
    ·omega
    ·rw[h2];rfl
  ·rw[WQ hx];obtain rfl:x=r:=by omega
   rfl
theorem BU (a:Ring) (h:a.Read.length<=1000) (run:Nat->Nat) (hrun:∀q,q<a.Read.length->rg_okAt a q=false->jI a (q:Int) FUEL 0=some ((run q:Nat):Int)):∀(n x c mx:Nat),a.Read.length<x+n->x<=a.Read.length->c<=x->
  ∃R:Nat,YI a n (c:Int) (mx:Int) (x:Int)=some (((c+(List.range' x (a.Read.length-x)).countP (λi=>!rg_okAt a i):Nat):Int),(R:Int))/\mx<=R/\(∀q,x<=q->q<a.Read.length->rg_okAt a q=false->run q<=R)/\(R=mx\/∃q,q<a.Read.length/\rg_okAt a q=false/\R=run q)
 |0,x,c,mx,h1,h2,_=>by omega
 |n+1,x,c,mx,h1,h2,hc=>by
  unfold YI;by_cases hx:x<a.Read.length
  ·rw[WN hx,zC (by omega) (by omega),show a.Read.length-x=(a.Read.length-(x+1))+1 by omega,List.range'_succ,List.countP_cons];simp only[ko,ks,II,zY x (by omega),zY c (by omega)];rw[show(a.Read.getD x dd).Ok=rg_okAt a x from rfl];cases ho:rg_okAt a x with
   |true=>
    obtain⟨R,e,h3,h4,h5⟩:=BU a h run hrun n (x+1) c mx (by omega) (by omega) (by omega);refine⟨R,by rw[ko,e];simp,h3,λq hq1 hq2 hq3=>?_,h5⟩;rcases uK x q with hk|hk
    ·exact h4 q hk hq2 hq3
    ·obtain rfl:q=x:=by omega
     rw[ho] at hq3;cases hq3
   |false=>
    obtain⟨R,e,h3,h4,h5⟩:=BU a h run hrun n (x+1) (c+1) (max mx (run x)) (by omega) (by omega) (by omega);refine⟨R,?_,by omega,λq hq1 hq2 hq3=>?_,?_⟩
    ·rw[ku,hrun x hx ho];simp only[kd,qGv,e,da,if_true]
     congr 3
     omega
    ·rcases uK x q with hk|hk
     ·exact h4 q hk hq2 hq3
     ·obtain rfl:q=x:=by omega
      omega
    ·rcases h5 with h5|h5
     ·rcases Nat.le_total mx (run x) with hg|hg
      ·exact .inr ⟨x,hx,ho,by omega⟩
      ·exact .inl (by omega)
     ·exact .inr h5
  ·rw[WQ hx,show a.Read.length-x=0 by omega];exact⟨mx,by simp,kr _,λq h1 h2=>by omega,.inl rfl⟩
theorem qPu (a:Ring) (h:a.Read.length<=1000) (q:Nat) (hq:q<a.Read.length) (ho:rg_okAt a q=false):
  ∃r,jI a (q:Int) FUEL 0=some ((r:Nat):Int)/\(((rg_meas a).length=0/\r=a.Read.length)\/∃k d,k<(rg_meas a).length/\1<=d/\d<=rg_gap a k/\(rg_Mi a k+d) % a.Read.length=q/\r=rg_gap a k+1-d):=by
 by_cases hm:(rg_meas a).length=0
 ·refine⟨a.Read.length,SS a h q _ hq (kr _) (λd _=>?_) (.inl rfl) FUEL 0 (by rw[zT];omega) (by omega),.inl ⟨hm,rfl⟩⟩;cases ho:rg_okAt a ((q+d) % a.Read.length) with
  |false=>rfl
  |true=>
   obtain⟨t,ht,_⟩:=RZ (kJ _ (by omega)) ho;omega
 ·obtain⟨k,d,hk,h1,h2,h3⟩:=qJ6 (by omega) hq ho;have hg:=ZH hk;have hs:∀e,(q+e) % a.Read.length=(rg_Mi a k+(d+e)) % a.Read.length:=λe=>by rw[<-h3,uQ,uS]
  refine⟨rg_gap a k+1-d,SS a h q _ hq (by omega) (λe he=>?_) (.inr ?_) FUEL 0 (by rw[zT];omega) (by omega),.inr ⟨k,d,hk,h1,h2,h3,rfl⟩⟩
  ·rw[hs];exact PX hk (by omega) (by omega)
  ·rw[hs,show d+(rg_gap a k+1-d)=rg_gap a k+1 by omega,DI hk];exact(zF (kJ _ (by omega))).2
theorem qGB (a:Ring):(rg_meas a).length+(List.range' 0 a.Read.length).countP (λi=>!rg_okAt a i)=a.Read.length:=by
 have:=List.length_eq_countP_add_countP (rg_okAt a) (l:=List.range a.Read.length);rw[ur] at this;rw[<-gJ];unfold rg_meas;rw[<-List.countP_eq_length_filter];have e:(List.range a.Read.length).countP (λi=>!rg_okAt a i)=(List.range a.Read.length).countP (λi=>decide ¬rg_okAt a i=true):=by
  congr 1
  funext i
  cases rg_okAt a i<;>rfl
 rw[e];omega
theorem OQ (a:Ring) (h:a.Read.length<=1000):∃L:Nat,NP a=some (((a.Read.length-(rg_meas a).length:Nat):Int),(L:Int))/\FQ a=some (((a.Read.length-(rg_meas a).length:Nat):Int),(L:Int)):=by
 have hl:(rg_meas a).length<=a.Read.length:=by unfold rg_meas;exact ug (gI _ _) (by simp)
 have hc:=qGB a;have hex:∀q,∃r,q<a.Read.length->rg_okAt a q=false->jI a (q:Int) FUEL 0=some ((r:Nat):Int)/\(((rg_meas a).length=0/\r=a.Read.length)\/∃k d,k<(rg_meas a).length/\1<=d/\d<=rg_gap a k/\(rg_Mi a k+d) % a.Read.length=q/\r=rg_gap a k+1-d):=λq=>by
  by_cases hq:q<a.Read.length/\rg_okAt a q=false
  ·obtain⟨r,hr⟩:=qPu a h q hq.1 hq.2;exact⟨r,λ_ _=>hr⟩
  ·exact⟨0,λh1 h2=>absurd ⟨h1,h2⟩ hq⟩
 obtain⟨run,hrun⟩:∃f:Nat->Nat,∀q,q<a.Read.length->rg_okAt a q=false->jI a (q:Int) FUEL 0=some ((f q:Nat):Int)/\(((rg_meas a).length=0/\f q=a.Read.length)\/∃k d,k<(rg_meas a).length/\1<=d/\d<=rg_gap a k/\(rg_Mi a k+d) % a.Read.length=q/\f q=rg_gap a k+1-d):=
  ⟨λq=>Classical.choose (hex q),λq=>Classical.choose_spec (hex q)⟩
 obtain⟨R2,e2,_,g2,t2⟩:=BU a h run (λq h1 h2=>(hrun q h1 h2).1) FUEL 0 0 0 (by rw[zT];omega) (by omega) (by omega);have e2':FQ a=some (((a.Read.length-(rg_meas a).length:Nat):Int),(R2:Int)):=by
  unfold FQ;have e3:YI a FUEL 0 0 0=some (((a.Read.length-(rg_meas a).length:Nat):Int),(R2:Int)):=by
   rw[gF,kz] at e2;rw[show a.Read.length-(rg_meas a).length=(List.range' 0 a.Read.length).countP (λi=>!rg_okAt a i) by omega];exact e2
  rw[e3];rfl
 have hw:w64 ((a.Read.length:Int)-((rg_meas a).length:Int))=((a.Read.length-(rg_meas a).length:Nat):Int):=by
  rw[qP (by omega) (by omega)];omega
 unfold NP;rw[HI a h];simp only[kd,yJ];by_cases hm:(rg_meas a).length=0
 ·have:(((rg_meas a).length:Int)==0)=true:=by simp[hm]
  rw[this,ko,hw];have hR:R2=a.Read.length-(rg_meas a).length:=by
   rw[hm,gF];by_cases hn:a.Read.length=0
   ·rcases t2 with t|⟨q,hq,_⟩<;>omega
   ·have ho:rg_okAt a 0=false:=by
     cases ho:rg_okAt a 0 with
     |false=>rfl
     |true=>
      obtain⟨t,ht,_⟩:=RZ (a:=a) (q:=0) (by omega) ho;omega
    have h1:=g2 0 (kr _) (by omega) ho;have rg_val:∀q,q<a.Read.length->rg_okAt a q=false->run q=a.Read.length:=λq h1 h2=>by
     rcases(hrun q h1 h2).2 with⟨_,h3⟩|⟨k,d,hk,_⟩
     ·exact h3
     ·omega
    rw[rg_val 0 (by omega) ho] at h1;rcases t2 with t|⟨q,h3,h4,t⟩
    ·omega
    ·rw[t,rg_val q h3 h4]
  exact⟨R2,by rw[hR],e2'⟩
 ·have:(((rg_meas a).length:Int)==0)=false:=un.2 (by omega);rw[this,ku,hw];obtain⟨R1,e1,_,g1,t1⟩:=IT a h FUEL 0 0 (by rw[zT];omega) (by omega);have e1':KZ a (wO (rg_meas a)) FUEL 0 0=some (R1:Int):=e1;rw[e1'];have hR:R1=R2:=by
   apply Nat.le_antisymm
   ·rcases t1 with t|⟨k,hk,t⟩
    ·omega
    ·by_cases hz:rg_gap a k=0
     ·omega
     ·have hg:=ZH hk;have ho:=PX hk (kr 1) (by omega);have hq:(rg_Mi a k+1) % a.Read.length<a.Read.length:=kJ _ (by omega);have h1:=g2 _ (ub _) hq ho;have hv:jI a (((rg_Mi a k+1) % a.Read.length:Nat):Int) FUEL 0=some ((rg_gap a k:Nat):Int):=by
       have hs:∀e,((rg_Mi a k+1) % a.Read.length+e) % a.Read.length=(rg_Mi a k+(1+e)) % a.Read.length:=λe=>by rw[uQ,uS]
       refine SS a h _ _ hq (by omega) (λe he=>?_) (.inr ?_) FUEL 0 (by rw[zT];omega) (by omega)
       ·rw[hs];exact PX hk (by omega) (by omega)
       ·rw[hs,show 1+rg_gap a k=rg_gap a k+1 by omega,DI hk];exact(zF (kJ _ (by omega))).2
      have h2:=(hrun _ hq ho).1;rw[hv] at h2;have h3:rg_gap a k=run ((rg_Mi a k+1) % a.Read.length):=by
       have:=kK h2;omega
      omega
   ·rcases t2 with t|⟨q,h3,h4,t⟩
    ·omega
    ·rcases(hrun q h3 h4).2 with⟨h5,_⟩|⟨k,d,hk,hd1,hd2,_,hr⟩
     ·omega
     ·have:=g1 k (ub _) hk;omega
  exact⟨R2,by rw[hR];rfl,e2'⟩
end Saw
end Go.SL

set_option linter.unusedSectionVars false
namespace Go.SL
namespace Saw
theorem WK (a:Ring):(rg_meas a).length<=a.Read.length:=by unfold rg_meas;exact ug (gI _ _) (by simp)
theorem qA4 (a:Ring) (h:a.Read.length<=1000) {k:Nat} (hk:k<(rg_meas a).length):∀(n c:Nat),1<=c->c<=rg_gap a k+1->rg_gap a k+1<c+n->
  YH a.Read 1 n (((rg_Mi a k+c) % a.Read.length:Nat):Int)=some ((rg_Mi a ((k+1) % (rg_meas a).length):Nat):Int)
 |0,c,h1,h2,h3=>by omega
 |n+1,c,h1,h2,h3=>by
  have h0:=zF hk;have hlt:(rg_Mi a k+c) % a.Read.length<a.Read.length:=kJ _ (by omega);unfold YH;rw[zC (by omega) (by omega),KP (by omega)];simp only[ko,ks];rw[show(a.Read.getD ((rg_Mi a k+c) % a.Read.length) dd).Ok=rg_okAt a ((rg_Mi a k+c) % a.Read.length) from rfl];by_cases hc:c=rg_gap a k+1
  ·subst hc;rw[DI hk,(zF (kJ _ (by omega))).2];rfl
  ·rw[PX hk h1 (by omega)];have e:w64 (w64 ((((rg_Mi a k+c) % a.Read.length:Nat):Int)+1)+(a.Read.length:Int))=(((rg_Mi a k+c) % a.Read.length+1+a.Read.length:Nat):Int):=by
    rw[qP (n:=_+1) (by omega) (by omega),qP (by omega) (by omega)];omega
   rw[e,jB,uD,uQ,uS];exact qA4 a h hk n (c+1) (by omega) (by omega) (by omega)
theorem qBo (a:Ring) (h:a.Read.length<=1000) {k:Nat} (hk:k<(rg_meas a).length):∀(n c:Nat),c<=rg_gap a k->c<n->
  YH a.Read (-1) n (((rg_Mi a k+c) % a.Read.length:Nat):Int)=some ((rg_Mi a k:Nat):Int)
 |0,c,h1,h2=>by omega
 |n+1,c,h1,h2=>by
  have h0:=zF hk;have hg:=ZH hk;have hlt:(rg_Mi a k+c) % a.Read.length<a.Read.length:=kJ _ (by omega);unfold YH;rw[zC (by omega) (by omega),KP (by omega)];simp only[ko,ks];rw[show(a.Read.getD ((rg_Mi a k+c) % a.Read.length) dd).Ok=rg_okAt a ((rg_Mi a k+c) % a.Read.length) from rfl];by_cases hc:c=0
  ·subst hc;rw[kX,zA h0.1,h0.2];rfl
  ·rw[PX hk (by omega) h1];have e:w64 (w64 ((((rg_Mi a k+c) % a.Read.length:Nat):Int)+ -1)+(a.Read.length:Int))=(((rg_Mi a k+c) % a.Read.length+(a.Read.length-1):Nat):Int):=by
    rw[qP (n:=_+ -1) (by omega) (by omega),qP (by omega) (by omega)];omega
   rw[e,jB,uQ,show rg_Mi a k+c+(a.Read.length-1)=rg_Mi a k+(c-1)+a.Read.length by omega,uD];exact qBo a h hk n (c-1) (by omega) (by omega)
theorem qId (a:Ring) (h:a.Read.length<=1000) {k d:Nat} (hk:k<(rg_meas a).length) (hd:d<=rg_gap a k):
  ZD a.Read (((rg_Mi a k+d) % a.Read.length:Nat):Int) 1=some ((rg_Mi a ((k+1) % (rg_meas a).length):Nat):Int):=by
 have h0:=zF hk;have hlt:(rg_Mi a k+d) % a.Read.length<a.Read.length:=kJ _ (by omega);have hg:=ZH hk;unfold ZD;rw[KP (by omega)];have e:w64 (w64 ((((rg_Mi a k+d) % a.Read.length:Nat):Int)+1)+(a.Read.length:Int))=(((rg_Mi a k+d) % a.Read.length+1+a.Read.length:Nat):Int):=by
  rw[qP (n:=_+1) (by omega) (by omega),qP (by omega) (by omega)];omega
 rw[e,jB,uD,uQ,uS,qA4 a h hk FUEL (d+1) (by omega) (by omega) (by rw[zT];omega)];rfl
theorem qIH (a:Ring) (h:a.Read.length<=1000) {k d:Nat} (hk:k<(rg_meas a).length) (h1:1<=d) (hd:d<=rg_gap a k+1):
  ZD a.Read (((rg_Mi a k+d) % a.Read.length:Nat):Int) (-1)=some ((rg_Mi a k:Nat):Int):=by
 have h0:=zF hk;have hlt:(rg_Mi a k+d) % a.Read.length<a.Read.length:=kJ _ (by omega);have hg:=ZH hk;unfold ZD;rw[KP (by omega)];have e:w64 (w64 ((((rg_Mi a k+d) % a.Read.length:Nat):Int)+ -1)+(a.Read.length:Int))=(((rg_Mi a k+d) % a.Read.length+(a.Read.length-1):Nat):Int):=by
  rw[qP (n:=_+ -1) (by omega) (by omega),qP (by omega) (by omega)];omega
 rw[e,jB,uQ,show rg_Mi a k+d+(a.Read.length-1)=rg_Mi a k+(d-1)+a.Read.length by omega,uD,qBo a h hk FUEL (d-1) (by omega) (by rw[zT];omega)];rfl
theorem qPh (a:Ring) (h:a.Read.length<=1000) {k:Nat} (hk:k<(rg_meas a).length):ZD a.Read ((rg_Mi a k:Nat):Int) 1=some ((rg_Mi a ((k+1) % (rg_meas a).length):Nat):Int):=by
 have:=qId a h hk (ub (rg_gap a k))
 rwa [kX,zA (zF hk).1] at this
theorem qOC (a:Ring) (h:a.Read.length<=1000) {k:Nat} (hk:k<(rg_meas a).length):ZD a.Read ((rg_Mi a k:Nat):Int) (-1)=some ((rg_Mi a ((k+((rg_meas a).length-1)) % (rg_meas a).length):Nat):Int):=by
 have hk':(k+((rg_meas a).length-1)) % (rg_meas a).length<(rg_meas a).length:=kJ _ (by omega);have:=qIH a h hk' (show 1<=rg_gap a _+1 by omega) (kr _);rw[DI hk',uQ,show k+((rg_meas a).length-1)+1=k+(rg_meas a).length by omega,uD,zA hk] at this;exact this
def rg_farB (p q:qA) (r:Int):Bool:=decide (w64 (p.X-q.X)>r)||(decide (w64 (q.X-p.X)>r)||(decide (w64 (p.Y-q.Y)>r)||decide (w64 (q.Y-p.Y)>r)))
theorem qH9 (x y r:Int):decide (imax x y>r)=(decide (x>r)||decide (y>r)):=by
 unfold imax;by_cases h1:x>r<;>by_cases h2:y>r<;>by_cases h3:y>x<;>simp[h1,h2,h3]<;>omega
theorem qPL (p q:qA) (r:Int):qAy p q r=some (rg_farB p q r):=by
 unfold qAy EH rg_farB;rw[qH9,qH9];cases decide (w64 (p.X-q.X)>r)<;>cases decide (w64 (q.X-p.X)>r)<;>simp
theorem qNJ (p q:qA) (r:Int):EC p q r=some (rg_farB p q r):=by
 unfold EC XX rg_farB;cases decide (w64 (p.X-q.X)>r)<;>cases decide (w64 (q.X-p.X)>r)<;>cases decide (w64 (p.Y-q.Y)>r)<;>simp
def rg_Pt (a:Ring) (i:Nat):qA:=(a.Read.getD i dd).P
def rg_nb (a:Ring) (k e:Nat):Nat:=rg_Mi a ((k+e) % (rg_meas a).length)
def rg_Ek (a:Ring) (r:Int) (k:Nat):Bool:=rg_farB (rg_Pt a (rg_Mi a k)) (rg_Pt a (rg_nb a k ((rg_meas a).length-1))) r&&rg_farB (rg_Pt a (rg_Mi a k)) (rg_Pt a (rg_nb a k 1)) r
def rg_dropB (a:Ring) (r:Int) (q:Nat):Bool:=(List.range (rg_meas a).length).any λk=>decide (rg_Mi a k=q)&&rg_Ek a r k
theorem qJ2 {a:Ring} {i j:Nat} (hi:i<(rg_meas a).length) (hj:j<(rg_meas a).length) (h:rg_Mi a i=rg_Mi a j):i=j:=by
 rcases Nat.lt_trichotomy i j with h1|h1|h1
 ·have:=BM h1 hj;omega
 ·exact h1
 ·have:=BM h1 hi;omega
theorem qGj {a:Ring} {r:Int} {k:Nat} (hk:k<(rg_meas a).length):rg_dropB a r (rg_Mi a k)=rg_Ek a r k:=by
 unfold rg_dropB;cases he:rg_Ek a r k with
 |true=>
  rw[gg];exact⟨k,uu.2 hk,by simp[he]⟩
 |false=>
  rw[List.any_eq_false];intro j hj;have hj':=uu.1 hj;by_cases h:rg_Mi a j=rg_Mi a k
  ·rw[qJ2 hj' hk h,he];simp
  ·simp[h]
def qDo :qD:=qD.mk (qA.mk 0 0) false
def YR (a:Ring) (r:Int) (l:List qD) (i:Nat):List qD:=bif rg_dropB a r i then l.set i qDo else l
theorem OG (a:Ring) (r:Int) (l:List qD) (i:Nat):(YR a r l i).length=l.length:=by
 unfold YR;cases rg_dropB a r i<;>simp
theorem qAY (a:Ring) (r:Int):∀(m:List Nat) (l:List qD),(m.foldl (YR a r) l).length=l.length
 |[],_=>rfl
 |i::m,l=>by rw[uG,qAY a r m,OG]
section
variable (a :Ring) (r:Int) (h:a.Read.length<=1000)
include h
theorem qP1 (k n:Nat) (b:Bool):wZ a r (wO (rg_meas a)) (k:Int) (n+1) b 2=some b:=by
 rw[wZ];rfl
theorem qH8 (k n:Nat) (hk:k<(rg_meas a).length) (b:Bool) (x x1:Int) (e:Nat) (hx:decide (x<2)=true) (hx2:inb x 2=true) (hx1:w64 (x+1)=x1)
  (he:w64 (w64 ((k:Int)+((rg_meas a).length:Int))+([-1,1]:List Int).getD x.toNat 0)=((k+e:Nat):Int)):
  wZ a r (wO (rg_meas a)) (k:Int) (n+1) b x=wZ a r (wO (rg_meas a)) (k:Int) n (b&&rg_farB (rg_Pt a (rg_Mi a k)) (rg_Pt a (rg_nb a k e)) r) x1:=by
 have hk':(k+e) % (rg_meas a).length<(rg_meas a).length:=kJ _ (by omega);have h1:=zF hk';have h0:=zF hk;rw[wZ,hx,hx2,yJ,he,KP (by omega),jB,zC (by omega) (by omega)];simp only[ko,ks,KG];rw[show(rg_meas a).getD ((k+e) % (rg_meas a).length) 0=rg_nb a k e from rfl,show(rg_meas a).getD k 0=rg_Mi a k from rfl,zC (show 0<=((rg_nb a k e:Nat):Int) by omega) (by unfold rg_nb;omega),zC (show 0<=((rg_Mi a k:Nat):Int) by omega) (by omega)];simp only[ko,ks,qPL,kd,BC,hx1];cases b<;>rfl
theorem qQQ (k:Nat) (hk:k<(rg_meas a).length):wZ a r (wO (rg_meas a)) (k:Int) FUEL true 0=some (rg_Ek a r k):=by
 have hl:=WK a;rw[zT,show(4611686018427387904:Nat)=4611686018427387901+1+1+1 from rfl];rw[qH8 a r h k _ hk true 0 1 ((rg_meas a).length-1) (by decide) (by decide) (by kernel_rfl) (by
  rw[show([-1,1]:List Int).getD (0:Int).toNat 0= -1 from rfl,qP (n:=(k:Int)+_) (by omega) (by omega),qP (by omega) (by omega)];omega)]
 rw[qH8 a r h k _ hk _ 1 2 ((rg_meas a).length+1) (by decide) (by decide) (by kernel_rfl) (by
  rw[show([-1,1]:List Int).getD (1:Int).toNat 0=1 from rfl,qP (n:=(k:Int)+_) (by omega) (by omega),qP (by omega) (by omega)];omega)]
 rw[qP1 a r h];have e:rg_nb a k ((rg_meas a).length+1)=rg_nb a k 1:=by
  unfold rg_nb;rw[show k+((rg_meas a).length+1)=k+1+(rg_meas a).length by omega,uD]
 rw[e];simp[rg_Ek]
theorem qD1 :∀(n x:Nat) (l:List qD),(rg_meas a).length<x+n->x<=(rg_meas a).length->l.length=a.Read.length->
  QC a r (wO (rg_meas a)) n (x:Int) l=some (((rg_meas a).drop x).foldl (YR a r) l)
 |0,x,l,h1,h2,_=>by omega
 |n+1,x,l,h1,h2,h3=>by
  have hl:=WK a;unfold QC;rw[yJ];by_cases hx:x<(rg_meas a).length
  ·have h0:=zF hx;rw[WN hx,zC (by omega) (by omega),qQQ a r h x hx,gu hx,uG];have hg:(rg_meas a)[x]=rg_Mi a x:=by have:=qE5 hx;rw[ki hx] at this;exact kK this
   rw[hg];simp only[ko,kd,ks,KG,DY,zY x (by omega)];rw[show(rg_meas a).getD x 0=rg_Mi a x from rfl,zC (show 0<=((rg_Mi a x:Nat):Int) by omega) (by omega)];simp only[ko,ks];have ih:=qD1 n (x+1) (YR a r l (rg_Mi a x)) (by omega) (by omega) (by rw[OG];exact h3);rw[<-ih];unfold YR;rw[qGj hx];cases rg_Ek a r x<;>rfl
  ·rw[WQ hx,uC (by omega)];rfl
theorem GT :∀(n x:Nat) (l:List qD),a.Read.length<x+n->x<=a.Read.length->l.length=a.Read.length->
  ZC a r n (x:Int) l=some ((List.range' x (a.Read.length-x)).foldl (λl i=>if rg_okAt a i=true then YR a r l i else l) l)
 |0,x,l,h1,h2,_=>by omega
 |n+1,x,l,h1,h2,h3=>by
  unfold ZC;by_cases hx:x<a.Read.length
  ·rw[WN hx,zC (by omega) (by omega),show a.Read.length-x=(a.Read.length-(x+1))+1 by omega,List.range'_succ,uG];simp only[ko,ks,MN,GL,zY x (by omega)];rw[show(a.Read.getD x dd).Ok=rg_okAt a x from rfl];cases ho:rg_okAt a x with
   |false=>exact GT n (x+1) l (by omega) (by omega) h3
   |true=>
    obtain⟨k,hk,hkx⟩:=RZ hx ho;subst hkx;have hp:(k+((rg_meas a).length-1)) % (rg_meas a).length<(rg_meas a).length:=kJ _ (by omega);have hn:(k+1) % (rg_meas a).length<(rg_meas a).length:=kJ _ (by omega);have h4:=zF hp;have h5:=zF hn;rw[qPh a h hk,qOC a h hk];simp only[kV,ku,kd,ks];rw[zC (show 0<=((rg_Mi a ((k+((rg_meas a).length-1)) % (rg_meas a).length):Nat):Int) by omega) (by omega),zC (show 0<=((rg_Mi a ((k+1) % (rg_meas a).length):Nat):Int) by omega) (by omega),zC (show 0<=((rg_Mi a k:Nat):Int) by omega) (by omega)];simp only[ko,qNJ,kd,if_true]
    have ih:=GT n (rg_Mi a k+1) (YR a r l (rg_Mi a k)) (by omega) (by omega) (by rw[OG];exact h3);rw[<-ih];unfold YR;rw[qGj hk];unfold rg_Ek rg_nb;rw[show(a.Read.getD (rg_Mi a k) dd).P=rg_Pt a (rg_Mi a k) from rfl,show(a.Read.getD (rg_Mi a ((k+((rg_meas a).length-1)) % (rg_meas a).length)) dd).P=rg_Pt a (rg_Mi a ((k+((rg_meas a).length-1)) % (rg_meas a).length)) from rfl,
     show(a.Read.getD (rg_Mi a ((k+1) % (rg_meas a).length)) dd).P=rg_Pt a (rg_Mi a ((k+1) % (rg_meas a).length)) from rfl]
    cases rg_farB (rg_Pt a (rg_Mi a k)) (rg_Pt a (rg_Mi a ((k+((rg_meas a).length-1)) % (rg_meas a).length))) r<;>cases rg_farB (rg_Pt a (rg_Mi a k)) (rg_Pt a (rg_Mi a ((k+1) % (rg_meas a).length))) r<;>rfl
  ·rw[WQ hx,show a.Read.length-x=0 by omega];rfl
end
def rg_cleaned (a:Ring) (r:Int):Ring:=bif decide (r<0) then a else bif decide (((rg_meas a).length:Int)<2) then a else bif ZI a !=0 then a else⟨a.Z,(rg_meas a).foldl (YR a r) a.Read⟩
theorem qKT (a:Ring) (r:Int) (h:a.Read.length<=1000):FO a r=some (rg_cleaned a r):=by
 have hl:=WK a;unfold FO RM rg_cleaned;rw[qGr a h,HI a h];simp only[kd,BE,yJ];have hL:QC a r (wO (rg_meas a)) FUEL 0 a.Read=some ((rg_meas a).foldl (YR a r) a.Read):=by
  have:=qD1 a r h FUEL 0 a.Read (by rw[zT];omega) (by omega) rfl
  rwa [uF] at this
 rw[hL];cases decide (r<0)<;>cases decide (((rg_meas a).length:Int)<2)<;>cases (ZI a !=0)<;>rfl
theorem qNe (a:Ring) (r:Int) (h:a.Read.length<=1000):qBF a r=some (rg_cleaned a r):=by
 have hl:=WK a;obtain⟨L,_,hg⟩:=OQ a h;unfold qBF VY rg_cleaned;rw[hg,qMK a h];simp only[kd,qEp];have hw:w64 ((a.Read.length:Int)-((a.Read.length-(rg_meas a).length:Nat):Int))=((rg_meas a).length:Int):=by
  rw[qP (by omega) (by omega)];omega
 have hL:ZC a r FUEL 0 a.Read=some ((rg_meas a).foldl (YR a r) a.Read):=by
  have:=GT a r h FUEL 0 a.Read (by rw[zT];omega) (by omega) rfl;rw[gF,<-gJ,<-List.foldl_filter] at this;exact this
 rw[hw,hL];cases decide (r<0)<;>cases decide (((rg_meas a).length:Int)<2)<;>cases (ZI a !=0)<;>rfl
theorem qIV (a:Ring) (r:Int):(rg_cleaned a r).Read.length=a.Read.length:=by
 unfold rg_cleaned;cases decide (r<0)<;>cases decide (((rg_meas a).length:Int)<2)<;>cases (ZI a !=0)<;>simp[qAY]
theorem qMi (a:Ring) (r:Int):(rg_cleaned a r).Z=a.Z:=by
 unfold rg_cleaned;cases decide (r<0)<;>cases decide (((rg_meas a).length:Int)<2)<;>cases (ZI a !=0)<;>rfl
theorem DQ {α:Type} [Inhabited α] {l t:List α} (h:l.length=t.length) (hj:∀j,j<l.length->l.getD j dd=t.getD j dd):l=t:=by
 apply gw h;intro i h1 h2;have:=hj i h1
 rwa [ka,ka,ki h1,ki h2] at this
theorem WM {α:Type} [Inhabited α] {l:List α} {x:Nat} (v:α) (h:x<l.length):(l.set x v).getD x dd=v:=by
 rw[ka,gk h];rfl
theorem QS {α:Type} [Inhabited α] {l:List α} {x j:Nat} (v:α) (h:x≠j):(l.set x v).getD j dd=l.getD j dd:=by
 rw[ka,gM h,<-ka]
theorem XL {α β:Type} [Inhabited α] [Inhabited β] (f:α->β) (l:List α) {j:Nat} (h:j<l.length):(l.map f).getD j dd=f (l.getD j dd):=by
 rw[ka,ka,kD,ki h];rfl
def wI (q:Nat) (p:qA):qA:=match q with
 |0=>p
 |1=>⟨-p.Y,p.X⟩
 |2=>⟨-p.X,-p.Y⟩
 |_=>⟨p.Y,-p.X⟩
def JF (p:qA):Prop:= -600<=p.X/\p.X<=600/\-600<=p.Y/\p.Y<=600
theorem qKZ {p:qA} (q:Nat) (h:JF p):JF (wI q p):=by
 obtain⟨h1,h2,h3,h4⟩:=h;unfold wI;split<;>refine⟨?_,?_,?_,?_⟩<;>(try simp only)<;>omega
theorem IQ {r:qD} (h:ZB r=0):JF r.P/\(r.Ok=false->r.P=⟨0,0⟩):=by
 unfold ZB at h;cases ho:r.Ok with
 |true=>
  rw[ho] at h;cases hr:WI r.P with
  |false=>rw[hr] at h;simp at h
  |true=>
   simp only[WI,kp,decide_eq_true_eq] at hr;exact⟨⟨hr.1.1,hr.1.2,hr.2.1,hr.2.2⟩,λh=>by cases h⟩
 |false=>
  rw[ho] at h;cases hz:EP r.P with
  |false=>rw[hz] at h;simp at h
  |true=>
   have:r.P=⟨0,0⟩:=by
    obtain⟨⟨x,y⟩,o⟩:=r;simp only[EP,Bool.and_true,kp,beq_iff_eq] at hz;simp only at hz⊢;rw[hz.1,hz.2]
   rw[this];exact⟨⟨by decide,by decide,by decide,by decide⟩,λ_=>rfl⟩
theorem qAX (l:List qA) (hs:∀p∈l,JF p) (h:l.length<=1000):∀(n x:Nat),l.length<x+n->x<=l.length->jO l n (x:Int)=some (.inr ())
 |0,x,h1,h2=>by omega
 |n+1,x,h1,h2=>by
  unfold jO;by_cases hx:x<l.length
  ·have hm:JF (l.getD x dd):=hs _ (by rw[ka,ki hx];exact uB hx);rw[WN hx,zC (by omega) (by omega)];simp only[ko,ks,TW,zY x (by omega)];have e1:((l.getD x dd).X== -9223372036854775808)=false:=un.2 (by have:=hm.1;omega);have e2:((l.getD x dd).Y== -9223372036854775808)=false:=un.2 (by have:=hm.2.2.1;omega);rw[e1,e2];exact qAX l hs h n (x+1) (by omega) (by omega)
  ·rw[WQ hx];rfl
theorem qIM (l:List qA) (hs:∀p∈l,JF p) (h:l.length<=1000):US l=some true:=by
 unfold US;have:=qAX l hs h FUEL 0 (by rw[zT];omega) (by omega);have h':jO l FUEL 0=some (.inr ()):=this;rw[h'];rfl
theorem qIO (q:Nat) (hq:q<4) (p:qA) (hs:JF p):
  qA.mk (w64 (w64 ((qV.getD q dd).X*p.X)-w64 ((qV.getD q dd).Y*p.Y))) (w64 (w64 ((qV.getD q dd).Y*p.X)+w64 ((qV.getD q dd).X*p.Y)))=wI q p:=by
 obtain⟨h1,h2,h3,h4⟩:=hs;obtain⟨x,y⟩:=p;simp only at h1 h2 h3 h4
 match q,hq with
 |0,_=>
  simp only[qV,um,wI,Int.one_mul,Int.zero_mul];rw[qP (n:=x) (by omega) (by omega),qP (n:=y) (by omega) (by omega),qP (n:=0) (by omega) (by omega),qP (by omega) (by omega),qP (by omega) (by omega)]
  congr 1<;>omega
 |1,_=>
  simp only[qV,um,gx,wI,Int.one_mul,Int.zero_mul];rw[qP (n:=x) (by omega) (by omega),qP (n:=y) (by omega) (by omega),qP (n:=0) (by omega) (by omega),qP (by omega) (by omega),qP (by omega) (by omega)]
  congr 1<;>omega
 |2,_=>
  simp only[qV,um,gx,wI,Int.zero_mul];rw[qP (n:= -1*x) (by omega) (by omega),qP (n:= -1*y) (by omega) (by omega),qP (n:=0) (by omega) (by omega),qP (by omega) (by omega),qP (by omega) (by omega)]
  congr 1<;>omega
 |3,_=>
  simp only[qV,um,gx,wI,Int.zero_mul];rw[qP (n:= -1*x) (by omega) (by omega),qP (n:= -1*y) (by omega) (by omega),qP (n:=0) (by omega) (by omega),qP (by omega) (by omega),qP (by omega) (by omega)]
  congr 1<;>omega
theorem qAo (l:List qA) (hs:∀p∈l,JF p) (h:l.length<=1000) (r:Int) (q:Nat) (hq:q<4) (hr:Int.tmod (w64 (Int.tmod r 4+4)) 4=(q:Int)):
  ∀(n x:Nat) (t:List qA),l.length<x+n->x<=l.length->t.length=l.length->(∀j,j<x->t.getD j dd=wI q (l.getD j dd))->KF l r n t (x:Int)=some (l.map (wI q))
 |0,x,t,h1,h2,_,_=>by omega
 |n+1,x,t,h1,h2,h3,h4=>by
  unfold KF;by_cases hx:x<l.length
  ·have hm:JF (l.getD x dd):=hs _ (by rw[ka,ki hx];exact uB hx);rw[WN hx,zC (by omega) (by omega),zC (by omega) (by omega),hr];simp only[ko,ks,zY x (by omega)];rw[qIO q hq _ hm];refine qAo l hs h r q hq hr n (x+1) _ (by omega) (by omega) (by rw[gr];exact h3) (λj hj=>?_);by_cases he:x=j
   ·subst he;rw[WM _ (by omega)]
   ·rw[QS _ he];exact h4 j (by omega)
  ·rw[WQ hx];have:t=l.map (wI q):=DQ (by simp[h3]) (λj hj=>by rw[h4 j (by omega),XL _ _ (by omega)]);rw[this];rfl
theorem qI9 (l:List qA) (hs:∀p∈l,JF p) (h:l.length<=1000) (r:Int) (q:Nat) (hq:q<4) (hr:Int.tmod (w64 (Int.tmod r 4+4)) 4=(q:Int)):IB l r=some (l.map (wI q)):=by
 unfold IB;have hmk:mkOk (l.length:Int) 16=true:=by unfold mkOk;exact ke ⟨by omega,by omega,by omega⟩
 have hL:=qAo l hs h r q hq hr FUEL 0 (List.replicate l.length (qA.mk 0 0)) (by rw[zT];omega) (by omega) (by simp) (λj hj=>by omega);have hL':KF l r FUEL (List.replicate l.length (qA.mk 0 0)) 0=some (l.map (wI q)):=hL;rw[qIM l hs h,hr,hmk,zC (by omega) (by omega)];simp only[kd,kV,ku,ko,ks,hL']
def UQ (q:Nat) (r:qD):qD:=⟨wI q r.P,r.Ok⟩
def jF (q:Nat) (a:Ring):Ring:=⟨a.Z,a.Read.map (UQ q)⟩
theorem qCV (a:Ring) (h:a.Read.length<=1000):∀(n x:Nat) (t:List qA),a.Read.length<x+n->x<=a.Read.length->t.length=a.Read.length->(∀j,j<x->t.getD j dd=(a.Read.getD j dd).P)->
  KA a n t (x:Int)=some (a.Read.map (·.P))
 |0,x,t,h1,h2,_,_=>by omega
 |n+1,x,t,h1,h2,h3,h4=>by
  unfold KA;by_cases hx:x<a.Read.length
  ·rw[WN hx,zC (by omega) (by omega),zC (by omega) (by omega)];simp only[ko,ks,zY x (by omega)];refine qCV a h n (x+1) _ (by omega) (by omega) (by rw[gr];exact h3) (λj hj=>?_);by_cases he:x=j
   ·subst he;rw[WM _ (by omega)]
   ·rw[QS _ he];exact h4 j (by omega)
  ·rw[WQ hx];have:t=a.Read.map (·.P):=DQ (by simp[h3]) (λj hj=>by rw[h4 j (by omega),XL _ _ (by omega)]);rw[this];rfl
theorem qCU (a:Ring) (h:a.Read.length<=1000) (q:Nat):∀(n x:Nat) (t:List qD),a.Read.length<x+n->x<=a.Read.length->t.length=a.Read.length->(∀j,j<x->t.getD j dd=UQ q (a.Read.getD j dd))->(∀j,x<=j->t.getD j dd=a.Read.getD j dd)->
  KR ((a.Read.map (·.P)).map (wI q)) n (x:Int) t=some (a.Read.map (UQ q))
 |0,x,t,h1,h2,_,_,_=>by omega
 |n+1,x,t,h1,h2,h3,h4,h5=>by
  unfold KR;rw[ul,ul];by_cases hx:x<a.Read.length
  ·rw[WN hx,zC (by omega) (by omega),zC (by omega) (by omega)];simp only[ko,ks,zY x (by omega)];rw[h5 x (kr _),XL _ _ (by simpa using hx),XL _ _ hx];refine qCU a h q n (x+1) _ (by omega) (by omega) (by rw[gr];exact h3) (λj hj=>?_) (λj hj=>?_)
   ·by_cases he:x=j
    ·subst he;rw[WM _ (by omega)];rfl
    ·rw[QS _ he];exact h4 j (by omega)
   ·rw[QS _ (by omega)];exact h5 j (by omega)
  ·rw[WQ hx];have:t=a.Read.map (UQ q):=DQ (by simp[h3]) (λj hj=>by rw[h4 j (by omega),XL _ _ (by omega)]);rw[this];rfl
theorem qLm (a:Ring) (r:Int) (g:wM a) (q:Nat) (hq:q<4) (hr:Int.tmod (w64 (Int.tmod r 4+4)) 4=(q:Int)):AP a r=some (jF q a):=by
 have hn:=g.hi;unfold AP;have hmk:mkOk (a.Read.length:Int) 16=true:=by unfold mkOk;exact ke ⟨by omega,by omega,by omega⟩
 have hL:KA a FUEL (List.replicate a.Read.length (qA.mk 0 0)) 0=some (a.Read.map (·.P)):=qCV a (by omega) FUEL 0 _ (by rw[zT];omega) (by omega) (by simp) (λj hj=>by omega);have hL2:KR ((a.Read.map (·.P)).map (wI q)) FUEL 0 a.Read=some (a.Read.map (UQ q)):=qCU a (by omega) q FUEL 0 _ (by rw[zT];omega) (by omega) rfl (λj hj=>by omega) (λ_ _=>rfl);have hp:=qI9 (a.Read.map (·.P)) (λp hp=>by
  obtain⟨x,hx,rfl⟩:=ui.1 hp;exact(IQ (g.all x hx)).1) (by simpa using by omega) r q hq hr
 rw[qGr a (by omega),BE,(TD a).2 g,hmk];simp only[kd,kP,ku,ko,ks,hL,hp,hL2];rfl
theorem qKE (q:Nat):wI q ⟨0,0⟩=⟨0,0⟩:=by
 unfold wI;split<;>rfl
end Saw
end Go.SL

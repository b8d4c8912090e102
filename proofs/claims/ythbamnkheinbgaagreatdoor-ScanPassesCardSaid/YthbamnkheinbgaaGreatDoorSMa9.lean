/- The ring laws' plain mathematics, part 2: the measured readings, their qAL. -/
import Derived.Test.YthbamnkheinbgaaGreatDoorSMa8
set_option linter.unusedVariables false
set_option linter.unusedSimpArgs false
namespace Go.SL
namespace Saw
def rg_okAt (a:Ring) (i:Nat):Bool:=(a.Read.getD i dd).Ok
def qM (a:Ring):List Nat:=(List.range a.Read.length).filter (rg_okAt a)
def qT (a:Ring) (k:Nat):Nat:=(qM a).getD k 0
def yL (l:List Nat):List Int:=List.map (λi:Nat=>(i:Int)) l
theorem PI (l:List Nat):(yL l).length=l.length:=by simp[yL]
theorem qAt (l:List Nat) (k:Nat):(yL l).getD k dd=((l.getD k 0:Nat):Int):=by
 unfold yL;rw[ka,ka,kD];cases l[k]? <;>rfl
theorem YK (x:Nat) (h:x<=1000000):w64 ((x:Int)+1)=((x+1:Nat):Int):=by rw[wT (by omega) (by omega)];omega
theorem NX {x n:Nat} (h:x<n):decide ((x:Int)<((n:Nat):Int))=true:=ku (by omega)
theorem NY {x n:Nat} (h:¬x<n):decide ((x:Int)<((n:Nat):Int))=false:=kp (by omega)
theorem qGv (a b:Nat):Int.tmod (a:Int) (b:Int)=((a % b:Nat):Int):=rfl
theorem LM (a:Ring):∀(n x:Nat) (l:List Int),a.Read.length<x+n->x<=a.Read.length->a.Read.length<=1000->l.length<=x->
  wG a n l (x:Int)=some (l++yL ((List.range' x (a.Read.length-x)).filter (rg_okAt a)))
 |0,x,l,h1,h2,_,_=>by omega
 |n+1,x,l,h1,h2,h3,h4=>by
  unfold wG;by_cases hx:x<a.Read.length
  ·rw[NX hx,jR (by omega) (by omega),show a.Read.length-x=(a.Read.length-(x+1))+1 by omega,List.range'_succ,List.filter_cons,CZ (n:=l.length+1) (by omega)];simp only[kr,kH,JL,YK x (by omega)];rw[show(a.Read.getD x dd).Ok=rg_okAt a x from rfl];cases hk:rg_okAt a x with
   |true=>
    rw[kr,LM a n (x+1) _ (by omega) (by omega) h3 (by simp;omega)];simp[yL]
   |false=>
    rw[kq,LM a n (x+1) _ (by omega) (by omega) h3 (by omega)];simp
  ·rw[NY hx,show a.Read.length-x=0 by omega];simp[yL]
theorem VW (a:Ring) (h:a.Read.length<=1000):yR a=some (yL (qM a)):=by
 unfold yR;have:=LM a FUEL 0 [] (by rw[wM];omega) (by omega) h (by simp);have h':wG a FUEL [] 0=some (yL (qM a)):=by
  rw[show(0:Int)=((0:Nat):Int) from rfl,this,uG,gg,<-List.range_eq_range'];rfl
 rw[h'];rfl
theorem qIy {a:Ring} {k:Nat} (h:k<(qM a).length):(qM a)[k]? =some (qT a k):=by
 unfold qT;rw[ka,ki h];rfl
theorem wC {a:Ring} {k:Nat} (h:k<(qM a).length):qT a k<a.Read.length/\rg_okAt a (qT a k)=true:=by
 have:=uB (qIy h);unfold qM at this;rw[uI,ui] at this;exact this
theorem EA {a:Ring} {q:Nat} (h1:q<a.Read.length) (h2:rg_okAt a q=true):∃t,t<(qM a).length/\qT a t=q:=by
 have hm:q∈qM a:=by unfold qM;rw[uI,ui];exact⟨h1,h2⟩
 obtain⟨t,ht,he⟩:=uV.1 hm;exact⟨t,ht,by unfold qT;rw[ka,ki ht,he];rfl⟩
theorem qBL {a:Ring} {i j:Nat} (hij:i<j) (hj:j<(qM a).length):qT a i<qT a j:=by
 have hp:(qM a).Pairwise (·<·):=List.Pairwise.filter _ List.pairwise_lt_range;have h1:=List.pairwise_iff_getElem.1 hp i j (by omega) hj hij;have e1:(qM a)[i]'(by omega)=qT a i:=by unfold qT;rw[ka,ki (by omega)];rfl
 have e2:(qM a)[j]=qT a j:=by unfold qT;rw[ka,ki hj];rfl
 rwa [e1,e2] at h1
theorem KB {a:Ring} {i j:Nat} (hij:i<=j) (hj:j<(qM a).length):qT a i<=qT a j:=by
 rcases Nat.lt_or_eq_of_le hij with h|rfl
 ·exact Nat.le_of_lt (qBL h hj)
 ·exact kg _
def rg_gap (a:Ring) (k:Nat):Nat:=if k+1<(qM a).length then qT a (k+1)-qT a k-1 else qT a 0+a.Read.length-qT a k-1
theorem qFy (a:Ring) (h:a.Read.length<=1000) {k:Nat} (hk:k<(qM a).length):YJ a (yL (qM a)) (k:Int)=some ((rg_gap a k:Nat):Int):=by
 have h0:=wC hk;have hl:(qM a).length<=a.Read.length:=by unfold qM;exact kS (uQ _ _) (by simp)
 unfold YJ rg_gap;rw[YK k (by omega),PI];by_cases hk1:k+1<(qM a).length
 ·have h1:=wC hk1;have h2:=qBL (a:=a) (show k<k+1 by omega) hk1;rw[NX hk1,jR (by omega) (by omega),jR (by omega) (by omega),if_pos hk1];simp only[kr,kH,qAt];rw[show(qM a).getD (k+1) 0=qT a (k+1) from rfl,show(qM a).getD k 0=qT a k from rfl];rw[wT (n:=((qT a (k+1):Nat):Int)-_) (by omega) (by omega),wT (by omega) (by omega)]
  congr 1
  omega
 ·have h1:=wC (a:=a) (k:=0) (by omega);have h2:=KB (a:=a) (kM k) hk;rw[NY hk1,kq,jR (by omega) (by omega),jR (by omega) (by omega),if_neg hk1];simp only[kr,kH,Int.toNat_zero,qAt];rw[show(qM a).getD 0 0=qT a 0 from rfl,show(qM a).getD k 0=qT a k from rfl];rw[wT (n:=((qT a 0:Nat):Int)+_) (by omega) (by omega),wT (n:=((qT a 0:Nat):Int)+_-_) (by omega) (by omega),wT (by omega) (by omega)]
  congr 1
  omega
theorem XP {x n:Nat} (h:x<n):x % n=x:=Nat.mod_eq_of_lt h
theorem qIw {x n:Nat} (h1:n<=x) (h2:x<2*n):x % n=x-n:=by
 rw[Nat.mod_eq_sub_mod h1,Nat.mod_eq_of_lt (by omega)]
theorem HF {a:Ring} {k:Nat} (hk:k<(qM a).length):rg_gap a k+1<=a.Read.length:=by
 have h0:=wC hk;unfold rg_gap;split
 ·rename_i h;have:=wC h;omega
 ·have:=KB (a:=a) (kM k) hk;omega
theorem NQ {a:Ring} {k d:Nat} (hk:k<(qM a).length) (h1:1<=d) (h2:d<=rg_gap a k):rg_okAt a ((qT a k+d) % a.Read.length)=false:=by
 have h0:=wC hk;have hg:=HF hk;cases ho:rg_okAt a ((qT a k+d) % a.Read.length) with
 |false=>rfl
 |true=>
  obtain⟨t,ht,he⟩:=EA (uc _ (by omega)) ho;unfold rg_gap at h2;split at h2
  ·rename_i hk1;have h3:=wC hk1;rw[XP (by omega)] at he;rcases Nat.lt_or_ge t (k+1) with h|h
   ·have:=KB (a:=a) (show t<=k by omega) hk;omega
   ·have:=KB (a:=a) h ht;omega
  ·rename_i hk1;have ht':=KB (a:=a) (show t<=k by omega) hk;have hz:=KB (a:=a) (kM t) ht;by_cases hc:qT a k+d<a.Read.length
   ·rw[XP hc] at he;omega
   ·rw[qIw (by omega) (by omega)] at he;omega
theorem SO {a:Ring} {k:Nat} (hk:k<(qM a).length):(qT a k+(rg_gap a k+1)) % a.Read.length=qT a ((k+1) % (qM a).length):=by
 have h0:=wC hk;unfold rg_gap;split
 ·rename_i hk1;have h3:=wC hk1;have h4:=qBL (a:=a) (show k<k+1 by omega) hk1;rw[XP hk1,show qT a k+(qT a (k+1)-qT a k-1+1)=qT a (k+1) by omega,XP h3.1]
 ·rename_i hk1;have hz:=wC (a:=a) (k:=0) (by omega);have hle:=KB (a:=a) (kM k) hk;rw[show k+1=(qM a).length by omega,Nat.mod_self,show qT a k+(qT a 0+a.Read.length-qT a k-1+1)=qT a 0+a.Read.length by omega,Nat.add_mod_right,XP hz.1]
theorem OH (a:Ring) (q:Nat):∀(m j:Nat),(qM a).length=j+m->1<=m->qT a j<q->∃k,k<(qM a).length/\qT a k<q/\(k+1<(qM a).length->q<=qT a (k+1))
 |0,_,_,h,_=>by omega
 |m+1,j,hm,_,hj=>by
  by_cases h:j+1<(qM a).length
  ·by_cases hq:qT a (j+1)<q
   ·exact OH a q m (j+1) (by omega) (by omega) hq
   ·exact⟨j,by omega,hj,λ_=>by omega⟩
  ·exact⟨j,by omega,hj,λh'=>absurd h' h⟩
theorem qEc {a:Ring} {q:Nat} (hm:1<=(qM a).length) (hq:q<a.Read.length) (ho:rg_okAt a q=false):∃k d,k<(qM a).length/\1<=d/\d<=rg_gap a k/\(qT a k+d) % a.Read.length=q:=by
 have hne:∀t,t<(qM a).length->qT a t≠q:=λt ht he=>by
  have:=(wC ht).2;rw[he,ho] at this;cases this
 by_cases h0:qT a 0<q
 ·obtain⟨k,hk,h1,h2⟩:=OH a q (qM a).length 0 (by omega) hm h0;refine⟨k,q-qT a k,hk,by omega,?_,by rw[show qT a k+(q-qT a k)=q by omega,XP hq]⟩;unfold rg_gap;split
  ·rename_i hk1;have:=hne (k+1) hk1;have:=h2 hk1;omega
  ·omega
 ·have hne0:=hne 0 (by omega);have hlast:(qM a).length-1<(qM a).length:=by omega
  have hl:=wC (a:=a) hlast;have hle:=KB (a:=a) (kM ((qM a).length-1)) hlast;refine⟨(qM a).length-1,q+a.Read.length-qT a ((qM a).length-1),hlast,by omega,?_,?_⟩
  ·unfold rg_gap;rw[if_neg (by omega)];omega
  ·rw[show qT a ((qM a).length-1)+(q+a.Read.length-qT a ((qM a).length-1))=q+a.Read.length by omega,Nat.add_mod_right,XP hq]
theorem qBi (x y:Nat):imax (x:Int) (y:Int)=((max x y:Nat):Int):=by
 unfold imax;split<;>omega
theorem WL (a:Ring) (h:a.Read.length<=1000):∀(n x mx:Nat),(qM a).length<x+n->x<=(qM a).length->
  ∃R:Nat,yJ a (yL (qM a)) n (mx:Int) (x:Int)=some (R:Int)/\mx<=R/\(∀k,x<=k->k<(qM a).length->rg_gap a k<=R)/\(R=mx\/∃k,k<(qM a).length/\R=rg_gap a k)
 |0,x,mx,h1,h2=>by omega
 |n+1,x,mx,h1,h2=>by
  have hl:(qM a).length<=a.Read.length:=by unfold qM;exact kS (uQ _ _) (by simp)
  unfold yJ;rw[PI];by_cases hx:x<(qM a).length
  ·rw[NX hx,qFy a h hx];simp only[kr,ks,qBi,YK x (by omega)];obtain⟨R,e,h3,h4,h5⟩:=WL a h n (x+1) (max mx (rg_gap a x)) (by omega) (by omega);refine⟨R,e,by omega,λk hk1 hk2=>?_,?_⟩
   ·rcases Nat.lt_or_ge x k with hk|hk
    ·exact h4 k hk hk2
    ·obtain rfl:k=x:=by omega
     omega
   ·rcases h5 with h5|h5
    ·rcases Nat.le_total mx (rg_gap a x) with hg|hg
     ·exact .inr ⟨x,hx,by omega⟩
     ·exact .inl (by omega)
    ·exact .inr h5
  ·rw[NY hx];exact⟨mx,rfl,kg _,λk hk1 hk2=>by omega,.inl rfl⟩
theorem GY (a:Ring) (h:a.Read.length<=1000) (q r:Nat) (hq:q<a.Read.length) (hr:r<=a.Read.length) (h1:∀d,d<r->rg_okAt a ((q+d) % a.Read.length)=false) (h2:r=a.Read.length\/rg_okAt a ((q+r) % a.Read.length)=true):
  ∀(n x:Nat),r<x+n->x<=r->wK a (q:Int) n (x:Int)=some (r:Int)
 |0,x,h3,h4=>by omega
 |n+1,x,h3,h4=>by
  unfold wK;by_cases hx:x<a.Read.length
  ·have e:w64 ((q:Int)+(x:Int))=((q+x:Nat):Int):=by rw[wT (by omega) (by omega)];omega
   have hm:(q+x) % a.Read.length<a.Read.length:=uc _ (by omega);rw[NX hx,rg_nz_t (by omega),e,qGv,jR (by omega) (by omega)];simp only[kr,kH,BR,YK x (by omega)];rw[show(a.Read.getD ((q+x) % a.Read.length) dd).Ok=rg_okAt a ((q+x) % a.Read.length) from rfl];by_cases hxr:x<r
   ·rw[h1 x hxr];exact GY a h q r hq hr h1 h2 n (x+1) (by omega) (by omega)
   ·obtain rfl:x=r:=by omega
    rcases h2 with h2|h2
    ·omega
    ·rw[h2];rfl
  ·rw[NY hx];obtain rfl:x=r:=by omega
   rfl
theorem RM (a:Ring) (h:a.Read.length<=1000) (run:Nat->Nat) (hrun:∀q,q<a.Read.length->rg_okAt a q=false->wK a (q:Int) FUEL 0=some ((run q:Nat):Int)):∀(n x c mx:Nat),a.Read.length<x+n->x<=a.Read.length->c<=x->
  ∃R:Nat,ZH a n (c:Int) (mx:Int) (x:Int)=some (((c+(List.range' x (a.Read.length-x)).countP (λi=>!rg_okAt a i):Nat):Int),(R:Int))/\mx<=R/\(∀q,x<=q->q<a.Read.length->rg_okAt a q=false->run q<=R)/\(R=mx\/∃q,q<a.Read.length/\rg_okAt a q=false/\R=run q)
 |0,x,c,mx,h1,h2,_=>by omega
 |n+1,x,c,mx,h1,h2,hc=>by
  unfold ZH;by_cases hx:x<a.Read.length
  ·rw[NX hx,jR (by omega) (by omega),show a.Read.length-x=(a.Read.length-(x+1))+1 by omega,List.range'_succ,List.countP_cons];simp only[kr,kH,BK,YK x (by omega),YK c (by omega)];rw[show(a.Read.getD x dd).Ok=rg_okAt a x from rfl];cases ho:rg_okAt a x with
   |true=>
    obtain⟨R,e,h3,h4,h5⟩:=RM a h run hrun n (x+1) c mx (by omega) (by omega) (by omega);refine⟨R,by rw[kr,e];simp,h3,λq hq1 hq2 hq3=>?_,h5⟩;rcases Nat.lt_or_ge x q with hk|hk
    ·exact h4 q hk hq2 hq3
    ·obtain rfl:q=x:=by omega
     rw[ho] at hq3;cases hq3
   |false=>
    obtain⟨R,e,h3,h4,h5⟩:=RM a h run hrun n (x+1) (c+1) (max mx (run x)) (by omega) (by omega) (by omega);refine⟨R,?_,by omega,λq hq1 hq2 hq3=>?_,?_⟩
    ·rw[kq,hrun x hx ho];simp only[ks,qBi,e,Bool.not_false,if_true]
     congr 3
     omega
    ·rcases Nat.lt_or_ge x q with hk|hk
     ·exact h4 q hk hq2 hq3
     ·obtain rfl:q=x:=by omega
      omega
    ·rcases h5 with h5|h5
     ·rcases Nat.le_total mx (run x) with hg|hg
      ·exact .inr ⟨x,hx,ho,by omega⟩
      ·exact .inl (by omega)
     ·exact .inr h5
  ·rw[NY hx,show a.Read.length-x=0 by omega];exact⟨mx,by simp,kg _,λq h1 h2=>by omega,.inl rfl⟩
theorem qIK (a:Ring) (h:a.Read.length<=1000) (q:Nat) (hq:q<a.Read.length) (ho:rg_okAt a q=false):
  ∃r,wK a (q:Int) FUEL 0=some ((r:Nat):Int)/\(((qM a).length=0/\r=a.Read.length)\/∃k d,k<(qM a).length/\1<=d/\d<=rg_gap a k/\(qT a k+d) % a.Read.length=q/\r=rg_gap a k+1-d):=by
 by_cases hm:(qM a).length=0
 ·refine⟨a.Read.length,GY a h q _ hq (kg _) (λd _=>?_) (.inl rfl) FUEL 0 (by rw[wM];omega) (by omega),.inl ⟨hm,rfl⟩⟩;cases ho:rg_okAt a ((q+d) % a.Read.length) with
  |false=>rfl
  |true=>
   obtain⟨t,ht,_⟩:=EA (uc _ (by omega)) ho;omega
 ·obtain⟨k,d,hk,h1,h2,h3⟩:=qEc (by omega) hq ho;have hg:=HF hk;have hs:∀e,(q+e) % a.Read.length=(qT a k+(d+e)) % a.Read.length:=λe=>by rw[<-h3,Nat.mod_add_mod,um]
  refine⟨rg_gap a k+1-d,GY a h q _ hq (by omega) (λe he=>?_) (.inr ?_) FUEL 0 (by rw[wM];omega) (by omega),.inr ⟨k,d,hk,h1,h2,h3,rfl⟩⟩
  ·rw[hs];exact NQ hk (by omega) (by omega)
  ·rw[hs,show d+(rg_gap a k+1-d)=rg_gap a k+1 by omega,SO hk];exact(wC (uc _ (by omega))).2
theorem qBG (a:Ring):(qM a).length+(List.range' 0 a.Read.length).countP (λi=>!rg_okAt a i)=a.Read.length:=by
 have:=List.length_eq_countP_add_countP (rg_okAt a) (l:=List.range a.Read.length);rw[List.length_range] at this;rw[<-List.range_eq_range'];unfold qM;rw[<-uR];have e:(List.range a.Read.length).countP (λi=>!rg_okAt a i)=(List.range a.Read.length).countP (λi=>decide ¬rg_okAt a i=true):=by
  congr 1
  funext i
  cases rg_okAt a i<;>rfl
 rw[e];omega
theorem qAL (a:Ring) (h:a.Read.length<=1000):∃L:Nat,wA a=some (((a.Read.length-(qM a).length:Nat):Int),(L:Int))/\AR a=some (((a.Read.length-(qM a).length:Nat):Int),(L:Int)):=by
 have hl:(qM a).length<=a.Read.length:=by unfold qM;exact kS (uQ _ _) (by simp)
 have hc:=qBG a;have hex:∀q,∃r,q<a.Read.length->rg_okAt a q=false->wK a (q:Int) FUEL 0=some ((r:Nat):Int)/\(((qM a).length=0/\r=a.Read.length)\/∃k d,k<(qM a).length/\1<=d/\d<=rg_gap a k/\(qT a k+d) % a.Read.length=q/\r=rg_gap a k+1-d):=λq=>by
  by_cases hq:q<a.Read.length/\rg_okAt a q=false
  ·obtain⟨r,hr⟩:=qIK a h q hq.1 hq.2;exact⟨r,λ_ _=>hr⟩
  ·exact⟨0,λh1 h2=>absurd ⟨h1,h2⟩ hq⟩
 obtain⟨run,hrun⟩:∃f:Nat->Nat,∀q,q<a.Read.length->rg_okAt a q=false->wK a (q:Int) FUEL 0=some ((f q:Nat):Int)/\(((qM a).length=0/\f q=a.Read.length)\/∃k d,k<(qM a).length/\1<=d/\d<=rg_gap a k/\(qT a k+d) % a.Read.length=q/\f q=rg_gap a k+1-d):=
  ⟨λq=>Classical.choose (hex q),λq=>Classical.choose_spec (hex q)⟩
 obtain⟨R2,e2,_,g2,t2⟩:=RM a h run (λq h1 h2=>(hrun q h1 h2).1) FUEL 0 0 0 (by rw[wM];omega) (by omega) (by omega);have e2':AR a=some (((a.Read.length-(qM a).length:Nat):Int),(R2:Int)):=by
  unfold AR;have e3:ZH a FUEL 0 0 0=some (((a.Read.length-(qM a).length:Nat):Int),(R2:Int)):=by
   rw[gg,kz] at e2;rw[show a.Read.length-(qM a).length=(List.range' 0 a.Read.length).countP (λi=>!rg_okAt a i) by omega];exact e2
  rw[e3];rfl
 have hw:w64 ((a.Read.length:Int)-((qM a).length:Int))=((a.Read.length-(qM a).length:Nat):Int):=by
  rw[wT (by omega) (by omega)];omega
 unfold wA;rw[VW a h];simp only[ks,PI];by_cases hm:(qM a).length=0
 ·have:(((qM a).length:Int)==0)=true:=by simp[hm]
  rw[this,kr,hw];have hR:R2=a.Read.length-(qM a).length:=by
   rw[hm,gg];by_cases hn:a.Read.length=0
   ·rcases t2 with t|⟨q,hq,_⟩<;>omega
   ·have ho:rg_okAt a 0=false:=by
     cases ho:rg_okAt a 0 with
     |false=>rfl
     |true=>
      obtain⟨t,ht,_⟩:=EA (a:=a) (q:=0) (by omega) ho;omega
    have h1:=g2 0 (kg _) (by omega) ho;have rg_val:∀q,q<a.Read.length->rg_okAt a q=false->run q=a.Read.length:=λq h1 h2=>by
     rcases(hrun q h1 h2).2 with⟨_,h3⟩|⟨k,d,hk,_⟩
     ·exact h3
     ·omega
    rw[rg_val 0 (by omega) ho] at h1;rcases t2 with t|⟨q,h3,h4,t⟩
    ·omega
    ·rw[t,rg_val q h3 h4]
  exact⟨R2,by rw[hR],e2'⟩
 ·have:(((qM a).length:Int)==0)=false:=uE.2 (by omega);rw[this,kq,hw];obtain⟨R1,e1,_,g1,t1⟩:=WL a h FUEL 0 0 (by rw[wM];omega) (by omega);have e1':yJ a (yL (qM a)) FUEL 0 0=some (R1:Int):=e1;rw[e1'];have hR:R1=R2:=by
   apply Nat.le_antisymm
   ·rcases t1 with t|⟨k,hk,t⟩
    ·omega
    ·by_cases hz:rg_gap a k=0
     ·omega
     ·have hg:=HF hk;have ho:=NQ hk (kg 1) (by omega);have hq:(qT a k+1) % a.Read.length<a.Read.length:=uc _ (by omega);have h1:=g2 _ (kM _) hq ho;have hv:wK a (((qT a k+1) % a.Read.length:Nat):Int) FUEL 0=some ((rg_gap a k:Nat):Int):=by
       have hs:∀e,((qT a k+1) % a.Read.length+e) % a.Read.length=(qT a k+(1+e)) % a.Read.length:=λe=>by rw[Nat.mod_add_mod,um]
       refine GY a h _ _ hq (by omega) (λe he=>?_) (.inr ?_) FUEL 0 (by rw[wM];omega) (by omega)
       ·rw[hs];exact NQ hk (by omega) (by omega)
       ·rw[hs,show 1+rg_gap a k=rg_gap a k+1 by omega,SO hk];exact(wC (uc _ (by omega))).2
      have h2:=(hrun _ hq ho).1;rw[hv] at h2;have h3:rg_gap a k=run ((qT a k+1) % a.Read.length):=by
       have:=kB h2;omega
      omega
   ·rcases t2 with t|⟨q,h3,h4,t⟩
    ·omega
    ·rcases(hrun q h3 h4).2 with⟨h5,_⟩|⟨k,d,hk,hd1,hd2,_,hr⟩
     ·omega
     ·have:=g1 k (kM _) hk;omega
  exact⟨R2,by rw[hR];rfl,e2'⟩
end Saw
end Go.SL

set_option linter.unusedSectionVars false
namespace Go.SL
namespace Saw
theorem qCR (a:Ring):(qM a).length<=a.Read.length:=by unfold qM;exact kS (uQ _ _) (by simp)
section
variable (a :Ring) (r:Int) (h:a.Read.length<=1000)
include h
end
theorem qBj {α:Type} [Inhabited α] {l t:List α} (h:l.length=t.length) (hj:∀j,j<l.length->l.getD j dd=t.getD j dd):l=t:=by
 apply uY h;intro i h1 h2;have:=hj i h1
 rwa [ka,ka,ki h1,ki h2] at this
theorem qDr {α:Type} [Inhabited α] {l:List α} {x:Nat} (v:α) (h:x<l.length):(l.set x v).getD x dd=v:=by
 rw[ka,List.getElem?_set_self h];rfl
theorem EN {α:Type} [Inhabited α] {l:List α} {x j:Nat} (v:α) (h:x≠j):(l.set x v).getD j dd=l.getD j dd:=by
 rw[ka,uX h,<-ka]
end Saw
end Go.SL

/- Plain mathematics that all seats use: 64-bit sums that do not wrap, bounds, lists. -/
import Derived.Test.YtpommeghjpbepaaYa6
import Derived.Test.YtpommeghjpbepaaEMod
set_option linter.unusedVariables false
set_option linter.unusedSimpArgs false
namespace Go.SL
theorem yU :FUEL=4611686018427387904:=by unfold FUEL;rfl
theorem w64_id {n:Int} (h1: -9223372036854775808<=n) (h2:n<=9223372036854775807):w64 n=n:=by
 unfold w64 IntKind.wrap;simp only[IntKind.bits,IntKind.signed,Bool.true_and];split
 ·rename_i h;have h':n % 2^64≥2^(64-1):=kX h;omega
 ·rename_i h;have h':¬n % 2^64≥2^(64-1):=λhh=>h (ka hh);omega
theorem qU {n:Int} (h: -9223372036854775808<=n/\n<=9223372036854775807):w64 n=n:=w64_id h.1 h.2
theorem zJ {i:Int} {n:Nat} (h:0<=i/\i<(n:Int)):inb i n=true:=by unfold inb;exact ka h
theorem qGd {i:Int} {n:Nat} (h0:0<=i) (h1:i<(n:Int)):inb i n=true:=by unfold inb;exact ka ⟨h0,h1⟩
theorem nz_t {b:Int} (h:b≠0):nz b=true:=by unfold nz;exact ka h
theorem room_t {n b:Nat} (h:n*b<=140737488355328):room n b=true:=by unfold room;exact ka h
theorem zN {x:Nat} (h:x<4611686018427387904):w64 ((x:Int)+1)=((x+1:Nat):Int):=by rw[qU (by omega)];omega
theorem qAK {α:Type} [Inhabited α] (l:List α) (x:Nat) (h:x<l.length):l.drop x=l.getD x du::l.drop (x+1):=by
 rw[List.drop_eq_getElem_cons h,kd,ku h];rfl
theorem KD {α:Type} [Inhabited α] {l:List α} {x:Nat} (h:x<l.length):l.getD x du∈l:=by
 rw[kd,ku h];exact uE h
theorem MG {a b m n:Int} (h1: -m<=a) (h2:a<=m) (h3: -n<=b) (h4:b<=n) (hm:0<=m) (hn:0<=n): -(m*n)<=a*b/\a*b<=m*n:=by
 constructor
 ·have e1:=kO (show 0<=m-a by omega) (show 0<=n+b by omega);have e2:=kO (show 0<=m+a by omega) (show 0<=n-b by omega);have e3:=kO (show 0<=m+a by omega) (show 0<=n+b by omega);rcases Int.le_total 0 b with hb|hb
  ·have:=kO (show 0<=m+a by omega) hb;have h5:=kO hm (show 0<=n-b by omega);simp only[uC,uD,Int.sub_mul,Int.mul_sub] at*;omega
  ·have:=kO (show 0<=m-a by omega) (show 0<=-b by omega);have h5:=kO hm (show 0<=n+b by omega);simp only[uC,uD,Int.sub_mul,Int.mul_sub,Int.mul_neg] at*;omega
 ·rcases Int.le_total 0 b with hb|hb
  ·have:=kO (show 0<=m-a by omega) hb;have h5:=kO hm (show 0<=n-b by omega);simp only[uC,uD,Int.sub_mul,Int.mul_sub] at*;omega
  ·have:=kO (show 0<=m+a by omega) (show 0<=-b by omega);have h5:=kO hm (show 0<=n+b by omega);simp only[uC,uD,Int.sub_mul,Int.mul_sub,Int.mul_neg] at*;omega
end Go.SL

namespace Go.SL
theorem qOd {α:Type} [Inhabited α] {l t:List α} (h:l.length=t.length) (hj:∀j,j<l.length->l.getD j du=t.getD j du):l=t:=by
 apply List.ext_getElem h;intro i h1 h2;have:=hj i h1
 rwa [kd,kd,ku h1,ku h2] at this
theorem qLc {α:Type} [Inhabited α] {l:List α} {x:Nat} (v:α) (h:x<l.length):(l.set x v).getD x du=v:=by
 rw[kd,uO h];rfl
theorem qK8 {α:Type} [Inhabited α] {l:List α} {x j:Nat} (v:α) (h:x≠j):(l.set x v).getD j du=l.getD j du:=by
 rw[kd,uW h,<-kd]
theorem qNM {n b:Nat} (h:n*b<=140737488355328) (hn:n<=9223372036854775807):mkOk ((n:Nat):Int) b=true:=by
 unfold mkOk;exact ka ⟨Int.natCast_nonneg n,by rw[<-Int.natCast_mul,uR];exact Int.ofNat_le.2 h,Int.ofNat_le.2 hn⟩
end Go.SL

namespace Go.SL
theorem le_imin {a b X:Int}:X<=imin a b↔X<=a/\X<=b:=by unfold imin;split<;>omega
theorem qNZ {a b X:Int}:imax a b<=X↔a<=X/\b<=X:=by unfold imax;split<;>omega
theorem imin_or (a b:Int):(imin a b=a/\a<=b)\/(imin a b=b/\b<=a):=by unfold imin;split<;>omega
theorem GR (a b:Int):(imax a b=a/\b<=a)\/(imax a b=b/\a<=b):=by unfold imax;split<;>omega
def run {α σ ρ:Type} (step:Nat->α->σ->ρ⊕σ):Nat->List α->σ->ρ⊕σ
 |_,[],s=> .inr s
 |x,a::l,s=>match step x a s with
  | .inl r=> .inl r
  | .inr s'=>run step (x+1) l s'
theorem qKY {α σ ρ β:Type} [Inhabited α] (l:List α) (L:Nat->σ->Int->Option β) (idx:Nat->Int) (step:Nat->α->σ->ρ⊕σ) (fin:ρ⊕σ->β) (Inv:Nat->σ->Prop)
  (h0:∀n x s,x<l.length->Inv x s->match step x (l.getD x du) s with| .inl r=>L (n+1) s (idx x)=some (fin (.inl r))| .inr s'=>L (n+1) s (idx x)=L n s' (idx (x+1))/\Inv (x+1) s')
  (h1:∀n s,Inv l.length s->L (n+1) s (idx l.length)=some (fin (.inr s))):
  ∀(n x:Nat) (s:σ),l.length<x+n->x<=l.length->Inv x s->L n s (idx x)=some (fin (run step x (l.drop x) s))
 |0,x,s,hn,hx,_=>by omega
 |n+1,x,s,hn,hx,hi=>by
  by_cases h:x<l.length
  ·have k:=h0 n x s h hi;rw[qAK l x h];unfold run;cases hs:step x (l.getD x du) s with
   |inl r=>rw[hs] at k;exact k
   |inr s'=>
    rw[hs] at k;rw[k.1];exact qKY l L idx step fin Inv h0 h1 n (x+1) s' (by omega) (by omega) k.2
  ·have e:x=l.length:=by omega
   subst e;rw[List.drop_length];exact h1 n s hi
theorem run_inv {α σ ρ:Type} [Inhabited α] (l:List α) (step:Nat->α->σ->ρ⊕σ) (Inv:Nat->σ->Prop) (h:∀x s s',x<l.length->Inv x s->step x (l.getD x du) s= .inr s'->Inv (x+1) s'):
  ∀(x:Nat) (s s':σ),x<=l.length->Inv x s->run step x (l.drop x) s= .inr s'->Inv l.length s':=by
 intro x
 induction hk:l.length-x generalizing x with
 |zero=>
  intro s s' hx hi hr;have e:x=l.length:=by omega
  subst e;rw[List.drop_length] at hr;cases hr;exact hi
 |succ k ih=>
  intro s s' hx hi hr;have h':x<l.length:=by omega
  rw[qAK l x h'] at hr;unfold run at hr;cases hs:step x (l.getD x du) s with
  |inl r=>rw[hs] at hr;cases hr
  |inr t=>
   rw[hs] at hr;exact ih (x+1) (by omega) t s' (by omega) (h x s t h' hi hs) hr
theorem loop0 {α σ ρ β:Type} [Inhabited α] (l:List α) (L:Nat->σ->Int->Option β) (idx:Nat->Int) (step:Nat->α->σ->ρ⊕σ) (fin:ρ⊕σ->β) (Inv:Nat->σ->Prop) (hl:l.length<=1000000)
  (h0:∀n x s,x<l.length->Inv x s->match step x (l.getD x du) s with| .inl r=>L (n+1) s (idx x)=some (fin (.inl r))| .inr s'=>L (n+1) s (idx x)=L n s' (idx (x+1))/\Inv (x+1) s')
  (h1:∀n s,Inv l.length s->L (n+1) s (idx l.length)=some (fin (.inr s))) {i:Int} (hi:i=idx 0) (s:σ) (hs:Inv 0 s):L FUEL s i=some (fin (run step 0 l s)):=by
 have:=qKY l L idx step fin Inv h0 h1 FUEL 0 s (by rw[yU];omega) (ua _) hs;rw[hi];simpa using this
def findE {α ε:Type} (bad:α->Option ε):List α->ε⊕Unit
 |[]=> .inr ()
 |a::l=>match bad a with|some e=> .inl e|none=>findE bad l
theorem qJG {α ε:Type} (bad:α->Option ε):∀(l:List α) (x:Nat),run (λ_ a (_:Unit)=>match bad a with|some e=>(.inl e:ε⊕Unit)|none=> .inr ()) x l ()=findE bad l
 |[],_=>rfl
 |a::l,x=>by
  unfold run findE;cases h:bad a with
  |some e=>rfl
  |none=>exact qJG bad l (x+1)
theorem BL {α ε:Type} [Inhabited α] (l:List α) (L:Nat->Int->Option (ε⊕Unit)) (bad:α->Option ε) (hl:l.length<=1000000)
  (h0:∀n x,x<l.length->L (n+1) ((x:Nat):Int)=match bad (l.getD x du) with|some e=>some (.inl e)|none=>L n ((x+1:Nat):Int))
  (h1:∀n,L (n+1) (l.length:Int)=some (.inr ())):L FUEL 0=some (findE bad l):=by
 have:=loop0 l (λn (_:Unit) x=>L n x) (λx=>(x:Int)) (λ_ a _=>match bad a with|some e=>(.inl e:ε⊕Unit)|none=> .inr ()) (λr=>r) (λ_ _=>True) hl
  (λn x s hx _=>by
   have:=h0 n x hx;cases hb:bad (l.getD x du) with
   |some e=>simp only;rw[this,hb]
   |none=>simp only;rw[this,hb];exact⟨rfl,trivial⟩)
  (λn s _=>h1 n) (i:=0) rfl () trivial
 rw[qJG] at this;exact this
theorem HD {α ε:Type} {bad:α->Option ε}:∀{l:List α},findE bad l= .inr ()↔∀a∈l,bad a=none
 |[]=>by simp[findE]
 |a::l=>by
  unfold findE;cases h:bad a with
  |some e=>simp[h]
  |none=>simp[h,HD (l:=l)]
def DB {α σ:Type} (f:Nat->α->σ->σ):Nat->List α->σ->σ
 |_,[],s=>s
 |x,a::l,s=>DB f (x+1) l (f x a s)
theorem run_fold {α σ ρ:Type} (f:Nat->α->σ->σ):∀(l:List α) (x:Nat) (s:σ),run (λx a s=>(.inr (f x a s):ρ⊕σ)) x l s= .inr (DB f x l s)
 |[],_,_=>rfl
 |a::l,x,s=>by unfold run DB;exact run_fold f l (x+1) (f x a s)
theorem VB {α σ β:Type} [Inhabited α] (l:List α) (L:Nat->σ->Int->Option β) (idx:Nat->Int) (f:Nat->α->σ->σ) (out:σ->β) (Inv:Nat->σ->Prop) (hl:l.length<=1000000)
  (h0:∀n x s,x<l.length->Inv x s->L (n+1) s (idx x)=L n (f x (l.getD x du) s) (idx (x+1))/\Inv (x+1) (f x (l.getD x du) s))
  (h1:∀n s,Inv l.length s->L (n+1) s (idx l.length)=some (out s)) {i:Int} (hi:i=idx 0) (s:σ) (hs:Inv 0 s):L FUEL s i=some (out (DB f 0 l s))/\Inv l.length (DB f 0 l s):=by
 have k:=loop0 l L idx (λx a s=>(.inr (f x a s):Unit⊕σ)) (λr=>match r with| .inl _=>out s| .inr s=>out s) Inv hl (λn x s hx hi=>h0 n x s hx hi) (λn s hi=>h1 n s hi) hi s hs;rw[run_fold] at k;refine⟨k,?_⟩;exact run_inv l (λx a s=>(.inr (f x a s):Unit⊕σ)) Inv (λx s s' hx hi e=>by cases e;exact(h0 0 x s hx hi).2) 0 s _ (ua _) hs (by rw[List.drop_zero];exact run_fold f l 0 s)
end Go.SL

namespace Go.SL
def sumN :Nat->(Nat->Int)->Int
 |0,_=>0
 |n+1,f=>sumN n f+f n
theorem GB {n:Nat} {f g:Nat->Int} (h:∀i,i<n->f i=g i):sumN n f=sumN n g:=by
 induction n with
 |zero=>rfl
 |succ n ih=>rw[sumN,sumN,ih (λi hi=>h i (by omega)),h n (by omega)]
theorem AC {n:Nat} {f:Nat->Int} (h:∀i,i<n->f i=0):sumN n f=0:=by
 induction n with
 |zero=>rfl
 |succ n ih=>rw[sumN,ih (λi hi=>h i (by omega)),h n (by omega)];rfl
theorem qCs (m n:Nat) (f:Nat->Int):sumN (m+n) f=sumN m f+sumN n (λi=>f (m+i)):=by
 induction n with
 |zero=>simp[sumN]
 |succ n ih=>rw[<-uM,sumN,ih,sumN];omega
theorem qCl (n:Nat) (f g:Nat->Int):sumN n (λi=>f i+g i)=sumN n f+sumN n g:=by
 induction n with
 |zero=>rfl
 |succ n ih=>rw[sumN,sumN,sumN,ih];omega
theorem qNT (n:Nat) (c:Int) (f:Nat->Int):sumN n (λi=>c*f i)=c*sumN n f:=by
 induction n with
 |zero=>simp[sumN]
 |succ n ih=>rw[sumN,sumN,ih,uD]
theorem qHO {n:Nat} {f g:Nat->Int} (h:∀i,i<n->f i<=g i):sumN n f<=sumN n g:=by
 induction n with
 |zero=>exact kP _
 |succ n ih=>rw[sumN,sumN];have:=ih (λi hi=>h i (by omega));have:=h n (by omega);omega
theorem qMh (n:Nat) (f:Nat->Int):sumN (n+1) f=f 0+sumN n (λi=>f (i+1)):=by
 have e:=qCs 1 n f;rw[Nat.add_comm 1 n] at e;rw[e];have:sumN n (λi=>f (1+i))=sumN n (λi=>f (i+1)):=GB (λi _=>by rw[Nat.add_comm]);rw[this];simp[sumN]
theorem qMp (n:Nat) (c:Int):sumN n (λ_=>c)=n*c:=by
 induction n with
 |zero=>simp[sumN]
 |succ n ih=>rw[sumN,ih,Int.natCast_add,uC];simp
theorem qAP {α:Type} [Inhabited α] (F:Nat->α->Int):∀(l:List α) (x:Nat) (s:Int),DB (λx a s=>s+F x a) x l s=s+sumN l.length (λi=>F (x+i) (l.getD i du))
 |[],x,s=>by simp[DB,sumN]
 |a::l,x,s=>by
  unfold DB;rw[qAP F l (x+1) (s+F x a),uG,qMh];have:sumN l.length (λi=>F (x+1+i) (l.getD i du))=sumN l.length (λi=>F (x+(i+1)) ((a::l).getD (i+1) du)):=GB (λi _=>by rw[show x+1+i=x+(i+1) by omega];simp);rw[this];simp;omega
end Go.SL

namespace Go.SL
def runN {σ ρ:Type} (step:Nat->σ->ρ⊕σ):Nat->Nat->σ->ρ⊕σ
 |_,0,s=> .inr s
 |x,k+1,s=>match step x s with
  | .inl r=> .inl r
  | .inr s'=>runN step (x+1) k s'
theorem qAc {σ ρ β:Type} (N:Nat) (L:Nat->σ->Int->Option β) (step:Nat->σ->ρ⊕σ) (fin:ρ⊕σ->β) (Inv:Nat->σ->Prop)
  (h0:∀n x s,x<N->Inv x s->match step x s with| .inl r=>L (n+1) s (x:Int)=some (fin (.inl r))| .inr s'=>L (n+1) s (x:Int)=L n s' ((x+1:Nat):Int)/\Inv (x+1) s')
  (h1:∀n s,Inv N s->L (n+1) s (N:Int)=some (fin (.inr s))):
  ∀(n x:Nat) (s:σ),N<x+n->x<=N->Inv x s->L n s (x:Int)=some (fin (runN step x (N-x) s))
 |0,x,s,hn,hx,_=>by omega
 |n+1,x,s,hn,hx,hi=>by
  by_cases h:x<N
  ·have k:=h0 n x s h hi;obtain⟨m,hm⟩:∃m,N-x=m+1:=⟨N-x-1,by omega⟩
   rw[hm];unfold runN;cases hs:step x s with
   |inl r=>rw[hs] at k;exact k
   |inr s'=>
    rw[hs] at k;rw[k.1,qAc N L step fin Inv h0 h1 n (x+1) s' (by omega) (by omega) k.2,show N-(x+1)=m by omega]
  ·have e:x=N:=by omega
   subst e;rw[Nat.sub_self];exact h1 n s hi
theorem runN_inv {σ ρ:Type} (step:Nat->σ->ρ⊕σ) (Inv:Nat->σ->Prop) (N:Nat) (h:∀x s s',x<N->Inv x s->step x s= .inr s'->Inv (x+1) s'):
  ∀(k x:Nat) (s s':σ),x+k=N->Inv x s->runN step x k s= .inr s'->Inv N s'
 |0,x,s,s',hx,hi,hr=>by cases hr;exact hx▸hi
 |k+1,x,s,s',hx,hi,hr=>by
  unfold runN at hr;cases hs:step x s with
  |inl r=>rw[hs] at hr;cases hr
  |inr t=>rw[hs] at hr;exact runN_inv step Inv N h k (x+1) t s' (by omega) (h x s t (by omega) hi hs) hr
def findN {ε:Type} (bad:Nat->Option ε):Nat->Nat->ε⊕Unit
 |_,0=> .inr ()
 |x,k+1=>match bad x with
  |some e=> .inl e
  |none=>findN bad (x+1) k
theorem VN {ε:Type} {bad:Nat->Option ε}:∀{k x:Nat},findN bad x k= .inr ()↔∀i,x<=i->i<x+k->bad i=none
 |0,x=>by simp[findN];intro i h1 h2;omega
 |k+1,x=>by
  unfold findN;cases hb:bad x with
  |some e=>simp only[reduceCtorEq,false_iff];intro h;rw[h x (kf _) (by omega)] at hb;cases hb
  |none=>
   simp only[VN (k:=k)];constructor
   ·intro h i h1 h2;by_cases e:i=x
    ·subst e;exact hb
    ·exact h i (by omega) (by omega)
   ·intro h i h1 h2;exact h i (by omega) (by omega)
theorem XW {ε:Type} {bad:Nat->Option ε} {e:ε}:∀{k x:Nat},findN bad x k= .inl e->∃i,x<=i/\i<x+k/\bad i=some e/\∀j,x<=j->j<i->bad j=none
 |0,x,h=>by cases h
 |k+1,x,h=>by
  unfold findN at h;cases hb:bad x with
  |some e'=>rw[hb] at h;cases h;exact⟨x,kf _,by omega,hb,λj h1 h2=>by omega⟩
  |none=>
   rw[hb] at h;obtain⟨i,h1,h2,h3,h4⟩:=XW (k:=k) h;refine⟨i,by omega,by omega,h3,λj a b=>?_⟩;by_cases e':j=x
   ·subst e';exact hb
   ·exact h4 j (by omega) b
theorem qIx {ε:Type} (bad:Nat->Option ε):∀(k x:Nat),runN (λx (_:Unit)=>match bad x with|some e=>(.inl e:ε⊕Unit)|none=> .inr ()) x k ()=findN bad x k
 |0,_=>rfl
 |k+1,x=>by
  unfold runN findN;cases bad x with
  |some e=>rfl
  |none=>exact qIx bad k (x+1)
theorem ND {ε:Type} (N:Nat) (L:Nat->Int->Option (ε⊕Unit)) (bad:Nat->Option ε) (x:Nat) (hx:x<=N) (hN:N<=1000000000)
  (h0:∀n i,x<=i->i<N->L (n+1) (i:Int)=match bad i with|some e=>some (.inl e)|none=>L n ((i+1:Nat):Int))
  (h1:∀n,L (n+1) (N:Int)=some (.inr ())):L FUEL (x:Int)=some (findN bad x (N-x)):=by
 have k:=qAc N (λn (_:Unit) i=>L n i) (λi _=>match bad i with|some e=>(.inl e:ε⊕Unit)|none=> .inr ()) (λr=>r) (λi _=>x<=i)
  (λn i s hi hxi=>by
   have h:=h0 n i hxi hi;cases hb:bad i with
   |some e=>simp only;rw[h,hb]
   |none=>simp only;rw[h,hb];exact⟨rfl,by omega⟩)
  (λn s _=>h1 n) FUEL x () (by rw[yU];omega) hx (kf _)
 rw[qIx] at k;exact k
def JD {σ:Type} (f:Nat->σ->σ):Nat->Nat->σ->σ
 |_,0,s=>s
 |x,k+1,s=>JD f (x+1) k (f x s)
theorem runN_fold {σ ρ:Type} (f:Nat->σ->σ):∀(k x:Nat) (s:σ),runN (λx s=>(.inr (f x s):ρ⊕σ)) x k s= .inr (JD f x k s)
 |0,_,_=>rfl
 |k+1,x,s=>by unfold runN JD;exact runN_fold f k (x+1) (f x s)
theorem RU {σ β:Type} (N:Nat) (L:Nat->σ->Int->Option β) (f:Nat->σ->σ) (out:σ->β) (Inv:Nat->σ->Prop) (x:Nat) (hx:x<=N) (hN:N<=1000000000)
  (h0:∀n i s,i<N->Inv i s->L (n+1) s (i:Int)=L n (f i s) ((i+1:Nat):Int)/\Inv (i+1) (f i s))
  (h1:∀n s,Inv N s->L (n+1) s (N:Int)=some (out s)) (s:σ) (hs:Inv x s):L FUEL s (x:Int)=some (out (JD f x (N-x) s))/\Inv N (JD f x (N-x) s):=by
 have k:=qAc N L (λi s=>(.inr (f i s):Unit⊕σ)) (λr=>match r with| .inl _=>out s| .inr s=>out s) Inv (λn i s hi hs=>h0 n i s hi hs) (λn s hs=>h1 n s hs) FUEL x s (by rw[yU];omega) hx hs;rw[runN_fold] at k;refine⟨k,?_⟩;exact runN_inv (λi s=>(.inr (f i s):Unit⊕σ)) Inv N (λi s s' hi hs e=>by cases e;exact(h0 0 i s hi hs).2) (N-x) x s _ (by omega) hs (runN_fold f (N-x) x s)
theorem qCg {σ:Type} (f:Nat->σ->σ):∀(k x:Nat) (s:σ),JD f x (k+1) s=f (x+k) (JD f x k s)
 |0,x,s=>rfl
 |k+1,x,s=>by
  rw[JD,qCg f k (x+1) (f x s),JD,show x+1+k=x+(k+1) by omega]
end Go.SL

namespace Go.SL.Saw
def ripB (k:Int):Bool:=k==2||k==3
theorem qFd (k:Int):yQ k=some (ripB k):=by
 unfold yQ VZ ripB;cases h:k==2<;>simp
def alP (r:Rect) (k:Int):Span:=bif k==2 then r.X else r.Y
def wiP (r:Rect) (k:Int) (s:Span):Rect:=bif k==2 then⟨s,r.Y⟩ else⟨r.X,s⟩
def enP (r:Rect) (n:Node) (kerf:Int):Int:=imin (w64 (n.At+kerf)) (alP r n.Kind).B
def fiP (r:Rect) (n:Node):Rect:=wiP r n.Kind ⟨(alP r n.Kind).A,n.At⟩
def cuP (r:Rect) (n:Node) (kerf:Int):Rect:=wiP r n.Kind ⟨n.At,enP r n kerf⟩
def seP (r:Rect) (n:Node) (kerf:Int):Rect:=wiP r n.Kind ⟨enP r n kerf,(alP r n.Kind).B⟩
theorem qKJ (r:Rect) (k:Int):PZ r k=some (alP r k):=by
 unfold PZ alP;cases k==2<;>rfl
theorem with_eq (r:Rect) (k:Int) (s:Span):PD r k s=some (wiP r k s):=by
 unfold PD DC wiP;cases k==2<;>rfl
theorem qJO (r:Rect) (n:Node) (kerf:Int):QK r n kerf=some (fiP r n,cuP r n kerf,seP r n kerf):=by
 unfold QK;simp only[qKJ,with_eq,kg];rfl
def pushP (kerf:Int) (n:Node) (x:qB) (st:List qB):List qB:=
 bif ripB n.Kind then⟨fiP x.rect n,x.level+1⟩::⟨seP x.rect n kerf,x.level+1⟩::st else st
def runP {σ:Type} (f:Int->qB->σ->Option (Nat×σ)) (kerf:Int):List Node->Int->List qB->σ->Option (Nat×σ)
 |_,_,[],s=>some (0,s)
 |[],i,x::_,s=>f i x s
 |n::ns,i,x::st,s=>(f i x s).bind λr=>bif Nat.beq r.1 0 then runP f kerf ns (i+1) (pushP kerf n x st) r.2 else some r
def DL {σ:Type} (f:Int->qB->σ->Option (Nat×σ)) (nodes:List Node) (kerf:Int):Nat->List qB->Int->σ->Option ((Nat×σ)⊕σ)
 |0,_,_,_=>none
 |n+1,l,i,s=>
  bif decide ((l.length:Int)>0) then
   bif inb (w64 ((l.length:Int)-1)) l.length then
    bif slOk 0 (w64 ((l.length:Int)-1)) l.length then
     (f i (l.getD ((w64 ((l.length:Int)-1)).toNat) du) s).bind λv=>
     bif !(Nat.beq v.1 0) then
      some (Sum.inl v)
     else
      bif decide (i≥(nodes.length:Int)) then
       some (Sum.inl (0,v.2))
      else
       bif inb i nodes.length then
        (yQ ((nodes.getD i.toNat du).Kind)).bind λv1=>
        bif v1 then
         (QK ((l.getD ((w64 ((l.length:Int)-1)).toNat) du).rect) (nodes.getD i.toNat du) kerf).bind λv2=>
         bif room ((w64 ((l.length:Int)-1)).toNat+2) 40 then
          DL f nodes kerf n ((l.take ((w64 ((l.length:Int)-1)).toNat))++([(qB.mk v2.2.2 (w64 (((l.getD ((w64 ((l.length:Int)-1)).toNat) du).level)+1))),(qB.mk v2.1 (w64 (((l.getD ((w64 ((l.length:Int)-1)).toNat) du).level)+1)))]:List qB)) (w64 (i+1)) v.2
         else none
        else
         DL f nodes kerf n (l.take ((w64 ((l.length:Int)-1)).toNat)) (w64 (i+1)) v.2
       else none
    else none
   else none
  else
   some (Sum.inr s)
def outP {σ:Type} (u:(Nat×σ)⊕σ):Option (Nat×σ):=Sum.elim (λv=>some v) (λs=>some (0,s)) u
theorem qOi {α:Type} [Inhabited α] (x:α) (st:List α):(x::st).reverse.getD st.length du=x:=by
 simp[kd,ky]
theorem qNU {α:Type} (x:α) (st:List α):(x::st).reverse.take st.length=st.reverse:=by
 rw[List.reverse_cons,List.take_append_of_le_length (by simp),List.take_of_length_le (by simp)]
theorem qKh {σ:Type} (f:Int->qB->σ->Option (Nat×σ)) (nodes:List Node) (kerf:Int) (hn:nodes.length<=1000):
  ∀(fuel:Nat) (ns:List Node) (i:Nat) (st:List qB) (s:σ),nodes.drop i=ns->i<=nodes.length->st.length<=i+1->(∀x∈st,0<=x.level/\x.level<=(i:Int)+1)->ns.length<fuel->
   (DL f nodes kerf fuel st.reverse (i:Int) s).bind outP=runP f kerf ns (i:Int) st s
 |0,_,_,_,_,_,_,_,_,hf=>by omega
 |fuel+1,ns,i,st,s,hd,hi,hl,hlv,hf=>by
  cases st with
  |nil=>
   have e:DL f nodes kerf (fuel+1) [] (i:Int) s=some (Sum.inr s):=rfl;rw[List.reverse_nil,e];cases ns<;>rfl
  |cons x st=>
   have hlen:(x::st).reverse.length=st.length+1:=by simp
   have hst:st.length<=1000:=by simp at hl;omega
   have ew:w64 (((st.length+1:Nat):Int)-1)=(st.length:Int):=by rw[qU (by omega)];omega
   have hx:=hlv x kI;have el:w64 (x.level+1)=x.level+1:=qU (by omega);have ei:w64 ((i:Int)+1)=((i+1:Nat):Int):=by rw[qU (by omega)];omega
   have c0:decide (((st.length+1:Nat):Int)>0)=true:=by simp
   have c1:inb (st.length:Int) (st.length+1)=true:=by unfold inb;simp;omega
   have c2:slOk 0 (st.length:Int) (st.length+1)=true:=by unfold slOk;simp;omega
   have c3:room (st.length+2) 40=true:=by unfold room;simp;omega
   unfold DL;rw[hlen,ew];simp only[c0,c1,c2,c3,kn,ks,qOi,qNU,el,ei];cases ns with
   |nil=>
    have hil:nodes.length<=i:=by
     have:=congrArg List.length hd;simp at this;omega
    have c4:decide ((i:Int)≥(nodes.length:Int))=true:=by simp;omega
    simp only[c4,kn];show _=f (i:Int) x s;cases f (i:Int) x s with
    |none=>rfl
    |some v=>
     obtain⟨c,t⟩:=v;cases hb:Nat.beq c 0 with
     |false=>simp only[kg,hb,Bool.not_false,kn];rfl
     |true=>
      simp only[kg,hb,kV,kp];rw[ki hb];rfl
   |cons n ns=>
    have hil:i<nodes.length:=by
     rcases Nat.lt_or_ge i nodes.length with h|h
     ·exact h
     ·rw[uo h] at hd;cases hd
    have hg:nodes.getD i du=n:=by
     have h0:=congrArg (λl=>l.getD 0 du) hd;simpa[kd] using h0
    have hd2:nodes.drop (i+1)=ns:=by
     have h0:=congrArg List.tail hd;simpa using h0
    have c4:decide ((i:Int)≥(nodes.length:Int))=false:=by simp;omega
    have c5:inb (i:Int) nodes.length=true:=by unfold inb;simp;omega
    simp only[c4,c5,kn,kp,hg,qFd,qJO,kg];show _=(f (i:Int) x s).bind _;cases f (i:Int) x s with
    |none=>rfl
    |some v=>
     simp only[kg];cases hb:Nat.beq v.1 0 with
     |false=>simp only[Bool.not_false,kn,kp];rfl
     |true=>
      simp only[kV,kp,kn];simp at hf hl;have ih:=λst' h1 h2=>qKh f nodes kerf hn fuel ns (i+1) st' v.2 hd2 hil h1 h2 (by omega);have eii:((i:Int)+1)=((i+1:Nat):Int):=by omega
      rw[eii];unfold pushP;cases hr:ripB n.Kind with
      |false=>
       simp only[kp];exact ih st (by omega) λy hy=>by have:=hlv y (kH _ hy);omega
      |true=>
       simp only[kn];have e:st.reverse++[(⟨seP x.rect n kerf,x.level+1⟩:qB),⟨fiP x.rect n,x.level+1⟩]=(⟨fiP x.rect n,x.level+1⟩::⟨seP x.rect n kerf,x.level+1⟩::st:List qB).reverse:=by simp
       rw[e];refine ih _ (by simp;omega) λy hy=>?_;rcases ud.1 hy with rfl|hy
       ·simp only;omega
       ·rcases ud.1 hy with rfl|hy
        ·simp only;omega
        ·have:=hlv y (kH _ hy);omega
theorem qOq :1001<FUEL:=by unfold FUEL;omega
theorem qAk {σ:Type} (f:Int->qB->σ->Option (Nat×σ)) (p:Pattern) (kerf:Int) (hn:p.Nodes.length<=1000) (s:σ):
  (DL f p.Nodes kerf FUEL [⟨p.Frame,1⟩] 0 s).bind outP=runP f kerf p.Nodes 0 [⟨p.Frame,1⟩] s:=
 qKh f p.Nodes kerf hn FUEL p.Nodes 0 [⟨p.Frame,1⟩] s rfl (ua _) (by simp) (λx hx=>by simp at hx;subst hx;simp) (by have:=qOq;omega)
theorem CZ {α β:Type} (c:Bool) (A B:Option α) (k:α->Option β):(bif c then A else B).bind k=bif c then A.bind k else B.bind k:=by cases c<;>rfl
theorem qMv (a1:Pattern) (a2:List Product) (a3 a4:Int) (a5:Pattern) (a6:Int) (hn:a5.Nodes.length<=1000):
  PA a1 a2 a3 a4 a5 a6=runP (λi x (s:Int×Int)=>yY i x a1 a2 s.1 s.2) a6 a5.Nodes 0 [⟨a5.Frame,1⟩] (a3,a4):=by
 have key:∀(n:Nat) (l:List qB) (i x y:Int),(yX a1 a2 a5 a6 n l i x y).bind (λu=>Sum.elim (λv=>some v) (λo=>some (0,o.2,o.1)) u)=(DL (λi x (s:Int×Int)=>yY i x a1 a2 s.1 s.2) a5.Nodes a6 n l i (x,y)).bind outP:=by
  intro n
  induction n with
  |zero=>intro l i x y;rfl
  |succ n ih=>
   intro l i x y;unfold yX DL PK;simp only[CZ,Option.bind_assoc,Option.bind_none,kg,ih,outP,Sum.elim_inl,Sum.elim_inr]
 unfold PA;rw[<-qAk _ a5 a6 hn (a3,a4),<-key]
theorem qMo (a1:Pattern) (a2 a3:Int) (a4:Pattern) (a5:Int) (hn:a4.Nodes.length<=1000):
  JN a1 a2 a3 a4 a5=runP (λi x (s:Int×Int)=>jH i x a1 s.1 s.2) a5 a4.Nodes 0 [⟨a4.Frame,1⟩] (a2,a3):=by
 have key:∀(n:Nat) (l:List qB) (i x y:Int),(jG a1 a4 a5 n l i x y).bind (λu=>Sum.elim (λv=>some v) (λo=>some (0,o.2,o.1)) u)=(DL (λi x (s:Int×Int)=>jH i x a1 s.1 s.2) a4.Nodes a5 n l i (x,y)).bind outP:=by
  intro n
  induction n with
  |zero=>intro l i x y;rfl
  |succ n ih=>
   intro l i x y;unfold jG DL YE;simp only[CZ,Option.bind_assoc,Option.bind_none,kg,ih,outP,Sum.elim_inl,Sum.elim_inr]
 unfold JN;rw[<-qAk _ a4 a5 hn (a2,a3),<-key]
theorem qMw (a1 a2:Pattern) (a3:Int) (a4:List Leaf) (hn:a2.Nodes.length<=1000):
  JK a1 a2 a3 a4=runP (λi x (s:List Leaf)=>yJ i x a1 s) a3 a2.Nodes 0 [⟨a2.Frame,1⟩] a4:=by
 have key:∀(n:Nat) (l:List qB) (i:Int) (x:List Leaf),(jI a1 a2 a3 n l i x).bind (λu=>Sum.elim (λv=>some v) (λo=>some (0,o)) u)=(DL (λi x (s:List Leaf)=>yJ i x a1 s) a2.Nodes a3 n l i x).bind outP:=by
  intro n
  induction n with
  |zero=>intro l i x;rfl
  |succ n ih=>
   intro l i x;unfold jI DL YH;simp only[CZ,Option.bind_assoc,Option.bind_none,kg,ih,outP,Sum.elim_inl,Sum.elim_inr]
 unfold JK;rw[<-qAk _ a2 a3 hn a4,<-key]
theorem qMF (a1:Pattern) (a2:Int) (a3:Pattern) (a4:Int) (a5:List Rect) (hn:a3.Nodes.length<=1000):
  JM a1 a2 a3 a4 a5=runP (λi x (s:List Rect)=>QG i x a1 a2 s) a4 a3.Nodes 0 [⟨a3.Frame,1⟩] a5:=by
 have key:∀(n:Nat) (l:List qB) (i:Int) (x:List Rect),(jF a1 a2 a3 a4 n l i x).bind (λu=>Sum.elim (λv=>some v) (λo=>some (0,o)) u)=(DL (λi x (s:List Rect)=>QG i x a1 a2 s) a3.Nodes a4 n l i x).bind outP:=by
  intro n
  induction n with
  |zero=>intro l i x;rfl
  |succ n ih=>
   intro l i x;unfold jF DL YI;simp only[CZ,Option.bind_assoc,Option.bind_none,kg,ih,outP,Sum.elim_inl,Sum.elim_inr]
 unfold JM;rw[<-qAk _ a3 a4 hn a5,<-key]
end Go.SL.Saw

namespace Go.SL.Saw
def chkN (bd:Rect->Int->Int) (n:Node) (x:qB):Int:=
 if n.Kind<0\/3<n.Kind\/(n.Kind=0/\n.At≠0) then 10
 else if 64<x.level then 28
 else if ripB n.Kind=true/\(n.At<=(alP x.rect n.Kind).A\/(alP x.rect n.Kind).B<=n.At) then 20
 else if n.Kind=1 then bd x.rect n.At else 0
def chkP (bd:Rect->Int->Int) (kerf:Int):List Node->List qB->Int
 |[],[]=>0
 |_::_,[]=>4
 |[],_::_=>3
 |n::ns,x::st=>if chkN bd n x≠0 then chkN bd n x else chkP bd kerf ns (pushP kerf n x st)
inductive T where
 |leaf (n:Node):T
 |rip (n:Node) (a b:T):T
def wO :T->List Node
 | .leaf n=>[n]
 | .rip n a b=>n::(wO a++wO b)
def qDs :T->Prop
 | .leaf n=>ripB n.Kind=false
 | .rip n a b=>ripB n.Kind=true/\qDs a/\qDs b
def okT (bd:Rect->Int->Int) (kerf:Int):T->qB->Prop
 | .leaf n,x=>ripB n.Kind=false/\chkN bd n x=0
 | .rip n a b,x=>ripB n.Kind=true/\chkN bd n x=0/\okT bd kerf a ⟨fiP x.rect n,x.level+1⟩/\okT bd kerf b ⟨seP x.rect n kerf,x.level+1⟩
theorem qAq {bd:Rect->Int->Int} {kerf:Int}:∀{t:T} {x:qB},okT bd kerf t x->qDs t
 | .leaf _,_,h=>h.1
 | .rip _ _ _,_,h=>⟨h.1,qAq h.2.2.1,qAq h.2.2.2⟩
def allP {α:Type} (g:Node->qB->List α) (kerf:Int):List Node->List qB->List α
 |n::ns,x::st=>g n x++allP g kerf ns (pushP kerf n x st)
 |_,_=>[]
def allT {α:Type} (g:Node->qB->List α) (kerf:Int):T->qB->List α
 | .leaf n,x=>g n x
 | .rip n a b,x=>g n x++(allT g kerf a ⟨fiP x.rect n,x.level+1⟩++allT g kerf b ⟨seP x.rect n kerf,x.level+1⟩)
def okTs (bd:Rect->Int->Int) (kerf:Int):List T->List qB->Prop
 |[],[]=>True
 |t::ts,x::st=>okT bd kerf t x/\okTs bd kerf ts st
 |_,_=>False
def qD9 :List T->List Node
 |[]=>[]
 |t::ts=>wO t++qD9 ts
theorem qIT {bd:Rect->Int->Int} {kerf:Int}:∀(ns:List Node) (st:List qB),chkP bd kerf ns st=0->∃ts,ns=qD9 ts/\okTs bd kerf ts st
 |[],[],_=>⟨[],rfl,trivial⟩
 |_::_,[],h=>by simp[chkP] at h
 |[],_::_,h=>by simp[chkP] at h
 |n::ns,x::st,h=>by
  unfold chkP at h;by_cases c:chkN bd n x=0
  ·rw[if_neg (by simpa using c)] at h;obtain⟨ts,e1,e2⟩:=qIT ns _ h;unfold pushP at e2;cases hr:ripB n.Kind with
   |false=>
    rw[hr,kp] at e2;exact⟨.leaf n::ts,by rw[e1];rfl,⟨hr,c⟩,e2⟩
   |true=>
    rw[hr,kn] at e2
    match ts,e1,e2 with
    |a::b::ts,e1,e2=>
     refine⟨.rip n a b::ts,?_,⟨hr,c,e2.1,e2.2.1⟩,e2.2.2⟩;rw[e1];simp[qD9,wO]
    |[a],_,e2=>exact e2.2.elim
    |[],_,e2=>exact e2.elim
  ·rw[if_pos c] at h;exact(c h).elim
theorem qKZ {bd:Rect->Int->Int} {kerf:Int} {ns:List Node} {x:qB} (h:chkP bd kerf ns [x]=0):∃t,ns=wO t/\okT bd kerf t x:=by
 obtain⟨ts,e1,e2⟩:=qIT ns [x] h
 match ts,e1,e2 with
 |[t],e1,e2=>exact⟨t,by rw[e1];simp[qD9],e2.1⟩
 |_::_::_,_,e2=>exact e2.2.elim
 |[],_,e2=>exact e2.elim
theorem qFN {bd:Rect->Int->Int} {kerf:Int}:∀(t:T) (x:qB) (ns:List Node) (st:List qB),okT bd kerf t x->chkP bd kerf (wO t++ns) (x::st)=chkP bd kerf ns st
 | .leaf n,x,ns,st,h=>by
  show(if chkN bd n x≠0 then _ else _)=_;rw[if_neg (by simp[h.2])];unfold pushP;rw[h.1,kp];rfl
 | .rip n a b,x,ns,st,h=>by
  show(if chkN bd n x≠0 then _ else chkP bd kerf ((wO a++wO b)++ns) (pushP kerf n x st))=_;rw[if_neg (by simp[h.2.1])];unfold pushP;rw[h.1,kn,kJ];rw[qFN a _ _ _ h.2.2.1,qFN b _ _ _ h.2.2.2]
theorem chkP_of {bd:Rect->Int->Int} {kerf:Int} {t:T} {x:qB} (h:okT bd kerf t x):chkP bd kerf (wO t) [x]=0:=by
 have:=qFN t x [] [] h;rw[kU] at this;exact this
theorem qFE {α:Type} (g:Node->qB->List α) (kerf:Int):∀(t:T) (x:qB) (ns:List Node) (st:List qB),qDs t->allP g kerf (wO t++ns) (x::st)=allT g kerf t x++allP g kerf ns st
 | .leaf n,x,ns,st,h=>by
  show g n x++allP g kerf ([]++ns) (pushP kerf n x st)=_;unfold pushP;rw[show ripB n.Kind=false from h,kp];rfl
 | .rip n a b,x,ns,st,h=>by
  show g n x++allP g kerf ((wO a++wO b)++ns) (pushP kerf n x st)=_;unfold pushP;rw[h.1,kn,kJ,qFE g kerf a _ _ _ h.2.1,qFE g kerf b _ _ _ h.2.2];simp[allT]
theorem qKq {α:Type} (g:Node->qB->List α) (kerf:Int) {t:T} (x:qB) (h:qDs t):allP g kerf (wO t) [x]=allT g kerf t x:=by
 have:=qFE g kerf t x [] [] h;rw[kU] at this;rw[this];simp[allP]
def HH (n:Node) (x:qB):List Leaf:=if n.Kind=0 then[⟨x.rect,-1⟩] else if n.Kind=1 then[⟨x.rect,n.At⟩] else[]
def cutG (kerf:Int) (n:Node) (x:qB):List Rect:=if ripB n.Kind=true then[cuP x.rect n kerf] else[]
theorem qIu {bd bd':Rect->Int->Int} {n:Node} {x:qB} (h:chkN bd n x=0) (hb:∀r,n.Kind=1->bd r n.At=0->bd' r n.At=0):chkN bd' n x=0:=by
 unfold chkN at h⊢;split at h
 ·cases h
 ·rename_i c1;rw[if_neg c1];split at h
  ·cases h
  ·rename_i c2;rw[if_neg c2];split at h
   ·cases h
   ·rename_i c3;rw[if_neg c3];split at h
    ·rename_i c4;rw[if_pos c4];exact hb _ c4 h
    ·rename_i c4;rw[if_neg c4]
theorem qFy {bd bd':Rect->Int->Int} {kerf:Int} (hb:∀r at_,bd r at_=0->bd' r at_=0):∀{t:T} {x:qB},okT bd kerf t x->okT bd' kerf t x
 | .leaf _,_,h=>⟨h.1,qIu h.2 λr _=>hb r _⟩
 | .rip _ _ _,_,h=>⟨h.1,qIu h.2.1 λr _=>hb r _,qFy hb h.2.2.1,qFy hb h.2.2.2⟩
theorem qMx :∀(t:T),1<=(wO t).length
 | .leaf _=>kf _
 | .rip _ a b=>by simp[wO]
end Go.SL.Saw

namespace Go.SL.Saw
def WS (s:Span):Prop:= -600<=s.A/\s.A<=s.B/\s.B<=600
def WR (r:Rect):Prop:=WS r.X/\WS r.Y
def subS (a b:Span):Prop:=b.A<=a.A/\a.B<=b.B
def subR (a b:Rect):Prop:=subS a.X b.X/\subS a.Y b.Y
theorem qIL (a:Rect):subR a a:=⟨⟨kP _,kP _⟩,kP _,kP _⟩
theorem qGK {a b c:Span} (h:subS a b) (k:subS b c):subS a c:=⟨uH k.1 h.1,uH h.2 k.2⟩
theorem IW {a b c:Rect} (h:subR a b) (k:subR b c):subR a c:=⟨qGK h.1 k.1,qGK h.2 k.2⟩
def qC9 (a b:Rect):Prop:=a.X.B<=b.X.A\/b.X.B<=a.X.A\/a.Y.B<=b.Y.A\/b.Y.B<=a.Y.A
theorem qM4 {a b c d:Rect} (h:qC9 c d) (h1:subR a c) (h2:subR b d):qC9 a b:=by
 obtain⟨⟨a1,a2⟩,a3,a4⟩:=h1;obtain⟨⟨b1,b2⟩,b3,b4⟩:=h2;unfold qC9 at*;omega
theorem ripB_iff {k:Int}:ripB k=true↔k=2\/k=3:=by unfold ripB;simp
theorem qBP {bd:Rect->Int->Int} {n:Node} {x:qB} (hr:ripB n.Kind=true) (h:chkN bd n x=0):(alP x.rect n.Kind).A<n.At/\n.At<(alP x.rect n.Kind).B:=by
 unfold chkN at h;split at h
 ·cases h
 ·split at h
  ·cases h
  ·split at h
   ·cases h
   ·rename_i c;simp[hr] at c;omega
theorem chkN_kind {bd:Rect->Int->Int} {n:Node} {x:qB} (hr:ripB n.Kind=false) (h:chkN bd n x=0):(n.Kind=0/\n.At=0)\/(n.Kind=1/\bd x.rect n.At=0):=by
 have:¬(n.Kind=2\/n.Kind=3):=by rw[<-ripB_iff,hr];simp
 unfold chkN at h;split at h
 ·cases h
 ·rename_i c;split at h
  ·cases h
  ·split at h
   ·cases h
   ·split at h
    ·rename_i c4;exact .inr ⟨c4,h⟩
    ·left;omega
structure Cut3 (r f c s:Rect):Prop where
 wf:WR f
 wc:WR c
 ws:WR s
 sf:subR f r
 sc:subR c r
 ss:subR s r
 fs:qC9 f s
structure AddR (μ:Rect->Int):Prop where
 x:∀{A m B:Int} (y:Span),A<=m->m<=B->μ ⟨⟨A,m⟩,y⟩+μ ⟨⟨m,B⟩,y⟩=μ ⟨⟨A,B⟩,y⟩
 y:∀{A m B:Int} (x:Span),A<=m->m<=B->μ ⟨x,⟨A,m⟩⟩+μ ⟨x,⟨m,B⟩⟩=μ ⟨x,⟨A,B⟩⟩
theorem cut3 {r:Rect} {n:Node} {kerf:Int} (hr:ripB n.Kind=true) (hw:WR r) (hi:(alP r n.Kind).A<n.At/\n.At<(alP r n.Kind).B) (hk:0<=kerf/\kerf<=20):
  Cut3 r (fiP r n) (cuP r n kerf) (seP r n kerf)/\∀μ,AddR μ->μ (fiP r n)+μ (cuP r n kerf)+μ (seP r n kerf)=μ r:=by
 obtain⟨⟨x1,x2,x3⟩,y1,y2,y3⟩:=hw;rcases ripB_iff.1 hr with e|e
 ·have ea:alP r n.Kind=r.X:=by unfold alP;rw[e];rfl
  have ew:∀s,wiP r n.Kind s=⟨s,r.Y⟩:=λs=>by unfold wiP;rw[e];rfl
  rw[ea] at hi;have ee:enP r n kerf=imin (n.At+kerf) r.X.B:=by unfold enP;rw[ea,qU (by omega)]
  unfold fiP cuP seP;simp only[ew,ea,ee];have hm:n.At<=imin (n.At+kerf) r.X.B/\imin (n.At+kerf) r.X.B<=r.X.B:=by
   rcases imin_or (n.At+kerf) r.X.B with h|h<;>omega
  refine⟨⟨⟨⟨?_,?_,?_⟩,y1,y2,y3⟩,⟨⟨?_,?_,?_⟩,y1,y2,y3⟩,⟨⟨?_,?_,?_⟩,y1,y2,y3⟩,⟨⟨?_,?_⟩,kP _,kP _⟩,⟨⟨?_,?_⟩,kP _,kP _⟩,⟨⟨?_,?_⟩,kP _,kP _⟩,.inl ?_⟩,λμ h=>?_⟩<;>(try (simp only;omega))
  rw[h.x r.Y (by omega) hm.1,h.x r.Y (by omega) hm.2]
 ·have ea:alP r n.Kind=r.Y:=by unfold alP;rw[e];rfl
  have ew:∀s,wiP r n.Kind s=⟨r.X,s⟩:=λs=>by unfold wiP;rw[e];rfl
  rw[ea] at hi;have ee:enP r n kerf=imin (n.At+kerf) r.Y.B:=by unfold enP;rw[ea,qU (by omega)]
  unfold fiP cuP seP;simp only[ew,ea,ee];have hm:n.At<=imin (n.At+kerf) r.Y.B/\imin (n.At+kerf) r.Y.B<=r.Y.B:=by
   rcases imin_or (n.At+kerf) r.Y.B with h|h<;>omega
  refine⟨⟨⟨⟨x1,x2,x3⟩,?_,?_,?_⟩,⟨⟨x1,x2,x3⟩,?_,?_,?_⟩,⟨⟨x1,x2,x3⟩,?_,?_,?_⟩,⟨⟨kP _,kP _⟩,?_,?_⟩,⟨⟨kP _,kP _⟩,?_,?_⟩,⟨⟨kP _,kP _⟩,?_,?_⟩,.inr (.inr (.inl ?_))⟩,λμ h=>?_⟩<;>(try (simp only;omega))
  rw[h.y r.X (by omega) hm.1,h.y r.X (by omega) hm.2]
def lvT (kerf:Int) (t:T) (x:qB):List Leaf:=allT HH kerf t x
def ctT (kerf:Int) (t:T) (x:qB):List Rect:=allT (cutG kerf) kerf t x
theorem lv_leaf {bd:Rect->Int->Int} {kerf:Int} {n:Node} {x:qB} (h:okT bd kerf (.leaf n) x):(lvT kerf (.leaf n) x=[⟨x.rect,-1⟩]\/(lvT kerf (.leaf n) x=[⟨x.rect,n.At⟩]/\bd x.rect n.At=0))/\ctT kerf (.leaf n) x=[]:=by
 refine⟨?_,?_⟩
 ·rcases chkN_kind h.1 h.2 with⟨e,_⟩|⟨e,eb⟩
  ·left;simp[lvT,allT,HH,e]
  ·right;exact⟨by simp[lvT,allT,HH,e],eb⟩
 ·simp[ctT,allT,cutG,h.1]
theorem qDN {kerf:Int} {n:Node} {a b:T} {x:qB} (hr:ripB n.Kind=true):lvT kerf (.rip n a b) x=lvT kerf a ⟨fiP x.rect n,x.level+1⟩++lvT kerf b ⟨seP x.rect n kerf,x.level+1⟩/\ctT kerf (.rip n a b) x=cuP x.rect n kerf::(ctT kerf a ⟨fiP x.rect n,x.level+1⟩++ctT kerf b ⟨seP x.rect n kerf,x.level+1⟩):=by
 refine⟨?_,?_⟩
 ·have e0:¬n.Kind=0:=by rcases ripB_iff.1 hr with e|e<;>omega
  have e1:¬n.Kind=1:=by rcases ripB_iff.1 hr with e|e<;>omega
  simp[lvT,allT,HH,e0,e1]
 ·simp[ctT,allT,cutG,hr]
def sumL {α:Type} (f:α->Int) (l:List α):Int:=(l.map f).sum
theorem BZ {α:Type} (f:α->Int):sumL f []=0:=rfl
theorem yV {α:Type} (f:α->Int) (x:α) (l:List α):sumL f (x::l)=f x+sumL f l:=by simp[sumL]
theorem PC {α:Type} (f:α->Int) (l t:List α):sumL f (l++t)=sumL f l+sumL f t:=by simp[sumL]
theorem sumL_nn {α:Type} {f:α->Int} {l:List α} (h:∀x∈l,0<=f x):0<=sumL f l:=by
 induction l with
 |nil=>exact kP _
 |cons x l ih=>
  rw[yV];have:=h x kI;have:=ih λy hy=>h y (kH _ hy);omega
theorem qKt {α:Type} (f g:α->Int):∀(l:List α),sumL (λx=>f x+g x) l=sumL f l+sumL g l
 |[]=>by simp[sumL]
 |x::l=>by simp only[yV,qKt f g l];omega
structure Parts (bd:Rect->Int->Int) (r:Rect) (lv:List Leaf) (ct:List Rect) (n:Nat):Prop where
 wl:∀l∈lv,WR l.Rect/\subR l.Rect r/\(l.Product= -1\/bd l.Rect l.Product=0)
 wc:∀c∈ct,WR c/\subR c r
 ap:lv.Pairwise λa b=>qC9 a.Rect b.Rect
 ll:lv.length<=n
 lc:ct.length<=n
 sum:∀μ,AddR μ->sumL (λl=>μ l.Rect) lv+sumL μ ct=μ r
theorem qHm {bd:Rect->Int->Int} {kerf:Int} (hk:0<=kerf/\kerf<=20):∀(t:T) (x:qB),okT bd kerf t x->WR x.rect->Parts bd x.rect (lvT kerf t x) (ctT kerf t x) (wO t).length
 | .leaf n,x,h,hw=>by
  obtain⟨e1,e2⟩:=lv_leaf h;rcases e1 with e1|⟨e1,eb⟩
  ·rw[e1,e2];refine⟨λl hl=>?_,λc hc=>(ut hc).elim,by simp,by simp[wO],by simp,λμ _=>by simp[sumL]⟩;simp at hl;subst hl;exact⟨hw,qIL _,.inl rfl⟩
  ·rw[e1,e2];refine⟨λl hl=>?_,λc hc=>(ut hc).elim,by simp,by simp[wO],by simp,λμ _=>by simp[sumL]⟩;simp at hl;subst hl;exact⟨hw,qIL _,.inr eb⟩
 | .rip n a b,x,h,hw=>by
  obtain⟨hr,hc,ha,hb⟩:=h;obtain⟨c3,cs⟩:=cut3 hr hw (qBP hr hc) hk;have pa:=qHm hk a _ ha c3.wf;have pb:=qHm hk b _ hb c3.ws;rw[(qDN hr).1,(qDN hr).2];refine⟨λl hl=>?_,λc hc=>?_,?_,?_,?_,λμ hμ=>?_⟩
  ·rcases uy.1 hl with hl|hl
   ·exact⟨(pa.wl l hl).1,IW (pa.wl l hl).2.1 c3.sf,(pa.wl l hl).2.2⟩
   ·exact⟨(pb.wl l hl).1,IW (pb.wl l hl).2.1 c3.ss,(pb.wl l hl).2.2⟩
  ·rcases ud.1 hc with rfl|hc
   ·exact⟨c3.wc,c3.sc⟩
   rcases uy.1 hc with hc|hc
   ·exact⟨(pa.wc c hc).1,IW (pa.wc c hc).2 c3.sf⟩
   ·exact⟨(pb.wc c hc).1,IW (pb.wc c hc).2 c3.ss⟩
  ·exact List.pairwise_append.2 ⟨pa.ap,pb.ap,λl hl k hk=>qM4 c3.fs (pa.wl l hl).2.1 (pb.wl k hk).2.1⟩
  ·have:=pa.ll;have:=pb.ll;simp[wO];omega
  ·have:=pa.lc;have:=pb.lc;simp[wO];omega
  ·rw[PC,yV,PC];have:=pa.sum μ hμ;have:=pb.sum μ hμ;have:=cs μ hμ;simp only at*;omega
end Go.SL.Saw

/- Plain mathematics that all seats use: 64-bit sums that do not wrap, bounds, lists. -/
import Derived.Test.YtigmogcdifllhaaGreatDoorYa6
import Derived.Test.YtigmogcdifllhaaGreatDoorEMod
set_option linter.unusedVariables false
set_option linter.unusedSimpArgs false
namespace Go.SL
theorem FUEL_eq :FUEL=4611686018427387904:=by unfold FUEL;rfl
theorem qE0 {n:Int} (h1: -9223372036854775808<=n) (h2:n<=9223372036854775807):w64 n=n:=by
 unfold w64 IntKind.wrap;simp only[IntKind.bits,IntKind.signed,Bool.true_and];split
 ·rename_i h;have h':n % 2^64≥2^(64-1):=uw h;omega
 ·rename_i h;have h':¬n % 2^64≥2^(64-1):=λhh=>h (ka hh);omega
theorem qD {n:Int} (h: -9223372036854775808<=n/\n<=9223372036854775807):w64 n=n:=qE0 h.1 h.2
theorem qJ {i:Int} {n:Nat} (h:0<=i/\i<(n:Int)):inb i n=true:=by unfold inb;exact ka h
theorem ZT {i:Int} {n:Nat} (h0:0<=i) (h1:i<(n:Int)):inb i n=true:=by unfold inb;exact ka ⟨h0,h1⟩
theorem nz_t {b:Int} (h:b≠0):nz b=true:=by unfold nz;exact ka h
theorem QG {n b:Nat} (h:n*b<=140737488355328):room n b=true:=by unfold room;exact ka h
theorem lt_t {a b:Int} (h:a<b):decide (a<b)=true:=ka h
theorem lt_f {a b:Int} (h:¬a<b):decide (a<b)=false:=ke h
theorem qM {x:Nat} (h:x<4611686018427387904):w64 ((x:Int)+1)=((x+1:Nat):Int):=by rw[qD (by omega)];omega
theorem JE {α:Type} [Inhabited α] (l:List α) (x:Nat) (h:x<l.length):l.drop x=l.getD x daa::l.drop (x+1):=by
 rw[dW h,ki,ks h];rfl
theorem zK {α:Type} [Inhabited α] {l:List α} {x:Nat} (h:x<l.length):l.getD x daa∈l:=by
 rw[ki,ks h];exact uJ h
theorem qRV {n x:Nat} (hn:0<n) (hx:x<4611686018427387904):Int.tmod (w64 ((x:Int)+1)) (n:Int)=(((x+1) % n:Nat):Int):=by
 rw[qM hx];rfl
theorem wS {a b m n:Int} (h1: -m<=a) (h2:a<=m) (h3: -n<=b) (h4:b<=n) (hm:0<=m) (hn:0<=n): -(m*n)<=a*b/\a*b<=m*n:=by
 constructor
 ·have e1:=ky (show 0<=m-a by omega) (show 0<=n+b by omega);have e2:=ky (show 0<=m+a by omega) (show 0<=n-b by omega);have e3:=ky (show 0<=m+a by omega) (show 0<=n+b by omega);rcases dK 0 b with hb|hb
  ·have:=ky (show 0<=m+a by omega) hb;have h5:=ky hm (show 0<=n-b by omega);simp only[gy,uS,Int.sub_mul,gL] at*;omega
  ·have:=ky (show 0<=m-a by omega) (show 0<=-b by omega);have h5:=ky hm (show 0<=n+b by omega);simp only[gy,uS,Int.sub_mul,gL,Int.mul_neg] at*;omega
 ·rcases dK 0 b with hb|hb
  ·have:=ky (show 0<=m-a by omega) hb;have h5:=ky hm (show 0<=n-b by omega);simp only[gy,uS,Int.sub_mul,gL] at*;omega
  ·have:=ky (show 0<=m+a by omega) (show 0<=-b by omega);have h5:=ky hm (show 0<=n+b by omega);simp only[gy,uS,Int.sub_mul,gL,Int.mul_neg] at*;omega
theorem qH8 {α:Type} [Inhabited α] {l t:List α} (h:l.length=t.length) (hj:∀j,j<l.length->l.getD j daa=t.getD j daa):l=t:=by
 apply dw h;intro i h1 h2;have:=hj i h1
 rwa [ki,ki,ks h1,ks h2] at this
theorem BF {α:Type} [Inhabited α] {l:List α} {x:Nat} (v:α) (h:x<l.length):(l.set x v).getD x daa=v:=by
 rw[ki,dh h];rfl
theorem ZZ {α:Type} [Inhabited α] {l:List α} {x j:Nat} (v:α) (h:x≠j):(l.set x v).getD j daa=l.getD j daa:=by
 rw[ki,dR h,<-ki]
theorem qVw (r:Int):∃q:Nat,q<4/\Int.tmod (w64 (Int.tmod r 4+4)) 4=(q:Int):=by
 have h1:=gn r (show(0:Int)<4 by decide);have h2: -4<Int.tmod r 4:=by
  rcases dK 0 r with h|h
  ·have:=dB 4 h;omega
  ·have:=dB 4 (show 0<=-r by omega);have h3:=gn (-r) (show(0:Int)<4 by decide);rw[Int.neg_tmod] at this h3;omega
 rw[qD (by omega)];obtain⟨n,hn⟩:=Int.eq_ofNat_of_zero_le (show 0<=Int.tmod r 4+4 by omega);rw[hn];exact⟨n % 4,kT _ (by decide),rfl⟩
theorem qBz {n b:Nat} (h:n*b<=140737488355328) (hn:n<=9223372036854775807):mkOk ((n:Nat):Int) b=true:=by
 unfold mkOk;exact ka ⟨Int.natCast_nonneg n,by rw[<-Int.natCast_mul,dj];exact Int.ofNat_le.2 h,Int.ofNat_le.2 hn⟩
theorem le_imin {a b X:Int}:X<=imin a b↔X<=a/\X<=b:=by unfold imin;split<;>omega
theorem qYh {a b X:Int}:imax a b<=X↔a<=X/\b<=X:=by unfold imax;split<;>omega
theorem imin_or (a b:Int):(imin a b=a/\a<=b)\/(imin a b=b/\b<=a):=by unfold imin;split<;>omega
theorem wZ (a b:Int):(imax a b=a/\b<=a)\/(imax a b=b/\a<=b):=by unfold imax;split<;>omega
def run {α σ ρ:Type} (step:Nat->α->σ->ρ⊕σ):Nat->List α->σ->ρ⊕σ
 |_,[],s=> .inr s
 |x,a::l,s=>match step x a s with
  | .inl r=> .inl r
  | .inr s'=>run step (x+1) l s'
theorem qSO {α σ ρ β:Type} [Inhabited α] (l:List α) (L:Nat->σ->Int->Option β) (idx:Nat->Int) (step:Nat->α->σ->ρ⊕σ) (fin:ρ⊕σ->β) (Inv:Nat->σ->Prop)
  (h0:∀n x s,x<l.length->Inv x s->match step x (l.getD x daa) s with| .inl r=>L (n+1) s (idx x)=some (fin (.inl r))| .inr s'=>L (n+1) s (idx x)=L n s' (idx (x+1))/\Inv (x+1) s')
  (h1:∀n s,Inv l.length s->L (n+1) s (idx l.length)=some (fin (.inr s))):
  ∀(n x:Nat) (s:σ),l.length<x+n->x<=l.length->Inv x s->L n s (idx x)=some (fin (run step x (l.drop x) s))
 |0,x,s,hn,hx,_=>by omega
 |n+1,x,s,hn,hx,hi=>by
  by_cases h:x<l.length
  ·have k:=h0 n x s h hi;rw[JE l x h];unfold run;cases hs:step x (l.getD x daa) s with
   |inl r=>rw[hs] at k;exact k
   |inr s'=>
    rw[hs] at k;rw[k.1];exact qSO l L idx step fin Inv h0 h1 n (x+1) s' (by omega) (by omega) k.2
  ·have e:x=l.length:=by omega
   subst e;rw[List.drop_length];exact h1 n s hi
theorem run_inv {α σ ρ:Type} [Inhabited α] (l:List α) (step:Nat->α->σ->ρ⊕σ) (Inv:Nat->σ->Prop) (h:∀x s s',x<l.length->Inv x s->step x (l.getD x daa) s= .inr s'->Inv (x+1) s'):
  ∀(x:Nat) (s s':σ),x<=l.length->Inv x s->run step x (l.drop x) s= .inr s'->Inv l.length s':=by
 intro x
 induction hk:l.length-x generalizing x with
 |zero=>
  intro s s' hx hi hr;have e:x=l.length:=by omega
  subst e;rw[List.drop_length] at hr;cases hr;exact hi
 |succ k ih=>
  intro s s' hx hi hr;have h':x<l.length:=by omega
  rw[JE l x h'] at hr;unfold run at hr;cases hs:step x (l.getD x daa) s with
  |inl r=>rw[hs] at hr;cases hr
  |inr t=>
   rw[hs] at hr;exact ih (x+1) (by omega) t s' (by omega) (h x s t h' hi hs) hr
theorem loop0 {α σ ρ β:Type} [Inhabited α] (l:List α) (L:Nat->σ->Int->Option β) (idx:Nat->Int) (step:Nat->α->σ->ρ⊕σ) (fin:ρ⊕σ->β) (Inv:Nat->σ->Prop) (hl:l.length<=1000000)
  (h0:∀n x s,x<l.length->Inv x s->match step x (l.getD x daa) s with| .inl r=>L (n+1) s (idx x)=some (fin (.inl r))| .inr s'=>L (n+1) s (idx x)=L n s' (idx (x+1))/\Inv (x+1) s')
  (h1:∀n s,Inv l.length s->L (n+1) s (idx l.length)=some (fin (.inr s))) {i:Int} (hi:i=idx 0) (s:σ) (hs:Inv 0 s):L FUEL s i=some (fin (run step 0 l s)):=by
 have:=qSO l L idx step fin Inv h0 h1 FUEL 0 s (by rw[FUEL_eq];omega) (ud _) hs;rw[hi];simpa using this
def findE {α ε:Type} (bad:α->Option ε):List α->ε⊕Unit
 |[]=> .inr ()
 |a::l=>match bad a with|some e=> .inl e|none=>findE bad l
theorem qSx {α ε:Type} (bad:α->Option ε):∀(l:List α) (x:Nat),run (λ_ a (_:Unit)=>match bad a with|some e=>(.inl e:ε⊕Unit)|none=> .inr ()) x l ()=findE bad l
 |[],_=>rfl
 |a::l,x=>by
  unfold run findE;cases h:bad a with
  |some e=>rfl
  |none=>exact qSx bad l (x+1)
theorem YW {α ε:Type} [Inhabited α] (l:List α) (L:Nat->Int->Option (ε⊕Unit)) (bad:α->Option ε) (hl:l.length<=1000000)
  (h0:∀n x,x<l.length->L (n+1) ((x:Nat):Int)=match bad (l.getD x daa) with|some e=>some (.inl e)|none=>L n ((x+1:Nat):Int))
  (h1:∀n,L (n+1) (l.length:Int)=some (.inr ())):L FUEL 0=some (findE bad l):=by
 have:=loop0 l (λn (_:Unit) x=>L n x) (λx=>(x:Int)) (λ_ a _=>match bad a with|some e=>(.inl e:ε⊕Unit)|none=> .inr ()) (λr=>r) (λ_ _=>True) hl
  (λn x s hx _=>by
   have:=h0 n x hx;cases hb:bad (l.getD x daa) with
   |some e=>simp only;rw[this,hb]
   |none=>simp only;rw[this,hb];exact⟨rfl,trivial⟩)
  (λn s _=>h1 n) (i:=0) rfl () trivial
 rw[qSx] at this;exact this
theorem DA {α ε:Type} {bad:α->Option ε}:∀{l:List α},findE bad l= .inr ()↔∀a∈l,bad a=none
 |[]=>by simp[findE]
 |a::l=>by
  unfold findE;cases h:bad a with
  |some e=>simp[h]
  |none=>simp[h,DA (l:=l)]
def foldi {α σ:Type} (f:Nat->α->σ->σ):Nat->List α->σ->σ
 |_,[],s=>s
 |x,a::l,s=>foldi f (x+1) l (f x a s)
theorem run_fold {α σ ρ:Type} (f:Nat->α->σ->σ):∀(l:List α) (x:Nat) (s:σ),run (λx a s=>(.inr (f x a s):ρ⊕σ)) x l s= .inr (foldi f x l s)
 |[],_,_=>rfl
 |a::l,x,s=>by unfold run foldi;exact run_fold f l (x+1) (f x a s)
theorem jJ {α σ β:Type} [Inhabited α] (l:List α) (L:Nat->σ->Int->Option β) (idx:Nat->Int) (f:Nat->α->σ->σ) (out:σ->β) (Inv:Nat->σ->Prop) (hl:l.length<=1000000)
  (h0:∀n x s,x<l.length->Inv x s->L (n+1) s (idx x)=L n (f x (l.getD x daa) s) (idx (x+1))/\Inv (x+1) (f x (l.getD x daa) s))
  (h1:∀n s,Inv l.length s->L (n+1) s (idx l.length)=some (out s)) {i:Int} (hi:i=idx 0) (s:σ) (hs:Inv 0 s):L FUEL s i=some (out (foldi f 0 l s))/\Inv l.length (foldi f 0 l s):=by
 have k:=loop0 l L idx (λx a s=>(.inr (f x a s):Unit⊕σ)) (λr=>match r with| .inl _=>out s| .inr s=>out s) Inv hl (λn x s hx hi=>h0 n x s hx hi) (λn s hi=>h1 n s hi) hi s hs;rw[run_fold] at k;refine⟨k,?_⟩;exact run_inv l (λx a s=>(.inr (f x a s):Unit⊕σ)) Inv (λx s s' hx hi e=>by cases e;exact(h0 0 x s hx hi).2) 0 s _ (ud _) hs (by rw[uI];exact run_fold f l 0 s)
theorem qGx {α σ:Type} (f:α->σ->σ):∀(l:List α) (x:Nat) (s:σ),foldi (λ_=>f) x l s=l.foldl (λs a=>f a s) s
 |[],_,_=>rfl
 |a::l,x,s=>by unfold foldi;exact qGx f l (x+1) (f a s)
def mapi {α β:Type} (g:Nat->α->β):Nat->List α->List β
 |_,[]=>[]
 |x,a::l=>g x a::mapi g (x+1) l
theorem qI1 {α β:Type} (g:Nat->α->β):∀(l:List α) (x:Nat) (t:List β),foldi (λx a (t:List β)=>t++[g x a]) x l t=t++mapi g x l
 |[],_,t=>by simp[foldi,mapi]
 |a::l,x,t=>by unfold foldi mapi;rw[qI1 g l (x+1) (t++[g x a])];simp
theorem qLi {α β:Type} (g:Nat->α->β):∀(l:List α) (x:Nat),(mapi g x l).length=l.length
 |[],_=>rfl
 |a::l,x=>by simp[mapi,qLi g l (x+1)]
theorem qK0 {α β:Type} [Inhabited α] [Inhabited β] (g:Nat->α->β):∀(l:List α) (x j:Nat),j<l.length->(mapi g x l).getD j daa=g (x+j) (l.getD j daa)
 |[],_,j,h=>by simp at h
 |a::l,x,0,_=>by simp[mapi]
 |a::l,x,j+1,h=>by
  have:=qK0 g l (x+1) j (by simpa using h);rw[show x+(j+1)=x+1+j by omega];simpa[mapi] using this
def sumN :Nat->(Nat->Int)->Int
 |0,_=>0
 |n+1,f=>sumN n f+f n
theorem ZC {n:Nat} {f g:Nat->Int} (h:∀i,i<n->f i=g i):sumN n f=sumN n g:=by
 induction n with
 |zero=>rfl
 |succ n ih=>rw[sumN,sumN,ih (λi hi=>h i (by omega)),h n (by omega)]
theorem GU {n:Nat} {f:Nat->Int} (h:∀i,i<n->f i=0):sumN n f=0:=by
 induction n with
 |zero=>rfl
 |succ n ih=>rw[sumN,ih (λi hi=>h i (by omega)),h n (by omega)];rfl
theorem qBO (m n:Nat) (f:Nat->Int):sumN (m+n) f=sumN m f+sumN n (λi=>f (m+i)):=by
 induction n with
 |zero=>simp[sumN]
 |succ n ih=>rw[<-uX,sumN,ih,sumN];omega
theorem qCs (n:Nat) (f g:Nat->Int):sumN n (λi=>f i+g i)=sumN n f+sumN n g:=by
 induction n with
 |zero=>rfl
 |succ n ih=>rw[sumN,sumN,sumN,ih];omega
theorem qIj (n:Nat) (c:Int) (f:Nat->Int):sumN n (λi=>c*f i)=c*sumN n f:=by
 induction n with
 |zero=>simp[sumN]
 |succ n ih=>rw[sumN,sumN,ih,uS]
theorem qKl {n:Nat} {f g:Nat->Int} (h:∀i,i<n->f i<=g i):sumN n f<=sumN n g:=by
 induction n with
 |zero=>exact kM _
 |succ n ih=>rw[sumN,sumN];have:=ih (λi hi=>h i (by omega));have:=h n (by omega);omega
theorem qHB (n:Nat) (f:Nat->Int):sumN (n+1) f=f 0+sumN n (λi=>f (i+1)):=by
 have e:=qBO 1 n f;rw[dn 1 n] at e;rw[e];have:sumN n (λi=>f (1+i))=sumN n (λi=>f (i+1)):=ZC (λi _=>by rw[dn]);rw[this];simp[sumN]
theorem qMr (n:Nat) (c:Int):sumN n (λ_=>c)=n*c:=by
 induction n with
 |zero=>simp[sumN]
 |succ n ih=>rw[sumN,ih,Int.natCast_add,gy];simp
theorem DV {α:Type} [Inhabited α] (F:Nat->α->Int):∀(l:List α) (x:Nat) (s:Int),foldi (λx a s=>s+F x a) x l s=s+sumN l.length (λi=>F (x+i) (l.getD i daa))
 |[],x,s=>by simp[foldi,sumN]
 |a::l,x,s=>by
  unfold foldi;rw[DV F l (x+1) (s+F x a),ue,qHB];have:sumN l.length (λi=>F (x+1+i) (l.getD i daa))=sumN l.length (λi=>F (x+(i+1)) ((a::l).getD (i+1) daa)):=ZC (λi _=>by rw[show x+1+i=x+(i+1) by omega];simp);rw[this];simp;omega
def runN {σ ρ:Type} (step:Nat->σ->ρ⊕σ):Nat->Nat->σ->ρ⊕σ
 |_,0,s=> .inr s
 |x,k+1,s=>match step x s with
  | .inl r=> .inl r
  | .inr s'=>runN step (x+1) k s'
theorem AB {σ ρ β:Type} (N:Nat) (L:Nat->σ->Int->Option β) (step:Nat->σ->ρ⊕σ) (fin:ρ⊕σ->β) (Inv:Nat->σ->Prop)
  (h0:∀n x s,x<N->Inv x s->match step x s with| .inl r=>L (n+1) s (x:Int)=some (fin (.inl r))| .inr s'=>L (n+1) s (x:Int)=L n s' ((x+1:Nat):Int)/\Inv (x+1) s')
  (h1:∀n s,Inv N s->L (n+1) s (N:Int)=some (fin (.inr s))):
  ∀(n x:Nat) (s:σ),N<x+n->x<=N->Inv x s->L n s (x:Int)=some (fin (runN step x (N-x) s))
 |0,x,s,hn,hx,_=>by omega
 |n+1,x,s,hn,hx,hi=>by
  by_cases h:x<N
  ·have k:=h0 n x s h hi;obtain⟨m,hm⟩:∃m,N-x=m+1:=⟨N-x-1,by omega⟩
   rw[hm];unfold runN;cases hs:step x s with
   |inl r=>rw[hs] at k;exact k
   |inr s'=>
    rw[hs] at k;rw[k.1,AB N L step fin Inv h0 h1 n (x+1) s' (by omega) (by omega) k.2,show N-(x+1)=m by omega]
  ·have e:x=N:=by omega
   subst e;rw[dH];exact h1 n s hi
theorem runN_inv {σ ρ:Type} (step:Nat->σ->ρ⊕σ) (Inv:Nat->σ->Prop) (N:Nat) (h:∀x s s',x<N->Inv x s->step x s= .inr s'->Inv (x+1) s'):
  ∀(k x:Nat) (s s':σ),x+k=N->Inv x s->runN step x k s= .inr s'->Inv N s'
 |0,x,s,s',hx,hi,hr=>by cases hr;exact hx▸hi
 |k+1,x,s,s',hx,hi,hr=>by
  unfold runN at hr;cases hs:step x s with
  |inl r=>rw[hs] at hr;cases hr
  |inr t=>rw[hs] at hr;exact runN_inv step Inv N h k (x+1) t s' (by omega) (h x s t (by omega) hi hs) hr
def findN {ε:Type} (bad:Nat->Option ε):Nat->Nat->ε⊕Unit
 |_,0=> .inr ()
 |x,k+1=>match bad x with
  |some e=> .inl e
  |none=>findN bad (x+1) k
theorem KS {ε:Type} {bad:Nat->Option ε}:∀{k x:Nat},findN bad x k= .inr ()↔∀i,x<=i->i<x+k->bad i=none
 |0,x=>by simp[findN];intro i h1 h2;omega
 |k+1,x=>by
  unfold findN;cases hb:bad x with
  |some e=>simp only[reduceCtorEq,false_iff];intro h;rw[h x (kq _) (by omega)] at hb;cases hb
  |none=>
   simp only[KS (k:=k)];constructor
   ·intro h i h1 h2;by_cases e:i=x
    ·subst e;exact hb
    ·exact h i (by omega) (by omega)
   ·intro h i h1 h2;exact h i (by omega) (by omega)
theorem qKy {ε:Type} {b1 b2:Nat->Option ε}:∀{k x:Nat},(∀i,x<=i->i<x+k->b1 i=b2 i)->findN b1 x k=findN b2 x k
 |0,_,_=>rfl
 |k+1,x,h=>by
  unfold findN;rw[h x (kq _) (by omega),qKy (k:=k) (λi h1 h2=>h i (by omega) (by omega))]
theorem WK {ε:Type} {bad:Nat->Option ε} {e:ε}:∀{k x:Nat},findN bad x k= .inl e->∃i,x<=i/\i<x+k/\bad i=some e/\∀j,x<=j->j<i->bad j=none
 |0,x,h=>by cases h
 |k+1,x,h=>by
  unfold findN at h;cases hb:bad x with
  |some e'=>rw[hb] at h;cases h;exact⟨x,kq _,by omega,hb,λj h1 h2=>by omega⟩
  |none=>
   rw[hb] at h;obtain⟨i,h1,h2,h3,h4⟩:=WK (k:=k) h;refine⟨i,by omega,by omega,h3,λj a b=>?_⟩;by_cases e':j=x
   ·subst e';exact hb
   ·exact h4 j (by omega) b
theorem qPp {ε:Type} (bad:Nat->Option ε):∀(k x:Nat),runN (λx (_:Unit)=>match bad x with|some e=>(.inl e:ε⊕Unit)|none=> .inr ()) x k ()=findN bad x k
 |0,_=>rfl
 |k+1,x=>by
  unfold runN findN;cases bad x with
  |some e=>rfl
  |none=>exact qPp bad k (x+1)
theorem QI {ε:Type} (N:Nat) (L:Nat->Int->Option (ε⊕Unit)) (bad:Nat->Option ε) (x:Nat) (hx:x<=N) (hN:N<=1000000000)
  (h0:∀n i,x<=i->i<N->L (n+1) (i:Int)=match bad i with|some e=>some (.inl e)|none=>L n ((i+1:Nat):Int))
  (h1:∀n,L (n+1) (N:Int)=some (.inr ())):L FUEL (x:Int)=some (findN bad x (N-x)):=by
 have k:=AB N (λn (_:Unit) i=>L n i) (λi _=>match bad i with|some e=>(.inl e:ε⊕Unit)|none=> .inr ()) (λr=>r) (λi _=>x<=i)
  (λn i s hi hxi=>by
   have h:=h0 n i hxi hi;cases hb:bad i with
   |some e=>simp only;rw[h,hb]
   |none=>simp only;rw[h,hb];exact⟨rfl,by omega⟩)
  (λn s _=>h1 n) FUEL x () (by rw[FUEL_eq];omega) hx (kq _)
 rw[qPp] at k;exact k
def foldN {σ:Type} (f:Nat->σ->σ):Nat->Nat->σ->σ
 |_,0,s=>s
 |x,k+1,s=>foldN f (x+1) k (f x s)
theorem runN_fold {σ ρ:Type} (f:Nat->σ->σ):∀(k x:Nat) (s:σ),runN (λx s=>(.inr (f x s):ρ⊕σ)) x k s= .inr (foldN f x k s)
 |0,_,_=>rfl
 |k+1,x,s=>by unfold runN foldN;exact runN_fold f k (x+1) (f x s)
theorem zA {σ β:Type} (N:Nat) (L:Nat->σ->Int->Option β) (f:Nat->σ->σ) (out:σ->β) (Inv:Nat->σ->Prop) (x:Nat) (hx:x<=N) (hN:N<=1000000000)
  (h0:∀n i s,i<N->Inv i s->L (n+1) s (i:Int)=L n (f i s) ((i+1:Nat):Int)/\Inv (i+1) (f i s))
  (h1:∀n s,Inv N s->L (n+1) s (N:Int)=some (out s)) (s:σ) (hs:Inv x s):L FUEL s (x:Int)=some (out (foldN f x (N-x) s))/\Inv N (foldN f x (N-x) s):=by
 have k:=AB N L (λi s=>(.inr (f i s):Unit⊕σ)) (λr=>match r with| .inl _=>out s| .inr s=>out s) Inv (λn i s hi hs=>h0 n i s hi hs) (λn s hs=>h1 n s hs) FUEL x s (by rw[FUEL_eq];omega) hx hs;rw[runN_fold] at k;refine⟨k,?_⟩;exact runN_inv (λi s=>(.inr (f i s):Unit⊕σ)) Inv N (λi s s' hi hs e=>by cases e;exact(h0 0 i s hi hs).2) (N-x) x s _ (by omega) hs (runN_fold f (N-x) x s)
theorem MY {σ:Type} {f g:Nat->σ->σ}:∀{k x:Nat} {s:σ},(∀i,x<=i->i<x+k->∀s,f i s=g i s)->foldN f x k s=foldN g x k s
 |0,_,_,_=>rfl
 |k+1,x,s,h=>by
  unfold foldN;rw[h x (kq _) (by omega),MY (k:=k) (λi h1 h2 s=>h i (by omega) (by omega) s)]
theorem yK {σ:Type} (f:Nat->σ->σ):∀(k x:Nat) (s:σ),foldN f x (k+1) s=f (x+k) (foldN f x k s)
 |0,x,s=>rfl
 |k+1,x,s=>by
  rw[foldN,yK f k (x+1) (f x s),foldN,show x+1+k=x+(k+1) by omega]
end Go.SL
namespace Go.SL
namespace Saw
def SF (a1:List qA):Nat->Int->Rect->Option Rect
 |0,_,_=>none
 |n+1,x4,x5=>
  bif decide (x4<(a1.length:Int)) then
   bif inb x4 a1.length then
    (SF a1 n) (w64 (x4+1)) (Rect.mk (Span.mk (imin x5.X.A ((a1.getD x4.toNat daa).X)) (imax x5.X.B ((a1.getD x4.toNat daa).X))) (Span.mk (imin x5.Y.A ((a1.getD x4.toNat daa).Y)) (imax x5.Y.B ((a1.getD x4.toNat daa).Y))))
   else none
  else
   some x5
def qJB (a1:List qA):Option Rect:=
 bif (a1.length:Int)==0 then
  some (Rect.mk (Span.mk 0 0) (Span.mk 0 0))
 else
  bif inb 0 a1.length then
   (SF a1 FUEL 1 (Rect.mk (Span.mk ((a1.getD (0:Int).toNat daa).X) ((a1.getD (0:Int).toNat daa).X)) (Span.mk ((a1.getD (0:Int).toNat daa).Y) ((a1.getD (0:Int).toNat daa).Y)))).bind λo9=>
   some o9
  else none
def empS (s:Span):Bool:=decide (s.B<=s.A)
def rngS (s:Span):Bool:=(decide (-600<=s.A)&&decide (s.A<=600))&&(decide (-600<=s.B)&&decide (s.B<=600))
def qIe (s:Span):Bool:=(s.A==0)&&(s.B==0)
theorem SM {s:Span}:rngS s=true↔(-600<=s.A/\s.A<=600)/\(-600<=s.B/\s.B<=600):=by unfold rngS;simp
theorem KZ (s:Span):ZN s=some (empS s):=rfl
theorem TY (s:Span):ZX s=some (empS s):=rfl
theorem qI4 (s:Span):SG s=some (rngS s):=by
 have e:rngS s=(decide (imin s.A s.B≥-600)&&decide (imax s.A s.B<=600)):=by
  rw[dX,SM,kv,decide_eq_true_eq,decide_eq_true_eq,ge_iff_le,le_imin,qYh];omega
 unfold SG DC;rw[e];cases decide (imin s.A s.B≥-600)<;>rfl
theorem qM0 (n:Int):AF n=some (!(decide (-600<=n)&&decide (n<=600))):=by
 unfold AF HS;by_cases h1:n< -600
 ·rw[ka h1,ke (show¬-600<=n by omega)];rfl
 ·rw[ke h1,ka (show-600<=n by omega)];by_cases h2:n>600
  ·rw[ka h2,ke (show¬n<=600 by omega)];rfl
  ·rw[ke h2,ka (show n<=600 by omega)];rfl
def bad9 (s:Span):Option Int:=bif rngS s then none else some 9
def bad19 (s:Span):Option Int:=bif empS s&&!qIe s then some 19 else none
def qOh (s:qF):Int:=
 match findE bad9 s.Rows with
 | .inl e=>e
 | .inr _=>
  if s.Rows.length=0 then(if s.Low=0 then 0 else 19)
  else if empS (s.Rows.getD 0 daa)=true\/empS (s.Rows.getD (s.Rows.length-1) daa)=true then 19
  else match findE bad19 s.Rows with
   | .inl e=>e
   | .inr _=>0
def XG (s:qF):Int:=if 120<s.Rows.length then 4 else if s.Low< -60\/60-(s.Rows.length:Int)<s.Low then 9 else qOh s
theorem chk_L (s:qF) (hl:s.Rows.length<=120):WP s FUEL 0=some (findE bad9 s.Rows)/\QQ s FUEL 0=some (findE bad19 s.Rows)/\JN s FUEL 0=some (findE bad9 s.Rows)/\JJ s FUEL 0=some (findE bad19 s.Rows):=by
 have e1:∀(l:List Span) (x:Nat),(l.length:Nat)<1000->x<l.length->decide ((x:Int)<(l.length:Int))=true/\inb (x:Int) l.length=true/\w64 ((x:Int)+1)=((x+1:Nat):Int):=λl x h hx=>⟨ka (by omega),qJ (by omega),qM (by omega)⟩
 refine⟨YW s.Rows (WP s) bad9 (by omega) (λn x hx=>?_) (λn=>?_),YW s.Rows (QQ s) bad19 (by omega) (λn x hx=>?_) (λn=>?_),YW s.Rows (JN s) bad9 (by omega) (λn x hx=>?_) (λn=>?_),YW s.Rows (JJ s) bad19 (by omega) (λn x hx=>?_) (λn=>?_)⟩
 ·obtain⟨a1,a2,a3⟩:=e1 s.Rows x (by omega) hx;rw[WP];simp only[a1,a2,a3,kp,ko,qI4,kg,bad9];cases rngS (s.Rows.getD x daa)<;>rfl
 ·unfold WP;simp
 ·obtain⟨a1,a2,a3⟩:=e1 s.Rows x (by omega) hx;rw[QQ];simp only[LJ,a1,a2,a3,kp,ko,KZ,kg,bad19,qIe,dV];cases empS (s.Rows.getD x daa)<;>cases ((s.Rows.getD x daa).A==0&&(s.Rows.getD x daa).B==0)<;>rfl
 ·unfold QQ;simp
 ·obtain⟨a1,a2,a3⟩:=e1 s.Rows x (by omega) hx;rw[JN];simp only[AN,a1,a2,a3,kp,ko,qM0,kg,bad9,rngS];cases (decide (-600<=(s.Rows.getD x daa).A)&&decide ((s.Rows.getD x daa).A<=600))<;>cases (decide (-600<=(s.Rows.getD x daa).B)&&decide ((s.Rows.getD x daa).B<=600))<;>rfl
 ·unfold JN;simp
 ·obtain⟨a1,a2,a3⟩:=e1 s.Rows x (by omega) hx;rw[JJ];simp only[AO,a1,a2,a3,kp,ko,TY,kg,bad19,qIe,dV];cases empS (s.Rows.getD x daa)<;>cases ((s.Rows.getD x daa).A==0&&(s.Rows.getD x daa).B==0)<;>rfl
 ·unfold JJ;simp
theorem qCi (s:qF):MR s=some (XG s)/\CD s=some (XG s):=by
 unfold MR CD XG;by_cases h:120<s.Rows.length
 ·rw[ka (show(s.Rows.length:Int)>120 by omega),if_pos h];exact⟨rfl,rfl⟩
 rw[ke (show¬(s.Rows.length:Int)>120 by omega),if_neg h,qD (by omega)];simp only[kr];obtain⟨l1,l2,l3,l4⟩:=chk_L s (by omega);by_cases h1:s.Low< -60
 ·rw[ka h1,if_pos (.inl h1)];exact⟨rfl,rfl⟩
 rw[ke h1];by_cases h2:60-(s.Rows.length:Int)<s.Low
 ·rw[ka (show s.Low>_ from h2),if_pos (.inr h2)];exact⟨rfl,rfl⟩
 rw[ke (show¬s.Low>_ from h2),if_neg (by omega)];unfold LN OG LT OO qOh;simp only[kr,l1,l2,l3,l4,kg,KZ,TY];cases findE bad9 s.Rows with
 |inl e=>exact⟨rfl,rfl⟩
 |inr u=>
  simp only[Sum.elim_inr];by_cases h0:s.Rows.length=0
  ·rw[if_pos h0,h0];by_cases hw:s.Low=0
   ·rw[if_pos hw,hw];exact⟨rfl,rfl⟩
   ·rw[if_neg hw];have:(s.Low !=0)=true:=by simpa using hw
    simp[this]
  ·rw[if_neg h0];have e0:((s.Rows.length:Int)==0)=false:=by rw[kC];omega
   have e1:w64 ((s.Rows.length:Int)-1)=((s.Rows.length-1:Nat):Int):=by rw[qD (by omega)];omega
   rw[e0,qJ (by omega),e1,qJ (by omega)];simp only[kr,kp,gK,ko];cases hf:empS (s.Rows.getD 0 daa) with
   |true=>simp
   |false=>cases hg:empS (s.Rows.getD (s.Rows.length-1) daa) with
    |true=>simp
    |false=>
     simp only[kr,uG,or_self,if_false];cases findE bad19 s.Rows<;>exact⟨rfl,rfl⟩
def nilS :qF:=⟨0,[]⟩
def QO (s:qF):qF:=if XG s=0 then s else nilS
theorem OD (s:qF):QV s=some (QO s)/\JV s=some (QO s):=by
 unfold QV JV QO;rw[(qCi s).1,(qCi s).2];simp only[kg];by_cases h:XG s=0
 ·rw[h];exact⟨rfl,rfl⟩
 ·have:(XG s !=0)=true:=by simpa using h
  rw[this,if_neg h];exact⟨rfl,rfl⟩
def nrm (x:Span):Span:=bif empS x then⟨0,0⟩ else x
theorem nrm_nrm (x:Span):nrm (nrm x)=nrm x:=by
 unfold nrm;cases h:empS x with
 |true=>rfl
 |false=>simp[h]
theorem qA6 (x:Span):empS (nrm x)=empS x:=by
 unfold nrm;cases h:empS x with
 |true=>rfl
 |false=>simpa using h
theorem qJK {x:Span} (h:empS x=false):nrm x=x:=by unfold nrm;rw[h];rfl
theorem AS {x:Span} (h:empS x=true):nrm x=⟨0,0⟩:=by unfold nrm;rw[h];rfl
def row (s:qF) (r:Int):Span:=if r<s.Low then⟨0,0⟩ else s.Rows.getD (r-s.Low).toNat daa
structure Trim (s:qF):Prop where
 nil:s.Rows=[]->s.Low=0
 first:s.Rows≠[]->empS (s.Rows.getD 0 daa)=false
 last:s.Rows≠[]->empS (s.Rows.getD (s.Rows.length-1) daa)=false
theorem qCl {α:Type} [Inhabited α] {l:List α} {i:Nat} (h:l.length<=i):l.getD i daa=daa:=by
 rw[ki,List.getElem?_eq_none h];rfl
theorem qWb {s:qF} {r:Int} (h:empS (row s r)=false):s.Low<=r/\r<s.Low+s.Rows.length:=by
 unfold row at h;split at h
 ·exact absurd h (by decide)
 ·refine⟨by omega,Classical.byContradiction λhn=>?_⟩;rw[qCl (by omega)] at h;exact absurd h (by decide)
theorem qDn {s:qF} {i:Nat}:row s (s.Low+i)=s.Rows.getD i daa:=by
 unfold row;rw[if_neg (by omega)]
 congr 1
 omega
theorem qN7 {s t:qF} (hs:Trim s) (ht:Trim t) (h:∀r,row s r=row t r):s=t:=by
 have one:∀{s t:qF},Trim s->(∀r,row s r=row t r)->s.Rows≠[]->t.Low<=s.Low/\s.Low+s.Rows.length<=t.Low+t.Rows.length:=by
  intro s t hs h hne;have hl:0<s.Rows.length:=uq.2 hne;have k1:=qDn (s:=s) (i:=0);have k2:=qDn (s:=s) (i:=s.Rows.length-1);have f1:=hs.first hne;have f2:=hs.last hne;rw[<-k1,h] at f1;rw[<-k2,h] at f2;have g1:=qWb f1;have g2:=qWb f2;omega
 have key:s.Low=t.Low/\s.Rows.length=t.Rows.length:=by
  by_cases h1:s.Rows=[]
  ·by_cases h2:t.Rows=[]
   ·exact⟨by rw[hs.nil h1,ht.nil h2],by rw[h1,h2]⟩
   ·have:=one ht (λr=>(h r).symm) h2;have hl:0<t.Rows.length:=uq.2 h2;rw[h1] at this;simp only[gg] at this;omega
  ·by_cases h2:t.Rows=[]
   ·have:=one hs h h1;have hl:0<s.Rows.length:=uq.2 h1;rw[h2] at this;simp only[gg] at this;omega
   ·have a1:=one hs h h1;have a2:=one ht (λr=>(h r).symm) h2;omega
 obtain⟨lo,rs⟩:=s;obtain⟨lo',rs'⟩:=t;simp only at key;obtain⟨rfl,hl⟩:=key
 congr 1
 refine qH8 hl (λj hj=>?_);have:=h (lo+j);have e1:=qDn (s:=⟨lo,rs⟩) (i:=j);have e2:=qDn (s:=⟨lo,rs'⟩) (i:=j);simp only at e1 e2;rw[e1,e2] at this;exact this
structure VS (s:qF):Prop extends Trim s where
 len:s.Rows.length<=120
 low: -60<=s.Low
 high:s.Low+s.Rows.length<=60
 rng:∀x∈s.Rows,rngS x=true
 zero:∀x∈s.Rows,empS x=true->x=⟨0,0⟩
theorem qVY {x:Span}:bad9 x=none↔rngS x=true:=by unfold bad9;cases rngS x<;>simp
theorem zeroS_iff {x:Span}:qIe x=true↔x=⟨0,0⟩:=by unfold qIe;cases x;simp
theorem qNE {x:Span}:bad19 x=none↔(empS x=true->x=⟨0,0⟩):=by
 unfold bad19;cases h:empS x with
 |false=>simp
 |true=>cases hz:qIe x with
  |true=>simp[zeroS_iff.1 hz]
  |false=>simp;intro e;rw[zeroS_iff.2 e] at hz;cases hz
theorem qDl {ε α:Type} {bad:α->Option ε} {l:List α} {e:ε} (h:findE bad l= .inl e):∃a∈l,bad a=some e:=by
 induction l with
 |nil=>cases h
 |cons a l ih=>
  unfold findE at h;cases hb:bad a with
  |some e'=>rw[hb] at h;cases h;exact⟨a,by simp,hb⟩
  |none=>rw[hb] at h;obtain⟨x,hx,hx'⟩:=ih h;exact⟨x,kD _ hx,hx'⟩
theorem chk10_zero (s:qF):XG s=0↔VS s:=by
 unfold XG;by_cases h:120<s.Rows.length
 ·rw[if_pos h];exact⟨λh=>absurd h (by decide),λhv=>by have:=hv.len;omega⟩
 rw[if_neg h];by_cases h1:s.Low< -60\/60-(s.Rows.length:Int)<s.Low
 ·rw[if_pos h1];exact⟨λh=>absurd h (by decide),λhv=>by have:=hv.low;have:=hv.high;omega⟩
 rw[if_neg h1];unfold qOh;cases h9:findE bad9 s.Rows with
 |inl e=>
  obtain⟨a,ha,hb⟩:=qDl h9;have e9:e=9/\rngS a=false:=by unfold bad9 at hb;cases hr:rngS a<;>rw[hr] at hb<;>simp at hb;exact⟨hb.symm,rfl⟩
  simp only;refine⟨λh=>by omega,λhv=>?_⟩;have:=hv.rng a ha;rw[e9.2] at this;cases this
 |inr u=>
  have hr:∀x∈s.Rows,rngS x=true:=λx hx=>qVY.1 (DA.1 h9 x hx);simp only;by_cases h0:s.Rows.length=0
  ·have en:s.Rows=[]:=List.length_eq_zero_iff.1 h0;rw[if_pos h0];by_cases hw:s.Low=0
   ·rw[if_pos hw];exact⟨λ_=>⟨⟨λ_=>hw,λh=>absurd en h,λh=>absurd en h⟩,by omega,by omega,by omega,hr,λx hx=>by rw[en] at hx;cases hx⟩,λ_=>rfl⟩
   ·rw[if_neg hw];exact⟨λh=>absurd h (by decide),λhv=>absurd (hv.nil en) hw⟩
  ·rw[if_neg h0];have hne:s.Rows≠[]:=λe=>h0 (by rw[e];rfl);by_cases hf:empS (s.Rows.getD 0 daa)=true\/empS (s.Rows.getD (s.Rows.length-1) daa)=true
   ·rw[if_pos hf];refine⟨λh=>absurd h (by decide),λhv=>?_⟩;rcases hf with hf|hf
    ·rw[hv.first hne] at hf;cases hf
    ·rw[hv.last hne] at hf;cases hf
   ·rw[if_neg hf];have f1:empS (s.Rows.getD 0 daa)=false:=by simpa using λh=>hf (.inl h)
    have f2:empS (s.Rows.getD (s.Rows.length-1) daa)=false:=by simpa using λh=>hf (.inr h)
    cases h19:findE bad19 s.Rows with
    |inl e=>
     obtain⟨a,ha,hb⟩:=qDl h19;simp only;have e19:e=19:=by unfold bad19 at hb;cases hr:(empS a&&!qIe a)<;>rw[hr] at hb<;>simp at hb;exact hb.symm
     refine⟨λh=>by omega,λhv=>?_⟩;have:=qNE.2 (hv.zero a ha);rw[this] at hb;cases hb
    |inr u'=>
     exact⟨λ_=>⟨⟨λe=>absurd e hne,λ_=>f1,λ_=>f2⟩,by omega,by omega,by omega,hr,λx hx=>qNE.1 (DA.1 h19 x hx)⟩,λ_=>rfl⟩
theorem qJM :VS nilS:=(chk10_zero nilS).1 rfl
theorem LA (s:qF):VS (QO s):=by
 unfold QO;split
 ·rename_i h;exact(chk10_zero s).1 h
 ·exact qJM
theorem ST {s:qF} (h:VS s):QO s=s:=by unfold QO;rw[if_pos ((chk10_zero s).2 h)]
theorem VS.row_rng {s:qF} (h:VS s) (r:Int):rngS (row s r)=true:=by
 unfold row;split
 ·rfl
 ·by_cases hi:(r-s.Low).toNat<s.Rows.length
  ·exact h.rng _ (zK hi)
  ·rw[qCl (by omega)];rfl
theorem VS_of {s:qF} (ht:Trim s) (f:Int->Span) (hf:∀r,row s r=if-60<=r/\r<60 then nrm (f r) else⟨0,0⟩) (hr:∀r,-60<=r->r<60->rngS (nrm (f r))=true):VS s:=by
 have bnd:s.Rows≠[]->-60<=s.Low/\s.Low+s.Rows.length<=60:=λhne=>by
  have hl:0<s.Rows.length:=uq.2 hne;have k1:=qDn (s:=s) (i:=0);have k2:=qDn (s:=s) (i:=s.Rows.length-1);have f1:=ht.first hne;have f2:=ht.last hne;rw[<-k1,hf] at f1;rw[<-k2,hf] at f2;split at f1
  ·split at f2
   ·omega
   ·exact absurd f2 (by decide)
  ·exact absurd f1 (by decide)
 have el:∀x∈s.Rows,∃r,-60<=r/\r<60/\x=nrm (f r):=λx hx=>by
  obtain⟨i,hi,e⟩:=uV.1 hx;have hne:s.Rows≠[]:=List.ne_nil_of_mem hx;have b:=bnd hne;have k:=qDn (s:=s) (i:=i);rw[hf,if_pos (by omega)] at k;refine⟨s.Low+i,by omega,by omega,?_⟩;rw[k,ki,ks hi,<-e];rfl
 refine⟨ht,?_,?_,?_,λx hx=>?_,λx hx he=>?_⟩
 ·by_cases hne:s.Rows=[]
  ·rw[hne];simp
  ·have:=bnd hne;omega
 ·by_cases hne:s.Rows=[]
  ·rw[ht.nil hne];decide
  ·have:=bnd hne;omega
 ·by_cases hne:s.Rows=[]
  ·rw[ht.nil hne,hne];decide
  ·have:=bnd hne;omega
 ·obtain⟨r,h1,h2,rfl⟩:=el x hx;exact hr r h1 h2
 ·obtain⟨r,h1,h2,rfl⟩:=el x hx;rw[qA6] at he;exact AS he
end Saw
end Go.SL

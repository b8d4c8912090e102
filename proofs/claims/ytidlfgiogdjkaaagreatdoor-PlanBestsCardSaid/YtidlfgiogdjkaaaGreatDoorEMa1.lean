/- Plain models that this seat's program does not reach. -/
import Derived.Test.YtidlfgiogdjkaaaGreatDoorEMod
import Derived.Test.YtidlfgiogdjkaaaGreatDoorYa5
set_option linter.unusedVariables false
set_option linter.unusedSimpArgs false
namespace Go.SL
namespace Saw
end Saw
end Go.SL

namespace Go.SL
theorem jF :FUEL=4611686018427387904:=by unfold FUEL;rfl
theorem qIc {n:Int} (h1: -9223372036854775808<=n) (h2:n<=9223372036854775807):w64 n=n:=by
 unfold w64 IntKind.wrap;simp only[IntKind.bits,IntKind.signed,Bool.true_and];split
 ·rename_i h;have h':n % 2^64≥2^(64-1):=uj h;omega
 ·rename_i h;have h':¬n % 2^64≥2^(64-1):=λhh=>h (kd hh);omega
theorem qK {n:Int} (h: -9223372036854775808<=n/\n<=9223372036854775807):w64 n=n:=qIc h.1 h.2
theorem qU {i:Int} {n:Nat} (h:0<=i/\i<(n:Int)):inb i n=true:=by unfold inb;exact kd h
theorem ZQ {i:Int} {n:Nat} (h0:0<=i) (h1:i<(n:Int)):inb i n=true:=by unfold inb;exact kd ⟨h0,h1⟩
theorem nz_t {b:Int} (h:b≠0):nz b=true:=by unfold nz;exact kd h
theorem room_t {n b:Nat} (h:n*b<=140737488355328):room n b=true:=by unfold room;exact kd h
theorem qY {x:Nat} (h:x<4611686018427387904):w64 ((x:Int)+1)=((x+1:Nat):Int):=by rw[qK (by omega)];omega
theorem VM {α:Type} [Inhabited α] (l:List α) (x:Nat) (h:x<l.length):l.drop x=l.getD x du::l.drop (x+1):=by
 rw[List.drop_eq_getElem_cons h,kg,kt h];rfl
theorem jE {α:Type} [Inhabited α] {l:List α} {x:Nat} (h:x<l.length):l.getD x du∈l:=by
 rw[kg,kt h];exact gg h
theorem jL {a b m n:Int} (h1: -m<=a) (h2:a<=m) (h3: -n<=b) (h4:b<=n) (hm:0<=m) (hn:0<=n): -(m*n)<=a*b/\a*b<=m*n:=by
 constructor
 ·have e1:=kC (show 0<=m-a by omega) (show 0<=n+b by omega);have e2:=kC (show 0<=m+a by omega) (show 0<=n-b by omega);have e3:=kC (show 0<=m+a by omega) (show 0<=n+b by omega);rcases Int.le_total 0 b with hb|hb
  ·have:=kC (show 0<=m+a by omega) hb;have h5:=kC hm (show 0<=n-b by omega);simp only[uF,uz,Int.sub_mul,gn] at*;omega
  ·have:=kC (show 0<=m-a by omega) (show 0<=-b by omega);have h5:=kC hm (show 0<=n+b by omega);simp only[uF,uz,Int.sub_mul,gn,Int.mul_neg] at*;omega
 ·rcases Int.le_total 0 b with hb|hb
  ·have:=kC (show 0<=m-a by omega) hb;have h5:=kC hm (show 0<=n-b by omega);simp only[uF,uz,Int.sub_mul,gn] at*;omega
  ·have:=kC (show 0<=m+a by omega) (show 0<=-b by omega);have h5:=kC hm (show 0<=n+b by omega);simp only[uF,uz,Int.sub_mul,gn,Int.mul_neg] at*;omega
end Go.SL

namespace Go.SL
theorem qVI {α:Type} [Inhabited α] {l t:List α} (h:l.length=t.length) (hj:∀j,j<l.length->l.getD j du=t.getD j du):l=t:=by
 apply List.ext_getElem h;intro i h1 h2;have:=hj i h1
 rwa [kg,kg,kt h1,kt h2] at this
theorem OV {α:Type} [Inhabited α] {l:List α} {x:Nat} (v:α) (h:x<l.length):(l.set x v).getD x du=v:=by
 rw[kg,List.getElem?_set_self h];rfl
theorem LB {α:Type} [Inhabited α] {l:List α} {x j:Nat} (v:α) (h:x≠j):(l.set x v).getD j du=l.getD j du:=by
 rw[kg,List.getElem?_set_ne h,<-kg]
theorem qKr {n b:Nat} (h:n*b<=140737488355328) (hn:n<=9223372036854775807):mkOk (n:Int) b=true:=by
 unfold mkOk;exact kd ⟨Int.natCast_nonneg n,by rw[<-Int.natCast_mul,uY];exact Int.ofNat_le.2 h,Int.ofNat_le.2 hn⟩
end Go.SL

namespace Go.SL
theorem le_imin {a b X:Int}:X<=imin a b↔X<=a/\X<=b:=by unfold imin;split<;>omega
theorem q1Q {a b X:Int}:imax a b<=X↔a<=X/\b<=X:=by unfold imax;split<;>omega
theorem imin_or (a b:Int):(imin a b=a/\a<=b)\/(imin a b=b/\b<=a):=by unfold imin;split<;>omega
theorem jN (a b:Int):(imax a b=a/\b<=a)\/(imax a b=b/\a<=b):=by unfold imax;split<;>omega
def run {α σ ρ:Type} (step:Nat->α->σ->ρ⊕σ):Nat->List α->σ->ρ⊕σ
 |_,[],s=> .inr s
 |x,a::l,s=>match step x a s with
  | .inl r=> .inl r
  | .inr s'=>run step (x+1) l s'
theorem qU9 {α σ ρ β:Type} [Inhabited α] (l:List α) (L:Nat->σ->Int->Option β) (idx:Nat->Int) (step:Nat->α->σ->ρ⊕σ) (fin:ρ⊕σ->β) (Inv:Nat->σ->Prop)
  (h0:∀n x s,x<l.length->Inv x s->match step x (l.getD x du) s with| .inl r=>L (n+1) s (idx x)=some (fin (.inl r))| .inr s'=>L (n+1) s (idx x)=L n s' (idx (x+1))/\Inv (x+1) s')
  (h1:∀n s,Inv l.length s->L (n+1) s (idx l.length)=some (fin (.inr s))):
  ∀(n x:Nat) (s:σ),l.length<x+n->x<=l.length->Inv x s->L n s (idx x)=some (fin (run step x (l.drop x) s))
 |0,x,s,hn,hx,_=>by omega
 |n+1,x,s,hn,hx,hi=>by
  by_cases h:x<l.length
  ·have k:=h0 n x s h hi;rw[VM l x h];unfold run;cases hs:step x (l.getD x du) s with
   |inl r=>rw[hs] at k;exact k
   |inr s'=>
    rw[hs] at k;rw[k.1];exact qU9 l L idx step fin Inv h0 h1 n (x+1) s' (by omega) (by omega) k.2
  ·have e:x=l.length:=by omega
   subst e;rw[List.drop_length];exact h1 n s hi
theorem run_inv {α σ ρ:Type} [Inhabited α] (l:List α) (step:Nat->α->σ->ρ⊕σ) (Inv:Nat->σ->Prop) (h:∀x s s',x<l.length->Inv x s->step x (l.getD x du) s= .inr s'->Inv (x+1) s'):
  ∀(x:Nat) (s s':σ),x<=l.length->Inv x s->run step x (l.drop x) s= .inr s'->Inv l.length s':=by
 intro x
 induction hk:l.length-x generalizing x with
 |zero=>
  intro s s' hx hi hr;have e:x=l.length:=by omega
  subst e;rw[List.drop_length] at hr;cases hr;exact hi
 |succ k ih=>
  intro s s' hx hi hr;have h':x<l.length:=by omega
  rw[VM l x h'] at hr;unfold run at hr;cases hs:step x (l.getD x du) s with
  |inl r=>rw[hs] at hr;cases hr
  |inr t=>
   rw[hs] at hr;exact ih (x+1) (by omega) t s' (by omega) (h x s t h' hi hs) hr
theorem loop0 {α σ ρ β:Type} [Inhabited α] (l:List α) (L:Nat->σ->Int->Option β) (idx:Nat->Int) (step:Nat->α->σ->ρ⊕σ) (fin:ρ⊕σ->β) (Inv:Nat->σ->Prop) (hl:l.length<=1000000)
  (h0:∀n x s,x<l.length->Inv x s->match step x (l.getD x du) s with| .inl r=>L (n+1) s (idx x)=some (fin (.inl r))| .inr s'=>L (n+1) s (idx x)=L n s' (idx (x+1))/\Inv (x+1) s')
  (h1:∀n s,Inv l.length s->L (n+1) s (idx l.length)=some (fin (.inr s))) {i:Int} (hi:i=idx 0) (s:σ) (hs:Inv 0 s):L FUEL s i=some (fin (run step 0 l s)):=by
 have:=qU9 l L idx step fin Inv h0 h1 FUEL 0 s (by rw[jF];omega) (ud _) hs;rw[hi];simpa using this
def findE {α ε:Type} (bad:α->Option ε):List α->ε⊕Unit
 |[]=> .inr ()
 |a::l=>match bad a with|some e=> .inl e|none=>findE bad l
theorem qVF {α ε:Type} (bad:α->Option ε):∀(l:List α) (x:Nat),run (λ_ a (_:Unit)=>match bad a with|some e=>(.inl e:ε⊕Unit)|none=> .inr ()) x l ()=findE bad l
 |[],_=>rfl
 |a::l,x=>by
  unfold run findE;cases h:bad a with
  |some e=>rfl
  |none=>exact qVF bad l (x+1)
theorem PU {α ε:Type} [Inhabited α] (l:List α) (L:Nat->Int->Option (ε⊕Unit)) (bad:α->Option ε) (hl:l.length<=1000000)
  (h0:∀n x,x<l.length->L (n+1) (x:Int)=match bad (l.getD x du) with|some e=>some (.inl e)|none=>L n ((x+1:Nat):Int))
  (h1:∀n,L (n+1) (l.length:Int)=some (.inr ())):L FUEL 0=some (findE bad l):=by
 have:=loop0 l (λn (_:Unit) x=>L n x) (λx=>(x:Int)) (λ_ a _=>match bad a with|some e=>(.inl e:ε⊕Unit)|none=> .inr ()) (λr=>r) (λ_ _=>True) hl
  (λn x s hx _=>by
   have:=h0 n x hx;cases hb:bad (l.getD x du) with
   |some e=>simp only;rw[this,hb]
   |none=>simp only;rw[this,hb];exact⟨rfl,trivial⟩)
  (λn s _=>h1 n) (i:=0) rfl () trivial
 rw[qVF] at this;exact this
theorem AF {α ε:Type} {bad:α->Option ε}:∀{l:List α},findE bad l= .inr ()↔∀a∈l,bad a=none
 |[]=>by simp[findE]
 |a::l=>by
  unfold findE;cases h:bad a with
  |some e=>simp[h]
  |none=>simp[h,AF (l:=l)]
def foldi {α σ:Type} (f:Nat->α->σ->σ):Nat->List α->σ->σ
 |_,[],s=>s
 |x,a::l,s=>foldi f (x+1) l (f x a s)
theorem run_fold {α σ ρ:Type} (f:Nat->α->σ->σ):∀(l:List α) (x:Nat) (s:σ),run (λx a s=>(.inr (f x a s):ρ⊕σ)) x l s= .inr (foldi f x l s)
 |[],_,_=>rfl
 |a::l,x,s=>by unfold run foldi;exact run_fold f l (x+1) (f x a s)
theorem ZC {α σ β:Type} [Inhabited α] (l:List α) (L:Nat->σ->Int->Option β) (idx:Nat->Int) (f:Nat->α->σ->σ) (out:σ->β) (Inv:Nat->σ->Prop) (hl:l.length<=1000000)
  (h0:∀n x s,x<l.length->Inv x s->L (n+1) s (idx x)=L n (f x (l.getD x du) s) (idx (x+1))/\Inv (x+1) (f x (l.getD x du) s))
  (h1:∀n s,Inv l.length s->L (n+1) s (idx l.length)=some (out s)) {i:Int} (hi:i=idx 0) (s:σ) (hs:Inv 0 s):L FUEL s i=some (out (foldi f 0 l s))/\Inv l.length (foldi f 0 l s):=by
 have k:=loop0 l L idx (λx a s=>(.inr (f x a s):Unit⊕σ)) (λr=>match r with| .inl _=>out s| .inr s=>out s) Inv hl (λn x s hx hi=>h0 n x s hx hi) (λn s hi=>h1 n s hi) hi s hs;rw[run_fold] at k;refine⟨k,?_⟩;exact run_inv l (λx a s=>(.inr (f x a s):Unit⊕σ)) Inv (λx s s' hx hi e=>by cases e;exact(h0 0 x s hx hi).2) 0 s _ (ud _) hs (by rw[gc];exact run_fold f l 0 s)
theorem qMo {α σ:Type} (f:α->σ->σ):∀(l:List α) (x:Nat) (s:σ),foldi (λ_=>f) x l s=l.foldl (λs a=>f a s) s
 |[],_,_=>rfl
 |a::l,x,s=>by unfold foldi;exact qMo f l (x+1) (f a s)
end Go.SL

namespace Go.SL
def sumN :Nat->(Nat->Int)->Int
 |0,_=>0
 |n+1,f=>sumN n f+f n
theorem XG {n:Nat} {f g:Nat->Int} (h:∀i,i<n->f i=g i):sumN n f=sumN n g:=by
 induction n with
 |zero=>rfl
 |succ n ih=>rw[sumN,sumN,ih (λi hi=>h i (by omega)),h n (by omega)]
theorem BK {n:Nat} {f:Nat->Int} (h:∀i,i<n->f i=0):sumN n f=0:=by
 induction n with
 |zero=>rfl
 |succ n ih=>rw[sumN,ih (λi hi=>h i (by omega)),h n (by omega)];rfl
theorem qII (m n:Nat) (f:Nat->Int):sumN (m+n) f=sumN m f+sumN n (λi=>f (m+i)):=by
 induction n with
 |zero=>simp[sumN]
 |succ n ih=>rw[<-uS,sumN,ih,sumN];omega
theorem qE3 (n:Nat) (f g:Nat->Int):sumN n (λi=>f i+g i)=sumN n f+sumN n g:=by
 induction n with
 |zero=>rfl
 |succ n ih=>rw[sumN,sumN,sumN,ih];omega
theorem qNx (n:Nat) (c:Int) (f:Nat->Int):sumN n (λi=>c*f i)=c*sumN n f:=by
 induction n with
 |zero=>simp[sumN]
 |succ n ih=>rw[sumN,sumN,ih,uz]
theorem qQ8 {n:Nat} {f g:Nat->Int} (h:∀i,i<n->f i<=g i):sumN n f<=sumN n g:=by
 induction n with
 |zero=>exact kT _
 |succ n ih=>rw[sumN,sumN];have:=ih (λi hi=>h i (by omega));have:=h n (by omega);omega
theorem qYK (n:Nat) (f:Nat->Int):sumN (n+1) f=f 0+sumN n (λi=>f (i+1)):=by
 have e:=qII 1 n f;rw[Nat.add_comm 1 n] at e;rw[e];have:sumN n (λi=>f (1+i))=sumN n (λi=>f (i+1)):=XG (λi _=>by rw[Nat.add_comm]);rw[this];simp[sumN]
theorem qYT (n:Nat) (c:Int):sumN n (λ_=>c)=n*c:=by
 induction n with
 |zero=>simp[sumN]
 |succ n ih=>rw[sumN,ih,Int.natCast_add,uF];simp
theorem HT {α:Type} [Inhabited α] (F:Nat->α->Int):∀(l:List α) (x:Nat) (s:Int),foldi (λx a s=>s+F x a) x l s=s+sumN l.length (λi=>F (x+i) (l.getD i du))
 |[],x,s=>by simp[foldi,sumN]
 |a::l,x,s=>by
  unfold foldi;rw[HT F l (x+1) (s+F x a),um,qYK];have:sumN l.length (λi=>F (x+1+i) (l.getD i du))=sumN l.length (λi=>F (x+(i+1)) ((a::l).getD (i+1) du)):=XG (λi _=>by rw[show x+1+i=x+(i+1) by omega];simp);rw[this];simp;omega
end Go.SL

namespace Go.SL
def runN {σ ρ:Type} (step:Nat->σ->ρ⊕σ):Nat->Nat->σ->ρ⊕σ
 |_,0,s=> .inr s
 |x,k+1,s=>match step x s with
  | .inl r=> .inl r
  | .inr s'=>runN step (x+1) k s'
theorem qFY {σ ρ β:Type} (N:Nat) (L:Nat->σ->Int->Option β) (step:Nat->σ->ρ⊕σ) (fin:ρ⊕σ->β) (Inv:Nat->σ->Prop)
  (h0:∀n x s,x<N->Inv x s->match step x s with| .inl r=>L (n+1) s (x:Int)=some (fin (.inl r))| .inr s'=>L (n+1) s (x:Int)=L n s' ((x+1:Nat):Int)/\Inv (x+1) s')
  (h1:∀n s,Inv N s->L (n+1) s (N:Int)=some (fin (.inr s))):
  ∀(n x:Nat) (s:σ),N<x+n->x<=N->Inv x s->L n s (x:Int)=some (fin (runN step x (N-x) s))
 |0,x,s,hn,hx,_=>by omega
 |n+1,x,s,hn,hx,hi=>by
  by_cases h:x<N
  ·have k:=h0 n x s h hi;obtain⟨m,hm⟩:∃m,N-x=m+1:=⟨N-x-1,by omega⟩
   rw[hm];unfold runN;cases hs:step x s with
   |inl r=>rw[hs] at k;exact k
   |inr s'=>
    rw[hs] at k;rw[k.1,qFY N L step fin Inv h0 h1 n (x+1) s' (by omega) (by omega) k.2,show N-(x+1)=m by omega]
  ·have e:x=N:=by omega
   subst e;rw[Nat.sub_self];exact h1 n s hi
theorem runN_inv {σ ρ:Type} (step:Nat->σ->ρ⊕σ) (Inv:Nat->σ->Prop) (N:Nat) (h:∀x s s',x<N->Inv x s->step x s= .inr s'->Inv (x+1) s'):
  ∀(k x:Nat) (s s':σ),x+k=N->Inv x s->runN step x k s= .inr s'->Inv N s'
 |0,x,s,s',hx,hi,hr=>by cases hr;exact hx▸hi
 |k+1,x,s,s',hx,hi,hr=>by
  unfold runN at hr;cases hs:step x s with
  |inl r=>rw[hs] at hr;cases hr
  |inr t=>rw[hs] at hr;exact runN_inv step Inv N h k (x+1) t s' (by omega) (h x s t (by omega) hi hs) hr
def findN {ε:Type} (bad:Nat->Option ε):Nat->Nat->ε⊕Unit
 |_,0=> .inr ()
 |x,k+1=>match bad x with
  |some e=> .inl e
  |none=>findN bad (x+1) k
theorem UV {ε:Type} {bad:Nat->Option ε}:∀{k x:Nat},findN bad x k= .inr ()↔∀i,x<=i->i<x+k->bad i=none
 |0,x=>by simp[findN];intro i h1 h2;omega
 |k+1,x=>by
  unfold findN;cases hb:bad x with
  |some e=>simp only[reduceCtorEq,false_iff];intro h;rw[h x (ki _) (by omega)] at hb;cases hb
  |none=>
   simp only[UV (k:=k)];constructor
   ·intro h i h1 h2;by_cases e:i=x
    ·subst e;exact hb
    ·exact h i (by omega) (by omega)
   ·intro h i h1 h2;exact h i (by omega) (by omega)
theorem qMC {ε:Type} {b1 b2:Nat->Option ε}:∀{k x:Nat},(∀i,x<=i->i<x+k->b1 i=b2 i)->findN b1 x k=findN b2 x k
 |0,_,_=>rfl
 |k+1,x,h=>by
  unfold findN;rw[h x (ki _) (by omega),qMC (k:=k) (λi h1 h2=>h i (by omega) (by omega))]
theorem XD {ε:Type} {bad:Nat->Option ε} {e:ε}:∀{k x:Nat},findN bad x k= .inl e->∃i,x<=i/\i<x+k/\bad i=some e/\∀j,x<=j->j<i->bad j=none
 |0,x,h=>by cases h
 |k+1,x,h=>by
  unfold findN at h;cases hb:bad x with
  |some e'=>rw[hb] at h;cases h;exact⟨x,ki _,by omega,hb,λj h1 h2=>by omega⟩
  |none=>
   rw[hb] at h;obtain⟨i,h1,h2,h3,h4⟩:=XD (k:=k) h;refine⟨i,by omega,by omega,h3,λj a b=>?_⟩;by_cases e':j=x
   ·subst e';exact hb
   ·exact h4 j (by omega) b
theorem qSQ {ε:Type} (bad:Nat->Option ε):∀(k x:Nat),runN (λx (_:Unit)=>match bad x with|some e=>(.inl e:ε⊕Unit)|none=> .inr ()) x k ()=findN bad x k
 |0,_=>rfl
 |k+1,x=>by
  unfold runN findN;cases bad x with
  |some e=>rfl
  |none=>exact qSQ bad k (x+1)
theorem QN {ε:Type} (N:Nat) (L:Nat->Int->Option (ε⊕Unit)) (bad:Nat->Option ε) (x:Nat) (hx:x<=N) (hN:N<=1000000000)
  (h0:∀n i,x<=i->i<N->L (n+1) (i:Int)=match bad i with|some e=>some (.inl e)|none=>L n ((i+1:Nat):Int))
  (h1:∀n,L (n+1) (N:Int)=some (.inr ())):L FUEL (x:Int)=some (findN bad x (N-x)):=by
 have k:=qFY N (λn (_:Unit) i=>L n i) (λi _=>match bad i with|some e=>(.inl e:ε⊕Unit)|none=> .inr ()) (λr=>r) (λi _=>x<=i)
  (λn i s hi hxi=>by
   have h:=h0 n i hxi hi;cases hb:bad i with
   |some e=>simp only;rw[h,hb]
   |none=>simp only;rw[h,hb];exact⟨rfl,by omega⟩)
  (λn s _=>h1 n) FUEL x () (by rw[jF];omega) hx (ki _)
 rw[qSQ] at k;exact k
def foldN {σ:Type} (f:Nat->σ->σ):Nat->Nat->σ->σ
 |_,0,s=>s
 |x,k+1,s=>foldN f (x+1) k (f x s)
theorem runN_fold {σ ρ:Type} (f:Nat->σ->σ):∀(k x:Nat) (s:σ),runN (λx s=>(.inr (f x s):ρ⊕σ)) x k s= .inr (foldN f x k s)
 |0,_,_=>rfl
 |k+1,x,s=>by unfold runN foldN;exact runN_fold f k (x+1) (f x s)
theorem zR {σ β:Type} (N:Nat) (L:Nat->σ->Int->Option β) (f:Nat->σ->σ) (out:σ->β) (Inv:Nat->σ->Prop) (x:Nat) (hx:x<=N) (hN:N<=1000000000)
  (h0:∀n i s,i<N->Inv i s->L (n+1) s (i:Int)=L n (f i s) ((i+1:Nat):Int)/\Inv (i+1) (f i s))
  (h1:∀n s,Inv N s->L (n+1) s (N:Int)=some (out s)) (s:σ) (hs:Inv x s):L FUEL s (x:Int)=some (out (foldN f x (N-x) s))/\Inv N (foldN f x (N-x) s):=by
 have k:=qFY N L (λi s=>(.inr (f i s):Unit⊕σ)) (λr=>match r with| .inl _=>out s| .inr s=>out s) Inv (λn i s hi hs=>h0 n i s hi hs) (λn s hs=>h1 n s hs) FUEL x s (by rw[jF];omega) hx hs;rw[runN_fold] at k;refine⟨k,?_⟩;exact runN_inv (λi s=>(.inr (f i s):Unit⊕σ)) Inv N (λi s s' hi hs e=>by cases e;exact(h0 0 i s hi hs).2) (N-x) x s _ (by omega) hs (runN_fold f (N-x) x s)
theorem OX {σ:Type} {f g:Nat->σ->σ}:∀{k x:Nat} {s:σ},(∀i,x<=i->i<x+k->∀s,f i s=g i s)->foldN f x k s=foldN g x k s
 |0,_,_,_=>rfl
 |k+1,x,s,h=>by
  unfold foldN;rw[h x (ki _) (by omega),OX (k:=k) (λi h1 h2 s=>h i (by omega) (by omega) s)]
theorem yE {σ:Type} (f:Nat->σ->σ):∀(k x:Nat) (s:σ),foldN f x (k+1) s=f (x+k) (foldN f x k s)
 |0,x,s=>rfl
 |k+1,x,s=>by
  rw[foldN,yE f k (x+1) (f x s),foldN,show x+1+k=x+(k+1) by omega]
end Go.SL

namespace Go.SL
namespace Saw
def smallc (c:Int):Bool:=decide (97<=c)&&decide (c<=122)
def digitc (c:Int):Bool:=decide (48<=c)&&decide (c<=57)
theorem qOU (c:Int):TP c=some (smallc c):=by
 unfold TP NI smallc;cases decide (97<=c)<;>rfl
theorem qY4 (c:Int):FA c=some (digitc c):=by
 unfold FA BQ digitc;cases decide (48<=c)<;>rfl
theorem qW0 (c:Int):OM c=some (digitc c):=by
 unfold OM AC digitc;show(bif decide (48<=c) then _ else _)=_;cases decide (48<=c)<;>rfl
def badc (b:ByteArray) (i:Nat):Option Bool:=bif smallc (strAt b i)||(digitc (strAt b i)||strAt b i==95) then none else some false
def isNm (b:ByteArray):Bool:=
 if b.size<1\/16<b.size then false
 else bif smallc (strAt b 0) then(match findN (badc b) 1 (b.size-1) with| .inl e=>e| .inr _=>true) else false
theorem qZ2 (b:ByteArray):SA b=some (isNm b):=by
 unfold SA isNm UY;by_cases h1:b.size<1
 ·rw[kd (show(b.size:Int)<1 by omega),if_pos (.inl h1)];rfl
 rw[ka (show¬(b.size:Int)<1 by omega)];by_cases h2:16<b.size
 ·rw[kd (show(b.size:Int)>16 by omega),if_pos (.inr h2)];rfl
 rw[ka (show¬(b.size:Int)>16 by omega),if_neg (by omega),qU (by omega)];have L:jW b FUEL ((1:Nat):Int)=some (findN (badc b) 1 (b.size-1)):=by
  refine QN b.size (jW b) (badc b) 1 (by omega) (by omega) (λn i hi hN=>?_) (λn=>?_)
  ·rw[jW,kd (by omega),qU (by omega)];simp only[kn,ko,qOU,qY4,ke,UP,qY (show i<4611686018427387904 by omega),badc];cases smallc (strAt b i)<;>cases digitc (strAt b i)<;>cases h:strAt b i==95<;>simp[bne,h]
  ·rw[jW,ka (by omega)];rfl
 simp only[kp,kn,qOU,ke,Int.toNat_zero];rw[show(1:Int)=((1:Nat):Int) from rfl,L];cases smallc (strAt b 0) with
 |false=>rfl
 |true=>cases findN (badc b) 1 (b.size-1)<;>rfl
theorem qUc (b:ByteArray):MR b=some (isNm b):=by
 unfold MR isNm MK;by_cases h1:b.size<1
 ·rw[kd (show(b.size:Int)<1 by omega),if_pos (.inl h1)];rfl
 rw[ka (show¬(b.size:Int)<1 by omega)];by_cases h2:16<b.size
 ·rw[kd (show(b.size:Int)>16 by omega),if_pos (.inr h2)];rfl
 rw[ka (show¬(b.size:Int)>16 by omega),if_neg (by omega)];have hs:∀c:Int,decide (c≥97)=decide (97<=c):=λc=>rfl;have L:jV b FUEL ((0:Nat):Int)=some (findN (λi=>bif smallc (strAt b i) then none else if i=0 then some false else badc b i) 0 (b.size-0)):=by
  refine QN b.size (jV b) _ 0 (by omega) (by omega) (λn i hi hN=>?_) (λn=>?_)
  ·rw[jV,kd (by omega),qU (by omega)];simp only[kn,ko,qW0,ke,MF,XY,qY (show i<4611686018427387904 by omega),badc,ZQ (show(0:Int)<=(i:Int) by omega) (show(i:Int)<(b.size:Int) by omega)];by_cases h0:i=0
   ·subst h0;simp only[smallc,hs];cases decide (97<=strAt b 0)<;>cases decide (strAt b 0<=122)<;>rfl
   ·have e:((i:Int)==0)=false:=by rw[kL];omega
    simp only[smallc,hs,e,if_neg h0];cases decide (97<=strAt b i)<;>cases decide (strAt b i<=122)<;>cases h:strAt b i==95<;>cases digitc (strAt b i)<;>simp[bne,h]
  ·rw[jV,ka (by omega)];rfl
 simp only[kp];rw[show(0:Int)=((0:Nat):Int) from rfl,L];obtain⟨m,hm⟩:∃m,b.size=m+1:=⟨b.size-1,by omega⟩
 rw[hm,kF,findN];simp only[if_true];cases hs0:smallc (strAt b 0) with
 |false=>rfl
 |true=>
  simp only[kn];rw[qMC (b2:=badc b) (λi h1 h2=>by
   have:¬i=0:=by omega
   rw[if_neg this];unfold badc;cases smallc (strAt b i)<;>rfl)]
  rw[show m+1-1=m by omega];show((some (findN (badc b) 1 m)).bind _)=_;cases findN (badc b) 1 m<;>rfl
def okSz (n:Int):Bool:=decide (n≥1)&&decide (n<=600)
theorem qZZ (n:Int):RL n=some (okSz n):=by
 unfold RL GI okSz;cases decide (n≥1)<;>rfl
def qCR (n a:Int):Int:=Int.tdiv (n*(1000+a)+999) 1000
theorem qAP {n a:Int} (h1:1<=n) (h2:n<=600) (h3:0<=a) (h4:a<=200):w64 (Int.tdiv (w64 (w64 (n*w64 (1000+a))+999)) 1000)=qCR n a/\n<=qCR n a/\qCR n a<=721:=by
 have h5:w64 (1000+a)=1000+a:=qK (by omega);have hb:=uo h2 (show 1000+a<=1200 by omega) (by omega) (by omega);have ha:=uo (kT n) (show 1000<=1000+a by omega) (by omega) (by omega);have h6:w64 (n*(1000+a))=n*(1000+a):=qK (by omega);have h7:w64 (n*(1000+a)+999)=n*(1000+a)+999:=qK (by omega);rw[h5,h6,h7];have h8:Int.tdiv (n*(1000+a)+999) 1000=(n*(1000+a)+999)/1000:=Int.tdiv_eq_ediv_of_nonneg (by omega);unfold qCR;rw[h8];refine⟨qK (by omega),by omega,by omega⟩
def okG (p:Product):Bool:=okSz p.Thick&&(okSz p.Width&&(decide (0<=p.Allow)&&decide (p.Allow<=200)))
theorem qLm {p:Product}:okG p=true↔(1<=p.Thick/\p.Thick<=600)/\(1<=p.Width/\p.Width<=600)/\0<=p.Allow/\p.Allow<=200:=by
 unfold okG okSz;simp
def qZ (p:Product):Int×Int:=bif okG p then(qCR p.Thick p.Allow,qCR p.Width p.Allow) else(0,0)
theorem qWI (p:Product):0<=(qZ p).1/\(qZ p).1<=721/\0<=(qZ p).2/\(qZ p).2<=721:=by
 unfold qZ;cases h:okG p with
 |false=>simp only[kp];omega
 |true=>
  obtain⟨⟨a,b⟩,⟨c,d⟩,e,f⟩:=qLm.1 h;have g1:=qAP a b e f;have g2:=qAP c d e f;simp only[kn];omega
theorem NU (p:Product):ZO p=some (qZ p)/\PY p=some (qZ p):=by
 unfold ZO PY qCM RH YS DW HV qZ;simp only[qZZ,ke];by_cases h:okG p=true
 ·obtain⟨⟨a,b⟩,⟨c,d⟩,e,f⟩:=qLm.1 h;have g1:=qAP a b e f;have g2:=qAP c d e f;rw[h];unfold okSz;rw[kd (show p.Thick≥1 from a),kd b,kd (show p.Width≥1 from c),kd d,ka (show¬p.Allow<0 by omega),ka (show¬p.Allow>200 by omega)];simp only[Bool.and_self,ky,kn,kp,ke];rw[g1.1,g2.1];exact⟨rfl,rfl⟩
 ·rw[Bool.not_eq_true] at h;have h':=h;unfold okG at h';rw[h];have e1:decide (p.Allow<0)=!decide (0<=p.Allow):=by by_cases q:p.Allow<0<;>simp[q]<;>omega
  have e2:decide (p.Allow>200)=!decide (p.Allow<=200):=by by_cases q:p.Allow>200<;>simp[q]<;>omega
  rw[e1,e2];unfold okSz at h'⊢
  revert h'
  cases decide (p.Thick≥1)<;>cases decide (p.Thick<=600)<;>cases decide (p.Width≥1)<;>cases decide (p.Width<=600)<;>cases decide (0<=p.Allow)<;>cases decide (p.Allow<=200)<;>simp
def badLen (p:Product) (i:Nat):Option Int:=
 if p.Lengths.getD i du<100\/20000<p.Lengths.getD i du then some 9
 else if 0<i/\p.Lengths.getD i du<=p.Lengths.getD (i-1) du then some 11 else none
def badPr (n:Int):Option Int:=if n<0\/1000000<n then some 9 else none
def qFb (p:Product):Int:=
 if p.Lengths.length=0 then 3 else if 8<p.Lengths.length then 4 else if p.Prices.length≠p.Lengths.length then 19
 else match findN (badLen p) 0 p.Lengths.length with
  | .inl e=>e
  | .inr _=>match findE badPr p.Prices with
   | .inl e=>e
   | .inr _=>0
theorem qYG (p:Product) (h:p.Lengths.length<=8):wJ p FUEL 0=some (findN (badLen p) 0 p.Lengths.length)/\wP p FUEL 0=some (findN (badLen p) 0 p.Lengths.length):=by
 refine⟨QN p.Lengths.length (wJ p) (badLen p) 0 (by omega) (by omega) (λn i hi hN=>?_) (λn=>?_),QN p.Lengths.length (wP p) (badLen p) 0 (by omega) (by omega) (λn i hi hN=>?_) (λn=>?_)⟩
 ·rw[wJ,kd (by omega),qU (by omega)];simp only[kn,ko,YC,YB,qY (show i<4611686018427387904 by omega),badLen];by_cases h1:p.Lengths.getD i du<100
  ·rw[kd h1,if_pos (.inl h1)];rfl
  rw[ka h1];by_cases h2:20000<p.Lengths.getD i du
  ·rw[kd (show p.Lengths.getD i du>20000 from h2),if_pos (.inr h2)];rfl
  rw[ka (show¬p.Lengths.getD i du>20000 from h2),if_neg (by omega)];simp only[kp];by_cases h3:0<i
  ·rw[kd (show(i:Int)>0 by omega),show w64 ((i:Int)-1)=((i-1:Nat):Int) by rw[qK (by omega)];omega,qU (by omega)];simp only[kn,ko];by_cases h4:p.Lengths.getD i du<=p.Lengths.getD (i-1) du
   ·rw[kd h4,if_pos ⟨h3,h4⟩];rfl
   ·rw[ka h4,if_neg (λq=>h4 q.2)];rfl
  ·rw[ka (show¬(i:Int)>0 by omega),if_neg (λq=>h3 q.1)];rfl
 ·rw[wJ,ka (by omega)];rfl
 ·rw[wP,kd (by omega),qU (by omega)];simp only[kn,ko,XW,XT,qY (show i<4611686018427387904 by omega),badLen];by_cases h1:p.Lengths.getD i du<100
  ·rw[kd h1,if_pos (.inl h1)];rfl
  rw[ka h1];by_cases h2:20000<p.Lengths.getD i du
  ·rw[kd (show p.Lengths.getD i du>20000 from h2),if_pos (.inr h2)];rfl
  rw[ka (show¬p.Lengths.getD i du>20000 from h2),if_neg (by omega)];simp only[kp];by_cases h3:0<i
  ·rw[kd (show(i:Int)>0 by omega),show w64 ((i:Int)-1)=((i-1:Nat):Int) by rw[qK (by omega)];omega,qU (by omega),qU (by omega)];simp only[kn,ko];by_cases h4:p.Lengths.getD i du<=p.Lengths.getD (i-1) du
   ·rw[kd h4,if_pos ⟨h3,h4⟩];rfl
   ·rw[ka h4,if_neg (λq=>h4 q.2)];rfl
  ·rw[ka (show¬(i:Int)>0 by omega),if_neg (λq=>h3 q.1)];rfl
 ·rw[wP,ka (by omega)];rfl
theorem q0b (p:Product) (h:p.Prices.length<=8):wQ p FUEL 0=some (findE badPr p.Prices)/\wV p FUEL 0=some (findE badPr p.Prices):=by
 refine⟨PU p.Prices (wQ p) badPr (by omega) (λn i hN=>?_) (λn=>?_),PU p.Prices (wV p) badPr (by omega) (λn i hN=>?_) (λn=>?_)⟩
 ·rw[wQ,kd (by omega),qU (by omega)];simp only[kn,ko,YD,qY (show i<4611686018427387904 by omega),badPr];by_cases h1:p.Prices.getD i du<0
  ·rw[kd h1,if_pos (.inl h1)];rfl
  rw[ka h1];by_cases h2:1000000<p.Prices.getD i du
  ·rw[kd (show p.Prices.getD i du>1000000 from h2),if_pos (.inr h2)];rfl
  rw[ka (show¬p.Prices.getD i du>1000000 from h2),if_neg (by omega)];rfl
 ·rw[wQ,ka (by omega)];rfl
 ·rw[wV,kd (by omega),qU (by omega)];simp only[kn,ko,KE,qY (show i<4611686018427387904 by omega),badPr];by_cases h1:p.Prices.getD i du<0
  ·rw[kd h1,if_pos (.inl h1)];rfl
  rw[ka h1];by_cases h2:1000000<p.Prices.getD i du
  ·rw[kd (show p.Prices.getD i du>1000000 from h2),if_pos (.inr h2)];rfl
  rw[ka (show¬p.Prices.getD i du>1000000 from h2),if_neg (by omega)];rfl
 ·rw[wV,ka (by omega)];rfl
theorem q0h (p:Product):XM p=some (qFb p):=by
 unfold XM qFb;by_cases h0:p.Lengths.length=0
 ·rw[if_pos h0,h0];rfl
 rw[if_neg h0,show((p.Lengths.length:Int)==0)=false by rw[kL];omega];by_cases h1:8<p.Lengths.length
 ·rw[if_pos h1,kd (by omega)];rfl
 rw[if_neg h1,ka (by omega)];by_cases h2:p.Prices.length≠p.Lengths.length
 ·rw[if_pos h2,show((p.Prices.length:Int) !=(p.Lengths.length:Int))=true by rw[ua];omega];rfl
 rw[if_neg h2,show((p.Prices.length:Int) !=(p.Lengths.length:Int))=false by rw[kG];omega];simp only[kp];rw[(qYG p (by omega)).2,(q0b p (by omega)).2];cases findN (badLen p) 0 p.Lengths.length with
 |inl e=>rfl
 |inr u=>cases findE badPr p.Prices<;>rfl
def DQ (p:Product):Int:=
 if p.Thick<5\/300<p.Thick\/p.Width<p.Thick\/600<p.Width\/p.Allow<0\/200<p.Allow\/p.Wane<0\/1000<p.Wane then 9
 else if 600<(qZ p).2 then 9 else qFb p
theorem qZ5 (p:Product):JG p=some (DQ p):=by
 unfold JG jY DQ;by_cases h1:p.Thick<5
 ·rw[if_pos (.inl h1),kd h1];rfl
 rw[ka h1];by_cases h2:p.Thick>300
 ·rw[if_pos (by omega),kd h2];rfl
 rw[ka h2];by_cases h3:p.Width<p.Thick
 ·rw[if_pos (by omega),kd h3];rfl
 rw[ka h3];by_cases h4:p.Width>600
 ·rw[if_pos (by omega),kd h4];rfl
 rw[ka h4];simp only[kp];unfold jX;by_cases h5:p.Allow<0
 ·rw[if_pos (by omega),kd h5];rfl
 rw[ka h5];by_cases h6:p.Allow>200
 ·rw[if_pos (by omega),kd h6];rfl
 rw[ka h6];by_cases h7:p.Wane<0
 ·rw[if_pos (by omega),kd h7];rfl
 rw[ka h7];by_cases h8:p.Wane>1000
 ·rw[if_pos (by omega),kd h8];rfl
 rw[ka h8,if_neg (by omega)];simp only[kp,(NU p).1,ke];by_cases h9:600<(qZ p).2
 ·rw[if_pos h9,kd (show(qZ p).2>600 from h9)];rfl
 rw[if_neg h9,ka (show¬(qZ p).2>600 from h9)];unfold qFb;by_cases h0:p.Lengths.length=0
 ·rw[if_pos h0,h0];rfl
 rw[if_neg h0,show((p.Lengths.length:Int)==0)=false by rw[kL];omega];by_cases h1:8<p.Lengths.length
 ·rw[if_pos h1,kd (by omega)];rfl
 rw[if_neg h1,ka (by omega)];by_cases h2:p.Prices.length≠p.Lengths.length
 ·rw[if_pos h2,show((p.Prices.length:Int) !=(p.Lengths.length:Int))=true by rw[ua];omega];rfl
 rw[if_neg h2,show((p.Prices.length:Int) !=(p.Lengths.length:Int))=false by rw[kG];omega];simp only[kp];rw[(qYG p (by omega)).1,(q0b p (by omega)).1];cases findN (badLen p) 0 p.Lengths.length with
 |inl e=>rfl
 |inr u=>cases findE badPr p.Prices<;>rfl
def twin (l:List Product) (x:Nat) (i:Nat):Option Int:=bif strEq ((l.getD i du).Name) ((l.getD x du).Name) then some 7 else none
def badP (l:List Product) (x:Nat):Option Int:=
 bif isNm (l.getD x du).Name then
  match findN (twin l x) 0 x with
  | .inl e=>some e
  | .inr _=>bif DQ (l.getD x du) !=0 then some (DQ (l.getD x du)) else none
 else some 6
def wI (l:List Product):Int:=if 16<l.length then 4 else match findN (badP l) 0 l.length with| .inl e=>e| .inr _=>0
def fnd (l:List Product) (s:ByteArray):Nat->Option (Int×Bool):=λi=>bif strEq ((l.getD i du).Name) s then some ((i:Int),true) else none
theorem Find_eq (l:List Product) (s:ByteArray) (h:l.length<=1000000):SO l s=some (match findN (fnd l s) 0 l.length with| .inl e=>e| .inr _=>(0,false)):=by
 unfold SO;have L:WQ l s FUEL ((0:Nat):Int)=some (findN (fnd l s) 0 l.length):=by
  refine QN l.length (WQ l s) _ 0 (by omega) (by omega) (λn i hi hN=>?_) (λn=>?_)
  ·rw[WQ,kd (by omega),qU (by omega)];simp only[kn,ko,qY (show i<4611686018427387904 by omega),fnd];cases strEq (l.getD i du).Name s<;>rfl
  ·rw[WQ,ka (by omega)];rfl
 rw[show(0:Int)=((0:Nat):Int) from rfl,L];simp only[ke];cases findN (fnd l s) 0 l.length<;>rfl
theorem qSY {α:Type} [Inhabited α] (l:List α) {i x:Nat} (h:i<x):(l.take x).getD i du=l.getD i du:=by
 simp[kg,kY,h]
theorem q0P (l:List Product) {x:Nat} (hx:x<=l.length):(match findN (fnd (l.take x) (l.getD x du).Name) 0 (l.take x).length with| .inl e=>e| .inr _=>((0:Int),false)).2=(match findN (twin l x) 0 x with| .inl _=>true| .inr _=>false)/\∀e,findN (twin l x) 0 x= .inl e->e=7:=by
 have hl:(l.take x).length=x:=by rw[ue];omega
 rw[hl];constructor
 ·cases h1:findN (twin l x) 0 x with
  |inr u=>
   have h2:findN (fnd (l.take x) (l.getD x du).Name) 0 x= .inr ():=by
    rw[UV];intro i a b;have:=UV.1 h1 i a b;unfold twin at this;unfold fnd;rw[qSY l (by omega)];cases hq:strEq (l.getD i du).Name (l.getD x du).Name with
    |true=>rw[hq] at this;cases this
    |false=>rfl
   rw[h2]
  |inl e=>
   obtain⟨i,a,b,c,d⟩:=XD h1;cases h2:findN (fnd (l.take x) (l.getD x du).Name) 0 x with
   |inr u=>
    have:=UV.1 h2 i a b;unfold fnd at this;rw[qSY l (by omega)] at this;unfold twin at c;cases hq:strEq (l.getD i du).Name (l.getD x du).Name with
    |true=>rw[hq] at this;cases this
    |false=>rw[hq] at c;cases c
   |inl e'=>
    obtain⟨j,a',b',c',d'⟩:=XD h2;unfold fnd at c';cases hq:strEq ((l.take x).getD j du).Name (l.getD x du).Name with
    |true=>rw[hq] at c';cases c';rfl
    |false=>rw[hq] at c';cases c'
 ·intro e h;obtain⟨i,a,b,c,d⟩:=XD h;unfold twin at c;cases hq:strEq (l.getD i du).Name (l.getD x du).Name with
  |true=>rw[hq] at c;cases c;rfl
  |false=>rw[hq] at c;cases c
theorem qCb (l:List Product):yK l=some (wI l):=by
 unfold yK wI;by_cases h:16<l.length
 ·rw[if_pos h,kd (by omega)];rfl
 rw[if_neg h,ka (by omega)];have L:ZS l FUEL ((0:Nat):Int)=some (findN (badP l) 0 l.length):=by
  refine QN l.length (ZS l) _ 0 (by omega) (by omega) (λn i hi hN=>?_) (λn=>?_)
  ·rw[ZS,kd (by omega),qU (by omega)];have hs:slOk 0 (i:Int) l.length=true:=by unfold slOk;exact kd (by omega)
   simp only[kn,ko,qY (show i<4611686018427387904 by omega),qZ2,ke,hs,Find_eq (l.take i) (l.getD i du).Name (by rw[ue];omega),qZ5,badP];cases isNm (l.getD i du).Name with
   |false=>rfl
   |true=>
    obtain⟨f1,f2⟩:=q0P l (x:=i) (by omega);simp only[ky,kp,f1];cases hf:findN (twin l i) 0 i with
    |inl e=>rw[f2 e hf];rfl
    |inr u=>
     simp only[kp,kn];by_cases hc:DQ (l.getD i du)=0
     ·rw[hc];rfl
     ·rw[show(DQ (l.getD i du) !=0)=true by rw[ua];exact hc];rfl
  ·rw[ZS,ka (by omega)];rfl
 rw[show(0:Int)=((0:Nat):Int) from rfl,L];simp only[kp,ke];cases findN (badP l) 0 l.length<;>rfl
theorem qBn (l:List Product):XA l=some (wI l):=by
 unfold XA wI;by_cases h:16<l.length
 ·rw[if_pos h,kd (by omega)];rfl
 rw[if_neg h,ka (by omega)];have L:wR l FUEL ((0:Nat):Int)=some (findN (badP l) 0 l.length):=by
  refine QN l.length (wR l) _ 0 (by omega) (by omega) (λn i hi hN=>?_) (λn=>?_)
  ·have L2:YX l (i:Int) FUEL ((0:Nat):Int)=some (findN (twin l i) 0 i):=by
    refine QN i (YX l (i:Int)) _ 0 (by omega) (by omega) (λn j hi hN=>?_) (λn=>?_)
    ·rw[YX,kd (by omega),qU (by omega)];simp only[kn,ko,qY (show j<4611686018427387904 by omega),twin];cases strEq (l.getD j du).Name (l.getD i du).Name<;>rfl
    ·rw[YX,ka (by omega)];rfl
   rw[show((0:Nat):Int)=0 from rfl] at L2;rw[wR,kd (by omega),qU (by omega)];simp only[kn,ko,qY (show i<4611686018427387904 by omega),qUc,ke,L2,q0h,badP,yN,(NU _).2];cases isNm (l.getD i du).Name with
   |false=>rfl
   |true=>
    simp only[ky,kp,kn];cases hf:findN (twin l i) 0 i with
    |inl e=>rfl
    |inr u=>
     simp only[Sum.elim_inr];unfold DQ;by_cases h1:(l.getD i du).Thick<5
     ·rw[if_pos (.inl h1),kd h1];rfl
     rw[ka h1];by_cases h2:(l.getD i du).Thick>300
     ·rw[if_pos (show _\/_ by omega),kd h2];rfl
     rw[ka h2];by_cases h3:(l.getD i du).Width<(l.getD i du).Thick
     ·rw[if_pos (show _\/_ by omega),kd h3];rfl
     rw[ka h3];by_cases h4:(l.getD i du).Width>600
     ·rw[if_pos (show _\/_ by omega),kd h4];rfl
     rw[ka h4];by_cases h5:(l.getD i du).Allow<0
     ·rw[if_pos (show _\/_ by omega),kd h5];rfl
     rw[ka h5];by_cases h6:(l.getD i du).Allow>200
     ·rw[if_pos (show _\/_ by omega),kd h6];rfl
     rw[ka h6];by_cases h7:(l.getD i du).Wane<0
     ·rw[if_pos (show _\/_ by omega),kd h7];rfl
     rw[ka h7];by_cases h8:(l.getD i du).Wane>1000
     ·rw[if_pos (show _\/_ by omega),kd h8];rfl
     rw[ka h8,if_neg (show¬((l.getD i du).Thick<5\/300<(l.getD i du).Thick\/(l.getD i du).Width<(l.getD i du).Thick\/600<(l.getD i du).Width\/(l.getD i du).Allow<0\/200<(l.getD i du).Allow\/(l.getD i du).Wane<0\/1000<(l.getD i du).Wane) by omega)];simp only[kp];by_cases h9:600<(qZ (l.getD i du)).2
     ·rw[if_pos h9,kd (show(qZ (l.getD i du)).2>600 from h9)];rfl
     rw[if_neg h9,ka (show¬(qZ (l.getD i du)).2>600 from h9)];by_cases hc:qFb (l.getD i du)=0
     ·rw[hc];rfl
     ·rw[show(qFb (l.getD i du) !=0)=true by rw[ua];exact hc];rfl
  ·rw[wR,ka (by omega)];rfl
 rw[show(0:Int)=((0:Nat):Int) from rfl,L];simp only[kp,ke];cases findN (badP l) 0 l.length<;>rfl
theorem yT {n b:Nat} (h1:n<=1000000) (h2:b<=1000000):room n b=true:=room_t (by
 have:=Nat.mul_le_mul h1 h2;omega)
theorem wO {n b:Nat} (h:n<=1000000/\b<=1000000):room n b=true:=yT h.1 h.2
def sizStep (l:List Product) (t:Int) (i:Nat) (s:List Int×List Int):List Int×List Int:=
 bif (qZ (l.getD i du)).1==t then(s.1++[(qZ (l.getD i du)).2],s.2++[(i:Int)])
 else bif (qZ (l.getD i du)).2==t then(s.1++[(qZ (l.getD i du)).1],s.2++[(i:Int)])
 else s
def zH (l:List Product) (t:Int):List Int×List Int:=if wI l≠0 then([],[]) else foldN (sizStep l t) 0 l.length ([],[])
theorem qHi {l:List Product} {t:Int} {i:Nat} {s:List Int×List Int} (h:s.1.length<=i/\s.2.length<=i):(sizStep l t i s).1.length<=i+1/\(sizStep l t i s).2.length<=i+1:=by
 unfold sizStep;cases (qZ (l.getD i du)).1==t with
 |true=>simp;omega
 |false=>cases (qZ (l.getD i du)).2==t with
  |true=>simp;omega
  |false=>simp;omega
theorem qAJ {l:List Product} (h:¬wI l≠0):l.length<=16:=by
 unfold wI at h;by_cases q:16<l.length
 ·rw[if_pos q] at h;exact absurd (by decide) h
 ·omega
theorem qIY (l:List Product) (t:Int):NW l t=some (zH l t)/\FT l t=some (zH l t):=by
 unfold NW FT zH;rw[qCb,qBn];simp only[ke];by_cases hc:wI l≠0
 ·rw[if_pos hc,show(wI l !=0)=true by rw[ua];exact hc];exact⟨rfl,rfl⟩
 rw[if_neg hc,show(wI l !=0)=false by rw[kG];omega];simp only[kp];have hl:=qAJ hc;have A:yG l t FUEL [] [] ((0:Nat):Int)=some (foldN (sizStep l t) 0 (l.length-0) ([],[])):=by
  refine(zR l.length (λn (s:List Int×List Int) i=>yG l t n s.1 s.2 i) (sizStep l t) (λs=>s) (λi s=>s.1.length<=i/\s.2.length<=i) 0 (by omega) (by omega) (λn i s hN hi=>?_) (λn s _=>?_) ([],[]) ⟨by simp,by simp⟩).1
  ·refine⟨?_,qHi hi⟩;obtain⟨s1,s2⟩:=s
   try simp only at hi
   try simp only
   rw[yG,kd (by omega),qU (by omega)];simp only[kn,ko,qY (show i<4611686018427387904 by omega),(NU _).1,ke,OY,CP,yT (show s1.length+1<=1000000 by omega) (show 8<=1000000 by omega),yT (show s2.length+1<=1000000 by omega) (show 8<=1000000 by omega),sizStep];rw[show(t==(qZ (l.getD i du)).1)=((qZ (l.getD i du)).1==t) from gp.2 (by rw[uG,uG];exact eq_comm),show(t==(qZ (l.getD i du)).2)=((qZ (l.getD i du)).2==t) from gp.2 (by rw[uG,uG];exact eq_comm)];cases (qZ (l.getD i du)).1==t<;>cases (qZ (l.getD i du)).2==t<;>rfl
  ·rw[yG,ka (by omega)];rfl
 have B:yL l t FUEL [] [] ((0:Nat):Int)=some (foldN (sizStep l t) 0 (l.length-0) ([],[])):=by
  refine(zR l.length (λn (s:List Int×List Int) i=>yL l t n s.1 s.2 i) (sizStep l t) (λs=>s) (λi s=>s.1.length<=i/\s.2.length<=i) 0 (by omega) (by omega) (λn i s hN hi=>?_) (λn s _=>?_) ([],[]) ⟨by simp,by simp⟩).1
  ·refine⟨?_,qHi hi⟩;obtain⟨s1,s2⟩:=s
   try simp only at hi
   try simp only
   rw[yL,kd (by omega),qU (by omega)];simp only[kn,ko,qY (show i<4611686018427387904 by omega),(NU _).2,ke,GY,yT (show s1.length+1<=1000000 by omega) (show 8<=1000000 by omega),yT (show s2.length+1<=1000000 by omega) (show 8<=1000000 by omega),sizStep];cases (qZ (l.getD i du)).1==t<;>cases (qZ (l.getD i du)).2==t<;>rfl
  ·rw[yL,ka (by omega)];rfl
 rw[show((0:Nat):Int)=0 from rfl] at A B;rw[A,B];exact⟨rfl,rfl⟩
theorem qCZ (l:List Product) (t:Int):(zH l t).1.length<=16/\(zH l t).2.length<=16:=by
 unfold zH;by_cases hc:wI l≠0
 ·rw[if_pos hc];simp
 rw[if_neg hc];have hl:=qAJ hc;have:∀k,(foldN (sizStep l t) 0 k ([],[])).1.length<=k/\(foldN (sizStep l t) 0 k ([],[])).2.length<=k:=by
  intro k
  induction k with
  |zero=>simp[foldN]
  |succ k ih=>rw[yE,kw];exact qHi ih
 have:=this l.length;omega
end Saw
end Go.SL

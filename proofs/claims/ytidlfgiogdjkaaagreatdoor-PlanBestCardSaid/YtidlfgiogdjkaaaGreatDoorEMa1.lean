import Derived.Test.YtidlfgiogdjkaaaGreatDoorEMod
import Derived.Test.YtidlfgiogdjkaaaGreatDoorYa5
set_option linter.unusedVariables false
set_option linter.unusedSimpArgs false
namespace Go.SL
namespace Saw
end Saw
end Go.SL
namespace Go.SL
theorem FUEL_eq :FUEL=4611686018427387904:=by unfold FUEL;rfl
theorem qF {n:Int} (h1: -9223372036854775808<=n) (h2:n<=9223372036854775807):w64 n=n:=by
 unfold w64 IntKind.wrap;simp only[IntKind.bits,IntKind.signed,Bool.true_and];split
 ·rename_i h;have h':n % 2^64≥2^(64-1):=of_decide_eq_true h;omega
 ·rename_i h;have h':¬n % 2^64≥2^(64-1):=λhh=>h (decide_eq_true hh);omega
theorem qL {i:Int} {n:Nat} (h0:0<=i) (h1:i<(n:Int)):inb i n=true:=by unfold inb;exact decide_eq_true ⟨h0,h1⟩
theorem nz_t {b:Int} (h:b≠0):nz b=true:=by unfold nz;exact decide_eq_true h
theorem room_t {n b:Nat} (h:n*b<=140737488355328):room n b=true:=by unfold room;exact decide_eq_true h
theorem qP {x:Nat} (h:x<4611686018427387904):w64 ((x:Int)+1)=((x+1:Nat):Int):=by rw[qF (by omega) (by omega)];omega
theorem XQ {α:Type} [Inhabited α] (l:List α) (x:Nat) (h:x<l.length):l.drop x=l.getD x default::l.drop (x+1):=by
 rw[List.drop_eq_getElem_cons h,List.getD_eq_getElem?_getD,List.getElem?_eq_getElem h];rfl
theorem jS {α:Type} [Inhabited α] {l:List α} {x:Nat} (h:x<l.length):l.getD x default∈l:=by
 rw[List.getD_eq_getElem?_getD,List.getElem?_eq_getElem h];exact List.getElem_mem h
theorem WC {a b m n:Int} (h1: -m<=a) (h2:a<=m) (h3: -n<=b) (h4:b<=n) (hm:0<=m) (hn:0<=n): -(m*n)<=a*b/\a*b<=m*n:=by
 constructor
 ·have e1:=Int.mul_nonneg (show 0<=m-a by omega) (show 0<=n+b by omega);have e2:=Int.mul_nonneg (show 0<=m+a by omega) (show 0<=n-b by omega);have e3:=Int.mul_nonneg (show 0<=m+a by omega) (show 0<=n+b by omega);rcases Int.le_total 0 b with hb|hb
  ·have:=Int.mul_nonneg (show 0<=m+a by omega) hb;have h5:=Int.mul_nonneg hm (show 0<=n-b by omega);simp only[Int.add_mul,Int.mul_add,Int.sub_mul,Int.mul_sub] at*;omega
  ·have:=Int.mul_nonneg (show 0<=m-a by omega) (show 0<=-b by omega);have h5:=Int.mul_nonneg hm (show 0<=n+b by omega);simp only[Int.add_mul,Int.mul_add,Int.sub_mul,Int.mul_sub,Int.mul_neg] at*;omega
 ·rcases Int.le_total 0 b with hb|hb
  ·have:=Int.mul_nonneg (show 0<=m-a by omega) hb;have h5:=Int.mul_nonneg hm (show 0<=n-b by omega);simp only[Int.add_mul,Int.mul_add,Int.sub_mul,Int.mul_sub] at*;omega
  ·have:=Int.mul_nonneg (show 0<=m+a by omega) (show 0<=-b by omega);have h5:=Int.mul_nonneg hm (show 0<=n+b by omega);simp only[Int.add_mul,Int.mul_add,Int.sub_mul,Int.mul_sub,Int.mul_neg] at*;omega
end Go.SL
namespace Go.SL
theorem qO1 {α:Type} [Inhabited α] {l t:List α} (h:l.length=t.length) (hj:∀j,j<l.length->l.getD j default=t.getD j default):l=t:=by
 apply List.ext_getElem h;intro i h1 h2;have:=hj i h1
 rwa [List.getD_eq_getElem?_getD,List.getD_eq_getElem?_getD,List.getElem?_eq_getElem h1,List.getElem?_eq_getElem h2] at this
theorem CO {α:Type} [Inhabited α] {l:List α} {x:Nat} (v:α) (h:x<l.length):(l.set x v).getD x default=v:=by
 rw[List.getD_eq_getElem?_getD,List.getElem?_set_self h];rfl
theorem HO {α:Type} [Inhabited α] {l:List α} {x j:Nat} (v:α) (h:x≠j):(l.set x v).getD j default=l.getD j default:=by
 rw[List.getD_eq_getElem?_getD,List.getElem?_set_ne h,<-List.getD_eq_getElem?_getD]
theorem qKe {n b:Nat} (h:n*b<=140737488355328) (hn:n<=9223372036854775807):mkOk ((n:Nat):Int) b=true:=by
 unfold mkOk;exact decide_eq_true ⟨Int.natCast_nonneg n,by rw[<-Int.natCast_mul,Nat.mul_comm];exact Int.ofNat_le.2 h,Int.ofNat_le.2 hn⟩
end Go.SL
namespace Go.SL
theorem le_imin {a b X:Int}:X<=imin a b↔X<=a/\X<=b:=by unfold imin;split<;>omega
theorem qTQ {a b X:Int}:imax a b<=X↔a<=X/\b<=X:=by unfold imax;split<;>omega
theorem imin_or (a b:Int):(imin a b=a/\a<=b)\/(imin a b=b/\b<=a):=by unfold imin;split<;>omega
theorem JA (a b:Int):(imax a b=a/\b<=a)\/(imax a b=b/\a<=b):=by unfold imax;split<;>omega
def run {α σ ρ:Type} (step:Nat->α->σ->ρ⊕σ):Nat->List α->σ->ρ⊕σ
 |_,[],s=> .inr s
 |x,a::l,s=>match step x a s with
  | .inl r=> .inl r
  | .inr s'=>run step (x+1) l s'
theorem qPr {α σ ρ β:Type} [Inhabited α] (l:List α) (L:Nat->σ->Int->Option β) (idx:Nat->Int) (step:Nat->α->σ->ρ⊕σ) (fin:ρ⊕σ->β) (Inv:Nat->σ->Prop)
  (h0:∀n x s,x<l.length->Inv x s->match step x (l.getD x default) s with| .inl r=>L (n+1) s (idx x)=some (fin (.inl r))| .inr s'=>L (n+1) s (idx x)=L n s' (idx (x+1))/\Inv (x+1) s')
  (h1:∀n s,Inv l.length s->L (n+1) s (idx l.length)=some (fin (.inr s))):
  ∀(n x:Nat) (s:σ),l.length<x+n->x<=l.length->Inv x s->L n s (idx x)=some (fin (run step x (l.drop x) s))
 |0,x,s,hn,hx,_=>by omega
 |n+1,x,s,hn,hx,hi=>by
  by_cases h:x<l.length
  ·have k:=h0 n x s h hi;rw[XQ l x h];unfold run;cases hs:step x (l.getD x default) s with
   |inl r=>rw[hs] at k;exact k
   |inr s'=>
    rw[hs] at k;rw[k.1];exact qPr l L idx step fin Inv h0 h1 n (x+1) s' (by omega) (by omega) k.2
  ·have e:x=l.length:=by omega
   subst e;rw[List.drop_length];exact h1 n s hi
theorem run_inv {α σ ρ:Type} [Inhabited α] (l:List α) (step:Nat->α->σ->ρ⊕σ) (Inv:Nat->σ->Prop) (h:∀x s s',x<l.length->Inv x s->step x (l.getD x default) s= .inr s'->Inv (x+1) s'):
  ∀(x:Nat) (s s':σ),x<=l.length->Inv x s->run step x (l.drop x) s= .inr s'->Inv l.length s':=by
 intro x
 induction hk:l.length-x generalizing x with
 |zero=>
  intro s s' hx hi hr;have e:x=l.length:=by omega
  subst e;rw[List.drop_length] at hr;cases hr;exact hi
 |succ k ih=>
  intro s s' hx hi hr;have h':x<l.length:=by omega
  rw[XQ l x h'] at hr;unfold run at hr;cases hs:step x (l.getD x default) s with
  |inl r=>rw[hs] at hr;cases hr
  |inr t=>
   rw[hs] at hr;exact ih (x+1) (by omega) t s' (by omega) (h x s t h' hi hs) hr
theorem loop0 {α σ ρ β:Type} [Inhabited α] (l:List α) (L:Nat->σ->Int->Option β) (idx:Nat->Int) (step:Nat->α->σ->ρ⊕σ) (fin:ρ⊕σ->β) (Inv:Nat->σ->Prop) (hl:l.length<=1000000)
  (h0:∀n x s,x<l.length->Inv x s->match step x (l.getD x default) s with| .inl r=>L (n+1) s (idx x)=some (fin (.inl r))| .inr s'=>L (n+1) s (idx x)=L n s' (idx (x+1))/\Inv (x+1) s')
  (h1:∀n s,Inv l.length s->L (n+1) s (idx l.length)=some (fin (.inr s))) {i:Int} (hi:i=idx 0) (s:σ) (hs:Inv 0 s):L FUEL s i=some (fin (run step 0 l s)):=by
 have:=qPr l L idx step fin Inv h0 h1 FUEL 0 s (by rw[FUEL_eq];omega) (Nat.zero_le _) hs;rw[hi];simpa using this
def findE {α ε:Type} (bad:α->Option ε):List α->ε⊕Unit
 |[]=> .inr ()
 |a::l=>match bad a with|some e=> .inl e|none=>findE bad l
theorem qOY {α ε:Type} (bad:α->Option ε):∀(l:List α) (x:Nat),run (λ_ a (_:Unit)=>match bad a with|some e=>(.inl e:ε⊕Unit)|none=> .inr ()) x l ()=findE bad l
 |[],_=>rfl
 |a::l,x=>by
  unfold run findE;cases h:bad a with
  |some e=>rfl
  |none=>exact qOY bad l (x+1)
theorem RH {α ε:Type} [Inhabited α] (l:List α) (L:Nat->Int->Option (ε⊕Unit)) (bad:α->Option ε) (hl:l.length<=1000000)
  (h0:∀n x,x<l.length->L (n+1) ((x:Nat):Int)=match bad (l.getD x default) with|some e=>some (.inl e)|none=>L n ((x+1:Nat):Int))
  (h1:∀n,L (n+1) ((l.length:Nat):Int)=some (.inr ())):L FUEL 0=some (findE bad l):=by
 have:=loop0 l (λn (_:Unit) x=>L n x) (λx=>(x:Int)) (λ_ a _=>match bad a with|some e=>(.inl e:ε⊕Unit)|none=> .inr ()) (λr=>r) (λ_ _=>True) hl
  (λn x s hx _=>by
   have:=h0 n x hx;cases hb:bad (l.getD x default) with
   |some e=>simp only;rw[this,hb]
   |none=>simp only;rw[this,hb];exact⟨rfl,trivial⟩)
  (λn s _=>h1 n) (i:=0) rfl () trivial
 rw[qOY] at this;exact this
theorem GW {α ε:Type} {bad:α->Option ε}:∀{l:List α},findE bad l= .inr ()↔∀a∈l,bad a=none
 |[]=>by simp[findE]
 |a::l=>by
  unfold findE;cases h:bad a with
  |some e=>simp[h]
  |none=>simp[h,GW (l:=l)]
def foldi {α σ:Type} (f:Nat->α->σ->σ):Nat->List α->σ->σ
 |_,[],s=>s
 |x,a::l,s=>foldi f (x+1) l (f x a s)
theorem run_fold {α σ ρ:Type} (f:Nat->α->σ->σ):∀(l:List α) (x:Nat) (s:σ),run (λx a s=>(.inr (f x a s):ρ⊕σ)) x l s= .inr (foldi f x l s)
 |[],_,_=>rfl
 |a::l,x,s=>by unfold run foldi;exact run_fold f l (x+1) (f x a s)
theorem VU {α σ β:Type} [Inhabited α] (l:List α) (L:Nat->σ->Int->Option β) (idx:Nat->Int) (f:Nat->α->σ->σ) (out:σ->β) (Inv:Nat->σ->Prop) (hl:l.length<=1000000)
  (h0:∀n x s,x<l.length->Inv x s->L (n+1) s (idx x)=L n (f x (l.getD x default) s) (idx (x+1))/\Inv (x+1) (f x (l.getD x default) s))
  (h1:∀n s,Inv l.length s->L (n+1) s (idx l.length)=some (out s)) {i:Int} (hi:i=idx 0) (s:σ) (hs:Inv 0 s):L FUEL s i=some (out (foldi f 0 l s))/\Inv l.length (foldi f 0 l s):=by
 have k:=loop0 l L idx (λx a s=>(.inr (f x a s):Unit⊕σ)) (λr=>match r with| .inl _=>out s| .inr s=>out s) Inv hl (λn x s hx hi=>h0 n x s hx hi) (λn s hi=>h1 n s hi) hi s hs;rw[run_fold] at k;refine⟨k,?_⟩;exact run_inv l (λx a s=>(.inr (f x a s):Unit⊕σ)) Inv (λx s s' hx hi e=>by cases e;exact(h0 0 x s hx hi).2) 0 s _ (Nat.zero_le _) hs (by rw[List.drop_zero];exact run_fold f l 0 s)
end Go.SL
namespace Go.SL
def sumN :Nat->(Nat->Int)->Int
 |0,_=>0
 |n+1,f=>sumN n f+f n
theorem yJ {n:Nat} {f g:Nat->Int} (h:∀i,i<n->f i=g i):sumN n f=sumN n g:=by
 induction n with
 |zero=>rfl
 |succ n ih=>rw[sumN,sumN,ih (λi hi=>h i (by omega)),h n (by omega)]
theorem qAl {n:Nat} {f:Nat->Int} (h:∀i,i<n->f i=0):sumN n f=0:=by
 induction n with
 |zero=>rfl
 |succ n ih=>rw[sumN,ih (λi hi=>h i (by omega)),h n (by omega)];rfl
theorem qEh (m n:Nat) (f:Nat->Int):sumN (m+n) f=sumN m f+sumN n (λi=>f (m+i)):=by
 induction n with
 |zero=>simp[sumN]
 |succ n ih=>rw[<-Nat.add_assoc,sumN,ih,sumN];omega
theorem qBB (n:Nat) (f g:Nat->Int):sumN n (λi=>f i+g i)=sumN n f+sumN n g:=by
 induction n with
 |zero=>rfl
 |succ n ih=>rw[sumN,sumN,sumN,ih];omega
theorem qBM (n:Nat) (c:Int) (f:Nat->Int):sumN n (λi=>c*f i)=c*sumN n f:=by
 induction n with
 |zero=>simp[sumN]
 |succ n ih=>rw[sumN,sumN,ih,Int.mul_add]
theorem qMg {n:Nat} {f g:Nat->Int} (h:∀i,i<n->f i<=g i):sumN n f<=sumN n g:=by
 induction n with
 |zero=>exact Int.le_refl _
 |succ n ih=>rw[sumN,sumN];have:=ih (λi hi=>h i (by omega));have:=h n (by omega);omega
theorem qR3 (n:Nat) (f:Nat->Int):sumN (n+1) f=f 0+sumN n (λi=>f (i+1)):=by
 have e:=qEh 1 n f;rw[Nat.add_comm 1 n] at e;rw[e];have:sumN n (λi=>f (1+i))=sumN n (λi=>f (i+1)):=yJ (λi _=>by rw[Nat.add_comm]);rw[this];simp[sumN]
theorem qSb (n:Nat) (c:Int):sumN n (λ_=>c)=n*c:=by
 induction n with
 |zero=>simp[sumN]
 |succ n ih=>rw[sumN,ih,Int.natCast_add,Int.add_mul];simp
theorem qCW {α:Type} [Inhabited α] (F:Nat->α->Int):∀(l:List α) (x:Nat) (s:Int),foldi (λx a s=>s+F x a) x l s=s+sumN l.length (λi=>F (x+i) (l.getD i default))
 |[],x,s=>by simp[foldi,sumN]
 |a::l,x,s=>by
  unfold foldi;rw[qCW F l (x+1) (s+F x a),List.length_cons,qR3];have:sumN l.length (λi=>F (x+1+i) (l.getD i default))=sumN l.length (λi=>F (x+(i+1)) ((a::l).getD (i+1) default)):=yJ (λi _=>by rw[show x+1+i=x+(i+1) by omega];simp);rw[this];simp;omega
end Go.SL
namespace Go.SL
def runN {σ ρ:Type} (step:Nat->σ->ρ⊕σ):Nat->Nat->σ->ρ⊕σ
 |_,0,s=> .inr s
 |x,k+1,s=>match step x s with
  | .inl r=> .inl r
  | .inr s'=>runN step (x+1) k s'
theorem qCC {σ ρ β:Type} (N:Nat) (L:Nat->σ->Int->Option β) (step:Nat->σ->ρ⊕σ) (fin:ρ⊕σ->β) (Inv:Nat->σ->Prop)
  (h0:∀n x s,x<N->Inv x s->match step x s with| .inl r=>L (n+1) s (x:Int)=some (fin (.inl r))| .inr s'=>L (n+1) s (x:Int)=L n s' ((x+1:Nat):Int)/\Inv (x+1) s')
  (h1:∀n s,Inv N s->L (n+1) s (N:Int)=some (fin (.inr s))):
  ∀(n x:Nat) (s:σ),N<x+n->x<=N->Inv x s->L n s (x:Int)=some (fin (runN step x (N-x) s))
 |0,x,s,hn,hx,_=>by omega
 |n+1,x,s,hn,hx,hi=>by
  by_cases h:x<N
  ·have k:=h0 n x s h hi;obtain⟨m,hm⟩:∃m,N-x=m+1:=⟨N-x-1,by omega⟩
   rw[hm];unfold runN;cases hs:step x s with
   |inl r=>rw[hs] at k;exact k
   |inr s'=>
    rw[hs] at k;rw[k.1,qCC N L step fin Inv h0 h1 n (x+1) s' (by omega) (by omega) k.2,show N-(x+1)=m by omega]
  ·have e:x=N:=by omega
   subst e;rw[Nat.sub_self];exact h1 n s hi
theorem runN_inv {σ ρ:Type} (step:Nat->σ->ρ⊕σ) (Inv:Nat->σ->Prop) (N:Nat) (h:∀x s s',x<N->Inv x s->step x s= .inr s'->Inv (x+1) s'):
  ∀(k x:Nat) (s s':σ),x+k=N->Inv x s->runN step x k s= .inr s'->Inv N s'
 |0,x,s,s',hx,hi,hr=>by cases hr;exact hx▸hi
 |k+1,x,s,s',hx,hi,hr=>by
  unfold runN at hr;cases hs:step x s with
  |inl r=>rw[hs] at hr;cases hr
  |inr t=>rw[hs] at hr;exact runN_inv step Inv N h k (x+1) t s' (by omega) (h x s t (by omega) hi hs) hr
def findN {ε:Type} (bad:Nat->Option ε):Nat->Nat->ε⊕Unit
 |_,0=> .inr ()
 |x,k+1=>match bad x with
  |some e=> .inl e
  |none=>findN bad (x+1) k
theorem RK {ε:Type} {bad:Nat->Option ε}:∀{k x:Nat},findN bad x k= .inr ()↔∀i,x<=i->i<x+k->bad i=none
 |0,x=>by simp[findN];intro i h1 h2;omega
 |k+1,x=>by
  unfold findN;cases hb:bad x with
  |some e=>simp only[reduceCtorEq,false_iff];intro h;rw[h x (Nat.le_refl _) (by omega)] at hb;cases hb
  |none=>
   simp only[RK (k:=k)];constructor
   ·intro h i h1 h2;by_cases e:i=x
    ·subst e;exact hb
    ·exact h i (by omega) (by omega)
   ·intro h i h1 h2;exact h i (by omega) (by omega)
theorem qHT {ε:Type} {b1 b2:Nat->Option ε}:∀{k x:Nat},(∀i,x<=i->i<x+k->b1 i=b2 i)->findN b1 x k=findN b2 x k
 |0,_,_=>rfl
 |k+1,x,h=>by
  unfold findN;rw[h x (Nat.le_refl _) (by omega),qHT (k:=k) (λi h1 h2=>h i (by omega) (by omega))]
theorem XL {ε:Type} {bad:Nat->Option ε} {e:ε}:∀{k x:Nat},findN bad x k= .inl e->∃i,x<=i/\i<x+k/\bad i=some e/\∀j,x<=j->j<i->bad j=none
 |0,x,h=>by cases h
 |k+1,x,h=>by
  unfold findN at h;cases hb:bad x with
  |some e'=>rw[hb] at h;cases h;exact⟨x,Nat.le_refl _,by omega,hb,λj h1 h2=>by omega⟩
  |none=>
   rw[hb] at h;obtain⟨i,h1,h2,h3,h4⟩:=XL (k:=k) h;refine⟨i,by omega,by omega,h3,λj a b=>?_⟩;by_cases e':j=x
   ·subst e';exact hb
   ·exact h4 j (by omega) b
theorem qMW {ε:Type} (bad:Nat->Option ε):∀(k x:Nat),runN (λx (_:Unit)=>match bad x with|some e=>(.inl e:ε⊕Unit)|none=> .inr ()) x k ()=findN bad x k
 |0,_=>rfl
 |k+1,x=>by
  unfold runN findN;cases bad x with
  |some e=>rfl
  |none=>exact qMW bad k (x+1)
theorem ZW {ε:Type} (N:Nat) (L:Nat->Int->Option (ε⊕Unit)) (bad:Nat->Option ε) (x:Nat) (hx:x<=N) (hN:N<=1000000000)
  (h0:∀n i,x<=i->i<N->L (n+1) (i:Int)=match bad i with|some e=>some (.inl e)|none=>L n ((i+1:Nat):Int))
  (h1:∀n,L (n+1) (N:Int)=some (.inr ())):L FUEL (x:Int)=some (findN bad x (N-x)):=by
 have k:=qCC N (λn (_:Unit) i=>L n i) (λi _=>match bad i with|some e=>(.inl e:ε⊕Unit)|none=> .inr ()) (λr=>r) (λi _=>x<=i)
  (λn i s hi hxi=>by
   have h:=h0 n i hxi hi;cases hb:bad i with
   |some e=>simp only;rw[h,hb]
   |none=>simp only;rw[h,hb];exact⟨rfl,by omega⟩)
  (λn s _=>h1 n) FUEL x () (by rw[FUEL_eq];omega) hx (Nat.le_refl _)
 rw[qMW] at k;exact k
def foldN {σ:Type} (f:Nat->σ->σ):Nat->Nat->σ->σ
 |_,0,s=>s
 |x,k+1,s=>foldN f (x+1) k (f x s)
theorem runN_fold {σ ρ:Type} (f:Nat->σ->σ):∀(k x:Nat) (s:σ),runN (λx s=>(.inr (f x s):ρ⊕σ)) x k s= .inr (foldN f x k s)
 |0,_,_=>rfl
 |k+1,x,s=>by unfold runN foldN;exact runN_fold f k (x+1) (f x s)
theorem zX {σ β:Type} (N:Nat) (L:Nat->σ->Int->Option β) (f:Nat->σ->σ) (out:σ->β) (Inv:Nat->σ->Prop) (x:Nat) (hx:x<=N) (hN:N<=1000000000)
  (h0:∀n i s,i<N->Inv i s->L (n+1) s (i:Int)=L n (f i s) ((i+1:Nat):Int)/\Inv (i+1) (f i s))
  (h1:∀n s,Inv N s->L (n+1) s (N:Int)=some (out s)) (s:σ) (hs:Inv x s):L FUEL s (x:Int)=some (out (foldN f x (N-x) s))/\Inv N (foldN f x (N-x) s):=by
 have k:=qCC N L (λi s=>(.inr (f i s):Unit⊕σ)) (λr=>match r with| .inl _=>out s| .inr s=>out s) Inv (λn i s hi hs=>h0 n i s hi hs) (λn s hs=>h1 n s hs) FUEL x s (by rw[FUEL_eq];omega) hx hs;rw[runN_fold] at k;refine⟨k,?_⟩;exact runN_inv (λi s=>(.inr (f i s):Unit⊕σ)) Inv N (λi s s' hi hs e=>by cases e;exact(h0 0 i s hi hs).2) (N-x) x s _ (by omega) hs (runN_fold f (N-x) x s)
theorem HD {σ:Type} {f g:Nat->σ->σ}:∀{k x:Nat} {s:σ},(∀i,x<=i->i<x+k->∀s,f i s=g i s)->foldN f x k s=foldN g x k s
 |0,_,_,_=>rfl
 |k+1,x,s,h=>by
  unfold foldN;rw[h x (Nat.le_refl _) (by omega),HD (k:=k) (λi h1 h2 s=>h i (by omega) (by omega) s)]
theorem JZ {σ:Type} (f:Nat->σ->σ):∀(k x:Nat) (s:σ),foldN f x (k+1) s=f (x+k) (foldN f x k s)
 |0,x,s=>rfl
 |k+1,x,s=>by
  rw[foldN,JZ f k (x+1) (f x s),foldN,show x+1+k=x+(k+1) by omega]
end Go.SL
namespace Go.SL
namespace Saw
def smallc (c:Int):Bool:=decide (97<=c)&&decide (c<=122)
def digitc (c:Int):Bool:=decide (48<=c)&&decide (c<=57)
theorem qKw (c:Int):PM c=some (smallc c):=by
 unfold PM GQ smallc;cases decide (97<=c)<;>rfl
theorem qRF (c:Int):DK c=some (digitc c):=by
 unfold DK DH digitc;cases decide (48<=c)<;>rfl
theorem qOE (c:Int):qC1 c=some (digitc c):=by
 unfold qC1 IP digitc;show(bif decide (48<=c) then _ else _)=_;cases decide (48<=c)<;>rfl
def badc (b:ByteArray) (i:Nat):Option Bool:=bif smallc (strAt b i)||(digitc (strAt b i)||strAt b i==95) then none else some false
def isNm (b:ByteArray):Bool:=
 if b.size<1\/16<b.size then false
 else bif smallc (strAt b 0) then(match findN (badc b) 1 (b.size-1) with| .inl e=>e| .inr _=>true) else false
theorem qSJ (b:ByteArray):NB b=some (isNm b):=by
 unfold NB isNm RX;by_cases h1:b.size<1
 ·rw[decide_eq_true (show((b.size:Nat):Int)<1 by omega),if_pos (.inl h1)];rfl
 rw[decide_eq_false (show¬((b.size:Nat):Int)<1 by omega)];by_cases h2:16<b.size
 ·rw[decide_eq_true (show((b.size:Nat):Int)>16 by omega),if_pos (.inr h2)];rfl
 rw[decide_eq_false (show¬((b.size:Nat):Int)>16 by omega),if_neg (by omega),qL (by omega) (by omega)];have L:jB b FUEL ((1:Nat):Int)=some (findN (badc b) 1 (b.size-1)):=by
  refine ZW b.size (jB b) (badc b) 1 (by omega) (by omega) (λn i hi hN=>?_) (λn=>?_)
  ·rw[jB,decide_eq_true (by omega),qL (by omega) (by omega)];simp only[cond_true,Int.toNat_natCast,qKw,qRF,Option.bind_some,RR,qP (show i<4611686018427387904 by omega),badc];cases smallc (strAt b i)<;>cases digitc (strAt b i)<;>cases h:strAt b i==95<;>simp[bne,h]
  ·rw[jB,decide_eq_false (by omega)];rfl
 simp only[cond_false,cond_true,qKw,Option.bind_some,Int.toNat_zero];rw[show(1:Int)=((1:Nat):Int) from rfl,L];cases smallc (strAt b 0) with
 |false=>rfl
 |true=>cases findN (badc b) 1 (b.size-1)<;>rfl
theorem qNg (b:ByteArray):qBI b=some (isNm b):=by
 unfold qBI isNm IA;by_cases h1:b.size<1
 ·rw[decide_eq_true (show((b.size:Nat):Int)<1 by omega),if_pos (.inl h1)];rfl
 rw[decide_eq_false (show¬((b.size:Nat):Int)<1 by omega)];by_cases h2:16<b.size
 ·rw[decide_eq_true (show((b.size:Nat):Int)>16 by omega),if_pos (.inr h2)];rfl
 rw[decide_eq_false (show¬((b.size:Nat):Int)>16 by omega),if_neg (by omega)];have hs:∀c:Int,decide (c≥97)=decide (97<=c):=λc=>rfl;have L:ZU b FUEL ((0:Nat):Int)=some (findN (λi=>bif smallc (strAt b i) then none else if i=0 then some false else badc b i) 0 (b.size-0)):=by
  refine ZW b.size (ZU b) _ 0 (by omega) (by omega) (λn i hi hN=>?_) (λn=>?_)
  ·rw[ZU,decide_eq_true (by omega),qL (by omega) (by omega)];simp only[cond_true,Int.toNat_natCast,qOE,Option.bind_some,EP,PY,qP (show i<4611686018427387904 by omega),badc,qL (show(0:Int)<=(i:Int) by omega) (show(i:Int)<(b.size:Int) by omega)];by_cases h0:i=0
   ·subst h0;simp only[smallc,hs];cases decide (97<=strAt b 0)<;>cases decide (strAt b 0<=122)<;>rfl
   ·have e:((i:Int)==0)=false:=by rw[beq_eq_false_iff_ne];omega
    simp only[smallc,hs,e,if_neg h0];cases decide (97<=strAt b i)<;>cases decide (strAt b i<=122)<;>cases h:strAt b i==95<;>cases digitc (strAt b i)<;>simp[bne,h]
  ·rw[ZU,decide_eq_false (by omega)];rfl
 simp only[cond_false];rw[show(0:Int)=((0:Nat):Int) from rfl,L];obtain⟨m,hm⟩:∃m,b.size=m+1:=⟨b.size-1,by omega⟩
 rw[hm,Nat.sub_zero,findN];simp only[if_true];cases hs0:smallc (strAt b 0) with
 |false=>rfl
 |true=>
  simp only[cond_true];rw[qHT (b2:=badc b) (λi h1 h2=>by
   have:¬i=0:=by omega
   rw[if_neg this];unfold badc;cases smallc (strAt b i)<;>rfl)]
  rw[show m+1-1=m by omega];show((some (findN (badc b) 1 m)).bind _)=_;cases findN (badc b) 1 m<;>rfl
def okSz (n:Int):Bool:=decide (n≥1)&&decide (n<=600)
theorem qTE (n:Int):XZ n=some (okSz n):=by
 unfold XZ TN okSz;cases decide (n≥1)<;>rfl
def CS (n a:Int):Int:=Int.tdiv (n*(1000+a)+999) 1000
theorem SY {n a:Int} (h1:1<=n) (h2:n<=600) (h3:0<=a) (h4:a<=200):w64 (Int.tdiv (w64 (w64 (n*w64 (1000+a))+999)) 1000)=CS n a/\n<=CS n a/\CS n a<=721:=by
 have h5:w64 (1000+a)=1000+a:=qF (by omega) (by omega);have hb:=Int.mul_le_mul h2 (show 1000+a<=1200 by omega) (by omega) (by omega);have ha:=Int.mul_le_mul (Int.le_refl n) (show 1000<=1000+a by omega) (by omega) (by omega);have h6:w64 (n*(1000+a))=n*(1000+a):=qF (by omega) (by omega);have h7:w64 (n*(1000+a)+999)=n*(1000+a)+999:=qF (by omega) (by omega);rw[h5,h6,h7];have h8:Int.tdiv (n*(1000+a)+999) 1000=(n*(1000+a)+999)/1000:=Int.tdiv_eq_ediv_of_nonneg (by omega);unfold CS;rw[h8];refine⟨qF (by omega) (by omega),by omega,by omega⟩
def okG (p:Product):Bool:=okSz p.Thick&&(okSz p.Width&&(decide (0<=p.Allow)&&decide (p.Allow<=200)))
theorem qG1 {p:Product}:okG p=true↔(1<=p.Thick/\p.Thick<=600)/\(1<=p.Width/\p.Width<=600)/\0<=p.Allow/\p.Allow<=200:=by
 unfold okG okSz;simp
def qN (p:Product):Int×Int:=bif okG p then(CS p.Thick p.Allow,CS p.Width p.Allow) else(0,0)
theorem qOV (p:Product):0<=(qN p).1/\(qN p).1<=721/\0<=(qN p).2/\(qN p).2<=721:=by
 unfold qN;cases h:okG p with
 |false=>simp only[cond_false];omega
 |true=>
  obtain⟨⟨a,b⟩,⟨c,d⟩,e,f⟩:=qG1.1 h;have g1:=SY a b e f;have g2:=SY c d e f;simp only[cond_true];omega
theorem SJ (p:Product):QP p=some (qN p)/\CR p=some (qN p):=by
 unfold QP CR qH2 UP WW LC NK qN;simp only[qTE,Option.bind_some];by_cases h:okG p=true
 ·obtain⟨⟨a,b⟩,⟨c,d⟩,e,f⟩:=qG1.1 h;have g1:=SY a b e f;have g2:=SY c d e f;rw[h];unfold okSz;rw[decide_eq_true (show p.Thick≥1 from a),decide_eq_true b,decide_eq_true (show p.Width≥1 from c),decide_eq_true d,decide_eq_false (show¬p.Allow<0 by omega),decide_eq_false (show¬p.Allow>200 by omega)];simp only[Bool.and_self,Bool.not_true,cond_true,cond_false,Option.bind_some];rw[g1.1,g2.1];exact⟨rfl,rfl⟩
 ·rw[Bool.not_eq_true] at h;have h':=h;unfold okG at h';rw[h];have e1:decide (p.Allow<0)=!decide (0<=p.Allow):=by by_cases q:p.Allow<0<;>simp[q]<;>omega
  have e2:decide (p.Allow>200)=!decide (p.Allow<=200):=by by_cases q:p.Allow>200<;>simp[q]<;>omega
  rw[e1,e2];unfold okSz at h'⊢
  revert h'
  cases decide (p.Thick≥1)<;>cases decide (p.Thick<=600)<;>cases decide (p.Width≥1)<;>cases decide (p.Width<=600)<;>cases decide (0<=p.Allow)<;>cases decide (p.Allow<=200)<;>simp
def badLen (p:Product) (i:Nat):Option Int:=
 if p.Lengths.getD i default<100\/20000<p.Lengths.getD i default then some 9
 else if 0<i/\p.Lengths.getD i default<=p.Lengths.getD (i-1) default then some 11 else none
def badPr (n:Int):Option Int:=if n<0\/1000000<n then some 9 else none
def qB2 (p:Product):Int:=
 if p.Lengths.length=0 then 3 else if 8<p.Lengths.length then 4 else if p.Prices.length≠p.Lengths.length then 19
 else match findN (badLen p) 0 p.Lengths.length with
  | .inl e=>e
  | .inr _=>match findE badPr p.Prices with
   | .inl e=>e
   | .inr _=>0
theorem qQU (p:Product) (h:p.Lengths.length<=8):zJ p FUEL 0=some (findN (badLen p) 0 p.Lengths.length)/\wW p FUEL 0=some (findN (badLen p) 0 p.Lengths.length):=by
 refine⟨ZW p.Lengths.length (zJ p) (badLen p) 0 (by omega) (by omega) (λn i hi hN=>?_) (λn=>?_),ZW p.Lengths.length (wW p) (badLen p) 0 (by omega) (by omega) (λn i hi hN=>?_) (λn=>?_)⟩
 ·rw[zJ,decide_eq_true (by omega),qL (by omega) (by omega)];simp only[cond_true,Int.toNat_natCast,WH,WK,qP (show i<4611686018427387904 by omega),badLen];by_cases h1:p.Lengths.getD i default<100
  ·rw[decide_eq_true h1,if_pos (.inl h1)];rfl
  rw[decide_eq_false h1];by_cases h2:20000<p.Lengths.getD i default
  ·rw[decide_eq_true (show p.Lengths.getD i default>20000 from h2),if_pos (.inr h2)];rfl
  rw[decide_eq_false (show¬p.Lengths.getD i default>20000 from h2),if_neg (by omega)];simp only[cond_false];by_cases h3:0<i
  ·rw[decide_eq_true (show(i:Int)>0 by omega),show w64 ((i:Int)-1)=((i-1:Nat):Int) by rw[qF (by omega) (by omega)];omega,qL (by omega) (by omega)];simp only[cond_true,Int.toNat_natCast];by_cases h4:p.Lengths.getD i default<=p.Lengths.getD (i-1) default
   ·rw[decide_eq_true h4,if_pos ⟨h3,h4⟩];rfl
   ·rw[decide_eq_false h4,if_neg (λq=>h4 q.2)];rfl
  ·rw[decide_eq_false (show¬(i:Int)>0 by omega),if_neg (λq=>h3 q.1)];rfl
 ·rw[zJ,decide_eq_false (by omega)];rfl
 ·rw[wW,decide_eq_true (by omega),qL (by omega) (by omega)];simp only[cond_true,Int.toNat_natCast,VK,UX,qP (show i<4611686018427387904 by omega),badLen];by_cases h1:p.Lengths.getD i default<100
  ·rw[decide_eq_true h1,if_pos (.inl h1)];rfl
  rw[decide_eq_false h1];by_cases h2:20000<p.Lengths.getD i default
  ·rw[decide_eq_true (show p.Lengths.getD i default>20000 from h2),if_pos (.inr h2)];rfl
  rw[decide_eq_false (show¬p.Lengths.getD i default>20000 from h2),if_neg (by omega)];simp only[cond_false];by_cases h3:0<i
  ·rw[decide_eq_true (show(i:Int)>0 by omega),show w64 ((i:Int)-1)=((i-1:Nat):Int) by rw[qF (by omega) (by omega)];omega,qL (by omega) (by omega),qL (by omega) (by omega)];simp only[cond_true,Int.toNat_natCast];by_cases h4:p.Lengths.getD i default<=p.Lengths.getD (i-1) default
   ·rw[decide_eq_true h4,if_pos ⟨h3,h4⟩];rfl
   ·rw[decide_eq_false h4,if_neg (λq=>h4 q.2)];rfl
  ·rw[decide_eq_false (show¬(i:Int)>0 by omega),if_neg (λq=>h3 q.1)];rfl
 ·rw[wW,decide_eq_false (by omega)];rfl
theorem qTb (p:Product) (h:p.Prices.length<=8):zT p FUEL 0=some (findE badPr p.Prices)/\wY p FUEL 0=some (findE badPr p.Prices):=by
 refine⟨RH p.Prices (zT p) badPr (by omega) (λn i hN=>?_) (λn=>?_),RH p.Prices (wY p) badPr (by omega) (λn i hN=>?_) (λn=>?_)⟩
 ·rw[zT,decide_eq_true (by omega),qL (by omega) (by omega)];simp only[cond_true,Int.toNat_natCast,WJ,qP (show i<4611686018427387904 by omega),badPr];by_cases h1:p.Prices.getD i default<0
  ·rw[decide_eq_true h1,if_pos (.inl h1)];rfl
  rw[decide_eq_false h1];by_cases h2:1000000<p.Prices.getD i default
  ·rw[decide_eq_true (show p.Prices.getD i default>1000000 from h2),if_pos (.inr h2)];rfl
  rw[decide_eq_false (show¬p.Prices.getD i default>1000000 from h2),if_neg (by omega)];rfl
 ·rw[zT,decide_eq_false (by omega)];rfl
 ·rw[wY,decide_eq_true (by omega),qL (by omega) (by omega)];simp only[cond_true,Int.toNat_natCast,UB,qP (show i<4611686018427387904 by omega),badPr];by_cases h1:p.Prices.getD i default<0
  ·rw[decide_eq_true h1,if_pos (.inl h1)];rfl
  rw[decide_eq_false h1];by_cases h2:1000000<p.Prices.getD i default
  ·rw[decide_eq_true (show p.Prices.getD i default>1000000 from h2),if_pos (.inr h2)];rfl
  rw[decide_eq_false (show¬p.Prices.getD i default>1000000 from h2),if_neg (by omega)];rfl
 ·rw[wY,decide_eq_false (by omega)];rfl
theorem qSY (p:Product):FZ p=some (qB2 p):=by
 unfold FZ qB2;by_cases h0:p.Lengths.length=0
 ·rw[if_pos h0,h0];rfl
 rw[if_neg h0,show(((p.Lengths.length:Nat):Int)==0)=false by rw[beq_eq_false_iff_ne];omega];by_cases h1:8<p.Lengths.length
 ·rw[if_pos h1,decide_eq_true (by omega)];rfl
 rw[if_neg h1,decide_eq_false (by omega)];by_cases h2:p.Prices.length≠p.Lengths.length
 ·rw[if_pos h2,show(((p.Prices.length:Nat):Int) !=((p.Lengths.length:Nat):Int))=true by rw[bne_iff_ne];omega];rfl
 rw[if_neg h2,show(((p.Prices.length:Nat):Int) !=((p.Lengths.length:Nat):Int))=false by rw[bne_eq_false_iff_eq];omega];simp only[cond_false];rw[(qQU p (by omega)).2,(qTb p (by omega)).2];cases findN (badLen p) 0 p.Lengths.length with
 |inl e=>rfl
 |inr u=>cases findE badPr p.Prices<;>rfl
def VQ (p:Product):Int:=
 if p.Thick<5\/300<p.Thick\/p.Width<p.Thick\/600<p.Width\/p.Allow<0\/200<p.Allow\/p.Wane<0\/1000<p.Wane then 9
 else if 600<(qN p).2 then 9 else qB2 p
theorem qSz (p:Product):ZY p=some (VQ p):=by
 unfold ZY jC VQ;by_cases h1:p.Thick<5
 ·rw[if_pos (.inl h1),decide_eq_true h1];rfl
 rw[decide_eq_false h1];by_cases h2:p.Thick>300
 ·rw[if_pos (by omega),decide_eq_true h2];rfl
 rw[decide_eq_false h2];by_cases h3:p.Width<p.Thick
 ·rw[if_pos (by omega),decide_eq_true h3];rfl
 rw[decide_eq_false h3];by_cases h4:p.Width>600
 ·rw[if_pos (by omega),decide_eq_true h4];rfl
 rw[decide_eq_false h4];simp only[cond_false];unfold jD;by_cases h5:p.Allow<0
 ·rw[if_pos (by omega),decide_eq_true h5];rfl
 rw[decide_eq_false h5];by_cases h6:p.Allow>200
 ·rw[if_pos (by omega),decide_eq_true h6];rfl
 rw[decide_eq_false h6];by_cases h7:p.Wane<0
 ·rw[if_pos (by omega),decide_eq_true h7];rfl
 rw[decide_eq_false h7];by_cases h8:p.Wane>1000
 ·rw[if_pos (by omega),decide_eq_true h8];rfl
 rw[decide_eq_false h8,if_neg (by omega)];simp only[cond_false,(SJ p).1,Option.bind_some];by_cases h9:600<(qN p).2
 ·rw[if_pos h9,decide_eq_true (show(qN p).2>600 from h9)];rfl
 rw[if_neg h9,decide_eq_false (show¬(qN p).2>600 from h9)];unfold qB2;by_cases h0:p.Lengths.length=0
 ·rw[if_pos h0,h0];rfl
 rw[if_neg h0,show(((p.Lengths.length:Nat):Int)==0)=false by rw[beq_eq_false_iff_ne];omega];by_cases h1:8<p.Lengths.length
 ·rw[if_pos h1,decide_eq_true (by omega)];rfl
 rw[if_neg h1,decide_eq_false (by omega)];by_cases h2:p.Prices.length≠p.Lengths.length
 ·rw[if_pos h2,show(((p.Prices.length:Nat):Int) !=((p.Lengths.length:Nat):Int))=true by rw[bne_iff_ne];omega];rfl
 rw[if_neg h2,show(((p.Prices.length:Nat):Int) !=((p.Lengths.length:Nat):Int))=false by rw[bne_eq_false_iff_eq];omega];simp only[cond_false];rw[(qQU p (by omega)).1,(qTb p (by omega)).1];cases findN (badLen p) 0 p.Lengths.length with
 |inl e=>rfl
 |inr u=>cases findE badPr p.Prices<;>rfl
def twin (l:List Product) (x:Nat) (i:Nat):Option Int:=bif strEq ((l.getD i default).Name) ((l.getD x default).Name) then some 7 else none
def badP (l:List Product) (x:Nat):Option Int:=
 bif isNm (l.getD x default).Name then
  match findN (twin l x) 0 x with
  | .inl e=>some e
  | .inr _=>bif VQ (l.getD x default) !=0 then some (VQ (l.getD x default)) else none
 else some 6
def zO (l:List Product):Int:=if 16<l.length then 4 else match findN (badP l) 0 l.length with| .inl e=>e| .inr _=>0
def fnd (l:List Product) (s:ByteArray):Nat->Option (Int×Bool):=λi=>bif strEq ((l.getD i default).Name) s then some ((i:Int),true) else none
theorem Find_eq (l:List Product) (s:ByteArray) (h:l.length<=1000000):FT l s=some (match findN (fnd l s) 0 l.length with| .inl e=>e| .inr _=>(0,false)):=by
 unfold FT;have L:ZG l s FUEL ((0:Nat):Int)=some (findN (fnd l s) 0 l.length):=by
  refine ZW l.length (ZG l s) _ 0 (by omega) (by omega) (λn i hi hN=>?_) (λn=>?_)
  ·rw[ZG,decide_eq_true (by omega),qL (by omega) (by omega)];simp only[cond_true,Int.toNat_natCast,qP (show i<4611686018427387904 by omega),fnd];cases strEq (l.getD i default).Name s<;>rfl
  ·rw[ZG,decide_eq_false (by omega)];rfl
 rw[show(0:Int)=((0:Nat):Int) from rfl,L];simp only[Option.bind_some];cases findN (fnd l s) 0 l.length<;>rfl
theorem qM5 {α:Type} [Inhabited α] (l:List α) {i x:Nat} (h:i<x):(l.take x).getD i default=l.getD i default:=by
 simp[List.getD_eq_getElem?_getD,List.getElem?_take,h]
theorem qTa (l:List Product) {x:Nat} (hx:x<=l.length):(match findN (fnd (l.take x) (l.getD x default).Name) 0 (l.take x).length with| .inl e=>e| .inr _=>((0:Int),false)).2=(match findN (twin l x) 0 x with| .inl _=>true| .inr _=>false)/\∀e,findN (twin l x) 0 x= .inl e->e=7:=by
 have hl:(l.take x).length=x:=by rw[List.length_take];omega
 rw[hl];constructor
 ·cases h1:findN (twin l x) 0 x with
  |inr u=>
   have h2:findN (fnd (l.take x) (l.getD x default).Name) 0 x= .inr ():=by
    rw[RK];intro i a b;have:=RK.1 h1 i a b;unfold twin at this;unfold fnd;rw[qM5 l (by omega)];cases hq:strEq (l.getD i default).Name (l.getD x default).Name with
    |true=>rw[hq] at this;cases this
    |false=>rfl
   rw[h2]
  |inl e=>
   obtain⟨i,a,b,c,d⟩:=XL h1;cases h2:findN (fnd (l.take x) (l.getD x default).Name) 0 x with
   |inr u=>
    have:=RK.1 h2 i a b;unfold fnd at this;rw[qM5 l (by omega)] at this;unfold twin at c;cases hq:strEq (l.getD i default).Name (l.getD x default).Name with
    |true=>rw[hq] at this;cases this
    |false=>rw[hq] at c;cases c
   |inl e'=>
    obtain⟨j,a',b',c',d'⟩:=XL h2;unfold fnd at c';cases hq:strEq ((l.take x).getD j default).Name (l.getD x default).Name with
    |true=>rw[hq] at c';cases c';rfl
    |false=>rw[hq] at c';cases c'
 ·intro e h;obtain⟨i,a,b,c,d⟩:=XL h;unfold twin at c;cases hq:strEq (l.getD i default).Name (l.getD x default).Name with
  |true=>rw[hq] at c;cases c;rfl
  |false=>rw[hq] at c;cases c
theorem SE (l:List Product):jM l=some (zO l):=by
 unfold jM zO;by_cases h:16<l.length
 ·rw[if_pos h,decide_eq_true (by omega)];rfl
 rw[if_neg h,decide_eq_false (by omega)];have L:QR l FUEL ((0:Nat):Int)=some (findN (badP l) 0 l.length):=by
  refine ZW l.length (QR l) _ 0 (by omega) (by omega) (λn i hi hN=>?_) (λn=>?_)
  ·rw[QR,decide_eq_true (by omega),qL (by omega) (by omega)];have hs:slOk 0 (i:Int) l.length=true:=by unfold slOk;exact decide_eq_true (by omega)
   simp only[cond_true,Int.toNat_natCast,qP (show i<4611686018427387904 by omega),qSJ,Option.bind_some,hs,Find_eq (l.take i) (l.getD i default).Name (by rw[List.length_take];omega),qSz,badP];cases isNm (l.getD i default).Name with
   |false=>rfl
   |true=>
    obtain⟨f1,f2⟩:=qTa l (x:=i) (by omega);simp only[Bool.not_true,cond_false,f1];cases hf:findN (twin l i) 0 i with
    |inl e=>rw[f2 e hf];rfl
    |inr u=>
     simp only[cond_false,cond_true];by_cases hc:VQ (l.getD i default)=0
     ·rw[hc];rfl
     ·rw[show(VQ (l.getD i default) !=0)=true by rw[bne_iff_ne];exact hc];rfl
  ·rw[QR,decide_eq_false (by omega)];rfl
 rw[show(0:Int)=((0:Nat):Int) from rfl,L];simp only[cond_false,Option.bind_some];cases findN (badP l) 0 l.length<;>rfl
theorem qOA (l:List Product):qDc l=some (zO l):=by
 unfold qDc zO;by_cases h:16<l.length
 ·rw[if_pos h,decide_eq_true (by omega)];rfl
 rw[if_neg h,decide_eq_false (by omega)];have L:wB l FUEL ((0:Nat):Int)=some (findN (badP l) 0 l.length):=by
  refine ZW l.length (wB l) _ 0 (by omega) (by omega) (λn i hi hN=>?_) (λn=>?_)
  ·have L2:KD l (i:Int) FUEL ((0:Nat):Int)=some (findN (twin l i) 0 i):=by
    refine ZW i (KD l (i:Int)) _ 0 (by omega) (by omega) (λn j hi hN=>?_) (λn=>?_)
    ·rw[KD,decide_eq_true (by omega),qL (by omega) (by omega)];simp only[cond_true,Int.toNat_natCast,qP (show j<4611686018427387904 by omega),twin];cases strEq (l.getD j default).Name (l.getD i default).Name<;>rfl
    ·rw[KD,decide_eq_false (by omega)];rfl
   rw[show((0:Nat):Int)=0 from rfl] at L2;rw[wB,decide_eq_true (by omega),qL (by omega) (by omega)];simp only[cond_true,Int.toNat_natCast,qP (show i<4611686018427387904 by omega),qNg,Option.bind_some,L2,qSY,badP,yK,(SJ _).2];cases isNm (l.getD i default).Name with
   |false=>rfl
   |true=>
    simp only[Bool.not_true,cond_false,cond_true];cases hf:findN (twin l i) 0 i with
    |inl e=>rfl
    |inr u=>
     simp only[Sum.elim_inr];unfold VQ;by_cases h1:(l.getD i default).Thick<5
     ·rw[if_pos (.inl h1),decide_eq_true h1];rfl
     rw[decide_eq_false h1];by_cases h2:(l.getD i default).Thick>300
     ·rw[if_pos (show _\/_ by omega),decide_eq_true h2];rfl
     rw[decide_eq_false h2];by_cases h3:(l.getD i default).Width<(l.getD i default).Thick
     ·rw[if_pos (show _\/_ by omega),decide_eq_true h3];rfl
     rw[decide_eq_false h3];by_cases h4:(l.getD i default).Width>600
     ·rw[if_pos (show _\/_ by omega),decide_eq_true h4];rfl
     rw[decide_eq_false h4];by_cases h5:(l.getD i default).Allow<0
     ·rw[if_pos (show _\/_ by omega),decide_eq_true h5];rfl
     rw[decide_eq_false h5];by_cases h6:(l.getD i default).Allow>200
     ·rw[if_pos (show _\/_ by omega),decide_eq_true h6];rfl
     rw[decide_eq_false h6];by_cases h7:(l.getD i default).Wane<0
     ·rw[if_pos (show _\/_ by omega),decide_eq_true h7];rfl
     rw[decide_eq_false h7];by_cases h8:(l.getD i default).Wane>1000
     ·rw[if_pos (show _\/_ by omega),decide_eq_true h8];rfl
     rw[decide_eq_false h8,if_neg (show¬((l.getD i default).Thick<5\/300<(l.getD i default).Thick\/(l.getD i default).Width<(l.getD i default).Thick\/600<(l.getD i default).Width\/(l.getD i default).Allow<0\/200<(l.getD i default).Allow\/(l.getD i default).Wane<0\/1000<(l.getD i default).Wane) by omega)];simp only[cond_false];by_cases h9:600<(qN (l.getD i default)).2
     ·rw[if_pos h9,decide_eq_true (show(qN (l.getD i default)).2>600 from h9)];rfl
     rw[if_neg h9,decide_eq_false (show¬(qN (l.getD i default)).2>600 from h9)];by_cases hc:qB2 (l.getD i default)=0
     ·rw[hc];rfl
     ·rw[show(qB2 (l.getD i default) !=0)=true by rw[bne_iff_ne];exact hc];rfl
  ·rw[wB,decide_eq_false (by omega)];rfl
 rw[show(0:Int)=((0:Nat):Int) from rfl,L];simp only[cond_false,Option.bind_some];cases findN (badP l) 0 l.length<;>rfl
theorem qW {n b:Nat} (h1:n<=1000000) (h2:b<=1000000):room n b=true:=room_t (by
 have:=Nat.mul_le_mul h1 h2;omega)
def sizStep (l:List Product) (t:Int) (i:Nat) (s:List Int×List Int):List Int×List Int:=
 bif (qN (l.getD i default)).1==t then(s.1++[(qN (l.getD i default)).2],s.2++[(i:Int)])
 else bif (qN (l.getD i default)).2==t then(s.1++[(qN (l.getD i default)).1],s.2++[(i:Int)])
 else s
def sizes (l:List Product) (t:Int):List Int×List Int:=if zO l≠0 then([],[]) else foldN (sizStep l t) 0 l.length ([],[])
theorem qCZ {l:List Product} {t:Int} {i:Nat} {s:List Int×List Int} (h:s.1.length<=i/\s.2.length<=i):(sizStep l t i s).1.length<=i+1/\(sizStep l t i s).2.length<=i+1:=by
 unfold sizStep;cases (qN (l.getD i default)).1==t with
 |true=>simp;omega
 |false=>cases (qN (l.getD i default)).2==t with
  |true=>simp;omega
  |false=>simp;omega
theorem EG {l:List Product} (h:¬zO l≠0):l.length<=16:=by
 unfold zO at h;by_cases q:16<l.length
 ·rw[if_pos q] at h;exact absurd (by decide) h
 ·omega
theorem qIF (l:List Product) (t:Int):GD l t=some (sizes l t)/\qHW l t=some (sizes l t):=by
 unfold GD qHW sizes;rw[SE,qOA];simp only[Option.bind_some];by_cases hc:zO l≠0
 ·rw[if_pos hc,show(zO l !=0)=true by rw[bne_iff_ne];exact hc];exact⟨rfl,rfl⟩
 rw[if_neg hc,show(zO l !=0)=false by rw[bne_eq_false_iff_eq];omega];simp only[cond_false];have hl:=EG hc;have A:jK l t FUEL [] [] ((0:Nat):Int)=some (foldN (sizStep l t) 0 (l.length-0) ([],[])):=by
  refine(zX l.length (λn (s:List Int×List Int) i=>jK l t n s.1 s.2 i) (sizStep l t) (λs=>s) (λi s=>s.1.length<=i/\s.2.length<=i) 0 (by omega) (by omega) (λn i s hN hi=>?_) (λn s _=>?_) ([],[]) ⟨by simp,by simp⟩).1
  ·refine⟨?_,qCZ hi⟩;obtain⟨s1,s2⟩:=s
   try simp only at hi
   try simp only
   rw[jK,decide_eq_true (by omega),qL (by omega) (by omega)];simp only[cond_true,Int.toNat_natCast,qP (show i<4611686018427387904 by omega),(SJ _).1,Option.bind_some,HX,HU,qW (show s1.length+1<=1000000 by omega) (show 8<=1000000 by omega),qW (show s2.length+1<=1000000 by omega) (show 8<=1000000 by omega),sizStep];rw[show(t==(qN (l.getD i default)).1)=((qN (l.getD i default)).1==t) from Bool.eq_iff_iff.2 (by rw[beq_iff_eq,beq_iff_eq];exact eq_comm),show(t==(qN (l.getD i default)).2)=((qN (l.getD i default)).2==t) from Bool.eq_iff_iff.2 (by rw[beq_iff_eq,beq_iff_eq];exact eq_comm)]
   cases (qN (l.getD i default)).1==t<;>cases (qN (l.getD i default)).2==t<;>rfl
  ·rw[jK,decide_eq_false (by omega)];rfl
 have B:QW l t FUEL [] [] ((0:Nat):Int)=some (foldN (sizStep l t) 0 (l.length-0) ([],[])):=by
  refine(zX l.length (λn (s:List Int×List Int) i=>QW l t n s.1 s.2 i) (sizStep l t) (λs=>s) (λi s=>s.1.length<=i/\s.2.length<=i) 0 (by omega) (by omega) (λn i s hN hi=>?_) (λn s _=>?_) ([],[]) ⟨by simp,by simp⟩).1
  ·refine⟨?_,qCZ hi⟩;obtain⟨s1,s2⟩:=s
   try simp only at hi
   try simp only
   rw[QW,decide_eq_true (by omega),qL (by omega) (by omega)];simp only[cond_true,Int.toNat_natCast,qP (show i<4611686018427387904 by omega),(SJ _).2,Option.bind_some,LY,qW (show s1.length+1<=1000000 by omega) (show 8<=1000000 by omega),qW (show s2.length+1<=1000000 by omega) (show 8<=1000000 by omega),sizStep];cases (qN (l.getD i default)).1==t<;>cases (qN (l.getD i default)).2==t<;>rfl
  ·rw[QW,decide_eq_false (by omega)];rfl
 rw[show((0:Nat):Int)=0 from rfl] at A B;rw[A,B];exact⟨rfl,rfl⟩
theorem qGc (l:List Product) (t:Int):(sizes l t).1.length<=16/\(sizes l t).2.length<=16:=by
 unfold sizes;by_cases hc:zO l≠0
 ·rw[if_pos hc];simp
 rw[if_neg hc];have hl:=EG hc;have:∀k,(foldN (sizStep l t) 0 k ([],[])).1.length<=k/\(foldN (sizStep l t) 0 k ([],[])).2.length<=k:=by
  intro k
  induction k with
  |zero=>simp[foldN]
  |succ k ih=>rw[JZ,Nat.zero_add];exact qCZ ih
 have:=this l.length;omega
end Saw
end Go.SL

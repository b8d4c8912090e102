/- Plain mathematics that all seats use: 64-bit sums that do not wrap, bounds, lists. -/
import Derived.Test.YthbamnkheinbgaaGreatDoorYa6
import Derived.Test.YthbamnkheinbgaaGreatDoorSMa1
set_option linter.unusedVariables false
set_option linter.unusedSimpArgs false
namespace Go.SL
theorem qDA :FUEL=4611686018427387904:=by unfold FUEL;rfl
theorem qH8 {n:Int} (h1: -9223372036854775808<=n) (h2:n<=9223372036854775807):w64 n=n:=by
 unfold w64 IntKind.wrap;simp only[IntKind.bits,IntKind.signed,Bool.true_and];split
 ·rename_i h;have h':n % 2^64≥2^(64-1):=kK h;omega
 ·rename_i h;have h':¬n % 2^64≥2^(64-1):=λhh=>h (ku hh);omega
theorem w64_o {n:Int} (h: -9223372036854775808<=n/\n<=9223372036854775807):w64 n=n:=qH8 h.1 h.2
theorem QY {i:Int} {n:Nat} (h:0<=i/\i<(n:Int)):inb i n=true:=by unfold inb;exact ku h
theorem qIc {n b:Nat} (h:n*b<=140737488355328):room n b=true:=by unfold room;exact ku h
theorem JR {x:Nat} (h:x<4611686018427387904):w64 ((x:Int)+1)=((x+1:Nat):Int):=by rw[w64_o (by omega)];omega
theorem qD9 {α:Type} [Inhabited α] (l:List α) (x:Nat) (h:x<l.length):l.drop x=l.getD x dd::l.drop (x+1):=by
 rw[gc h,ka,ki h];rfl
theorem qHW {α:Type} [Inhabited α] {l:List α} {x:Nat} (h:x<l.length):l.getD x dd∈l:=by
 rw[ka,ki h];exact uo h
end Go.SL

namespace Go.SL
theorem qIV {α:Type} [Inhabited α] {l t:List α} (h:l.length=t.length) (hj:∀j,j<l.length->l.getD j dd=t.getD j dd):l=t:=by
 apply uY h;intro i h1 h2;have:=hj i h1
 rwa [ka,ka,ki h1,ki h2] at this
theorem mkOk_t {n b:Nat} (h:n*b<=140737488355328) (hn:n<=9223372036854775807):mkOk ((n:Nat):Int) b=true:=by
 unfold mkOk;exact ku ⟨Int.natCast_nonneg n,by rw[<-Int.natCast_mul,ux];exact Int.ofNat_le.2 h,Int.ofNat_le.2 hn⟩
end Go.SL

namespace Go.SL
theorem imin_or (a b:Int):(imin a b=a/\a<=b)\/(imin a b=b/\b<=a):=by unfold imin;split<;>omega
theorem imax_or (a b:Int):(imax a b=a/\b<=a)\/(imax a b=b/\a<=b):=by unfold imax;split<;>omega
def run {α σ ρ:Type} (step:Nat->α->σ->ρ⊕σ):Nat->List α->σ->ρ⊕σ
 |_,[],s=> .inr s
 |x,a::l,s=>match step x a s with
  | .inl r=> .inl r
  | .inr s'=>run step (x+1) l s'
theorem qGm {α σ ρ β:Type} [Inhabited α] (l:List α) (L:Nat->σ->Int->Option β) (idx:Nat->Int) (step:Nat->α->σ->ρ⊕σ) (fin:ρ⊕σ->β) (Inv:Nat->σ->Prop)
  (h0:∀n x s,x<l.length->Inv x s->match step x (l.getD x dd) s with| .inl r=>L (n+1) s (idx x)=some (fin (.inl r))| .inr s'=>L (n+1) s (idx x)=L n s' (idx (x+1))/\Inv (x+1) s')
  (h1:∀n s,Inv l.length s->L (n+1) s (idx l.length)=some (fin (.inr s))):
  ∀(n x:Nat) (s:σ),l.length<x+n->x<=l.length->Inv x s->L n s (idx x)=some (fin (run step x (l.drop x) s))
 |0,x,s,hn,hx,_=>by omega
 |n+1,x,s,hn,hx,hi=>by
  by_cases h:x<l.length
  ·have k:=h0 n x s h hi;rw[qD9 l x h];unfold run;cases hs:step x (l.getD x dd) s with
   |inl r=>rw[hs] at k;exact k
   |inr s'=>
    rw[hs] at k;rw[k.1];exact qGm l L idx step fin Inv h0 h1 n (x+1) s' (by omega) (by omega) k.2
  ·have e:x=l.length:=by omega
   subst e;rw[List.drop_length];exact h1 n s hi
theorem run_inv {α σ ρ:Type} [Inhabited α] (l:List α) (step:Nat->α->σ->ρ⊕σ) (Inv:Nat->σ->Prop) (h:∀x s s',x<l.length->Inv x s->step x (l.getD x dd) s= .inr s'->Inv (x+1) s'):
  ∀(x:Nat) (s s':σ),x<=l.length->Inv x s->run step x (l.drop x) s= .inr s'->Inv l.length s':=by
 intro x
 induction hk:l.length-x generalizing x with
 |zero=>
  intro s s' hx hi hr;have e:x=l.length:=by omega
  subst e;rw[List.drop_length] at hr;cases hr;exact hi
 |succ k ih=>
  intro s s' hx hi hr;have h':x<l.length:=by omega
  rw[qD9 l x h'] at hr;unfold run at hr;cases hs:step x (l.getD x dd) s with
  |inl r=>rw[hs] at hr;cases hr
  |inr t=>
   rw[hs] at hr;exact ih (x+1) (by omega) t s' (by omega) (h x s t h' hi hs) hr
theorem loop0 {α σ ρ β:Type} [Inhabited α] (l:List α) (L:Nat->σ->Int->Option β) (idx:Nat->Int) (step:Nat->α->σ->ρ⊕σ) (fin:ρ⊕σ->β) (Inv:Nat->σ->Prop) (hl:l.length<=1000000)
  (h0:∀n x s,x<l.length->Inv x s->match step x (l.getD x dd) s with| .inl r=>L (n+1) s (idx x)=some (fin (.inl r))| .inr s'=>L (n+1) s (idx x)=L n s' (idx (x+1))/\Inv (x+1) s')
  (h1:∀n s,Inv l.length s->L (n+1) s (idx l.length)=some (fin (.inr s))) {i:Int} (hi:i=idx 0) (s:σ) (hs:Inv 0 s):L FUEL s i=some (fin (run step 0 l s)):=by
 have:=qGm l L idx step fin Inv h0 h1 FUEL 0 s (by rw[qDA];omega) (kM _) hs;rw[hi];simpa using this
def findE {α ε:Type} (bad:α->Option ε):List α->ε⊕Unit
 |[]=> .inr ()
 |a::l=>match bad a with|some e=> .inl e|none=>findE bad l
theorem qFn {α ε:Type} (bad:α->Option ε):∀(l:List α) (x:Nat),run (λ_ a (_:Unit)=>match bad a with|some e=>(.inl e:ε⊕Unit)|none=> .inr ()) x l ()=findE bad l
 |[],_=>rfl
 |a::l,x=>by
  unfold run findE;cases h:bad a with
  |some e=>rfl
  |none=>exact qFn bad l (x+1)
theorem qDI {α ε:Type} [Inhabited α] (l:List α) (L:Nat->Int->Option (ε⊕Unit)) (bad:α->Option ε) (hl:l.length<=1000000)
  (h0:∀n x,x<l.length->L (n+1) ((x:Nat):Int)=match bad (l.getD x dd) with|some e=>some (.inl e)|none=>L n ((x+1:Nat):Int))
  (h1:∀n,L (n+1) (l.length:Int)=some (.inr ())):L FUEL 0=some (findE bad l):=by
 have:=loop0 l (λn (_:Unit) x=>L n x) (λx=>(x:Int)) (λ_ a _=>match bad a with|some e=>(.inl e:ε⊕Unit)|none=> .inr ()) (λr=>r) (λ_ _=>True) hl
  (λn x s hx _=>by
   have:=h0 n x hx;cases hb:bad (l.getD x dd) with
   |some e=>simp only;rw[this,hb]
   |none=>simp only;rw[this,hb];exact⟨rfl,trivial⟩)
  (λn s _=>h1 n) (i:=0) rfl () trivial
 rw[qFn] at this;exact this
theorem AT {α ε:Type} {bad:α->Option ε}:∀{l:List α},findE bad l= .inr ()↔∀a∈l,bad a=none
 |[]=>by simp[findE]
 |a::l=>by
  unfold findE;cases h:bad a with
  |some e=>simp[h]
  |none=>simp[h,AT (l:=l)]
def IF {α σ:Type} (f:Nat->α->σ->σ):Nat->List α->σ->σ
 |_,[],s=>s
 |x,a::l,s=>IF f (x+1) l (f x a s)
theorem run_fold {α σ ρ:Type} (f:Nat->α->σ->σ):∀(l:List α) (x:Nat) (s:σ),run (λx a s=>(.inr (f x a s):ρ⊕σ)) x l s= .inr (IF f x l s)
 |[],_,_=>rfl
 |a::l,x,s=>by unfold run IF;exact run_fold f l (x+1) (f x a s)
theorem qH9 {α σ β:Type} [Inhabited α] (l:List α) (L:Nat->σ->Int->Option β) (idx:Nat->Int) (f:Nat->α->σ->σ) (out:σ->β) (Inv:Nat->σ->Prop) (hl:l.length<=1000000)
  (h0:∀n x s,x<l.length->Inv x s->L (n+1) s (idx x)=L n (f x (l.getD x dd) s) (idx (x+1))/\Inv (x+1) (f x (l.getD x dd) s))
  (h1:∀n s,Inv l.length s->L (n+1) s (idx l.length)=some (out s)) {i:Int} (hi:i=idx 0) (s:σ) (hs:Inv 0 s):L FUEL s i=some (out (IF f 0 l s))/\Inv l.length (IF f 0 l s):=by
 have k:=loop0 l L idx (λx a s=>(.inr (f x a s):Unit⊕σ)) (λr=>match r with| .inl _=>out s| .inr s=>out s) Inv hl (λn x s hx hi=>h0 n x s hx hi) (λn s hi=>h1 n s hi) hi s hs;rw[run_fold] at k;refine⟨k,?_⟩;exact run_inv l (λx a s=>(.inr (f x a s):Unit⊕σ)) Inv (λx s s' hx hi e=>by cases e;exact(h0 0 x s hx hi).2) 0 s _ (kM _) hs (by rw[uO];exact run_fold f l 0 s)
theorem qBh {α σ:Type} (f:α->σ->σ):∀(l:List α) (x:Nat) (s:σ),IF (λ_=>f) x l s=l.foldl (λs a=>f a s) s
 |[],_,_=>rfl
 |a::l,x,s=>by unfold IF;exact qBh f l (x+1) (f a s)
end Go.SL

namespace Go.SL
namespace Saw
def empS (s:Span):Bool:=decide (s.B<=s.A)
def rngS (s:Span):Bool:=(decide (-600<=s.A)&&decide (s.A<=600))&&(decide (-600<=s.B)&&decide (s.B<=600))
def nrm (x:Span):Span:=bif empS x then⟨0,0⟩ else x
structure Trim (s:qI):Prop where
 nil:s.Rows=[]->s.Low=0
 first:s.Rows≠[]->empS (s.Rows.getD 0 dd)=false
 last:s.Rows≠[]->empS (s.Rows.getD (s.Rows.length-1) dd)=false
structure VS (s:qI):Prop extends Trim s where
 len:s.Rows.length<=120
 low: -60<=s.Low
 high:s.Low+s.Rows.length<=60
 rng:∀x∈s.Rows,rngS x=true
 zero:∀x∈s.Rows,empS x=true->x=⟨0,0⟩
theorem qD1 {ε α:Type} {bad:α->Option ε} {l:List α} {e:ε} (h:findE bad l= .inl e):∃a∈l,bad a=some e:=by
 induction l with
 |nil=>cases h
 |cons a l ih=>
  unfold findE at h;cases hb:bad a with
  |some e'=>rw[hb] at h;cases h;exact⟨a,by simp,hb⟩
  |none=>rw[hb] at h;obtain⟨x,hx,hx'⟩:=ih h;exact⟨x,ub _ hx,hx'⟩
structure BInv (g:Nat->Span) (k:Nat) (a u:Nat) (l:List Span):Prop where
 ak:a<k
 fa:empS (g a)=false
 bef:∀j,j<a->empS (g j)=true
 len:l.length=k-a
 el:∀i,i<k-a->l.getD i dd=nrm (g (a+i))
 u0:0<u
 uk:u<=k-a
 fu:empS (g (a+u-1))=false
 aft:∀i,u<=i->i<k-a->empS (g (a+i))=true
end Saw
end Go.SL

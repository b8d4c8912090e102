/- Plain mathematics that all seats use: 64-bit sums that do not wrap, bounds, lists. -/
import Derived.Test.YthbamnkheinbgaaGreatDoorYa6
import Derived.Test.YthbamnkheinbgaaGreatDoorSMa1
set_option linter.unusedVariables false
set_option linter.unusedSimpArgs false
namespace Go.SL
theorem jA :FUEL=4611686018427387904:=by unfold FUEL;rfl
theorem qH5 {n:Int} (h1: -9223372036854775808<=n) (h2:n<=9223372036854775807):w64 n=n:=by
 unfold w64 IntKind.wrap;simp only[IntKind.bits,IntKind.signed,Bool.true_and];split
 ·rename_i h;have h':n % 2^64≥2^(64-1):=kS h;omega
 ·rename_i h;have h':¬n % 2^64≥2^(64-1):=λhh=>h (kg hh);omega
theorem wB {n:Int} (h: -9223372036854775808<=n/\n<=9223372036854775807):w64 n=n:=qH5 h.1 h.2
theorem zD {i:Int} {n:Nat} (h:0<=i/\i<(n:Int)):inb i n=true:=by unfold inb;exact kg h
theorem inb_t {i:Int} {n:Nat} (h0:0<=i) (h1:i<(n:Int)):inb i n=true:=by unfold inb;exact kg ⟨h0,h1⟩
theorem jC {n b:Nat} (h:n*b<=140737488355328):room n b=true:=by unfold room;exact kg h
theorem wF {x:Nat} (h:x<4611686018427387904):w64 ((x:Int)+1)=((x+1:Nat):Int):=by rw[wB (by omega)];omega
theorem wD {α:Type} [Inhabited α] (l:List α) (x:Nat) (h:x<l.length):l.drop x=l.getD x dd::l.drop (x+1):=by
 rw[go h,ka,ks h];rfl
theorem qH7 {α:Type} [Inhabited α] {l:List α} {x:Nat} (h:x<l.length):l.getD x dd∈l:=by
 rw[ka,ks h];exact uF h
end Go.SL

namespace Go.SL
end Go.SL

namespace Go.SL
theorem imin_or (a b:Int):(imin a b=a/\a<=b)\/(imin a b=b/\b<=a):=by unfold imin;split<;>omega
theorem imax_or (a b:Int):(imax a b=a/\b<=a)\/(imax a b=b/\a<=b):=by unfold imax;split<;>omega
def run {α σ ρ:Type} (step:Nat->α->σ->ρ⊕σ):Nat->List α->σ->ρ⊕σ
 |_,[],s=> .inr s
 |x,a::l,s=>match step x a s with
  | .inl r=> .inl r
  | .inr s'=>run step (x+1) l s'
theorem qFF {α σ ρ β:Type} [Inhabited α] (l:List α) (L:Nat->σ->Int->Option β) (idx:Nat->Int) (step:Nat->α->σ->ρ⊕σ) (fin:ρ⊕σ->β) (Inv:Nat->σ->Prop)
  (h0:∀n x s,x<l.length->Inv x s->match step x (l.getD x dd) s with| .inl r=>L (n+1) s (idx x)=some (fin (.inl r))| .inr s'=>L (n+1) s (idx x)=L n s' (idx (x+1))/\Inv (x+1) s')
  (h1:∀n s,Inv l.length s->L (n+1) s (idx l.length)=some (fin (.inr s))):
  ∀(n x:Nat) (s:σ),l.length<x+n->x<=l.length->Inv x s->L n s (idx x)=some (fin (run step x (l.drop x) s))
 |0,x,s,hn,hx,_=>by omega
 |n+1,x,s,hn,hx,hi=>by
  by_cases h:x<l.length
  ·have k:=h0 n x s h hi;rw[wD l x h];unfold run;cases hs:step x (l.getD x dd) s with
   |inl r=>rw[hs] at k;exact k
   |inr s'=>
    rw[hs] at k;rw[k.1];exact qFF l L idx step fin Inv h0 h1 n (x+1) s' (by omega) (by omega) k.2
  ·have e:x=l.length:=by omega
   subst e;rw[List.drop_length];exact h1 n s hi
theorem loop0 {α σ ρ β:Type} [Inhabited α] (l:List α) (L:Nat->σ->Int->Option β) (idx:Nat->Int) (step:Nat->α->σ->ρ⊕σ) (fin:ρ⊕σ->β) (Inv:Nat->σ->Prop) (hl:l.length<=1000000)
  (h0:∀n x s,x<l.length->Inv x s->match step x (l.getD x dd) s with| .inl r=>L (n+1) s (idx x)=some (fin (.inl r))| .inr s'=>L (n+1) s (idx x)=L n s' (idx (x+1))/\Inv (x+1) s')
  (h1:∀n s,Inv l.length s->L (n+1) s (idx l.length)=some (fin (.inr s))) {i:Int} (hi:i=idx 0) (s:σ) (hs:Inv 0 s):L FUEL s i=some (fin (run step 0 l s)):=by
 have:=qFF l L idx step fin Inv h0 h1 FUEL 0 s (by rw[jA];omega) (ul _) hs;rw[hi];simpa using this
def findE {α ε:Type} (bad:α->Option ε):List α->ε⊕Unit
 |[]=> .inr ()
 |a::l=>match bad a with|some e=> .inl e|none=>findE bad l
theorem qFw {α ε:Type} (bad:α->Option ε):∀(l:List α) (x:Nat),run (λ_ a (_:Unit)=>match bad a with|some e=>(.inl e:ε⊕Unit)|none=> .inr ()) x l ()=findE bad l
 |[],_=>rfl
 |a::l,x=>by
  unfold run findE;cases h:bad a with
  |some e=>rfl
  |none=>exact qFw bad l (x+1)
theorem CX {α ε:Type} [Inhabited α] (l:List α) (L:Nat->Int->Option (ε⊕Unit)) (bad:α->Option ε) (hl:l.length<=1000000)
  (h0:∀n x,x<l.length->L (n+1) ((x:Nat):Int)=match bad (l.getD x dd) with|some e=>some (.inl e)|none=>L n ((x+1:Nat):Int))
  (h1:∀n,L (n+1) (l.length:Int)=some (.inr ())):L FUEL 0=some (findE bad l):=by
 have:=loop0 l (λn (_:Unit) x=>L n x) (λx=>(x:Int)) (λ_ a _=>match bad a with|some e=>(.inl e:ε⊕Unit)|none=> .inr ()) (λr=>r) (λ_ _=>True) hl
  (λn x s hx _=>by
   have:=h0 n x hx;cases hb:bad (l.getD x dd) with
   |some e=>simp only;rw[this,hb]
   |none=>simp only;rw[this,hb];exact⟨rfl,trivial⟩)
  (λn s _=>h1 n) (i:=0) rfl () trivial
 rw[qFw] at this;exact this
theorem ES {α ε:Type} {bad:α->Option ε}:∀{l:List α},findE bad l= .inr ()↔∀a∈l,bad a=none
 |[]=>by simp[findE]
 |a::l=>by
  unfold findE;cases h:bad a with
  |some e=>simp[h]
  |none=>simp[h,ES (l:=l)]
end Go.SL

namespace Go.SL
namespace Saw
def empS (s:Span):Bool:=decide (s.B<=s.A)
def rngS (s:Span):Bool:=(decide (-600<=s.A)&&decide (s.A<=600))&&(decide (-600<=s.B)&&decide (s.B<=600))
def nrm (x:Span):Span:=bif empS x then⟨0,0⟩ else x
structure Trim (s:qG):Prop where
 nil:s.Rows=[]->s.Low=0
 first:s.Rows≠[]->empS (s.Rows.getD 0 dd)=false
 last:s.Rows≠[]->empS (s.Rows.getD (s.Rows.length-1) dd)=false
structure VS (s:qG):Prop extends Trim s where
 len:s.Rows.length<=120
 low: -60<=s.Low
 high:s.Low+s.Rows.length<=60
 rng:∀x∈s.Rows,rngS x=true
 zero:∀x∈s.Rows,empS x=true->x=⟨0,0⟩
theorem qDG {ε α:Type} {bad:α->Option ε} {l:List α} {e:ε} (h:findE bad l= .inl e):∃a∈l,bad a=some e:=by
 induction l with
 |nil=>cases h
 |cons a l ih=>
  unfold findE at h;cases hb:bad a with
  |some e'=>rw[hb] at h;cases h;exact⟨a,by simp,hb⟩
  |none=>rw[hb] at h;obtain⟨x,hx,hx'⟩:=ih h;exact⟨x,kL _ hx,hx'⟩
structure BInv (g:Nat->Span) (k:Nat) (a u:Nat) (l:List Span):Prop where
 ak:a<k
 fa:empS (g a)=false
 bef:∀j,j<a->empS (g j)=true
 len:l.length=k-a
 el:∀i,i<k-a->l.getD i dd=nrm (g (a+i))
 u0:0<u
 uk:u<=k-a
 fu:empS (g (a+u-1))=false
 aft:∀i,u<=i->i<k-a->empS (g (a+i))=true
end Saw
end Go.SL

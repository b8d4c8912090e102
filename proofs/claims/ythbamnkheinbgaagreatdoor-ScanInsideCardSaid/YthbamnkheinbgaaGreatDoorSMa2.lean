/- Plain mathematics that all seats use: 64-bit sums that do not wrap, bounds, lists. -/
import Derived.Test.YthbamnkheinbgaaGreatDoorYa6
import Derived.Test.YthbamnkheinbgaaGreatDoorSMa1
set_option linter.unusedVariables false
set_option linter.unusedSimpArgs false
namespace Go.SL
theorem FUEL_eq :FUEL=4611686018427387904:=by unfold FUEL;rfl
theorem qOk {n:Int} (h1: -9223372036854775808<=n) (h2:n<=9223372036854775807):w64 n=n:=by
 unfold w64 IntKind.wrap;simp only[IntKind.bits,IntKind.signed,Bool.true_and];split
 ·rename_i h;have h':n % 2^64≥2^(64-1):=kX h;omega
 ·rename_i h;have h':¬n % 2^64≥2^(64-1):=λhh=>h (kg hh);omega
theorem qQ {n:Int} (h: -9223372036854775808<=n/\n<=9223372036854775807):w64 n=n:=qOk h.1 h.2
theorem qX {i:Int} {n:Nat} (h:0<=i/\i<(n:Int)):inb i n=true:=by unfold inb;exact kg h
theorem inb_t {i:Int} {n:Nat} (h0:0<=i) (h1:i<(n:Int)):inb i n=true:=by unfold inb;exact kg ⟨h0,h1⟩
theorem nz_t {b:Int} (h:b≠0):nz b=true:=by unfold nz;exact kg h
theorem JY {n b:Nat} (h:n*b<=140737488355328):room n b=true:=by unfold room;exact kg h
theorem lt_t {a b:Int} (h:a<b):decide (a<b)=true:=kg h
theorem lt_f {a b:Int} (h:¬a<b):decide (a<b)=false:=kf h
theorem zQ {x:Nat} (h:x<4611686018427387904):w64 ((x:Int)+1)=((x+1:Nat):Int):=by rw[qQ (by omega)];omega
theorem TG {α:Type} [Inhabited α] (l:List α) (x:Nat) (h:x<l.length):l.drop x=l.getD x dd::l.drop (x+1):=by
 rw[gu h,ka,kq h];rfl
theorem qY {α:Type} [Inhabited α] {l:List α} {x:Nat} (h:x<l.length):l.getD x dd∈l:=by
 rw[ka,kq h];exact uQ h
theorem qFI {n x:Nat} (hn:0<n) (hx:x<4611686018427387904):Int.tmod (w64 ((x:Int)+1)) (n:Int)=(((x+1) % n:Nat):Int):=by
 rw[zQ hx];rfl
theorem CK {a b m n:Int} (h1: -m<=a) (h2:a<=m) (h3: -n<=b) (h4:b<=n) (hm:0<=m) (hn:0<=n): -(m*n)<=a*b/\a*b<=m*n:=by
 constructor
 ·have e1:=kv (show 0<=m-a by omega) (show 0<=n+b by omega);have e2:=kv (show 0<=m+a by omega) (show 0<=n-b by omega);have e3:=kv (show 0<=m+a by omega) (show 0<=n+b by omega);rcases gW 0 b with hb|hb
  ·have:=kv (show 0<=m+a by omega) hb;have h5:=kv hm (show 0<=n-b by omega);simp only[Int.add_mul,Int.mul_add,Int.sub_mul,gz] at*;omega
  ·have:=kv (show 0<=m-a by omega) (show 0<=-b by omega);have h5:=kv hm (show 0<=n+b by omega);simp only[Int.add_mul,Int.mul_add,Int.sub_mul,gz,uW] at*;omega
 ·rcases gW 0 b with hb|hb
  ·have:=kv (show 0<=m-a by omega) hb;have h5:=kv hm (show 0<=n-b by omega);simp only[Int.add_mul,Int.mul_add,Int.sub_mul,gz] at*;omega
  ·have:=kv (show 0<=m+a by omega) (show 0<=-b by omega);have h5:=kv hm (show 0<=n+b by omega);simp only[Int.add_mul,Int.mul_add,Int.sub_mul,gz,uW] at*;omega
end Go.SL

namespace Go.SL
theorem qE8 {α:Type} [Inhabited α] {l t:List α} (h:l.length=t.length) (hj:∀j,j<l.length->l.getD j dd=t.getD j dd):l=t:=by
 apply gN h;intro i h1 h2;have:=hj i h1
 rwa [ka,ka,kq h1,kq h2] at this
theorem qEA {α:Type} [Inhabited α] {l:List α} {x:Nat} (v:α) (h:x<l.length):(l.set x v).getD x dd=v:=by
 rw[ka,gk h];rfl
theorem VN {α:Type} [Inhabited α] {l:List α} {x j:Nat} (v:α) (h:x≠j):(l.set x v).getD j dd=l.getD j dd:=by
 rw[ka,gM h,<-ka]
theorem qFA {α β:Type} [Inhabited α] [Inhabited β] (f:α->β) (l:List α) {j:Nat} (h:j<l.length):(l.map f).getD j dd=f (l.getD j dd):=by
 rw[ka,ka,kJ,kq h];rfl
theorem qN1 {n b:Nat} (h:n*b<=140737488355328) (hn:n<=9223372036854775807):mkOk ((n:Nat):Int) b=true:=by
 unfold mkOk;exact kg ⟨Int.natCast_nonneg n,by rw[<-Int.natCast_mul,gp];exact Int.ofNat_le.2 h,Int.ofNat_le.2 hn⟩
end Go.SL

namespace Go.SL
theorem le_imin {a b X:Int}:X<=imin a b↔X<=a/\X<=b:=by unfold imin;split<;>omega
theorem qOS {a b X:Int}:imax a b<=X↔a<=X/\b<=X:=by unfold imax;split<;>omega
theorem qDZ (a b:Int):(imin a b=a/\a<=b)\/(imin a b=b/\b<=a):=by unfold imin;split<;>omega
theorem qDR (a b:Int):(imax a b=a/\b<=a)\/(imax a b=b/\a<=b):=by unfold imax;split<;>omega
def run {α σ ρ:Type} (step:Nat->α->σ->ρ⊕σ):Nat->List α->σ->ρ⊕σ
 |_,[],s=> .inr s
 |x,a::l,s=>match step x a s with
  | .inl r=> .inl r
  | .inr s'=>run step (x+1) l s'
theorem qKR {α σ ρ β:Type} [Inhabited α] (l:List α) (L:Nat->σ->Int->Option β) (idx:Nat->Int) (step:Nat->α->σ->ρ⊕σ) (fin:ρ⊕σ->β) (Inv:Nat->σ->Prop)
  (h0:∀n x s,x<l.length->Inv x s->match step x (l.getD x dd) s with| .inl r=>L (n+1) s (idx x)=some (fin (.inl r))| .inr s'=>L (n+1) s (idx x)=L n s' (idx (x+1))/\Inv (x+1) s')
  (h1:∀n s,Inv l.length s->L (n+1) s (idx l.length)=some (fin (.inr s))):
  ∀(n x:Nat) (s:σ),l.length<x+n->x<=l.length->Inv x s->L n s (idx x)=some (fin (run step x (l.drop x) s))
 |0,x,s,hn,hx,_=>by omega
 |n+1,x,s,hn,hx,hi=>by
  by_cases h:x<l.length
  ·have k:=h0 n x s h hi;rw[TG l x h];unfold run;cases hs:step x (l.getD x dd) s with
   |inl r=>rw[hs] at k;exact k
   |inr s'=>
    rw[hs] at k;rw[k.1];exact qKR l L idx step fin Inv h0 h1 n (x+1) s' (by omega) (by omega) k.2
  ·have e:x=l.length:=by omega
   subst e;rw[List.drop_length];exact h1 n s hi
theorem run_inv {α σ ρ:Type} [Inhabited α] (l:List α) (step:Nat->α->σ->ρ⊕σ) (Inv:Nat->σ->Prop) (h:∀x s s',x<l.length->Inv x s->step x (l.getD x dd) s= .inr s'->Inv (x+1) s'):
  ∀(x:Nat) (s s':σ),x<=l.length->Inv x s->run step x (l.drop x) s= .inr s'->Inv l.length s':=by
 intro x
 induction hk:l.length-x generalizing x with
 |zero=>
  intro s s' hx hi hr;have e:x=l.length:=by omega
  subst e;rw[List.drop_length] at hr;cases hr;exact hi
 |succ k ih=>
  intro s s' hx hi hr;have h':x<l.length:=by omega
  rw[TG l x h'] at hr;unfold run at hr;cases hs:step x (l.getD x dd) s with
  |inl r=>rw[hs] at hr;cases hr
  |inr t=>
   rw[hs] at hr;exact ih (x+1) (by omega) t s' (by omega) (h x s t h' hi hs) hr
theorem loop0 {α σ ρ β:Type} [Inhabited α] (l:List α) (L:Nat->σ->Int->Option β) (idx:Nat->Int) (step:Nat->α->σ->ρ⊕σ) (fin:ρ⊕σ->β) (Inv:Nat->σ->Prop) (hl:l.length<=1000000)
  (h0:∀n x s,x<l.length->Inv x s->match step x (l.getD x dd) s with| .inl r=>L (n+1) s (idx x)=some (fin (.inl r))| .inr s'=>L (n+1) s (idx x)=L n s' (idx (x+1))/\Inv (x+1) s')
  (h1:∀n s,Inv l.length s->L (n+1) s (idx l.length)=some (fin (.inr s))) {i:Int} (hi:i=idx 0) (s:σ) (hs:Inv 0 s):L FUEL s i=some (fin (run step 0 l s)):=by
 have:=qKR l L idx step fin Inv h0 h1 FUEL 0 s (by rw[FUEL_eq];omega) (kY _) hs;rw[hi];simpa using this
def findE {α ε:Type} (bad:α->Option ε):List α->ε⊕Unit
 |[]=> .inr ()
 |a::l=>match bad a with|some e=> .inl e|none=>findE bad l
theorem qKB {α ε:Type} (bad:α->Option ε):∀(l:List α) (x:Nat),run (λ_ a (_:Unit)=>match bad a with|some e=>(.inl e:ε⊕Unit)|none=> .inr ()) x l ()=findE bad l
 |[],_=>rfl
 |a::l,x=>by
  unfold run findE;cases h:bad a with
  |some e=>rfl
  |none=>exact qKB bad l (x+1)
theorem BA {α ε:Type} [Inhabited α] (l:List α) (L:Nat->Int->Option (ε⊕Unit)) (bad:α->Option ε) (hl:l.length<=1000000)
  (h0:∀n x,x<l.length->L (n+1) ((x:Nat):Int)=match bad (l.getD x dd) with|some e=>some (.inl e)|none=>L n ((x+1:Nat):Int))
  (h1:∀n,L (n+1) (l.length:Int)=some (.inr ())):L FUEL 0=some (findE bad l):=by
 have:=loop0 l (λn (_:Unit) x=>L n x) (λx=>(x:Int)) (λ_ a _=>match bad a with|some e=>(.inl e:ε⊕Unit)|none=> .inr ()) (λr=>r) (λ_ _=>True) hl
  (λn x s hx _=>by
   have:=h0 n x hx;cases hb:bad (l.getD x dd) with
   |some e=>simp only;rw[this,hb]
   |none=>simp only;rw[this,hb];exact⟨rfl,trivial⟩)
  (λn s _=>h1 n) (i:=0) rfl () trivial
 rw[qKB] at this;exact this
theorem NG {α ε:Type} {bad:α->Option ε}:∀{l:List α},findE bad l= .inr ()↔∀a∈l,bad a=none
 |[]=>by simp[findE]
 |a::l=>by
  unfold findE;cases h:bad a with
  |some e=>simp[h]
  |none=>simp[h,NG (l:=l)]
def UK {α σ:Type} (f:Nat->α->σ->σ):Nat->List α->σ->σ
 |_,[],s=>s
 |x,a::l,s=>UK f (x+1) l (f x a s)
theorem run_fold {α σ ρ:Type} (f:Nat->α->σ->σ):∀(l:List α) (x:Nat) (s:σ),run (λx a s=>(.inr (f x a s):ρ⊕σ)) x l s= .inr (UK f x l s)
 |[],_,_=>rfl
 |a::l,x,s=>by unfold run UK;exact run_fold f l (x+1) (f x a s)
theorem SR {α σ β:Type} [Inhabited α] (l:List α) (L:Nat->σ->Int->Option β) (idx:Nat->Int) (f:Nat->α->σ->σ) (out:σ->β) (Inv:Nat->σ->Prop) (hl:l.length<=1000000)
  (h0:∀n x s,x<l.length->Inv x s->L (n+1) s (idx x)=L n (f x (l.getD x dd) s) (idx (x+1))/\Inv (x+1) (f x (l.getD x dd) s))
  (h1:∀n s,Inv l.length s->L (n+1) s (idx l.length)=some (out s)) {i:Int} (hi:i=idx 0) (s:σ) (hs:Inv 0 s):L FUEL s i=some (out (UK f 0 l s))/\Inv l.length (UK f 0 l s):=by
 have k:=loop0 l L idx (λx a s=>(.inr (f x a s):Unit⊕σ)) (λr=>match r with| .inl _=>out s| .inr s=>out s) Inv hl (λn x s hx hi=>h0 n x s hx hi) (λn s hi=>h1 n s hi) hi s hs;rw[run_fold] at k;refine⟨k,?_⟩;exact run_inv l (λx a s=>(.inr (f x a s):Unit⊕σ)) Inv (λx s s' hx hi e=>by cases e;exact(h0 0 x s hx hi).2) 0 s _ (kY _) hs (by rw[uK];exact run_fold f l 0 s)
def mapi {α β:Type} (g:Nat->α->β):Nat->List α->List β
 |_,[]=>[]
 |x,a::l=>g x a::mapi g (x+1) l
theorem qAl {α β:Type} (g:Nat->α->β):∀(l:List α) (x:Nat) (t:List β),UK (λx a (t:List β)=>t++[g x a]) x l t=t++mapi g x l
 |[],_,t=>by simp[UK,mapi]
 |a::l,x,t=>by unfold UK mapi;rw[qAl g l (x+1) (t++[g x a])];simp
theorem qFd {α β:Type} (g:Nat->α->β):∀(l:List α) (x:Nat),(mapi g x l).length=l.length
 |[],_=>rfl
 |a::l,x=>by simp[mapi,qFd g l (x+1)]
theorem qK5 {α β:Type} (g:α->β):∀(l:List α) (x:Nat),mapi (λ_=>g) x l=l.map g
 |[],_=>rfl
 |a::l,x=>by simp[mapi,qK5 g l (x+1)]
theorem qFx {α β:Type} [Inhabited α] [Inhabited β] (g:Nat->α->β):∀(l:List α) (x j:Nat),j<l.length->(mapi g x l).getD j dd=g (x+j) (l.getD j dd)
 |[],_,j,h=>by simp at h
 |a::l,x,0,_=>by simp[mapi]
 |a::l,x,j+1,h=>by
  have:=qFx g l (x+1) j (by simpa using h);rw[show x+(j+1)=x+1+j by omega];simpa[mapi] using this
end Go.SL

namespace Go.SL
namespace Saw
def empS (s:Span):Bool:=decide (s.B<=s.A)
def rngS (s:Span):Bool:=(decide (-600<=s.A)&&decide (s.A<=600))&&(decide (-600<=s.B)&&decide (s.B<=600))
def qBY (s:Span):Bool:=(s.A==0)&&(s.B==0)
theorem qFG {s:Span}:rngS s=true↔(-600<=s.A/\s.A<=600)/\(-600<=s.B/\s.B<=600):=by unfold rngS;simp
theorem JX (s:Span):jE s=some (empS s):=rfl
theorem YW (s:Span):YH s=some (empS s):=rfl
theorem qDq (s:Span):JK s=some (rngS s):=by
 have e:rngS s=(decide (imin s.A s.B≥-600)&&decide (imax s.A s.B<=600)):=by
  rw[Bool.eq_iff_iff,qFG,ki,decide_eq_true_eq,decide_eq_true_eq,ge_iff_le,le_imin,qOS];omega
 unfold JK JH;rw[e];cases decide (imin s.A s.B≥-600)<;>rfl
theorem qGm (n:Int):FH n=some (!(decide (-600<=n)&&decide (n<=600))):=by
 unfold FH BP;by_cases h1:n< -600
 ·rw[kg h1,kf (show¬-600<=n by omega)];rfl
 ·rw[kf h1,kg (show-600<=n by omega)];by_cases h2:n>600
  ·rw[kg h2,kf (show¬n<=600 by omega)];rfl
  ·rw[kf h2,kg (show n<=600 by omega)];rfl
def bad9 (s:Span):Option Int:=bif rngS s then none else some 9
def bad19 (s:Span):Option Int:=bif empS s&&!qBY s then some 19 else none
def qHU (s:qC):Int:=
 match findE bad9 s.Rows with
 | .inl e=>e
 | .inr _=>
  if s.Rows.length=0 then(if s.Low=0 then 0 else 19)
  else if empS (s.Rows.getD 0 dd)=true\/empS (s.Rows.getD (s.Rows.length-1) dd)=true then 19
  else match findE bad19 s.Rows with
   | .inl e=>e
   | .inr _=>0
def qAa (s:qC):Int:=if 120<s.Rows.length then 4 else if s.Low< -60\/60-(s.Rows.length:Int)<s.Low then 9 else qHU s
theorem chk_L (s:qC) (hl:s.Rows.length<=120):jM s FUEL 0=some (findE bad9 s.Rows)/\wJ s FUEL 0=some (findE bad19 s.Rows)/\QD s FUEL 0=some (findE bad9 s.Rows)/\QA s FUEL 0=some (findE bad19 s.Rows):=by
 have e1:∀(l:List Span) (x:Nat),(l.length:Nat)<1000->x<l.length->decide ((x:Int)<(l.length:Int))=true/\inb (x:Int) l.length=true/\w64 ((x:Int)+1)=((x+1:Nat):Int):=λl x h hx=>⟨kg (by omega),qX (by omega),zQ (by omega)⟩
 refine⟨BA s.Rows (jM s) bad9 (by omega) (λn x hx=>?_) (λn=>?_),BA s.Rows (wJ s) bad19 (by omega) (λn x hx=>?_) (λn=>?_),BA s.Rows (QD s) bad9 (by omega) (λn x hx=>?_) (λn=>?_),BA s.Rows (QA s) bad19 (by omega) (λn x hx=>?_) (λn=>?_)⟩
 ·obtain⟨a1,a2,a3⟩:=e1 s.Rows x (by omega) hx;rw[jM];simp only[a1,a2,a3,ko,ks,qDq,kd,bad9];cases rngS (s.Rows.getD x dd)<;>rfl
 ·unfold jM;simp
 ·obtain⟨a1,a2,a3⟩:=e1 s.Rows x (by omega) hx;rw[wJ];simp only[XX,a1,a2,a3,ko,ks,JX,kd,bad19,qBY,gP];cases empS (s.Rows.getD x dd)<;>cases ((s.Rows.getD x dd).A==0&&(s.Rows.getD x dd).B==0)<;>rfl
 ·unfold wJ;simp
 ·obtain⟨a1,a2,a3⟩:=e1 s.Rows x (by omega) hx;rw[QD];simp only[zaQ,a1,a2,a3,ko,ks,qGm,kd,bad9,rngS];cases (decide (-600<=(s.Rows.getD x dd).A)&&decide ((s.Rows.getD x dd).A<=600))<;>cases (decide (-600<=(s.Rows.getD x dd).B)&&decide ((s.Rows.getD x dd).B<=600))<;>rfl
 ·unfold QD;simp
 ·obtain⟨a1,a2,a3⟩:=e1 s.Rows x (by omega) hx;rw[QA];simp only[FT,a1,a2,a3,ko,ks,YW,kd,bad19,qBY,gP];cases empS (s.Rows.getD x dd)<;>cases ((s.Rows.getD x dd).A==0&&(s.Rows.getD x dd).B==0)<;>rfl
 ·unfold QA;simp
theorem qEY (s:qC):WU s=some (qAa s)/\qAD s=some (qAa s):=by
 unfold WU qAD qAa;by_cases h:120<s.Rows.length
 ·rw[kg (show(s.Rows.length:Int)>120 by omega),if_pos h];exact⟨rfl,rfl⟩
 rw[kf (show¬(s.Rows.length:Int)>120 by omega),if_neg h,qQ (by omega)];simp only[ku];obtain⟨l1,l2,l3,l4⟩:=chk_L s (by omega);by_cases h1:s.Low< -60
 ·rw[kg h1,if_pos (.inl h1)];exact⟨rfl,rfl⟩
 rw[kf h1];by_cases h2:60-(s.Rows.length:Int)<s.Low
 ·rw[kg (show s.Low>_ from h2),if_pos (.inr h2)];exact⟨rfl,rfl⟩
 rw[kf (show¬s.Low>_ from h2),if_neg (by omega)];unfold KB LZ XW LG qHU;simp only[ku,l1,l2,l3,l4,kd,JX,YW];cases findE bad9 s.Rows with
 |inl e=>exact⟨rfl,rfl⟩
 |inr u=>
  simp only[Sum.elim_inr];by_cases h0:s.Rows.length=0
  ·rw[if_pos h0,h0];by_cases hw:s.Low=0
   ·rw[if_pos hw,hw];exact⟨rfl,rfl⟩
   ·rw[if_neg hw];have:(s.Low !=0)=true:=by simpa using hw
    simp[this]
  ·rw[if_neg h0];have e0:((s.Rows.length:Int)==0)=false:=by rw[ue];omega
   have e1:w64 ((s.Rows.length:Int)-1)=((s.Rows.length-1:Nat):Int):=by rw[qQ (by omega)];omega
   rw[e0,qX (by omega),e1,qX (by omega)];simp only[ku,ko,gG,ks];cases hf:empS (s.Rows.getD 0 dd) with
   |true=>simp
   |false=>cases hg:empS (s.Rows.getD (s.Rows.length-1) dd) with
    |true=>simp
    |false=>
     simp only[ku,gn,or_self,if_false];cases findE bad19 s.Rows<;>exact⟨rfl,rfl⟩
def nilS :qC:=⟨0,[]⟩
def BT (s:qC):qC:=if qAa s=0 then s else nilS
theorem qBu (s:qC):QZ s=some (BT s)/\HA s=some (BT s):=by
 unfold QZ HA BT;rw[(qEY s).1,(qEY s).2];simp only[kd];by_cases h:qAa s=0
 ·rw[h];exact⟨rfl,rfl⟩
 ·have:(qAa s !=0)=true:=by simpa using h
  rw[this,if_neg h];exact⟨rfl,rfl⟩
def nrm (x:Span):Span:=bif empS x then⟨0,0⟩ else x
theorem nrm_nrm (x:Span):nrm (nrm x)=nrm x:=by
 unfold nrm;cases h:empS x with
 |true=>rfl
 |false=>simp[h]
theorem qBc (x:Span):empS (nrm x)=empS x:=by
 unfold nrm;cases h:empS x with
 |true=>rfl
 |false=>simpa using h
theorem qFP {x:Span} (h:empS x=false):nrm x=x:=by unfold nrm;rw[h];rfl
theorem UB {x:Span} (h:empS x=true):nrm x=⟨0,0⟩:=by unfold nrm;rw[h];rfl
def row (s:qC) (r:Int):Span:=if r<s.Low then⟨0,0⟩ else s.Rows.getD (r-s.Low).toNat dd
structure Trim (s:qC):Prop where
 nil:s.Rows=[]->s.Low=0
 first:s.Rows≠[]->empS (s.Rows.getD 0 dd)=false
 last:s.Rows≠[]->empS (s.Rows.getD (s.Rows.length-1) dd)=false
theorem qBi {α:Type} [Inhabited α] {l:List α} {i:Nat} (h:l.length<=i):l.getD i dd=dd:=by
 rw[ka,ga h];rfl
theorem qOj {s:qC} {r:Int} (h:empS (row s r)=false):s.Low<=r/\r<s.Low+s.Rows.length:=by
 unfold row at h;split at h
 ·exact absurd h (by decide)
 ·refine⟨by omega,Classical.byContradiction λhn=>?_⟩;rw[qBi (by omega)] at h;exact absurd h (by decide)
theorem SF {s:qC} {i:Nat}:row s (s.Low+i)=s.Rows.getD i dd:=by
 unfold row;rw[if_neg (by omega)]
 congr 1
 omega
theorem qHo {s t:qC} (hs:Trim s) (ht:Trim t) (h:∀r,row s r=row t r):s=t:=by
 have one:∀{s t:qC},Trim s->(∀r,row s r=row t r)->s.Rows≠[]->t.Low<=s.Low/\s.Low+s.Rows.length<=t.Low+t.Rows.length:=by
  intro s t hs h hne;have hl:0<s.Rows.length:=uf.2 hne;have k1:=SF (s:=s) (i:=0);have k2:=SF (s:=s) (i:=s.Rows.length-1);have f1:=hs.first hne;have f2:=hs.last hne;rw[<-k1,h] at f1;rw[<-k2,h] at f2;have g1:=qOj f1;have g2:=qOj f2;omega
 have key:s.Low=t.Low/\s.Rows.length=t.Rows.length:=by
  by_cases h1:s.Rows=[]
  ·by_cases h2:t.Rows=[]
   ·exact⟨by rw[hs.nil h1,ht.nil h2],by rw[h1,h2]⟩
   ·have:=one ht (λr=>(h r).symm) h2;have hl:0<t.Rows.length:=uf.2 h2;rw[h1] at this;simp only[List.length_nil] at this;omega
  ·by_cases h2:t.Rows=[]
   ·have:=one hs h h1;have hl:0<s.Rows.length:=uf.2 h1;rw[h2] at this;simp only[List.length_nil] at this;omega
   ·have a1:=one hs h h1;have a2:=one ht (λr=>(h r).symm) h2;omega
 obtain⟨lo,rs⟩:=s;obtain⟨lo',rs'⟩:=t;simp only at key;obtain⟨rfl,hl⟩:=key
 congr 1
 refine qE8 hl (λj hj=>?_);have:=h (lo+j);have e1:=SF (s:=⟨lo,rs⟩) (i:=j);have e2:=SF (s:=⟨lo,rs'⟩) (i:=j);simp only at e1 e2;rw[e1,e2] at this;exact this
structure VS (s:qC):Prop extends Trim s where
 len:s.Rows.length<=120
 low: -60<=s.Low
 high:s.Low+s.Rows.length<=60
 rng:∀x∈s.Rows,rngS x=true
 zero:∀x∈s.Rows,empS x=true->x=⟨0,0⟩
theorem qOe {x:Span}:bad9 x=none↔rngS x=true:=by unfold bad9;cases rngS x<;>simp
theorem zeroS_iff {x:Span}:qBY x=true↔x=⟨0,0⟩:=by unfold qBY;cases x;simp
theorem qGA {x:Span}:bad19 x=none↔(empS x=true->x=⟨0,0⟩):=by
 unfold bad19;cases h:empS x with
 |false=>simp
 |true=>cases hz:qBY x with
  |true=>simp[zeroS_iff.1 hz]
  |false=>simp;intro e;rw[zeroS_iff.2 e] at hz;cases hz
theorem CT {ε α:Type} {bad:α->Option ε} {l:List α} {e:ε} (h:findE bad l= .inl e):∃a∈l,bad a=some e:=by
 induction l with
 |nil=>cases h
 |cons a l ih=>
  unfold findE at h;cases hb:bad a with
  |some e'=>rw[hb] at h;cases h;exact⟨a,by simp,hb⟩
  |none=>rw[hb] at h;obtain⟨x,hx,hx'⟩:=ih h;exact⟨x,kz _ hx,hx'⟩
theorem chk10_zero (s:qC):qAa s=0↔VS s:=by
 unfold qAa;by_cases h:120<s.Rows.length
 ·rw[if_pos h];exact⟨λh=>absurd h (by decide),λhv=>by have:=hv.len;omega⟩
 rw[if_neg h];by_cases h1:s.Low< -60\/60-(s.Rows.length:Int)<s.Low
 ·rw[if_pos h1];exact⟨λh=>absurd h (by decide),λhv=>by have:=hv.low;have:=hv.high;omega⟩
 rw[if_neg h1];unfold qHU;cases h9:findE bad9 s.Rows with
 |inl e=>
  obtain⟨a,ha,hb⟩:=CT h9;have e9:e=9/\rngS a=false:=by unfold bad9 at hb;cases hr:rngS a<;>rw[hr] at hb<;>simp at hb;exact⟨hb.symm,rfl⟩
  simp only;refine⟨λh=>by omega,λhv=>?_⟩;have:=hv.rng a ha;rw[e9.2] at this;cases this
 |inr u=>
  have hr:∀x∈s.Rows,rngS x=true:=λx hx=>qOe.1 (NG.1 h9 x hx);simp only;by_cases h0:s.Rows.length=0
  ·have en:s.Rows=[]:=List.length_eq_zero_iff.1 h0;rw[if_pos h0];by_cases hw:s.Low=0
   ·rw[if_pos hw];exact⟨λ_=>⟨⟨λ_=>hw,λh=>absurd en h,λh=>absurd en h⟩,by omega,by omega,by omega,hr,λx hx=>by rw[en] at hx;cases hx⟩,λ_=>rfl⟩
   ·rw[if_neg hw];exact⟨λh=>absurd h (by decide),λhv=>absurd (hv.nil en) hw⟩
  ·rw[if_neg h0];have hne:s.Rows≠[]:=λe=>h0 (by rw[e];rfl);by_cases hf:empS (s.Rows.getD 0 dd)=true\/empS (s.Rows.getD (s.Rows.length-1) dd)=true
   ·rw[if_pos hf];refine⟨λh=>absurd h (by decide),λhv=>?_⟩;rcases hf with hf|hf
    ·rw[hv.first hne] at hf;cases hf
    ·rw[hv.last hne] at hf;cases hf
   ·rw[if_neg hf];have f1:empS (s.Rows.getD 0 dd)=false:=by simpa using λh=>hf (.inl h)
    have f2:empS (s.Rows.getD (s.Rows.length-1) dd)=false:=by simpa using λh=>hf (.inr h)
    cases h19:findE bad19 s.Rows with
    |inl e=>
     obtain⟨a,ha,hb⟩:=CT h19;simp only;have e19:e=19:=by unfold bad19 at hb;cases hr:(empS a&&!qBY a)<;>rw[hr] at hb<;>simp at hb;exact hb.symm
     refine⟨λh=>by omega,λhv=>?_⟩;have:=qGA.2 (hv.zero a ha);rw[this] at hb;cases hb
    |inr u'=>
     exact⟨λ_=>⟨⟨λe=>absurd e hne,λ_=>f1,λ_=>f2⟩,by omega,by omega,by omega,hr,λx hx=>qGA.1 (NG.1 h19 x hx)⟩,λ_=>rfl⟩
theorem qC9 :VS nilS:=(chk10_zero nilS).1 rfl
theorem qCb (s:qC):VS (BT s):=by
 unfold BT;split
 ·rename_i h;exact(chk10_zero s).1 h
 ·exact qC9
theorem qKO {s:qC} (h:VS s):BT s=s:=by unfold BT;rw[if_pos ((chk10_zero s).2 h)]
theorem VS.row_rng {s:qC} (h:VS s) (r:Int):rngS (row s r)=true:=by
 unfold row;split
 ·rfl
 ·by_cases hi:(r-s.Low).toNat<s.Rows.length
  ·exact h.rng _ (qY hi)
  ·rw[qBi (by omega)];rfl
theorem VS.row_out {s:qC} (h:VS s) {r:Int} (hr:r< -60\/60<=r):row s r=⟨0,0⟩:=by
 unfold row;split
 ·rfl
 ·rw[qBi (by have:=h.low;have:=h.high;omega)];rfl
theorem VS_of {s:qC} (ht:Trim s) (f:Int->Span) (hf:∀r,row s r=if-60<=r/\r<60 then nrm (f r) else⟨0,0⟩) (hr:∀r,-60<=r->r<60->rngS (nrm (f r))=true):VS s:=by
 have bnd:s.Rows≠[]->-60<=s.Low/\s.Low+s.Rows.length<=60:=λhne=>by
  have hl:0<s.Rows.length:=uf.2 hne;have k1:=SF (s:=s) (i:=0);have k2:=SF (s:=s) (i:=s.Rows.length-1);have f1:=ht.first hne;have f2:=ht.last hne;rw[<-k1,hf] at f1;rw[<-k2,hf] at f2;split at f1
  ·split at f2
   ·omega
   ·exact absurd f2 (by decide)
  ·exact absurd f1 (by decide)
 have el:∀x∈s.Rows,∃r,-60<=r/\r<60/\x=nrm (f r):=λx hx=>by
  obtain⟨i,hi,e⟩:=uI.1 hx;have hne:s.Rows≠[]:=List.ne_nil_of_mem hx;have b:=bnd hne;have k:=SF (s:=s) (i:=i);rw[hf,if_pos (by omega)] at k;refine⟨s.Low+i,by omega,by omega,?_⟩;rw[k,ka,kq hi,<-e];rfl
 refine⟨ht,?_,?_,?_,λx hx=>?_,λx hx he=>?_⟩
 ·by_cases hne:s.Rows=[]
  ·rw[hne];simp
  ·have:=bnd hne;omega
 ·by_cases hne:s.Rows=[]
  ·rw[ht.nil hne];decide
  ·have:=bnd hne;omega
 ·by_cases hne:s.Rows=[]
  ·rw[ht.nil hne,hne];decide
  ·have:=bnd hne;omega
 ·obtain⟨r,h1,h2,rfl⟩:=el x hx;exact hr r h1 h2
 ·obtain⟨r,h1,h2,rfl⟩:=el x hx;rw[qBc] at he;exact UB he
def NL (g:Nat->Span) (r:Int):Span:=if-60<=r/\r<60 then nrm (g (r+60).toNat) else⟨0,0⟩
structure BInv (g:Nat->Span) (k:Nat) (a u:Nat) (l:List Span):Prop where
 ak:a<k
 fa:empS (g a)=false
 bef:∀j,j<a->empS (g j)=true
 len:l.length=k-a
 el:∀i,i<k-a->l.getD i dd=nrm (g (a+i))
 u0:0<u
 uk:u<=k-a
 fu:empS (g (a+u-1))=false
 aft:∀i,u<=i->i<k-a->empS (g (a+i))=true
def BI (g:Nat->Span) (k:Nat) (s:Int×Int×List Span):Prop:=(s=(0,0,[])/\∀j,j<k->empS (g j)=true)\/∃a u:Nat,s.1=(u:Int)/\s.2.1=(a:Int)-60/\BInv g k a u s.2.2
def bst (g:Nat->Span) (x:Nat) (s:Int×Int×List Span):Int×Int×List Span:=
 bif !empS (g x) then(((s.2.2.length+1:Nat):Int),(bif s.1==0 then(x:Int)-60 else s.2.1),s.2.2++[g x])
 else bif decide (s.1>0) then(s.1,s.2.1,s.2.2++[⟨0,0⟩]) else s
theorem qH4 {α:Type} [Inhabited α] {l:List α} {x:α} {i:Nat} (h:i<=l.length):(l++[x]).getD i dd=if i<l.length then l.getD i dd else x:=by
 rw[ka];by_cases hi:i<l.length
 ·rw[if_pos hi,kG hi,<-ka]
 ·rw[if_neg hi,kC (by omega),show i-l.length=0 by omega];rfl
theorem qMn {g:Nat->Span} {k:Nat} {s:Int×Int×List Span} (h:BI g k s):BI g (k+1) (bst g k s):=by
 unfold bst;rcases h with⟨rfl,hall⟩|⟨a,u,e1,e2,hb⟩
 ·cases he:empS (g k) with
  |true=>
   refine .inl ⟨rfl,λj hj=>?_⟩;by_cases hjk:j=k
   ·rw[hjk];exact he
   ·exact hall j (by omega)
  |false=>
   refine .inr ⟨k,1,rfl,rfl,⟨by omega,he,hall,by simp,λi hi=>?_,by omega,by omega,by simpa using he,λi h1 h2=>by omega⟩⟩;obtain rfl:i=0:=by omega
   exact(qFP he).symm
 ·have hu:0<u:=hb.u0;have ak:=hb.ak;have hl:=hb.len;have e0:(s.1==0)=false:=by rw[e1,ue];omega
  have e0':decide (s.1>0)=true:=by rw[e1];exact kg (by omega)
  rw[e0,e0'];simp only[ku,ko];cases he:empS (g k) with
  |false=>
   refine .inr ⟨a,s.2.2.length+1,rfl,e2,⟨by omega,hb.fa,hb.bef,by simp;omega,λi hi=>?_,by omega,by omega,?_,λi h1 h2=>by omega⟩⟩
   ·simp only[gH,ko];rw[qH4 (by omega)];split
    ·exact hb.el i (by omega)
    ·rw[show a+i=k by omega];exact(qFP he).symm
   ·rw[hl,show a+(k-a+1)-1=k by omega];exact he
  |true=>
   refine .inr ⟨a,u,e1,e2,⟨by omega,hb.fa,hb.bef,by simp;omega,λi hi=>?_,hu,by have:=hb.uk;omega,hb.fu,λi h1 h2=>?_⟩⟩
   ·simp only[uh,ku];rw[qH4 (by omega)];split
    ·exact hb.el i (by omega)
    ·rw[show a+i=k by omega];exact(UB he).symm
   ·by_cases hik:i<k-a
    ·exact hb.aft i h1 hik
    ·rw[show a+i=k by omega];exact he
theorem qDr {α:Type} [Inhabited α] {l:List α} {u i:Nat}:(l.take u).getD i dd=if i<u then l.getD i dd else dd:=by
 rw[ka,uj];split
 ·rw[<-ka]
 ·rfl
theorem qND {g:Nat->Span} {s:Int×Int×List Span} (h:BI g 120 s):slOk 0 s.1 s.2.2.length=true/\Trim ⟨s.2.1,s.2.2.take s.1.toNat⟩/\∀r,row ⟨s.2.1,s.2.2.take s.1.toNat⟩ r=NL g r:=by
 rcases h with⟨rfl,hall⟩|⟨a,u,e1,e2,hb⟩
 ·refine⟨rfl,⟨λ_=>rfl,λh=>absurd rfl h,λh=>absurd rfl h⟩,λr=>?_⟩;have:row ⟨0,([]:List Span).take 0⟩ r=⟨0,0⟩:=by unfold row;split<;>rfl
  refine Eq.trans this ?_;unfold NL;split
  ·rw[UB (hall _ (by omega))]
  ·rfl
 ·have hl:=hb.len;have uk:=hb.uk;have u0:=hb.u0;have ak:=hb.ak;have eu:s.1.toNat=u:=by rw[e1];simp
  rw[eu];have tl:(s.2.2.take u).length=u:=by rw[uq];omega
  refine⟨?_,⟨λh=>?_,λ_=>?_,λ_=>?_⟩,λr=>?_⟩
  ·unfold slOk;rw[e1];exact kg ⟨by omega,by omega,by omega⟩
  ·have h':s.2.2.take u=[]:=h;rw[h'] at tl;simp at tl;omega
  ·show empS ((s.2.2.take u).getD 0 dd)=false;rw[qDr,if_pos u0,hb.el 0 (by omega),qBc];exact hb.fa
  ·show empS ((s.2.2.take u).getD ((s.2.2.take u).length-1) dd)=false;rw[tl,qDr,if_pos (by omega),hb.el (u-1) (by omega),qBc,show a+(u-1)=a+u-1 by omega];exact hb.fu
  ·unfold row NL;simp only[e2];by_cases h1:r<(a:Int)-60
   ·rw[if_pos h1];split
    ·rw[UB (hb.bef _ (by omega))]
    ·rfl
   ·rw[if_neg h1,qDr];have ei:(r-((a:Int)-60)).toNat+a=(r+60).toNat:=by omega
    by_cases h2:(r-((a:Int)-60)).toNat<u
    ·rw[if_pos h2,hb.el _ (by omega),if_pos (by omega),<-ei,Nat.add_comm]
    ·rw[if_neg h2];split
     ·rw[<-ei,Nat.add_comm];by_cases h3:(r-((a:Int)-60)).toNat<120-a
      ·rw[UB (hb.aft _ (by omega) h3)];rfl
      ·omega
     ·rfl
noncomputable def GH (g:Nat->Span):qC:=⟨(UK (λx (_:Nat) s=>bst g x s) 0 (List.range 120) (0,0,[])).2.1,(UK (λx (_:Nat) s=>bst g x s) 0 (List.range 120) (0,0,[])).2.2.take (UK (λx (_:Nat) s=>bst g x s) 0 (List.range 120) (0,0,[])).1.toNat⟩
theorem qJT (g:Nat->Span):∀(l:List Nat) (x:Nat) (s:Int×Int×List Span),BI g x s->BI g (x+l.length) (UK (λx (_:Nat) s=>bst g x s) x l s)
 |[],x,s,h=>h
 |a::l,x,s,h=>by
  unfold UK;have:=qJT g l (x+1) _ (qMn h);rw[uS,show x+(l.length+1)=x+1+l.length by omega];exact this
theorem KD (g:Nat->Span):Trim (GH g)/\∀r,row (GH g) r=NL g r:=by
 have:=qJT g (List.range 120) 0 (0,0,[]) (.inl ⟨rfl,λj hj=>by omega⟩);rw[uD] at this;exact(qND this).2
theorem qKI {g:Nat->Span} (h:∀j,j<120->rngS (nrm (g j))=true):VS (GH g):=by
 obtain⟨h1,h2⟩:=KD g;refine VS_of h1 (λr=>g (r+60).toNat) (λr=>?_) (λr r1 r2=>h _ (by omega));rw[h2 r];rfl
theorem qId (g:Nat->Span) (L:Nat->Int->Int->Int->List Span->Option (Int×Int×List Span))
  (h0:∀n (x:Nat) u w (l:List Span),x<120->L (n+1) u ((x:Int)-60) w l=bif !empS (g x) then(bif u==0 then(bif room (l.length+1) 16 then L n (((l.length+1):Nat):Int) (w64 ((x:Int)-60+1)) ((x:Int)-60) (l++([g x]:List Span)) else none) else(bif room (l.length+1) 16 then L n (((l.length+1):Nat):Int) (w64 ((x:Int)-60+1)) w (l++([g x]:List Span)) else none))
   else bif decide (u>0) then(bif room (l.length+1) 16 then L n u (w64 ((x:Int)-60+1)) w (l++([(Span.mk 0 0)]:List Span)) else none) else L n u (w64 ((x:Int)-60+1)) w l)
  (h1:∀n u w l,L (n+1) u 60 w l=some (u,w,l)):
  ((L FUEL 0 (-60) 0 []).bind λo=>bif slOk 0 o.1 o.2.2.length then some (qC.mk o.2.1 (o.2.2.take o.1.toNat)) else none)=some (GH g):=by
 have k:=SR (List.range 120) (λn (s:Int×Int×List Span) x=>L n s.1 x s.2.1 s.2.2) (λx=>(x:Int)-60) (λx (_:Nat) s=>bst g x s) (λs=>s) (λx s=>BI g x s/\s.2.2.length<=x) (by simp)
  (λn x s hx hi=>by
   have hx':x<120:=by simpa using hx
   have hrm:room (s.2.2.length+1) 16=true:=JY (by omega);have e:w64 ((x:Int)-60+1)=((x+1:Nat):Int)-60:=by rw[qQ (by omega)];omega
   refine⟨?_,qMn hi.1,?_⟩
   ·rw[h0 n x _ _ _ hx',hrm,e];unfold bst;cases empS (g x) with
    |false=>cases s.1==0<;>rfl
    |true=>cases decide (s.1>0)<;>rfl
   ·unfold bst;cases empS (g x) with
    |false=>simp;omega
    |true=>cases decide (s.1>0)<;>simp<;>omega)
  (λn s hi=>by simpa using h1 n s.1 s.2.1 s.2.2) (i:= -60) rfl (0,0,[]) ⟨.inl ⟨rfl,λj hj=>by omega⟩,by simp⟩
 obtain⟨k1,k2,_⟩:=k;simp only at k1;rw[k1];simp only[kd];rw[uD] at k2;rw[(qND k2).1];rfl
theorem qJk {s:qC} (h:VS s) {r:Int} (h1: -60<=r) (h2:r<60):UR s r=some (row s r)/\qAm s r=some (row s r):=by
 have b1:=h.low;have b2:=h.high;unfold UR GP qAm IV row;by_cases hr:r<s.Low
 ·rw[kg hr,if_pos hr];exact⟨rfl,rfl⟩
 rw[kf hr,if_neg hr,qQ (n:=s.Low+_) (by omega),qQ (n:=r-s.Low) (by omega)];by_cases hr2:r<s.Low+s.Rows.length
 ·rw[kf (show¬r≥_ by omega),qX (by omega)];exact⟨rfl,rfl⟩
 ·rw[kg (show r≥_ by omega),qBi (by omega)];exact⟨rfl,rfl⟩
theorem qC.eta (s:qC):qC.mk s.Low s.Rows=s:=rfl
theorem qM0 (f:Int->Span) (r:Int):NL (λj=>f ((j:Int)-60)) r=if-60<=r/\r<60 then nrm (f r) else⟨0,0⟩:=by
 unfold NL;by_cases h: -60<=r/\r<60
 ·rw[if_pos h,if_pos h];simp only;rw[show((r+60).toNat:Int)-60=r by omega]
 ·rw[if_neg h,if_neg h]
theorem qIf (f:Int->Span) (r:Int):row (GH (λj=>f ((j:Int)-60))) r=if-60<=r/\r<60 then nrm (f r) else⟨0,0⟩:=by rw[(KD _).2,qM0]
end Saw
end Go.SL

import Derived.Test.YtigmogcdifllhaaGreatDoorEMod
import Derived.Test.YtigmogcdifllhaaGreatDoorYa6
set_option linter.unusedVariables false
set_option linter.unusedSimpArgs false
namespace Go.SL
namespace Saw
def LT (a1:List qA):Nat->Int->Rect->Option Rect
 |0,_,_=>none
 |n+1,x4,x5=>
  bif decide (x4<(a1.length:Int)) then
   bif inb x4 a1.length then
    (LT a1 n) (w64 (x4+1)) (Rect.mk (Span.mk (imin x5.X.A ((a1.getD x4.toNat du).X)) (imax x5.X.B ((a1.getD x4.toNat du).X))) (Span.mk (imin x5.Y.A ((a1.getD x4.toNat du).Y)) (imax x5.Y.B ((a1.getD x4.toNat du).Y))))
   else none
  else
   some x5
def qKD (a1:List qA):Option Rect:=
 bif (a1.length:Int)==0 then
  some (Rect.mk (Span.mk 0 0) (Span.mk 0 0))
 else
  bif inb 0 a1.length then
   (LT a1 FUEL 1 (Rect.mk (Span.mk ((a1.getD (0:Int).toNat du).X) ((a1.getD (0:Int).toNat du).X)) (Span.mk ((a1.getD (0:Int).toNat du).Y) ((a1.getD (0:Int).toNat du).Y)))).bind λo9=>
   some o9
  else none
end Saw
end Go.SL
namespace Go.SL
theorem FUEL_eq :FUEL=9223372036854775808:=by unfold FUEL;rfl
theorem qZw {n:Int} (h1: -9223372036854775808<=n) (h2:n<=9223372036854775807):w64 n=n:=by
 unfold w64 IntKind.wrap;simp only[IntKind.bits,IntKind.signed,Bool.true_and];split
 ·rename_i h;have h':n % 2^64≥2^(64-1):=ul h;omega
 ·rename_i h;have h':¬n % 2^64≥2^(64-1):=λhh=>h (ki hh);omega
theorem w64_o {n:Int} (h: -9223372036854775808<=n/\n<=9223372036854775807):w64 n=n:=qZw h.1 h.2
theorem zR {i:Int} {n:Nat} (h:0<=i/\i<(n:Int)):inb i n=true:=by unfold inb;exact ki h
theorem inb_t {i:Int} {n:Nat} (h0:0<=i) (h1:i<(n:Int)):inb i n=true:=by unfold inb;exact ki ⟨h0,h1⟩
theorem nz_t {b:Int} (h:b≠0):nz b=true:=by unfold nz;exact ki h
theorem yC {n b:Nat} (h:n*b<=140737488355328):room n b=true:=by unfold room;exact ki h
theorem lt_t {a b:Int} (h:a<b):decide (a<b)=true:=ki h
theorem lt_f {a b:Int} (h:¬a<b):decide (a<b)=false:=kf h
theorem wH {x:Nat} (h:x<4611686018427387904):w64 ((x:Int)+1)=((x+1:Nat):Int):=by rw[w64_o (by omega)];omega
theorem HK {α:Type} [Inhabited α] (l:List α) (x:Nat) (h:x<l.length):l.drop x=l.getD x du::l.drop (x+1):=by
 rw[gZ h,ka,ks h];rfl
theorem wJ {α:Type} [Inhabited α] {l:List α} {x:Nat} (h:x<l.length):l.getD x du∈l:=by
 rw[ka,ks h];exact ut h
theorem qT0 {n x:Nat} (hn:0<n) (hx:x<4611686018427387904):Int.tmod (w64 ((x:Int)+1)) (n:Int)=(((x+1) % n:Nat):Int):=by
 rw[wH hx];rfl
theorem qGs {a b m n:Int} (h1: -m<=a) (h2:a<=m) (h3: -n<=b) (h4:b<=n) (hm:0<=m) (hn:0<=n): -(m*n)<=a*b/\a*b<=m*n:=by
 constructor
 ·have e1:=kC (show 0<=m-a by omega) (show 0<=n+b by omega);have e2:=kC (show 0<=m+a by omega) (show 0<=n-b by omega);have e3:=kC (show 0<=m+a by omega) (show 0<=n+b by omega);rcases gS 0 b with hb|hb
  ·have:=kC (show 0<=m+a by omega) hb;have h5:=kC hm (show 0<=n-b by omega);simp only[Int.add_mul,Int.mul_add,Int.sub_mul,gL] at*;omega
  ·have:=kC (show 0<=m-a by omega) (show 0<=-b by omega);have h5:=kC hm (show 0<=n+b by omega);simp only[Int.add_mul,Int.mul_add,Int.sub_mul,gL,Int.mul_neg] at*;omega
 ·rcases gS 0 b with hb|hb
  ·have:=kC (show 0<=m-a by omega) hb;have h5:=kC hm (show 0<=n-b by omega);simp only[Int.add_mul,Int.mul_add,Int.sub_mul,gL] at*;omega
  ·have:=kC (show 0<=m+a by omega) (show 0<=-b by omega);have h5:=kC hm (show 0<=n+b by omega);simp only[Int.add_mul,Int.mul_add,Int.sub_mul,gL,Int.mul_neg] at*;omega
theorem qUy {α:Type} [Inhabited α] {l t:List α} (h:l.length=t.length) (hj:∀j,j<l.length->l.getD j du=t.getD j du):l=t:=by
 apply gE h;intro i h1 h2;have:=hj i h1
 rwa [ka,ka,ks h1,ks h2] at this
theorem qM1 {α:Type} [Inhabited α] {l:List α} {x:Nat} (v:α) (h:x<l.length):(l.set x v).getD x du=v:=by
 rw[ka,uU h];rfl
theorem IE {α:Type} [Inhabited α] {l:List α} {x j:Nat} (v:α) (h:x≠j):(l.set x v).getD j du=l.getD j du:=by
 rw[ka,gz h,<-ka]
theorem qX6 (r:Int):∃q:Nat,q<4/\Int.tmod (w64 (Int.tmod r 4+4)) 4=(q:Int):=by
 have h1:=uP r (show(0:Int)<4 by decide);have h2: -4<Int.tmod r 4:=by
  rcases gS 0 r with h|h
  ·have:=gI 4 h;omega
  ·have:=gI 4 (show 0<=-r by omega);have h3:=uP (-r) (show(0:Int)<4 by decide);rw[Int.neg_tmod] at this h3;omega
 rw[w64_o (by omega)];obtain⟨n,hn⟩:=Int.eq_ofNat_of_zero_le (show 0<=Int.tmod r 4+4 by omega);rw[hn];exact⟨n % 4,kK _ (by decide),rfl⟩
theorem qE1 {n b:Nat} (h:n*b<=140737488355328) (hn:n<=9223372036854775807):mkOk ((n:Nat):Int) b=true:=by
 unfold mkOk;exact ki ⟨Int.natCast_nonneg n,by rw[<-Int.natCast_mul,gu];exact Int.ofNat_le.2 h,Int.ofNat_le.2 hn⟩
theorem le_imin {a b X:Int}:X<=imin a b↔X<=a/\X<=b:=by unfold imin;split<;>omega
theorem qZU {a b X:Int}:imax a b<=X↔a<=X/\b<=X:=by unfold imax;split<;>omega
theorem qBA (a b:Int):(imin a b=a/\a<=b)\/(imin a b=b/\b<=a):=by unfold imin;split<;>omega
theorem qHZ (a b:Int):(imax a b=a/\b<=a)\/(imax a b=b/\a<=b):=by unfold imax;split<;>omega
def run {α σ ρ:Type} (step:Nat->α->σ->ρ⊕σ):Nat->List α->σ->ρ⊕σ
 |_,[],s=> .inr s
 |x,a::l,s=>match step x a s with
  | .inl r=> .inl r
  | .inr s'=>run step (x+1) l s'
theorem qUQ {α σ ρ β:Type} [Inhabited α] (l:List α) (L:Nat->σ->Int->Option β) (idx:Nat->Int) (step:Nat->α->σ->ρ⊕σ) (fin:ρ⊕σ->β) (Inv:Nat->σ->Prop)
  (h0:∀n x s,x<l.length->Inv x s->match step x (l.getD x du) s with| .inl r=>L (n+1) s (idx x)=some (fin (.inl r))| .inr s'=>L (n+1) s (idx x)=L n s' (idx (x+1))/\Inv (x+1) s')
  (h1:∀n s,Inv l.length s->L (n+1) s (idx l.length)=some (fin (.inr s))):
  ∀(n x:Nat) (s:σ),l.length<x+n->x<=l.length->Inv x s->L n s (idx x)=some (fin (run step x (l.drop x) s))
 |0,x,s,hn,hx,_=>by omega
 |n+1,x,s,hn,hx,hi=>by
  by_cases h:x<l.length
  ·have k:=h0 n x s h hi;rw[HK l x h];unfold run;cases hs:step x (l.getD x du) s with
   |inl r=>rw[hs] at k;exact k
   |inr s'=>
    rw[hs] at k;rw[k.1];exact qUQ l L idx step fin Inv h0 h1 n (x+1) s' (by omega) (by omega) k.2
  ·have e:x=l.length:=by omega
   subst e;rw[List.drop_length];exact h1 n s hi
theorem run_inv {α σ ρ:Type} [Inhabited α] (l:List α) (step:Nat->α->σ->ρ⊕σ) (Inv:Nat->σ->Prop) (h:∀x s s',x<l.length->Inv x s->step x (l.getD x du) s= .inr s'->Inv (x+1) s'):
  ∀(x:Nat) (s s':σ),x<=l.length->Inv x s->run step x (l.drop x) s= .inr s'->Inv l.length s':=by
 intro x
 induction hk:l.length-x generalizing x with
 |zero=>
  intro s s' hx hi hr;have e:x=l.length:=by omega
  subst e;rw[List.drop_length] at hr;cases hr;exact hi
 |succ k ih=>
  intro s s' hx hi hr;have h':x<l.length:=by omega
  rw[HK l x h'] at hr;unfold run at hr;cases hs:step x (l.getD x du) s with
  |inl r=>rw[hs] at hr;cases hr
  |inr t=>
   rw[hs] at hr;exact ih (x+1) (by omega) t s' (by omega) (h x s t h' hi hs) hr
theorem loop0 {α σ ρ β:Type} [Inhabited α] (l:List α) (L:Nat->σ->Int->Option β) (idx:Nat->Int) (step:Nat->α->σ->ρ⊕σ) (fin:ρ⊕σ->β) (Inv:Nat->σ->Prop) (hl:l.length<=1000000)
  (h0:∀n x s,x<l.length->Inv x s->match step x (l.getD x du) s with| .inl r=>L (n+1) s (idx x)=some (fin (.inl r))| .inr s'=>L (n+1) s (idx x)=L n s' (idx (x+1))/\Inv (x+1) s')
  (h1:∀n s,Inv l.length s->L (n+1) s (idx l.length)=some (fin (.inr s))) {i:Int} (hi:i=idx 0) (s:σ) (hs:Inv 0 s):L FUEL s i=some (fin (run step 0 l s)):=by
 have:=qUQ l L idx step fin Inv h0 h1 FUEL 0 s (by rw[FUEL_eq];omega) (kw _) hs;rw[hi];simpa using this
def findE {α ε:Type} (bad:α->Option ε):List α->ε⊕Unit
 |[]=> .inr ()
 |a::l=>match bad a with|some e=> .inl e|none=>findE bad l
theorem qUJ {α ε:Type} (bad:α->Option ε):∀(l:List α) (x:Nat),run (λ_ a (_:Unit)=>match bad a with|some e=>(.inl e:ε⊕Unit)|none=> .inr ()) x l ()=findE bad l
 |[],_=>rfl
 |a::l,x=>by
  unfold run findE;cases h:bad a with
  |some e=>rfl
  |none=>exact qUJ bad l (x+1)
theorem MF {α ε:Type} [Inhabited α] (l:List α) (L:Nat->Int->Option (ε⊕Unit)) (bad:α->Option ε) (hl:l.length<=1000000)
  (h0:∀n x,x<l.length->L (n+1) ((x:Nat):Int)=match bad (l.getD x du) with|some e=>some (.inl e)|none=>L n ((x+1:Nat):Int))
  (h1:∀n,L (n+1) (l.length:Int)=some (.inr ())):L FUEL 0=some (findE bad l):=by
 have:=loop0 l (λn (_:Unit) x=>L n x) (λx=>(x:Int)) (λ_ a _=>match bad a with|some e=>(.inl e:ε⊕Unit)|none=> .inr ()) (λr=>r) (λ_ _=>True) hl
  (λn x s hx _=>by
   have:=h0 n x hx;cases hb:bad (l.getD x du) with
   |some e=>simp only;rw[this,hb]
   |none=>simp only;rw[this,hb];exact⟨rfl,trivial⟩)
  (λn s _=>h1 n) (i:=0) rfl () trivial
 rw[qUJ] at this;exact this
theorem qA3 {α ε:Type} {bad:α->Option ε}:∀{l:List α},findE bad l= .inr ()↔∀a∈l,bad a=none
 |[]=>by simp[findE]
 |a::l=>by
  unfold findE;cases h:bad a with
  |some e=>simp[h]
  |none=>simp[h,qA3 (l:=l)]
def EO {α σ:Type} (f:Nat->α->σ->σ):Nat->List α->σ->σ
 |_,[],s=>s
 |x,a::l,s=>EO f (x+1) l (f x a s)
theorem run_fold {α σ ρ:Type} (f:Nat->α->σ->σ):∀(l:List α) (x:Nat) (s:σ),run (λx a s=>(.inr (f x a s):ρ⊕σ)) x l s= .inr (EO f x l s)
 |[],_,_=>rfl
 |a::l,x,s=>by unfold run EO;exact run_fold f l (x+1) (f x a s)
theorem qF1 {α σ β:Type} [Inhabited α] (l:List α) (L:Nat->σ->Int->Option β) (idx:Nat->Int) (f:Nat->α->σ->σ) (out:σ->β) (Inv:Nat->σ->Prop) (hl:l.length<=1000000)
  (h0:∀n x s,x<l.length->Inv x s->L (n+1) s (idx x)=L n (f x (l.getD x du) s) (idx (x+1))/\Inv (x+1) (f x (l.getD x du) s))
  (h1:∀n s,Inv l.length s->L (n+1) s (idx l.length)=some (out s)) {i:Int} (hi:i=idx 0) (s:σ) (hs:Inv 0 s):L FUEL s i=some (out (EO f 0 l s))/\Inv l.length (EO f 0 l s):=by
 have k:=loop0 l L idx (λx a s=>(.inr (f x a s):Unit⊕σ)) (λr=>match r with| .inl _=>out s| .inr s=>out s) Inv hl (λn x s hx hi=>h0 n x s hx hi) (λn s hi=>h1 n s hi) hi s hs;rw[run_fold] at k;refine⟨k,?_⟩;exact run_inv l (λx a s=>(.inr (f x a s):Unit⊕σ)) Inv (λx s s' hx hi e=>by cases e;exact(h0 0 x s hx hi).2) 0 s _ (kw _) hs (by rw[uN];exact run_fold f l 0 s)
def mapi {α β:Type} (g:Nat->α->β):Nat->List α->List β
 |_,[]=>[]
 |x,a::l=>g x a::mapi g (x+1) l
theorem qKR {α β:Type} (g:Nat->α->β):∀(l:List α) (x:Nat) (t:List β),EO (λx a (t:List β)=>t++[g x a]) x l t=t++mapi g x l
 |[],_,t=>by simp[EO,mapi]
 |a::l,x,t=>by unfold EO mapi;rw[qKR g l (x+1) (t++[g x a])];simp
theorem qOz {α β:Type} (g:Nat->α->β):∀(l:List α) (x:Nat),(mapi g x l).length=l.length
 |[],_=>rfl
 |a::l,x=>by simp[mapi,qOz g l (x+1)]
theorem qNZ {α β:Type} [Inhabited α] [Inhabited β] (g:Nat->α->β):∀(l:List α) (x j:Nat),j<l.length->(mapi g x l).getD j du=g (x+j) (l.getD j du)
 |[],_,j,h=>by simp at h
 |a::l,x,0,_=>by simp[mapi]
 |a::l,x,j+1,h=>by
  have:=qNZ g l (x+1) j (by simpa using h);rw[show x+(j+1)=x+1+j by omega];simpa[mapi] using this
end Go.SL
namespace Go.SL
namespace Saw
def empS (s:Span):Bool:=decide (s.B<=s.A)
def rngS (s:Span):Bool:=(decide (-600<=s.A)&&decide (s.A<=600))&&(decide (-600<=s.B)&&decide (s.B<=600))
def qIt (s:Span):Bool:=(s.A==0)&&(s.B==0)
theorem qTZ {s:Span}:rngS s=true↔(-600<=s.A/\s.A<=600)/\(-600<=s.B/\s.B<=600):=by unfold rngS;simp
theorem VI (s:Span):QC s=some (empS s):=rfl
theorem DA (s:Span):VU s=some (empS s):=rfl
theorem qLc (s:Span):VC s=some (rngS s):=by
 have e:rngS s=(decide (imin s.A s.B≥-600)&&decide (imax s.A s.B<=600)):=by
  rw[Bool.eq_iff_iff,qTZ,kq,decide_eq_true_eq,decide_eq_true_eq,ge_iff_le,le_imin,qZU];omega
 unfold VC UO;rw[e];cases decide (imin s.A s.B≥-600)<;>rfl
theorem qP3 (n:Int):qAo n=some (!(decide (-600<=n)&&decide (n<=600))):=by
 unfold qAo qBf;by_cases h1:n< -600
 ·rw[ki h1,kf (show¬-600<=n by omega)];rfl
 ·rw[kf h1,ki (show-600<=n by omega)];by_cases h2:n>600
  ·rw[ki h2,kf (show¬n<=600 by omega)];rfl
  ·rw[kf h2,ki (show n<=600 by omega)];rfl
def bad9 (s:Span):Option Int:=bif rngS s then none else some 9
def bad19 (s:Span):Option Int:=bif empS s&&!qIt s then some 19 else none
def qQ9 (s:qG):Int:=
 match findE bad9 s.Rows with
 | .inl e=>e
 | .inr _=>
  if s.Rows.length=0 then(if s.Low=0 then 0 else 19)
  else if empS (s.Rows.getD 0 du)=true\/empS (s.Rows.getD (s.Rows.length-1) du)=true then 19
  else match findE bad19 s.Rows with
   | .inl e=>e
   | .inr _=>0
def qF8 (s:qG):Int:=if 120<s.Rows.length then 4 else if s.Low< -60\/60-(s.Rows.length:Int)<s.Low then 9 else qQ9 s
theorem chk_L (s:qG) (hl:s.Rows.length<=120):ZX s FUEL 0=some (findE bad9 s.Rows)/\yI s FUEL 0=some (findE bad19 s.Rows)/\YR s FUEL 0=some (findE bad9 s.Rows)/\YT s FUEL 0=some (findE bad19 s.Rows):=by
 have e1:∀(l:List Span) (x:Nat),(l.length:Nat)<1000->x<l.length->decide ((x:Int)<(l.length:Int))=true/\inb (x:Int) l.length=true/\w64 ((x:Int)+1)=((x+1:Nat):Int):=λl x h hx=>⟨ki (by omega),zR (by omega),wH (by omega)⟩
 refine⟨MF s.Rows (ZX s) bad9 (by omega) (λn x hx=>?_) (λn=>?_),MF s.Rows (yI s) bad19 (by omega) (λn x hx=>?_) (λn=>?_),MF s.Rows (YR s) bad9 (by omega) (λn x hx=>?_) (λn=>?_),MF s.Rows (YT s) bad19 (by omega) (λn x hx=>?_) (λn=>?_)⟩
 ·obtain⟨a1,a2,a3⟩:=e1 s.Rows x (by omega) hx;rw[ZX];simp only[a1,a2,a3,kp,kg,qLc,kd,bad9];cases rngS (s.Rows.getD x du)<;>rfl
 ·unfold ZX;simp
 ·obtain⟨a1,a2,a3⟩:=e1 s.Rows x (by omega) hx;rw[yI];simp only[NG,a1,a2,a3,kp,kg,VI,kd,bad19,qIt,Bool.and_true];cases empS (s.Rows.getD x du)<;>cases ((s.Rows.getD x du).A==0&&(s.Rows.getD x du).B==0)<;>rfl
 ·unfold yI;simp
 ·obtain⟨a1,a2,a3⟩:=e1 s.Rows x (by omega) hx;rw[YR];simp only[qBO,a1,a2,a3,kp,kg,qP3,kd,bad9,rngS];cases (decide (-600<=(s.Rows.getD x du).A)&&decide ((s.Rows.getD x du).A<=600))<;>cases (decide (-600<=(s.Rows.getD x du).B)&&decide ((s.Rows.getD x du).B<=600))<;>rfl
 ·unfold YR;simp
 ·obtain⟨a1,a2,a3⟩:=e1 s.Rows x (by omega) hx;rw[YT];simp only[qB0,a1,a2,a3,kp,kg,DA,kd,bad19,qIt,Bool.and_true];cases empS (s.Rows.getD x du)<;>cases ((s.Rows.getD x du).A==0&&(s.Rows.getD x du).B==0)<;>rfl
 ·unfold YT;simp
theorem qOv (s:qG):KZ s=some (qF8 s)/\qHa s=some (qF8 s):=by
 unfold KZ qHa qF8;by_cases h:120<s.Rows.length
 ·rw[ki (show(s.Rows.length:Int)>120 by omega),if_pos h];exact⟨rfl,rfl⟩
 rw[kf (show¬(s.Rows.length:Int)>120 by omega),if_neg h,w64_o (by omega)];simp only[kv];obtain⟨l1,l2,l3,l4⟩:=chk_L s (by omega);by_cases h1:s.Low< -60
 ·rw[ki h1,if_pos (.inl h1)];exact⟨rfl,rfl⟩
 rw[kf h1];by_cases h2:60-(s.Rows.length:Int)<s.Low
 ·rw[ki (show s.Low>_ from h2),if_pos (.inr h2)];exact⟨rfl,rfl⟩
 rw[kf (show¬s.Low>_ from h2),if_neg (by omega)];unfold ND qCk BJ qBt qQ9;simp only[kv,l1,l2,l3,l4,kd,VI,DA];cases findE bad9 s.Rows with
 |inl e=>exact⟨rfl,rfl⟩
 |inr u=>
  simp only[Sum.elim_inr];by_cases h0:s.Rows.length=0
  ·rw[if_pos h0,h0];by_cases hw:s.Low=0
   ·rw[if_pos hw,hw];exact⟨rfl,rfl⟩
   ·rw[if_neg hw];have:(s.Low !=0)=true:=by simpa using hw
    simp[this]
  ·rw[if_neg h0];have e0:((s.Rows.length:Int)==0)=false:=by rw[kT];omega
   have e1:w64 ((s.Rows.length:Int)-1)=((s.Rows.length-1:Nat):Int):=by rw[w64_o (by omega)];omega
   rw[e0,zR (by omega),e1,zR (by omega)];simp only[kv,kp,gB,kg];cases hf:empS (s.Rows.getD 0 du) with
   |true=>simp
   |false=>cases hg:empS (s.Rows.getD (s.Rows.length-1) du) with
    |true=>simp
    |false=>
     simp only[kv,gt,or_self,if_false];cases findE bad19 s.Rows<;>exact⟨rfl,rfl⟩
def nilS :qG:=⟨0,[]⟩
def zbQ (s:qG):qG:=if qF8 s=0 then s else nilS
theorem qFC (s:qG):QX s=some (zbQ s)/\qCN s=some (zbQ s):=by
 unfold QX qCN zbQ;rw[(qOv s).1,(qOv s).2];simp only[kd];by_cases h:qF8 s=0
 ·rw[h];exact⟨rfl,rfl⟩
 ·have:(qF8 s !=0)=true:=by simpa using h
  rw[this,if_neg h];exact⟨rfl,rfl⟩
def nrm (x:Span):Span:=bif empS x then⟨0,0⟩ else x
theorem nrm_nrm (x:Span):nrm (nrm x)=nrm x:=by
 unfold nrm;cases h:empS x with
 |true=>rfl
 |false=>simp[h]
theorem qHG (x:Span):empS (nrm x)=empS x:=by
 unfold nrm;cases h:empS x with
 |true=>rfl
 |false=>simpa using h
theorem qUr {x:Span} (h:empS x=false):nrm x=x:=by unfold nrm;rw[h];rfl
theorem qAb {x:Span} (h:empS x=true):nrm x=⟨0,0⟩:=by unfold nrm;rw[h];rfl
def row (s:qG) (r:Int):Span:=if r<s.Low then⟨0,0⟩ else s.Rows.getD (r-s.Low).toNat du
structure Trim (s:qG):Prop where
 nil:s.Rows=[]->s.Low=0
 first:s.Rows≠[]->empS (s.Rows.getD 0 du)=false
 last:s.Rows≠[]->empS (s.Rows.getD (s.Rows.length-1) du)=false
theorem qRG {α:Type} [Inhabited α] {l:List α} {i:Nat} (h:l.length<=i):l.getD i du=du:=by
 rw[ka,List.getElem?_eq_none h];rfl
theorem qYY {s:qG} {r:Int} (h:empS (row s r)=false):s.Low<=r/\r<s.Low+s.Rows.length:=by
 unfold row at h;split at h
 ·exact absurd h (by decide)
 ·refine⟨by omega,Classical.byContradiction λhn=>?_⟩;rw[qRG (by omega)] at h;exact absurd h (by decide)
theorem qES {s:qG} {i:Nat}:row s (s.Low+i)=s.Rows.getD i du:=by
 unfold row;rw[if_neg (by omega)]
 congr 1
 omega
theorem qRE {s t:qG} (hs:Trim s) (ht:Trim t) (h:∀r,row s r=row t r):s=t:=by
 have one:∀{s t:qG},Trim s->(∀r,row s r=row t r)->s.Rows≠[]->t.Low<=s.Low/\s.Low+s.Rows.length<=t.Low+t.Rows.length:=by
  intro s t hs h hne;have hl:0<s.Rows.length:=uq.2 hne;have k1:=qES (s:=s) (i:=0);have k2:=qES (s:=s) (i:=s.Rows.length-1);have f1:=hs.first hne;have f2:=hs.last hne;rw[<-k1,h] at f1;rw[<-k2,h] at f2;have g1:=qYY f1;have g2:=qYY f2;omega
 have key:s.Low=t.Low/\s.Rows.length=t.Rows.length:=by
  by_cases h1:s.Rows=[]
  ·by_cases h2:t.Rows=[]
   ·exact⟨by rw[hs.nil h1,ht.nil h2],by rw[h1,h2]⟩
   ·have:=one ht (λr=>(h r).symm) h2;have hl:0<t.Rows.length:=uq.2 h2;rw[h1] at this;simp only[gJ] at this;omega
  ·by_cases h2:t.Rows=[]
   ·have:=one hs h h1;have hl:0<s.Rows.length:=uq.2 h1;rw[h2] at this;simp only[gJ] at this;omega
   ·have a1:=one hs h h1;have a2:=one ht (λr=>(h r).symm) h2;omega
 obtain⟨lo,rs⟩:=s;obtain⟨lo',rs'⟩:=t;simp only at key;obtain⟨rfl,hl⟩:=key
 congr 1
 refine qUy hl (λj hj=>?_);have:=h (lo+j);have e1:=qES (s:=⟨lo,rs⟩) (i:=j);have e2:=qES (s:=⟨lo,rs'⟩) (i:=j);simp only at e1 e2;rw[e1,e2] at this;exact this
structure VS (s:qG):Prop extends Trim s where
 len:s.Rows.length<=120
 low: -60<=s.Low
 high:s.Low+s.Rows.length<=60
 rng:∀x∈s.Rows,rngS x=true
 zero:∀x∈s.Rows,empS x=true->x=⟨0,0⟩
theorem qZh {x:Span}:bad9 x=none↔rngS x=true:=by unfold bad9;cases rngS x<;>simp
theorem zeroS_iff {x:Span}:qIt x=true↔x=⟨0,0⟩:=by unfold qIt;cases x;simp
theorem qP8 {x:Span}:bad19 x=none↔(empS x=true->x=⟨0,0⟩):=by
 unfold bad19;cases h:empS x with
 |false=>simp
 |true=>cases hz:qIt x with
  |true=>simp[zeroS_iff.1 hz]
  |false=>simp;intro e;rw[zeroS_iff.2 e] at hz;cases hz
theorem qFQ {ε α:Type} {bad:α->Option ε} {l:List α} {e:ε} (h:findE bad l= .inl e):∃a∈l,bad a=some e:=by
 induction l with
 |nil=>cases h
 |cons a l ih=>
  unfold findE at h;cases hb:bad a with
  |some e'=>rw[hb] at h;cases h;exact⟨a,by simp,hb⟩
  |none=>rw[hb] at h;obtain⟨x,hx,hx'⟩:=ih h;exact⟨x,kG _ hx,hx'⟩
theorem chk10_zero (s:qG):qF8 s=0↔VS s:=by
 unfold qF8;by_cases h:120<s.Rows.length
 ·rw[if_pos h];exact⟨λh=>absurd h (by decide),λhv=>by have:=hv.len;omega⟩
 rw[if_neg h];by_cases h1:s.Low< -60\/60-(s.Rows.length:Int)<s.Low
 ·rw[if_pos h1];exact⟨λh=>absurd h (by decide),λhv=>by have:=hv.low;have:=hv.high;omega⟩
 rw[if_neg h1];unfold qQ9;cases h9:findE bad9 s.Rows with
 |inl e=>
  obtain⟨a,ha,hb⟩:=qFQ h9;have e9:e=9/\rngS a=false:=by unfold bad9 at hb;cases hr:rngS a<;>rw[hr] at hb<;>simp at hb;exact⟨hb.symm,rfl⟩
  simp only;refine⟨λh=>by omega,λhv=>?_⟩;have:=hv.rng a ha;rw[e9.2] at this;cases this
 |inr u=>
  have hr:∀x∈s.Rows,rngS x=true:=λx hx=>qZh.1 (qA3.1 h9 x hx);simp only;by_cases h0:s.Rows.length=0
  ·have en:s.Rows=[]:=List.length_eq_zero_iff.1 h0;rw[if_pos h0];by_cases hw:s.Low=0
   ·rw[if_pos hw];exact⟨λ_=>⟨⟨λ_=>hw,λh=>absurd en h,λh=>absurd en h⟩,by omega,by omega,by omega,hr,λx hx=>by rw[en] at hx;cases hx⟩,λ_=>rfl⟩
   ·rw[if_neg hw];exact⟨λh=>absurd h (by decide),λhv=>absurd (hv.nil en) hw⟩
  ·rw[if_neg h0];have hne:s.Rows≠[]:=λe=>h0 (by rw[e];rfl);by_cases hf:empS (s.Rows.getD 0 du)=true\/empS (s.Rows.getD (s.Rows.length-1) du)=true
   ·rw[if_pos hf];refine⟨λh=>absurd h (by decide),λhv=>?_⟩;rcases hf with hf|hf
    ·rw[hv.first hne] at hf;cases hf
    ·rw[hv.last hne] at hf;cases hf
   ·rw[if_neg hf];have f1:empS (s.Rows.getD 0 du)=false:=by simpa using λh=>hf (.inl h)
    have f2:empS (s.Rows.getD (s.Rows.length-1) du)=false:=by simpa using λh=>hf (.inr h)
    cases h19:findE bad19 s.Rows with
    |inl e=>
     obtain⟨a,ha,hb⟩:=qFQ h19;simp only;have e19:e=19:=by unfold bad19 at hb;cases hr:(empS a&&!qIt a)<;>rw[hr] at hb<;>simp at hb;exact hb.symm
     refine⟨λh=>by omega,λhv=>?_⟩;have:=qP8.2 (hv.zero a ha);rw[this] at hb;cases hb
    |inr u'=>
     exact⟨λ_=>⟨⟨λe=>absurd e hne,λ_=>f1,λ_=>f2⟩,by omega,by omega,by omega,hr,λx hx=>qP8.1 (qA3.1 h19 x hx)⟩,λ_=>rfl⟩
theorem qKP :VS nilS:=(chk10_zero nilS).1 rfl
theorem qJr (s:qG):VS (zbQ s):=by
 unfold zbQ;split
 ·rename_i h;exact(chk10_zero s).1 h
 ·exact qKP
theorem qUu {s:qG} (h:VS s):zbQ s=s:=by unfold zbQ;rw[if_pos ((chk10_zero s).2 h)]
theorem VS_of {s:qG} (ht:Trim s) (f:Int->Span) (hf:∀r,row s r=if-60<=r/\r<60 then nrm (f r) else⟨0,0⟩) (hr:∀r,-60<=r->r<60->rngS (nrm (f r))=true):VS s:=by
 have bnd:s.Rows≠[]->-60<=s.Low/\s.Low+s.Rows.length<=60:=λhne=>by
  have hl:0<s.Rows.length:=uq.2 hne;have k1:=qES (s:=s) (i:=0);have k2:=qES (s:=s) (i:=s.Rows.length-1);have f1:=ht.first hne;have f2:=ht.last hne;rw[<-k1,hf] at f1;rw[<-k2,hf] at f2;split at f1
  ·split at f2
   ·omega
   ·exact absurd f2 (by decide)
  ·exact absurd f1 (by decide)
 have el:∀x∈s.Rows,∃r,-60<=r/\r<60/\x=nrm (f r):=λx hx=>by
  obtain⟨i,hi,e⟩:=uK.1 hx;have hne:s.Rows≠[]:=List.ne_nil_of_mem hx;have b:=bnd hne;have k:=qES (s:=s) (i:=i);rw[hf,if_pos (by omega)] at k;refine⟨s.Low+i,by omega,by omega,?_⟩;rw[k,ka,ks hi,<-e];rfl
 refine⟨ht,?_,?_,?_,λx hx=>?_,λx hx he=>?_⟩
 ·by_cases hne:s.Rows=[]
  ·rw[hne];simp
  ·have:=bnd hne;omega
 ·by_cases hne:s.Rows=[]
  ·rw[ht.nil hne];decide
  ·have:=bnd hne;omega
 ·by_cases hne:s.Rows=[]
  ·rw[ht.nil hne,hne];decide
  ·have:=bnd hne;omega
 ·obtain⟨r,h1,h2,rfl⟩:=el x hx;exact hr r h1 h2
 ·obtain⟨r,h1,h2,rfl⟩:=el x hx;rw[qHG] at he;exact qAb he
def qFE (g:Nat->Span) (r:Int):Span:=if-60<=r/\r<60 then nrm (g (r+60).toNat) else⟨0,0⟩
structure BInv (g:Nat->Span) (k:Nat) (a u:Nat) (l:List Span):Prop where
 ak:a<k
 fa:empS (g a)=false
 bef:∀j,j<a->empS (g j)=true
 len:l.length=k-a
 el:∀i,i<k-a->l.getD i du=nrm (g (a+i))
 u0:0<u
 uk:u<=k-a
 fu:empS (g (a+u-1))=false
 aft:∀i,u<=i->i<k-a->empS (g (a+i))=true
def BI (g:Nat->Span) (k:Nat) (s:Int×Int×List Span):Prop:=(s=(0,0,[])/\∀j,j<k->empS (g j)=true)\/∃a u:Nat,s.1=(u:Int)/\s.2.1=(a:Int)-60/\BInv g k a u s.2.2
def bst (g:Nat->Span) (x:Nat) (s:Int×Int×List Span):Int×Int×List Span:=
 bif !empS (g x) then(((s.2.2.length+1:Nat):Int),(bif s.1==0 then(x:Int)-60 else s.2.1),s.2.2++[g x])
 else bif decide (s.1>0) then(s.1,s.2.1,s.2.2++[⟨0,0⟩]) else s
theorem qSm {α:Type} [Inhabited α] {l:List α} {x:α} {i:Nat} (h:i<=l.length):(l++[x]).getD i du=if i<l.length then l.getD i du else x:=by
 rw[ka];by_cases hi:i<l.length
 ·rw[if_pos hi,kD hi,<-ka]
 ·rw[if_neg hi,kA (by omega),show i-l.length=0 by omega];rfl
theorem qXn {g:Nat->Span} {k:Nat} {s:Int×Int×List Span} (h:BI g k s):BI g (k+1) (bst g k s):=by
 unfold bst;rcases h with⟨rfl,hall⟩|⟨a,u,e1,e2,hb⟩
 ·cases he:empS (g k) with
  |true=>
   refine .inl ⟨rfl,λj hj=>?_⟩;by_cases hjk:j=k
   ·rw[hjk];exact he
   ·exact hall j (by omega)
  |false=>
   refine .inr ⟨k,1,rfl,rfl,⟨by omega,he,hall,by simp,λi hi=>?_,by omega,by omega,by simpa using he,λi h1 h2=>by omega⟩⟩;obtain rfl:i=0:=by omega
   exact(qUr he).symm
 ·have hu:0<u:=hb.u0;have ak:=hb.ak;have hl:=hb.len;have e0:(s.1==0)=false:=by rw[e1,kT];omega
  have e0':decide (s.1>0)=true:=by rw[e1];exact ki (by omega)
  rw[e0,e0'];simp only[kv,kp];cases he:empS (g k) with
  |false=>
   refine .inr ⟨a,s.2.2.length+1,rfl,e2,⟨by omega,hb.fa,hb.bef,by simp;omega,λi hi=>?_,by omega,by omega,?_,λi h1 h2=>by omega⟩⟩
   ·simp only[gT,kp];rw[qSm (by omega)];split
    ·exact hb.el i (by omega)
    ·rw[show a+i=k by omega];exact(qUr he).symm
   ·rw[hl,show a+(k-a+1)-1=k by omega];exact he
  |true=>
   refine .inr ⟨a,u,e1,e2,⟨by omega,hb.fa,hb.bef,by simp;omega,λi hi=>?_,hu,by have:=hb.uk;omega,hb.fu,λi h1 h2=>?_⟩⟩
   ·simp only[ue,kv];rw[qSm (by omega)];split
    ·exact hb.el i (by omega)
    ·rw[show a+i=k by omega];exact(qAb he).symm
   ·by_cases hik:i<k-a
    ·exact hb.aft i h1 hik
    ·rw[show a+i=k by omega];exact he
theorem qLl {α:Type} [Inhabited α] {l:List α} {u i:Nat}:(l.take u).getD i du=if i<u then l.getD i du else du:=by
 rw[ka,uf];split
 ·rw[<-ka]
 ·rfl
theorem qYJ {g:Nat->Span} {s:Int×Int×List Span} (h:BI g 120 s):slOk 0 s.1 s.2.2.length=true/\Trim ⟨s.2.1,s.2.2.take s.1.toNat⟩/\∀r,row ⟨s.2.1,s.2.2.take s.1.toNat⟩ r=qFE g r:=by
 rcases h with⟨rfl,hall⟩|⟨a,u,e1,e2,hb⟩
 ·refine⟨rfl,⟨λ_=>rfl,λh=>absurd rfl h,λh=>absurd rfl h⟩,λr=>?_⟩;have:row ⟨0,([]:List Span).take 0⟩ r=⟨0,0⟩:=by unfold row;split<;>rfl
  refine Eq.trans this ?_;unfold qFE;split
  ·rw[qAb (hall _ (by omega))]
  ·rfl
 ·have hl:=hb.len;have uk:=hb.uk;have u0:=hb.u0;have ak:=hb.ak;have eu:s.1.toNat=u:=by rw[e1];simp
  rw[eu];have tl:(s.2.2.take u).length=u:=by rw[uc];omega
  refine⟨?_,⟨λh=>?_,λ_=>?_,λ_=>?_⟩,λr=>?_⟩
  ·unfold slOk;rw[e1];exact ki ⟨by omega,by omega,by omega⟩
  ·have h':s.2.2.take u=[]:=h;rw[h'] at tl;simp at tl;omega
  ·show empS ((s.2.2.take u).getD 0 du)=false;rw[qLl,if_pos u0,hb.el 0 (by omega),qHG];exact hb.fa
  ·show empS ((s.2.2.take u).getD ((s.2.2.take u).length-1) du)=false;rw[tl,qLl,if_pos (by omega),hb.el (u-1) (by omega),qHG,show a+(u-1)=a+u-1 by omega];exact hb.fu
  ·unfold row qFE;simp only[e2];by_cases h1:r<(a:Int)-60
   ·rw[if_pos h1];split
    ·rw[qAb (hb.bef _ (by omega))]
    ·rfl
   ·rw[if_neg h1,qLl];have ei:(r-((a:Int)-60)).toNat+a=(r+60).toNat:=by omega
    by_cases h2:(r-((a:Int)-60)).toNat<u
    ·rw[if_pos h2,hb.el _ (by omega),if_pos (by omega),<-ei,Nat.add_comm]
    ·rw[if_neg h2];split
     ·rw[<-ei,Nat.add_comm];by_cases h3:(r-((a:Int)-60)).toNat<120-a
      ·rw[qAb (hb.aft _ (by omega) h3)];rfl
      ·omega
     ·rfl
noncomputable def qBa (g:Nat->Span):qG:=⟨(EO (λx (_:Nat) s=>bst g x s) 0 (List.range 120) (0,0,[])).2.1,(EO (λx (_:Nat) s=>bst g x s) 0 (List.range 120) (0,0,[])).2.2.take (EO (λx (_:Nat) s=>bst g x s) 0 (List.range 120) (0,0,[])).1.toNat⟩
theorem qUU (g:Nat->Span):∀(l:List Nat) (x:Nat) (s:Int×Int×List Span),BI g x s->BI g (x+l.length) (EO (λx (_:Nat) s=>bst g x s) x l s)
 |[],x,s,h=>h
 |a::l,x,s,h=>by
  unfold EO;have:=qUU g l (x+1) _ (qXn h);rw[uJ,show x+(l.length+1)=x+1+l.length by omega];exact this
theorem EP (g:Nat->Span):Trim (qBa g)/\∀r,row (qBa g) r=qFE g r:=by
 have:=qUU g (List.range 120) 0 (0,0,[]) (.inl ⟨rfl,λj hj=>by omega⟩);rw[uD] at this;exact(qYJ this).2
theorem qZ7 {g:Nat->Span} (h:∀j,j<120->rngS (nrm (g j))=true):VS (qBa g):=by
 obtain⟨h1,h2⟩:=EP g;refine VS_of h1 (λr=>g (r+60).toNat) (λr=>?_) (λr r1 r2=>h _ (by omega));rw[h2 r];rfl
theorem qSH (g:Nat->Span) (L:Nat->Int->Int->Int->List Span->Option (Int×Int×List Span))
  (h0:∀n (x:Nat) u w (l:List Span),x<120->L (n+1) u ((x:Int)-60) w l=bif !empS (g x) then(bif u==0 then(bif room (l.length+1) 16 then L n (((l.length+1):Nat):Int) (w64 ((x:Int)-60+1)) ((x:Int)-60) (l++([g x]:List Span)) else none) else(bif room (l.length+1) 16 then L n (((l.length+1):Nat):Int) (w64 ((x:Int)-60+1)) w (l++([g x]:List Span)) else none))
   else bif decide (u>0) then(bif room (l.length+1) 16 then L n u (w64 ((x:Int)-60+1)) w (l++([(Span.mk 0 0)]:List Span)) else none) else L n u (w64 ((x:Int)-60+1)) w l)
  (h1:∀n u w l,L (n+1) u 60 w l=some (u,w,l)):
  ((L FUEL 0 (-60) 0 []).bind λo=>bif slOk 0 o.1 o.2.2.length then some (qG.mk o.2.1 (o.2.2.take o.1.toNat)) else none)=some (qBa g):=by
 have k:=qF1 (List.range 120) (λn (s:Int×Int×List Span) x=>L n s.1 x s.2.1 s.2.2) (λx=>(x:Int)-60) (λx (_:Nat) s=>bst g x s) (λs=>s) (λx s=>BI g x s/\s.2.2.length<=x) (by simp)
  (λn x s hx hi=>by
   have hx':x<120:=by simpa using hx
   have hrm:room (s.2.2.length+1) 16=true:=yC (by omega);have e:w64 ((x:Int)-60+1)=((x+1:Nat):Int)-60:=by rw[w64_o (by omega)];omega
   refine⟨?_,qXn hi.1,?_⟩
   ·rw[h0 n x _ _ _ hx',hrm,e];unfold bst;cases empS (g x) with
    |false=>cases s.1==0<;>rfl
    |true=>cases decide (s.1>0)<;>rfl
   ·unfold bst;cases empS (g x) with
    |false=>simp;omega
    |true=>cases decide (s.1>0)<;>simp<;>omega)
  (λn s hi=>by simpa using h1 n s.1 s.2.1 s.2.2) (i:= -60) rfl (0,0,[]) ⟨.inl ⟨rfl,λj hj=>by omega⟩,by simp⟩
 obtain⟨k1,k2,_⟩:=k;simp only at k1;rw[k1];simp only[kd];rw[uD] at k2;rw[(qYJ k2).1];rfl
end Saw
end Go.SL

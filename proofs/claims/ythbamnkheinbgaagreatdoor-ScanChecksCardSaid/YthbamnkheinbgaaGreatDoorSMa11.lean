/- Plain mathematics that all seats use: loops over an index. -/
import Derived.Test.YthbamnkheinbgaaGreatDoorSMa10
import Derived.Test.YthbamnkheinbgaaGreatDoorSMa8
set_option linter.unusedVariables false
set_option linter.unusedSimpArgs false
namespace Go.SL
def runN {σ ρ:Type} (step:Nat->σ->ρ⊕σ):Nat->Nat->σ->ρ⊕σ
 |_,0,s=> .inr s
 |x,k+1,s=>match step x s with
  | .inl r=> .inl r
  | .inr s'=>runN step (x+1) k s'
theorem AY {σ ρ β:Type} (N:Nat) (L:Nat->σ->Int->Option β) (step:Nat->σ->ρ⊕σ) (fin:ρ⊕σ->β) (Inv:Nat->σ->Prop)
  (h0:∀n x s,x<N->Inv x s->match step x s with| .inl r=>L (n+1) s (x:Int)=some (fin (.inl r))| .inr s'=>L (n+1) s (x:Int)=L n s' ((x+1:Nat):Int)/\Inv (x+1) s')
  (h1:∀n s,Inv N s->L (n+1) s (N:Int)=some (fin (.inr s))):
  ∀(n x:Nat) (s:σ),N<x+n->x<=N->Inv x s->L n s (x:Int)=some (fin (runN step x (N-x) s))
 |0,x,s,hn,hx,_=>by omega
 |n+1,x,s,hn,hx,hi=>by
  by_cases h:x<N
  ·have k:=h0 n x s h hi;obtain⟨m,hm⟩:∃m,N-x=m+1:=⟨N-x-1,by omega⟩
   rw[hm];unfold runN;cases hs:step x s with
   |inl r=>rw[hs] at k;exact k
   |inr s'=>
    rw[hs] at k;rw[k.1,AY N L step fin Inv h0 h1 n (x+1) s' (by omega) (by omega) k.2,show N-(x+1)=m by omega]
  ·have e:x=N:=by omega
   subst e;rw[Nat.sub_self];exact h1 n s hi
def findN {ε:Type} (bad:Nat->Option ε):Nat->Nat->ε⊕Unit
 |_,0=> .inr ()
 |x,k+1=>match bad x with
  |some e=> .inl e
  |none=>findN bad (x+1) k
theorem qAK {ε:Type} {bad:Nat->Option ε}:∀{k x:Nat},findN bad x k= .inr ()↔∀i,x<=i->i<x+k->bad i=none
 |0,x=>by simp[findN];intro i h1 h2;omega
 |k+1,x=>by
  unfold findN;cases hb:bad x with
  |some e=>simp only[reduceCtorEq,false_iff];intro h;rw[h x (kg _) (by omega)] at hb;cases hb
  |none=>
   simp only[qAK (k:=k)];constructor
   ·intro h i h1 h2;by_cases e:i=x
    ·subst e;exact hb
    ·exact h i (by omega) (by omega)
   ·intro h i h1 h2;exact h i (by omega) (by omega)
theorem qBv {ε:Type} {bad:Nat->Option ε} {e:ε}:∀{k x:Nat},findN bad x k= .inl e->∃i,x<=i/\i<x+k/\bad i=some e/\∀j,x<=j->j<i->bad j=none
 |0,x,h=>by cases h
 |k+1,x,h=>by
  unfold findN at h;cases hb:bad x with
  |some e'=>rw[hb] at h;cases h;exact⟨x,kg _,by omega,hb,λj h1 h2=>by omega⟩
  |none=>
   rw[hb] at h;obtain⟨i,h1,h2,h3,h4⟩:=qBv (k:=k) h;refine⟨i,by omega,by omega,h3,λj a b=>?_⟩;by_cases e':j=x
   ·subst e';exact hb
   ·exact h4 j (by omega) b
theorem qCH {ε:Type} (bad:Nat->Option ε):∀(k x:Nat),runN (λx (_:Unit)=>match bad x with|some e=>(.inl e:ε⊕Unit)|none=> .inr ()) x k ()=findN bad x k
 |0,_=>rfl
 |k+1,x=>by
  unfold runN findN;cases bad x with
  |some e=>rfl
  |none=>exact qCH bad k (x+1)
theorem qBb {ε:Type} (N:Nat) (L:Nat->Int->Option (ε⊕Unit)) (bad:Nat->Option ε) (x:Nat) (hx:x<=N) (hN:N<=1000000000)
  (h0:∀n i,x<=i->i<N->L (n+1) (i:Int)=match bad i with|some e=>some (.inl e)|none=>L n ((i+1:Nat):Int))
  (h1:∀n,L (n+1) (N:Int)=some (.inr ())):L FUEL (x:Int)=some (findN bad x (N-x)):=by
 have k:=AY N (λn (_:Unit) i=>L n i) (λi _=>match bad i with|some e=>(.inl e:ε⊕Unit)|none=> .inr ()) (λr=>r) (λi _=>x<=i)
  (λn i s hi hxi=>by
   have h:=h0 n i hxi hi;cases hb:bad i with
   |some e=>simp only;rw[h,hb]
   |none=>simp only;rw[h,hb];exact⟨rfl,by omega⟩)
  (λn s _=>h1 n) FUEL x () (by rw[qCe];omega) hx (kg _)
 rw[qCH] at k;exact k
end Go.SL

namespace Go.SL
namespace Saw
def insS (s:Span) (lo hi:Int):Bool:=decide ((lo<=s.A/\lo<=s.B)/\(s.A<=hi/\s.B<=hi))
theorem qGf (s:Span) (lo hi:Int):jM s lo hi=some (insS s lo hi):=by
 unfold jM ZY insS;have a:=imin_or s.A s.B;have b:=imax_or s.A s.B;by_cases h1:imin s.A s.B≥lo
 ·rw[kr h1];by_cases h2:imax s.A s.B<=hi
  ·rw[kr h2,kr (by omega)];rfl
  ·rw[kp h2,kp (by omega)];rfl
 ·rw[kp h1,kp (show¬((lo<=s.A/\lo<=s.B)/\(s.A<=hi/\s.B<=hi)) by omega)];rfl
def chkD (d:qK):Int:=
 if d.Kind<1\/6<d.Kind then 10
 else bif empS d.Box.X||(empS d.Box.Y||empS d.Box.Z) then 19
 else bif insS d.Box.X (-600) 600&&(insS d.Box.Y (-600) 600&&insS d.Box.Z 0 20000) then 0 else 9
theorem qGZ (s:Span):jY s=some (empS s):=rfl
theorem chkD_eq (d:qK):JT d=some (chkD d):=by
 unfold JT JC QC QE chkD;simp only[qGZ,qGf,kB];by_cases h1:d.Kind<1
 ·rw[kr h1,if_pos (.inl h1)];rfl
 rw[kp h1];by_cases h2:d.Kind>6
 ·rw[kr h2,if_pos (.inr h2)];rfl
 rw[kp h2,if_neg (by omega)];cases empS d.Box.X<;>cases empS d.Box.Y<;>cases empS d.Box.Z<;>cases insS d.Box.X (-600) 600<;>cases insS d.Box.Y (-600) 600<;>cases insS d.Box.Z 0 20000<;>rfl
structure VD (d:qK):Prop where
 k1:1<=d.Kind
 k2:d.Kind<=6
 x:d.Box.X.A<d.Box.X.B/\-600<=d.Box.X.A/\d.Box.X.B<=600
 y:d.Box.Y.A<d.Box.Y.B/\-600<=d.Box.Y.A/\d.Box.Y.B<=600
 z:d.Box.Z.A<d.Box.Z.B/\0<=d.Box.Z.A/\d.Box.Z.B<=20000
theorem qGL (d:qK):chkD d=0↔VD d:=by
 unfold chkD;by_cases h1:d.Kind<1\/6<d.Kind
 ·rw[if_pos h1];exact⟨λh=>absurd h (by decide),λh=>by have:=h.k1;have:=h.k2;omega⟩
 rw[if_neg h1];cases hx:empS d.Box.X with
 |true=>exact⟨λh=>absurd (show(19:Int)=0 from h) (by decide),λh=>by have:=h.x;have:=kK hx;omega⟩
 |false=>
 cases hy:empS d.Box.Y with
 |true=>exact⟨λh=>absurd (show(19:Int)=0 from h) (by decide),λh=>by have:=h.y;have:=kK hy;omega⟩
 |false=>
 cases hz:empS d.Box.Z with
 |true=>exact⟨λh=>absurd (show(19:Int)=0 from h) (by decide),λh=>by have:=h.z;have:=kK hz;omega⟩
 |false=>
 have ex:=of_decide_eq_false hx;have ey:=of_decide_eq_false hy;have ez:=of_decide_eq_false hz;unfold insS;by_cases i1:(-600<=d.Box.X.A/\-600<=d.Box.X.B)/\d.Box.X.A<=600/\d.Box.X.B<=600
 ·rw[kr i1];by_cases i2:(-600<=d.Box.Y.A/\-600<=d.Box.Y.B)/\d.Box.Y.A<=600/\d.Box.Y.B<=600
  ·rw[kr i2];by_cases i3:(0<=d.Box.Z.A/\0<=d.Box.Z.B)/\d.Box.Z.A<=20000/\d.Box.Z.B<=20000
   ·rw[kr i3];exact⟨λ_=>⟨by omega,by omega,by omega,by omega,by omega⟩,λ_=>rfl⟩
   ·rw[kp i3];exact⟨λh=>absurd h (by decide),λh=>by have:=h.z;omega⟩
  ·rw[kp i2];exact⟨λh=>absurd (show(9:Int)=0 from h) (by decide),λh=>by have:=h.y;omega⟩
 ·rw[kp i1];exact⟨λh=>absurd (show(9:Int)=0 from h) (by decide),λh=>by have:=h.x;omega⟩
def badD (d:qK):Option Int:=bif chkD d !=0 then some (chkD d) else none
def KE (l:List qK):Int:=if 64<l.length then 4 else match findE badD l with| .inl e=>e| .inr _=>0
theorem qHE (l:List qK):YD l=some (KE l):=by
 unfold YD KE;by_cases h:64<l.length
 ·rw[if_pos h,kr (by omega)];rfl
 rw[if_neg h,kp (by omega)];have L:wS l FUEL 0=some (findE badD l):=by
  refine AP l (wS l) badD (by omega) (λn x hx=>?_) (λn=>?_)
  ·rw[wS,kr (by omega),XZ (by omega)];simp only[kv,kZ,BP (show x<4611686018427387904 by omega),chkD_eq,kB,badD];cases chkD (l.getD x dd) !=0<;>rfl
  ·rw[wS,kp (by omega)];rfl
 rw[L];simp only[kC,kB];cases findE badD l<;>rfl
theorem qCv {d:qK}:badD d=none↔VD d:=by
 rw[<-qGL];unfold badD;by_cases h:chkD d=0
 ·rw[h];simp
 ·rw[show(chkD d !=0)=true by rw[bne_iff_ne];exact h];simp[h]
theorem DP (l:List qK):KE l=0↔l.length<=64/\∀d∈l,VD d:=by
 unfold KE;by_cases h:64<l.length
 ·rw[if_pos h];exact⟨λh=>absurd h (by decide),λh=>by omega⟩
 rw[if_neg h];cases hf:findE badD l with
 |inl e=>
  obtain⟨a,ha,hb⟩:=qGu hf;simp only;have hn:e≠0:=by
   unfold badD at hb;cases hc:chkD a !=0 with
   |true=>rw[hc] at hb;cases hb;exact bne_iff_ne.1 hc
   |false=>rw[hc] at hb;cases hb
  exact⟨λh=>absurd h hn,λh=>by rw[qCv.2 (h.2 a ha)] at hb;cases hb⟩
 |inr u=>exact⟨λ_=>⟨by omega,λd hd=>qCv.1 (qBf.1 hf d hd)⟩,λ_=>rfl⟩
theorem qGY (b:Box):XI b=some (empS b.X||(empS b.Y||empS b.Z)):=by
 unfold XI QU empS;show(bif decide (b.X.B<=b.X.A) then _ else bif decide (b.Y.B<=b.Y.A) then _ else some (decide (b.Z.B<=b.Z.A)))=_;cases decide (b.X.B<=b.X.A)<;>cases decide (b.Y.B<=b.Y.A)<;>rfl
theorem qDI {s:Span} (h:empS s=false) (a b:Int):PB s a b=some (insS s a b):=by
 have h':¬s.B<=s.A:=of_decide_eq_false h;unfold PB UR insS;by_cases c1:a<=s.A
 ·rw[kr c1];simp only[kv]
  congr 1
  rw[decide_eq_decide];omega
 ·rw[kp c1,kp (show¬((a<=s.A/\a<=s.B)/\(s.A<=b/\s.B<=b)) from λq=>c1 q.1.1)];rfl
theorem qF0 {b:Box} (h:(empS b.X||(empS b.Y||empS b.Z))=false):JQ b=some (insS b.X (-600) 600&&(insS b.Y (-600) 600&&insS b.Z 0 20000)):=by
 have h1:empS b.X=false:=by cases e:empS b.X with|false=>rfl|true=>rw[e] at h;cases h
 have h2:empS b.Y=false:=by cases e:empS b.Y with|false=>rfl|true=>rw[h1,e] at h;cases h
 have h3:empS b.Z=false:=by cases e:empS b.Z with|false=>rfl|true=>rw[h1,h2,e] at h;cases h
 unfold JQ QF;simp only[qDI h1,qDI h2,qDI h3,kB];cases insS b.X (-600) 600<;>cases insS b.Y (-600) 600<;>rfl
theorem qGS (l:List qK):XQ l=some (KE l):=by
 unfold XQ KE;by_cases h:64<l.length
 ·rw[if_pos h,kr (by omega)];rfl
 rw[if_neg h,kp (by omega)];have L:zZ l FUEL 0=some (findE badD l):=by
  refine AP l (zZ l) badD (by omega) (λn x hx=>?_) (λn=>?_)
  ·rw[zZ,kr (by omega),XZ (by omega)];simp only[kv,kZ,BP (show x<4611686018427387904 by omega),YN,qGY,kB];rw[XZ (by omega)];unfold badD chkD;by_cases h1:(l.getD x dd).Kind<1
   ·rw[kr h1,if_pos (.inl h1)];rfl
   rw[kp h1];by_cases h2:(l.getD x dd).Kind>6
   ·rw[kr h2,if_pos (.inr h2)];rfl
   rw[kp h2,if_neg (by omega)];simp only[kC,kv];cases he:(empS (l.getD x dd).Box.X||(empS (l.getD x dd).Box.Y||empS (l.getD x dd).Box.Z)) with
   |true=>rfl
   |false=>
    rw[qF0 he];cases (insS (l.getD x dd).Box.X (-600) 600&&(insS (l.getD x dd).Box.Y (-600) 600&&insS (l.getD x dd).Box.Z 0 20000))<;>rfl
  ·rw[zZ,kp (by omega)];rfl
 rw[L];simp only[kC,kB];cases findE badD l<;>rfl
theorem qDR :law15_awake=some true:=by unfold law15_awake;rfl
def rgs (s:Scan) (x:Nat):Ring:=s.Rings.getD x dd
def errR (s:Scan) (x:Nat):Option Int:=
 bif UX (rgs s x) !=0 then some (UX (rgs s x))
 else bif (decide (x=0)&&((rgs s x).Z !=0))||(decide (0<x)&&decide ((rgs s x).Z<=(rgs s (x-1)).Z)) then some 11
 else bif ((rgs s x).Read.length:Int) !=(((rgs s 0).Read.length:Nat):Int) then some 19 else none
def errZ (z:Int) (d:qK):Option Int:=bif decide (d.Box.Z.B>z) then some 9 else none
def endZ (s:Scan):Int:=(rgs s (s.Rings.length-1)).Z
def qDD (s:Scan):Int:=
 if s.Rings.length<2 then 3 else if 24<s.Rings.length then 4
 else match findN (errR s) 0 s.Rings.length with
  | .inl e=>e
  | .inr _=>if KE s.Defects≠0 then KE s.Defects else match findE (errZ (endZ s)) s.Defects with| .inl e=>e| .inr _=>0
theorem qCB (s:Scan) (z:Int) (L:Nat->Int->Option (Int⊕Unit)) (hl:s.Defects.length<=64) (h0:∀n x,x<s.Defects.length->L (n+1) ((x:Nat):Int)=bif decide ((s.Defects.getD x dd).Box.Z.B>z) then some (.inl 9) else L n ((x+1:Nat):Int)) (h1:∀n,L (n+1) (s.Defects.length:Int)=some (.inr ())):
  L FUEL 0=some (findE (errZ z) s.Defects):=by
 refine AP s.Defects L (errZ z) (by omega) (λn x hx=>?_) h1;rw[h0 n x hx];unfold errZ;cases decide ((s.Defects.getD x dd).Box.Z.B>z)<;>rfl
theorem qHH (s:Scan):jF s=some (qDD s):=by
 unfold jF qDD;by_cases h2:s.Rings.length<2
 ·rw[if_pos h2,kr (by omega)];rfl
 rw[if_neg h2,kp (by omega)];by_cases h24:24<s.Rings.length
 ·rw[if_pos h24,kr (by omega)];rfl
 rw[if_neg h24,kp (by omega)];have L:zL s FUEL 0=some (findN (errR s) 0 s.Rings.length):=by
  refine qBb s.Rings.length (zL s) (errR s) 0 (by omega) (by omega) (λn x _ hx=>?_) (λn=>?_)
  ·rw[zL,kr (by omega),XZ (by omega)];simp only[kv,kZ,Int.toNat_zero,qC8,kB,jR,BP (show x<4611686018427387904 by omega),XZ (i:=0) (n:=s.Rings.length) (by omega)];unfold errR rgs;cases hc:UX (s.Rings.getD x dd) !=0 with
   |true=>rfl
   |false=>
    simp only[kC];by_cases hx0:x=0
    ·subst hx0;rw[show(((0:Nat):Int)==0)=true from rfl,kp (show¬((0:Nat):Int)>0 by omega)];cases (s.Rings.getD 0 dd).Z !=0 with
     |true=>rfl
     |false=>cases (((s.Rings.getD 0 dd).Read.length:Nat):Int) !=(((s.Rings.getD 0 dd).Read.length:Nat):Int)<;>rfl
    ·rw[show(((x:Nat):Int)==0)=false by rw[beq_eq_false_iff_ne];omega,kr (show((x:Nat):Int)>0 by omega),qGK (show-9223372036854775808<=(x:Int)-1 by omega) (by omega),XZ (by omega),kp hx0,kr (show 0<x by omega),show((x:Int)-1).toNat=x-1 by omega];cases decide ((s.Rings.getD x dd).Z<=(s.Rings.getD (x-1) dd).Z) with
     |true=>rfl
     |false=>cases ((s.Rings.getD x dd).Read.length:Int) !=(((s.Rings.getD 0 dd).Read.length:Nat):Int)<;>rfl
  ·rw[zL,kp (by omega)];rfl
 rw[L];simp only[kC,kB];cases findN (errR s) 0 s.Rings.length with
 |inl e=>rfl
 |inr u=>
  simp only[Sum.elim_inr,qHE,kB];by_cases h13:KE s.Defects=0
  ·rw[h13,if_neg (by simp)];simp only[bne_self_eq_false,kC];rw[w64_o (by omega),XZ (by omega)];have:=qCB s (endZ s) (yY s) ((DP _).1 h13).1 (λn x hx=>by
    rw[yY,kr (by omega),XZ (by omega)];simp only[kv,kZ,BP (show x<4611686018427387904 by have:=((DP _).1 h13).1;omega)];rw[w64_o (by omega),show((s.Rings.length:Int)-1).toNat=s.Rings.length-1 by omega];rfl) (λn=>by rw[yY,kp (by omega)];rfl)
   rw[this];simp only[kv,kB];cases findE (errZ (endZ s)) s.Defects<;>rfl
  ·rw[show(KE s.Defects !=0)=true by rw[bne_iff_ne];exact h13,if_pos h13];rfl
def qBh {ε σ:Type} (err:Nat->Option ε) (g:Nat->σ) (x:Nat) (_:σ):ε⊕σ:=match err x with|some e=> .inl e|none=> .inr (g x)
theorem qEw {ε σ:Type} (err:Nat->Option ε) (g:Nat->σ):∀(k x:Nat) (s:σ),runN (qBh err g) x k s=Sum.elim Sum.inl (λ_=>Sum.inr (if k=0 then s else g (x+k-1))) (findN err x k)
 |0,x,s=>by simp[runN,findN]
 |k+1,x,s=>by
  unfold runN findN qBh;cases err x with
  |some e=>rfl
  |none=>
   simp only;have ih:=qEw err g k (x+1) (g x);unfold qBh at ih;rw[ih];cases findN err (x+1) k with
   |inl e=>rfl
   |inr u=>
    simp only[Nat.add_eq_zero_iff,Nat.one_ne_zero,and_false,if_false,Sum.elim_inr]
    congr 1
    by_cases hk:k=0
    ·subst hk;rw[if_pos rfl];rfl
    ·rw[if_neg hk];congr 1;omega
theorem qG2 (s:Scan):XR s=some (qDD s):=by
 unfold XR qDD;by_cases h2:s.Rings.length<2
 ·rw[if_pos h2,kr (by omega)];rfl
 rw[if_neg h2,kp (by omega)];by_cases h24:24<s.Rings.length
 ·rw[if_pos h24,kr (by omega)];rfl
 rw[if_neg h24,kp (by omega)];have L:=AY s.Rings.length (λn l i=>zC s n l i) (qBh (errR s) (λx=>(rgs s x).Z)) (λr=>r) (λx l=>x=0\/l=(rgs s (x-1)).Z) (λn x l hx hi=>by
   have e:zC s (n+1) l (x:Int)=match errR s x with|some e=>some (.inl e)|none=>zC s n (rgs s x).Z ((x+1:Nat):Int):=by
    rw[zC,kr (by omega),XZ (by omega)];simp only[kv,kZ,Int.toNat_zero,qEF,kB,jD,BP (show x<4611686018427387904 by omega),XZ (i:=0) (n:=s.Rings.length) (by omega)];unfold errR rgs;cases hc:UX (s.Rings.getD x dd) !=0 with
    |true=>rfl
    |false=>
     simp only[kC];by_cases hx0:x=0
     ·subst hx0;rw[show(((0:Nat):Int)==0)=true from rfl,kp (show¬((0:Nat):Int)>0 by omega)];cases (s.Rings.getD 0 dd).Z !=0 with
      |true=>rfl
      |false=>cases (((s.Rings.getD 0 dd).Read.length:Nat):Int) !=(((s.Rings.getD 0 dd).Read.length:Nat):Int)<;>rfl
     ·have hl:l=(rgs s (x-1)).Z:=hi.resolve_left hx0;subst hl;unfold rgs;rw[show(((x:Nat):Int)==0)=false by rw[beq_eq_false_iff_ne];omega,kr (show((x:Nat):Int)>0 by omega),kp hx0,kr (show 0<x by omega)];cases decide ((s.Rings.getD x dd).Z<=(s.Rings.getD (x-1) dd).Z) with
      |true=>rfl
      |false=>cases ((s.Rings.getD x dd).Read.length:Int) !=(((s.Rings.getD 0 dd).Read.length:Nat):Int)<;>rfl
   unfold qBh;cases he:errR s x with
   |some q=>rw[he] at e;exact e
   |none=>rw[he] at e;exact⟨e,.inr (by rw[Nat.add_sub_cancel])⟩)
  (λn l _=>by show zC s (n+1) l _=_;rw[zC,kp (by omega)];rfl) FUEL 0 0 (by rw[qCe];omega) (by omega) (.inl rfl)
 rw[qEw,if_neg (show¬s.Rings.length-0=0 by omega),show 0+(s.Rings.length-0)-1=s.Rings.length-1 by omega,Nat.sub_zero] at L;have L':zC s FUEL 0 0=some (Sum.elim Sum.inl (λ_=>Sum.inr (rgs s (s.Rings.length-1)).Z) (findN (errR s) 0 s.Rings.length)):=L;rw[L'];simp only[kC,kB];cases findN (errR s) 0 s.Rings.length with
 |inl e=>rfl
 |inr u=>
  simp only[Sum.elim_inr,qGS,kB];by_cases h13:KE s.Defects=0
  ·rw[h13,if_neg (by simp)];simp only[bne_self_eq_false,kC];have:=qCB s (endZ s) (jX s (endZ s)) ((DP _).1 h13).1 (λn x hx=>by
    rw[jX,kr (by omega),XZ (by omega)];simp only[kv,kZ,BP (show x<4611686018427387904 by have:=((DP _).1 h13).1;omega)]) (λn=>by rw[jX,kp (by omega)];rfl)
   rw[show(rgs s (s.Rings.length-1)).Z=endZ s from rfl,this];simp only[kB];cases findE (errZ (endZ s)) s.Defects<;>rfl
  ·rw[show(KE s.Defects !=0)=true by rw[bne_iff_ne];exact h13,if_pos h13];rfl
def fewB (s:Scan):Bool:=decide (s.Rings.length<=40/\s.Defects.length<=100/\∀i,i<s.Rings.length->(rgs s i).Read.length<=60)
theorem qHB (s:Scan):VN s=some (fewB s):=by
 unfold VN;by_cases h1:s.Rings.length<=40
 ·rw[kp (by omega)];by_cases h2:s.Defects.length<=100
  ·rw[kp (by omega)];have L:yI s FUEL 0=some (findN (λi=>if 60<(rgs s i).Read.length then some false else none) 0 s.Rings.length):=by
    refine qBb s.Rings.length (yI s) _ 0 (by omega) (by omega) (λn x _ hx=>?_) (λn=>?_)
    ·rw[yI,kr (by omega),XZ (by omega)];simp only[kv,kZ,BP (show x<4611686018427387904 by omega)];unfold rgs;by_cases h:60<(s.Rings.getD x dd).Read.length
     ·rw[if_pos h,kr (by omega)];rfl
     ·rw[if_neg h,kp (by omega)];rfl
    ·rw[yI,kp (by omega)];rfl
   simp only[kC,RK,L,kB];cases hf:findN (λi=>if 60<(rgs s i).Read.length then some false else none) 0 s.Rings.length with
   |inl e=>
    obtain⟨i,_,h4,h5,_⟩:=qBv hf;have h6:60<(rgs s i).Read.length:=by
     by_cases h:60<(rgs s i).Read.length
     ·exact h
     ·rw[if_neg h] at h5;cases h5
    rw[if_pos h6] at h5;cases h5;have:fewB s=false:=kp λh=>by have:=h.2.2 i (by omega);omega
    rw[this];rfl
   |inr u=>
    have h:=qAK.1 hf;have:fewB s=true:=kr ⟨h1,h2,λi hi=>by
     have:=h i (by omega) (by omega);by_cases h:60<(rgs s i).Read.length
     ·rw[if_pos h] at this;cases this
     ·omega⟩
    rw[this];rfl
  ·rw[kr (by omega)];have:fewB s=false:=kp λh=>h2 h.2.1;rw[this];rfl
 ·rw[kr (by omega)];have:fewB s=false:=kp λh=>h1 h.1;rw[this];rfl
theorem qAE (s:Scan):yH s=some true:=by
 unfold yH;rw[qHB];simp only[kB,qDR,qHH,qG2,beq_self_eq_true,kv,jA];cases fewB s<;>rfl
theorem qBm (s:Scan) {P:Prop} (_:P):yH s=some true:=qAE s
end Saw
end Go.SL

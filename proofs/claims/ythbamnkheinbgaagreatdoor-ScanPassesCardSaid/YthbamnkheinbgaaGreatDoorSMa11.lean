/- Plain mathematics that all seats use: loops over an index. -/
import Derived.Test.YthbamnkheinbgaaGreatDoorSMa10
import Derived.Test.YthbamnkheinbgaaGreatDoorSMa8
set_option linter.unusedVariables false
set_option linter.unusedSimpArgs false
namespace Go.SL
def runN {σ ρ:Type} (step:Nat->σ->ρ⊕σ):Nat->Nat->σ->ρ⊕σ
 |_,0,s=> .inr s
 |x,k+1,s=>match step x s with
  | .inl r=> .inl r
  | .inr s'=>runN step (x+1) k s'
theorem CD {σ ρ β:Type} (N:Nat) (L:Nat->σ->Int->Option β) (step:Nat->σ->ρ⊕σ) (fin:ρ⊕σ->β) (Inv:Nat->σ->Prop)
  (h0:∀n x s,x<N->Inv x s->match step x s with| .inl r=>L (n+1) s (x:Int)=some (fin (.inl r))| .inr s'=>L (n+1) s (x:Int)=L n s' ((x+1:Nat):Int)/\Inv (x+1) s')
  (h1:∀n s,Inv N s->L (n+1) s (N:Int)=some (fin (.inr s))):
  ∀(n x:Nat) (s:σ),N<x+n->x<=N->Inv x s->L n s (x:Int)=some (fin (runN step x (N-x) s))
 |0,x,s,hn,hx,_=>by omega
 |n+1,x,s,hn,hx,hi=>by
  by_cases h:x<N
  ·have k:=h0 n x s h hi;obtain⟨m,hm⟩:∃m,N-x=m+1:=⟨N-x-1,by omega⟩
   rw[hm];unfold runN;cases hs:step x s with
   |inl r=>rw[hs] at k;exact k
   |inr s'=>
    rw[hs] at k;rw[k.1,CD N L step fin Inv h0 h1 n (x+1) s' (by omega) (by omega) k.2,show N-(x+1)=m by omega]
  ·have e:x=N:=by omega
   subst e;rw[Nat.sub_self];exact h1 n s hi
def findN {ε:Type} (bad:Nat->Option ε):Nat->Nat->ε⊕Unit
 |_,0=> .inr ()
 |x,k+1=>match bad x with
  |some e=> .inl e
  |none=>findN bad (x+1) k
theorem wO {ε:Type} {bad:Nat->Option ε}:∀{k x:Nat},findN bad x k= .inr ()↔∀i,x<=i->i<x+k->bad i=none
 |0,x=>by simp[findN];intro i h1 h2;omega
 |k+1,x=>by
  unfold findN;cases hb:bad x with
  |some e=>simp only[reduceCtorEq,false_iff];intro h;rw[h x (kg _) (by omega)] at hb;cases hb
  |none=>
   simp only[wO (k:=k)];constructor
   ·intro h i h1 h2;by_cases e:i=x
    ·subst e;exact hb
    ·exact h i (by omega) (by omega)
   ·intro h i h1 h2;exact h i (by omega) (by omega)
theorem KN {ε:Type} {bad:Nat->Option ε} {e:ε}:∀{k x:Nat},findN bad x k= .inl e->∃i,x<=i/\i<x+k/\bad i=some e/\∀j,x<=j->j<i->bad j=none
 |0,x,h=>by cases h
 |k+1,x,h=>by
  unfold findN at h;cases hb:bad x with
  |some e'=>rw[hb] at h;cases h;exact⟨x,kg _,by omega,hb,λj h1 h2=>by omega⟩
  |none=>
   rw[hb] at h;obtain⟨i,h1,h2,h3,h4⟩:=KN (k:=k) h;refine⟨i,by omega,by omega,h3,λj a b=>?_⟩;by_cases e':j=x
   ·subst e';exact hb
   ·exact h4 j (by omega) b
theorem qD7 {ε:Type} (bad:Nat->Option ε):∀(k x:Nat),runN (λx (_:Unit)=>match bad x with|some e=>(.inl e:ε⊕Unit)|none=> .inr ()) x k ()=findN bad x k
 |0,_=>rfl
 |k+1,x=>by
  unfold runN findN;cases bad x with
  |some e=>rfl
  |none=>exact qD7 bad k (x+1)
theorem ZT {ε:Type} (N:Nat) (L:Nat->Int->Option (ε⊕Unit)) (bad:Nat->Option ε) (x:Nat) (hx:x<=N) (hN:N<=1000000000)
  (h0:∀n i,x<=i->i<N->L (n+1) (i:Int)=match bad i with|some e=>some (.inl e)|none=>L n ((i+1:Nat):Int))
  (h1:∀n,L (n+1) (N:Int)=some (.inr ())):L FUEL (x:Int)=some (findN bad x (N-x)):=by
 have k:=CD N (λn (_:Unit) i=>L n i) (λi _=>match bad i with|some e=>(.inl e:ε⊕Unit)|none=> .inr ()) (λr=>r) (λi _=>x<=i)
  (λn i s hi hxi=>by
   have h:=h0 n i hxi hi;cases hb:bad i with
   |some e=>simp only;rw[h,hb]
   |none=>simp only;rw[h,hb];exact⟨rfl,by omega⟩)
  (λn s _=>h1 n) FUEL x () (by rw[qDA];omega) hx (kg _)
 rw[qD7] at k;exact k
end Go.SL

namespace Go.SL
namespace Saw
def insS (s:Span) (lo hi:Int):Bool:=decide ((lo<=s.A/\lo<=s.B)/\(s.A<=hi/\s.B<=hi))
theorem qHO (s:Span) (lo hi:Int):yS s lo hi=some (insS s lo hi):=by
 unfold yS JH insS;have a:=imin_or s.A s.B;have b:=imax_or s.A s.B;by_cases h1:imin s.A s.B≥lo
 ·rw[ku h1];by_cases h2:imax s.A s.B<=hi
  ·rw[ku h2,ku (by omega)];rfl
  ·rw[kp h2,kp (by omega)];rfl
 ·rw[kp h1,kp (show¬((lo<=s.A/\lo<=s.B)/\(s.A<=hi/\s.B<=hi)) by omega)];rfl
def chkD (d:qD):Int:=
 if d.Kind<1\/6<d.Kind then 10
 else bif empS d.Box.X||(empS d.Box.Y||empS d.Box.Z) then 19
 else bif insS d.Box.X (-600) 600&&(insS d.Box.Y (-600) 600&&insS d.Box.Z 0 20000) then 0 else 9
theorem qIe (s:Span):QJ s=some (empS s):=rfl
theorem chkD_eq (d:qD):XG d=some (chkD d):=by
 unfold XG XD ZN ZS chkD;simp only[qIe,qHO,ks];by_cases h1:d.Kind<1
 ·rw[ku h1,if_pos (.inl h1)];rfl
 rw[kp h1];by_cases h2:d.Kind>6
 ·rw[ku h2,if_pos (.inr h2)];rfl
 rw[kp h2,if_neg (by omega)];cases empS d.Box.X<;>cases empS d.Box.Y<;>cases empS d.Box.Z<;>cases insS d.Box.X (-600) 600<;>cases insS d.Box.Y (-600) 600<;>cases insS d.Box.Z 0 20000<;>rfl
structure VD (d:qD):Prop where
 k1:1<=d.Kind
 k2:d.Kind<=6
 x:d.Box.X.A<d.Box.X.B/\-600<=d.Box.X.A/\d.Box.X.B<=600
 y:d.Box.Y.A<d.Box.Y.B/\-600<=d.Box.Y.A/\d.Box.Y.B<=600
 z:d.Box.Z.A<d.Box.Z.B/\0<=d.Box.Z.A/\d.Box.Z.B<=20000
theorem qIM (d:qD):chkD d=0↔VD d:=by
 unfold chkD;by_cases h1:d.Kind<1\/6<d.Kind
 ·rw[if_pos h1];exact⟨λh=>absurd h (by decide),λh=>by have:=h.k1;have:=h.k2;omega⟩
 rw[if_neg h1];cases hx:empS d.Box.X with
 |true=>exact⟨λh=>absurd (show(19:Int)=0 from h) (by decide),λh=>by have:=h.x;have:=kK hx;omega⟩
 |false=>
 cases hy:empS d.Box.Y with
 |true=>exact⟨λh=>absurd (show(19:Int)=0 from h) (by decide),λh=>by have:=h.y;have:=kK hy;omega⟩
 |false=>
 cases hz:empS d.Box.Z with
 |true=>exact⟨λh=>absurd (show(19:Int)=0 from h) (by decide),λh=>by have:=h.z;have:=kK hz;omega⟩
 |false=>
 have ex:=of_decide_eq_false hx;have ey:=of_decide_eq_false hy;have ez:=of_decide_eq_false hz;unfold insS;by_cases i1:(-600<=d.Box.X.A/\-600<=d.Box.X.B)/\d.Box.X.A<=600/\d.Box.X.B<=600
 ·rw[ku i1];by_cases i2:(-600<=d.Box.Y.A/\-600<=d.Box.Y.B)/\d.Box.Y.A<=600/\d.Box.Y.B<=600
  ·rw[ku i2];by_cases i3:(0<=d.Box.Z.A/\0<=d.Box.Z.B)/\d.Box.Z.A<=20000/\d.Box.Z.B<=20000
   ·rw[ku i3];exact⟨λ_=>⟨by omega,by omega,by omega,by omega,by omega⟩,λ_=>rfl⟩
   ·rw[kp i3];exact⟨λh=>absurd h (by decide),λh=>by have:=h.z;omega⟩
  ·rw[kp i2];exact⟨λh=>absurd (show(9:Int)=0 from h) (by decide),λh=>by have:=h.y;omega⟩
 ·rw[kp i1];exact⟨λh=>absurd (show(9:Int)=0 from h) (by decide),λh=>by have:=h.x;omega⟩
def badD (d:qD):Option Int:=bif chkD d !=0 then some (chkD d) else none
def GV (l:List qD):Int:=if 64<l.length then 4 else match findE badD l with| .inl e=>e| .inr _=>0
theorem qI7 (l:List qD):XT l=some (GV l):=by
 unfold XT GV;by_cases h:64<l.length
 ·rw[if_pos h,ku (by omega)];rfl
 rw[if_neg h,kp (by omega)];have L:jO l FUEL 0=some (findE badD l):=by
  refine qDI l (jO l) badD (by omega) (λn x hx=>?_) (λn=>?_)
  ·rw[jO,ku (by omega),QY (by omega)];simp only[kr,kH,JR (show x<4611686018427387904 by omega),chkD_eq,ks,badD];cases chkD (l.getD x dd) !=0<;>rfl
  ·rw[jO,kp (by omega)];rfl
 rw[L];simp only[kq,ks];cases findE badD l<;>rfl
theorem qEh {d:qD}:badD d=none↔VD d:=by
 rw[<-qIM];unfold badD;by_cases h:chkD d=0
 ·rw[h];simp
 ·rw[show(chkD d !=0)=true by rw[uZ];exact h];simp[h]
theorem ZU (l:List qD):GV l=0↔l.length<=64/\∀d∈l,VD d:=by
 unfold GV;by_cases h:64<l.length
 ·rw[if_pos h];exact⟨λh=>absurd h (by decide),λh=>by omega⟩
 rw[if_neg h];cases hf:findE badD l with
 |inl e=>
  obtain⟨a,ha,hb⟩:=qD1 hf;simp only;have hn:e≠0:=by
   unfold badD at hb;cases hc:chkD a !=0 with
   |true=>rw[hc] at hb;cases hb;exact uZ.1 hc
   |false=>rw[hc] at hb;cases hb
  exact⟨λh=>absurd h hn,λh=>by rw[qEh.2 (h.2 a ha)] at hb;cases hb⟩
 |inr u=>exact⟨λ_=>⟨by omega,λd hd=>qEh.1 (AT.1 hf d hd)⟩,λ_=>rfl⟩
theorem LE :law15_awake=some true:=by unfold law15_awake;rfl
def rgs (s:Scan) (x:Nat):Ring:=s.Rings.getD x dd
def errR (s:Scan) (x:Nat):Option Int:=
 bif yX (rgs s x) !=0 then some (yX (rgs s x))
 else bif (decide (x=0)&&((rgs s x).Z !=0))||(decide (0<x)&&decide ((rgs s x).Z<=(rgs s (x-1)).Z)) then some 11
 else bif ((rgs s x).Read.length:Int) !=(((rgs s 0).Read.length:Nat):Int) then some 19 else none
def errZ (z:Int) (d:qD):Option Int:=bif decide (d.Box.Z.B>z) then some 9 else none
def endZ (s:Scan):Int:=(rgs s (s.Rings.length-1)).Z
def yA (s:Scan):Int:=
 if s.Rings.length<2 then 3 else if 24<s.Rings.length then 4
 else match findN (errR s) 0 s.Rings.length with
  | .inl e=>e
  | .inr _=>if GV s.Defects≠0 then GV s.Defects else match findE (errZ (endZ s)) s.Defects with| .inl e=>e| .inr _=>0
theorem qIJ (s:Scan) (z:Int) (L:Nat->Int->Option (Int⊕Unit)) (hl:s.Defects.length<=64) (h0:∀n x,x<s.Defects.length->L (n+1) ((x:Nat):Int)=bif decide ((s.Defects.getD x dd).Box.Z.B>z) then some (.inl 9) else L n ((x+1:Nat):Int)) (h1:∀n,L (n+1) (s.Defects.length:Int)=some (.inr ())):
  L FUEL 0=some (findE (errZ z) s.Defects):=by
 refine qDI s.Defects L (errZ z) (by omega) (λn x hx=>?_) h1;rw[h0 n x hx];unfold errZ;cases decide ((s.Defects.getD x dd).Box.Z.B>z)<;>rfl
theorem AN (s:Scan):wP s=some (yA s):=by
 unfold wP yA;by_cases h2:s.Rings.length<2
 ·rw[if_pos h2,ku (by omega)];rfl
 rw[if_neg h2,kp (by omega)];by_cases h24:24<s.Rings.length
 ·rw[if_pos h24,ku (by omega)];rfl
 rw[if_neg h24,kp (by omega)];have L:zT s FUEL 0=some (findN (errR s) 0 s.Rings.length):=by
  refine ZT s.Rings.length (zT s) (errR s) 0 (by omega) (by omega) (λn x _ hx=>?_) (λn=>?_)
  ·rw[zT,ku (by omega),QY (by omega)];simp only[kr,kH,Int.toNat_zero,PQ,ks,yU,JR (show x<4611686018427387904 by omega),QY (i:=0) (n:=s.Rings.length) (by omega)];unfold errR rgs;cases hc:yX (s.Rings.getD x dd) !=0 with
   |true=>rfl
   |false=>
    simp only[kq];by_cases hx0:x=0
    ·subst hx0;rw[show(((0:Nat):Int)==0)=true from rfl,kp (show¬((0:Nat):Int)>0 by omega)];cases (s.Rings.getD 0 dd).Z !=0 with
     |true=>rfl
     |false=>cases (((s.Rings.getD 0 dd).Read.length:Nat):Int) !=(((s.Rings.getD 0 dd).Read.length:Nat):Int)<;>rfl
    ·rw[show(((x:Nat):Int)==0)=false by rw[uE];omega,ku (show((x:Nat):Int)>0 by omega),qH8 (show-9223372036854775808<=(x:Int)-1 by omega) (by omega),QY (by omega),kp hx0,ku (show 0<x by omega),show((x:Int)-1).toNat=x-1 by omega];cases decide ((s.Rings.getD x dd).Z<=(s.Rings.getD (x-1) dd).Z) with
     |true=>rfl
     |false=>cases ((s.Rings.getD x dd).Read.length:Int) !=(((s.Rings.getD 0 dd).Read.length:Nat):Int)<;>rfl
  ·rw[zT,kp (by omega)];rfl
 rw[L];simp only[kq,ks];cases findN (errR s) 0 s.Rings.length with
 |inl e=>rfl
 |inr u=>
  simp only[Sum.elim_inr,qI7,ks];by_cases h13:GV s.Defects=0
  ·rw[h13,if_neg (by simp)];simp only[kJ,kq];rw[w64_o (by omega),QY (by omega)];have:=qIJ s (endZ s) (ZK s) ((ZU _).1 h13).1 (λn x hx=>by
    rw[ZK,ku (by omega),QY (by omega)];simp only[kr,kH,JR (show x<4611686018427387904 by have:=((ZU _).1 h13).1;omega)];rw[w64_o (by omega),show((s.Rings.length:Int)-1).toNat=s.Rings.length-1 by omega];rfl) (λn=>by rw[ZK,kp (by omega)];rfl)
   rw[this];simp only[kr,ks];cases findE (errZ (endZ s)) s.Defects<;>rfl
  ·rw[show(GV s.Defects !=0)=true by rw[uZ];exact h13,if_pos h13];rfl
def qCX {ε σ:Type} (err:Nat->Option ε) (g:Nat->σ) (x:Nat) (_:σ):ε⊕σ:=match err x with|some e=> .inl e|none=> .inr (g x)
theorem qGb {ε σ:Type} (err:Nat->Option ε) (g:Nat->σ):∀(k x:Nat) (s:σ),runN (qCX err g) x k s=Sum.elim Sum.inl (λ_=>Sum.inr (if k=0 then s else g (x+k-1))) (findN err x k)
 |0,x,s=>by simp[runN,findN]
 |k+1,x,s=>by
  unfold runN findN qCX;cases err x with
  |some e=>rfl
  |none=>
   simp only;have ih:=qGb err g k (x+1) (g x);unfold qCX at ih;rw[ih];cases findN err (x+1) k with
   |inl e=>rfl
   |inr u=>
    simp only[Nat.add_eq_zero_iff,Nat.one_ne_zero,and_false,if_false,Sum.elim_inr]
    congr 1
    by_cases hk:k=0
    ·subst hk;rw[if_pos rfl];rfl
    ·rw[if_neg hk];congr 1;omega
def fewB (s:Scan):Bool:=decide (s.Rings.length<=40/\s.Defects.length<=100/\∀i,i<s.Rings.length->(rgs s i).Read.length<=60)
theorem qGg (s:Scan):TF s=some (fewB s):=by
 unfold TF;by_cases h1:s.Rings.length<=40
 ·rw[kp (by omega)];by_cases h2:s.Defects.length<=100
  ·rw[kp (by omega)];have L:QM s FUEL 0=some (findN (λi=>if 60<(rgs s i).Read.length then some false else none) 0 s.Rings.length):=by
    refine ZT s.Rings.length (QM s) _ 0 (by omega) (by omega) (λn x _ hx=>?_) (λn=>?_)
    ·rw[QM,ku (by omega),QY (by omega)];simp only[kr,kH,JR (show x<4611686018427387904 by omega)];unfold rgs;by_cases h:60<(s.Rings.getD x dd).Read.length
     ·rw[if_pos h,ku (by omega)];rfl
     ·rw[if_neg h,kp (by omega)];rfl
    ·rw[QM,kp (by omega)];rfl
   simp only[kq,VA,L,ks];cases hf:findN (λi=>if 60<(rgs s i).Read.length then some false else none) 0 s.Rings.length with
   |inl e=>
    obtain⟨i,_,h4,h5,_⟩:=KN hf;have h6:60<(rgs s i).Read.length:=by
     by_cases h:60<(rgs s i).Read.length
     ·exact h
     ·rw[if_neg h] at h5;cases h5
    rw[if_pos h6] at h5;cases h5;have:fewB s=false:=kp λh=>by have:=h.2.2 i (by omega);omega
    rw[this];rfl
   |inr u=>
    have h:=wO.1 hf;have:fewB s=true:=ku ⟨h1,h2,λi hi=>by
     have:=h i (by omega) (by omega);by_cases h:60<(rgs s i).Read.length
     ·rw[if_pos h] at this;cases this
     ·omega⟩
    rw[this];rfl
  ·rw[ku (by omega)];have:fewB s=false:=kp λh=>h2 h.2.1;rw[this];rfl
 ·rw[ku (by omega)];have:fewB s=false:=kp λh=>h1 h.1;rw[this];rfl
theorem qJa {s:Scan} (h:fewB s=true):s.Rings.length<=40/\s.Defects.length<=100/\∀i,i<s.Rings.length->(rgs s i).Read.length<=60:=kK h
theorem qIx {s:Scan} {x:Nat} (h:errR s x=none):WQ (rgs s x)/\(x=0->(rgs s x).Z=0)/\(0<x->(rgs s (x-1)).Z<(rgs s x).Z)/\(rgs s x).Read.length=(rgs s 0).Read.length:=by
 unfold errR at h;cases h1:yX (rgs s x) !=0 with
 |true=>rw[h1] at h;cases h
 |false=>
  rw[h1] at h;simp only[kq] at h;cases h2:(decide (x=0)&&((rgs s x).Z !=0))||(decide (0<x)&&decide ((rgs s x).Z<=(rgs s (x-1)).Z)) with
  |true=>rw[h2] at h;cases h
  |false=>
   rw[h2] at h;simp only[kq] at h;cases h3:((rgs s x).Read.length:Int) !=(((rgs s 0).Read.length:Nat):Int) with
   |true=>rw[h3] at h;cases h
   |false=>
    simp only[uq,Bool.and_eq_false_iff,decide_eq_false_iff_not,bne_eq_false_iff_eq] at h1 h2 h3;exact⟨(QF _).1 h1,λhx=>h2.1.resolve_left (λq=>q hx),λhx=>by rcases h2.2 with q|q<;>omega,by omega⟩
structure V15 (s:Scan):Prop where
 two:2<=s.Rings.length
 many:s.Rings.length<=24
 good:∀x,x<s.Rings.length->WQ (rgs s x)
 zero:(rgs s 0).Z=0
 up:∀x,0<x->x<s.Rings.length->(rgs s (x-1)).Z<(rgs s x).Z
 same:∀x,x<s.Rings.length->(rgs s x).Read.length=(rgs s 0).Read.length
 def13:GV s.Defects=0
 ends:∀d∈s.Defects,d.Box.Z.B<=endZ s
theorem qDS {z:Int} {d:qD}:errZ z d=none↔d.Box.Z.B<=z:=by
 unfold errZ;by_cases h:d.Box.Z.B>z
 ·rw[ku h];simp;omega
 ·rw[kp h];simp;omega
theorem KP (s:Scan):yA s=0↔V15 s:=by
 unfold yA;by_cases h2:s.Rings.length<2
 ·rw[if_pos h2];exact⟨λh=>absurd h (by decide),λh=>by have:=h.two;omega⟩
 rw[if_neg h2];by_cases h24:24<s.Rings.length
 ·rw[if_pos h24];exact⟨λh=>absurd h (by decide),λh=>by have:=h.many;omega⟩
 rw[if_neg h24];cases hf:findN (errR s) 0 s.Rings.length with
 |inl e=>
  obtain⟨i,_,hi,he,_⟩:=KN hf;simp only;refine⟨λh=>?_,λh=>?_⟩
  ·subst h;unfold errR at he;cases h1:yX (rgs s i) !=0 with
   |true=>rw[h1] at he;simp only[kr,kZ] at he;rw[he] at h1;cases h1
   |false=>
    rw[h1] at he;simp only[kq] at he;cases h2:(decide (i=0)&&((rgs s i).Z !=0))||(decide (0<i)&&decide ((rgs s i).Z<=(rgs s (i-1)).Z))<;>rw[h2] at he<;>simp only[kr,kq] at he
    ·cases h3:((rgs s i).Read.length:Int) !=(((rgs s 0).Read.length:Nat):Int)<;>rw[h3] at he<;>cases he
    ·cases he
  ·have hi':i<s.Rings.length:=by omega
   exfalso;have:errR s i=none:=by
    unfold errR;rw[show yX (rgs s i)=0 from(QF _).2 (h.good i hi'),h.same i hi'];simp only[kJ,kq];have:((decide (i=0)&&((rgs s i).Z !=0))||(decide (0<i)&&decide ((rgs s i).Z<=(rgs s (i-1)).Z)))=false:=by
     by_cases h0:i=0
     ·subst h0;rw[h.zero];simp
     ·rw[kp h0,kp (show¬(rgs s i).Z<=(rgs s (i-1)).Z by have:=h.up i (by omega) hi';omega)];simp
    rw[this];rfl
   rw[this] at he;cases he
 |inr u=>
  have hn:=wO.1 hf;simp only;by_cases h13:GV s.Defects=0
  ·rw[if_neg (by simpa using h13)];cases hz:findE (errZ (endZ s)) s.Defects with
   |inl e=>
    simp only;obtain⟨d,hd,he⟩:=qD1 hz;refine⟨λh=>?_,λh=>?_⟩
    ·subst h;unfold errZ at he;cases h3:decide (d.Box.Z.B>endZ s)<;>rw[h3] at he<;>cases he
    ·rw[qDS.2 (h.ends d hd)] at he;cases he
   |inr u=>
    have hz':=AT.1 hz;have e:∀x,x<s.Rings.length->_:=λx hx=>qIx (hn x (by omega) (by omega));exact⟨λ_=>⟨by omega,by omega,λx hx=>(e x hx).1,(e 0 (by omega)).2.1 rfl,λx h0 hx=>(e x hx).2.2.1 h0,λx hx=>(e x hx).2.2.2,h13,λd hd=>qDS.1 (hz' d hd)⟩,λ_=>rfl⟩
  ·rw[if_pos h13];exact⟨λh=>absurd h h13,λh=>absurd h.def13 h13⟩
def ZM {α:Type} (f:Nat->α) (z:α) (N x:Nat):List α:=(List.range N).map (λi=>if i<x then f i else z)
theorem qDL {α:Type} (f:Nat->α) (z:α) (N x:Nat):(ZM f z N x).length=N:=by simp[ZM]
theorem qHE {α:Type} (f:Nat->α) (z:α) (N:Nat):ZM f z N 0=List.replicate N z:=by
 refine uY (by simp[ZM]) λi h1 h2=>?_;simp[ZM]
theorem qIQ {α:Type} (f:Nat->α) (z:α) (N:Nat):ZM f z N N=(List.range N).map f:=by
 refine uY (by simp[ZM]) λi h1 h2=>?_;simp only[ZM,List.length_map,List.length_range] at h1;simp only[ZM,List.getElem_map,List.getElem_range,if_pos h1]
theorem partF_set {α:Type} (f:Nat->α) (z:α) (N x:Nat):(ZM f z N x).set x (f x)=ZM f z N (x+1):=by
 refine uY (by simp[ZM]) λi h1 h2=>?_;by_cases h:i=x
 ·subst h;simp[ZM]
 ·rw[List.getElem_set_ne (by omega)];simp only[ZM,List.getElem_map,List.getElem_range];by_cases h3:i<x
  ·rw[if_pos h3,if_pos (by omega)]
  ·rw[if_neg h3,if_neg (by omega)]
theorem qH2 {α ρ:Type} (N:Nat) (L:Nat->List α->Int->Option (ρ⊕List α)) (err:Nat->Option ρ) (f:Nat->α) (z:α) (hN:N<=1000000000)
  (h0:∀n x l,x<N->l.length=N->L (n+1) l (x:Int)=match err x with|some e=>some (.inl e)|none=>L n (l.set x (f x)) ((x+1:Nat):Int))
  (h1:∀n l,l.length=N->L (n+1) l (N:Int)=some (.inr l)):
  L FUEL (List.replicate N z) 0=some (Sum.elim Sum.inl (λ_=>Sum.inr ((List.range N).map f)) (findN err 0 N)):=by
 have h:=CD N L (qCX err (λx=>ZM f z N (x+1))) (λr=>r) (λx l=>l=ZM f z N x) (λn x l hx hi=>by
   subst hi;have e:=h0 n x _ hx (qDL f z N x);unfold qCX;cases he:err x with
   |some q=>rw[he] at e;exact e
   |none=>rw[he] at e;simp only[partF_set] at e;exact⟨e,rfl⟩)
  (λn l hi=>h1 n l (by rw[hi,qDL])) FUEL 0 (ZM f z N 0) (by rw[qDA];omega) (by omega) rfl
 rw[qHE,qGb,gg] at h;rw[show((0:Nat):Int)=0 from rfl] at h;rw[h];cases findN err 0 N with
 |inl e=>rfl
 |inr u=>
  simp only[Sum.elim_inr];by_cases hn:N=0
  ·subst hn;rfl
  ·rw[if_neg hn,show 0+N-1+1=N by omega,qIQ]
end Saw
end Go.SL

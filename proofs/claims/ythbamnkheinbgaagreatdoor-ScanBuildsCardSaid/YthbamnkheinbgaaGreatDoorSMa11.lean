/- Plain mathematics that all seats use: loops over an index. -/
import Derived.Test.YthbamnkheinbgaaGreatDoorSMa10
import Derived.Test.YthbamnkheinbgaaGreatDoorSMa8
set_option linter.unusedVariables false
set_option linter.unusedSimpArgs false
namespace Go.SL
def runN {σ ρ:Type} (step:Nat->σ->ρ⊕σ):Nat->Nat->σ->ρ⊕σ
 |_,0,s=> .inr s
 |x,k+1,s=>match step x s with
  | .inl r=> .inl r
  | .inr s'=>runN step (x+1) k s'
theorem AG {σ ρ β:Type} (N:Nat) (L:Nat->σ->Int->Option β) (step:Nat->σ->ρ⊕σ) (fin:ρ⊕σ->β) (Inv:Nat->σ->Prop)
  (h0:∀n x s,x<N->Inv x s->match step x s with| .inl r=>L (n+1) s (x:Int)=some (fin (.inl r))| .inr s'=>L (n+1) s (x:Int)=L n s' ((x+1:Nat):Int)/\Inv (x+1) s')
  (h1:∀n s,Inv N s->L (n+1) s (N:Int)=some (fin (.inr s))):
  ∀(n x:Nat) (s:σ),N<x+n->x<=N->Inv x s->L n s (x:Int)=some (fin (runN step x (N-x) s))
 |0,x,s,hn,hx,_=>by omega
 |n+1,x,s,hn,hx,hi=>by
  by_cases h:x<N
  ·have k:=h0 n x s h hi;obtain⟨m,hm⟩:∃m,N-x=m+1:=⟨N-x-1,by omega⟩
   rw[hm];unfold runN;cases hs:step x s with
   |inl r=>rw[hs] at k;exact k
   |inr s'=>
    rw[hs] at k;rw[k.1,AG N L step fin Inv h0 h1 n (x+1) s' (by omega) (by omega) k.2,show N-(x+1)=m by omega]
  ·have e:x=N:=by omega
   subst e;rw[gH];exact h1 n s hi
def findN {ε:Type} (bad:Nat->Option ε):Nat->Nat->ε⊕Unit
 |_,0=> .inr ()
 |x,k+1=>match bad x with
  |some e=> .inl e
  |none=>findN bad (x+1) k
theorem VV {ε:Type} {bad:Nat->Option ε}:∀{k x:Nat},findN bad x k= .inr ()↔∀i,x<=i->i<x+k->bad i=none
 |0,x=>by simp[findN];intro i h1 h2;omega
 |k+1,x=>by
  unfold findN;cases hb:bad x with
  |some e=>simp only[reduceCtorEq,false_iff];intro h;rw[h x (ki _) (by omega)] at hb;cases hb
  |none=>
   simp only[VV (k:=k)];constructor
   ·intro h i h1 h2;by_cases e:i=x
    ·subst e;exact hb
    ·exact h i (by omega) (by omega)
   ·intro h i h1 h2;exact h i (by omega) (by omega)
theorem JS {ε:Type} {bad:Nat->Option ε} {e:ε}:∀{k x:Nat},findN bad x k= .inl e->∃i,x<=i/\i<x+k/\bad i=some e/\∀j,x<=j->j<i->bad j=none
 |0,x,h=>by cases h
 |k+1,x,h=>by
  unfold findN at h;cases hb:bad x with
  |some e'=>rw[hb] at h;cases h;exact⟨x,ki _,by omega,hb,λj h1 h2=>by omega⟩
  |none=>
   rw[hb] at h;obtain⟨i,h1,h2,h3,h4⟩:=JS (k:=k) h;refine⟨i,by omega,by omega,h3,λj a b=>?_⟩;by_cases e':j=x
   ·subst e';exact hb
   ·exact h4 j (by omega) b
theorem qJ3 {ε:Type} (bad:Nat->Option ε):∀(k x:Nat),runN (λx (_:Unit)=>match bad x with|some e=>(.inl e:ε⊕Unit)|none=> .inr ()) x k ()=findN bad x k
 |0,_=>rfl
 |k+1,x=>by
  unfold runN findN;cases bad x with
  |some e=>rfl
  |none=>exact qJ3 bad k (x+1)
theorem OB {ε:Type} (N:Nat) (L:Nat->Int->Option (ε⊕Unit)) (bad:Nat->Option ε) (x:Nat) (hx:x<=N) (hN:N<=1000000000)
  (h0:∀n i,x<=i->i<N->L (n+1) (i:Int)=match bad i with|some e=>some (.inl e)|none=>L n ((i+1:Nat):Int))
  (h1:∀n,L (n+1) (N:Int)=some (.inr ())):L FUEL (x:Int)=some (findN bad x (N-x)):=by
 have k:=AG N (λn (_:Unit) i=>L n i) (λi _=>match bad i with|some e=>(.inl e:ε⊕Unit)|none=> .inr ()) (λr=>r) (λi _=>x<=i)
  (λn i s hi hxi=>by
   have h:=h0 n i hxi hi;cases hb:bad i with
   |some e=>simp only;rw[h,hb]
   |none=>simp only;rw[h,hb];exact⟨rfl,by omega⟩)
  (λn s _=>h1 n) FUEL x () (by rw[FUEL_eq];omega) hx (ki _)
 rw[qJ3] at k;exact k
end Go.SL

namespace Go.SL
namespace Saw
def insS (s:Span) (lo hi:Int):Bool:=decide ((lo<=s.A/\lo<=s.B)/\(s.A<=hi/\s.B<=hi))
theorem qPd (s:Span) (lo hi:Int):ZI s lo hi=some (insS s lo hi):=by
 unfold ZI KV insS;have a:=qJI s.A s.B;have b:=qI9 s.A s.B;by_cases h1:imin s.A s.B≥lo
 ·rw[ke h1];by_cases h2:imax s.A s.B<=hi
  ·rw[ke h2,ke (by omega)];rfl
  ·rw[kg h2,kg (by omega)];rfl
 ·rw[kg h1,kg (show¬((lo<=s.A/\lo<=s.B)/\(s.A<=hi/\s.B<=hi)) by omega)];rfl
def chkD (d:qL):Int:=
 if d.Kind<1\/6<d.Kind then 10
 else bif empS d.Box.X||(empS d.Box.Y||empS d.Box.Z) then 19
 else bif insS d.Box.X (-600) 600&&(insS d.Box.Y (-600) 600&&insS d.Box.Z 0 20000) then 0 else 9
theorem qP3 (s:Span):WG s=some (empS s):=rfl
theorem chkD_eq (d:qL):UB d=some (chkD d):=by
 unfold UB RP YK YA chkD;simp only[qP3,qPd,kd];by_cases h1:d.Kind<1
 ·rw[ke h1,if_pos (.inl h1)];rfl
 rw[kg h1];by_cases h2:d.Kind>6
 ·rw[ke h2,if_pos (.inr h2)];rfl
 rw[kg h2,if_neg (by omega)];cases empS d.Box.X<;>cases empS d.Box.Y<;>cases empS d.Box.Z<;>cases insS d.Box.X (-600) 600<;>cases insS d.Box.Y (-600) 600<;>cases insS d.Box.Z 0 20000<;>rfl
structure VD (d:qL):Prop where
 k1:1<=d.Kind
 k2:d.Kind<=6
 x:d.Box.X.A<d.Box.X.B/\-600<=d.Box.X.A/\d.Box.X.B<=600
 y:d.Box.Y.A<d.Box.Y.B/\-600<=d.Box.Y.A/\d.Box.Y.B<=600
 z:d.Box.Z.A<d.Box.Z.B/\0<=d.Box.Z.A/\d.Box.Z.B<=20000
theorem qPI (d:qL):chkD d=0↔VD d:=by
 unfold chkD;by_cases h1:d.Kind<1\/6<d.Kind
 ·rw[if_pos h1];exact⟨λh=>absurd h (by decide),λh=>by have:=h.k1;have:=h.k2;omega⟩
 rw[if_neg h1];cases hx:empS d.Box.X with
 |true=>exact⟨λh=>absurd (show(19:Int)=0 from h) (by decide),λh=>by have:=h.x;have:=kU hx;omega⟩
 |false=>
 cases hy:empS d.Box.Y with
 |true=>exact⟨λh=>absurd (show(19:Int)=0 from h) (by decide),λh=>by have:=h.y;have:=kU hy;omega⟩
 |false=>
 cases hz:empS d.Box.Z with
 |true=>exact⟨λh=>absurd (show(19:Int)=0 from h) (by decide),λh=>by have:=h.z;have:=kU hz;omega⟩
 |false=>
 have ex:=of_decide_eq_false hx;have ey:=of_decide_eq_false hy;have ez:=of_decide_eq_false hz;unfold insS;by_cases i1:(-600<=d.Box.X.A/\-600<=d.Box.X.B)/\d.Box.X.A<=600/\d.Box.X.B<=600
 ·rw[ke i1];by_cases i2:(-600<=d.Box.Y.A/\-600<=d.Box.Y.B)/\d.Box.Y.A<=600/\d.Box.Y.B<=600
  ·rw[ke i2];by_cases i3:(0<=d.Box.Z.A/\0<=d.Box.Z.B)/\d.Box.Z.A<=20000/\d.Box.Z.B<=20000
   ·rw[ke i3];exact⟨λ_=>⟨by omega,by omega,by omega,by omega,by omega⟩,λ_=>rfl⟩
   ·rw[kg i3];exact⟨λh=>absurd h (by decide),λh=>by have:=h.z;omega⟩
  ·rw[kg i2];exact⟨λh=>absurd (show(9:Int)=0 from h) (by decide),λh=>by have:=h.y;omega⟩
 ·rw[kg i1];exact⟨λh=>absurd (show(9:Int)=0 from h) (by decide),λh=>by have:=h.x;omega⟩
def badD (d:qL):Option Int:=bif chkD d !=0 then some (chkD d) else none
def RY (l:List qL):Int:=if 64<l.length then 4 else match findE badD l with| .inl e=>e| .inr _=>0
theorem qRn (l:List qL):UI l=some (RY l):=by
 unfold UI RY;by_cases h:64<l.length
 ·rw[if_pos h,ke (by omega)];rfl
 rw[if_neg h,kg (by omega)];have L:yQ l FUEL 0=some (findE badD l):=by
  refine TK l (yQ l) badD (by omega) (λn x hx=>?_) (λn=>?_)
  ·rw[yQ,ke (by omega),zF (by omega)];simp only[kq,ks,zX (show x<4611686018427387904 by omega),chkD_eq,kd,badD];cases chkD (l.getD x dd) !=0<;>rfl
  ·rw[yQ,kg (by omega)];rfl
 rw[L];simp only[ku,kd];cases findE badD l<;>rfl
theorem qKb {d:qL}:badD d=none↔VD d:=by
 rw[<-qPI];unfold badD;by_cases h:chkD d=0
 ·rw[h];simp
 ·rw[show(chkD d !=0)=true by rw[bne_iff_ne];exact h];simp[h]
theorem IV (l:List qL):RY l=0↔l.length<=64/\∀d∈l,VD d:=by
 unfold RY;by_cases h:64<l.length
 ·rw[if_pos h];exact⟨λh=>absurd h (by decide),λh=>by omega⟩
 rw[if_neg h];cases hf:findE badD l with
 |inl e=>
  obtain⟨a,ha,hb⟩:=qAO hf;simp only;have hn:e≠0:=by
   unfold badD at hb;cases hc:chkD a !=0 with
   |true=>rw[hc] at hb;cases hb;exact bne_iff_ne.1 hc
   |false=>rw[hc] at hb;cases hb
  exact⟨λh=>absurd h hn,λh=>by rw[qKb.2 (h.2 a ha)] at hb;cases hb⟩
 |inr u=>exact⟨λ_=>⟨by omega,λd hd=>qKb.1 (LQ.1 hf d hd)⟩,λ_=>rfl⟩
theorem qQp (b:Box):DG b=some (empS b.X||(empS b.Y||empS b.Z)):=by
 unfold DG XJ empS;show(bif decide (b.X.B<=b.X.A) then _ else bif decide (b.Y.B<=b.Y.A) then _ else some (decide (b.Z.B<=b.Z.A)))=_;cases decide (b.X.B<=b.X.A)<;>cases decide (b.Y.B<=b.Y.A)<;>rfl
theorem qMD {s:Span} (h:empS s=false) (a b:Int):NG s a b=some (insS s a b):=by
 have h':¬s.B<=s.A:=of_decide_eq_false h;unfold NG SM insS;by_cases c1:a<=s.A
 ·rw[ke c1];simp only[kq]
  congr 1
  rw[decide_eq_decide];omega
 ·rw[kg c1,kg (show¬((a<=s.A/\a<=s.B)/\(s.A<=b/\s.B<=b)) from λq=>c1 q.1.1)];rfl
theorem qPa {b:Box} (h:(empS b.X||(empS b.Y||empS b.Z))=false):TS b=some (insS b.X (-600) 600&&(insS b.Y (-600) 600&&insS b.Z 0 20000)):=by
 have h1:empS b.X=false:=by cases e:empS b.X with|false=>rfl|true=>rw[e] at h;cases h
 have h2:empS b.Y=false:=by cases e:empS b.Y with|false=>rfl|true=>rw[h1,e] at h;cases h
 have h3:empS b.Z=false:=by cases e:empS b.Z with|false=>rfl|true=>rw[h1,h2,e] at h;cases h
 unfold TS YI;simp only[qMD h1,qMD h2,qMD h3,kd];cases insS b.X (-600) 600<;>cases insS b.Y (-600) 600<;>rfl
theorem qPU (l:List qL):DJ l=some (RY l):=by
 unfold DJ RY;by_cases h:64<l.length
 ·rw[if_pos h,ke (by omega)];rfl
 rw[if_neg h,kg (by omega)];have L:jL l FUEL 0=some (findE badD l):=by
  refine TK l (jL l) badD (by omega) (λn x hx=>?_) (λn=>?_)
  ·rw[jL,ke (by omega),zF (by omega)];simp only[kq,ks,zX (show x<4611686018427387904 by omega),UU,qQp,kd];rw[zF (by omega)];unfold badD chkD;by_cases h1:(l.getD x dd).Kind<1
   ·rw[ke h1,if_pos (.inl h1)];rfl
   rw[kg h1];by_cases h2:(l.getD x dd).Kind>6
   ·rw[ke h2,if_pos (.inr h2)];rfl
   rw[kg h2,if_neg (by omega)];simp only[ku,kq];cases he:(empS (l.getD x dd).Box.X||(empS (l.getD x dd).Box.Y||empS (l.getD x dd).Box.Z)) with
   |true=>rfl
   |false=>
    rw[qPa he];cases (insS (l.getD x dd).Box.X (-600) 600&&(insS (l.getD x dd).Box.Y (-600) 600&&insS (l.getD x dd).Box.Z 0 20000))<;>rfl
  ·rw[jL,kg (by omega)];rfl
 rw[L];simp only[ku,kd];cases findE badD l<;>rfl
theorem qMV :law15_awake=some true:=by unfold law15_awake;rfl
def rgs (s:Scan) (x:Nat):Ring:=s.Rings.getD x dd
def errR (s:Scan) (x:Nat):Option Int:=
 bif QF (rgs s x) !=0 then some (QF (rgs s x))
 else bif (decide (x=0)&&((rgs s x).Z !=0))||(decide (0<x)&&decide ((rgs s x).Z<=(rgs s (x-1)).Z)) then some 11
 else bif ((rgs s x).Read.length:Int) !=(((rgs s 0).Read.length:Nat):Int) then some 19 else none
def errZ (z:Int) (d:qL):Option Int:=bif decide (d.Box.Z.B>z) then some 9 else none
def endZ (s:Scan):Int:=(rgs s (s.Rings.length-1)).Z
def YY (s:Scan):Int:=
 if s.Rings.length<2 then 3 else if 24<s.Rings.length then 4
 else match findN (errR s) 0 s.Rings.length with
  | .inl e=>e
  | .inr _=>if RY s.Defects≠0 then RY s.Defects else match findE (errZ (endZ s)) s.Defects with| .inl e=>e| .inr _=>0
theorem qJ4 (s:Scan) (z:Int) (L:Nat->Int->Option (Int⊕Unit)) (hl:s.Defects.length<=64) (h0:∀n x,x<s.Defects.length->L (n+1) ((x:Nat):Int)=bif decide ((s.Defects.getD x dd).Box.Z.B>z) then some (.inl 9) else L n ((x+1:Nat):Int)) (h1:∀n,L (n+1) (s.Defects.length:Int)=some (.inr ())):
  L FUEL 0=some (findE (errZ z) s.Defects):=by
 refine TK s.Defects L (errZ z) (by omega) (λn x hx=>?_) h1;rw[h0 n x hx];unfold errZ;cases decide ((s.Defects.getD x dd).Box.Z.B>z)<;>rfl
theorem qRf (s:Scan):ZT s=some (YY s):=by
 unfold ZT YY;by_cases h2:s.Rings.length<2
 ·rw[if_pos h2,ke (by omega)];rfl
 rw[if_neg h2,kg (by omega)];by_cases h24:24<s.Rings.length
 ·rw[if_pos h24,ke (by omega)];rfl
 rw[if_neg h24,kg (by omega)];have L:wF s FUEL 0=some (findN (errR s) 0 s.Rings.length):=by
  refine OB s.Rings.length (wF s) (errR s) 0 (by omega) (by omega) (λn x _ hx=>?_) (λn=>?_)
  ·rw[wF,ke (by omega),zF (by omega)];simp only[kq,ks,gk,AI,kd,ZJ,zX (show x<4611686018427387904 by omega),zF (i:=0) (n:=s.Rings.length) (by omega)];unfold errR rgs;cases hc:QF (s.Rings.getD x dd) !=0 with
   |true=>rfl
   |false=>
    simp only[ku];by_cases hx0:x=0
    ·subst hx0;rw[show(((0:Nat):Int)==0)=true from rfl,kg (show¬((0:Nat):Int)>0 by omega)];cases (s.Rings.getD 0 dd).Z !=0 with
     |true=>rfl
     |false=>cases (((s.Rings.getD 0 dd).Read.length:Nat):Int) !=(((s.Rings.getD 0 dd).Read.length:Nat):Int)<;>rfl
    ·rw[show(((x:Nat):Int)==0)=false by rw[ud];omega,ke (show((x:Nat):Int)>0 by omega),qQA (show-9223372036854775808<=(x:Int)-1 by omega) (by omega),zF (by omega),kg hx0,ke (show 0<x by omega),show((x:Int)-1).toNat=x-1 by omega];cases decide ((s.Rings.getD x dd).Z<=(s.Rings.getD (x-1) dd).Z) with
     |true=>rfl
     |false=>cases ((s.Rings.getD x dd).Read.length:Int) !=(((s.Rings.getD 0 dd).Read.length:Nat):Int)<;>rfl
  ·rw[wF,kg (by omega)];rfl
 rw[L];simp only[ku,kd];cases findN (errR s) 0 s.Rings.length with
 |inl e=>rfl
 |inr u=>
  simp only[Sum.elim_inr,qRn,kd];by_cases h13:RY s.Defects=0
  ·rw[h13,if_neg (by simp)];simp only[uj,ku];rw[qU (by omega),zF (by omega)];have:=qJ4 s (endZ s) (JE s) ((IV _).1 h13).1 (λn x hx=>by
    rw[JE,ke (by omega),zF (by omega)];simp only[kq,ks,zX (show x<4611686018427387904 by have:=((IV _).1 h13).1;omega)];rw[qU (by omega),show((s.Rings.length:Int)-1).toNat=s.Rings.length-1 by omega];rfl) (λn=>by rw[JE,kg (by omega)];rfl)
   rw[this];simp only[kq,kd];cases findE (errZ (endZ s)) s.Defects<;>rfl
  ·rw[show(RY s.Defects !=0)=true by rw[bne_iff_ne];exact h13,if_pos h13];rfl
def OE {ε σ:Type} (err:Nat->Option ε) (g:Nat->σ) (x:Nat) (_:σ):ε⊕σ:=match err x with|some e=> .inl e|none=> .inr (g x)
theorem qCD {ε σ:Type} (err:Nat->Option ε) (g:Nat->σ):∀(k x:Nat) (s:σ),runN (OE err g) x k s=Sum.elim Sum.inl (λ_=>Sum.inr (if k=0 then s else g (x+k-1))) (findN err x k)
 |0,x,s=>by simp[runN,findN]
 |k+1,x,s=>by
  unfold runN findN OE;cases err x with
  |some e=>rfl
  |none=>
   simp only;have ih:=qCD err g k (x+1) (g x);unfold OE at ih;rw[ih];cases findN err (x+1) k with
   |inl e=>rfl
   |inr u=>
    simp only[Nat.add_eq_zero_iff,Nat.one_ne_zero,and_false,if_false,Sum.elim_inr]
    congr 1
    by_cases hk:k=0
    ·subst hk;rw[if_pos rfl];rfl
    ·rw[if_neg hk];congr 1;omega
theorem qQk (s:Scan):GY s=some (YY s):=by
 unfold GY YY;by_cases h2:s.Rings.length<2
 ·rw[if_pos h2,ke (by omega)];rfl
 rw[if_neg h2,kg (by omega)];by_cases h24:24<s.Rings.length
 ·rw[if_pos h24,ke (by omega)];rfl
 rw[if_neg h24,kg (by omega)];have L:=AG s.Rings.length (λn l i=>zQ s n l i) (OE (errR s) (λx=>(rgs s x).Z)) (λr=>r) (λx l=>x=0\/l=(rgs s (x-1)).Z) (λn x l hx hi=>by
   have e:zQ s (n+1) l (x:Int)=match errR s x with|some e=>some (.inl e)|none=>zQ s n (rgs s x).Z ((x+1:Nat):Int):=by
    rw[zQ,ke (by omega),zF (by omega)];simp only[kq,ks,gk,CO,kd,QP,zX (show x<4611686018427387904 by omega),zF (i:=0) (n:=s.Rings.length) (by omega)];unfold errR rgs;cases hc:QF (s.Rings.getD x dd) !=0 with
    |true=>rfl
    |false=>
     simp only[ku];by_cases hx0:x=0
     ·subst hx0;rw[show(((0:Nat):Int)==0)=true from rfl,kg (show¬((0:Nat):Int)>0 by omega)];cases (s.Rings.getD 0 dd).Z !=0 with
      |true=>rfl
      |false=>cases (((s.Rings.getD 0 dd).Read.length:Nat):Int) !=(((s.Rings.getD 0 dd).Read.length:Nat):Int)<;>rfl
     ·have hl:l=(rgs s (x-1)).Z:=hi.resolve_left hx0;subst hl;unfold rgs;rw[show(((x:Nat):Int)==0)=false by rw[ud];omega,ke (show((x:Nat):Int)>0 by omega),kg hx0,ke (show 0<x by omega)];cases decide ((s.Rings.getD x dd).Z<=(s.Rings.getD (x-1) dd).Z) with
      |true=>rfl
      |false=>cases ((s.Rings.getD x dd).Read.length:Int) !=(((s.Rings.getD 0 dd).Read.length:Nat):Int)<;>rfl
   unfold OE;cases he:errR s x with
   |some q=>rw[he] at e;exact e
   |none=>rw[he] at e;exact⟨e,.inr (by rw[gK])⟩)
  (λn l _=>by show zQ s (n+1) l _=_;rw[zQ,kg (by omega)];rfl) FUEL 0 0 (by rw[FUEL_eq];omega) (by omega) (.inl rfl)
 rw[qCD,if_neg (show¬s.Rings.length-0=0 by omega),show 0+(s.Rings.length-0)-1=s.Rings.length-1 by omega,gf] at L;have L':zQ s FUEL 0 0=some (Sum.elim Sum.inl (λ_=>Sum.inr (rgs s (s.Rings.length-1)).Z) (findN (errR s) 0 s.Rings.length)):=L;rw[L'];simp only[ku,kd];cases findN (errR s) 0 s.Rings.length with
 |inl e=>rfl
 |inr u=>
  simp only[Sum.elim_inr,qPU,kd];by_cases h13:RY s.Defects=0
  ·rw[h13,if_neg (by simp)];simp only[uj,ku];have:=qJ4 s (endZ s) (WF s (endZ s)) ((IV _).1 h13).1 (λn x hx=>by
    rw[WF,ke (by omega),zF (by omega)];simp only[kq,ks,zX (show x<4611686018427387904 by have:=((IV _).1 h13).1;omega)]) (λn=>by rw[WF,kg (by omega)];rfl)
   rw[show(rgs s (s.Rings.length-1)).Z=endZ s from rfl,this];simp only[kd];cases findE (errZ (endZ s)) s.Defects<;>rfl
  ·rw[show(RY s.Defects !=0)=true by rw[bne_iff_ne];exact h13,if_pos h13];rfl
def fewB (s:Scan):Bool:=decide (s.Rings.length<=40/\s.Defects.length<=100/\∀i,i<s.Rings.length->(rgs s i).Read.length<=60)
theorem qRl (s:Scan):AB s=some (fewB s):=by
 unfold AB;by_cases h1:s.Rings.length<=40
 ·rw[kg (by omega)];by_cases h2:s.Defects.length<=100
  ·rw[kg (by omega)];have L:WN s FUEL 0=some (findN (λi=>if 60<(rgs s i).Read.length then some false else none) 0 s.Rings.length):=by
    refine OB s.Rings.length (WN s) _ 0 (by omega) (by omega) (λn x _ hx=>?_) (λn=>?_)
    ·rw[WN,ke (by omega),zF (by omega)];simp only[kq,ks,zX (show x<4611686018427387904 by omega)];unfold rgs;by_cases h:60<(s.Rings.getD x dd).Read.length
     ·rw[if_pos h,ke (by omega)];rfl
     ·rw[if_neg h,kg (by omega)];rfl
    ·rw[WN,kg (by omega)];rfl
   simp only[ku,FY,L,kd];cases hf:findN (λi=>if 60<(rgs s i).Read.length then some false else none) 0 s.Rings.length with
   |inl e=>
    obtain⟨i,_,h4,h5,_⟩:=JS hf;have h6:60<(rgs s i).Read.length:=by
     by_cases h:60<(rgs s i).Read.length
     ·exact h
     ·rw[if_neg h] at h5;cases h5
    rw[if_pos h6] at h5;cases h5;have:fewB s=false:=kg λh=>by have:=h.2.2 i (by omega);omega
    rw[this];rfl
   |inr u=>
    have h:=VV.1 hf;have:fewB s=true:=ke ⟨h1,h2,λi hi=>by
     have:=h i (by omega) (by omega);by_cases h:60<(rgs s i).Read.length
     ·rw[if_pos h] at this;cases this
     ·omega⟩
    rw[this];rfl
  ·rw[ke (by omega)];have:fewB s=false:=kg λh=>h2 h.2.1;rw[this];rfl
 ·rw[ke (by omega)];have:fewB s=false:=kg λh=>h1 h.1;rw[this];rfl
theorem qQG {s:Scan} {x:Nat} (h:errR s x=none):yW (rgs s x)/\(x=0->(rgs s x).Z=0)/\(0<x->(rgs s (x-1)).Z<(rgs s x).Z)/\(rgs s x).Read.length=(rgs s 0).Read.length:=by
 unfold errR at h;cases h1:QF (rgs s x) !=0 with
 |true=>rw[h1] at h;cases h
 |false=>
  rw[h1] at h;simp only[ku] at h;cases h2:(decide (x=0)&&((rgs s x).Z !=0))||(decide (0<x)&&decide ((rgs s x).Z<=(rgs s (x-1)).Z)) with
  |true=>rw[h2] at h;cases h
  |false=>
   rw[h2] at h;simp only[ku] at h;cases h3:((rgs s x).Read.length:Int) !=(((rgs s 0).Read.length:Nat):Int) with
   |true=>rw[h3] at h;cases h
   |false=>
    simp only[uU,Bool.and_eq_false_iff,decide_eq_false_iff_not,bne_eq_false_iff_eq] at h1 h2 h3;exact⟨(GR _).1 h1,λhx=>h2.1.resolve_left (λq=>q hx),λhx=>by rcases h2.2 with q|q<;>omega,by omega⟩
structure V15 (s:Scan):Prop where
 two:2<=s.Rings.length
 many:s.Rings.length<=24
 good:∀x,x<s.Rings.length->yW (rgs s x)
 zero:(rgs s 0).Z=0
 up:∀x,0<x->x<s.Rings.length->(rgs s (x-1)).Z<(rgs s x).Z
 same:∀x,x<s.Rings.length->(rgs s x).Read.length=(rgs s 0).Read.length
 def13:RY s.Defects=0
 ends:∀d∈s.Defects,d.Box.Z.B<=endZ s
theorem qKc {z:Int} {d:qL}:errZ z d=none↔d.Box.Z.B<=z:=by
 unfold errZ;by_cases h:d.Box.Z.B>z
 ·rw[ke h];simp;omega
 ·rw[kg h];simp;omega
theorem IX (s:Scan):YY s=0↔V15 s:=by
 unfold YY;by_cases h2:s.Rings.length<2
 ·rw[if_pos h2];exact⟨λh=>absurd h (by decide),λh=>by have:=h.two;omega⟩
 rw[if_neg h2];by_cases h24:24<s.Rings.length
 ·rw[if_pos h24];exact⟨λh=>absurd h (by decide),λh=>by have:=h.many;omega⟩
 rw[if_neg h24];cases hf:findN (errR s) 0 s.Rings.length with
 |inl e=>
  obtain⟨i,_,hi,he,_⟩:=JS hf;simp only;refine⟨λh=>?_,λh=>?_⟩
  ·subst h;unfold errR at he;cases h1:QF (rgs s i) !=0 with
   |true=>rw[h1] at he;simp only[kq,uw] at he;rw[he] at h1;cases h1
   |false=>
    rw[h1] at he;simp only[ku] at he;cases h2:(decide (i=0)&&((rgs s i).Z !=0))||(decide (0<i)&&decide ((rgs s i).Z<=(rgs s (i-1)).Z))<;>rw[h2] at he<;>simp only[kq,ku] at he
    ·cases h3:((rgs s i).Read.length:Int) !=(((rgs s 0).Read.length:Nat):Int)<;>rw[h3] at he<;>cases he
    ·cases he
  ·have hi':i<s.Rings.length:=by omega
   exfalso;have:errR s i=none:=by
    unfold errR;rw[show QF (rgs s i)=0 from(GR _).2 (h.good i hi'),h.same i hi'];simp only[uj,ku];have:((decide (i=0)&&((rgs s i).Z !=0))||(decide (0<i)&&decide ((rgs s i).Z<=(rgs s (i-1)).Z)))=false:=by
     by_cases h0:i=0
     ·subst h0;rw[h.zero];simp
     ·rw[kg h0,kg (show¬(rgs s i).Z<=(rgs s (i-1)).Z by have:=h.up i (by omega) hi';omega)];simp
    rw[this];rfl
   rw[this] at he;cases he
 |inr u=>
  have hn:=VV.1 hf;simp only;by_cases h13:RY s.Defects=0
  ·rw[if_neg (by simpa using h13)];cases hz:findE (errZ (endZ s)) s.Defects with
   |inl e=>
    simp only;obtain⟨d,hd,he⟩:=qAO hz;refine⟨λh=>?_,λh=>?_⟩
    ·subst h;unfold errZ at he;cases h3:decide (d.Box.Z.B>endZ s)<;>rw[h3] at he<;>cases he
    ·rw[qKc.2 (h.ends d hd)] at he;cases he
   |inr u=>
    have hz':=LQ.1 hz;have e:∀x,x<s.Rings.length->_:=λx hx=>qQG (hn x (by omega) (by omega));exact⟨λ_=>⟨by omega,by omega,λx hx=>(e x hx).1,(e 0 (by omega)).2.1 rfl,λx h0 hx=>(e x hx).2.2.1 h0,λx hx=>(e x hx).2.2.2,h13,λd hd=>qKc.1 (hz' d hd)⟩,λ_=>rfl⟩
  ·rw[if_pos h13];exact⟨λh=>absurd h h13,λh=>absurd h.def13 h13⟩
noncomputable def secR (r:Ring) (limit most:Int):qC×Int:=bif rg_canFill (rg_cleaned r limit) most then ofR (fill (rg_cleaned r limit)) else(nilS,30)
theorem qRx {a:Ring} (g:yW a) {most:Int} (h:rg_canFill a most=true):(fill a).length=a.Read.length:=by
 refine(CX a g ?_).1;unfold rg_canFill at h;rw[ko] at h;have:=h.1;simp only[ui,decide_eq_false_iff_not] at this;omega
theorem qP7 (r:Ring) (g:yW r) (limit most:Int):KB r limit most=some (secR r limit most)/\PG r limit most=some ((secR r limit most).1,(secR r limit most).2==0):=by
 have g':=qIb r g limit;have hi:=g.hi;unfold KB PG secR;rw[qK9 r limit (by omega),qM8 r limit (by omega)];simp only[kd];rw[show(Ring.mk (rg_cleaned r limit).Z (rg_cleaned r limit).Read)=rg_cleaned r limit from rfl,qJW _ g',qKE _ g'];simp only[kd];cases hc:rg_canFill (rg_cleaned r limit) most with
 |false=>exact⟨rfl,rfl⟩
 |true=>
  simp only[kq,uj,ku];have hl:(fill (rg_cleaned r limit)).length<=40:=by
   rw[qRx g' hc];have:=g'.hi;omega
  rw[(Of_eq _ hl).1,(Of_eq _ hl).2];exact⟨rfl,rfl⟩
theorem qE9 (r:Ring) (limit most:Int):VS (secR r limit most).1:=by
 unfold secR;cases rg_canFill (rg_cleaned r limit) most with
 |false=>exact qEI
 |true=>exact ofR_VS _
noncomputable def secI (s:Scan) (l m:Int) (i:Nat):qC×Int:=secR (rgs s i) l m
noncomputable def DS (s:Scan) (l m:Int) (i:Nat):qC:=SI (secI s l m i).1 (secI s l m (i+1)).1
noncomputable def slI (s:Scan) (l m:Int) (i:Nat):qO:=⟨(rgs s (i+1)).Z-(rgs s i).Z,DS s l m i⟩
noncomputable def er1 (s:Scan) (l m:Int) (i:Nat):Option (List qO×Int):=if(secI s l m i).2≠0 then some ([],30) else none
noncomputable def er2 (s:Scan) (l m:Int) (i:Nat):Option (List qO×Int):=if(DS s l m i).Rows=[] then some ([],30) else none
noncomputable def UV (s:Scan) (l m:Int):List qO×Int:=
 if YY s≠0 then([],YY s)
 else match findN (er1 s l m) 0 s.Rings.length with
  | .inl e=>e
  | .inr _=>match findN (er2 s l m) 0 (s.Rings.length-1) with
   | .inl e=>e
   | .inr _=>((List.range (s.Rings.length-1)).map (slI s l m),0)
theorem qO0 (s:Scan) (l m:Int) (i:Nat):XI (secI s l m i).1 (secI s l m (i+1)).1=some (DS s l m i)/\JO (secI s l m i).1 (secI s l m (i+1)).1=some (DS s l m i):=by
 have h:=Meet_eq (secI s l m i).1 (secI s l m (i+1)).1;rw[qNJ (show VS (secI s l m i).1 from qE9 _ _ _),qNJ (show VS (secI s l m (i+1)).1 from qE9 _ _ _)] at h;exact h
theorem rows0 (x:qC):((x.Rows.length:Int)==0)=decide (x.Rows=[]):=by
 cases hx:x.Rows with
 |nil=>rfl
 |cons a l=>rw[kg (by simp)];rw[ud];simp;omega
def JW {α:Type} (f:Nat->α) (z:α) (N x:Nat):List α:=(List.range N).map (λi=>if i<x then f i else z)
theorem qKA {α:Type} (f:Nat->α) (z:α) (N x:Nat):(JW f z N x).length=N:=by simp[JW]
theorem qPr {α:Type} (f:Nat->α) (z:α) (N:Nat):JW f z N 0=List.replicate N z:=by
 refine gE (by simp[JW]) λi h1 h2=>?_;simp[JW]
theorem qP0 {α:Type} (f:Nat->α) (z:α) (N:Nat):JW f z N N=(List.range N).map f:=by
 refine gE (by simp[JW]) λi h1 h2=>?_;simp only[JW,go,uo] at h1;simp only[JW,List.getElem_map,List.getElem_range,if_pos h1]
theorem partF_set {α:Type} (f:Nat->α) (z:α) (N x:Nat):(JW f z N x).set x (f x)=JW f z N (x+1):=by
 refine gE (by simp[JW]) λi h1 h2=>?_;by_cases h:i=x
 ·subst h;simp[JW]
 ·rw[List.getElem_set_ne (by omega)];simp only[JW,List.getElem_map,List.getElem_range];by_cases h3:i<x
  ·rw[if_pos h3,if_pos (by omega)]
  ·rw[if_neg h3,if_neg (by omega)]
theorem qJ6 {α ρ:Type} (N:Nat) (L:Nat->List α->Int->Option (ρ⊕List α)) (err:Nat->Option ρ) (f:Nat->α) (z:α) (hN:N<=1000000000)
  (h0:∀n x l,x<N->l.length=N->L (n+1) l (x:Int)=match err x with|some e=>some (.inl e)|none=>L n (l.set x (f x)) ((x+1:Nat):Int))
  (h1:∀n l,l.length=N->L (n+1) l (N:Int)=some (.inr l)):
  L FUEL (List.replicate N z) 0=some (Sum.elim Sum.inl (λ_=>Sum.inr ((List.range N).map f)) (findN err 0 N)):=by
 have h:=AG N L (OE err (λx=>JW f z N (x+1))) (λr=>r) (λx l=>l=JW f z N x) (λn x l hx hi=>by
   subst hi;have e:=h0 n x _ hx (qKA f z N x);unfold OE;cases he:err x with
   |some q=>rw[he] at e;exact e
   |none=>rw[he] at e;simp only[partF_set] at e;exact⟨e,rfl⟩)
  (λn l hi=>h1 n l (by rw[hi,qKA])) FUEL 0 (JW f z N 0) (by rw[FUEL_eq];omega) (by omega) rfl
 rw[qPr,qCD,gf] at h;rw[show((0:Nat):Int)=0 from rfl] at h;rw[h];cases findN err 0 N with
 |inl e=>rfl
 |inr u=>
  simp only[Sum.elim_inr];by_cases hn:N=0
  ·subst hn;rfl
  ·rw[if_neg hn,show 0+N-1+1=N by omega,qP0]
theorem qQZ (s:Scan) (l m:Int):QT s l m=some (UV s l m):=by
 unfold QT UV;rw[qRf];simp only[kd];by_cases hc:¬YY s=0
 ·rw[show(YY s !=0)=true from bne_iff_ne.2 hc,if_pos hc];rfl
 have hc:YY s=0:=Classical.not_not.1 hc;rw[hc,if_neg (by simp)];simp only[uj,ku];have v:=(IX s).1 hc;have v2:=v.two;have v24:=v.many;rw[qQP (by omega) (by omega)];have L1:=qJ6 s.Rings.length (JH s l m) (er1 s l m) (λi=>(secI s l m i).1) (qC.mk 0 ([]:List Span)) (by omega) (λn x t hx ht=>by
  rw[JH,ke (by omega),zF (by omega)];simp only[kq,ks];rw[(qP7 (s.Rings.getD x dd) (v.good x hx) l m).1];simp only[kd];unfold er1 secI rgs;by_cases he:(secR (s.Rings.getD x dd) l m).2=0
  ·rw[he,if_neg (by simp),zF (by omega),zX (by omega)];rfl
  ·rw[if_pos he,show((secR (s.Rings.getD x dd) l m).2 !=0)=true from bne_iff_ne.2 he];rfl) (λn t ht=>by
  rw[JH,kg (by omega)];rfl)
 rw[ks,L1];simp only[kq,kd];cases findN (er1 s l m) 0 s.Rings.length with
 |inl e=>rfl
 |inr u=>
  simp only[Sum.elim_inr];rw[qU (by omega),show(s.Rings.length:Int)-1=((s.Rings.length-1:Nat):Int) by omega,qQP (by omega) (by omega),ks];have L2:=qJ6 (s.Rings.length-1) (JI s ((List.range s.Rings.length).map λi=>(secI s l m i).1)) (er2 s l m) (slI s l m) (qO.mk 0 (qC.mk 0 ([]:List Span))) (by omega) (λn x t hx ht=>by
   have gm:∀j,j<s.Rings.length->((List.range s.Rings.length).map λi=>(secI s l m i).1).getD j dd=(secI s l m j).1:=λj hj=>by
    rw[ka,kH,gn hj];rfl
   have hl:((List.range s.Rings.length).map λi=>(secI s l m i).1).length=s.Rings.length:=by simp
   rw[JI,qU (n:=(s.Rings.length:Int)-1) (by omega),show(s.Rings.length:Int)-1=((s.Rings.length-1:Nat):Int) by omega,ks,ke (by omega),hl,zX (show x<4611686018427387904 by omega),zF (by omega),zF (i:=((x+1:Nat):Int)) (by omega)];simp only[kq,ks];rw[gm x (by omega),gm (x+1) (by omega),(qO0 s l m x).1];simp only[kd];rw[rows0];unfold er2;by_cases he:(DS s l m x).Rows=[]
   ·rw[ke he,if_pos he];rfl
   ·rw[kg he,if_neg he,zF (by omega)];have g1:=(v.good x (by omega)).z0;have g2:=(v.good x (by omega)).z1;have g3:=(v.good (x+1) (by omega)).z0;have g4:=(v.good (x+1) (by omega)).z1;rw[show(s.Rings.getD (x+1) dd).Z=(rgs s (x+1)).Z from rfl,show(s.Rings.getD x dd).Z=(rgs s x).Z from rfl,qU (by omega)];rfl) (λn t ht=>by
   rw[JI,qU (n:=(s.Rings.length:Int)-1) (by omega),show(s.Rings.length:Int)-1=((s.Rings.length-1:Nat):Int) by omega,ks,kg (by omega)];rfl)
  rw[L2];simp only[kq,kd];cases findN (er2 s l m) 0 (s.Rings.length-1) with
  |inl e=>rfl
  |inr u=>rfl
noncomputable def erB (s:Scan) (l m:Int) (i:Nat):Option (List qO×Int):=if(secI s l m i).2≠0 then some ([],30) else if 0<i/\(DS s l m (i-1)).Rows=[] then some ([],30) else none
noncomputable def gB (s:Scan) (l m:Int) (x:Nat):List qO×Int×List Span:=((List.range x).map (slI s l m),(secI s l m x).1.Low,(secI s l m x).1.Rows)
theorem findN_two {ε:Type} (E:ε) {bad:Nat->Option ε} (h:∀i,bad i=none\/bad i=some E) (N:Nat):(findN bad 0 N= .inr ()/\∀i,i<N->bad i=none)\/(findN bad 0 N= .inl E/\∃i,i<N/\bad i≠none):=by
 cases hf:findN bad 0 N with
 |inl e=>
  obtain⟨i,_,hi,he,_⟩:=JS hf;rcases h i with q|q
  ·rw[q] at he;cases he
  ·rw[q] at he;cases he;exact .inr ⟨rfl,i,by omega,by rw[q];simp⟩
 |inr u=>exact .inl ⟨rfl,λi hi=>VV.1 hf i (by omega) (by omega)⟩
theorem qRc (s:Scan) (l m:Int) (h2:2<=s.Rings.length):(match findN (erB s l m) 0 s.Rings.length with| .inl e=>e| .inr _=>((List.range (s.Rings.length-1)).map (slI s l m),(0:Int)))=(match findN (er1 s l m) 0 s.Rings.length with
  | .inl e=>e
  | .inr _=>match findN (er2 s l m) 0 (s.Rings.length-1) with
   | .inl e=>e
   | .inr _=>((List.range (s.Rings.length-1)).map (slI s l m),0)):=by
 have b1:∀i,er1 s l m i=none\/er1 s l m i=some ([],30):=λi=>by unfold er1;split<;>simp
 have b2:∀i,er2 s l m i=none\/er2 s l m i=some ([],30):=λi=>by unfold er2;split<;>simp
 have b3:∀i,erB s l m i=none\/erB s l m i=some ([],30):=λi=>by
  unfold erB;split
  ·exact .inr rfl
  ·split
   ·exact .inr rfl
   ·exact .inl rfl
 have n1:∀i,er1 s l m i=none↔(secI s l m i).2=0:=λi=>by unfold er1;by_cases h:(secI s l m i).2=0<;>simp[h]
 have n2:∀i,er2 s l m i=none↔¬(DS s l m i).Rows=[]:=λi=>by unfold er2;by_cases h:(DS s l m i).Rows=[]<;>simp[h]
 have n3:∀i,erB s l m i=none↔(secI s l m i).2=0/\(0<i->¬(DS s l m (i-1)).Rows=[]):=λi=>by
  unfold erB;by_cases h:(secI s l m i).2=0
  ·by_cases h':0<i/\(DS s l m (i-1)).Rows=[]
   ·simp[h,h']
   ·rw[if_neg (by simpa using h),if_neg h'];simp only[true_iff];exact⟨h,λq r=>h' ⟨q,r⟩⟩
  ·simp[h]
 rcases findN_two _ b3 s.Rings.length with⟨e3,a3⟩|⟨e3,i,hi,a3⟩
 ·rcases findN_two _ b1 s.Rings.length with⟨e1,a1⟩|⟨e1,j,hj,a1⟩
  ·rcases findN_two _ b2 (s.Rings.length-1) with⟨e2,a2⟩|⟨e2,j,hj,a2⟩
   ·rw[e3,e1];simp only[e2]
   ·exact absurd ((n2 j).2 (((n3 (j+1)).1 (a3 (j+1) (by omega))).2 (by omega))) a2
  ·exact absurd ((n1 j).2 ((n3 j).1 (a3 j hj)).1) a1
 ·rcases findN_two _ b1 s.Rings.length with⟨e1,a1⟩|⟨e1,j,hj,a1⟩
  ·rcases findN_two _ b2 (s.Rings.length-1) with⟨e2,a2⟩|⟨e2,j,hj,a2⟩
   ·exact absurd ((n3 i).2 ⟨(n1 i).1 (a1 i hi),λh0=>(n2 (i-1)).1 (a2 (i-1) (by omega))⟩) a3
   ·rw[e3,e1];simp only[e2]
  ·rw[e3,e1]
theorem qQt (s:Scan) (l m:Int):GQ s l m=some (UV s l m):=by
 unfold GQ UV;rw[qQk];simp only[kd];by_cases hc:¬YY s=0
 ·rw[show(YY s !=0)=true from bne_iff_ne.2 hc,if_pos hc];rfl
 have hc:YY s=0:=Classical.not_not.1 hc;rw[hc,if_neg (by simp)];simp only[uj,ku];have v:=(IX s).1 hc;have v2:=v.two;have v24:=v.many;have L:=AG s.Rings.length (λn (t:List qO×Int×List Span) i=>zZ s l m n t.1 i t.2.1 t.2.2) (OE (erB s l m) (gB s l m)) (λr=>Sum.map id (·.1) r) (λx t=>(x=0/\t=([],0,[]))\/(0<x/\t=gB s l m (x-1))) (λn x t hx hi=>by
   have e:zZ s l m (n+1) t.1 (x:Int) t.2.1 t.2.2=match erB s l m x with|some e=>some (.inl e)|none=>zZ s l m n (gB s l m x).1 ((x+1:Nat):Int) (gB s l m x).2.1 (gB s l m x).2.2:=by
    rw[zZ,ke (by omega),zF (by omega)];simp only[kq,ks];rw[(qP7 (s.Rings.getD x dd) (v.good x hx) l m).2];simp only[kd,UW,zX (show x<4611686018427387904 by omega)];unfold erB;rw[show secI s l m x=secR (s.Rings.getD x dd) l m from rfl];by_cases he:(secR (s.Rings.getD x dd) l m).2=0
    ·rw[he,if_neg (by simp),show(!((0:Int)==0))=false from rfl];simp only[ku];rcases hi with⟨h0,ht⟩|⟨h0,ht⟩
     ·subst h0;subst ht;rw[kg (by omega),if_neg (by omega)];rfl
     ·subst ht;obtain⟨y,rfl⟩:∃y,x=y+1:=⟨x-1,by omega⟩
      rw[ke (by omega)];simp only[gK];have me:=(qO0 s l m y).2;rw[show JO (qC.mk (gB s l m y).2.1 (gB s l m y).2.2) (qC.mk (secR (s.Rings.getD (y+1) dd) l m).1.Low (secR (s.Rings.getD (y+1) dd) l m).1.Rows)=JO (secI s l m y).1 (secI s l m (y+1)).1 from rfl,me];simp only[kq,kd];rw[rows0];by_cases hm:(DS s l m y).Rows=[]
      ·rw[ke hm,if_pos ⟨by omega,hm⟩];rfl
      ·rw[kg hm,if_neg (λq=>hm q.2)];have hl:(gB s l m y).1.length=y:=by simp[gB]
       rw[hl,show w64 (((y+1:Nat):Int)-1)=(y:Int) by rw[qU (by omega)];omega,zF (by omega),YJ (by omega)];have g1:=(v.good y (by omega)).z0;have g2:=(v.good y (by omega)).z1;have g3:=(v.good (y+1) (by omega)).z0;have g4:=(v.good (y+1) (by omega)).z1;rw[ks,show(s.Rings.getD (y+1) dd).Z=(rgs s (y+1)).Z from rfl,show(s.Rings.getD y dd).Z=(rgs s y).Z from rfl,qU (by omega)];simp only[kq,ku];rw[show(gB s l m y).1++[qO.mk ((rgs s (y+1)).Z-(rgs s y).Z) (DS s l m y)]=(gB s l m (y+1)).1 by
        simp only[gB,List.range_succ,List.map_append,ur,List.map_nil];rfl]
       rfl
    ·rw[if_pos he,show(!((secR (s.Rings.getD x dd) l m).2==0))=true by rw[ui,ud];exact he];rfl
   unfold OE;cases he:erB s l m x with
   |some q=>rw[he] at e;exact e
   |none=>rw[he] at e;exact⟨e,.inr ⟨by omega,by rw[gK]⟩⟩)
  (λn t _=>by show zZ s l m (n+1) t.1 _ t.2.1 t.2.2=_;rw[zZ,kg (by omega)];rfl) FUEL 0 ([],0,[]) (by rw[FUEL_eq];omega) (by omega) (.inl ⟨rfl,rfl⟩)
 rw[qCD,if_neg (show¬s.Rings.length-0=0 by omega),show 0+(s.Rings.length-0)-1=s.Rings.length-1 by omega,gf] at L;have L':zZ s l m FUEL [] 0 0 []=some (Sum.map id (·.1) (Sum.elim Sum.inl (λ_=>Sum.inr (gB s l m (s.Rings.length-1))) (findN (erB s l m) 0 s.Rings.length))):=L;rw[L'];refine Eq.trans ?_ (congrArg some (qRc s l m v2));simp only[kd];cases findN (erB s l m) 0 s.Rings.length with
 |inl e=>rfl
 |inr u=>rfl
theorem qBw (x:qC) (h:x.Rows.length<=1000000):ZQ x x=some true:=by
 unfold ZQ;have L:wK x x FUEL 0=some (findN (λ_=>(none:Option Bool)) 0 x.Rows.length):=by
  refine OB x.Rows.length (wK x x) _ 0 (by omega) (by omega) (λn i _ hi=>?_) (λn=>?_)
  ·rw[wK,ke (by omega),zF (by omega)];simp only[kq,ku,beq_self_eq_true,Bool.and_self,uq,zX (show i<4611686018427387904 by omega)]
  ·rw[wK,kg (by omega)];rfl
 rw[VV.2 (λ_ _ _=>rfl)] at L;simp only[uj,ku,ZX,L,kd,Sum.elim_inr]
theorem qHO (t:List qO) (hl:t.length<=1000000) (h:∀j,j<t.length->(t.getD j dd).Sec.Rows.length<=1000000):FK t t=some true:=by
 unfold FK;have L:jU t t FUEL 0=some (findN (λ_=>(none:Option Bool)) 0 t.length):=by
  refine OB t.length (jU t t) _ 0 (by omega) (by omega) (λn i _ hi=>?_) (λn=>?_)
  ·rw[jU,ke (by omega),zF (by omega)];simp only[kq,ku,uj,ks,qBw _ (h i hi),kd,DT,uq,zX (show i<4611686018427387904 by omega)]
  ·rw[jU,kg (by omega)];rfl
 rw[VV.2 (λ_ _ _=>rfl)] at L;simp only[uj,ku,L,kd,Sum.elim_inr]
theorem qOr (s:Scan) (l m:Int):(UV s l m).1.length<=1000000:=by
 unfold UV;by_cases hc:YY s≠0
 ·rw[if_pos hc];simp
 ·rw[if_neg hc];have v:=((IX s).1 (Classical.not_not.1 hc)).many;cases hf:findN (er1 s l m) 0 s.Rings.length with
  |inl e=>
   obtain⟨i,_,_,he,_⟩:=JS hf;unfold er1 at he;split at he
   ·cases he;simp
   ·cases he
  |inr u=>
   simp only;cases hf:findN (er2 s l m) 0 (s.Rings.length-1) with
   |inl e=>
    obtain⟨i,_,_,he,_⟩:=JS hf;unfold er2 at he;split at he
    ·cases he;simp
    ·cases he
   |inr u=>simp only[go,uo];omega
theorem qMK (s:Scan) (l m:Int) (j:Nat) (hj:j<(UV s l m).1.length):((UV s l m).1.getD j dd).Sec.Rows.length<=1000000:=by
 unfold UV at hj⊢;by_cases hc:YY s≠0
 ·rw[if_pos hc] at hj;simp at hj
 ·rw[if_neg hc] at hj⊢;have v:=((IX s).1 (Classical.not_not.1 hc)).many;cases hf:findN (er1 s l m) 0 s.Rings.length with
  |inl e=>
   obtain⟨i,_,_,he,_⟩:=JS hf;unfold er1 at he;split at he
   ·cases he;rw[hf] at hj;simp at hj
   ·cases he
  |inr u=>
   rw[hf] at hj;simp only at hj⊢;cases hf:findN (er2 s l m) 0 (s.Rings.length-1) with
   |inl e=>
    obtain⟨i,_,_,he,_⟩:=JS hf;unfold er2 at he;split at he
    ·cases he;rw[hf] at hj;simp at hj
    ·cases he
   |inr u=>
    rw[hf] at hj;simp only[go,uo] at hj⊢;rw[ka,kH,gn hj];have:=(VS_meet (show VS (secI s l m j).1 from qE9 _ _ _) (show VS (secI s l m (j+1)).1 from qE9 _ _ _)).len;show(SI (secI s l m j).1 (secI s l m (j+1)).1).Rows.length<=1000000;omega
theorem qGe (s:Scan) (l m:Int):WQ s l m=some true:=by
 unfold WQ;rw[qRl];simp only[kd,qMV,qQZ,qQt,qHO _ (qOr s l m) (qMK s l m),beq_self_eq_true,kq,QJ];cases fewB s<;>rfl
theorem qH1 (s:Scan) (l m:Int) {P Q R:Prop} (_:P) (_:Q) (_:R):WQ s l m=some true:=qGe s l m
end Saw
end Go.SL

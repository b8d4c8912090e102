/- Plain mathematics that all seats use: loops over an index. -/
import Derived.Test.YthbamnkheinbgaaGreatDoorSMa10
import Derived.Test.YthbamnkheinbgaaGreatDoorSMa8
set_option linter.unusedVariables false
set_option linter.unusedSimpArgs false
namespace Go.SL
def runN {σ ρ:Type} (step:Nat->σ->ρ⊕σ):Nat->Nat->σ->ρ⊕σ
 |_,0,s=> .inr s
 |x,k+1,s=>match step x s with
  | .inl r=> .inl r
  | .inr s'=>runN step (x+1) k s'
theorem qAN {σ ρ β:Type} (N:Nat) (L:Nat->σ->Int->Option β) (step:Nat->σ->ρ⊕σ) (fin:ρ⊕σ->β) (Inv:Nat->σ->Prop)
  (h0:∀n x s,x<N->Inv x s->match step x s with| .inl r=>L (n+1) s (x:Int)=some (fin (.inl r))| .inr s'=>L (n+1) s (x:Int)=L n s' ((x+1:Nat):Int)/\Inv (x+1) s')
  (h1:∀n s,Inv N s->L (n+1) s (N:Int)=some (fin (.inr s))):
  ∀(n x:Nat) (s:σ),N<x+n->x<=N->Inv x s->L n s (x:Int)=some (fin (runN step x (N-x) s))
 |0,x,s,hn,hx,_=>by omega
 |n+1,x,s,hn,hx,hi=>by
  by_cases h:x<N
  ·have k:=h0 n x s h hi;obtain⟨m,hm⟩:∃m,N-x=m+1:=⟨N-x-1,by omega⟩
   rw[hm];unfold runN;cases hs:step x s with
   |inl r=>rw[hs] at k;exact k
   |inr s'=>
    rw[hs] at k;rw[k.1,qAN N L step fin Inv h0 h1 n (x+1) s' (by omega) (by omega) k.2,show N-(x+1)=m by omega]
  ·have e:x=N:=by omega
   subst e;rw[gQ];exact h1 n s hi
theorem runN_inv {σ ρ:Type} (step:Nat->σ->ρ⊕σ) (Inv:Nat->σ->Prop) (N:Nat) (h:∀x s s',x<N->Inv x s->step x s= .inr s'->Inv (x+1) s'):
  ∀(k x:Nat) (s s':σ),x+k=N->Inv x s->runN step x k s= .inr s'->Inv N s'
 |0,x,s,s',hx,hi,hr=>by cases hr;exact hx▸hi
 |k+1,x,s,s',hx,hi,hr=>by
  unfold runN at hr;cases hs:step x s with
  |inl r=>rw[hs] at hr;cases hr
  |inr t=>rw[hs] at hr;exact runN_inv step Inv N h k (x+1) t s' (by omega) (h x s t (by omega) hi hs) hr
def findN {ε:Type} (bad:Nat->Option ε):Nat->Nat->ε⊕Unit
 |_,0=> .inr ()
 |x,k+1=>match bad x with
  |some e=> .inl e
  |none=>findN bad (x+1) k
theorem wK {ε:Type} {bad:Nat->Option ε}:∀{k x:Nat},findN bad x k= .inr ()↔∀i,x<=i->i<x+k->bad i=none
 |0,x=>by simp[findN];intro i h1 h2;omega
 |k+1,x=>by
  unfold findN;cases hb:bad x with
  |some e=>simp only[reduceCtorEq,false_iff];intro h;rw[h x (kr _) (by omega)] at hb;cases hb
  |none=>
   simp only[wK (k:=k)];constructor
   ·intro h i h1 h2;by_cases e:i=x
    ·subst e;exact hb
    ·exact h i (by omega) (by omega)
   ·intro h i h1 h2;exact h i (by omega) (by omega)
theorem PS {ε:Type} {bad:Nat->Option ε} {e:ε}:∀{k x:Nat},findN bad x k= .inl e->∃i,x<=i/\i<x+k/\bad i=some e/\∀j,x<=j->j<i->bad j=none
 |0,x,h=>by cases h
 |k+1,x,h=>by
  unfold findN at h;cases hb:bad x with
  |some e'=>rw[hb] at h;cases h;exact⟨x,kr _,by omega,hb,λj h1 h2=>by omega⟩
  |none=>
   rw[hb] at h;obtain⟨i,h1,h2,h3,h4⟩:=PS (k:=k) h;refine⟨i,by omega,by omega,h3,λj a b=>?_⟩;by_cases e':j=x
   ·subst e';exact hb
   ·exact h4 j (by omega) b
theorem qKl {ε:Type} (bad:Nat->Option ε):∀(k x:Nat),runN (λx (_:Unit)=>match bad x with|some e=>(.inl e:ε⊕Unit)|none=> .inr ()) x k ()=findN bad x k
 |0,_=>rfl
 |k+1,x=>by
  unfold runN findN;cases bad x with
  |some e=>rfl
  |none=>exact qKl bad k (x+1)
theorem WH {ε:Type} (N:Nat) (L:Nat->Int->Option (ε⊕Unit)) (bad:Nat->Option ε) (x:Nat) (hx:x<=N) (hN:N<=1000000000)
  (h0:∀n i,x<=i->i<N->L (n+1) (i:Int)=match bad i with|some e=>some (.inl e)|none=>L n ((i+1:Nat):Int))
  (h1:∀n,L (n+1) (N:Int)=some (.inr ())):L FUEL (x:Int)=some (findN bad x (N-x)):=by
 have k:=qAN N (λn (_:Unit) i=>L n i) (λi _=>match bad i with|some e=>(.inl e:ε⊕Unit)|none=> .inr ()) (λr=>r) (λi _=>x<=i)
  (λn i s hi hxi=>by
   have h:=h0 n i hxi hi;cases hb:bad i with
   |some e=>simp only;rw[h,hb]
   |none=>simp only;rw[h,hb];exact⟨rfl,by omega⟩)
  (λn s _=>h1 n) FUEL x () (by rw[FUEL_eq];omega) hx (kr _)
 rw[qKl] at k;exact k
def FT {σ:Type} (f:Nat->σ->σ):Nat->Nat->σ->σ
 |_,0,s=>s
 |x,k+1,s=>FT f (x+1) k (f x s)
theorem runN_fold {σ ρ:Type} (f:Nat->σ->σ):∀(k x:Nat) (s:σ),runN (λx s=>(.inr (f x s):ρ⊕σ)) x k s= .inr (FT f x k s)
 |0,_,_=>rfl
 |k+1,x,s=>by unfold runN FT;exact runN_fold f k (x+1) (f x s)
theorem OM {σ β:Type} (N:Nat) (L:Nat->σ->Int->Option β) (f:Nat->σ->σ) (out:σ->β) (Inv:Nat->σ->Prop) (x:Nat) (hx:x<=N) (hN:N<=1000000000)
  (h0:∀n i s,i<N->Inv i s->L (n+1) s (i:Int)=L n (f i s) ((i+1:Nat):Int)/\Inv (i+1) (f i s))
  (h1:∀n s,Inv N s->L (n+1) s (N:Int)=some (out s)) (s:σ) (hs:Inv x s):L FUEL s (x:Int)=some (out (FT f x (N-x) s))/\Inv N (FT f x (N-x) s):=by
 have k:=qAN N L (λi s=>(.inr (f i s):Unit⊕σ)) (λr=>match r with| .inl _=>out s| .inr s=>out s) Inv (λn i s hi hs=>h0 n i s hi hs) (λn s hs=>h1 n s hs) FUEL x s (by rw[FUEL_eq];omega) hx hs;rw[runN_fold] at k;refine⟨k,?_⟩;exact runN_inv (λi s=>(.inr (f i s):Unit⊕σ)) Inv N (λi s s' hi hs e=>by cases e;exact(h0 0 i s hi hs).2) (N-x) x s _ (by omega) hs (runN_fold f (N-x) x s)
theorem qHp {σ:Type} (f:Nat->σ->σ):∀(k x:Nat) (s:σ),FT f x (k+1) s=f (x+k) (FT f x k s)
 |0,x,s=>rfl
 |k+1,x,s=>by
  rw[FT,qHp f k (x+1) (f x s),FT,show x+1+k=x+(k+1) by omega]
end Go.SL

namespace Go.SL
namespace Saw
def insS (s:Span) (lo hi:Int):Bool:=decide ((lo<=s.A/\lo<=s.B)/\(s.A<=hi/\s.B<=hi))
theorem qOF (s:Span) (lo hi:Int):ZZ s lo hi=some (insS s lo hi):=by
 unfold ZZ PJ insS;have a:=qCe s.A s.B;have b:=qCH s.A s.B;by_cases h1:imin s.A s.B≥lo
 ·rw[ke h1];by_cases h2:imax s.A s.B<=hi
  ·rw[ke h2,ke (by omega)];rfl
  ·rw[kf h2,kf (by omega)];rfl
 ·rw[kf h1,kf (show¬((lo<=s.A/\lo<=s.B)/\(s.A<=hi/\s.B<=hi)) by omega)];rfl
def chkD (d:qF):Int:=
 if d.Kind<1\/6<d.Kind then 10
 else bif empS d.Box.X||(empS d.Box.Y||empS d.Box.Z) then 19
 else bif insS d.Box.X (-600) 600&&(insS d.Box.Y (-600) 600&&insS d.Box.Z 0 20000) then 0 else 9
theorem qPG (s:Span):WR s=some (empS s):=rfl
theorem chkD_eq (d:qF):VJ d=some (chkD d):=by
 unfold VJ TZ XE XA chkD;simp only[qPG,qOF,kd];by_cases h1:d.Kind<1
 ·rw[ke h1,if_pos (.inl h1)];rfl
 rw[kf h1];by_cases h2:d.Kind>6
 ·rw[ke h2,if_pos (.inr h2)];rfl
 rw[kf h2,if_neg (by omega)];cases empS d.Box.X<;>cases empS d.Box.Y<;>cases empS d.Box.Z<;>cases insS d.Box.X (-600) 600<;>cases insS d.Box.Y (-600) 600<;>cases insS d.Box.Z 0 20000<;>rfl
structure VD (d:qF):Prop where
 k1:1<=d.Kind
 k2:d.Kind<=6
 x:d.Box.X.A<d.Box.X.B/\-600<=d.Box.X.A/\d.Box.X.B<=600
 y:d.Box.Y.A<d.Box.Y.B/\-600<=d.Box.Y.A/\d.Box.Y.B<=600
 z:d.Box.Z.A<d.Box.Z.B/\0<=d.Box.Z.A/\d.Box.Z.B<=20000
theorem qPt (d:qF):chkD d=0↔VD d:=by
 unfold chkD;by_cases h1:d.Kind<1\/6<d.Kind
 ·rw[if_pos h1];exact⟨λh=>absurd h (by decide),λh=>by have:=h.k1;have:=h.k2;omega⟩
 rw[if_neg h1];cases hx:empS d.Box.X with
 |true=>exact⟨λh=>absurd (show(19:Int)=0 from h) (by decide),λh=>by have:=h.x;have:=kW hx;omega⟩
 |false=>
 cases hy:empS d.Box.Y with
 |true=>exact⟨λh=>absurd (show(19:Int)=0 from h) (by decide),λh=>by have:=h.y;have:=kW hy;omega⟩
 |false=>
 cases hz:empS d.Box.Z with
 |true=>exact⟨λh=>absurd (show(19:Int)=0 from h) (by decide),λh=>by have:=h.z;have:=kW hz;omega⟩
 |false=>
 have ex:=of_decide_eq_false hx;have ey:=of_decide_eq_false hy;have ez:=of_decide_eq_false hz;unfold insS;by_cases i1:(-600<=d.Box.X.A/\-600<=d.Box.X.B)/\d.Box.X.A<=600/\d.Box.X.B<=600
 ·rw[ke i1];by_cases i2:(-600<=d.Box.Y.A/\-600<=d.Box.Y.B)/\d.Box.Y.A<=600/\d.Box.Y.B<=600
  ·rw[ke i2];by_cases i3:(0<=d.Box.Z.A/\0<=d.Box.Z.B)/\d.Box.Z.A<=20000/\d.Box.Z.B<=20000
   ·rw[ke i3];exact⟨λ_=>⟨by omega,by omega,by omega,by omega,by omega⟩,λ_=>rfl⟩
   ·rw[kf i3];exact⟨λh=>absurd h (by decide),λh=>by have:=h.z;omega⟩
  ·rw[kf i2];exact⟨λh=>absurd (show(9:Int)=0 from h) (by decide),λh=>by have:=h.y;omega⟩
 ·rw[kf i1];exact⟨λh=>absurd (show(9:Int)=0 from h) (by decide),λh=>by have:=h.x;omega⟩
def badD (d:qF):Option Int:=bif chkD d !=0 then some (chkD d) else none
def VM (l:List qF):Int:=if 64<l.length then 4 else match findE badD l with| .inl e=>e| .inr _=>0
theorem qLF (l:List qF):KY l=some (VM l):=by
 unfold KY VM;by_cases h:64<l.length
 ·rw[if_pos h,ke (by omega)];rfl
 rw[if_neg h,kf (by omega)];have L:yV l FUEL 0=some (findE badD l):=by
  refine VK l (yV l) badD (by omega) (λn x hx=>?_) (λn=>?_)
  ·rw[yV,ke (by omega),qY (by omega)];simp only[ko,ks,zM (show x<4611686018427387904 by omega),chkD_eq,kd,badD];cases chkD (l.getD x dd) !=0<;>rfl
  ·rw[yV,kf (by omega)];rfl
 rw[L];simp only[ku,kd];cases findE badD l<;>rfl
theorem qJ3 {d:qF}:badD d=none↔VD d:=by
 rw[<-qPt];unfold badD;by_cases h:chkD d=0
 ·rw[h];simp
 ·rw[show(chkD d !=0)=true by rw[bne_iff_ne];exact h];simp[h]
theorem VP (l:List qF):VM l=0↔l.length<=64/\∀d∈l,VD d:=by
 unfold VM;by_cases h:64<l.length
 ·rw[if_pos h];exact⟨λh=>absurd h (by decide),λh=>by omega⟩
 rw[if_neg h];cases hf:findE badD l with
 |inl e=>
  obtain⟨a,ha,hb⟩:=qAV hf;simp only;have hn:e≠0:=by
   unfold badD at hb;cases hc:chkD a !=0 with
   |true=>rw[hc] at hb;cases hb;exact bne_iff_ne.1 hc
   |false=>rw[hc] at hb;cases hb
  exact⟨λh=>absurd h hn,λh=>by rw[qJ3.2 (h.2 a ha)] at hb;cases hb⟩
 |inr u=>exact⟨λ_=>⟨by omega,λd hd=>qJ3.1 (FZ.1 hf d hd)⟩,λ_=>rfl⟩
theorem qPs (b:Box):qBU b=some (empS b.X||(empS b.Y||empS b.Z)):=by
 unfold qBU GE empS;show(bif decide (b.X.B<=b.X.A) then _ else bif decide (b.Y.B<=b.Y.A) then _ else some (decide (b.Z.B<=b.Z.A)))=_;cases decide (b.X.B<=b.X.A)<;>cases decide (b.Y.B<=b.Y.A)<;>rfl
theorem qM5 {s:Span} (h:empS s=false) (a b:Int):qAk s a b=some (insS s a b):=by
 have h':¬s.B<=s.A:=of_decide_eq_false h;unfold qAk qB9 insS;by_cases c1:a<=s.A
 ·rw[ke c1];simp only[ko]
  congr 1
  rw[decide_eq_decide];omega
 ·rw[kf c1,kf (show¬((a<=s.A/\a<=s.B)/\(s.A<=b/\s.B<=b)) from λq=>c1 q.1.1)];rfl
theorem qOK {b:Box} (h:(empS b.X||(empS b.Y||empS b.Z))=false):CG b=some (insS b.X (-600) 600&&(insS b.Y (-600) 600&&insS b.Z 0 20000)):=by
 have h1:empS b.X=false:=by cases e:empS b.X with|false=>rfl|true=>rw[e] at h;cases h
 have h2:empS b.Y=false:=by cases e:empS b.Y with|false=>rfl|true=>rw[h1,e] at h;cases h
 have h3:empS b.Z=false:=by cases e:empS b.Z with|false=>rfl|true=>rw[h1,h2,e] at h;cases h
 unfold CG TR;simp only[qM5 h1,qM5 h2,qM5 h3,kd];cases insS b.X (-600) 600<;>cases insS b.Y (-600) 600<;>rfl
theorem qPH (l:List qF):qBI l=some (VM l):=by
 unfold qBI VM;by_cases h:64<l.length
 ·rw[if_pos h,ke (by omega)];rfl
 rw[if_neg h,kf (by omega)];have L:QZ l FUEL 0=some (findE badD l):=by
  refine VK l (QZ l) badD (by omega) (λn x hx=>?_) (λn=>?_)
  ·rw[QZ,ke (by omega),qY (by omega)];simp only[ko,ks,zM (show x<4611686018427387904 by omega),MQ,qPs,kd];rw[qY (by omega)];unfold badD chkD;by_cases h1:(l.getD x dd).Kind<1
   ·rw[ke h1,if_pos (.inl h1)];rfl
   rw[kf h1];by_cases h2:(l.getD x dd).Kind>6
   ·rw[ke h2,if_pos (.inr h2)];rfl
   rw[kf h2,if_neg (by omega)];simp only[ku,ko];cases he:(empS (l.getD x dd).Box.X||(empS (l.getD x dd).Box.Y||empS (l.getD x dd).Box.Z)) with
   |true=>rfl
   |false=>
    rw[qOK he];cases (insS (l.getD x dd).Box.X (-600) 600&&(insS (l.getD x dd).Box.Y (-600) 600&&insS (l.getD x dd).Box.Z 0 20000))<;>rfl
  ·rw[QZ,kf (by omega)];rfl
 rw[L];simp only[ku,kd];cases findE badD l<;>rfl
theorem OY :law15_awake=some true:=by unfold law15_awake;rfl
def rgs (s:Scan) (x:Nat):Ring:=s.Rings.getD x dd
def errR (s:Scan) (x:Nat):Option Int:=
 bif ZI (rgs s x) !=0 then some (ZI (rgs s x))
 else bif (decide (x=0)&&((rgs s x).Z !=0))||(decide (0<x)&&decide ((rgs s x).Z<=(rgs s (x-1)).Z)) then some 11
 else bif ((rgs s x).Read.length:Int) !=(((rgs s 0).Read.length:Nat):Int) then some 19 else none
def errZ (z:Int) (d:qF):Option Int:=bif decide (d.Box.Z.B>z) then some 9 else none
def endZ (s:Scan):Int:=(rgs s (s.Rings.length-1)).Z
def GH (s:Scan):Int:=
 if s.Rings.length<2 then 3 else if 24<s.Rings.length then 4
 else match findN (errR s) 0 s.Rings.length with
  | .inl e=>e
  | .inr _=>if VM s.Defects≠0 then VM s.Defects else match findE (errZ (endZ s)) s.Defects with| .inl e=>e| .inr _=>0
theorem qPX (s:Scan) (z:Int) (L:Nat->Int->Option (Int⊕Unit)) (hl:s.Defects.length<=64) (h0:∀n x,x<s.Defects.length->L (n+1) ((x:Nat):Int)=bif decide ((s.Defects.getD x dd).Box.Z.B>z) then some (.inl 9) else L n ((x+1:Nat):Int)) (h1:∀n,L (n+1) (s.Defects.length:Int)=some (.inr ())):
  L FUEL 0=some (findE (errZ z) s.Defects):=by
 refine VK s.Defects L (errZ z) (by omega) (λn x hx=>?_) h1;rw[h0 n x hx];unfold errZ;cases decide ((s.Defects.getD x dd).Box.Z.B>z)<;>rfl
theorem qDb (s:Scan):jU s=some (GH s):=by
 unfold jU GH;by_cases h2:s.Rings.length<2
 ·rw[if_pos h2,ke (by omega)];rfl
 rw[if_neg h2,kf (by omega)];by_cases h24:24<s.Rings.length
 ·rw[if_pos h24,ke (by omega)];rfl
 rw[if_neg h24,kf (by omega)];have L:wL s FUEL 0=some (findN (errR s) 0 s.Rings.length):=by
  refine WH s.Rings.length (wL s) (errR s) 0 (by omega) (by omega) (λn x _ hx=>?_) (λn=>?_)
  ·rw[wL,ke (by omega),qY (by omega)];simp only[ko,ks,gH,BE,kd,ZV,zM (show x<4611686018427387904 by omega),qY (i:=0) (n:=s.Rings.length) (by omega)];unfold errR rgs;cases hc:ZI (s.Rings.getD x dd) !=0 with
   |true=>rfl
   |false=>
    simp only[ku];by_cases hx0:x=0
    ·subst hx0;rw[show(((0:Nat):Int)==0)=true from rfl,kf (show¬((0:Nat):Int)>0 by omega)];cases (s.Rings.getD 0 dd).Z !=0 with
     |true=>rfl
     |false=>cases (((s.Rings.getD 0 dd).Read.length:Nat):Int) !=(((s.Rings.getD 0 dd).Read.length:Nat):Int)<;>rfl
    ·rw[show(((x:Nat):Int)==0)=false by rw[un];omega,ke (show((x:Nat):Int)>0 by omega),qQm (show-9223372036854775808<=(x:Int)-1 by omega) (by omega),qY (by omega),kf hx0,ke (show 0<x by omega),show((x:Int)-1).toNat=x-1 by omega];cases decide ((s.Rings.getD x dd).Z<=(s.Rings.getD (x-1) dd).Z) with
     |true=>rfl
     |false=>cases ((s.Rings.getD x dd).Read.length:Int) !=(((s.Rings.getD 0 dd).Read.length:Nat):Int)<;>rfl
  ·rw[wL,kf (by omega)];rfl
 rw[L];simp only[ku,kd];cases findN (errR s) 0 s.Rings.length with
 |inl e=>rfl
 |inr u=>
  simp only[Sum.elim_inr,qLF,kd];by_cases h13:VM s.Defects=0
  ·rw[h13,if_neg (by simp)];simp only[kP,ku];rw[qR (by omega),qY (by omega)];have:=qPX s (endZ s) (YE s) ((VP _).1 h13).1 (λn x hx=>by
    rw[YE,ke (by omega),qY (by omega)];simp only[ko,ks,zM (show x<4611686018427387904 by have:=((VP _).1 h13).1;omega)];rw[qR (by omega),show((s.Rings.length:Int)-1).toNat=s.Rings.length-1 by omega];rfl) (λn=>by rw[YE,kf (by omega)];rfl)
   rw[this];simp only[ko,kd];cases findE (errZ (endZ s)) s.Defects<;>rfl
  ·rw[show(VM s.Defects !=0)=true by rw[bne_iff_ne];exact h13,if_pos h13];rfl
def qIf {ε σ:Type} (err:Nat->Option ε) (g:Nat->σ) (x:Nat) (_:σ):ε⊕σ:=match err x with|some e=> .inl e|none=> .inr (g x)
theorem qNg {ε σ:Type} (err:Nat->Option ε) (g:Nat->σ):∀(k x:Nat) (s:σ),runN (qIf err g) x k s=Sum.elim Sum.inl (λ_=>Sum.inr (if k=0 then s else g (x+k-1))) (findN err x k)
 |0,x,s=>by simp[runN,findN]
 |k+1,x,s=>by
  unfold runN findN qIf;cases err x with
  |some e=>rfl
  |none=>
   simp only;have ih:=qNg err g k (x+1) (g x);unfold qIf at ih;rw[ih];cases findN err (x+1) k with
   |inl e=>rfl
   |inr u=>
    simp only[Nat.add_eq_zero_iff,Nat.one_ne_zero,and_false,if_false,Sum.elim_inr]
    congr 1
    by_cases hk:k=0
    ·subst hk;rw[if_pos rfl];rfl
    ·rw[if_neg hk];congr 1;omega
def fewB (s:Scan):Bool:=decide (s.Rings.length<=40/\s.Defects.length<=100/\∀i,i<s.Rings.length->(rgs s i).Read.length<=60)
theorem qRf (s:Scan):ES s=some (fewB s):=by
 unfold ES;by_cases h1:s.Rings.length<=40
 ·rw[kf (by omega)];by_cases h2:s.Defects.length<=100
  ·rw[kf (by omega)];have L:JE s FUEL 0=some (findN (λi=>if 60<(rgs s i).Read.length then some false else none) 0 s.Rings.length):=by
    refine WH s.Rings.length (JE s) _ 0 (by omega) (by omega) (λn x _ hx=>?_) (λn=>?_)
    ·rw[JE,ke (by omega),qY (by omega)];simp only[ko,ks,zM (show x<4611686018427387904 by omega)];unfold rgs;by_cases h:60<(s.Rings.getD x dd).Read.length
     ·rw[if_pos h,ke (by omega)];rfl
     ·rw[if_neg h,kf (by omega)];rfl
    ·rw[JE,kf (by omega)];rfl
   simp only[ku,FK,L,kd];cases hf:findN (λi=>if 60<(rgs s i).Read.length then some false else none) 0 s.Rings.length with
   |inl e=>
    obtain⟨i,_,h4,h5,_⟩:=PS hf;have h6:60<(rgs s i).Read.length:=by
     by_cases h:60<(rgs s i).Read.length
     ·exact h
     ·rw[if_neg h] at h5;cases h5
    rw[if_pos h6] at h5;cases h5;have:fewB s=false:=kf λh=>by have:=h.2.2 i (by omega);omega
    rw[this];rfl
   |inr u=>
    have h:=wK.1 hf;have:fewB s=true:=ke ⟨h1,h2,λi hi=>by
     have:=h i (by omega) (by omega);by_cases h:60<(rgs s i).Read.length
     ·rw[if_pos h] at this;cases this
     ·omega⟩
    rw[this];rfl
  ·rw[ke (by omega)];have:fewB s=false:=kf λh=>h2 h.2.1;rw[this];rfl
 ·rw[ke (by omega)];have:fewB s=false:=kf λh=>h1 h.1;rw[this];rfl
theorem qQ4 {s:Scan} (h:fewB s=true):s.Rings.length<=40/\s.Defects.length<=100/\∀i,i<s.Rings.length->(rgs s i).Read.length<=60:=kW h
theorem qQd {s:Scan} {x:Nat} (h:errR s x=none):wM (rgs s x)/\(x=0->(rgs s x).Z=0)/\(0<x->(rgs s (x-1)).Z<(rgs s x).Z)/\(rgs s x).Read.length=(rgs s 0).Read.length:=by
 unfold errR at h;cases h1:ZI (rgs s x) !=0 with
 |true=>rw[h1] at h;cases h
 |false=>
  rw[h1] at h;simp only[ku] at h;cases h2:(decide (x=0)&&((rgs s x).Z !=0))||(decide (0<x)&&decide ((rgs s x).Z<=(rgs s (x-1)).Z)) with
  |true=>rw[h2] at h;cases h
  |false=>
   rw[h2] at h;simp only[ku] at h;cases h3:((rgs s x).Read.length:Int) !=(((rgs s 0).Read.length:Nat):Int) with
   |true=>rw[h3] at h;cases h
   |false=>
    simp only[uZ,Bool.and_eq_false_iff,decide_eq_false_iff_not,bne_eq_false_iff_eq] at h1 h2 h3;exact⟨(TD _).1 h1,λhx=>h2.1.resolve_left (λq=>q hx),λhx=>by rcases h2.2 with q|q<;>omega,by omega⟩
structure V15 (s:Scan):Prop where
 two:2<=s.Rings.length
 many:s.Rings.length<=24
 good:∀x,x<s.Rings.length->wM (rgs s x)
 zero:(rgs s 0).Z=0
 up:∀x,0<x->x<s.Rings.length->(rgs s (x-1)).Z<(rgs s x).Z
 same:∀x,x<s.Rings.length->(rgs s x).Read.length=(rgs s 0).Read.length
 def13:VM s.Defects=0
 ends:∀d∈s.Defects,d.Box.Z.B<=endZ s
theorem qKa {z:Int} {d:qF}:errZ z d=none↔d.Box.Z.B<=z:=by
 unfold errZ;by_cases h:d.Box.Z.B>z
 ·rw[ke h];simp;omega
 ·rw[kf h];simp;omega
theorem chk15_zero (s:Scan):GH s=0↔V15 s:=by
 unfold GH;by_cases h2:s.Rings.length<2
 ·rw[if_pos h2];exact⟨λh=>absurd h (by decide),λh=>by have:=h.two;omega⟩
 rw[if_neg h2];by_cases h24:24<s.Rings.length
 ·rw[if_pos h24];exact⟨λh=>absurd h (by decide),λh=>by have:=h.many;omega⟩
 rw[if_neg h24];cases hf:findN (errR s) 0 s.Rings.length with
 |inl e=>
  obtain⟨i,_,hi,he,_⟩:=PS hf;simp only;refine⟨λh=>?_,λh=>?_⟩
  ·subst h;unfold errR at he;cases h1:ZI (rgs s i) !=0 with
   |true=>rw[h1] at he;simp only[ko,uf] at he;rw[he] at h1;cases h1
   |false=>
    rw[h1] at he;simp only[ku] at he;cases h2:(decide (i=0)&&((rgs s i).Z !=0))||(decide (0<i)&&decide ((rgs s i).Z<=(rgs s (i-1)).Z))<;>rw[h2] at he<;>simp only[ko,ku] at he
    ·cases h3:((rgs s i).Read.length:Int) !=(((rgs s 0).Read.length:Nat):Int)<;>rw[h3] at he<;>cases he
    ·cases he
  ·have hi':i<s.Rings.length:=by omega
   exfalso;have:errR s i=none:=by
    unfold errR;rw[show ZI (rgs s i)=0 from(TD _).2 (h.good i hi'),h.same i hi'];simp only[kP,ku];have:((decide (i=0)&&((rgs s i).Z !=0))||(decide (0<i)&&decide ((rgs s i).Z<=(rgs s (i-1)).Z)))=false:=by
     by_cases h0:i=0
     ·subst h0;rw[h.zero];simp
     ·rw[kf h0,kf (show¬(rgs s i).Z<=(rgs s (i-1)).Z by have:=h.up i (by omega) hi';omega)];simp
    rw[this];rfl
   rw[this] at he;cases he
 |inr u=>
  have hn:=wK.1 hf;simp only;by_cases h13:VM s.Defects=0
  ·rw[if_neg (by simpa using h13)];cases hz:findE (errZ (endZ s)) s.Defects with
   |inl e=>
    simp only;obtain⟨d,hd,he⟩:=qAV hz;refine⟨λh=>?_,λh=>?_⟩
    ·subst h;unfold errZ at he;cases h3:decide (d.Box.Z.B>endZ s)<;>rw[h3] at he<;>cases he
    ·rw[qKa.2 (h.ends d hd)] at he;cases he
   |inr u=>
    have hz':=FZ.1 hz;have e:∀x,x<s.Rings.length->_:=λx hx=>qQd (hn x (by omega) (by omega));exact⟨λ_=>⟨by omega,by omega,λx hx=>(e x hx).1,(e 0 (by omega)).2.1 rfl,λx h0 hx=>(e x hx).2.2.1 h0,λx hx=>(e x hx).2.2.2,h13,λd hd=>qKa.1 (hz' d hd)⟩,λ_=>rfl⟩
  ·rw[if_pos h13];exact⟨λh=>absurd h h13,λh=>absurd h.def13 h13⟩
noncomputable def secR (r:Ring) (limit most:Int):qB×Int:=bif rg_canFill (rg_cleaned r limit) most then ofR (fill (rg_cleaned r limit)) else(nilS,30)
theorem qQ7 {a:Ring} (g:wM a) {most:Int} (h:rg_canFill a most=true):(fill a).length=a.Read.length:=by
 refine(UM a g ?_).1;unfold rg_canFill at h;rw[kp] at h;have:=h.1;simp only[uz,decide_eq_false_iff_not] at this;omega
theorem sec_eq (r:Ring) (g:wM r) (limit most:Int):KW r limit most=some (secR r limit most)/\qD3 r limit most=some ((secR r limit most).1,(secR r limit most).2==0):=by
 have g':=qIu r g limit;have hi:=g.hi;unfold KW qD3 secR;rw[qKT r limit (by omega),qNe r limit (by omega)];simp only[kd];rw[show(Ring.mk (rg_cleaned r limit).Z (rg_cleaned r limit).Read)=rg_cleaned r limit from rfl,qJu _ g',qK1 _ g'];simp only[kd];cases hc:rg_canFill (rg_cleaned r limit) most with
 |false=>exact⟨rfl,rfl⟩
 |true=>
  simp only[ko,kP,ku];have hl:(fill (rg_cleaned r limit)).length<=40:=by
   rw[qQ7 g' hc];have:=g'.hi;omega
  rw[(Of_eq _ hl).1,(Of_eq _ hl).2];exact⟨rfl,rfl⟩
theorem qJC (r:Ring) (limit most:Int):VS (secR r limit most).1:=by
 unfold secR;cases rg_canFill (rg_cleaned r limit) most with
 |false=>exact FV
 |true=>exact ofR_VS _
noncomputable def secI (s:Scan) (l m:Int) (i:Nat):qB×Int:=secR (rgs s i) l m
noncomputable def XO (s:Scan) (l m:Int) (i:Nat):qB:=VU (secI s l m i).1 (secI s l m (i+1)).1
noncomputable def slI (s:Scan) (l m:Int) (i:Nat):qT:=⟨(rgs s (i+1)).Z-(rgs s i).Z,XO s l m i⟩
noncomputable def er1 (s:Scan) (l m:Int) (i:Nat):Option (List qT×Int):=if(secI s l m i).2≠0 then some ([],30) else none
noncomputable def er2 (s:Scan) (l m:Int) (i:Nat):Option (List qT×Int):=if(XO s l m i).Rows=[] then some ([],30) else none
noncomputable def NK (s:Scan) (l m:Int):List qT×Int:=
 if GH s≠0 then([],GH s)
 else match findN (er1 s l m) 0 s.Rings.length with
  | .inl e=>e
  | .inr _=>match findN (er2 s l m) 0 (s.Rings.length-1) with
   | .inl e=>e
   | .inr _=>((List.range (s.Rings.length-1)).map (slI s l m),0)
theorem meet_at (s:Scan) (l m:Int) (i:Nat):XU (secI s l m i).1 (secI s l m (i+1)).1=some (XO s l m i)/\qDq (secI s l m i).1 (secI s l m (i+1)).1=some (XO s l m i):=by
 have h:=Meet_eq (secI s l m i).1 (secI s l m (i+1)).1;rw[qDz (show VS (secI s l m i).1 from qJC _ _ _),qDz (show VS (secI s l m (i+1)).1 from qJC _ _ _)] at h;exact h
theorem rows0 (x:qB):((x.Rows.length:Int)==0)=decide (x.Rows=[]):=by
 cases hx:x.Rows with
 |nil=>rfl
 |cons a l=>rw[kf (by simp)];rw[un];simp;omega
def ZP {α:Type} (f:Nat->α) (z:α) (N x:Nat):List α:=(List.range N).map (λi=>if i<x then f i else z)
theorem qBj {α:Type} (f:Nat->α) (z:α) (N x:Nat):(ZP f z N x).length=N:=by simp[ZP]
theorem qIC {α:Type} (f:Nat->α) (z:α) (N:Nat):ZP f z N 0=List.replicate N z:=by
 refine gw (by simp[ZP]) λi h1 h2=>?_;simp[ZP]
theorem qJX {α:Type} (f:Nat->α) (z:α) (N:Nat):ZP f z N N=(List.range N).map f:=by
 refine gw (by simp[ZP]) λi h1 h2=>?_;simp only[ZP,ul,ur] at h1;simp only[ZP,List.getElem_map,List.getElem_range,if_pos h1]
theorem partF_set {α:Type} (f:Nat->α) (z:α) (N x:Nat):(ZP f z N x).set x (f x)=ZP f z N (x+1):=by
 refine gw (by simp[ZP]) λi h1 h2=>?_;by_cases h:i=x
 ·subst h;simp[ZP]
 ·rw[List.getElem_set_ne (by omega)];simp only[ZP,List.getElem_map,List.getElem_range];by_cases h3:i<x
  ·rw[if_pos h3,if_pos (by omega)]
  ·rw[if_neg h3,if_neg (by omega)]
theorem qJ1 {α ρ:Type} (N:Nat) (L:Nat->List α->Int->Option (ρ⊕List α)) (err:Nat->Option ρ) (f:Nat->α) (z:α) (hN:N<=1000000000)
  (h0:∀n x l,x<N->l.length=N->L (n+1) l (x:Int)=match err x with|some e=>some (.inl e)|none=>L n (l.set x (f x)) ((x+1:Nat):Int))
  (h1:∀n l,l.length=N->L (n+1) l (N:Int)=some (.inr l)):
  L FUEL (List.replicate N z) 0=some (Sum.elim Sum.inl (λ_=>Sum.inr ((List.range N).map f)) (findN err 0 N)):=by
 have h:=qAN N L (qIf err (λx=>ZP f z N (x+1))) (λr=>r) (λx l=>l=ZP f z N x) (λn x l hx hi=>by
   subst hi;have e:=h0 n x _ hx (qBj f z N x);unfold qIf;cases he:err x with
   |some q=>rw[he] at e;exact e
   |none=>rw[he] at e;simp only[partF_set] at e;exact⟨e,rfl⟩)
  (λn l hi=>h1 n l (by rw[hi,qBj])) FUEL 0 (ZP f z N 0) (by rw[FUEL_eq];omega) (by omega) rfl
 rw[qIC,qNg,gF] at h;rw[show((0:Nat):Int)=0 from rfl] at h;rw[h];cases findN err 0 N with
 |inl e=>rfl
 |inr u=>
  simp only[Sum.elim_inr];by_cases hn:N=0
  ·subst hn;rfl
  ·rw[if_neg hn,show 0+N-1+1=N by omega,qJX]
theorem qMw (s:Scan) (l m:Int):yW s l m=some (NK s l m):=by
 unfold yW NK;rw[qDb];simp only[kd];by_cases hc:¬GH s=0
 ·rw[show(GH s !=0)=true from bne_iff_ne.2 hc,if_pos hc];rfl
 have hc:GH s=0:=Classical.not_not.1 hc;rw[hc,if_neg (by simp)];simp only[kP,ku];have v:=(chk15_zero s).1 hc;have v2:=v.two;have v24:=v.many;rw[qIz (by omega) (by omega)];have L1:=qJ1 s.Rings.length (JZ s l m) (er1 s l m) (λi=>(secI s l m i).1) (qB.mk 0 ([]:List Span)) (by omega) (λn x t hx ht=>by
  rw[JZ,ke (by omega),qY (by omega)];simp only[ko,ks];rw[(sec_eq (s.Rings.getD x dd) (v.good x hx) l m).1];simp only[kd];unfold er1 secI rgs;by_cases he:(secR (s.Rings.getD x dd) l m).2=0
  ·rw[he,if_neg (by simp),qY (by omega),zM (by omega)];rfl
  ·rw[if_pos he,show((secR (s.Rings.getD x dd) l m).2 !=0)=true from bne_iff_ne.2 he];rfl) (λn t ht=>by
  rw[JZ,kf (by omega)];rfl)
 rw[ks,L1];simp only[ko,kd];cases findN (er1 s l m) 0 s.Rings.length with
 |inl e=>rfl
 |inr u=>
  simp only[Sum.elim_inr];rw[qR (by omega),show(s.Rings.length:Int)-1=((s.Rings.length-1:Nat):Int) by omega,qIz (by omega) (by omega),ks];have L2:=qJ1 (s.Rings.length-1) (YG s ((List.range s.Rings.length).map λi=>(secI s l m i).1)) (er2 s l m) (slI s l m) (qT.mk 0 (qB.mk 0 ([]:List Span))) (by omega) (λn x t hx ht=>by
   have gm:∀j,j<s.Rings.length->((List.range s.Rings.length).map λi=>(secI s l m i).1).getD j dd=(secI s l m j).1:=λj hj=>by
    rw[ka,kD,gf hj];rfl
   have hl:((List.range s.Rings.length).map λi=>(secI s l m i).1).length=s.Rings.length:=by simp
   rw[YG,qR (n:=(s.Rings.length:Int)-1) (by omega),show(s.Rings.length:Int)-1=((s.Rings.length-1:Nat):Int) by omega,ks,ke (by omega),hl,zM (show x<4611686018427387904 by omega),qY (by omega),qY (i:=((x+1:Nat):Int)) (by omega)];simp only[ko,ks];rw[gm x (by omega),gm (x+1) (by omega),(meet_at s l m x).1];simp only[kd];rw[rows0];unfold er2;by_cases he:(XO s l m x).Rows=[]
   ·rw[ke he,if_pos he];rfl
   ·rw[kf he,if_neg he,qY (by omega)];have g1:=(v.good x (by omega)).z0;have g2:=(v.good x (by omega)).z1;have g3:=(v.good (x+1) (by omega)).z0;have g4:=(v.good (x+1) (by omega)).z1;rw[show(s.Rings.getD (x+1) dd).Z=(rgs s (x+1)).Z from rfl,show(s.Rings.getD x dd).Z=(rgs s x).Z from rfl,qR (by omega)];rfl) (λn t ht=>by
   rw[YG,qR (n:=(s.Rings.length:Int)-1) (by omega),show(s.Rings.length:Int)-1=((s.Rings.length-1:Nat):Int) by omega,ks,kf (by omega)];rfl)
  rw[L2];simp only[ko,kd];cases findN (er2 s l m) 0 (s.Rings.length-1) with
  |inl e=>rfl
  |inr u=>rfl
noncomputable def gB (s:Scan) (l m:Int) (x:Nat):List qT×Int×List Span:=((List.range x).map (slI s l m),(secI s l m x).1.Low,(secI s l m x).1.Rows)
end Saw
end Go.SL

/- Plain mathematics that all seats use: loops over an index. -/
import Derived.Test.YthbamnkheinbgaaGreatDoorSMa10
import Derived.Test.YthbamnkheinbgaaGreatDoorSMa8
set_option linter.unusedVariables false
set_option linter.unusedSimpArgs false
namespace Go.SL
def runN {σ ρ:Type} (step:Nat->σ->ρ⊕σ):Nat->Nat->σ->ρ⊕σ
 |_,0,s=> .inr s
 |x,k+1,s=>match step x s with
  | .inl r=> .inl r
  | .inr s'=>runN step (x+1) k s'
theorem LZ {σ ρ β:Type} (N:Nat) (L:Nat->σ->Int->Option β) (step:Nat->σ->ρ⊕σ) (fin:ρ⊕σ->β) (Inv:Nat->σ->Prop)
  (h0:∀n x s,x<N->Inv x s->match step x s with| .inl r=>L (n+1) s (x:Int)=some (fin (.inl r))| .inr s'=>L (n+1) s (x:Int)=L n s' ((x+1:Nat):Int)/\Inv (x+1) s')
  (h1:∀n s,Inv N s->L (n+1) s (N:Int)=some (fin (.inr s))):
  ∀(n x:Nat) (s:σ),N<x+n->x<=N->Inv x s->L n s (x:Int)=some (fin (runN step x (N-x) s))
 |0,x,s,hn,hx,_=>by omega
 |n+1,x,s,hn,hx,hi=>by
  by_cases h:x<N
  ·have k:=h0 n x s h hi;obtain⟨m,hm⟩:∃m,N-x=m+1:=⟨N-x-1,by omega⟩
   rw[hm];unfold runN;cases hs:step x s with
   |inl r=>rw[hs] at k;exact k
   |inr s'=>
    rw[hs] at k;rw[k.1,LZ N L step fin Inv h0 h1 n (x+1) s' (by omega) (by omega) k.2,show N-(x+1)=m by omega]
  ·have e:x=N:=by omega
   subst e;rw[Nat.sub_self];exact h1 n s hi
theorem runN_inv {σ ρ:Type} (step:Nat->σ->ρ⊕σ) (Inv:Nat->σ->Prop) (N:Nat) (h:∀x s s',x<N->Inv x s->step x s= .inr s'->Inv (x+1) s'):
  ∀(k x:Nat) (s s':σ),x+k=N->Inv x s->runN step x k s= .inr s'->Inv N s'
 |0,x,s,s',hx,hi,hr=>by cases hr;exact hx▸hi
 |k+1,x,s,s',hx,hi,hr=>by
  unfold runN at hr;cases hs:step x s with
  |inl r=>rw[hs] at hr;cases hr
  |inr t=>rw[hs] at hr;exact runN_inv step Inv N h k (x+1) t s' (by omega) (h x s t (by omega) hi hs) hr
def findN {ε:Type} (bad:Nat->Option ε):Nat->Nat->ε⊕Unit
 |_,0=> .inr ()
 |x,k+1=>match bad x with
  |some e=> .inl e
  |none=>findN bad (x+1) k
theorem KJ {ε:Type} {bad:Nat->Option ε}:∀{k x:Nat},findN bad x k= .inr ()↔∀i,x<=i->i<x+k->bad i=none
 |0,x=>by simp[findN];intro i h1 h2;omega
 |k+1,x=>by
  unfold findN;cases hb:bad x with
  |some e=>simp only[reduceCtorEq,false_iff];intro h;rw[h x (kr _) (by omega)] at hb;cases hb
  |none=>
   simp only[KJ (k:=k)];constructor
   ·intro h i h1 h2;by_cases e:i=x
    ·subst e;exact hb
    ·exact h i (by omega) (by omega)
   ·intro h i h1 h2;exact h i (by omega) (by omega)
theorem AJ {ε:Type} {bad:Nat->Option ε} {e:ε}:∀{k x:Nat},findN bad x k= .inl e->∃i,x<=i/\i<x+k/\bad i=some e/\∀j,x<=j->j<i->bad j=none
 |0,x,h=>by cases h
 |k+1,x,h=>by
  unfold findN at h;cases hb:bad x with
  |some e'=>rw[hb] at h;cases h;exact⟨x,kr _,by omega,hb,λj h1 h2=>by omega⟩
  |none=>
   rw[hb] at h;obtain⟨i,h1,h2,h3,h4⟩:=AJ (k:=k) h;refine⟨i,by omega,by omega,h3,λj a b=>?_⟩;by_cases e':j=x
   ·subst e';exact hb
   ·exact h4 j (by omega) b
theorem qDX {ε:Type} (bad:Nat->Option ε):∀(k x:Nat),runN (λx (_:Unit)=>match bad x with|some e=>(.inl e:ε⊕Unit)|none=> .inr ()) x k ()=findN bad x k
 |0,_=>rfl
 |k+1,x=>by
  unfold runN findN;cases bad x with
  |some e=>rfl
  |none=>exact qDX bad k (x+1)
theorem TH {ε:Type} (N:Nat) (L:Nat->Int->Option (ε⊕Unit)) (bad:Nat->Option ε) (x:Nat) (hx:x<=N) (hN:N<=1000000000)
  (h0:∀n i,x<=i->i<N->L (n+1) (i:Int)=match bad i with|some e=>some (.inl e)|none=>L n ((i+1:Nat):Int))
  (h1:∀n,L (n+1) (N:Int)=some (.inr ())):L FUEL (x:Int)=some (findN bad x (N-x)):=by
 have k:=LZ N (λn (_:Unit) i=>L n i) (λi _=>match bad i with|some e=>(.inl e:ε⊕Unit)|none=> .inr ()) (λr=>r) (λi _=>x<=i)
  (λn i s hi hxi=>by
   have h:=h0 n i hxi hi;cases hb:bad i with
   |some e=>simp only;rw[h,hb]
   |none=>simp only;rw[h,hb];exact⟨rfl,by omega⟩)
  (λn s _=>h1 n) FUEL x () (by rw[jA];omega) hx (kr _)
 rw[qDX] at k;exact k
def qCE {σ:Type} (f:Nat->σ->σ):Nat->Nat->σ->σ
 |_,0,s=>s
 |x,k+1,s=>qCE f (x+1) k (f x s)
theorem runN_fold {σ ρ:Type} (f:Nat->σ->σ):∀(k x:Nat) (s:σ),runN (λx s=>(.inr (f x s):ρ⊕σ)) x k s= .inr (qCE f x k s)
 |0,_,_=>rfl
 |k+1,x,s=>by unfold runN qCE;exact runN_fold f k (x+1) (f x s)
theorem EJ {σ β:Type} (N:Nat) (L:Nat->σ->Int->Option β) (f:Nat->σ->σ) (out:σ->β) (Inv:Nat->σ->Prop) (x:Nat) (hx:x<=N) (hN:N<=1000000000)
  (h0:∀n i s,i<N->Inv i s->L (n+1) s (i:Int)=L n (f i s) ((i+1:Nat):Int)/\Inv (i+1) (f i s))
  (h1:∀n s,Inv N s->L (n+1) s (N:Int)=some (out s)) (s:σ) (hs:Inv x s):L FUEL s (x:Int)=some (out (qCE f x (N-x) s))/\Inv N (qCE f x (N-x) s):=by
 have k:=LZ N L (λi s=>(.inr (f i s):Unit⊕σ)) (λr=>match r with| .inl _=>out s| .inr s=>out s) Inv (λn i s hi hs=>h0 n i s hi hs) (λn s hs=>h1 n s hs) FUEL x s (by rw[jA];omega) hx hs;rw[runN_fold] at k;refine⟨k,?_⟩;exact runN_inv (λi s=>(.inr (f i s):Unit⊕σ)) Inv N (λi s s' hi hs e=>by cases e;exact(h0 0 i s hi hs).2) (N-x) x s _ (by omega) hs (runN_fold f (N-x) x s)
end Go.SL

namespace Go.SL
namespace Saw
def insS (s:Span) (lo hi:Int):Bool:=decide ((lo<=s.A/\lo<=s.B)/\(s.A<=hi/\s.B<=hi))
theorem qHD (s:Span) (lo hi:Int):QA s lo hi=some (insS s lo hi):=by
 unfold QA JO insS;have a:=imin_or s.A s.B;have b:=imax_or s.A s.B;by_cases h1:imin s.A s.B≥lo
 ·rw[kg h1];by_cases h2:imax s.A s.B<=hi
  ·rw[kg h2,kg (by omega)];rfl
  ·rw[kf h2,kf (by omega)];rfl
 ·rw[kf h1,kf (show¬((lo<=s.A/\lo<=s.B)/\(s.A<=hi/\s.B<=hi)) by omega)];rfl
def chkD (d:qI):Int:=
 if d.Kind<1\/6<d.Kind then 10
 else bif empS d.Box.X||(empS d.Box.Y||empS d.Box.Z) then 19
 else bif insS d.Box.X (-600) 600&&(insS d.Box.Y (-600) 600&&insS d.Box.Z 0 20000) then 0 else 9
theorem qIl (s:Span):QT s=some (empS s):=rfl
theorem chkD_eq (d:qI):KA d=some (chkD d):=by
 unfold KA YZ ZT ZU chkD;simp only[qIl,qHD,ke];by_cases h1:d.Kind<1
 ·rw[kg h1,if_pos (.inl h1)];rfl
 rw[kf h1];by_cases h2:d.Kind>6
 ·rw[kg h2,if_pos (.inr h2)];rfl
 rw[kf h2,if_neg (by omega)];cases empS d.Box.X<;>cases empS d.Box.Y<;>cases empS d.Box.Z<;>cases insS d.Box.X (-600) 600<;>cases insS d.Box.Y (-600) 600<;>cases insS d.Box.Z 0 20000<;>rfl
structure VD (d:qI):Prop where
 k1:1<=d.Kind
 k2:d.Kind<=6
 x:d.Box.X.A<d.Box.X.B/\-600<=d.Box.X.A/\d.Box.X.B<=600
 y:d.Box.Y.A<d.Box.Y.B/\-600<=d.Box.Y.A/\d.Box.Y.B<=600
 z:d.Box.Z.A<d.Box.Z.B/\0<=d.Box.Z.A/\d.Box.Z.B<=20000
theorem qIM (d:qI):chkD d=0↔VD d:=by
 unfold chkD;by_cases h1:d.Kind<1\/6<d.Kind
 ·rw[if_pos h1];exact⟨λh=>absurd h (by decide),λh=>by have:=h.k1;have:=h.k2;omega⟩
 rw[if_neg h1];cases hx:empS d.Box.X with
 |true=>exact⟨λh=>absurd (show(19:Int)=0 from h) (by decide),λh=>by have:=h.x;have:=kS hx;omega⟩
 |false=>
 cases hy:empS d.Box.Y with
 |true=>exact⟨λh=>absurd (show(19:Int)=0 from h) (by decide),λh=>by have:=h.y;have:=kS hy;omega⟩
 |false=>
 cases hz:empS d.Box.Z with
 |true=>exact⟨λh=>absurd (show(19:Int)=0 from h) (by decide),λh=>by have:=h.z;have:=kS hz;omega⟩
 |false=>
 have ex:=of_decide_eq_false hx;have ey:=of_decide_eq_false hy;have ez:=of_decide_eq_false hz;unfold insS;by_cases i1:(-600<=d.Box.X.A/\-600<=d.Box.X.B)/\d.Box.X.A<=600/\d.Box.X.B<=600
 ·rw[kg i1];by_cases i2:(-600<=d.Box.Y.A/\-600<=d.Box.Y.B)/\d.Box.Y.A<=600/\d.Box.Y.B<=600
  ·rw[kg i2];by_cases i3:(0<=d.Box.Z.A/\0<=d.Box.Z.B)/\d.Box.Z.A<=20000/\d.Box.Z.B<=20000
   ·rw[kg i3];exact⟨λ_=>⟨by omega,by omega,by omega,by omega,by omega⟩,λ_=>rfl⟩
   ·rw[kf i3];exact⟨λh=>absurd h (by decide),λh=>by have:=h.z;omega⟩
  ·rw[kf i2];exact⟨λh=>absurd (show(9:Int)=0 from h) (by decide),λh=>by have:=h.y;omega⟩
 ·rw[kf i1];exact⟨λh=>absurd (show(9:Int)=0 from h) (by decide),λh=>by have:=h.x;omega⟩
def badD (d:qI):Option Int:=bif chkD d !=0 then some (chkD d) else none
def YY (l:List qI):Int:=if 64<l.length then 4 else match findE badD l with| .inl e=>e| .inr _=>0
theorem qI6 (l:List qI):XR l=some (YY l):=by
 unfold XR YY;by_cases h:64<l.length
 ·rw[if_pos h,kg (by omega)];rfl
 rw[if_neg h,kf (by omega)];have L:jL l FUEL 0=some (findE badD l):=by
  refine CX l (jL l) badD (by omega) (λn x hx=>?_) (λn=>?_)
  ·rw[jL,kg (by omega),zD (by omega)];simp only[kp,kB,wF (show x<4611686018427387904 by omega),chkD_eq,ke,badD];cases chkD (l.getD x dd) !=0<;>rfl
  ·rw[jL,kf (by omega)];rfl
 rw[L];simp only[kq,ke];cases findE badD l<;>rfl
theorem qDC {d:qI}:badD d=none↔VD d:=by
 rw[<-qIM];unfold badD;by_cases h:chkD d=0
 ·rw[h];simp
 ·rw[show(chkD d !=0)=true by rw[ui];exact h];simp[h]
theorem JT (l:List qI):YY l=0↔l.length<=64/\∀d∈l,VD d:=by
 unfold YY;by_cases h:64<l.length
 ·rw[if_pos h];exact⟨λh=>absurd h (by decide),λh=>by omega⟩
 rw[if_neg h];cases hf:findE badD l with
 |inl e=>
  obtain⟨a,ha,hb⟩:=qDG hf;simp only;have hn:e≠0:=by
   unfold badD at hb;cases hc:chkD a !=0 with
   |true=>rw[hc] at hb;cases hb;exact ui.1 hc
   |false=>rw[hc] at hb;cases hb
  exact⟨λh=>absurd h hn,λh=>by rw[qDC.2 (h.2 a ha)] at hb;cases hb⟩
 |inr u=>exact⟨λ_=>⟨by omega,λd hd=>qDC.1 (ES.1 hf d hd)⟩,λ_=>rfl⟩
theorem qIH (b:Box):HA b=some (empS b.X||(empS b.Y||empS b.Z)):=by
 unfold HA KM empS;show(bif decide (b.X.B<=b.X.A) then _ else bif decide (b.Y.B<=b.Y.A) then _ else some (decide (b.Z.B<=b.Z.A)))=_;cases decide (b.X.B<=b.X.A)<;>cases decide (b.Y.B<=b.Y.A)<;>rfl
theorem qGm {s:Span} (h:empS s=false) (a b:Int):NV s a b=some (insS s a b):=by
 have h':¬s.B<=s.A:=of_decide_eq_false h;unfold NV HE insS;by_cases c1:a<=s.A
 ·rw[kg c1];simp only[kp]
  congr 1
  rw[decide_eq_decide];omega
 ·rw[kf c1,kf (show¬((a<=s.A/\a<=s.B)/\(s.A<=b/\s.B<=b)) from λq=>c1 q.1.1)];rfl
theorem qHP {b:Box} (h:(empS b.X||(empS b.Y||empS b.Z))=false):FF b=some (insS b.X (-600) 600&&(insS b.Y (-600) 600&&insS b.Z 0 20000)):=by
 have h1:empS b.X=false:=by cases e:empS b.X with|false=>rfl|true=>rw[e] at h;cases h
 have h2:empS b.Y=false:=by cases e:empS b.Y with|false=>rfl|true=>rw[h1,e] at h;cases h
 have h3:empS b.Z=false:=by cases e:empS b.Z with|false=>rfl|true=>rw[h1,h2,e] at h;cases h
 unfold FF XC;simp only[qGm h1,qGm h2,qGm h3,ke];cases insS b.X (-600) 600<;>cases insS b.Y (-600) 600<;>rfl
theorem qIs (l:List qI):HQ l=some (YY l):=by
 unfold HQ YY;by_cases h:64<l.length
 ·rw[if_pos h,kg (by omega)];rfl
 rw[if_neg h,kf (by omega)];have L:yB l FUEL 0=some (findE badD l):=by
  refine CX l (yB l) badD (by omega) (λn x hx=>?_) (λn=>?_)
  ·rw[yB,kg (by omega),zD (by omega)];simp only[kp,kB,wF (show x<4611686018427387904 by omega),VA,qIH,ke];rw[zD (by omega)];unfold badD chkD;by_cases h1:(l.getD x dd).Kind<1
   ·rw[kg h1,if_pos (.inl h1)];rfl
   rw[kf h1];by_cases h2:(l.getD x dd).Kind>6
   ·rw[kg h2,if_pos (.inr h2)];rfl
   rw[kf h2,if_neg (by omega)];simp only[kq,kp];cases he:(empS (l.getD x dd).Box.X||(empS (l.getD x dd).Box.Y||empS (l.getD x dd).Box.Z)) with
   |true=>rfl
   |false=>
    rw[qHP he];cases (insS (l.getD x dd).Box.X (-600) 600&&(insS (l.getD x dd).Box.Y (-600) 600&&insS (l.getD x dd).Box.Z 0 20000))<;>rfl
  ·rw[yB,kf (by omega)];rfl
 rw[L];simp only[kq,ke];cases findE badD l<;>rfl
theorem TQ :law15_awake=some true:=by unfold law15_awake;rfl
def rgs (s:Scan) (x:Nat):Ring:=s.Rings.getD x dd
def errR (s:Scan) (x:Nat):Option Int:=
 bif WX (rgs s x) !=0 then some (WX (rgs s x))
 else bif (decide (x=0)&&((rgs s x).Z !=0))||(decide (0<x)&&decide ((rgs s x).Z<=(rgs s (x-1)).Z)) then some 11
 else bif ((rgs s x).Read.length:Int) !=(((rgs s 0).Read.length:Nat):Int) then some 19 else none
def errZ (z:Int) (d:qI):Option Int:=bif decide (d.Box.Z.B>z) then some 9 else none
def endZ (s:Scan):Int:=(rgs s (s.Rings.length-1)).Z
def yK (s:Scan):Int:=
 if s.Rings.length<2 then 3 else if 24<s.Rings.length then 4
 else match findN (errR s) 0 s.Rings.length with
  | .inl e=>e
  | .inr _=>if YY s.Defects≠0 then YY s.Defects else match findE (errZ (endZ s)) s.Defects with| .inl e=>e| .inr _=>0
theorem qDO (s:Scan) (z:Int) (L:Nat->Int->Option (Int⊕Unit)) (hl:s.Defects.length<=64) (h0:∀n x,x<s.Defects.length->L (n+1) ((x:Nat):Int)=bif decide ((s.Defects.getD x dd).Box.Z.B>z) then some (.inl 9) else L n ((x+1:Nat):Int)) (h1:∀n,L (n+1) (s.Defects.length:Int)=some (.inr ())):
  L FUEL 0=some (findE (errZ z) s.Defects):=by
 refine CX s.Defects L (errZ z) (by omega) (λn x hx=>?_) h1;rw[h0 n x hx];unfold errZ;cases decide ((s.Defects.getD x dd).Box.Z.B>z)<;>rfl
theorem qBF (s:Scan):yJ s=some (yK s):=by
 unfold yJ yK;by_cases h2:s.Rings.length<2
 ·rw[if_pos h2,kg (by omega)];rfl
 rw[if_neg h2,kf (by omega)];by_cases h24:24<s.Rings.length
 ·rw[if_pos h24,kg (by omega)];rfl
 rw[if_neg h24,kf (by omega)];have L:zS s FUEL 0=some (findN (errR s) 0 s.Rings.length):=by
  refine TH s.Rings.length (zS s) (errR s) 0 (by omega) (by omega) (λn x _ hx=>?_) (λn=>?_)
  ·rw[zS,kg (by omega),zD (by omega)];simp only[kp,kB,Int.toNat_zero,qEM,ke,yY,wF (show x<4611686018427387904 by omega),zD (i:=0) (n:=s.Rings.length) (by omega)];unfold errR rgs;cases hc:WX (s.Rings.getD x dd) !=0 with
   |true=>rfl
   |false=>
    simp only[kq];by_cases hx0:x=0
    ·subst hx0;rw[show(((0:Nat):Int)==0)=true from rfl,kf (show¬((0:Nat):Int)>0 by omega)];cases (s.Rings.getD 0 dd).Z !=0 with
     |true=>rfl
     |false=>cases (((s.Rings.getD 0 dd).Read.length:Nat):Int) !=(((s.Rings.getD 0 dd).Read.length:Nat):Int)<;>rfl
    ·rw[show(((x:Nat):Int)==0)=false by rw[kU];omega,kg (show((x:Nat):Int)>0 by omega),qH5 (show-9223372036854775808<=(x:Int)-1 by omega) (by omega),zD (by omega),kf hx0,kg (show 0<x by omega),show((x:Int)-1).toNat=x-1 by omega];cases decide ((s.Rings.getD x dd).Z<=(s.Rings.getD (x-1) dd).Z) with
     |true=>rfl
     |false=>cases ((s.Rings.getD x dd).Read.length:Int) !=(((s.Rings.getD 0 dd).Read.length:Nat):Int)<;>rfl
  ·rw[zS,kf (by omega)];rfl
 rw[L];simp only[kq,ke];cases findN (errR s) 0 s.Rings.length with
 |inl e=>rfl
 |inr u=>
  simp only[Sum.elim_inr,qI6,ke];by_cases h13:YY s.Defects=0
  ·rw[h13,if_neg (by simp)];simp only[kJ,kq];rw[wB (by omega),zD (by omega)];have:=qDO s (endZ s) (ZP s) ((JT _).1 h13).1 (λn x hx=>by
    rw[ZP,kg (by omega),zD (by omega)];simp only[kp,kB,wF (show x<4611686018427387904 by have:=((JT _).1 h13).1;omega)];rw[wB (by omega),show((s.Rings.length:Int)-1).toNat=s.Rings.length-1 by omega];rfl) (λn=>by rw[ZP,kf (by omega)];rfl)
   rw[this];simp only[kp,ke];cases findE (errZ (endZ s)) s.Defects<;>rfl
  ·rw[show(YY s.Defects !=0)=true by rw[ui];exact h13,if_pos h13];rfl
def qCp {ε σ:Type} (err:Nat->Option ε) (g:Nat->σ) (x:Nat) (_:σ):ε⊕σ:=match err x with|some e=> .inl e|none=> .inr (g x)
theorem qFt {ε σ:Type} (err:Nat->Option ε) (g:Nat->σ):∀(k x:Nat) (s:σ),runN (qCp err g) x k s=Sum.elim Sum.inl (λ_=>Sum.inr (if k=0 then s else g (x+k-1))) (findN err x k)
 |0,x,s=>by simp[runN,findN]
 |k+1,x,s=>by
  unfold runN findN qCp;cases err x with
  |some e=>rfl
  |none=>
   simp only;have ih:=qFt err g k (x+1) (g x);unfold qCp at ih;rw[ih];cases findN err (x+1) k with
   |inl e=>rfl
   |inr u=>
    simp only[Nat.add_eq_zero_iff,Nat.one_ne_zero,and_false,if_false,Sum.elim_inr]
    congr 1
    by_cases hk:k=0
    ·subst hk;rw[if_pos rfl];rfl
    ·rw[if_neg hk];congr 1;omega
theorem qD9 (s:Scan):GJ s=some (yK s):=by
 unfold GJ yK;by_cases h2:s.Rings.length<2
 ·rw[if_pos h2,kg (by omega)];rfl
 rw[if_neg h2,kf (by omega)];by_cases h24:24<s.Rings.length
 ·rw[if_pos h24,kg (by omega)];rfl
 rw[if_neg h24,kf (by omega)];have L:=LZ s.Rings.length (λn l i=>zI s n l i) (qCp (errR s) (λx=>(rgs s x).Z)) (λr=>r) (λx l=>x=0\/l=(rgs s (x-1)).Z) (λn x l hx hi=>by
   have e:zI s (n+1) l (x:Int)=match errR s x with|some e=>some (.inl e)|none=>zI s n (rgs s x).Z ((x+1:Nat):Int):=by
    rw[zI,kg (by omega),zD (by omega)];simp only[kp,kB,Int.toNat_zero,qFJ,ke,QQ,wF (show x<4611686018427387904 by omega),zD (i:=0) (n:=s.Rings.length) (by omega)];unfold errR rgs;cases hc:WX (s.Rings.getD x dd) !=0 with
    |true=>rfl
    |false=>
     simp only[kq];by_cases hx0:x=0
     ·subst hx0;rw[show(((0:Nat):Int)==0)=true from rfl,kf (show¬((0:Nat):Int)>0 by omega)];cases (s.Rings.getD 0 dd).Z !=0 with
      |true=>rfl
      |false=>cases (((s.Rings.getD 0 dd).Read.length:Nat):Int) !=(((s.Rings.getD 0 dd).Read.length:Nat):Int)<;>rfl
     ·have hl:l=(rgs s (x-1)).Z:=hi.resolve_left hx0;subst hl;unfold rgs;rw[show(((x:Nat):Int)==0)=false by rw[kU];omega,kg (show((x:Nat):Int)>0 by omega),kf hx0,kg (show 0<x by omega)];cases decide ((s.Rings.getD x dd).Z<=(s.Rings.getD (x-1) dd).Z) with
      |true=>rfl
      |false=>cases ((s.Rings.getD x dd).Read.length:Int) !=(((s.Rings.getD 0 dd).Read.length:Nat):Int)<;>rfl
   unfold qCp;cases he:errR s x with
   |some q=>rw[he] at e;exact e
   |none=>rw[he] at e;exact⟨e,.inr (by rw[Nat.add_sub_cancel])⟩)
  (λn l _=>by show zI s (n+1) l _=_;rw[zI,kf (by omega)];rfl) FUEL 0 0 (by rw[jA];omega) (by omega) (.inl rfl)
 rw[qFt,if_neg (show¬s.Rings.length-0=0 by omega),show 0+(s.Rings.length-0)-1=s.Rings.length-1 by omega,Nat.sub_zero] at L;have L':zI s FUEL 0 0=some (Sum.elim Sum.inl (λ_=>Sum.inr (rgs s (s.Rings.length-1)).Z) (findN (errR s) 0 s.Rings.length)):=L;rw[L'];simp only[kq,ke];cases findN (errR s) 0 s.Rings.length with
 |inl e=>rfl
 |inr u=>
  simp only[Sum.elim_inr,qIs,ke];by_cases h13:YY s.Defects=0
  ·rw[h13,if_neg (by simp)];simp only[kJ,kq];have:=qDO s (endZ s) (WU s (endZ s)) ((JT _).1 h13).1 (λn x hx=>by
    rw[WU,kg (by omega),zD (by omega)];simp only[kp,kB,wF (show x<4611686018427387904 by have:=((JT _).1 h13).1;omega)]) (λn=>by rw[WU,kf (by omega)];rfl)
   rw[show(rgs s (s.Rings.length-1)).Z=endZ s from rfl,this];simp only[ke];cases findE (errZ (endZ s)) s.Defects<;>rfl
  ·rw[show(YY s.Defects !=0)=true by rw[ui];exact h13,if_pos h13];rfl
def fewB (s:Scan):Bool:=decide (s.Rings.length<=40/\s.Defects.length<=100/\∀i,i<s.Rings.length->(rgs s i).Read.length<=60)
theorem qJe (s:Scan):GX s=some (fewB s):=by
 unfold GX;by_cases h1:s.Rings.length<=40
 ·rw[kf (by omega)];by_cases h2:s.Defects.length<=100
  ·rw[kf (by omega)];have L:ZD s FUEL 0=some (findN (λi=>if 60<(rgs s i).Read.length then some false else none) 0 s.Rings.length):=by
    refine TH s.Rings.length (ZD s) _ 0 (by omega) (by omega) (λn x _ hx=>?_) (λn=>?_)
    ·rw[ZD,kg (by omega),zD (by omega)];simp only[kp,kB,wF (show x<4611686018427387904 by omega)];unfold rgs;by_cases h:60<(s.Rings.getD x dd).Read.length
     ·rw[if_pos h,kg (by omega)];rfl
     ·rw[if_neg h,kf (by omega)];rfl
    ·rw[ZD,kf (by omega)];rfl
   simp only[kq,UJ,L,ke];cases hf:findN (λi=>if 60<(rgs s i).Read.length then some false else none) 0 s.Rings.length with
   |inl e=>
    obtain⟨i,_,h4,h5,_⟩:=AJ hf;have h6:60<(rgs s i).Read.length:=by
     by_cases h:60<(rgs s i).Read.length
     ·exact h
     ·rw[if_neg h] at h5;cases h5
    rw[if_pos h6] at h5;cases h5;have:fewB s=false:=kf λh=>by have:=h.2.2 i (by omega);omega
    rw[this];rfl
   |inr u=>
    have h:=KJ.1 hf;have:fewB s=true:=kg ⟨h1,h2,λi hi=>by
     have:=h i (by omega) (by omega);by_cases h:60<(rgs s i).Read.length
     ·rw[if_pos h] at this;cases this
     ·omega⟩
    rw[this];rfl
  ·rw[kg (by omega)];have:fewB s=false:=kf λh=>h2 h.2.1;rw[this];rfl
 ·rw[kg (by omega)];have:fewB s=false:=kf λh=>h1 h.1;rw[this];rfl
theorem qI9 {s:Scan} (h:fewB s=true):s.Rings.length<=40/\s.Defects.length<=100/\∀i,i<s.Rings.length->(rgs s i).Read.length<=60:=kS h
theorem qIm {s:Scan} {x:Nat} (h:errR s x=none):YO (rgs s x)/\(x=0->(rgs s x).Z=0)/\(0<x->(rgs s (x-1)).Z<(rgs s x).Z)/\(rgs s x).Read.length=(rgs s 0).Read.length:=by
 unfold errR at h;cases h1:WX (rgs s x) !=0 with
 |true=>rw[h1] at h;cases h
 |false=>
  rw[h1] at h;simp only[kq] at h;cases h2:(decide (x=0)&&((rgs s x).Z !=0))||(decide (0<x)&&decide ((rgs s x).Z<=(rgs s (x-1)).Z)) with
  |true=>rw[h2] at h;cases h
  |false=>
   rw[h2] at h;simp only[kq] at h;cases h3:((rgs s x).Read.length:Int) !=(((rgs s 0).Read.length:Nat):Int) with
   |true=>rw[h3] at h;cases h
   |false=>
    simp only[uH,Bool.and_eq_false_iff,decide_eq_false_iff_not,bne_eq_false_iff_eq] at h1 h2 h3;exact⟨(qA5 _).1 h1,λhx=>h2.1.resolve_left (λq=>q hx),λhx=>by rcases h2.2 with q|q<;>omega,by omega⟩
structure V15 (s:Scan):Prop where
 two:2<=s.Rings.length
 many:s.Rings.length<=24
 good:∀x,x<s.Rings.length->YO (rgs s x)
 zero:(rgs s 0).Z=0
 up:∀x,0<x->x<s.Rings.length->(rgs s (x-1)).Z<(rgs s x).Z
 same:∀x,x<s.Rings.length->(rgs s x).Read.length=(rgs s 0).Read.length
 def13:YY s.Defects=0
 ends:∀d∈s.Defects,d.Box.Z.B<=endZ s
theorem qDY {z:Int} {d:qI}:errZ z d=none↔d.Box.Z.B<=z:=by
 unfold errZ;by_cases h:d.Box.Z.B>z
 ·rw[kg h];simp;omega
 ·rw[kf h];simp;omega
theorem AZ (s:Scan):yK s=0↔V15 s:=by
 unfold yK;by_cases h2:s.Rings.length<2
 ·rw[if_pos h2];exact⟨λh=>absurd h (by decide),λh=>by have:=h.two;omega⟩
 rw[if_neg h2];by_cases h24:24<s.Rings.length
 ·rw[if_pos h24];exact⟨λh=>absurd h (by decide),λh=>by have:=h.many;omega⟩
 rw[if_neg h24];cases hf:findN (errR s) 0 s.Rings.length with
 |inl e=>
  obtain⟨i,_,hi,he,_⟩:=AJ hf;simp only;refine⟨λh=>?_,λh=>?_⟩
  ·subst h;unfold errR at he;cases h1:WX (rgs s i) !=0 with
   |true=>rw[h1] at he;simp only[kp,uh] at he;rw[he] at h1;cases h1
   |false=>
    rw[h1] at he;simp only[kq] at he;cases h2:(decide (i=0)&&((rgs s i).Z !=0))||(decide (0<i)&&decide ((rgs s i).Z<=(rgs s (i-1)).Z))<;>rw[h2] at he<;>simp only[kp,kq] at he
    ·cases h3:((rgs s i).Read.length:Int) !=(((rgs s 0).Read.length:Nat):Int)<;>rw[h3] at he<;>cases he
    ·cases he
  ·have hi':i<s.Rings.length:=by omega
   exfalso;have:errR s i=none:=by
    unfold errR;rw[show WX (rgs s i)=0 from(qA5 _).2 (h.good i hi'),h.same i hi'];simp only[kJ,kq];have:((decide (i=0)&&((rgs s i).Z !=0))||(decide (0<i)&&decide ((rgs s i).Z<=(rgs s (i-1)).Z)))=false:=by
     by_cases h0:i=0
     ·subst h0;rw[h.zero];simp
     ·rw[kf h0,kf (show¬(rgs s i).Z<=(rgs s (i-1)).Z by have:=h.up i (by omega) hi';omega)];simp
    rw[this];rfl
   rw[this] at he;cases he
 |inr u=>
  have hn:=KJ.1 hf;simp only;by_cases h13:YY s.Defects=0
  ·rw[if_neg (by simpa using h13)];cases hz:findE (errZ (endZ s)) s.Defects with
   |inl e=>
    simp only;obtain⟨d,hd,he⟩:=qDG hz;refine⟨λh=>?_,λh=>?_⟩
    ·subst h;unfold errZ at he;cases h3:decide (d.Box.Z.B>endZ s)<;>rw[h3] at he<;>cases he
    ·rw[qDY.2 (h.ends d hd)] at he;cases he
   |inr u=>
    have hz':=ES.1 hz;have e:∀x,x<s.Rings.length->_:=λx hx=>qIm (hn x (by omega) (by omega));exact⟨λ_=>⟨by omega,by omega,λx hx=>(e x hx).1,(e 0 (by omega)).2.1 rfl,λx h0 hx=>(e x hx).2.2.1 h0,λx hx=>(e x hx).2.2.2,h13,λd hd=>qDY.1 (hz' d hd)⟩,λ_=>rfl⟩
  ·rw[if_pos h13];exact⟨λh=>absurd h h13,λh=>absurd h.def13 h13⟩
end Saw
end Go.SL

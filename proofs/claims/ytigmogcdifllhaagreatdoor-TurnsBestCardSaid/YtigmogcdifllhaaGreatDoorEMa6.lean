import Derived.Test.YtigmogcdifllhaaGreatDoorEMa5
import Derived.Test.YtigmogcdifllhaaGreatDoorEMa1
import Derived.Test.YtigmogcdifllhaaGreatDoorEMa4
set_option linter.unusedVariables false
set_option linter.unusedSimpArgs false
namespace Go.SL
namespace Saw
section
variable (a :Ring) (g:yG a) (hm:2<=(rg_meas a).length)
include g hm
end
end Saw
end Go.SL
namespace Go.SL
def runN {σ ρ:Type} (step:Nat->σ->ρ⊕σ):Nat->Nat->σ->ρ⊕σ
 |_,0,s=> .inr s
 |x,k+1,s=>match step x s with
  | .inl r=> .inl r
  | .inr s'=>runN step (x+1) k s'
theorem qDp {σ ρ β:Type} (N:Nat) (L:Nat->σ->Int->Option β) (step:Nat->σ->ρ⊕σ) (fin:ρ⊕σ->β) (Inv:Nat->σ->Prop)
  (h0:∀n x s,x<N->Inv x s->match step x s with| .inl r=>L (n+1) s (x:Int)=some (fin (.inl r))| .inr s'=>L (n+1) s (x:Int)=L n s' ((x+1:Nat):Int)/\Inv (x+1) s')
  (h1:∀n s,Inv N s->L (n+1) s (N:Int)=some (fin (.inr s))):
  ∀(n x:Nat) (s:σ),N<x+n->x<=N->Inv x s->L n s (x:Int)=some (fin (runN step x (N-x) s))
 |0,x,s,hn,hx,_=>by omega
 |n+1,x,s,hn,hx,hi=>by
  by_cases h:x<N
  ·have k:=h0 n x s h hi;obtain⟨m,hm⟩:∃m,N-x=m+1:=⟨N-x-1,by omega⟩
   rw[hm];unfold runN;cases hs:step x s with
   |inl r=>rw[hs] at k;exact k
   |inr s'=>
    rw[hs] at k;rw[k.1,qDp N L step fin Inv h0 h1 n (x+1) s' (by omega) (by omega) k.2,show N-(x+1)=m by omega]
  ·have e:x=N:=by omega
   subst e;rw[db];exact h1 n s hi
theorem runN_inv {σ ρ:Type} (step:Nat->σ->ρ⊕σ) (Inv:Nat->σ->Prop) (N:Nat) (h:∀x s s',x<N->Inv x s->step x s= .inr s'->Inv (x+1) s'):
  ∀(k x:Nat) (s s':σ),x+k=N->Inv x s->runN step x k s= .inr s'->Inv N s'
 |0,x,s,s',hx,hi,hr=>by cases hr;exact hx▸hi
 |k+1,x,s,s',hx,hi,hr=>by
  unfold runN at hr;cases hs:step x s with
  |inl r=>rw[hs] at hr;cases hr
  |inr t=>rw[hs] at hr;exact runN_inv step Inv N h k (x+1) t s' (by omega) (h x s t (by omega) hi hs) hr
def findN {ε:Type} (bad:Nat->Option ε):Nat->Nat->ε⊕Unit
 |_,0=> .inr ()
 |x,k+1=>match bad x with
  |some e=> .inl e
  |none=>findN bad (x+1) k
theorem qID {ε:Type} {bad:Nat->Option ε}:∀{k x:Nat},findN bad x k= .inr ()↔∀i,x<=i->i<x+k->bad i=none
 |0,x=>by simp[findN];intro i h1 h2;omega
 |k+1,x=>by
  unfold findN;cases hb:bad x with
  |some e=>simp only[reduceCtorEq,false_iff];intro h;rw[h x (ke _) (by omega)] at hb;cases hb
  |none=>
   simp only[qID (k:=k)];constructor
   ·intro h i h1 h2;by_cases e:i=x
    ·subst e;exact hb
    ·exact h i (by omega) (by omega)
   ·intro h i h1 h2;exact h i (by omega) (by omega)
theorem qPS {ε:Type} {bad:Nat->Option ε} {e:ε}:∀{k x:Nat},findN bad x k= .inl e->∃i,x<=i/\i<x+k/\bad i=some e/\∀j,x<=j->j<i->bad j=none
 |0,x,h=>by cases h
 |k+1,x,h=>by
  unfold findN at h;cases hb:bad x with
  |some e'=>rw[hb] at h;cases h;exact⟨x,ke _,by omega,hb,λj h1 h2=>by omega⟩
  |none=>
   rw[hb] at h;obtain⟨i,h1,h2,h3,h4⟩:=qPS (k:=k) h;refine⟨i,by omega,by omega,h3,λj a b=>?_⟩;by_cases e':j=x
   ·subst e';exact hb
   ·exact h4 j (by omega) b
theorem qSx {ε:Type} (bad:Nat->Option ε):∀(k x:Nat),runN (λx (_:Unit)=>match bad x with|some e=>(.inl e:ε⊕Unit)|none=> .inr ()) x k ()=findN bad x k
 |0,_=>rfl
 |k+1,x=>by
  unfold runN findN;cases bad x with
  |some e=>rfl
  |none=>exact qSx bad k (x+1)
theorem qQV {ε:Type} (N:Nat) (L:Nat->Int->Option (ε⊕Unit)) (bad:Nat->Option ε) (x:Nat) (hx:x<=N) (hN:N<=1000000000)
  (h0:∀n i,x<=i->i<N->L (n+1) (i:Int)=match bad i with|some e=>some (.inl e)|none=>L n ((i+1:Nat):Int))
  (h1:∀n,L (n+1) (N:Int)=some (.inr ())):L FUEL (x:Int)=some (findN bad x (N-x)):=by
 have k:=qDp N (λn (_:Unit) i=>L n i) (λi _=>match bad i with|some e=>(.inl e:ε⊕Unit)|none=> .inr ()) (λr=>r) (λi _=>x<=i)
  (λn i s hi hxi=>by
   have h:=h0 n i hxi hi;cases hb:bad i with
   |some e=>simp only;rw[h,hb]
   |none=>simp only;rw[h,hb];exact⟨rfl,by omega⟩)
  (λn s _=>h1 n) FUEL x () (by rw[FUEL_eq];omega) hx (ke _)
 rw[qSx] at k;exact k
def qI3 {σ:Type} (f:Nat->σ->σ):Nat->Nat->σ->σ
 |_,0,s=>s
 |x,k+1,s=>qI3 f (x+1) k (f x s)
theorem runN_fold {σ ρ:Type} (f:Nat->σ->σ):∀(k x:Nat) (s:σ),runN (λx s=>(.inr (f x s):ρ⊕σ)) x k s= .inr (qI3 f x k s)
 |0,_,_=>rfl
 |k+1,x,s=>by unfold runN qI3;exact runN_fold f k (x+1) (f x s)
theorem EG {σ β:Type} (N:Nat) (L:Nat->σ->Int->Option β) (f:Nat->σ->σ) (out:σ->β) (Inv:Nat->σ->Prop) (x:Nat) (hx:x<=N) (hN:N<=1000000000)
  (h0:∀n i s,i<N->Inv i s->L (n+1) s (i:Int)=L n (f i s) ((i+1:Nat):Int)/\Inv (i+1) (f i s))
  (h1:∀n s,Inv N s->L (n+1) s (N:Int)=some (out s)) (s:σ) (hs:Inv x s):L FUEL s (x:Int)=some (out (qI3 f x (N-x) s))/\Inv N (qI3 f x (N-x) s):=by
 have k:=qDp N L (λi s=>(.inr (f i s):Unit⊕σ)) (λr=>match r with| .inl _=>out s| .inr s=>out s) Inv (λn i s hi hs=>h0 n i s hi hs) (λn s hs=>h1 n s hs) FUEL x s (by rw[FUEL_eq];omega) hx hs;rw[runN_fold] at k;refine⟨k,?_⟩;exact runN_inv (λi s=>(.inr (f i s):Unit⊕σ)) Inv N (λi s s' hi hs e=>by cases e;exact(h0 0 i s hi hs).2) (N-x) x s _ (by omega) hs (runN_fold f (N-x) x s)
end Go.SL
namespace Go.SL
namespace Saw
def insS (s:Span) (lo hi:Int):Bool:=decide ((lo<=s.A/\lo<=s.B)/\(s.A<=hi/\s.B<=hi))
theorem qYf (s:Span) (lo hi:Int):PD s lo hi=some (insS s lo hi):=by
 unfold PD BV insS;have a:=qBA s.A s.B;have b:=qHZ s.A s.B;by_cases h1:imin s.A s.B≥lo
 ·rw[ki h1];by_cases h2:imax s.A s.B<=hi
  ·rw[ki h2,ki (by omega)];rfl
  ·rw[kf h2,kf (by omega)];rfl
 ·rw[kf h1,kf (show¬((lo<=s.A/\lo<=s.B)/\(s.A<=hi/\s.B<=hi)) by omega)];rfl
def chkD (d:qH):Int:=
 if d.Kind<1\/6<d.Kind then 10
 else bif empS d.Box.X||(empS d.Box.Y||empS d.Box.Z) then 19
 else bif insS d.Box.X (-600) 600&&(insS d.Box.Y (-600) 600&&insS d.Box.Z 0 20000) then 0 else 9
theorem qYj (s:Span):QZ s=some (empS s):=rfl
theorem chkD_eq (d:qH):MZ d=some (chkD d):=by
 unfold MZ LN UL VP chkD;simp only[qYj,qYf,kd];by_cases h1:d.Kind<1
 ·rw[ki h1,if_pos (.inl h1)];rfl
 rw[kf h1];by_cases h2:d.Kind>6
 ·rw[ki h2,if_pos (.inr h2)];rfl
 rw[kf h2,if_neg (by omega)];cases empS d.Box.X<;>cases empS d.Box.Y<;>cases empS d.Box.Z<;>cases insS d.Box.X (-600) 600<;>cases insS d.Box.Y (-600) 600<;>cases insS d.Box.Z 0 20000<;>rfl
structure VD (d:qH):Prop where
 k1:1<=d.Kind
 k2:d.Kind<=6
 x:d.Box.X.A<d.Box.X.B/\-600<=d.Box.X.A/\d.Box.X.B<=600
 y:d.Box.Y.A<d.Box.Y.B/\-600<=d.Box.Y.A/\d.Box.Y.B<=600
 z:d.Box.Z.A<d.Box.Z.B/\0<=d.Box.Z.A/\d.Box.Z.B<=20000
theorem qYk (d:qH):chkD d=0↔VD d:=by
 unfold chkD;by_cases h1:d.Kind<1\/6<d.Kind
 ·rw[if_pos h1];exact⟨λh=>absurd h (by decide),λh=>by have:=h.k1;have:=h.k2;omega⟩
 rw[if_neg h1];cases hx:empS d.Box.X with
 |true=>exact⟨λh=>absurd (show(19:Int)=0 from h) (by decide),λh=>by have:=h.x;have:=ul hx;omega⟩
 |false=>
 cases hy:empS d.Box.Y with
 |true=>exact⟨λh=>absurd (show(19:Int)=0 from h) (by decide),λh=>by have:=h.y;have:=ul hy;omega⟩
 |false=>
 cases hz:empS d.Box.Z with
 |true=>exact⟨λh=>absurd (show(19:Int)=0 from h) (by decide),λh=>by have:=h.z;have:=ul hz;omega⟩
 |false=>
 have ex:=of_decide_eq_false hx;have ey:=of_decide_eq_false hy;have ez:=of_decide_eq_false hz;unfold insS;by_cases i1:(-600<=d.Box.X.A/\-600<=d.Box.X.B)/\d.Box.X.A<=600/\d.Box.X.B<=600
 ·rw[ki i1];by_cases i2:(-600<=d.Box.Y.A/\-600<=d.Box.Y.B)/\d.Box.Y.A<=600/\d.Box.Y.B<=600
  ·rw[ki i2];by_cases i3:(0<=d.Box.Z.A/\0<=d.Box.Z.B)/\d.Box.Z.A<=20000/\d.Box.Z.B<=20000
   ·rw[ki i3];exact⟨λ_=>⟨by omega,by omega,by omega,by omega,by omega⟩,λ_=>rfl⟩
   ·rw[kf i3];exact⟨λh=>absurd h (by decide),λh=>by have:=h.z;omega⟩
  ·rw[kf i2];exact⟨λh=>absurd (show(9:Int)=0 from h) (by decide),λh=>by have:=h.y;omega⟩
 ·rw[kf i1];exact⟨λh=>absurd (show(9:Int)=0 from h) (by decide),λh=>by have:=h.x;omega⟩
def badD (d:qH):Option Int:=bif chkD d !=0 then some (chkD d) else none
def BE (l:List qH):Int:=if 64<l.length then 4 else match findE badD l with| .inl e=>e| .inr _=>0
theorem qE9 (l:List qH):JB l=some (BE l):=by
 unfold JB BE;by_cases h:64<l.length
 ·rw[if_pos h,ki (by omega)];rfl
 rw[if_neg h,kf (by omega)];have L:JH l FUEL 0=some (findE badD l):=by
  refine MF l (JH l) badD (by omega) (λn x hx=>?_) (λn=>?_)
  ·rw[JH,ki (by omega),zR (by omega)];simp only[kp,kg,wH (show x<4611686018427387904 by omega),chkD_eq,kd,badD];cases chkD (l.getD x du) !=0<;>rfl
  ·rw[JH,kf (by omega)];rfl
 rw[L];simp only[kv,kd];cases findE badD l<;>rfl
theorem qSA {d:qH}:badD d=none↔VD d:=by
 rw[<-qYk];unfold badD;by_cases h:chkD d=0
 ·rw[h];simp
 ·rw[show(chkD d !=0)=true by rw[gg];exact h];simp[h]
theorem NN (l:List qH):BE l=0↔l.length<=64/\∀d∈l,VD d:=by
 unfold BE;by_cases h:64<l.length
 ·rw[if_pos h];exact⟨λh=>absurd h (by decide),λh=>by omega⟩
 rw[if_neg h];cases hf:findE badD l with
 |inl e=>
  obtain⟨a,ha,hb⟩:=qFQ hf;simp only;have hn:e≠0:=by
   unfold badD at hb;cases hc:chkD a !=0 with
   |true=>rw[hc] at hb;cases hb;exact gg.1 hc
   |false=>rw[hc] at hb;cases hb
  exact⟨λh=>absurd h hn,λh=>by rw[qSA.2 (h.2 a ha)] at hb;cases hb⟩
 |inr u=>exact⟨λ_=>⟨by omega,λd hd=>qSA.1 (qA3.1 hf d hd)⟩,λ_=>rfl⟩
theorem qYL (b:Box):qG2 b=some (empS b.X||(empS b.Y||empS b.Z)):=by
 unfold qG2 EI empS;show(bif decide (b.X.B<=b.X.A) then _ else bif decide (b.Y.B<=b.Y.A) then _ else some (decide (b.Z.B<=b.Z.A)))=_;cases decide (b.X.B<=b.X.A)<;>cases decide (b.Y.B<=b.Y.A)<;>rfl
theorem qVy {s:Span} (h:empS s=false) (a b:Int):qFA s a b=some (insS s a b):=by
 have h':¬s.B<=s.A:=of_decide_eq_false h;unfold qFA qG5 insS;by_cases c1:a<=s.A
 ·rw[ki c1];simp only[kp]
  congr 1
  rw[decide_eq_decide];omega
 ·rw[kf c1,kf (show¬((a<=s.A/\a<=s.B)/\(s.A<=b/\s.B<=b)) from λq=>c1 q.1.1)];rfl
theorem qX7 {b:Box} (h:(empS b.X||(empS b.Y||empS b.Z))=false):qFy b=some (insS b.X (-600) 600&&(insS b.Y (-600) 600&&insS b.Z 0 20000)):=by
 have h1:empS b.X=false:=by cases e:empS b.X with|false=>rfl|true=>rw[e] at h;cases h
 have h2:empS b.Y=false:=by cases e:empS b.Y with|false=>rfl|true=>rw[h1,e] at h;cases h
 have h3:empS b.Z=false:=by cases e:empS b.Z with|false=>rfl|true=>rw[h1,h2,e] at h;cases h
 unfold qFy LK;simp only[qVy h1,qVy h2,qVy h3,kd];cases insS b.X (-600) 600<;>cases insS b.Y (-600) 600<;>rfl
theorem qSh (l:List qH):qCC l=some (BE l):=by
 unfold qCC BE;by_cases h:64<l.length
 ·rw[if_pos h,ki (by omega)];rfl
 rw[if_neg h,kf (by omega)];have L:YN l FUEL 0=some (findE badD l):=by
  refine MF l (YN l) badD (by omega) (λn x hx=>?_) (λn=>?_)
  ·rw[YN,ki (by omega),zR (by omega)];simp only[kp,kg,wH (show x<4611686018427387904 by omega),qBH,qYL,kd];rw[zR (by omega)];unfold badD chkD;by_cases h1:(l.getD x du).Kind<1
   ·rw[ki h1,if_pos (.inl h1)];rfl
   rw[kf h1];by_cases h2:(l.getD x du).Kind>6
   ·rw[ki h2,if_pos (.inr h2)];rfl
   rw[kf h2,if_neg (by omega)];simp only[kv,kp];cases he:(empS (l.getD x du).Box.X||(empS (l.getD x du).Box.Y||empS (l.getD x du).Box.Z)) with
   |true=>rfl
   |false=>
    rw[qX7 he];cases (insS (l.getD x du).Box.X (-600) 600&&(insS (l.getD x du).Box.Y (-600) 600&&insS (l.getD x du).Box.Z 0 20000))<;>rfl
  ·rw[YN,kf (by omega)];rfl
 rw[L];simp only[kv,kd];cases findE badD l<;>rfl
def rgs (s:Scan) (x:Nat):Ring:=s.Rings.getD x du
def errR (s:Scan) (x:Nat):Option Int:=
 bif WB (rgs s x) !=0 then some (WB (rgs s x))
 else bif (decide (x=0)&&((rgs s x).Z !=0))||(decide (0<x)&&decide ((rgs s x).Z<=(rgs s (x-1)).Z)) then some 11
 else bif ((rgs s x).Read.length:Int) !=(((rgs s 0).Read.length:Nat):Int) then some 19 else none
def errZ (z:Int) (d:qH):Option Int:=bif decide (d.Box.Z.B>z) then some 9 else none
def endZ (s:Scan):Int:=(rgs s (s.Rings.length-1)).Z
def LJ (s:Scan):Int:=
 if s.Rings.length<2 then 3 else if 24<s.Rings.length then 4
 else match findN (errR s) 0 s.Rings.length with
  | .inl e=>e
  | .inr _=>if BE s.Defects≠0 then BE s.Defects else match findE (errZ (endZ s)) s.Defects with| .inl e=>e| .inr _=>0
theorem qR4 (s:Scan) (z:Int) (L:Nat->Int->Option (Int⊕Unit)) (hl:s.Defects.length<=64) (h0:∀n x,x<s.Defects.length->L (n+1) ((x:Nat):Int)=bif decide ((s.Defects.getD x du).Box.Z.B>z) then some (.inl 9) else L n ((x+1:Nat):Int)) (h1:∀n,L (n+1) (s.Defects.length:Int)=some (.inr ())):
  L FUEL 0=some (findE (errZ z) s.Defects):=by
 refine MF s.Defects L (errZ z) (by omega) (λn x hx=>?_) h1;rw[h0 n x hx];unfold errZ;cases decide ((s.Defects.getD x du).Box.Z.B>z)<;>rfl
theorem qUH (s:Scan):SN s=some (LJ s):=by
 unfold SN LJ;by_cases h2:s.Rings.length<2
 ·rw[if_pos h2,ki (by omega)];rfl
 rw[if_neg h2,kf (by omega)];by_cases h24:24<s.Rings.length
 ·rw[if_pos h24,ki (by omega)];rfl
 rw[if_neg h24,kf (by omega)];have L:jS s FUEL 0=some (findN (errR s) 0 s.Rings.length):=by
  refine qQV s.Rings.length (jS s) (errR s) 0 (by omega) (by omega) (λn x _ hx=>?_) (λn=>?_)
  ·rw[jS,ki (by omega),zR (by omega)];simp only[kp,kg,gB,FE,kd,KT,wH (show x<4611686018427387904 by omega),zR (i:=0) (n:=s.Rings.length) (by omega)];unfold errR rgs;cases hc:WB (s.Rings.getD x du) !=0 with
   |true=>rfl
   |false=>
    simp only[kv];by_cases hx0:x=0
    ·subst hx0;rw[show(((0:Nat):Int)==0)=true from rfl,kf (show¬((0:Nat):Int)>0 by omega)];cases (s.Rings.getD 0 du).Z !=0 with
     |true=>rfl
     |false=>cases (((s.Rings.getD 0 du).Read.length:Nat):Int) !=(((s.Rings.getD 0 du).Read.length:Nat):Int)<;>rfl
    ·rw[show(((x:Nat):Int)==0)=false by rw[kT];omega,ki (show((x:Nat):Int)>0 by omega),qZw (show-9223372036854775808<=(x:Int)-1 by omega) (by omega),zR (by omega),kf hx0,ki (show 0<x by omega),show((x:Int)-1).toNat=x-1 by omega];cases decide ((s.Rings.getD x du).Z<=(s.Rings.getD (x-1) du).Z) with
     |true=>rfl
     |false=>cases ((s.Rings.getD x du).Read.length:Int) !=(((s.Rings.getD 0 du).Read.length:Nat):Int)<;>rfl
  ·rw[jS,kf (by omega)];rfl
 rw[L];simp only[kv,kd];cases findN (errR s) 0 s.Rings.length with
 |inl e=>rfl
 |inr u=>
  simp only[Sum.elim_inr,qE9,kd];by_cases h13:BE s.Defects=0
  ·rw[h13,if_neg (by simp)];simp only[kQ,kv];rw[w64_o (by omega),zR (by omega)];have:=qR4 s (endZ s) (TY s) ((NN _).1 h13).1 (λn x hx=>by
    rw[TY,ki (by omega),zR (by omega)];simp only[kp,kg,wH (show x<4611686018427387904 by have:=((NN _).1 h13).1;omega)];rw[w64_o (by omega),show((s.Rings.length:Int)-1).toNat=s.Rings.length-1 by omega];rfl) (λn=>by rw[TY,kf (by omega)];rfl)
   rw[this];simp only[kp,kd];cases findE (errZ (endZ s)) s.Defects<;>rfl
  ·rw[show(BE s.Defects !=0)=true by rw[gg];exact h13,if_pos h13];rfl
def qI0 {ε σ:Type} (err:Nat->Option ε) (g:Nat->σ) (x:Nat) (_:σ):ε⊕σ:=match err x with|some e=> .inl e|none=> .inr (g x)
theorem qNu {ε σ:Type} (err:Nat->Option ε) (g:Nat->σ):∀(k x:Nat) (s:σ),runN (qI0 err g) x k s=Sum.elim Sum.inl (λ_=>Sum.inr (if k=0 then s else g (x+k-1))) (findN err x k)
 |0,x,s=>by simp[runN,findN]
 |k+1,x,s=>by
  unfold runN findN qI0;cases err x with
  |some e=>rfl
  |none=>
   simp only;have ih:=qNu err g k (x+1) (g x);unfold qI0 at ih;rw[ih];cases findN err (x+1) k with
   |inl e=>rfl
   |inr u=>
    simp only[Nat.add_eq_zero_iff,Nat.one_ne_zero,and_false,if_false,Sum.elim_inr]
    congr 1
    by_cases hk:k=0
    ·subst hk;rw[if_pos rfl];rfl
    ·rw[if_neg hk];congr 1;omega
theorem qYn (s:Scan):qG6 s=some (LJ s):=by
 unfold qG6 LJ;by_cases h2:s.Rings.length<2
 ·rw[if_pos h2,ki (by omega)];rfl
 rw[if_neg h2,kf (by omega)];by_cases h24:24<s.Rings.length
 ·rw[if_pos h24,ki (by omega)];rfl
 rw[if_neg h24,kf (by omega)];have L:=qDp s.Rings.length (λn l i=>jD s n l i) (qI0 (errR s) (λx=>(rgs s x).Z)) (λr=>r) (λx l=>x=0\/l=(rgs s (x-1)).Z) (λn x l hx hi=>by
   have e:jD s (n+1) l (x:Int)=match errR s x with|some e=>some (.inl e)|none=>jD s n (rgs s x).Z ((x+1:Nat):Int):=by
    rw[jD,ki (by omega),zR (by omega)];simp only[kp,kg,gB,SA,kd,RD,wH (show x<4611686018427387904 by omega),zR (i:=0) (n:=s.Rings.length) (by omega)];unfold errR rgs;cases hc:WB (s.Rings.getD x du) !=0 with
    |true=>rfl
    |false=>
     simp only[kv];by_cases hx0:x=0
     ·subst hx0;rw[show(((0:Nat):Int)==0)=true from rfl,kf (show¬((0:Nat):Int)>0 by omega)];cases (s.Rings.getD 0 du).Z !=0 with
      |true=>rfl
      |false=>cases (((s.Rings.getD 0 du).Read.length:Nat):Int) !=(((s.Rings.getD 0 du).Read.length:Nat):Int)<;>rfl
     ·have hl:l=(rgs s (x-1)).Z:=hi.resolve_left hx0;subst hl;unfold rgs;rw[show(((x:Nat):Int)==0)=false by rw[kT];omega,ki (show((x:Nat):Int)>0 by omega),kf hx0,ki (show 0<x by omega)];cases decide ((s.Rings.getD x du).Z<=(s.Rings.getD (x-1) du).Z) with
      |true=>rfl
      |false=>cases ((s.Rings.getD x du).Read.length:Int) !=(((s.Rings.getD 0 du).Read.length:Nat):Int)<;>rfl
   unfold qI0;cases he:errR s x with
   |some q=>rw[he] at e;exact e
   |none=>rw[he] at e;exact⟨e,.inr (by rw[Nat.add_sub_cancel])⟩)
  (λn l _=>by show jD s (n+1) l _=_;rw[jD,kf (by omega)];rfl) FUEL 0 0 (by rw[FUEL_eq];omega) (by omega) (.inl rfl)
 rw[qNu,if_neg (show¬s.Rings.length-0=0 by omega),show 0+(s.Rings.length-0)-1=s.Rings.length-1 by omega,gv] at L;have L':jD s FUEL 0 0=some (Sum.elim Sum.inl (λ_=>Sum.inr (rgs s (s.Rings.length-1)).Z) (findN (errR s) 0 s.Rings.length)):=L;rw[L'];simp only[kv,kd];cases findN (errR s) 0 s.Rings.length with
 |inl e=>rfl
 |inr u=>
  simp only[Sum.elim_inr,qSh,kd];by_cases h13:BE s.Defects=0
  ·rw[h13,if_neg (by simp)];simp only[kQ,kv];have:=qR4 s (endZ s) (DH s (endZ s)) ((NN _).1 h13).1 (λn x hx=>by
    rw[DH,ki (by omega),zR (by omega)];simp only[kp,kg,wH (show x<4611686018427387904 by have:=((NN _).1 h13).1;omega)]) (λn=>by rw[DH,kf (by omega)];rfl)
   rw[show(rgs s (s.Rings.length-1)).Z=endZ s from rfl,this];simp only[kd];cases findE (errZ (endZ s)) s.Defects<;>rfl
  ·rw[show(BE s.Defects !=0)=true by rw[gg];exact h13,if_pos h13];rfl
theorem qZi {s:Scan} {x:Nat} (h:errR s x=none):yG (rgs s x)/\(x=0->(rgs s x).Z=0)/\(0<x->(rgs s (x-1)).Z<(rgs s x).Z)/\(rgs s x).Read.length=(rgs s 0).Read.length:=by
 unfold errR at h;cases h1:WB (rgs s x) !=0 with
 |true=>rw[h1] at h;cases h
 |false=>
  rw[h1] at h;simp only[kv] at h;cases h2:(decide (x=0)&&((rgs s x).Z !=0))||(decide (0<x)&&decide ((rgs s x).Z<=(rgs s (x-1)).Z)) with
  |true=>rw[h2] at h;cases h
  |false=>
   rw[h2] at h;simp only[kv] at h;cases h3:((rgs s x).Read.length:Int) !=(((rgs s 0).Read.length:Nat):Int) with
   |true=>rw[h3] at h;cases h
   |false=>
    simp only[gf,Bool.and_eq_false_iff,decide_eq_false_iff_not,bne_eq_false_iff_eq] at h1 h2 h3;exact⟨(XD _).1 h1,λhx=>h2.1.resolve_left (λq=>q hx),λhx=>by rcases h2.2 with q|q<;>omega,by omega⟩
structure V15 (s:Scan):Prop where
 two:2<=s.Rings.length
 many:s.Rings.length<=24
 good:∀x,x<s.Rings.length->yG (rgs s x)
 zero:(rgs s 0).Z=0
 up:∀x,0<x->x<s.Rings.length->(rgs s (x-1)).Z<(rgs s x).Z
 same:∀x,x<s.Rings.length->(rgs s x).Read.length=(rgs s 0).Read.length
 def13:BE s.Defects=0
 ends:∀d∈s.Defects,d.Box.Z.B<=endZ s
theorem qR7 {z:Int} {d:qH}:errZ z d=none↔d.Box.Z.B<=z:=by
 unfold errZ;by_cases h:d.Box.Z.B>z
 ·rw[ki h];simp;omega
 ·rw[kf h];simp;omega
theorem qQF (s:Scan):LJ s=0↔V15 s:=by
 unfold LJ;by_cases h2:s.Rings.length<2
 ·rw[if_pos h2];exact⟨λh=>absurd h (by decide),λh=>by have:=h.two;omega⟩
 rw[if_neg h2];by_cases h24:24<s.Rings.length
 ·rw[if_pos h24];exact⟨λh=>absurd h (by decide),λh=>by have:=h.many;omega⟩
 rw[if_neg h24];cases hf:findN (errR s) 0 s.Rings.length with
 |inl e=>
  obtain⟨i,_,hi,he,_⟩:=qPS hf;simp only;refine⟨λh=>?_,λh=>?_⟩
  ·subst h;unfold errR at he;cases h1:WB (rgs s i) !=0 with
   |true=>rw[h1] at he;simp only[kp,uC] at he;rw[he] at h1;cases h1
   |false=>
    rw[h1] at he;simp only[kv] at he;cases h2:(decide (i=0)&&((rgs s i).Z !=0))||(decide (0<i)&&decide ((rgs s i).Z<=(rgs s (i-1)).Z))<;>rw[h2] at he<;>simp only[kp,kv] at he
    ·cases h3:((rgs s i).Read.length:Int) !=(((rgs s 0).Read.length:Nat):Int)<;>rw[h3] at he<;>cases he
    ·cases he
  ·have hi':i<s.Rings.length:=by omega
   exfalso;have:errR s i=none:=by
    unfold errR;rw[show WB (rgs s i)=0 from(XD _).2 (h.good i hi'),h.same i hi'];simp only[kQ,kv];have:((decide (i=0)&&((rgs s i).Z !=0))||(decide (0<i)&&decide ((rgs s i).Z<=(rgs s (i-1)).Z)))=false:=by
     by_cases h0:i=0
     ·subst h0;rw[h.zero];simp
     ·rw[kf h0,kf (show¬(rgs s i).Z<=(rgs s (i-1)).Z by have:=h.up i (by omega) hi';omega)];simp
    rw[this];rfl
   rw[this] at he;cases he
 |inr u=>
  have hn:=qID.1 hf;simp only;by_cases h13:BE s.Defects=0
  ·rw[if_neg (by simpa using h13)];cases hz:findE (errZ (endZ s)) s.Defects with
   |inl e=>
    simp only;obtain⟨d,hd,he⟩:=qFQ hz;refine⟨λh=>?_,λh=>?_⟩
    ·subst h;unfold errZ at he;cases h3:decide (d.Box.Z.B>endZ s)<;>rw[h3] at he<;>cases he
    ·rw[qR7.2 (h.ends d hd)] at he;cases he
   |inr u=>
    have hz':=qA3.1 hz;have e:∀x,x<s.Rings.length->_:=λx hx=>qZi (hn x (by omega) (by omega));exact⟨λ_=>⟨by omega,by omega,λx hx=>(e x hx).1,(e 0 (by omega)).2.1 rfl,λx h0 hx=>(e x hx).2.2.1 h0,λx hx=>(e x hx).2.2.2,h13,λd hd=>qR7.1 (hz' d hd)⟩,λ_=>rfl⟩
  ·rw[if_pos h13];exact⟨λh=>absurd h h13,λh=>absurd h.def13 h13⟩
noncomputable def secR (r:Ring) (limit most:Int):qG×Int:=bif rg_canFill (rg_cleaned r limit) most then ofR (fill (rg_cleaned r limit)) else(nilS,30)
theorem q0a {a:Ring} (g:yG a) {most:Int} (h:rg_canFill a most=true):(fill a).length=a.Read.length:=by
 refine(qE8 a g ?_).1;unfold rg_canFill at h;rw[kq] at h;have:=h.1;simp only[uv,decide_eq_false_iff_not] at this;omega
theorem sec_eq (r:Ring) (g:yG r) (limit most:Int):DP r limit most=some (secR r limit most)/\qJx r limit most=some ((secR r limit most).1,(secR r limit most).2==0):=by
 have g':=qPi r g limit;have hi:=g.hi;unfold DP qJx secR;rw[qTg r limit (by omega),qWc r limit (by omega)];simp only[kd];rw[show(Ring.mk (rg_cleaned r limit).Z (rg_cleaned r limit).Read)=rg_cleaned r limit from rfl,qRu _ g',qTu _ g'];simp only[kd];cases hc:rg_canFill (rg_cleaned r limit) most with
 |false=>exact⟨rfl,rfl⟩
 |true=>
  simp only[kp,kQ,kv];have hl:(fill (rg_cleaned r limit)).length<=40:=by
   rw[q0a g' hc];have:=g'.hi;omega
  rw[(Of_eq _ hl).1,(Of_eq _ hl).2];exact⟨rfl,rfl⟩
theorem qXb (r:Ring) (limit most:Int):VS (secR r limit most).1:=by
 unfold secR;cases rg_canFill (rg_cleaned r limit) most with
 |false=>exact qKP
 |true=>exact ofR_VS _
noncomputable def secI (s:Scan) (l m:Int) (i:Nat):qG×Int:=secR (rgs s i) l m
noncomputable def qO3 (s:Scan) (l m:Int) (i:Nat):qG:=qGe (secI s l m i).1 (secI s l m (i+1)).1
noncomputable def slI (s:Scan) (l m:Int) (i:Nat):qO:=⟨(rgs s (i+1)).Z-(rgs s i).Z,qO3 s l m i⟩
noncomputable def er1 (s:Scan) (l m:Int) (i:Nat):Option (List qO×Int):=if(secI s l m i).2≠0 then some ([],30) else none
noncomputable def er2 (s:Scan) (l m:Int) (i:Nat):Option (List qO×Int):=if(qO3 s l m i).Rows=[] then some ([],30) else none
noncomputable def qBL (s:Scan) (l m:Int):List qO×Int:=
 if LJ s≠0 then([],LJ s)
 else match findN (er1 s l m) 0 s.Rings.length with
  | .inl e=>e
  | .inr _=>match findN (er2 s l m) 0 (s.Rings.length-1) with
   | .inl e=>e
   | .inr _=>((List.range (s.Rings.length-1)).map (slI s l m),0)
theorem meet_at (s:Scan) (l m:Int) (i:Nat):DR (secI s l m i).1 (secI s l m (i+1)).1=some (qO3 s l m i)/\qIA (secI s l m i).1 (secI s l m (i+1)).1=some (qO3 s l m i):=by
 have h:=Meet_eq (secI s l m i).1 (secI s l m (i+1)).1;rw[qUu (show VS (secI s l m i).1 from qXb _ _ _),qUu (show VS (secI s l m (i+1)).1 from qXb _ _ _)] at h;exact h
theorem rows0 (x:qG):((x.Rows.length:Int)==0)=decide (x.Rows=[]):=by
 cases hx:x.Rows with
 |nil=>rfl
 |cons a l=>rw[kf (by simp)];rw[kT];simp;omega
def XT {α:Type} (f:Nat->α) (z:α) (N x:Nat):List α:=(List.range N).map (λi=>if i<x then f i else z)
theorem qGi {α:Type} (f:Nat->α) (z:α) (N x:Nat):(XT f z N x).length=N:=by simp[XT]
theorem qOY {α:Type} (f:Nat->α) (z:α) (N:Nat):XT f z N 0=List.replicate N z:=by
 refine gE (by simp[XT]) λi h1 h2=>?_;simp[XT]
theorem qSC {α:Type} (f:Nat->α) (z:α) (N:Nat):XT f z N N=(List.range N).map f:=by
 refine gE (by simp[XT]) λi h1 h2=>?_;simp only[XT,gy,uD] at h1;simp only[XT,List.getElem_map,List.getElem_range,if_pos h1]
theorem partF_set {α:Type} (f:Nat->α) (z:α) (N x:Nat):(XT f z N x).set x (f x)=XT f z N (x+1):=by
 refine gE (by simp[XT]) λi h1 h2=>?_;by_cases h:i=x
 ·subst h;simp[XT]
 ·rw[List.getElem_set_ne (by omega)];simp only[XT,List.getElem_map,List.getElem_range];by_cases h3:i<x
  ·rw[if_pos h3,if_pos (by omega)]
  ·rw[if_neg h3,if_neg (by omega)]
theorem qR8 {α ρ:Type} (N:Nat) (L:Nat->List α->Int->Option (ρ⊕List α)) (err:Nat->Option ρ) (f:Nat->α) (z:α) (hN:N<=1000000000)
  (h0:∀n x l,x<N->l.length=N->L (n+1) l (x:Int)=match err x with|some e=>some (.inl e)|none=>L n (l.set x (f x)) ((x+1:Nat):Int))
  (h1:∀n l,l.length=N->L (n+1) l (N:Int)=some (.inr l)):
  L FUEL (List.replicate N z) 0=some (Sum.elim Sum.inl (λ_=>Sum.inr ((List.range N).map f)) (findN err 0 N)):=by
 have h:=qDp N L (qI0 err (λx=>XT f z N (x+1))) (λr=>r) (λx l=>l=XT f z N x) (λn x l hx hi=>by
   subst hi;have e:=h0 n x _ hx (qGi f z N x);unfold qI0;cases he:err x with
   |some q=>rw[he] at e;exact e
   |none=>rw[he] at e;simp only[partF_set] at e;exact⟨e,rfl⟩)
  (λn l hi=>h1 n l (by rw[hi,qGi])) FUEL 0 (XT f z N 0) (by rw[FUEL_eq];omega) (by omega) rfl
 rw[qOY,qNu,gv] at h;rw[show((0:Nat):Int)=0 from rfl] at h;rw[h];cases findN err 0 N with
 |inl e=>rfl
 |inr u=>
  simp only[Sum.elim_inr];by_cases hn:N=0
  ·subst hn;rfl
  ·rw[if_neg hn,show 0+N-1+1=N by omega,qSC]
theorem qZE (s:Scan) (l m:Int):EA s l m=some (qBL s l m):=by
 unfold EA qBL;rw[qUH];simp only[kd];by_cases hc:¬LJ s=0
 ·rw[show(LJ s !=0)=true from gg.2 hc,if_pos hc];rfl
 have hc:LJ s=0:=Classical.not_not.1 hc;rw[hc,if_neg (by simp)];simp only[kQ,kv];have v:=(qQF s).1 hc;have v2:=v.two;have v24:=v.many;rw[qE1 (by omega) (by omega)];have L1:=qR8 s.Rings.length (TN s l m) (er1 s l m) (λi=>(secI s l m i).1) (qG.mk 0 ([]:List Span)) (by omega) (λn x t hx ht=>by
  rw[TN,ki (by omega),zR (by omega)];simp only[kp,kg];rw[(sec_eq (s.Rings.getD x du) (v.good x hx) l m).1];simp only[kd];unfold er1 secI rgs;by_cases he:(secR (s.Rings.getD x du) l m).2=0
  ·rw[he,if_neg (by simp),zR (by omega),wH (by omega)];rfl
  ·rw[if_pos he,show((secR (s.Rings.getD x du) l m).2 !=0)=true from gg.2 he];rfl) (λn t ht=>by
  rw[TN,kf (by omega)];rfl)
 rw[kg,L1];simp only[kp,kd];cases findN (er1 s l m) 0 s.Rings.length with
 |inl e=>rfl
 |inr u=>
  simp only[Sum.elim_inr];rw[w64_o (by omega),show(s.Rings.length:Int)-1=((s.Rings.length-1:Nat):Int) by omega,qE1 (by omega) (by omega),kg];have L2:=qR8 (s.Rings.length-1) (UC s ((List.range s.Rings.length).map λi=>(secI s l m i).1)) (er2 s l m) (slI s l m) (qO.mk 0 (qG.mk 0 ([]:List Span))) (by omega) (λn x t hx ht=>by
   have gm:∀j,j<s.Rings.length->((List.range s.Rings.length).map λi=>(secI s l m i).1).getD j du=(secI s l m j).1:=λj hj=>by
    rw[ka,kH,gG hj];rfl
   have hl:((List.range s.Rings.length).map λi=>(secI s l m i).1).length=s.Rings.length:=by simp
   rw[UC,w64_o (n:=(s.Rings.length:Int)-1) (by omega),show(s.Rings.length:Int)-1=((s.Rings.length-1:Nat):Int) by omega,kg,ki (by omega),hl,wH (show x<4611686018427387904 by omega),zR (by omega),zR (i:=((x+1:Nat):Int)) (by omega)];simp only[kp,kg];rw[gm x (by omega),gm (x+1) (by omega),(meet_at s l m x).1];simp only[kd];rw[rows0];unfold er2;by_cases he:(qO3 s l m x).Rows=[]
   ·rw[ki he,if_pos he];rfl
   ·rw[kf he,if_neg he,zR (by omega)];have g1:=(v.good x (by omega)).z0;have g2:=(v.good x (by omega)).z1;have g3:=(v.good (x+1) (by omega)).z0;have g4:=(v.good (x+1) (by omega)).z1;rw[show(s.Rings.getD (x+1) du).Z=(rgs s (x+1)).Z from rfl,show(s.Rings.getD x du).Z=(rgs s x).Z from rfl,w64_o (by omega)];rfl) (λn t ht=>by
   rw[UC,w64_o (n:=(s.Rings.length:Int)-1) (by omega),show(s.Rings.length:Int)-1=((s.Rings.length-1:Nat):Int) by omega,kg,kf (by omega)];rfl)
  rw[L2];simp only[kp,kd];cases findN (er2 s l m) 0 (s.Rings.length-1) with
  |inl e=>rfl
  |inr u=>rfl
structure qFn (s:Scan):Prop where
 r:s.Rings.length<=1000000
 d:s.Defects.length<=1000000
 p:∀i,i<s.Rings.length->(rgs s i).Read.length<=1000000
theorem qQr {α β:Type} (N:Nat) (L:Nat->List α->Int->Option β) (f:Nat->α) (z:α) (out:List α->β) (hN:N<=1000000000)
  (h0:∀n x l,x<N->l.length=N->L (n+1) l (x:Int)=L n (l.set x (f x)) ((x+1:Nat):Int))
  (h1:∀n l,l.length=N->L (n+1) l (N:Int)=some (out l)):L FUEL (List.replicate N z) 0=some (out ((List.range N).map f)):=by
 have h:=EG N L (λx _=>XT f z N (x+1)) out (λx l=>l=XT f z N x) 0 (by omega) hN (λn x l hx hi=>by
   subst hi;exact⟨by rw[h0 n x _ hx (qGi f z N x),partF_set],rfl⟩) (λn l hi=>h1 n l (by rw[hi,qGi])) (XT f z N 0) rfl
 obtain⟨e1,e2⟩:=h;rw[e2,qOY,qSC] at e1;exact e1
theorem qUx {α β:Type} (N:Nat) (L:Nat->List α->Int->Option β) (f:Nat->α) (out:List α->β) (hN:N<=1000000000)
  (h0:∀n x l,x<N->l.length=x->L (n+1) l (x:Int)=L n (l++[f x]) ((x+1:Nat):Int))
  (h1:∀n l,l.length=N->L (n+1) l (N:Int)=some (out l)):L FUEL [] 0=some (out ((List.range N).map f)):=by
 have h:=EG N L (λx l=>l++[f x]) out (λx l=>l=(List.range x).map f) 0 (by omega) hN (λn x l hx hi=>⟨h0 n x l hx (by rw[hi];simp),by
   rw[hi,List.range_succ,List.map_append];rfl⟩) (λn l hi=>h1 n l (by rw[hi];simp)) [] rfl
 obtain⟨e1,e2⟩:=h;rw[e2] at e1;exact e1
def stepB (t:Int×Int×Int×Int):Int×Int×Int×Int:=(w64 (0-t.2.2.2),w64 (0-t.2.2.1),t.1,t.2.1)
def qTG (q:Nat) (d:qH):Int×Int×Int×Int:=qI3 (λ_ t=>stepB t) 0 q (d.Box.X.A,d.Box.X.B,d.Box.Y.A,d.Box.Y.B)
def qQQ (q:Nat) (d:qH):qH:=qH.mk d.Kind (Box.mk (Span.mk (qTG q d).1 (qTG q d).2.1) (Span.mk (qTG q d).2.2.1 (qTG q d).2.2.2) d.Box.Z)
theorem qZX (l:List qH) (r:Int) (q:Nat) (hq:q<4) (e:Int.tmod (w64 (Int.tmod r 4+4)) 4=(q:Int)) (x:Nat):ZB l r x FUEL 0 (l.getD x du).Box.X.A (l.getD x du).Box.X.B (l.getD x du).Box.Y.A (l.getD x du).Box.Y.B=some (qQQ q (l.getD x du)):=by
 have k:=(EG q (λn (t:Int×Int×Int×Int) i=>ZB l r x n i t.1 t.2.1 t.2.2.1 t.2.2.2) (λ_ t=>stepB t) (λt=>qH.mk (l.getD x du).Kind (Box.mk (Span.mk t.1 t.2.1) (Span.mk t.2.2.1 t.2.2.2) (l.getD x du).Box.Z)) (λ_ _=>True) 0 (by omega) (by omega) (λn i t hi _=>⟨by
   show ZB l r x (n+1) (i:Int) t.1 t.2.1 t.2.2.1 t.2.2.2=_;rw[ZB,e,ki (by omega),wH (by omega)];rfl,trivial⟩) (λn t _=>by
   show ZB l r x (n+1) (q:Int) t.1 t.2.1 t.2.2.1 t.2.2.2=_;rw[ZB,e,kf (by omega),kg];rfl) ((l.getD x du).Box.X.A,(l.getD x du).Box.X.B,(l.getD x du).Box.Y.A,(l.getD x du).Box.Y.B) trivial).1
 exact k
theorem qZ5 (l:List qH) (r:Int) (q:Nat) (hq:q<4) (e:Int.tmod (w64 (Int.tmod r 4+4)) 4=(q:Int)) (x:Nat):JM l r x FUEL 0 (l.getD x du).Box.X.A (l.getD x du).Box.X.B (l.getD x du).Box.Y.A (l.getD x du).Box.Y.B (l.getD x du).Box.Z.A (l.getD x du).Box.Z.B=some (qQQ q (l.getD x du)):=by
 have k:=(EG q (λn (t:Int×Int×Int×Int) i=>JM l r x n i t.1 t.2.1 t.2.2.1 t.2.2.2 (l.getD x du).Box.Z.A (l.getD x du).Box.Z.B) (λ_ t=>stepB t) (λt=>qH.mk (l.getD x du).Kind (Box.mk (Span.mk t.1 t.2.1) (Span.mk t.2.2.1 t.2.2.2) (l.getD x du).Box.Z)) (λ_ _=>True) 0 (by omega) (by omega) (λn i t hi _=>⟨by
   show JM l r x (n+1) (i:Int) t.1 t.2.1 t.2.2.1 t.2.2.2 _ _=_;rw[JM,GQ,e];simp only[kd];rw[ki (by omega),wH (by omega)];rfl,trivial⟩) (λn t _=>by
   show JM l r x (n+1) (q:Int) t.1 t.2.1 t.2.2.1 t.2.2.2 _ _=_;rw[JM,GQ,e];simp only[kd];rw[kf (by omega),kg];rfl) ((l.getD x du).Box.X.A,(l.getD x du).Box.X.B,(l.getD x du).Box.Y.A,(l.getD x du).Box.Y.B) trivial).1
 exact k
def qHF (q:Nat) (l:List qH):List qH:=(List.range l.length).map (λx=>qQQ q (l.getD x du))
theorem q0e (l:List qH) (r:Int) (q:Nat) (hq:q<4) (e:Int.tmod (w64 (Int.tmod r 4+4)) 4=(q:Int)) (h:BE l=0):IJ l r=some (qHF q l)/\qIB l r=some (qHF q l):=by
 have hl:=((NN _).1 h).1;unfold IJ qIB;rw[qE9,qSh,h,qE1 (by omega) (by omega),kg];have L1:=qQr l.length (λn t i=>WI l r n t i) (λx=>qQQ q (l.getD x du)) (qH.mk 0 (Box.mk (Span.mk 0 0) (Span.mk 0 0) (Span.mk 0 0))) id (by omega) (λn x t hx ht=>by
   show WI l r (n+1) t (x:Int)=_;rw[WI,ki (by omega),zR (by omega),kg,qZX l r q hq e x,zR (by omega),wH (by omega)];rfl) (λn t ht=>by
   show WI l r (n+1) t _=_;rw[WI,kf (by omega)];rfl)
 have L2:=qUx l.length (λn t i=>KV l r n t i) (λx=>qQQ q (l.getD x du)) id (by omega) (λn x t hx ht=>by
   show KV l r (n+1) t (x:Int)=_;rw[KV,ki (by omega),zR (by omega),kg,qZ5 l r q hq e x,yC (by omega),wH (by omega)];rfl) (λn t ht=>by
   show KV l r (n+1) t _=_;rw[KV,kf (by omega)];rfl)
 simp only[kd,kQ,kv,kp];rw[L1,L2];exact⟨rfl,rfl⟩
theorem qXL (q:Nat) (l:List qH):(qHF q l).length=l.length:=by simp[qHF]
def qEX (s:Scan) (r:Int):List Ring:=(List.range s.Rings.length).map (λx=>(yX (rgs s x) r).getD du)
theorem qNi (s:Scan) (r:Int) (x:Nat) (h:(rgs s x).Read.length<=1000):yX (s.Rings.getD x du) r=some ((yX (rgs s x) r).getD du)/\NB (s.Rings.getD x du) r=some ((yX (rgs s x) r).getD du)/\((yX (rgs s x) r).getD du).Read.length=(rgs s x).Read.length:=by
 obtain⟨b,e1,e2,e3⟩:=qTa (rgs s x) r h;rw[e1];exact⟨e1,e2,e3⟩
theorem clone15 (s:Scan) (h:qFn s):qBg s=some s:=by
 have hr:=h.r;have hd:=h.d;unfold qBg UR yL;rw[yC (by omega),yC (by omega)];simp only[kp,kd];have L:=(EG s.Rings.length (λn l i=>ZU s.Rings n i l) (λ_ l=>l) id (λ_ l=>l=s.Rings) 0 (by omega) (by omega) (λn x l hx hi=>⟨by
   subst hi;show ZU s.Rings (n+1) (x:Int) s.Rings=_;have hp:(s.Rings.getD x du).Read.length<=1000000:=h.p x hx;rw[ZU,ki (by omega),zR (by omega),kg,QD,yC (by omega),wH (by omega)];simp only[kp,kd];rw[show s.Rings.set x (Ring.mk (s.Rings.getD x du).Z (s.Rings.getD x du).Read)=s.Rings from by
    refine gE (by simp) λj h1 h2=>?_;by_cases hj:x=j
    ·subst hj;rw[List.getElem_set_self,ka,ks hx];rfl
    ·rw[List.getElem_set_ne hj]],hi⟩) (λn l hi=>by
   show ZU s.Rings (n+1) _ l=_;rw[ZU,kf (by omega)];rfl) s.Rings rfl)
 obtain⟨e1,e2⟩:=L;rw[e2] at e1;have e1':ZU s.Rings FUEL 0 s.Rings=some s.Rings:=e1;rw[e1'];rfl
theorem qLG (s:Scan) (r:Int) (h:qFn s):∃t,MV s r=some t/\qPm s r=some t/\qFn t:=by
 unfold MV qPm;rw[qUH,qYn];simp only[kd];by_cases hc:¬LJ s=0
 ·rw[show(LJ s !=0)=true from gg.2 hc,clone15 s h];exact⟨s,rfl,rfl,h⟩
 have hc:LJ s=0:=Classical.not_not.1 hc;have v:=(qQF s).1 hc;have v24:=v.many;have d64:=((NN _).1 v.def13).1;obtain⟨q,hq,e⟩:=qX6 r;obtain⟨k1,k2⟩:=q0e s.Defects r q hq e v.def13;rw[hc,qE1 (by omega) (by omega),kg,k1,k2];have L1:=qQr s.Rings.length (λn t i=>XH s r n i t) (λx=>(yX (rgs s x) r).getD du) (Ring.mk 0 ([]:List qP)) id (by omega) (λn x t hx ht=>by
   show XH s r (n+1) (x:Int) t=_;have:=(v.good x hx).hi;rw[XH,ki (by omega),zR (by omega),kg,(qNi s r x (by omega)).1,zR (by omega),wH (by omega)];rfl) (λn t ht=>by
   show XH s r (n+1) _ t=_;rw[XH,kf (by omega)];rfl)
 have L2:=qUx s.Rings.length (λn t i=>PB s r n i t) (λx=>(yX (rgs s x) r).getD du) id (by omega) (λn x t hx ht=>by
   show PB s r (n+1) (x:Int) t=_;have:=(v.good x hx).hi;rw[PB,ki (by omega),zR (by omega),kg,(qNi s r x (by omega)).2.1,yC (by omega),wH (by omega)];rfl) (λn t ht=>by
   show PB s r (n+1) _ t=_;rw[PB,kf (by omega)];rfl)
 simp only[kd,kQ,kv,kp];rw[L1,L2];refine⟨Scan.mk (qEX s r) (qHF q s.Defects),rfl,rfl,?_,?_,λi hi=>?_⟩
 ·show(qEX s r).length<=_;simp only[qEX,gy,uD];omega
 ·show(qHF q s.Defects).length<=_;rw[qXL];omega
 ·have hi':i<s.Rings.length:=by
   have:i<(qEX s r).length:=hi;simpa[qEX] using this
  show((qEX s r).getD i du).Read.length<=_;have g:=(v.good i hi').hi;unfold qEX;rw[ka,kH,gG hi'];show((yX (rgs s i) r).getD du).Read.length<=_;rw[(qNi s r i (by omega)).2.2];omega
end Saw
end Go.SL

/- Scan's plain mathematics, part 1: defects are checked alike. -/
import Derived.Test.YtigmogcdifllhaaGreatDoorEMa9
import Derived.Test.YtigmogcdifllhaaGreatDoorEMa11
set_option linter.unusedVariables false
set_option linter.unusedSimpArgs false
namespace Go.SL
namespace Saw
def insS (s:Span) (lo hi:Int):Bool:=decide ((lo<=s.A/\lo<=s.B)/\(s.A<=hi/\s.B<=hi))
theorem qXb (s:Span) (lo hi:Int):KD s lo hi=some (insS s lo hi):=by
 unfold KD DS insS;have a:=qP9 s.A s.B;have b:=qG0 s.A s.B;by_cases h1:imin s.A s.B≥lo
 ·rw[kf h1];by_cases h2:imax s.A s.B<=hi
  ·rw[kf h2,kf (by omega)];rfl
  ·rw[ko h2,ko (by omega)];rfl
 ·rw[ko h1,ko (show¬((lo<=s.A/\lo<=s.B)/\(s.A<=hi/\s.B<=hi)) by omega)];rfl
def chkD (d:qG):Int:=
 if d.Kind<1\/6<d.Kind then 10
 else bif empS d.Box.X||(empS d.Box.Y||empS d.Box.Z) then 19
 else bif insS d.Box.X (-600) 600&&(insS d.Box.Y (-600) 600&&insS d.Box.Z 0 20000) then 0 else 9
theorem qYQ (s:Span):QZ s=some (empS s):=rfl
theorem chkD_eq (d:qG):LD d=some (chkD d):=by
 unfold LD NU UI TV chkD;simp only[qYQ,qXb,kd];by_cases h1:d.Kind<1
 ·rw[kf h1,if_pos (.inl h1)];rfl
 rw[ko h1];by_cases h2:d.Kind>6
 ·rw[kf h2,if_pos (.inr h2)];rfl
 rw[ko h2,if_neg (by omega)];cases empS d.Box.X<;>cases empS d.Box.Y<;>cases empS d.Box.Z<;>cases insS d.Box.X (-600) 600<;>cases insS d.Box.Y (-600) 600<;>cases insS d.Box.Z 0 20000<;>rfl
structure VD (d:qG):Prop where
 k1:1<=d.Kind
 k2:d.Kind<=6
 x:d.Box.X.A<d.Box.X.B/\-600<=d.Box.X.A/\d.Box.X.B<=600
 y:d.Box.Y.A<d.Box.Y.B/\-600<=d.Box.Y.A/\d.Box.Y.B<=600
 z:d.Box.Z.A<d.Box.Z.B/\0<=d.Box.Z.A/\d.Box.Z.B<=20000
theorem qYi (d:qG):chkD d=0↔VD d:=by
 unfold chkD;by_cases h1:d.Kind<1\/6<d.Kind
 ·rw[if_pos h1];exact⟨λh=>absurd h (by decide),λh=>by have:=h.k1;have:=h.k2;omega⟩
 rw[if_neg h1];cases hx:empS d.Box.X with
 |true=>exact⟨λh=>absurd (show(19:Int)=0 from h) (by decide),λh=>by have:=h.x;have:=ug hx;omega⟩
 |false=>
 cases hy:empS d.Box.Y with
 |true=>exact⟨λh=>absurd (show(19:Int)=0 from h) (by decide),λh=>by have:=h.y;have:=ug hy;omega⟩
 |false=>
 cases hz:empS d.Box.Z with
 |true=>exact⟨λh=>absurd (show(19:Int)=0 from h) (by decide),λh=>by have:=h.z;have:=ug hz;omega⟩
 |false=>
 have ex:=of_decide_eq_false hx;have ey:=of_decide_eq_false hy;have ez:=of_decide_eq_false hz;unfold insS;by_cases i1:(-600<=d.Box.X.A/\-600<=d.Box.X.B)/\d.Box.X.A<=600/\d.Box.X.B<=600
 ·rw[kf i1];by_cases i2:(-600<=d.Box.Y.A/\-600<=d.Box.Y.B)/\d.Box.Y.A<=600/\d.Box.Y.B<=600
  ·rw[kf i2];by_cases i3:(0<=d.Box.Z.A/\0<=d.Box.Z.B)/\d.Box.Z.A<=20000/\d.Box.Z.B<=20000
   ·rw[kf i3];exact⟨λ_=>⟨by omega,by omega,by omega,by omega,by omega⟩,λ_=>rfl⟩
   ·rw[ko i3];exact⟨λh=>absurd h (by decide),λh=>by have:=h.z;omega⟩
  ·rw[ko i2];exact⟨λh=>absurd (show(9:Int)=0 from h) (by decide),λh=>by have:=h.y;omega⟩
 ·rw[ko i1];exact⟨λh=>absurd (show(9:Int)=0 from h) (by decide),λh=>by have:=h.x;omega⟩
def badD (d:qG):Option Int:=bif chkD d !=0 then some (chkD d) else none
def DR (l:List qG):Int:=if 64<l.length then 4 else match findE badD l with| .inl e=>e| .inr _=>0
theorem qE9 (l:List qG):WV l=some (DR l):=by
 unfold WV DR;by_cases h:64<l.length
 ·rw[if_pos h,kf (by omega)];rfl
 rw[if_neg h,ko (by omega)];have L:WJ l FUEL 0=some (findE badD l):=by
  refine FT l (WJ l) badD (by omega) (λn x hx=>?_) (λn=>?_)
  ·rw[WJ,kf (by omega),zU (by omega)];simp only[kp,ki,wH (show x<4611686018427387904 by omega),chkD_eq,kd,badD];cases chkD (l.getD x dd) !=0<;>rfl
  ·rw[WJ,ko (by omega)];rfl
 rw[L];simp only[ku,kd];cases findE badD l<;>rfl
theorem qRP {d:qG}:badD d=none↔VD d:=by
 rw[<-qYi];unfold badD;by_cases h:chkD d=0
 ·rw[h];simp
 ·rw[show(chkD d !=0)=true by rw[gx];exact h];simp[h]
theorem YN (l:List qG):DR l=0↔l.length<=64/\∀d∈l,VD d:=by
 unfold DR;by_cases h:64<l.length
 ·rw[if_pos h];exact⟨λh=>absurd h (by decide),λh=>by omega⟩
 rw[if_neg h];cases hf:findE badD l with
 |inl e=>
  obtain⟨a,ha,hb⟩:=qFX hf;simp only;have hn:e≠0:=by
   unfold badD at hb;cases hc:chkD a !=0 with
   |true=>rw[hc] at hb;cases hb;exact gx.1 hc
   |false=>rw[hc] at hb;cases hb
  exact⟨λh=>absurd h hn,λh=>by rw[qRP.2 (h.2 a ha)] at hb;cases hb⟩
 |inr u=>exact⟨λ_=>⟨by omega,λd hd=>qRP.1 (qAg.1 hf d hd)⟩,λ_=>rfl⟩
theorem qXW (b:Box):EX b=some (empS b.X||(empS b.Y||empS b.Z)):=by
 unfold EX VK empS;show(bif decide (b.X.B<=b.X.A) then _ else bif decide (b.Y.B<=b.Y.A) then _ else some (decide (b.Z.B<=b.Z.A)))=_;cases decide (b.X.B<=b.X.A)<;>cases decide (b.Y.B<=b.Y.A)<;>rfl
theorem qT6 {s:Span} (h:empS s=false) (a b:Int):OH s a b=some (insS s a b):=by
 have h':¬s.B<=s.A:=of_decide_eq_false h;unfold OH qCa insS;by_cases c1:a<=s.A
 ·rw[kf c1];simp only[kp]
  congr 1
  rw[decide_eq_decide];omega
 ·rw[ko c1,ko (show¬((a<=s.A/\a<=s.B)/\(s.A<=b/\s.B<=b)) from λq=>c1 q.1.1)];rfl
theorem qXz {b:Box} (h:(empS b.X||(empS b.Y||empS b.Z))=false):LH b=some (insS b.X (-600) 600&&(insS b.Y (-600) 600&&insS b.Z 0 20000)):=by
 have h1:empS b.X=false:=by cases e:empS b.X with|false=>rfl|true=>rw[e] at h;cases h
 have h2:empS b.Y=false:=by cases e:empS b.Y with|false=>rfl|true=>rw[h1,e] at h;cases h
 have h3:empS b.Z=false:=by cases e:empS b.Z with|false=>rfl|true=>rw[h1,h2,e] at h;cases h
 unfold LH UA;simp only[qT6 h1,qT6 h2,qT6 h3,kd];cases insS b.X (-600) 600<;>cases insS b.Y (-600) 600<;>rfl
theorem qRG (l:List qG):NL l=some (DR l):=by
 unfold NL DR;by_cases h:64<l.length
 ·rw[if_pos h,kf (by omega)];rfl
 rw[if_neg h,ko (by omega)];have L:QS l FUEL 0=some (findE badD l):=by
  refine FT l (QS l) badD (by omega) (λn x hx=>?_) (λn=>?_)
  ·rw[QS,kf (by omega),zU (by omega)];simp only[kp,ki,wH (show x<4611686018427387904 by omega),HF,qXW,kd];rw[zU (by omega)];unfold badD chkD;by_cases h1:(l.getD x dd).Kind<1
   ·rw[kf h1,if_pos (.inl h1)];rfl
   rw[ko h1];by_cases h2:(l.getD x dd).Kind>6
   ·rw[kf h2,if_pos (.inr h2)];rfl
   rw[ko h2,if_neg (by omega)];simp only[ku,kp];cases he:(empS (l.getD x dd).Box.X||(empS (l.getD x dd).Box.Y||empS (l.getD x dd).Box.Z)) with
   |true=>rfl
   |false=>
    rw[qXz he];cases (insS (l.getD x dd).Box.X (-600) 600&&(insS (l.getD x dd).Box.Y (-600) 600&&insS (l.getD x dd).Box.Z 0 20000))<;>rfl
  ·rw[QS,ko (by omega)];rfl
 rw[L];simp only[ku,kd];cases findE badD l<;>rfl
def rgs (s:Scan) (x:Nat):Ring:=s.Rings.getD x dd
def errR (s:Scan) (x:Nat):Option Int:=
 bif JS (rgs s x) !=0 then some (JS (rgs s x))
 else bif (decide (x=0)&&((rgs s x).Z !=0))||(decide (0<x)&&decide ((rgs s x).Z<=(rgs s (x-1)).Z)) then some 11
 else bif ((rgs s x).Read.length:Int) !=(((rgs s 0).Read.length:Nat):Int) then some 19 else none
def errZ (z:Int) (d:qG):Option Int:=bif decide (d.Box.Z.B>z) then some 9 else none
def endZ (s:Scan):Int:=(rgs s (s.Rings.length-1)).Z
def HS (s:Scan):Int:=
 if s.Rings.length<2 then 3 else if 24<s.Rings.length then 4
 else match findN (errR s) 0 s.Rings.length with
  | .inl e=>e
  | .inr _=>if DR s.Defects≠0 then DR s.Defects else match findE (errZ (endZ s)) s.Defects with| .inl e=>e| .inr _=>0
theorem qRB (s:Scan) (z:Int) (L:Nat->Int->Option (Int⊕Unit)) (hl:s.Defects.length<=64) (h0:∀n x,x<s.Defects.length->L (n+1) ((x:Nat):Int)=bif decide ((s.Defects.getD x dd).Box.Z.B>z) then some (.inl 9) else L n ((x+1:Nat):Int)) (h1:∀n,L (n+1) (s.Defects.length:Int)=some (.inr ())):
  L FUEL 0=some (findE (errZ z) s.Defects):=by
 refine FT s.Defects L (errZ z) (by omega) (λn x hx=>?_) h1;rw[h0 n x hx];unfold errZ;cases decide ((s.Defects.getD x dd).Box.Z.B>z)<;>rfl
theorem qUO (s:Scan):HT s=some (HS s):=by
 unfold HT HS;by_cases h2:s.Rings.length<2
 ·rw[if_pos h2,kf (by omega)];rfl
 rw[if_neg h2,ko (by omega)];by_cases h24:24<s.Rings.length
 ·rw[if_pos h24,kf (by omega)];rfl
 rw[if_neg h24,ko (by omega)];have L:jP s FUEL 0=some (findN (errR s) 0 s.Rings.length):=by
  refine qPI s.Rings.length (jP s) (errR s) 0 (by omega) (by omega) (λn x _ hx=>?_) (λn=>?_)
  ·rw[jP,kf (by omega),zU (by omega)];simp only[kp,ki,gy,IE,kd,XU,wH (show x<4611686018427387904 by omega),zU (i:=0) (n:=s.Rings.length) (by omega)];unfold errR rgs;cases hc:JS (s.Rings.getD x dd) !=0 with
   |true=>rfl
   |false=>
    simp only[ku];by_cases hx0:x=0
    ·subst hx0;rw[show(((0:Nat):Int)==0)=true from rfl,ko (show¬((0:Nat):Int)>0 by omega)];cases (s.Rings.getD 0 dd).Z !=0 with
     |true=>rfl
     |false=>cases (((s.Rings.getD 0 dd).Read.length:Nat):Int) !=(((s.Rings.getD 0 dd).Read.length:Nat):Int)<;>rfl
    ·rw[show(((x:Nat):Int)==0)=false by rw[kR];omega,kf (show((x:Nat):Int)>0 by omega),qYe (show-9223372036854775808<=(x:Int)-1 by omega) (by omega),zU (by omega),ko hx0,kf (show 0<x by omega),show((x:Int)-1).toNat=x-1 by omega];cases decide ((s.Rings.getD x dd).Z<=(s.Rings.getD (x-1) dd).Z) with
     |true=>rfl
     |false=>cases ((s.Rings.getD x dd).Read.length:Int) !=(((s.Rings.getD 0 dd).Read.length:Nat):Int)<;>rfl
  ·rw[jP,ko (by omega)];rfl
 rw[L];simp only[ku,kd];cases findN (errR s) 0 s.Rings.length with
 |inl e=>rfl
 |inr u=>
  simp only[Sum.elim_inr,qE9,kd];by_cases h13:DR s.Defects=0
  ·rw[h13,if_neg (by simp)];simp only[kQ,ku];rw[qX (by omega),zU (by omega)];have:=qRB s (endZ s) (RV s) ((YN _).1 h13).1 (λn x hx=>by
    rw[RV,kf (by omega),zU (by omega)];simp only[kp,ki,wH (show x<4611686018427387904 by have:=((YN _).1 h13).1;omega)];rw[qX (by omega),show((s.Rings.length:Int)-1).toNat=s.Rings.length-1 by omega];rfl) (λn=>by rw[RV,ko (by omega)];rfl)
   rw[this];simp only[kp,kd];cases findE (errZ (endZ s)) s.Defects<;>rfl
  ·rw[show(DR s.Defects !=0)=true by rw[gx];exact h13,if_pos h13];rfl
def qIH {ε σ:Type} (err:Nat->Option ε) (g:Nat->σ) (x:Nat) (_:σ):ε⊕σ:=match err x with|some e=> .inl e|none=> .inr (g x)
theorem qMm {ε σ:Type} (err:Nat->Option ε) (g:Nat->σ):∀(k x:Nat) (s:σ),runN (qIH err g) x k s=Sum.elim Sum.inl (λ_=>Sum.inr (if k=0 then s else g (x+k-1))) (findN err x k)
 |0,x,s=>by simp[runN,findN]
 |k+1,x,s=>by
  unfold runN findN qIH;cases err x with
  |some e=>rfl
  |none=>
   simp only;have ih:=qMm err g k (x+1) (g x);unfold qIH at ih;rw[ih];cases findN err (x+1) k with
   |inl e=>rfl
   |inr u=>
    simp only[Nat.add_eq_zero_iff,Nat.one_ne_zero,and_false,if_false,Sum.elim_inr]
    congr 1
    by_cases hk:k=0
    ·subst hk;rw[if_pos rfl];rfl
    ·rw[if_neg hk];congr 1;omega
theorem qXI (s:Scan):EY s=some (HS s):=by
 unfold EY HS;by_cases h2:s.Rings.length<2
 ·rw[if_pos h2,kf (by omega)];rfl
 rw[if_neg h2,ko (by omega)];by_cases h24:24<s.Rings.length
 ·rw[if_pos h24,kf (by omega)];rfl
 rw[if_neg h24,ko (by omega)];have L:=qCF s.Rings.length (λn l i=>wL s n l i) (qIH (errR s) (λx=>(rgs s x).Z)) (λr=>r) (λx l=>x=0\/l=(rgs s (x-1)).Z) (λn x l hx hi=>by
   have e:wL s (n+1) l (x:Int)=match errR s x with|some e=>some (.inl e)|none=>wL s n (rgs s x).Z ((x+1:Nat):Int):=by
    rw[wL,kf (by omega),zU (by omega)];simp only[kp,ki,gy,qFa,kd,YK,wH (show x<4611686018427387904 by omega),zU (i:=0) (n:=s.Rings.length) (by omega)];unfold errR rgs;cases hc:JS (s.Rings.getD x dd) !=0 with
    |true=>rfl
    |false=>
     simp only[ku];by_cases hx0:x=0
     ·subst hx0;rw[show(((0:Nat):Int)==0)=true from rfl,ko (show¬((0:Nat):Int)>0 by omega)];cases (s.Rings.getD 0 dd).Z !=0 with
      |true=>rfl
      |false=>cases (((s.Rings.getD 0 dd).Read.length:Nat):Int) !=(((s.Rings.getD 0 dd).Read.length:Nat):Int)<;>rfl
     ·have hl:l=(rgs s (x-1)).Z:=hi.resolve_left hx0;subst hl;unfold rgs;rw[show(((x:Nat):Int)==0)=false by rw[kR];omega,kf (show((x:Nat):Int)>0 by omega),ko hx0,kf (show 0<x by omega)];cases decide ((s.Rings.getD x dd).Z<=(s.Rings.getD (x-1) dd).Z) with
      |true=>rfl
      |false=>cases ((s.Rings.getD x dd).Read.length:Int) !=(((s.Rings.getD 0 dd).Read.length:Nat):Int)<;>rfl
   unfold qIH;cases he:errR s x with
   |some q=>rw[he] at e;exact e
   |none=>rw[he] at e;exact⟨e,.inr (by rw[Nat.add_sub_cancel])⟩)
  (λn l _=>by show wL s (n+1) l _=_;rw[wL,ko (by omega)];rfl) FUEL 0 0 (by rw[FUEL_eq];omega) (by omega) (.inl rfl)
 rw[qMm,if_neg (show¬s.Rings.length-0=0 by omega),show 0+(s.Rings.length-0)-1=s.Rings.length-1 by omega,go] at L;have L':wL s FUEL 0 0=some (Sum.elim Sum.inl (λ_=>Sum.inr (rgs s (s.Rings.length-1)).Z) (findN (errR s) 0 s.Rings.length)):=L;rw[L'];simp only[ku,kd];cases findN (errR s) 0 s.Rings.length with
 |inl e=>rfl
 |inr u=>
  simp only[Sum.elim_inr,qRG,kd];by_cases h13:DR s.Defects=0
  ·rw[h13,if_neg (by simp)];simp only[kQ,ku];have:=qRB s (endZ s) (PG s (endZ s)) ((YN _).1 h13).1 (λn x hx=>by
    rw[PG,kf (by omega),zU (by omega)];simp only[kp,ki,wH (show x<4611686018427387904 by have:=((YN _).1 h13).1;omega)]) (λn=>by rw[PG,ko (by omega)];rfl)
   rw[show(rgs s (s.Rings.length-1)).Z=endZ s from rfl,this];simp only[kd];cases findE (errZ (endZ s)) s.Defects<;>rfl
  ·rw[show(DR s.Defects !=0)=true by rw[gx];exact h13,if_pos h13];rfl
theorem qXC {s:Scan} {x:Nat} (h:errR s x=none):QX (rgs s x)/\(x=0->(rgs s x).Z=0)/\(0<x->(rgs s (x-1)).Z<(rgs s x).Z)/\(rgs s x).Read.length=(rgs s 0).Read.length:=by
 unfold errR at h;cases h1:JS (rgs s x) !=0 with
 |true=>rw[h1] at h;cases h
 |false=>
  rw[h1] at h;simp only[ku] at h;cases h2:(decide (x=0)&&((rgs s x).Z !=0))||(decide (0<x)&&decide ((rgs s x).Z<=(rgs s (x-1)).Z)) with
  |true=>rw[h2] at h;cases h
  |false=>
   rw[h2] at h;simp only[ku] at h;cases h3:((rgs s x).Read.length:Int) !=(((rgs s 0).Read.length:Nat):Int) with
   |true=>rw[h3] at h;cases h
   |false=>
    simp only[uX,Bool.and_eq_false_iff,decide_eq_false_iff_not,bne_eq_false_iff_eq] at h1 h2 h3;exact⟨(NM _).1 h1,λhx=>h2.1.resolve_left (λq=>q hx),λhx=>by rcases h2.2 with q|q<;>omega,by omega⟩
structure V15 (s:Scan):Prop where
 two:2<=s.Rings.length
 many:s.Rings.length<=24
 good:∀x,x<s.Rings.length->QX (rgs s x)
 zero:(rgs s 0).Z=0
 up:∀x,0<x->x<s.Rings.length->(rgs s (x-1)).Z<(rgs s x).Z
 same:∀x,x<s.Rings.length->(rgs s x).Read.length=(rgs s 0).Read.length
 def13:DR s.Defects=0
 ends:∀d∈s.Defects,d.Box.Z.B<=endZ s
theorem qRu {z:Int} {d:qG}:errZ z d=none↔d.Box.Z.B<=z:=by
 unfold errZ;by_cases h:d.Box.Z.B>z
 ·rw[kf h];simp;omega
 ·rw[ko h];simp;omega
theorem qIs (s:Scan):HS s=0↔V15 s:=by
 unfold HS;by_cases h2:s.Rings.length<2
 ·rw[if_pos h2];exact⟨λh=>absurd h (by decide),λh=>by have:=h.two;omega⟩
 rw[if_neg h2];by_cases h24:24<s.Rings.length
 ·rw[if_pos h24];exact⟨λh=>absurd h (by decide),λh=>by have:=h.many;omega⟩
 rw[if_neg h24];cases hf:findN (errR s) 0 s.Rings.length with
 |inl e=>
  obtain⟨i,_,hi,he,_⟩:=qOA hf;simp only;refine⟨λh=>?_,λh=>?_⟩
  ·subst h;unfold errR at he;cases h1:JS (rgs s i) !=0 with
   |true=>rw[h1] at he;simp only[kp,uz] at he;rw[he] at h1;cases h1
   |false=>
    rw[h1] at he;simp only[ku] at he;cases h2:(decide (i=0)&&((rgs s i).Z !=0))||(decide (0<i)&&decide ((rgs s i).Z<=(rgs s (i-1)).Z))<;>rw[h2] at he<;>simp only[kp,ku] at he
    ·cases h3:((rgs s i).Read.length:Int) !=(((rgs s 0).Read.length:Nat):Int)<;>rw[h3] at he<;>cases he
    ·cases he
  ·have hi':i<s.Rings.length:=by omega
   exfalso;have:errR s i=none:=by
    unfold errR;rw[show JS (rgs s i)=0 from(NM _).2 (h.good i hi'),h.same i hi'];simp only[kQ,ku];have:((decide (i=0)&&((rgs s i).Z !=0))||(decide (0<i)&&decide ((rgs s i).Z<=(rgs s (i-1)).Z)))=false:=by
     by_cases h0:i=0
     ·subst h0;rw[h.zero];simp
     ·rw[ko h0,ko (show¬(rgs s i).Z<=(rgs s (i-1)).Z by have:=h.up i (by omega) hi';omega)];simp
    rw[this];rfl
   rw[this] at he;cases he
 |inr u=>
  have hn:=qH5.1 hf;simp only;by_cases h13:DR s.Defects=0
  ·rw[if_neg (by simpa using h13)];cases hz:findE (errZ (endZ s)) s.Defects with
   |inl e=>
    simp only;obtain⟨d,hd,he⟩:=qFX hz;refine⟨λh=>?_,λh=>?_⟩
    ·subst h;unfold errZ at he;cases h3:decide (d.Box.Z.B>endZ s)<;>rw[h3] at he<;>cases he
    ·rw[qRu.2 (h.ends d hd)] at he;cases he
   |inr u=>
    have hz':=qAg.1 hz;have e:∀x,x<s.Rings.length->_:=λx hx=>qXC (hn x (by omega) (by omega));exact⟨λ_=>⟨by omega,by omega,λx hx=>(e x hx).1,(e 0 (by omega)).2.1 rfl,λx h0 hx=>(e x hx).2.2.1 h0,λx hx=>(e x hx).2.2.2,h13,λd hd=>qRu.1 (hz' d hd)⟩,λ_=>rfl⟩
  ·rw[if_pos h13];exact⟨λh=>absurd h h13,λh=>absurd h.def13 h13⟩
noncomputable def secR (r:Ring) (limit most:Int):qH×Int:=bif rg_canFill (rg_cleaned r limit) most then ofR (fill (rg_cleaned r limit)) else(nilS,30)
theorem qY6 {a:Ring} (g:QX a) {most:Int} (h:rg_canFill a most=true):(fill a).length=a.Read.length:=by
 refine(qEL a g ?_).1;unfold rg_canFill at h;rw[kr] at h;have:=h.1;simp only[ur,decide_eq_false_iff_not] at this;omega
theorem sec_eq (r:Ring) (g:QX r) (limit most:Int):VM r limit most=some (secR r limit most)/\qI7 r limit most=some ((secR r limit most).1,(secR r limit most).2==0):=by
 have g':=qPe r g limit;have hi:=g.hi;unfold VM qI7 secR;rw[qSN r limit (by omega),qTu r limit (by omega)];simp only[kd];rw[show(Ring.mk (rg_cleaned r limit).Z (rg_cleaned r limit).Read)=rg_cleaned r limit from rfl,qQO _ g',qSz _ g'];simp only[kd];cases hc:rg_canFill (rg_cleaned r limit) most with
 |false=>exact⟨rfl,rfl⟩
 |true=>
  simp only[kp,kQ,ku];have hl:(fill (rg_cleaned r limit)).length<=40:=by
   rw[qY6 g' hc];have:=g'.hi;omega
  rw[(Of_eq _ hl).1,(Of_eq _ hl).2];exact⟨rfl,rfl⟩
theorem qWU (r:Ring) (limit most:Int):VS (secR r limit most).1:=by
 unfold secR;cases rg_canFill (rg_cleaned r limit) most with
 |false=>exact qKc
 |true=>exact ofR_VS _
noncomputable def secI (s:Scan) (l m:Int) (i:Nat):qH×Int:=secR (rgs s i) l m
noncomputable def qPq (s:Scan) (l m:Int) (i:Nat):qH:=qFQ (secI s l m i).1 (secI s l m (i+1)).1
noncomputable def slI (s:Scan) (l m:Int) (i:Nat):qN:=⟨(rgs s (i+1)).Z-(rgs s i).Z,qPq s l m i⟩
noncomputable def er1 (s:Scan) (l m:Int) (i:Nat):Option (List qN×Int):=if(secI s l m i).2≠0 then some ([],30) else none
noncomputable def er2 (s:Scan) (l m:Int) (i:Nat):Option (List qN×Int):=if(qPq s l m i).Rows=[] then some ([],30) else none
noncomputable def qA6 (s:Scan) (l m:Int):List qN×Int:=
 if HS s≠0 then([],HS s)
 else match findN (er1 s l m) 0 s.Rings.length with
  | .inl e=>e
  | .inr _=>match findN (er2 s l m) 0 (s.Rings.length-1) with
   | .inl e=>e
   | .inr _=>((List.range (s.Rings.length-1)).map (slI s l m),0)
theorem meet_at (s:Scan) (l m:Int) (i:Nat):GG (secI s l m i).1 (secI s l m (i+1)).1=some (qPq s l m i)/\qIp (secI s l m i).1 (secI s l m (i+1)).1=some (qPq s l m i):=by
 have h:=Meet_eq (secI s l m i).1 (secI s l m (i+1)).1;rw[qTE (show VS (secI s l m i).1 from qWU _ _ _),qTE (show VS (secI s l m (i+1)).1 from qWU _ _ _)] at h;exact h
theorem rows0 (x:qH):((x.Rows.length:Int)==0)=decide (x.Rows=[]):=by
 cases hx:x.Rows with
 |nil=>rfl
 |cons a l=>rw[ko (by simp)];rw[kR];simp;omega
def XC {α:Type} (f:Nat->α) (z:α) (N x:Nat):List α:=(List.range N).map (λi=>if i<x then f i else z)
theorem qFB {α:Type} (f:Nat->α) (z:α) (N x:Nat):(XC f z N x).length=N:=by simp[XC]
theorem qPd {α:Type} (f:Nat->α) (z:α) (N:Nat):XC f z N 0=List.replicate N z:=by
 refine gB (by simp[XC]) λi h1 h2=>?_;simp[XC]
theorem qRi {α:Type} (f:Nat->α) (z:α) (N:Nat):XC f z N N=(List.range N).map f:=by
 refine gB (by simp[XC]) λi h1 h2=>?_;simp only[XC,uZ,uA] at h1;simp only[XC,List.getElem_map,List.getElem_range,if_pos h1]
theorem partF_set {α:Type} (f:Nat->α) (z:α) (N x:Nat):(XC f z N x).set x (f x)=XC f z N (x+1):=by
 refine gB (by simp[XC]) λi h1 h2=>?_;by_cases h:i=x
 ·subst h;simp[XC]
 ·rw[List.getElem_set_ne (by omega)];simp only[XC,List.getElem_map,List.getElem_range];by_cases h3:i<x
  ·rw[if_pos h3,if_pos (by omega)]
  ·rw[if_neg h3,if_neg (by omega)]
theorem qRh {α ρ:Type} (N:Nat) (L:Nat->List α->Int->Option (ρ⊕List α)) (err:Nat->Option ρ) (f:Nat->α) (z:α) (hN:N<=1000000000)
  (h0:∀n x l,x<N->l.length=N->L (n+1) l (x:Int)=match err x with|some e=>some (.inl e)|none=>L n (l.set x (f x)) ((x+1:Nat):Int))
  (h1:∀n l,l.length=N->L (n+1) l (N:Int)=some (.inr l)):
  L FUEL (List.replicate N z) 0=some (Sum.elim Sum.inl (λ_=>Sum.inr ((List.range N).map f)) (findN err 0 N)):=by
 have h:=qCF N L (qIH err (λx=>XC f z N (x+1))) (λr=>r) (λx l=>l=XC f z N x) (λn x l hx hi=>by
   subst hi;have e:=h0 n x _ hx (qFB f z N x);unfold qIH;cases he:err x with
   |some q=>rw[he] at e;exact e
   |none=>rw[he] at e;simp only[partF_set] at e;exact⟨e,rfl⟩)
  (λn l hi=>h1 n l (by rw[hi,qFB])) FUEL 0 (XC f z N 0) (by rw[FUEL_eq];omega) (by omega) rfl
 rw[qPd,qMm,go] at h;rw[show((0:Nat):Int)=0 from rfl] at h;rw[h];cases findN err 0 N with
 |inl e=>rfl
 |inr u=>
  simp only[Sum.elim_inr];by_cases hn:N=0
  ·subst hn;rfl
  ·rw[if_neg hn,show 0+N-1+1=N by omega,qRi]
theorem qY2 (s:Scan) (l m:Int):HJ s l m=some (qA6 s l m):=by
 unfold HJ qA6;rw[qUO];simp only[kd];by_cases hc:¬HS s=0
 ·rw[show(HS s !=0)=true from gx.2 hc,if_pos hc];rfl
 have hc:HS s=0:=Classical.not_not.1 hc;rw[hc,if_neg (by simp)];simp only[kQ,ku];have v:=(qIs s).1 hc;have v2:=v.two;have v24:=v.many;rw[qEI (by omega) (by omega)];have L1:=qRh s.Rings.length (TD s l m) (er1 s l m) (λi=>(secI s l m i).1) (qH.mk 0 ([]:List Span)) (by omega) (λn x t hx ht=>by
  rw[TD,kf (by omega),zU (by omega)];simp only[kp,ki];rw[(sec_eq (s.Rings.getD x dd) (v.good x hx) l m).1];simp only[kd];unfold er1 secI rgs;by_cases he:(secR (s.Rings.getD x dd) l m).2=0
  ·rw[he,if_neg (by simp),zU (by omega),wH (by omega)];rfl
  ·rw[if_pos he,show((secR (s.Rings.getD x dd) l m).2 !=0)=true from gx.2 he];rfl) (λn t ht=>by
  rw[TD,ko (by omega)];rfl)
 rw[ki,L1];simp only[kp,kd];cases findN (er1 s l m) 0 s.Rings.length with
 |inl e=>rfl
 |inr u=>
  simp only[Sum.elim_inr];rw[qX (by omega),show(s.Rings.length:Int)-1=((s.Rings.length-1:Nat):Int) by omega,qEI (by omega) (by omega),ki];have L2:=qRh (s.Rings.length-1) (TG s ((List.range s.Rings.length).map λi=>(secI s l m i).1)) (er2 s l m) (slI s l m) (qN.mk 0 (qH.mk 0 ([]:List Span))) (by omega) (λn x t hx ht=>by
   have gm:∀j,j<s.Rings.length->((List.range s.Rings.length).map λi=>(secI s l m i).1).getD j dd=(secI s l m j).1:=λj hj=>by
    rw[ka,kG,gQ hj];rfl
   have hl:((List.range s.Rings.length).map λi=>(secI s l m i).1).length=s.Rings.length:=by simp
   rw[TG,qX (n:=(s.Rings.length:Int)-1) (by omega),show(s.Rings.length:Int)-1=((s.Rings.length-1:Nat):Int) by omega,ki,kf (by omega),hl,wH (show x<4611686018427387904 by omega),zU (by omega),zU (i:=((x+1:Nat):Int)) (by omega)];simp only[kp,ki];rw[gm x (by omega),gm (x+1) (by omega),(meet_at s l m x).1];simp only[kd];rw[rows0];unfold er2;by_cases he:(qPq s l m x).Rows=[]
   ·rw[kf he,if_pos he];rfl
   ·rw[ko he,if_neg he,zU (by omega)];have g1:=(v.good x (by omega)).z0;have g2:=(v.good x (by omega)).z1;have g3:=(v.good (x+1) (by omega)).z0;have g4:=(v.good (x+1) (by omega)).z1;rw[show(s.Rings.getD (x+1) dd).Z=(rgs s (x+1)).Z from rfl,show(s.Rings.getD x dd).Z=(rgs s x).Z from rfl,qX (by omega)];rfl) (λn t ht=>by
   rw[TG,qX (n:=(s.Rings.length:Int)-1) (by omega),show(s.Rings.length:Int)-1=((s.Rings.length-1:Nat):Int) by omega,ki,ko (by omega)];rfl)
  rw[L2];simp only[kp,kd];cases findN (er2 s l m) 0 (s.Rings.length-1) with
  |inl e=>rfl
  |inr u=>rfl
structure qYr (s:Scan):Prop where
 r:s.Rings.length<=1000000
 d:s.Defects.length<=1000000
 p:∀i,i<s.Rings.length->(rgs s i).Read.length<=1000000
theorem V15.small {s:Scan} (v:V15 s):qYr s:=⟨by have:=v.many;omega,by have:=((YN _).1 v.def13).1;omega,λi hi=>by have:=(v.good i hi).hi;omega⟩
end Saw
end Go.SL

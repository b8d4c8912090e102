/- Scan's plain mathematics, part 1: defects are checked alike. -/
import Derived.Test.YtigmogcdifllhaaGreatDoorEMa9
import Derived.Test.YtigmogcdifllhaaGreatDoorEMa11
set_option linter.unusedVariables false
set_option linter.unusedSimpArgs false
namespace Go.SL
namespace Saw
def insS (s:Span) (lo hi:Int):Bool:=decide ((lo<=s.A/\lo<=s.B)/\(s.A<=hi/\s.B<=hi))
theorem q0p (s:Span) (lo hi:Int):YX s lo hi=some (insS s lo hi):=by
 unfold YX VI insS;have a:=qTm s.A s.B;have b:=qSC s.A s.B;by_cases h1:imin s.A s.B≥lo
 ·rw[kf h1];by_cases h2:imax s.A s.B<=hi
  ·rw[kf h2,kf (by omega)];rfl
  ·rw[kg h2,kg (by omega)];rfl
 ·rw[kg h1,kg (show¬((lo<=s.A/\lo<=s.B)/\(s.A<=hi/\s.B<=hi)) by omega)];rfl
def chkD (d:qH):Int:=
 if d.Kind<1\/6<d.Kind then 10
 else bif empS d.Box.X||(empS d.Box.Y||empS d.Box.Z) then 19
 else bif insS d.Box.X (-600) 600&&(insS d.Box.Y (-600) 600&&insS d.Box.Z 0 20000) then 0 else 9
theorem q0P (s:Span):QA s=some (empS s):=rfl
theorem chkD_eq (d:qH):FM d=some (chkD d):=by
 unfold FM BP PX RN chkD;simp only[q0P,q0p,ke];by_cases h1:d.Kind<1
 ·rw[kf h1,if_pos (.inl h1)];rfl
 rw[kg h1];by_cases h2:d.Kind>6
 ·rw[kf h2,if_pos (.inr h2)];rfl
 rw[kg h2,if_neg (by omega)];cases empS d.Box.X<;>cases empS d.Box.Y<;>cases empS d.Box.Z<;>cases insS d.Box.X (-600) 600<;>cases insS d.Box.Y (-600) 600<;>cases insS d.Box.Z 0 20000<;>rfl
structure VD (d:qH):Prop where
 k1:1<=d.Kind
 k2:d.Kind<=6
 x:d.Box.X.A<d.Box.X.B/\-600<=d.Box.X.A/\d.Box.X.B<=600
 y:d.Box.Y.A<d.Box.Y.B/\-600<=d.Box.Y.A/\d.Box.Y.B<=600
 z:d.Box.Z.A<d.Box.Z.B/\0<=d.Box.Z.A/\d.Box.Z.B<=20000
theorem q1g (d:qH):chkD d=0↔VD d:=by
 unfold chkD;by_cases h1:d.Kind<1\/6<d.Kind
 ·rw[if_pos h1];exact⟨λh=>absurd h (by decide),λh=>by have:=h.k1;have:=h.k2;omega⟩
 rw[if_neg h1];cases hx:empS d.Box.X with
 |true=>exact⟨λh=>absurd (show(19:Int)=0 from h) (by decide),λh=>by have:=h.x;have:=ut hx;omega⟩
 |false=>
 cases hy:empS d.Box.Y with
 |true=>exact⟨λh=>absurd (show(19:Int)=0 from h) (by decide),λh=>by have:=h.y;have:=ut hy;omega⟩
 |false=>
 cases hz:empS d.Box.Z with
 |true=>exact⟨λh=>absurd (show(19:Int)=0 from h) (by decide),λh=>by have:=h.z;have:=ut hz;omega⟩
 |false=>
 have ex:=of_decide_eq_false hx;have ey:=of_decide_eq_false hy;have ez:=of_decide_eq_false hz;unfold insS;by_cases i1:(-600<=d.Box.X.A/\-600<=d.Box.X.B)/\d.Box.X.A<=600/\d.Box.X.B<=600
 ·rw[kf i1];by_cases i2:(-600<=d.Box.Y.A/\-600<=d.Box.Y.B)/\d.Box.Y.A<=600/\d.Box.Y.B<=600
  ·rw[kf i2];by_cases i3:(0<=d.Box.Z.A/\0<=d.Box.Z.B)/\d.Box.Z.A<=20000/\d.Box.Z.B<=20000
   ·rw[kf i3];exact⟨λ_=>⟨by omega,by omega,by omega,by omega,by omega⟩,λ_=>rfl⟩
   ·rw[kg i3];exact⟨λh=>absurd h (by decide),λh=>by have:=h.z;omega⟩
  ·rw[kg i2];exact⟨λh=>absurd (show(9:Int)=0 from h) (by decide),λh=>by have:=h.y;omega⟩
 ·rw[kg i1];exact⟨λh=>absurd (show(9:Int)=0 from h) (by decide),λh=>by have:=h.x;omega⟩
def badD (d:qH):Option Int:=bif chkD d !=0 then some (chkD d) else none
def VK (l:List qH):Int:=if 64<l.length then 4 else match findE badD l with| .inl e=>e| .inr _=>0
theorem qWl (l:List qH):ZY l=some (VK l):=by
 unfold ZY VK;by_cases h:64<l.length
 ·rw[if_pos h,kf (by omega)];rfl
 rw[if_neg h,kg (by omega)];have L:WD l FUEL 0=some (findE badD l):=by
  refine FQ l (WD l) badD (by omega) (λn x hx=>?_) (λn=>?_)
  ·rw[WD,kf (by omega),zT (by omega)];simp only[ko,kr,wE (show x<4611686018427387904 by omega),chkD_eq,ke,badD];cases chkD (l.getD x dd) !=0<;>rfl
  ·rw[WD,kg (by omega)];rfl
 rw[L];simp only[ku,ke];cases findE badD l<;>rfl
theorem qUa {d:qH}:badD d=none↔VD d:=by
 rw[<-q1g];unfold badD;by_cases h:chkD d=0
 ·rw[h];simp
 ·rw[show(chkD d !=0)=true by rw[gb];exact h];simp[h]
theorem MU (l:List qH):VK l=0↔l.length<=64/\∀d∈l,VD d:=by
 unfold VK;by_cases h:64<l.length
 ·rw[if_pos h];exact⟨λh=>absurd h (by decide),λh=>by omega⟩
 rw[if_neg h];cases hf:findE badD l with
 |inl e=>
  obtain⟨a,ha,hb⟩:=qHm hf;simp only;have hn:e≠0:=by
   unfold badD at hb;cases hc:chkD a !=0 with
   |true=>rw[hc] at hb;cases hb;exact gb.1 hc
   |false=>rw[hc] at hb;cases hb
  exact⟨λh=>absurd h hn,λh=>by rw[qUa.2 (h.2 a ha)] at hb;cases hb⟩
 |inr u=>exact⟨λ_=>⟨by omega,λd hd=>qUa.1 (CP.1 hf d hd)⟩,λ_=>rfl⟩
theorem q1L (b:Box):AB b=some (empS b.X||(empS b.Y||empS b.Z)):=by
 unfold AB UF empS;show(bif decide (b.X.B<=b.X.A) then _ else bif decide (b.Y.B<=b.Y.A) then _ else some (decide (b.Z.B<=b.Z.A)))=_;cases decide (b.X.B<=b.X.A)<;>cases decide (b.Y.B<=b.Y.A)<;>rfl
theorem qYi {s:Span} (h:empS s=false) (a b:Int):OM s a b=some (insS s a b):=by
 have h':¬s.B<=s.A:=of_decide_eq_false h;unfold OM qCN insS;by_cases c1:a<=s.A
 ·rw[kf c1];simp only[ko]
  congr 1
  rw[decide_eq_decide];omega
 ·rw[kg c1,kg (show¬((a<=s.A/\a<=s.B)/\(s.A<=b/\s.B<=b)) from λq=>c1 q.1.1)];rfl
theorem qZ6 {b:Box} (h:(empS b.X||(empS b.Y||empS b.Z))=false):NM b=some (insS b.X (-600) 600&&(insS b.Y (-600) 600&&insS b.Z 0 20000)):=by
 have h1:empS b.X=false:=by cases e:empS b.X with|false=>rfl|true=>rw[e] at h;cases h
 have h2:empS b.Y=false:=by cases e:empS b.Y with|false=>rfl|true=>rw[h1,e] at h;cases h
 have h3:empS b.Z=false:=by cases e:empS b.Z with|false=>rfl|true=>rw[h1,h2,e] at h;cases h
 unfold NM PV;simp only[qYi h1,qYi h2,qYi h3,ke];cases insS b.X (-600) 600<;>cases insS b.Y (-600) 600<;>rfl
theorem qTP (l:List qH):DR l=some (VK l):=by
 unfold DR VK;by_cases h:64<l.length
 ·rw[if_pos h,kf (by omega)];rfl
 rw[if_neg h,kg (by omega)];have L:yW l FUEL 0=some (findE badD l):=by
  refine FQ l (yW l) badD (by omega) (λn x hx=>?_) (λn=>?_)
  ·rw[yW,kf (by omega),zT (by omega)];simp only[ko,kr,wE (show x<4611686018427387904 by omega),MB,q1L,ke];rw[zT (by omega)];unfold badD chkD;by_cases h1:(l.getD x dd).Kind<1
   ·rw[kf h1,if_pos (.inl h1)];rfl
   rw[kg h1];by_cases h2:(l.getD x dd).Kind>6
   ·rw[kf h2,if_pos (.inr h2)];rfl
   rw[kg h2,if_neg (by omega)];simp only[ku,ko];cases he:(empS (l.getD x dd).Box.X||(empS (l.getD x dd).Box.Y||empS (l.getD x dd).Box.Z)) with
   |true=>rfl
   |false=>
    rw[qZ6 he];cases (insS (l.getD x dd).Box.X (-600) 600&&(insS (l.getD x dd).Box.Y (-600) 600&&insS (l.getD x dd).Box.Z 0 20000))<;>rfl
  ·rw[yW,kg (by omega)];rfl
 rw[L];simp only[ku,ke];cases findE badD l<;>rfl
def rgs (s:Scan) (x:Nat):Ring:=s.Rings.getD x dd
def errR (s:Scan) (x:Nat):Option Int:=
 bif ZO (rgs s x) !=0 then some (ZO (rgs s x))
 else bif (decide (x=0)&&((rgs s x).Z !=0))||(decide (0<x)&&decide ((rgs s x).Z<=(rgs s (x-1)).Z)) then some 11
 else bif ((rgs s x).Read.length:Int) !=(((rgs s 0).Read.length:Nat):Int) then some 19 else none
def errZ (z:Int) (d:qH):Option Int:=bif decide (d.Box.Z.B>z) then some 9 else none
def endZ (s:Scan):Int:=(rgs s (s.Rings.length-1)).Z
def XL (s:Scan):Int:=
 if s.Rings.length<2 then 3 else if 24<s.Rings.length then 4
 else match findN (errR s) 0 s.Rings.length with
  | .inl e=>e
  | .inr _=>if VK s.Defects≠0 then VK s.Defects else match findE (errZ (endZ s)) s.Defects with| .inl e=>e| .inr _=>0
theorem qTR (s:Scan) (z:Int) (L:Nat->Int->Option (Int⊕Unit)) (hl:s.Defects.length<=64) (h0:∀n x,x<s.Defects.length->L (n+1) ((x:Nat):Int)=bif decide ((s.Defects.getD x dd).Box.Z.B>z) then some (.inl 9) else L n ((x+1:Nat):Int)) (h1:∀n,L (n+1) (s.Defects.length:Int)=some (.inr ())):
  L FUEL 0=some (findE (errZ z) s.Defects):=by
 refine FQ s.Defects L (errZ z) (by omega) (λn x hx=>?_) h1;rw[h0 n x hx];unfold errZ;cases decide ((s.Defects.getD x dd).Box.Z.B>z)<;>rfl
theorem qYc (s:Scan):MF s=some (XL s):=by
 unfold MF XL;by_cases h2:s.Rings.length<2
 ·rw[if_pos h2,kf (by omega)];rfl
 rw[if_neg h2,kg (by omega)];by_cases h24:24<s.Rings.length
 ·rw[if_pos h24,kf (by omega)];rfl
 rw[if_neg h24,kg (by omega)];have L:wZ s FUEL 0=some (findN (errR s) 0 s.Rings.length):=by
  refine qE0 s.Rings.length (wZ s) (errR s) 0 (by omega) (by omega) (λn x _ hx=>?_) (λn=>?_)
  ·rw[wZ,kf (by omega),zT (by omega)];simp only[ko,kr,gt,GS,ke,YL,wE (show x<4611686018427387904 by omega),zT (i:=0) (n:=s.Rings.length) (by omega)];unfold errR rgs;cases hc:ZO (s.Rings.getD x dd) !=0 with
   |true=>rfl
   |false=>
    simp only[ku];by_cases hx0:x=0
    ·subst hx0;rw[show(((0:Nat):Int)==0)=true from rfl,kg (show¬((0:Nat):Int)>0 by omega)];cases (s.Rings.getD 0 dd).Z !=0 with
     |true=>rfl
     |false=>cases (((s.Rings.getD 0 dd).Read.length:Nat):Int) !=(((s.Rings.getD 0 dd).Read.length:Nat):Int)<;>rfl
    ·rw[show(((x:Nat):Int)==0)=false by rw[kU];omega,kf (show((x:Nat):Int)>0 by omega),q1b (show-9223372036854775808<=(x:Int)-1 by omega) (by omega),zT (by omega),kg hx0,kf (show 0<x by omega),show((x:Int)-1).toNat=x-1 by omega];cases decide ((s.Rings.getD x dd).Z<=(s.Rings.getD (x-1) dd).Z) with
     |true=>rfl
     |false=>cases ((s.Rings.getD x dd).Read.length:Int) !=(((s.Rings.getD 0 dd).Read.length:Nat):Int)<;>rfl
  ·rw[wZ,kg (by omega)];rfl
 rw[L];simp only[ku,ke];cases findN (errR s) 0 s.Rings.length with
 |inl e=>rfl
 |inr u=>
  simp only[Sum.elim_inr,qWl,ke];by_cases h13:VK s.Defects=0
  ·rw[h13,if_neg (by simp)];simp only[kL,ku];rw[zK (by omega),zT (by omega)];have:=qTR s (endZ s) (PF s) ((MU _).1 h13).1 (λn x hx=>by
    rw[PF,kf (by omega),zT (by omega)];simp only[ko,kr,wE (show x<4611686018427387904 by have:=((MU _).1 h13).1;omega)];rw[zK (by omega),show((s.Rings.length:Int)-1).toNat=s.Rings.length-1 by omega];rfl) (λn=>by rw[PF,kg (by omega)];rfl)
   rw[this];simp only[ko,ke];cases findE (errZ (endZ s)) s.Defects<;>rfl
  ·rw[show(VK s.Defects !=0)=true by rw[gb];exact h13,if_pos h13];rfl
def qE4 {ε σ:Type} (err:Nat->Option ε) (g:Nat->σ) (x:Nat) (_:σ):ε⊕σ:=match err x with|some e=> .inl e|none=> .inr (g x)
theorem qJm {ε σ:Type} (err:Nat->Option ε) (g:Nat->σ):∀(k x:Nat) (s:σ),runN (qE4 err g) x k s=Sum.elim Sum.inl (λ_=>Sum.inr (if k=0 then s else g (x+k-1))) (findN err x k)
 |0,x,s=>by simp[runN,findN]
 |k+1,x,s=>by
  unfold runN findN qE4;cases err x with
  |some e=>rfl
  |none=>
   simp only;have ih:=qJm err g k (x+1) (g x);unfold qE4 at ih;rw[ih];cases findN err (x+1) k with
   |inl e=>rfl
   |inr u=>
    simp only[Nat.add_eq_zero_iff,Nat.one_ne_zero,and_false,if_false,Sum.elim_inr]
    congr 1
    by_cases hk:k=0
    ·subst hk;rw[if_pos rfl];rfl
    ·rw[if_neg hk];congr 1;omega
theorem qUp (s:Scan):DV s=some (XL s):=by
 unfold DV XL;by_cases h2:s.Rings.length<2
 ·rw[if_pos h2,kf (by omega)];rfl
 rw[if_neg h2,kg (by omega)];by_cases h24:24<s.Rings.length
 ·rw[if_pos h24,kf (by omega)];rfl
 rw[if_neg h24,kg (by omega)];have L:=FN s.Rings.length (λn l i=>wH s n l i) (qE4 (errR s) (λx=>(rgs s x).Z)) (λr=>r) (λx l=>x=0\/l=(rgs s (x-1)).Z) (λn x l hx hi=>by
   have e:wH s (n+1) l (x:Int)=match errR s x with|some e=>some (.inl e)|none=>wH s n (rgs s x).Z ((x+1:Nat):Int):=by
    rw[wH,kf (by omega),zT (by omega)];simp only[ko,kr,gt,LT,ke,JH,wE (show x<4611686018427387904 by omega),zT (i:=0) (n:=s.Rings.length) (by omega)];unfold errR rgs;cases hc:ZO (s.Rings.getD x dd) !=0 with
    |true=>rfl
    |false=>
     simp only[ku];by_cases hx0:x=0
     ·subst hx0;rw[show(((0:Nat):Int)==0)=true from rfl,kg (show¬((0:Nat):Int)>0 by omega)];cases (s.Rings.getD 0 dd).Z !=0 with
      |true=>rfl
      |false=>cases (((s.Rings.getD 0 dd).Read.length:Nat):Int) !=(((s.Rings.getD 0 dd).Read.length:Nat):Int)<;>rfl
     ·have hl:l=(rgs s (x-1)).Z:=hi.resolve_left hx0;subst hl;unfold rgs;rw[show(((x:Nat):Int)==0)=false by rw[kU];omega,kf (show((x:Nat):Int)>0 by omega),kg hx0,kf (show 0<x by omega)];cases decide ((s.Rings.getD x dd).Z<=(s.Rings.getD (x-1) dd).Z) with
      |true=>rfl
      |false=>cases ((s.Rings.getD x dd).Read.length:Int) !=(((s.Rings.getD 0 dd).Read.length:Nat):Int)<;>rfl
   unfold qE4;cases he:errR s x with
   |some q=>rw[he] at e;exact e
   |none=>rw[he] at e;exact⟨e,.inr (by rw[gV])⟩)
  (λn l _=>by show wH s (n+1) l _=_;rw[wH,kg (by omega)];rfl) FUEL 0 0 (by rw[FUEL_eq];omega) (by omega) (.inl rfl)
 rw[qJm,if_neg (show¬s.Rings.length-0=0 by omega),show 0+(s.Rings.length-0)-1=s.Rings.length-1 by omega,uZ] at L;have L':wH s FUEL 0 0=some (Sum.elim Sum.inl (λ_=>Sum.inr (rgs s (s.Rings.length-1)).Z) (findN (errR s) 0 s.Rings.length)):=L;rw[L'];simp only[ku,ke];cases findN (errR s) 0 s.Rings.length with
 |inl e=>rfl
 |inr u=>
  simp only[Sum.elim_inr,qTP,ke];by_cases h13:VK s.Defects=0
  ·rw[h13,if_neg (by simp)];simp only[kL,ku];have:=qTR s (endZ s) (KA s (endZ s)) ((MU _).1 h13).1 (λn x hx=>by
    rw[KA,kf (by omega),zT (by omega)];simp only[ko,kr,wE (show x<4611686018427387904 by have:=((MU _).1 h13).1;omega)]) (λn=>by rw[KA,kg (by omega)];rfl)
   rw[show(rgs s (s.Rings.length-1)).Z=endZ s from rfl,this];simp only[ke];cases findE (errZ (endZ s)) s.Defects<;>rfl
  ·rw[show(VK s.Defects !=0)=true by rw[gb];exact h13,if_pos h13];rfl
theorem q1E {s:Scan} {x:Nat} (h:errR s x=none):jK (rgs s x)/\(x=0->(rgs s x).Z=0)/\(0<x->(rgs s (x-1)).Z<(rgs s x).Z)/\(rgs s x).Read.length=(rgs s 0).Read.length:=by
 unfold errR at h;cases h1:ZO (rgs s x) !=0 with
 |true=>rw[h1] at h;cases h
 |false=>
  rw[h1] at h;simp only[ku] at h;cases h2:(decide (x=0)&&((rgs s x).Z !=0))||(decide (0<x)&&decide ((rgs s x).Z<=(rgs s (x-1)).Z)) with
  |true=>rw[h2] at h;cases h
  |false=>
   rw[h2] at h;simp only[ku] at h;cases h3:((rgs s x).Read.length:Int) !=(((rgs s 0).Read.length:Nat):Int) with
   |true=>rw[h3] at h;cases h
   |false=>
    simp only[uX,Bool.and_eq_false_iff,decide_eq_false_iff_not,bne_eq_false_iff_eq] at h1 h2 h3;exact⟨(JL _).1 h1,λhx=>h2.1.resolve_left (λq=>q hx),λhx=>by rcases h2.2 with q|q<;>omega,by omega⟩
structure V15 (s:Scan):Prop where
 two:2<=s.Rings.length
 many:s.Rings.length<=24
 good:∀x,x<s.Rings.length->jK (rgs s x)
 zero:(rgs s 0).Z=0
 up:∀x,0<x->x<s.Rings.length->(rgs s (x-1)).Z<(rgs s x).Z
 same:∀x,x<s.Rings.length->(rgs s x).Read.length=(rgs s 0).Read.length
 def13:VK s.Defects=0
 ends:∀d∈s.Defects,d.Box.Z.B<=endZ s
theorem qT0 {z:Int} {d:qH}:errZ z d=none↔d.Box.Z.B<=z:=by
 unfold errZ;by_cases h:d.Box.Z.B>z
 ·rw[kf h];simp;omega
 ·rw[kg h];simp;omega
theorem qAr (s:Scan):XL s=0↔V15 s:=by
 unfold XL;by_cases h2:s.Rings.length<2
 ·rw[if_pos h2];exact⟨λh=>absurd h (by decide),λh=>by have:=h.two;omega⟩
 rw[if_neg h2];by_cases h24:24<s.Rings.length
 ·rw[if_pos h24];exact⟨λh=>absurd h (by decide),λh=>by have:=h.many;omega⟩
 rw[if_neg h24];cases hf:findN (errR s) 0 s.Rings.length with
 |inl e=>
  obtain⟨i,_,hi,he,_⟩:=RK hf;simp only;refine⟨λh=>?_,λh=>?_⟩
  ·subst h;unfold errR at he;cases h1:ZO (rgs s i) !=0 with
   |true=>rw[h1] at he;simp only[ko,uz] at he;rw[he] at h1;cases h1
   |false=>
    rw[h1] at he;simp only[ku] at he;cases h2:(decide (i=0)&&((rgs s i).Z !=0))||(decide (0<i)&&decide ((rgs s i).Z<=(rgs s (i-1)).Z))<;>rw[h2] at he<;>simp only[ko,ku] at he
    ·cases h3:((rgs s i).Read.length:Int) !=(((rgs s 0).Read.length:Nat):Int)<;>rw[h3] at he<;>cases he
    ·cases he
  ·have hi':i<s.Rings.length:=by omega
   exfalso;have:errR s i=none:=by
    unfold errR;rw[show ZO (rgs s i)=0 from(JL _).2 (h.good i hi'),h.same i hi'];simp only[kL,ku];have:((decide (i=0)&&((rgs s i).Z !=0))||(decide (0<i)&&decide ((rgs s i).Z<=(rgs s (i-1)).Z)))=false:=by
     by_cases h0:i=0
     ·subst h0;rw[h.zero];simp
     ·rw[kg h0,kg (show¬(rgs s i).Z<=(rgs s (i-1)).Z by have:=h.up i (by omega) hi';omega)];simp
    rw[this];rfl
   rw[this] at he;cases he
 |inr u=>
  have hn:=VJ.1 hf;simp only;by_cases h13:VK s.Defects=0
  ·rw[if_neg (by simpa using h13)];cases hz:findE (errZ (endZ s)) s.Defects with
   |inl e=>
    simp only;obtain⟨d,hd,he⟩:=qHm hz;refine⟨λh=>?_,λh=>?_⟩
    ·subst h;unfold errZ at he;cases h3:decide (d.Box.Z.B>endZ s)<;>rw[h3] at he<;>cases he
    ·rw[qT0.2 (h.ends d hd)] at he;cases he
   |inr u=>
    have hz':=CP.1 hz;have e:∀x,x<s.Rings.length->_:=λx hx=>q1E (hn x (by omega) (by omega));exact⟨λ_=>⟨by omega,by omega,λx hx=>(e x hx).1,(e 0 (by omega)).2.1 rfl,λx h0 hx=>(e x hx).2.2.1 h0,λx hx=>(e x hx).2.2.2,h13,λd hd=>qT0.1 (hz' d hd)⟩,λ_=>rfl⟩
  ·rw[if_pos h13];exact⟨λh=>absurd h h13,λh=>absurd h.def13 h13⟩
noncomputable def secR (r:Ring) (limit most:Int):qG×Int:=bif rg_canFill (rg_cleaned r limit) most then ofR (fill (rg_cleaned r limit)) else(nilS,30)
theorem q2x {a:Ring} (g:jK a) {most:Int} (h:rg_canFill a most=true):(fill a).length=a.Read.length:=by
 refine(qGa a g ?_).1;unfold rg_canFill at h;rw[kq] at h;have:=h.1;simp only[ui,decide_eq_false_iff_not] at this;omega
theorem q1B (r:Ring) (g:jK r) (limit most:Int):UJ r limit most=some (secR r limit most)/\GP r limit most=some ((secR r limit most).1,(secR r limit most).2==0):=by
 have g':=qP5 r g limit;have hi:=g.hi;unfold UJ GP secR;rw[qU9 r limit (by omega),qYp r limit (by omega)];simp only[ke];rw[show(Ring.mk (rg_cleaned r limit).Z (rg_cleaned r limit).Read)=rg_cleaned r limit from rfl,qSQ _ g',qVz _ g'];simp only[ke];cases hc:rg_canFill (rg_cleaned r limit) most with
 |false=>exact⟨rfl,rfl⟩
 |true=>
  simp only[ko,kL,ku];have hl:(fill (rg_cleaned r limit)).length<=40:=by
   rw[q2x g' hc];have:=g'.hi;omega
  rw[(Of_eq _ hl).1,(Of_eq _ hl).2];exact⟨rfl,rfl⟩
theorem qME (r:Ring) (limit most:Int):VS (secR r limit most).1:=by
 unfold secR;cases rg_canFill (rg_cleaned r limit) most with
 |false=>exact qLx
 |true=>exact ofR_VS _
noncomputable def secI (s:Scan) (l m:Int) (i:Nat):qG×Int:=secR (rgs s i) l m
noncomputable def AS (s:Scan) (l m:Int) (i:Nat):qG:=qCQ (secI s l m i).1 (secI s l m (i+1)).1
noncomputable def slI (s:Scan) (l m:Int) (i:Nat):qM:=⟨(rgs s (i+1)).Z-(rgs s i).Z,AS s l m i⟩
noncomputable def er1 (s:Scan) (l m:Int) (i:Nat):Option (List qM×Int):=if(secI s l m i).2≠0 then some ([],30) else none
noncomputable def er2 (s:Scan) (l m:Int) (i:Nat):Option (List qM×Int):=if(AS s l m i).Rows=[] then some ([],30) else none
noncomputable def WF (s:Scan) (l m:Int):List qM×Int:=
 if XL s≠0 then([],XL s)
 else match findN (er1 s l m) 0 s.Rings.length with
  | .inl e=>e
  | .inr _=>match findN (er2 s l m) 0 (s.Rings.length-1) with
   | .inl e=>e
   | .inr _=>((List.range (s.Rings.length-1)).map (slI s l m),0)
theorem qZE (s:Scan) (l m:Int) (i:Nat):UB (secI s l m i).1 (secI s l m (i+1)).1=some (AS s l m i)/\RV (secI s l m i).1 (secI s l m (i+1)).1=some (AS s l m i):=by
 have h:=Meet_eq (secI s l m i).1 (secI s l m (i+1)).1;rw[qYk (show VS (secI s l m i).1 from qME _ _ _),qYk (show VS (secI s l m (i+1)).1 from qME _ _ _)] at h;exact h
theorem rows0 (x:qG):((x.Rows.length:Int)==0)=decide (x.Rows=[]):=by
 cases hx:x.Rows with
 |nil=>rfl
 |cons a l=>rw[kg (by simp)];rw[kU];simp;omega
def YD {α:Type} (f:Nat->α) (z:α) (N x:Nat):List α:=(List.range N).map (λi=>if i<x then f i else z)
theorem qHL {α:Type} (f:Nat->α) (z:α) (N x:Nat):(YD f z N x).length=N:=by simp[YD]
theorem qQU {α:Type} (f:Nat->α) (z:α) (N:Nat):YD f z N 0=List.replicate N z:=by
 refine gx (by simp[YD]) λi h1 h2=>?_;simp[YD]
theorem qTS {α:Type} (f:Nat->α) (z:α) (N:Nat):YD f z N N=(List.range N).map f:=by
 refine gx (by simp[YD]) λi h1 h2=>?_;simp only[YD,uO,uj] at h1;simp only[YD,List.getElem_map,List.getElem_range,if_pos h1]
theorem partF_set {α:Type} (f:Nat->α) (z:α) (N x:Nat):(YD f z N x).set x (f x)=YD f z N (x+1):=by
 refine gx (by simp[YD]) λi h1 h2=>?_;by_cases h:i=x
 ·subst h;simp[YD]
 ·rw[List.getElem_set_ne (by omega)];simp only[YD,List.getElem_map,List.getElem_range];by_cases h3:i<x
  ·rw[if_pos h3,if_pos (by omega)]
  ·rw[if_neg h3,if_neg (by omega)]
theorem qT2 {α ρ:Type} (N:Nat) (L:Nat->List α->Int->Option (ρ⊕List α)) (err:Nat->Option ρ) (f:Nat->α) (z:α) (hN:N<=1000000000)
  (h0:∀n x l,x<N->l.length=N->L (n+1) l (x:Int)=match err x with|some e=>some (.inl e)|none=>L n (l.set x (f x)) ((x+1:Nat):Int))
  (h1:∀n l,l.length=N->L (n+1) l (N:Int)=some (.inr l)):
  L FUEL (List.replicate N z) 0=some (Sum.elim Sum.inl (λ_=>Sum.inr ((List.range N).map f)) (findN err 0 N)):=by
 have h:=FN N L (qE4 err (λx=>YD f z N (x+1))) (λr=>r) (λx l=>l=YD f z N x) (λn x l hx hi=>by
   subst hi;have e:=h0 n x _ hx (qHL f z N x);unfold qE4;cases he:err x with
   |some q=>rw[he] at e;exact e
   |none=>rw[he] at e;simp only[partF_set] at e;exact⟨e,rfl⟩)
  (λn l hi=>h1 n l (by rw[hi,qHL])) FUEL 0 (YD f z N 0) (by rw[FUEL_eq];omega) (by omega) rfl
 rw[qQU,qJm,uZ] at h;rw[show((0:Nat):Int)=0 from rfl] at h;rw[h];cases findN err 0 N with
 |inl e=>rfl
 |inr u=>
  simp only[Sum.elim_inr];by_cases hn:N=0
  ·subst hn;rfl
  ·rw[if_neg hn,show 0+N-1+1=N by omega,qTS]
theorem q2m (s:Scan) (l m:Int):MN s l m=some (WF s l m):=by
 unfold MN WF;rw[qYc];simp only[ke];by_cases hc:¬XL s=0
 ·rw[show(XL s !=0)=true from gb.2 hc,if_pos hc];rfl
 have hc:XL s=0:=Classical.not_not.1 hc;rw[hc,if_neg (by simp)];simp only[kL,ku];have v:=(qAr s).1 hc;have v2:=v.two;have v24:=v.many;rw[qQq (by omega) (by omega)];have L1:=qT2 s.Rings.length (PK s l m) (er1 s l m) (λi=>(secI s l m i).1) (qG.mk 0 ([]:List Span)) (by omega) (λn x t hx ht=>by
  rw[PK,kf (by omega),zT (by omega)];simp only[ko,kr];rw[(q1B (s.Rings.getD x dd) (v.good x hx) l m).1];simp only[ke];unfold er1 secI rgs;by_cases he:(secR (s.Rings.getD x dd) l m).2=0
  ·rw[he,if_neg (by simp),zT (by omega),wE (by omega)];rfl
  ·rw[if_pos he,show((secR (s.Rings.getD x dd) l m).2 !=0)=true from gb.2 he];rfl) (λn t ht=>by
  rw[PK,kg (by omega)];rfl)
 rw[kr,L1];simp only[ko,ke];cases findN (er1 s l m) 0 s.Rings.length with
 |inl e=>rfl
 |inr u=>
  simp only[Sum.elim_inr];rw[zK (by omega),show(s.Rings.length:Int)-1=((s.Rings.length-1:Nat):Int) by omega,qQq (by omega) (by omega),kr];have L2:=qT2 (s.Rings.length-1) (PG s ((List.range s.Rings.length).map λi=>(secI s l m i).1)) (er2 s l m) (slI s l m) (qM.mk 0 (qG.mk 0 ([]:List Span))) (by omega) (λn x t hx ht=>by
   have gm:∀j,j<s.Rings.length->((List.range s.Rings.length).map λi=>(secI s l m i).1).getD j dd=(secI s l m j).1:=λj hj=>by
    rw[ka,kF,gf hj];rfl
   have hl:((List.range s.Rings.length).map λi=>(secI s l m i).1).length=s.Rings.length:=by simp
   rw[PG,zK (n:=(s.Rings.length:Int)-1) (by omega),show(s.Rings.length:Int)-1=((s.Rings.length-1:Nat):Int) by omega,kr,kf (by omega),hl,wE (show x<4611686018427387904 by omega),zT (by omega),zT (i:=((x+1:Nat):Int)) (by omega)];simp only[ko,kr];rw[gm x (by omega),gm (x+1) (by omega),(qZE s l m x).1];simp only[ke];rw[rows0];unfold er2;by_cases he:(AS s l m x).Rows=[]
   ·rw[kf he,if_pos he];rfl
   ·rw[kg he,if_neg he,zT (by omega)];have g1:=(v.good x (by omega)).z0;have g2:=(v.good x (by omega)).z1;have g3:=(v.good (x+1) (by omega)).z0;have g4:=(v.good (x+1) (by omega)).z1;rw[show(s.Rings.getD (x+1) dd).Z=(rgs s (x+1)).Z from rfl,show(s.Rings.getD x dd).Z=(rgs s x).Z from rfl,zK (by omega)];rfl) (λn t ht=>by
   rw[PG,zK (n:=(s.Rings.length:Int)-1) (by omega),show(s.Rings.length:Int)-1=((s.Rings.length-1:Nat):Int) by omega,kr,kg (by omega)];rfl)
  rw[L2];simp only[ko,ke];cases findN (er2 s l m) 0 (s.Rings.length-1) with
  |inl e=>rfl
  |inr u=>rfl
noncomputable def erB (s:Scan) (l m:Int) (i:Nat):Option (List qM×Int):=if(secI s l m i).2≠0 then some ([],30) else if 0<i/\(AS s l m (i-1)).Rows=[] then some ([],30) else none
noncomputable def gB (s:Scan) (l m:Int) (x:Nat):List qM×Int×List Span:=((List.range x).map (slI s l m),(secI s l m x).1.Low,(secI s l m x).1.Rows)
theorem findN_two {ε:Type} (E:ε) {bad:Nat->Option ε} (h:∀i,bad i=none\/bad i=some E) (N:Nat):(findN bad 0 N= .inr ()/\∀i,i<N->bad i=none)\/(findN bad 0 N= .inl E/\∃i,i<N/\bad i≠none):=by
 cases hf:findN bad 0 N with
 |inl e=>
  obtain⟨i,_,hi,he,_⟩:=RK hf;rcases h i with q|q
  ·rw[q] at he;cases he
  ·rw[q] at he;cases he;exact .inr ⟨rfl,i,by omega,by rw[q];simp⟩
 |inr u=>exact .inl ⟨rfl,λi hi=>VJ.1 hf i (by omega) (by omega)⟩
theorem q2k (s:Scan) (l m:Int) (h2:2<=s.Rings.length):(match findN (erB s l m) 0 s.Rings.length with| .inl e=>e| .inr _=>((List.range (s.Rings.length-1)).map (slI s l m),(0:Int)))=(match findN (er1 s l m) 0 s.Rings.length with
  | .inl e=>e
  | .inr _=>match findN (er2 s l m) 0 (s.Rings.length-1) with
   | .inl e=>e
   | .inr _=>((List.range (s.Rings.length-1)).map (slI s l m),0)):=by
 have b1:∀i,er1 s l m i=none\/er1 s l m i=some ([],30):=λi=>by unfold er1;split<;>simp
 have b2:∀i,er2 s l m i=none\/er2 s l m i=some ([],30):=λi=>by unfold er2;split<;>simp
 have b3:∀i,erB s l m i=none\/erB s l m i=some ([],30):=λi=>by
  unfold erB;split
  ·exact .inr rfl
  ·split
   ·exact .inr rfl
   ·exact .inl rfl
 have n1:∀i,er1 s l m i=none↔(secI s l m i).2=0:=λi=>by unfold er1;by_cases h:(secI s l m i).2=0<;>simp[h]
 have n2:∀i,er2 s l m i=none↔¬(AS s l m i).Rows=[]:=λi=>by unfold er2;by_cases h:(AS s l m i).Rows=[]<;>simp[h]
 have n3:∀i,erB s l m i=none↔(secI s l m i).2=0/\(0<i->¬(AS s l m (i-1)).Rows=[]):=λi=>by
  unfold erB;by_cases h:(secI s l m i).2=0
  ·by_cases h':0<i/\(AS s l m (i-1)).Rows=[]
   ·simp[h,h']
   ·rw[if_neg (by simpa using h),if_neg h'];simp only[true_iff];exact⟨h,λq r=>h' ⟨q,r⟩⟩
  ·simp[h]
 rcases findN_two _ b3 s.Rings.length with⟨e3,a3⟩|⟨e3,i,hi,a3⟩
 ·rcases findN_two _ b1 s.Rings.length with⟨e1,a1⟩|⟨e1,j,hj,a1⟩
  ·rcases findN_two _ b2 (s.Rings.length-1) with⟨e2,a2⟩|⟨e2,j,hj,a2⟩
   ·rw[e3,e1];simp only[e2]
   ·exact absurd ((n2 j).2 (((n3 (j+1)).1 (a3 (j+1) (by omega))).2 (by omega))) a2
  ·exact absurd ((n1 j).2 ((n3 j).1 (a3 j hj)).1) a1
 ·rcases findN_two _ b1 s.Rings.length with⟨e1,a1⟩|⟨e1,j,hj,a1⟩
  ·rcases findN_two _ b2 (s.Rings.length-1) with⟨e2,a2⟩|⟨e2,j,hj,a2⟩
   ·exact absurd ((n3 i).2 ⟨(n1 i).1 (a1 i hi),λh0=>(n2 (i-1)).1 (a2 (i-1) (by omega))⟩) a3
   ·rw[e3,e1];simp only[e2]
  ·rw[e3,e1]
theorem q0H (s:Scan) (l m:Int):EN s l m=some (WF s l m):=by
 unfold EN WF;rw[qUp];simp only[ke];by_cases hc:¬XL s=0
 ·rw[show(XL s !=0)=true from gb.2 hc,if_pos hc];rfl
 have hc:XL s=0:=Classical.not_not.1 hc;rw[hc,if_neg (by simp)];simp only[kL,ku];have v:=(qAr s).1 hc;have v2:=v.two;have v24:=v.many;have L:=FN s.Rings.length (λn (t:List qM×Int×List Span) i=>wR s l m n t.1 i t.2.1 t.2.2) (qE4 (erB s l m) (gB s l m)) (λr=>Sum.map id (·.1) r) (λx t=>(x=0/\t=([],0,[]))\/(0<x/\t=gB s l m (x-1))) (λn x t hx hi=>by
   have e:wR s l m (n+1) t.1 (x:Int) t.2.1 t.2.2=match erB s l m x with|some e=>some (.inl e)|none=>wR s l m n (gB s l m x).1 ((x+1:Nat):Int) (gB s l m x).2.1 (gB s l m x).2.2:=by
    rw[wR,kf (by omega),zT (by omega)];simp only[ko,kr];rw[(q1B (s.Rings.getD x dd) (v.good x hx) l m).2];simp only[ke,MT,wE (show x<4611686018427387904 by omega)];unfold erB;rw[show secI s l m x=secR (s.Rings.getD x dd) l m from rfl];by_cases he:(secR (s.Rings.getD x dd) l m).2=0
    ·rw[he,if_neg (by simp),show(!((0:Int)==0))=false from rfl];simp only[ku];rcases hi with⟨h0,ht⟩|⟨h0,ht⟩
     ·subst h0;subst ht;rw[kg (by omega),if_neg (by omega)];rfl
     ·subst ht;obtain⟨y,rfl⟩:∃y,x=y+1:=⟨x-1,by omega⟩
      rw[kf (by omega)];simp only[gV];have me:=(qZE s l m y).2;rw[show RV (qG.mk (gB s l m y).2.1 (gB s l m y).2.2) (qG.mk (secR (s.Rings.getD (y+1) dd) l m).1.Low (secR (s.Rings.getD (y+1) dd) l m).1.Rows)=RV (secI s l m y).1 (secI s l m (y+1)).1 from rfl,me];simp only[ko,ke];rw[rows0];by_cases hm:(AS s l m y).Rows=[]
      ·rw[kf hm,if_pos ⟨by omega,hm⟩];rfl
      ·rw[kg hm,if_neg (λq=>hm q.2)];have hl:(gB s l m y).1.length=y:=by simp[gB]
       rw[hl,show w64 (((y+1:Nat):Int)-1)=(y:Int) by rw[zK (by omega)];omega,zT (by omega),QI (by omega)];have g1:=(v.good y (by omega)).z0;have g2:=(v.good y (by omega)).z1;have g3:=(v.good (y+1) (by omega)).z0;have g4:=(v.good (y+1) (by omega)).z1;rw[kr,show(s.Rings.getD (y+1) dd).Z=(rgs s (y+1)).Z from rfl,show(s.Rings.getD y dd).Z=(rgs s y).Z from rfl,zK (by omega)];simp only[ko,ku];rw[show(gB s l m y).1++[qM.mk ((rgs s (y+1)).Z-(rgs s y).Z) (AS s l m y)]=(gB s l m (y+1)).1 by
        simp only[gB,List.range_succ,List.map_append,uB,List.map_nil];rfl]
       rfl
    ·rw[if_pos he,show(!((secR (s.Rings.getD x dd) l m).2==0))=true by rw[ui,kU];exact he];rfl
   unfold qE4;cases he:erB s l m x with
   |some q=>rw[he] at e;exact e
   |none=>rw[he] at e;exact⟨e,.inr ⟨by omega,by rw[gV]⟩⟩)
  (λn t _=>by show wR s l m (n+1) t.1 _ t.2.1 t.2.2=_;rw[wR,kg (by omega)];rfl) FUEL 0 ([],0,[]) (by rw[FUEL_eq];omega) (by omega) (.inl ⟨rfl,rfl⟩)
 rw[qJm,if_neg (show¬s.Rings.length-0=0 by omega),show 0+(s.Rings.length-0)-1=s.Rings.length-1 by omega,uZ] at L;have L':wR s l m FUEL [] 0 0 []=some (Sum.map id (·.1) (Sum.elim Sum.inl (λ_=>Sum.inr (gB s l m (s.Rings.length-1))) (findN (erB s l m) 0 s.Rings.length))):=L;rw[L'];refine Eq.trans ?_ (congrArg some (q2k s l m v2));simp only[ke];cases findN (erB s l m) 0 s.Rings.length with
 |inl e=>rfl
 |inr u=>rfl
structure qJg (s:Scan):Prop where
 r:s.Rings.length<=1000000
 d:s.Defects.length<=1000000
 p:∀i,i<s.Rings.length->(rgs s i).Read.length<=1000000
theorem qHg (x:List qH) (h:x.length<=1000000):VP x x=some true:=by
 unfold VP;have L:YT x x FUEL 0=some (findN (λ_=>(none:Option Bool)) 0 x.length):=by
  refine qE0 x.length (YT x x) _ 0 (by omega) (by omega) (λn i _ hi=>?_) (λn=>?_)
  ·rw[YT,kf (by omega),zT (by omega)];simp only[ko,ku,gv,Bool.and_self,kZ,wE (show i<4611686018427387904 by omega)]
  ·rw[YT,kg (by omega)];rfl
 rw[VJ.2 (λ_ _ _=>rfl)] at L;simp only[kL,ku,L,ke,Sum.elim_inr]
end Saw
end Go.SL

/- Scan's plain mathematics, part 1: defects are checked alike. -/
import Derived.Test.YtigmogcdifllhaaGreatDoorEMa9
import Derived.Test.YtigmogcdifllhaaGreatDoorEMa11
set_option linter.unusedVariables false
set_option linter.unusedSimpArgs false
namespace Go.SL
namespace Saw
def insS (s:Span) (lo hi:Int):Bool:=decide ((lo<=s.A/\lo<=s.B)/\(s.A<=hi/\s.B<=hi))
theorem qXL (s:Span) (lo hi:Int):KF s lo hi=some (insS s lo hi):=by
 unfold KF BN insS;have a:=qB0 s.A s.B;have b:=qHw s.A s.B;by_cases h1:imin s.A s.B≥lo
 ·rw[ki h1];by_cases h2:imax s.A s.B<=hi
  ·rw[ki h2,ki (by omega)];rfl
  ·rw[kf h2,kf (by omega)];rfl
 ·rw[kf h1,kf (show¬((lo<=s.A/\lo<=s.B)/\(s.A<=hi/\s.B<=hi)) by omega)];rfl
def chkD (d:qG):Int:=
 if d.Kind<1\/6<d.Kind then 10
 else bif empS d.Box.X||(empS d.Box.Y||empS d.Box.Z) then 19
 else bif insS d.Box.X (-600) 600&&(insS d.Box.Y (-600) 600&&insS d.Box.Z 0 20000) then 0 else 9
theorem qX8 (s:Span):ZB s=some (empS s):=rfl
theorem chkD_eq (d:qG):MW d=some (chkD d):=by
 unfold MW FR UU UL chkD;simp only[qX8,qXL,kd];by_cases h1:d.Kind<1
 ·rw[ki h1,if_pos (.inl h1)];rfl
 rw[kf h1];by_cases h2:d.Kind>6
 ·rw[ki h2,if_pos (.inr h2)];rfl
 rw[kf h2,if_neg (by omega)];cases empS d.Box.X<;>cases empS d.Box.Y<;>cases empS d.Box.Z<;>cases insS d.Box.X (-600) 600<;>cases insS d.Box.Y (-600) 600<;>cases insS d.Box.Z 0 20000<;>rfl
structure VD (d:qG):Prop where
 k1:1<=d.Kind
 k2:d.Kind<=6
 x:d.Box.X.A<d.Box.X.B/\-600<=d.Box.X.A/\d.Box.X.B<=600
 y:d.Box.Y.A<d.Box.Y.B/\-600<=d.Box.Y.A/\d.Box.Y.B<=600
 z:d.Box.Z.A<d.Box.Z.B/\0<=d.Box.Z.A/\d.Box.Z.B<=20000
theorem qYU (d:qG):chkD d=0↔VD d:=by
 unfold chkD;by_cases h1:d.Kind<1\/6<d.Kind
 ·rw[if_pos h1];exact⟨λh=>absurd h (by decide),λh=>by have:=h.k1;have:=h.k2;omega⟩
 rw[if_neg h1];cases hx:empS d.Box.X with
 |true=>exact⟨λh=>absurd (show(19:Int)=0 from h) (by decide),λh=>by have:=h.x;have:=ug hx;omega⟩
 |false=>
 cases hy:empS d.Box.Y with
 |true=>exact⟨λh=>absurd (show(19:Int)=0 from h) (by decide),λh=>by have:=h.y;have:=ug hy;omega⟩
 |false=>
 cases hz:empS d.Box.Z with
 |true=>exact⟨λh=>absurd (show(19:Int)=0 from h) (by decide),λh=>by have:=h.z;have:=ug hz;omega⟩
 |false=>
 have ex:=of_decide_eq_false hx;have ey:=of_decide_eq_false hy;have ez:=of_decide_eq_false hz;unfold insS;by_cases i1:(-600<=d.Box.X.A/\-600<=d.Box.X.B)/\d.Box.X.A<=600/\d.Box.X.B<=600
 ·rw[ki i1];by_cases i2:(-600<=d.Box.Y.A/\-600<=d.Box.Y.B)/\d.Box.Y.A<=600/\d.Box.Y.B<=600
  ·rw[ki i2];by_cases i3:(0<=d.Box.Z.A/\0<=d.Box.Z.B)/\d.Box.Z.A<=20000/\d.Box.Z.B<=20000
   ·rw[ki i3];exact⟨λ_=>⟨by omega,by omega,by omega,by omega,by omega⟩,λ_=>rfl⟩
   ·rw[kf i3];exact⟨λh=>absurd h (by decide),λh=>by have:=h.z;omega⟩
  ·rw[kf i2];exact⟨λh=>absurd (show(9:Int)=0 from h) (by decide),λh=>by have:=h.y;omega⟩
 ·rw[kf i1];exact⟨λh=>absurd (show(9:Int)=0 from h) (by decide),λh=>by have:=h.x;omega⟩
def badD (d:qG):Option Int:=bif chkD d !=0 then some (chkD d) else none
def DP (l:List qG):Int:=if 64<l.length then 4 else match findE badD l with| .inl e=>e| .inr _=>0
theorem qEO (l:List qG):JD l=some (DP l):=by
 unfold JD DP;by_cases h:64<l.length
 ·rw[if_pos h,ki (by omega)];rfl
 rw[if_neg h,kf (by omega)];have L:WO l FUEL 0=some (findE badD l):=by
  refine MD l (WO l) badD (by omega) (λn x hx=>?_) (λn=>?_)
  ·rw[WO,ki (by omega),zS (by omega)];simp only[kp,kg,wF (show x<4611686018427387904 by omega),chkD_eq,kd,badD];cases chkD (l.getD x dd) !=0<;>rfl
  ·rw[WO,kf (by omega)];rfl
 rw[L];simp only[ku,kd];cases findE badD l<;>rfl
theorem qRH {d:qG}:badD d=none↔VD d:=by
 rw[<-qYU];unfold badD;by_cases h:chkD d=0
 ·rw[h];simp
 ·rw[show(chkD d !=0)=true by rw[gz];exact h];simp[h]
theorem YU (l:List qG):DP l=0↔l.length<=64/\∀d∈l,VD d:=by
 unfold DP;by_cases h:64<l.length
 ·rw[if_pos h];exact⟨λh=>absurd h (by decide),λh=>by omega⟩
 rw[if_neg h];cases hf:findE badD l with
 |inl e=>
  obtain⟨a,ha,hb⟩:=qF8 hf;simp only;have hn:e≠0:=by
   unfold badD at hb;cases hc:chkD a !=0 with
   |true=>rw[hc] at hb;cases hb;exact gz.1 hc
   |false=>rw[hc] at hb;cases hb
  exact⟨λh=>absurd h hn,λh=>by rw[qRH.2 (h.2 a ha)] at hb;cases hb⟩
 |inr u=>exact⟨λ_=>⟨by omega,λd hd=>qRH.1 (qAn.1 hf d hd)⟩,λ_=>rfl⟩
theorem qYW (b:Box):AN b=some (empS b.X||(empS b.Y||empS b.Z)):=by
 unfold AN GR empS;show(bif decide (b.X.B<=b.X.A) then _ else bif decide (b.Y.B<=b.Y.A) then _ else some (decide (b.Z.B<=b.Z.A)))=_;cases decide (b.X.B<=b.X.A)<;>cases decide (b.Y.B<=b.Y.A)<;>rfl
theorem qUL {s:Span} (h:empS s=false) (a b:Int):OT s a b=some (insS s a b):=by
 have h':¬s.B<=s.A:=of_decide_eq_false h;unfold OT qCv insS;by_cases c1:a<=s.A
 ·rw[ki c1];simp only[kp]
  congr 1
  rw[decide_eq_decide];omega
 ·rw[kf c1,kf (show¬((a<=s.A/\a<=s.B)/\(s.A<=b/\s.B<=b)) from λq=>c1 q.1.1)];rfl
theorem qXO {b:Box} (h:(empS b.X||(empS b.Y||empS b.Z))=false):LL b=some (insS b.X (-600) 600&&(insS b.Y (-600) 600&&insS b.Z 0 20000)):=by
 have h1:empS b.X=false:=by cases e:empS b.X with|false=>rfl|true=>rw[e] at h;cases h
 have h2:empS b.Y=false:=by cases e:empS b.Y with|false=>rfl|true=>rw[h1,e] at h;cases h
 have h3:empS b.Z=false:=by cases e:empS b.Z with|false=>rfl|true=>rw[h1,h2,e] at h;cases h
 unfold LL TU;simp only[qUL h1,qUL h2,qUL h3,kd];cases insS b.X (-600) 600<;>cases insS b.Y (-600) 600<;>rfl
theorem qRY (l:List qG):NO l=some (DP l):=by
 unfold NO DP;by_cases h:64<l.length
 ·rw[if_pos h,ki (by omega)];rfl
 rw[if_neg h,kf (by omega)];have L:QZ l FUEL 0=some (findE badD l):=by
  refine MD l (QZ l) badD (by omega) (λn x hx=>?_) (λn=>?_)
  ·rw[QZ,ki (by omega),zS (by omega)];simp only[kp,kg,wF (show x<4611686018427387904 by omega),SB,qYW,kd];rw[zS (by omega)];unfold badD chkD;by_cases h1:(l.getD x dd).Kind<1
   ·rw[ki h1,if_pos (.inl h1)];rfl
   rw[kf h1];by_cases h2:(l.getD x dd).Kind>6
   ·rw[ki h2,if_pos (.inr h2)];rfl
   rw[kf h2,if_neg (by omega)];simp only[ku,kp];cases he:(empS (l.getD x dd).Box.X||(empS (l.getD x dd).Box.Y||empS (l.getD x dd).Box.Z)) with
   |true=>rfl
   |false=>
    rw[qXO he];cases (insS (l.getD x dd).Box.X (-600) 600&&(insS (l.getD x dd).Box.Y (-600) 600&&insS (l.getD x dd).Box.Z 0 20000))<;>rfl
  ·rw[QZ,kf (by omega)];rfl
 rw[L];simp only[ku,kd];cases findE badD l<;>rfl
def rgs (s:Scan) (x:Nat):Ring:=s.Rings.getD x dd
def errR (s:Scan) (x:Nat):Option Int:=
 bif JU (rgs s x) !=0 then some (JU (rgs s x))
 else bif (decide (x=0)&&((rgs s x).Z !=0))||(decide (0<x)&&decide ((rgs s x).Z<=(rgs s (x-1)).Z)) then some 11
 else bif ((rgs s x).Read.length:Int) !=(((rgs s 0).Read.length:Nat):Int) then some 19 else none
def errZ (z:Int) (d:qG):Option Int:=bif decide (d.Box.Z.B>z) then some 9 else none
def endZ (s:Scan):Int:=(rgs s (s.Rings.length-1)).Z
def SU (s:Scan):Int:=
 if s.Rings.length<2 then 3 else if 24<s.Rings.length then 4
 else match findN (errR s) 0 s.Rings.length with
  | .inl e=>e
  | .inr _=>if DP s.Defects≠0 then DP s.Defects else match findE (errZ (endZ s)) s.Defects with| .inl e=>e| .inr _=>0
theorem qR7 (s:Scan) (z:Int) (L:Nat->Int->Option (Int⊕Unit)) (hl:s.Defects.length<=64) (h0:∀n x,x<s.Defects.length->L (n+1) ((x:Nat):Int)=bif decide ((s.Defects.getD x dd).Box.Z.B>z) then some (.inl 9) else L n ((x+1:Nat):Int)) (h1:∀n,L (n+1) (s.Defects.length:Int)=some (.inr ())):
  L FUEL 0=some (findE (errZ z) s.Defects):=by
 refine MD s.Defects L (errZ z) (by omega) (λn x hx=>?_) h1;rw[h0 n x hx];unfold errZ;cases decide ((s.Defects.getD x dd).Box.Z.B>z)<;>rfl
theorem qUC (s:Scan):SI s=some (SU s):=by
 unfold SI SU;by_cases h2:s.Rings.length<2
 ·rw[if_pos h2,ki (by omega)];rfl
 rw[if_neg h2,kf (by omega)];by_cases h24:24<s.Rings.length
 ·rw[if_pos h24,ki (by omega)];rfl
 rw[if_neg h24,kf (by omega)];have L:jQ s FUEL 0=some (findN (errR s) 0 s.Rings.length):=by
  refine qO3 s.Rings.length (jQ s) (errR s) 0 (by omega) (by omega) (λn x _ hx=>?_) (λn=>?_)
  ·rw[jQ,ki (by omega),zS (by omega)];simp only[kp,kg,gA,IJ,kd,KM,wF (show x<4611686018427387904 by omega),zS (i:=0) (n:=s.Rings.length) (by omega)];unfold errR rgs;cases hc:JU (s.Rings.getD x dd) !=0 with
   |true=>rfl
   |false=>
    simp only[ku];by_cases hx0:x=0
    ·subst hx0;rw[show(((0:Nat):Int)==0)=true from rfl,kf (show¬((0:Nat):Int)>0 by omega)];cases (s.Rings.getD 0 dd).Z !=0 with
     |true=>rfl
     |false=>cases (((s.Rings.getD 0 dd).Read.length:Nat):Int) !=(((s.Rings.getD 0 dd).Read.length:Nat):Int)<;>rfl
    ·rw[show(((x:Nat):Int)==0)=false by rw[kL];omega,ki (show((x:Nat):Int)>0 by omega),qYc (show-9223372036854775808<=(x:Int)-1 by omega) (by omega),zS (by omega),kf hx0,ki (show 0<x by omega),show((x:Int)-1).toNat=x-1 by omega];cases decide ((s.Rings.getD x dd).Z<=(s.Rings.getD (x-1) dd).Z) with
     |true=>rfl
     |false=>cases ((s.Rings.getD x dd).Read.length:Int) !=(((s.Rings.getD 0 dd).Read.length:Nat):Int)<;>rfl
  ·rw[jQ,kf (by omega)];rfl
 rw[L];simp only[ku,kd];cases findN (errR s) 0 s.Rings.length with
 |inl e=>rfl
 |inr u=>
  simp only[Sum.elim_inr,qEO,kd];by_cases h13:DP s.Defects=0
  ·rw[h13,if_neg (by simp)];simp only[kQ,ku];rw[w64_o (by omega),zS (by omega)];have:=qR7 s (endZ s) (TM s) ((YU _).1 h13).1 (λn x hx=>by
    rw[TM,ki (by omega),zS (by omega)];simp only[kp,kg,wF (show x<4611686018427387904 by have:=((YU _).1 h13).1;omega)];rw[w64_o (by omega),show((s.Rings.length:Int)-1).toNat=s.Rings.length-1 by omega];rfl) (λn=>by rw[TM,kf (by omega)];rfl)
   rw[this];simp only[kp,kd];cases findE (errZ (endZ s)) s.Defects<;>rfl
  ·rw[show(DP s.Defects !=0)=true by rw[gz];exact h13,if_pos h13];rfl
def qIX {ε σ:Type} (err:Nat->Option ε) (g:Nat->σ) (x:Nat) (_:σ):ε⊕σ:=match err x with|some e=> .inl e|none=> .inr (g x)
theorem qN3 {ε σ:Type} (err:Nat->Option ε) (g:Nat->σ):∀(k x:Nat) (s:σ),runN (qIX err g) x k s=Sum.elim Sum.inl (λ_=>Sum.inr (if k=0 then s else g (x+k-1))) (findN err x k)
 |0,x,s=>by simp[runN,findN]
 |k+1,x,s=>by
  unfold runN findN qIX;cases err x with
  |some e=>rfl
  |none=>
   simp only;have ih:=qN3 err g k (x+1) (g x);unfold qIX at ih;rw[ih];cases findN err (x+1) k with
   |inl e=>rfl
   |inr u=>
    simp only[Nat.add_eq_zero_iff,Nat.one_ne_zero,and_false,if_false,Sum.elim_inr]
    congr 1
    by_cases hk:k=0
    ·subst hk;rw[if_pos rfl];rfl
    ·rw[if_neg hk];congr 1;omega
theorem qYf (s:Scan):AM s=some (SU s):=by
 unfold AM SU;by_cases h2:s.Rings.length<2
 ·rw[if_pos h2,ki (by omega)];rfl
 rw[if_neg h2,kf (by omega)];by_cases h24:24<s.Rings.length
 ·rw[if_pos h24,ki (by omega)];rfl
 rw[if_neg h24,kf (by omega)];have L:=qC7 s.Rings.length (λn l i=>wM s n l i) (qIX (errR s) (λx=>(rgs s x).Z)) (λr=>r) (λx l=>x=0\/l=(rgs s (x-1)).Z) (λn x l hx hi=>by
   have e:wM s (n+1) l (x:Int)=match errR s x with|some e=>some (.inl e)|none=>wM s n (rgs s x).Z ((x+1:Nat):Int):=by
    rw[wM,ki (by omega),zS (by omega)];simp only[kp,kg,gA,qFB,kd,JZ,wF (show x<4611686018427387904 by omega),zS (i:=0) (n:=s.Rings.length) (by omega)];unfold errR rgs;cases hc:JU (s.Rings.getD x dd) !=0 with
    |true=>rfl
    |false=>
     simp only[ku];by_cases hx0:x=0
     ·subst hx0;rw[show(((0:Nat):Int)==0)=true from rfl,kf (show¬((0:Nat):Int)>0 by omega)];cases (s.Rings.getD 0 dd).Z !=0 with
      |true=>rfl
      |false=>cases (((s.Rings.getD 0 dd).Read.length:Nat):Int) !=(((s.Rings.getD 0 dd).Read.length:Nat):Int)<;>rfl
     ·have hl:l=(rgs s (x-1)).Z:=hi.resolve_left hx0;subst hl;unfold rgs;rw[show(((x:Nat):Int)==0)=false by rw[kL];omega,ki (show((x:Nat):Int)>0 by omega),kf hx0,ki (show 0<x by omega)];cases decide ((s.Rings.getD x dd).Z<=(s.Rings.getD (x-1) dd).Z) with
      |true=>rfl
      |false=>cases ((s.Rings.getD x dd).Read.length:Int) !=(((s.Rings.getD 0 dd).Read.length:Nat):Int)<;>rfl
   unfold qIX;cases he:errR s x with
   |some q=>rw[he] at e;exact e
   |none=>rw[he] at e;exact⟨e,.inr (by rw[Nat.add_sub_cancel])⟩)
  (λn l _=>by show wM s (n+1) l _=_;rw[wM,kf (by omega)];rfl) FUEL 0 0 (by rw[FUEL_eq];omega) (by omega) (.inl rfl)
 rw[qN3,if_neg (show¬s.Rings.length-0=0 by omega),show 0+(s.Rings.length-0)-1=s.Rings.length-1 by omega,gq] at L;have L':wM s FUEL 0 0=some (Sum.elim Sum.inl (λ_=>Sum.inr (rgs s (s.Rings.length-1)).Z) (findN (errR s) 0 s.Rings.length)):=L;rw[L'];simp only[ku,kd];cases findN (errR s) 0 s.Rings.length with
 |inl e=>rfl
 |inr u=>
  simp only[Sum.elim_inr,qRY,kd];by_cases h13:DP s.Defects=0
  ·rw[h13,if_neg (by simp)];simp only[kQ,ku];have:=qR7 s (endZ s) (PL s (endZ s)) ((YU _).1 h13).1 (λn x hx=>by
    rw[PL,ki (by omega),zS (by omega)];simp only[kp,kg,wF (show x<4611686018427387904 by have:=((YU _).1 h13).1;omega)]) (λn=>by rw[PL,kf (by omega)];rfl)
   rw[show(rgs s (s.Rings.length-1)).Z=endZ s from rfl,this];simp only[kd];cases findE (errZ (endZ s)) s.Defects<;>rfl
  ·rw[show(DP s.Defects !=0)=true by rw[gz];exact h13,if_pos h13];rfl
theorem qYd {s:Scan} {x:Nat} (h:errR s x=none):QT (rgs s x)/\(x=0->(rgs s x).Z=0)/\(0<x->(rgs s (x-1)).Z<(rgs s x).Z)/\(rgs s x).Read.length=(rgs s 0).Read.length:=by
 unfold errR at h;cases h1:JU (rgs s x) !=0 with
 |true=>rw[h1] at h;cases h
 |false=>
  rw[h1] at h;simp only[ku] at h;cases h2:(decide (x=0)&&((rgs s x).Z !=0))||(decide (0<x)&&decide ((rgs s x).Z<=(rgs s (x-1)).Z)) with
  |true=>rw[h2] at h;cases h
  |false=>
   rw[h2] at h;simp only[ku] at h;cases h3:((rgs s x).Read.length:Int) !=(((rgs s 0).Read.length:Nat):Int) with
   |true=>rw[h3] at h;cases h
   |false=>
    simp only[uY,Bool.and_eq_false_iff,decide_eq_false_iff_not,bne_eq_false_iff_eq] at h1 h2 h3;exact⟨(NQ _).1 h1,λhx=>h2.1.resolve_left (λq=>q hx),λhx=>by rcases h2.2 with q|q<;>omega,by omega⟩
structure V15 (s:Scan):Prop where
 two:2<=s.Rings.length
 many:s.Rings.length<=24
 good:∀x,x<s.Rings.length->QT (rgs s x)
 zero:(rgs s 0).Z=0
 up:∀x,0<x->x<s.Rings.length->(rgs s (x-1)).Z<(rgs s x).Z
 same:∀x,x<s.Rings.length->(rgs s x).Read.length=(rgs s 0).Read.length
 def13:DP s.Defects=0
 ends:∀d∈s.Defects,d.Box.Z.B<=endZ s
theorem qRT {z:Int} {d:qG}:errZ z d=none↔d.Box.Z.B<=z:=by
 unfold errZ;by_cases h:d.Box.Z.B>z
 ·rw[ki h];simp;omega
 ·rw[kf h];simp;omega
theorem qI6 (s:Scan):SU s=0↔V15 s:=by
 unfold SU;by_cases h2:s.Rings.length<2
 ·rw[if_pos h2];exact⟨λh=>absurd h (by decide),λh=>by have:=h.two;omega⟩
 rw[if_neg h2];by_cases h24:24<s.Rings.length
 ·rw[if_pos h24];exact⟨λh=>absurd h (by decide),λh=>by have:=h.many;omega⟩
 rw[if_neg h24];cases hf:findN (errR s) 0 s.Rings.length with
 |inl e=>
  obtain⟨i,_,hi,he,_⟩:=qQa hf;simp only;refine⟨λh=>?_,λh=>?_⟩
  ·subst h;unfold errR at he;cases h1:JU (rgs s i) !=0 with
   |true=>rw[h1] at he;simp only[kp,uA] at he;rw[he] at h1;cases h1
   |false=>
    rw[h1] at he;simp only[ku] at he;cases h2:(decide (i=0)&&((rgs s i).Z !=0))||(decide (0<i)&&decide ((rgs s i).Z<=(rgs s (i-1)).Z))<;>rw[h2] at he<;>simp only[kp,ku] at he
    ·cases h3:((rgs s i).Read.length:Int) !=(((rgs s 0).Read.length:Nat):Int)<;>rw[h3] at he<;>cases he
    ·cases he
  ·have hi':i<s.Rings.length:=by omega
   exfalso;have:errR s i=none:=by
    unfold errR;rw[show JU (rgs s i)=0 from(NQ _).2 (h.good i hi'),h.same i hi'];simp only[kQ,ku];have:((decide (i=0)&&((rgs s i).Z !=0))||(decide (0<i)&&decide ((rgs s i).Z<=(rgs s (i-1)).Z)))=false:=by
     by_cases h0:i=0
     ·subst h0;rw[h.zero];simp
     ·rw[kf h0,kf (show¬(rgs s i).Z<=(rgs s (i-1)).Z by have:=h.up i (by omega) hi';omega)];simp
    rw[this];rfl
   rw[this] at he;cases he
 |inr u=>
  have hn:=qIJ.1 hf;simp only;by_cases h13:DP s.Defects=0
  ·rw[if_neg (by simpa using h13)];cases hz:findE (errZ (endZ s)) s.Defects with
   |inl e=>
    simp only;obtain⟨d,hd,he⟩:=qF8 hz;refine⟨λh=>?_,λh=>?_⟩
    ·subst h;unfold errZ at he;cases h3:decide (d.Box.Z.B>endZ s)<;>rw[h3] at he<;>cases he
    ·rw[qRT.2 (h.ends d hd)] at he;cases he
   |inr u=>
    have hz':=qAn.1 hz;have e:∀x,x<s.Rings.length->_:=λx hx=>qYd (hn x (by omega) (by omega));exact⟨λ_=>⟨by omega,by omega,λx hx=>(e x hx).1,(e 0 (by omega)).2.1 rfl,λx h0 hx=>(e x hx).2.2.1 h0,λx hx=>(e x hx).2.2.2,h13,λd hd=>qRT.1 (hz' d hd)⟩,λ_=>rfl⟩
  ·rw[if_pos h13];exact⟨λh=>absurd h h13,λh=>absurd h.def13 h13⟩
noncomputable def secR (r:Ring) (limit most:Int):qH×Int:=bif rg_canFill (rg_cleaned r limit) most then ofR (fill (rg_cleaned r limit)) else(nilS,30)
theorem qZo {a:Ring} (g:QT a) {most:Int} (h:rg_canFill a most=true):(fill a).length=a.Read.length:=by
 refine(qES a g ?_).1;unfold rg_canFill at h;rw[kr] at h;have:=h.1;simp only[ut,decide_eq_false_iff_not] at this;omega
theorem sec_eq (r:Ring) (g:QT r) (limit most:Int):GA r limit most=some (secR r limit most)/\qJb r limit most=some ((secR r limit most).1,(secR r limit most).2==0):=by
 have g':=qPG r g limit;have hi:=g.hi;unfold GA qJb secR;rw[qSP r limit (by omega),qVv r limit (by omega)];simp only[kd];rw[show(Ring.mk (rg_cleaned r limit).Z (rg_cleaned r limit).Read)=rg_cleaned r limit from rfl,qRd _ g',qSo _ g'];simp only[kd];cases hc:rg_canFill (rg_cleaned r limit) most with
 |false=>exact⟨rfl,rfl⟩
 |true=>
  simp only[kp,kQ,ku];have hl:(fill (rg_cleaned r limit)).length<=40:=by
   rw[qZo g' hc];have:=g'.hi;omega
  rw[(Of_eq _ hl).1,(Of_eq _ hl).2];exact⟨rfl,rfl⟩
theorem qWQ (r:Ring) (limit most:Int):VS (secR r limit most).1:=by
 unfold secR;cases rg_canFill (rg_cleaned r limit) most with
 |false=>exact qKV
 |true=>exact ofR_VS _
noncomputable def secI (s:Scan) (l m:Int) (i:Nat):qH×Int:=secR (rgs s i) l m
noncomputable def qOn (s:Scan) (l m:Int) (i:Nat):qH:=qF9 (secI s l m i).1 (secI s l m (i+1)).1
noncomputable def slI (s:Scan) (l m:Int) (i:Nat):qN:=⟨(rgs s (i+1)).Z-(rgs s i).Z,qOn s l m i⟩
noncomputable def er1 (s:Scan) (l m:Int) (i:Nat):Option (List qN×Int):=if(secI s l m i).2≠0 then some ([],30) else none
noncomputable def er2 (s:Scan) (l m:Int) (i:Nat):Option (List qN×Int):=if(qOn s l m i).Rows=[] then some ([],30) else none
noncomputable def qBt (s:Scan) (l m:Int):List qN×Int:=
 if SU s≠0 then([],SU s)
 else match findN (er1 s l m) 0 s.Rings.length with
  | .inl e=>e
  | .inr _=>match findN (er2 s l m) 0 (s.Rings.length-1) with
   | .inl e=>e
   | .inr _=>((List.range (s.Rings.length-1)).map (slI s l m),0)
theorem meet_at (s:Scan) (l m:Int) (i:Nat):GT (secI s l m i).1 (secI s l m (i+1)).1=some (qOn s l m i)/\qII (secI s l m i).1 (secI s l m (i+1)).1=some (qOn s l m i):=by
 have h:=Meet_eq (secI s l m i).1 (secI s l m (i+1)).1;rw[qVy (show VS (secI s l m i).1 from qWQ _ _ _),qVy (show VS (secI s l m (i+1)).1 from qWQ _ _ _)] at h;exact h
theorem rows0 (x:qH):((x.Rows.length:Int)==0)=decide (x.Rows=[]):=by
 cases hx:x.Rows with
 |nil=>rfl
 |cons a l=>rw[kf (by simp)];rw[kL];simp;omega
def XU {α:Type} (f:Nat->α) (z:α) (N x:Nat):List α:=(List.range N).map (λi=>if i<x then f i else z)
theorem qFI {α:Type} (f:Nat->α) (z:α) (N x:Nat):(XU f z N x).length=N:=by simp[XU]
theorem qPv {α:Type} (f:Nat->α) (z:α) (N:Nat):XU f z N 0=List.replicate N z:=by
 refine gC (by simp[XU]) λi h1 h2=>?_;simp[XU]
theorem qR3 {α:Type} (f:Nat->α) (z:α) (N:Nat):XU f z N N=(List.range N).map f:=by
 refine gC (by simp[XU]) λi h1 h2=>?_;simp only[XU,ga,uB] at h1;simp only[XU,List.getElem_map,List.getElem_range,if_pos h1]
theorem partF_set {α:Type} (f:Nat->α) (z:α) (N x:Nat):(XU f z N x).set x (f x)=XU f z N (x+1):=by
 refine gC (by simp[XU]) λi h1 h2=>?_;by_cases h:i=x
 ·subst h;simp[XU]
 ·rw[List.getElem_set_ne (by omega)];simp only[XU,List.getElem_map,List.getElem_range];by_cases h3:i<x
  ·rw[if_pos h3,if_pos (by omega)]
  ·rw[if_neg h3,if_neg (by omega)]
theorem qR9 {α ρ:Type} (N:Nat) (L:Nat->List α->Int->Option (ρ⊕List α)) (err:Nat->Option ρ) (f:Nat->α) (z:α) (hN:N<=1000000000)
  (h0:∀n x l,x<N->l.length=N->L (n+1) l (x:Int)=match err x with|some e=>some (.inl e)|none=>L n (l.set x (f x)) ((x+1:Nat):Int))
  (h1:∀n l,l.length=N->L (n+1) l (N:Int)=some (.inr l)):
  L FUEL (List.replicate N z) 0=some (Sum.elim Sum.inl (λ_=>Sum.inr ((List.range N).map f)) (findN err 0 N)):=by
 have h:=qC7 N L (qIX err (λx=>XU f z N (x+1))) (λr=>r) (λx l=>l=XU f z N x) (λn x l hx hi=>by
   subst hi;have e:=h0 n x _ hx (qFI f z N x);unfold qIX;cases he:err x with
   |some q=>rw[he] at e;exact e
   |none=>rw[he] at e;simp only[partF_set] at e;exact⟨e,rfl⟩)
  (λn l hi=>h1 n l (by rw[hi,qFI])) FUEL 0 (XU f z N 0) (by rw[FUEL_eq];omega) (by omega) rfl
 rw[qPv,qN3,gq] at h;rw[show((0:Nat):Int)=0 from rfl] at h;rw[h];cases findN err 0 N with
 |inl e=>rfl
 |inr u=>
  simp only[Sum.elim_inr];by_cases hn:N=0
  ·subst hn;rfl
  ·rw[if_neg hn,show 0+N-1+1=N by omega,qR3]
theorem qZ2 (s:Scan) (l m:Int):HQ s l m=some (qBt s l m):=by
 unfold HQ qBt;rw[qUC];simp only[kd];by_cases hc:¬SU s=0
 ·rw[show(SU s !=0)=true from gz.2 hc,if_pos hc];rfl
 have hc:SU s=0:=Classical.not_not.1 hc;rw[hc,if_neg (by simp)];simp only[kQ,ku];have v:=(qI6 s).1 hc;have v2:=v.two;have v24:=v.many;rw[qEL (by omega) (by omega)];have L1:=qR9 s.Rings.length (TL s l m) (er1 s l m) (λi=>(secI s l m i).1) (qH.mk 0 ([]:List Span)) (by omega) (λn x t hx ht=>by
  rw[TL,ki (by omega),zS (by omega)];simp only[kp,kg];rw[(sec_eq (s.Rings.getD x dd) (v.good x hx) l m).1];simp only[kd];unfold er1 secI rgs;by_cases he:(secR (s.Rings.getD x dd) l m).2=0
  ·rw[he,if_neg (by simp),zS (by omega),wF (by omega)];rfl
  ·rw[if_pos he,show((secR (s.Rings.getD x dd) l m).2 !=0)=true from gz.2 he];rfl) (λn t ht=>by
  rw[TL,kf (by omega)];rfl)
 rw[kg,L1];simp only[kp,kd];cases findN (er1 s l m) 0 s.Rings.length with
 |inl e=>rfl
 |inr u=>
  simp only[Sum.elim_inr];rw[w64_o (by omega),show(s.Rings.length:Int)-1=((s.Rings.length-1:Nat):Int) by omega,qEL (by omega) (by omega),kg];have L2:=qR9 (s.Rings.length-1) (TH s ((List.range s.Rings.length).map λi=>(secI s l m i).1)) (er2 s l m) (slI s l m) (qN.mk 0 (qH.mk 0 ([]:List Span))) (by omega) (λn x t hx ht=>by
   have gm:∀j,j<s.Rings.length->((List.range s.Rings.length).map λi=>(secI s l m i).1).getD j dd=(secI s l m j).1:=λj hj=>by
    rw[ka,kG,gR hj];rfl
   have hl:((List.range s.Rings.length).map λi=>(secI s l m i).1).length=s.Rings.length:=by simp
   rw[TH,w64_o (n:=(s.Rings.length:Int)-1) (by omega),show(s.Rings.length:Int)-1=((s.Rings.length-1:Nat):Int) by omega,kg,ki (by omega),hl,wF (show x<4611686018427387904 by omega),zS (by omega),zS (i:=((x+1:Nat):Int)) (by omega)];simp only[kp,kg];rw[gm x (by omega),gm (x+1) (by omega),(meet_at s l m x).1];simp only[kd];rw[rows0];unfold er2;by_cases he:(qOn s l m x).Rows=[]
   ·rw[ki he,if_pos he];rfl
   ·rw[kf he,if_neg he,zS (by omega)];have g1:=(v.good x (by omega)).z0;have g2:=(v.good x (by omega)).z1;have g3:=(v.good (x+1) (by omega)).z0;have g4:=(v.good (x+1) (by omega)).z1;rw[show(s.Rings.getD (x+1) dd).Z=(rgs s (x+1)).Z from rfl,show(s.Rings.getD x dd).Z=(rgs s x).Z from rfl,w64_o (by omega)];rfl) (λn t ht=>by
   rw[TH,w64_o (n:=(s.Rings.length:Int)-1) (by omega),show(s.Rings.length:Int)-1=((s.Rings.length-1:Nat):Int) by omega,kg,kf (by omega)];rfl)
  rw[L2];simp only[kp,kd];cases findN (er2 s l m) 0 (s.Rings.length-1) with
  |inl e=>rfl
  |inr u=>rfl
structure qK6 (s:Scan):Prop where
 r:s.Rings.length<=1000000
 d:s.Defects.length<=1000000
 p:∀i,i<s.Rings.length->(rgs s i).Read.length<=1000000
theorem V15.small {s:Scan} (v:V15 s):qK6 s:=⟨by have:=v.many;omega,by have:=((YU _).1 v.def13).1;omega,λi hi=>by have:=(v.good i hi).hi;omega⟩
end Saw
end Go.SL

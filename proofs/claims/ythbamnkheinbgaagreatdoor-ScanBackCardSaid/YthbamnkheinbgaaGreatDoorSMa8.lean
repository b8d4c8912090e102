/- Poly's plain mathematics, part 33: convex polygons: at each height one edge goes up, and one goes down. -/
import Derived.Test.YthbamnkheinbgaaGreatDoorSMa7
import Derived.Test.YthbamnkheinbgaaGreatDoorSMod
set_option linter.unusedVariables false
set_option linter.unusedSimpArgs false
namespace Go.SL
namespace Saw
theorem EZ :FUEL=4611686018427387904:=by unfold FUEL;rfl
theorem qDN {n:Int} (h1: -9223372036854775808<=n) (h2:n<=9223372036854775807):w64 n=n:=by
 unfold w64 IntKind.wrap;simp only[IntKind.bits,IntKind.signed,Bool.true_and];split
 ·rename_i h;have h':n % 2^64≥2^(64-1):=kS h;omega
 ·rename_i h;have h':¬n % 2^64≥2^(64-1):=λhh=>h (kg hh);omega
theorem qFf {i:Int} {n:Nat} (h0:0<=i) (h1:i<(n:Int)):inb i n=true:=by unfold inb;exact kg ⟨h0,h1⟩
theorem qFE (a:Int):YQ a=some (decide (-600<=a)&&decide (a<=600)):=by
 unfold YQ KN;by_cases h:a≥-600
 ·simp[h]
 ·simp[h]
def JH (p:qA):Bool:=(decide (-600<=p.X)&&decide (p.X<=600))&&(decide (-600<=p.Y)&&decide (p.Y<=600))
theorem qEE (p:qA):NW [p]=some (JH p):=by
 unfold NW;rw[EZ];rw[show(4611686018427387904:Nat)=4611686018427387902+1+1 from rfl];unfold wN;have e1:w64 (0+1)=1:=by kernel_rfl
 have tail:wN [p] (4611686018427387902+1) 1=some (Sum.inr ()):=by
  unfold wN;simp
 have hi:inb 0 1=true:=by kernel_rfl
 simp only[kw,kN,kF,WA,e1,tail,hi,kp,Int.toNat_zero,uL];have h01:decide ((0:Int)<((1:Nat):Int))=true:=by decide
 rw[h01];simp only[kp,JH];by_cases h1:p.X< -600
 ·have g1:¬-600<=p.X:=by omega
  simp[h1,g1]
 ·have g1: -600<=p.X:=by omega
  by_cases h2:p.X>600
  ·have g2:¬p.X<=600:=by omega
   simp[h1,h2,g2]
  ·have g2:p.X<=600:=by omega
   by_cases h3:p.Y< -600
   ·have g3:¬-600<=p.Y:=by omega
    simp[h1,h2,h3,g3]
   ·have g3: -600<=p.Y:=by omega
    by_cases h4:p.Y>600
    ·have g4:¬p.Y<=600:=by omega
     simp[h1,h2,h3,h4,g4]
    ·have g4:p.Y<=600:=by omega
     simp[h1,h2,h3,h4,g1,g2,g3,g4]
def DU (p:qA):Bool:=p.X==0&&(p.Y==0&&true)
def WC (r:qC):Int:=bif r.Ok&&!JH r.P then 9 else bif !r.Ok&&!DU r.P then 19 else 0
def zY (l:List qC):Int:=match l with
 |[]=>0
 |r::l=>bif WC r==0 then zY l else WC r
def XM (c:Int):Int⊕Unit:=bif c==0 then .inr () else .inl c
theorem CO {α:Type} [Inhabited α] (l:List α) (x:Nat) (h:x<l.length):l.drop x=l.getD x dd::l.drop (x+1):=by
 rw[go h,ka,ks h];rfl
theorem CG (a:Ring):∀(n:Nat) (x:Nat),a.Read.length<x+n->x<=a.Read.length->a.Read.length<=1000->wH a n (x:Int)=some (XM (zY (a.Read.drop x)))
 |0,x,h1,h2,_=>by omega
 |n+1,x,h1,h2,h3=>by
  unfold wH;by_cases hx:x<a.Read.length
  ·have hd:=CO a.Read x hx;have ih:=CG a n (x+1) (by omega) (by omega) h3;have e1:w64 ((x:Int)+1)=((x+1:Nat):Int):=by rw[qDN (by omega) (by omega)];omega
   have c1:decide ((x:Int)<(a.Read.length:Int))=true:=kg (by omega);rw[c1,qFf (by omega) (by omega),hd];simp only[kp,kB,qFE,ke,YC,PP,e1,ih,zY,WC,JH,DU];generalize a.Read.getD x dd=r;cases r.Ok<;>cases (decide (-600<=r.P.X)&&decide (r.P.X<=600))<;>cases (decide (-600<=r.P.Y)&&decide (r.P.Y<=600))<;>cases (r.P.X==0&&(r.P.Y==0&&true))<;>simp[XM]
  ·have c1:decide ((x:Int)<(a.Read.length:Int))=false:=kf (by omega);rw[c1,kZ (by omega)];rfl
theorem qA1 (a:Ring):∀(n:Nat) (x:Nat),a.Read.length<x+n->x<=a.Read.length->a.Read.length<=1000->QR a n (x:Int)=some (XM (zY (a.Read.drop x)))
 |0,x,h1,h2,_=>by omega
 |n+1,x,h1,h2,h3=>by
  unfold QR;by_cases hx:x<a.Read.length
  ·have hd:=CO a.Read x hx;have ih:=qA1 a n (x+1) (by omega) (by omega) h3;have e1:w64 ((x:Int)+1)=((x+1:Nat):Int):=by rw[qDN (by omega) (by omega)];omega
   have c1:decide ((x:Int)<(a.Read.length:Int))=true:=kg (by omega);rw[c1,qFf (by omega) (by omega),hd];simp only[kp,kB,qEE,ke,GH,UX,e1,ih,zY,WC,DU];generalize a.Read.getD x dd=r;cases r.Ok<;>cases JH r.P<;>cases (r.P.X==0&&(r.P.Y==0&&true))<;>simp[XM]
  ·have c1:decide ((x:Int)<(a.Read.length:Int))=false:=kf (by omega);rw[c1,kZ (by omega)];rfl
def WX (a:Ring):Int:=
 bif decide ((a.Read.length:Int)<8) then 3 else bif decide ((a.Read.length:Int)>32) then 4 else bif decide (a.Z<0) then 9 else bif decide (a.Z>20000) then 9 else zY a.Read
theorem qEM (a:Ring):JP a=some (WX a):=by
 unfold JP WX PH;by_cases h1:(a.Read.length:Int)<8
 ·simp[h1]
 by_cases h2:(a.Read.length:Int)>32
 ·simp[h1,h2]
 have hl:=CG a FUEL 0 (by rw[EZ];omega) (by omega) (by omega);rw[uB] at hl;by_cases h3:a.Z<0
 ·simp[h1,h2,h3]
 by_cases h4:a.Z>20000
 ·simp[h1,h2,h3,h4]
 rw[kf h1,kf h2,kf h3,kf h4];have hl':wH a FUEL 0=some (XM (zY a.Read)):=hl;simp only[kq,hl',ke,XM];by_cases hc:zY a.Read=0
 ·rw[hc];rfl
 ·have hb:(zY a.Read==0)=false:=by simpa using hc
  rw[hb];rfl
theorem qFJ (a:Ring):MY a=some (WX a):=by
 unfold MY WX VF;by_cases h1:(a.Read.length:Int)<8
 ·simp[h1]
 by_cases h2:(a.Read.length:Int)>32
 ·simp[h1,h2]
 have hl:=qA1 a FUEL 0 (by rw[EZ];omega) (by omega) (by omega);rw[uB] at hl;by_cases h3:a.Z<0
 ·simp[h1,h2,h3]
 by_cases h4:a.Z>20000
 ·simp[h1,h2,h3,h4]
 rw[kf h1,kf h2,kf h3,kf h4];have hl':QR a FUEL 0=some (XM (zY a.Read)):=hl;simp only[kq,hl',ke,XM];by_cases hc:zY a.Read=0
 ·rw[hc];rfl
 ·have hb:(zY a.Read==0)=false:=by simpa using hc
  rw[hb];rfl
structure YO (a:Ring):Prop where
 lo:8<=a.Read.length
 hi:a.Read.length<=32
 z0:0<=a.Z
 z1:a.Z<=20000
 all:∀r∈a.Read,WC r=0
theorem LU :∀{l:List qC},zY l=0↔∀r∈l,WC r=0
 |[]=>by simp[zY]
 |r::l=>by
  simp only[zY,uo,forall_eq_or_imp];by_cases h:WC r=0
  ·simp[h,LU (l:=l)]
  ·have hb:(WC r==0)=false:=by simpa using h
   rw[hb];exact⟨λh'=>absurd h' h,λh'=>absurd h'.1 h⟩
theorem qA5 (a:Ring):WX a=0↔YO a:=by
 unfold WX;by_cases h1:(a.Read.length:Int)<8
 ·simp only[h1,decide_true,kp];exact⟨λh=>by omega,λh=>by have:=h.lo;omega⟩
 by_cases h2:(a.Read.length:Int)>32
 ·simp only[h1,h2,decide_true,decide_false,kp,kq];exact⟨λh=>by omega,λh=>by have:=h.hi;omega⟩
 by_cases h3:a.Z<0
 ·simp only[h1,h2,h3,decide_true,decide_false,kp,kq];exact⟨λh=>by omega,λh=>by have:=h.z0;omega⟩
 by_cases h4:a.Z>20000
 ·simp only[h1,h2,h3,h4,decide_true,decide_false,kp,kq];exact⟨λh=>by omega,λh=>by have:=h.z1;omega⟩
 simp only[h1,h2,h3,h4,decide_false,kq,LU];exact⟨λh=>⟨by omega,by omega,by omega,by omega,h⟩,λh=>h.all⟩
end Saw
end Go.SL

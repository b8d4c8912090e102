/- Poly's plain mathematics, part 33: convex polygons: at each height one edge goes up, and one goes down. -/
import Derived.Test.YtigmogcdifllhaaGreatDoorEMa8
import Derived.Test.YtigmogcdifllhaaGreatDoorEMa1
set_option linter.unusedVariables false
set_option linter.unusedSimpArgs false
namespace Go.SL
namespace Saw
theorem wD :FUEL=9223372036854775808:=by unfold FUEL;rfl
theorem qZ {n:Int} (h1: -9223372036854775808<=n) (h2:n<=9223372036854775807):w64 n=n:=by
 unfold w64 IntKind.wrap;simp only[IntKind.bits,IntKind.signed,Bool.true_and];split
 ·rename_i h;have h':n % 2^64≥2^(64-1):=ut h;omega
 ·rename_i h;have h':¬n % 2^64≥2^(64-1):=λhh=>h (kf hh);omega
theorem zV {i:Int} {n:Nat} (h0:0<=i) (h1:i<(n:Int)):inb i n=true:=by unfold inb;exact kf ⟨h0,h1⟩
theorem UU {b:Int} (h:b≠0):nz b=true:=by unfold nz;exact kf h
theorem qG8 {n b:Nat} (h:n*b<=140737488355328):room n b=true:=by unfold room;exact kf h
theorem qV5 (a:Int):DT a=some (decide (-600<=a)&&decide (a<=600)):=by
 unfold DT HE;by_cases h:a≥-600
 ·simp[h]
 ·simp[h]
def VM (p:qA):Bool:=(decide (-600<=p.X)&&decide (p.X<=600))&&(decide (-600<=p.Y)&&decide (p.Y<=600))
theorem qVM (p:qA):QQ [p]=some (VM p):=by
 unfold QQ;rw[wD];rw[show(9223372036854775808:Nat)=9223372036854775806+1+1 from rfl];unfold wM;have e1:w64 (0+1)=1:=by kernel_rfl
 have tail:wM [p] (9223372036854775806+1) 1=some (Sum.inr ()):=by
  unfold wM;simp
 have hi:inb 0 1=true:=by kernel_rfl
 simp only[uU,List.length_nil,ky,WC,e1,tail,hi,ko,gt,kY];have h01:decide ((0:Int)<((1:Nat):Int))=true:=by decide
 rw[h01];simp only[ko,VM];by_cases h1:p.X< -600
 ·have g1:¬-600<=p.X:=by omega
  simp[h1,g1]
 ·have g1: -600<=p.X:=by omega
  by_cases h2:p.X>600
  ·have g2:¬p.X<=600:=by omega
   simp[h1,h2,g2]
  ·have g2:p.X<=600:=by omega
   by_cases h3:p.Y< -600
   ·have g3:¬-600<=p.Y:=by omega
    simp[h1,h2,h3,g3]
   ·have g3: -600<=p.Y:=by omega
    by_cases h4:p.Y>600
    ·have g4:¬p.Y<=600:=by omega
     simp[h1,h2,h3,h4,g4]
    ·have g4:p.Y<=600:=by omega
     simp[h1,h2,h3,h4,g1,g2,g3,g4]
def qDr (p:qA):Bool:=p.X==0&&(p.Y==0&&true)
def YW (r:qL):Int:=bif r.Ok&&!VM r.P then 9 else bif !r.Ok&&!qDr r.P then 19 else 0
def jN (l:List qL):Int:=match l with
 |[]=>0
 |r::l=>bif YW r==0 then jN l else YW r
def NX (c:Int):Int⊕Unit:=bif c==0 then .inr () else .inl c
theorem qMu {α:Type} [Inhabited α] (l:List α) (x:Nat) (h:x<l.length):l.drop x=l.getD x dd::l.drop (x+1):=by
 rw[gP h,ka,kp h];rfl
theorem qMg (a:Ring):∀(n:Nat) (x:Nat),a.Read.length<x+n->x<=a.Read.length->a.Read.length<=1000->yV a n (x:Int)=some (NX (jN (a.Read.drop x)))
 |0,x,h1,h2,_=>by omega
 |n+1,x,h1,h2,h3=>by
  unfold yV;by_cases hx:x<a.Read.length
  ·have hd:=qMu a.Read x hx;have ih:=qMg a n (x+1) (by omega) (by omega) h3;have e1:w64 ((x:Int)+1)=((x+1:Nat):Int):=by rw[qZ (by omega) (by omega)];omega
   have c1:decide ((x:Int)<(a.Read.length:Int))=true:=kf (by omega);rw[c1,zV (by omega) (by omega),hd];simp only[ko,kr,qV5,ke,DF,AF,e1,ih,jN,YW,VM,qDr];generalize a.Read.getD x dd=r;cases r.Ok<;>cases (decide (-600<=r.P.X)&&decide (r.P.X<=600))<;>cases (decide (-600<=r.P.Y)&&decide (r.P.Y<=600))<;>cases (r.P.X==0&&(r.P.Y==0&&true))<;>simp[NX]
  ·have c1:decide ((x:Int)<(a.Read.length:Int))=false:=kg (by omega);rw[c1,uw (by omega)];rfl
theorem qNO (a:Ring):∀(n:Nat) (x:Nat),a.Read.length<x+n->x<=a.Read.length->a.Read.length<=1000->yY a n (x:Int)=some (NX (jN (a.Read.drop x)))
 |0,x,h1,h2,_=>by omega
 |n+1,x,h1,h2,h3=>by
  unfold yY;by_cases hx:x<a.Read.length
  ·have hd:=qMu a.Read x hx;have ih:=qNO a n (x+1) (by omega) (by omega) h3;have e1:w64 ((x:Int)+1)=((x+1:Nat):Int):=by rw[qZ (by omega) (by omega)];omega
   have c1:decide ((x:Int)<(a.Read.length:Int))=true:=kf (by omega);rw[c1,zV (by omega) (by omega),hd];simp only[ko,kr,qVM,ke,MW,MY,e1,ih,jN,YW,qDr];generalize a.Read.getD x dd=r;cases r.Ok<;>cases VM r.P<;>cases (r.P.X==0&&(r.P.Y==0&&true))<;>simp[NX]
  ·have c1:decide ((x:Int)<(a.Read.length:Int))=false:=kg (by omega);rw[c1,uw (by omega)];rfl
def ZO (a:Ring):Int:=
 bif decide ((a.Read.length:Int)<8) then 3 else bif decide ((a.Read.length:Int)>32) then 4 else bif decide (a.Z<0) then 9 else bif decide (a.Z>20000) then 9 else jN a.Read
theorem GS (a:Ring):RX a=some (ZO a):=by
 unfold RX ZO AQ;by_cases h1:(a.Read.length:Int)<8
 ·simp[h1]
 by_cases h2:(a.Read.length:Int)>32
 ·simp[h1,h2]
 have hl:=qMg a FUEL 0 (by rw[wD];omega) (by omega) (by omega);rw[uI] at hl;by_cases h3:a.Z<0
 ·simp[h1,h2,h3]
 by_cases h4:a.Z>20000
 ·simp[h1,h2,h3,h4]
 rw[kg h1,kg h2,kg h3,kg h4];have hl':yV a FUEL 0=some (NX (jN a.Read)):=hl;simp only[ku,hl',ke,NX];by_cases hc:jN a.Read=0
 ·rw[hc];rfl
 ·have hb:(jN a.Read==0)=false:=by simpa using hc
  rw[hb];rfl
theorem LT (a:Ring):XR a=some (ZO a):=by
 unfold XR ZO MH;by_cases h1:(a.Read.length:Int)<8
 ·simp[h1]
 by_cases h2:(a.Read.length:Int)>32
 ·simp[h1,h2]
 have hl:=qNO a FUEL 0 (by rw[wD];omega) (by omega) (by omega);rw[uI] at hl;by_cases h3:a.Z<0
 ·simp[h1,h2,h3]
 by_cases h4:a.Z>20000
 ·simp[h1,h2,h3,h4]
 rw[kg h1,kg h2,kg h3,kg h4];have hl':yY a FUEL 0=some (NX (jN a.Read)):=hl;simp only[ku,hl',ke,NX];by_cases hc:jN a.Read=0
 ·rw[hc];rfl
 ·have hb:(jN a.Read==0)=false:=by simpa using hc
  rw[hb];rfl
structure jK (a:Ring):Prop where
 lo:8<=a.Read.length
 hi:a.Read.length<=32
 z0:0<=a.Z
 z1:a.Z<=20000
 all:∀r∈a.Read,YW r=0
theorem qG7 :∀{l:List qL},jN l=0↔∀r∈l,YW r=0
 |[]=>by simp[jN]
 |r::l=>by
  simp only[jN,kX,forall_eq_or_imp];by_cases h:YW r=0
  ·simp[h,qG7 (l:=l)]
  ·have hb:(YW r==0)=false:=by simpa using h
   rw[hb];exact⟨λh'=>absurd h' h,λh'=>absurd h'.1 h⟩
theorem JL (a:Ring):ZO a=0↔jK a:=by
 unfold ZO;by_cases h1:(a.Read.length:Int)<8
 ·simp only[h1,decide_true,ko];exact⟨λh=>by omega,λh=>by have:=h.lo;omega⟩
 by_cases h2:(a.Read.length:Int)>32
 ·simp only[h1,h2,decide_true,decide_false,ko,ku];exact⟨λh=>by omega,λh=>by have:=h.hi;omega⟩
 by_cases h3:a.Z<0
 ·simp only[h1,h2,h3,decide_true,decide_false,ko,ku];exact⟨λh=>by omega,λh=>by have:=h.z0;omega⟩
 by_cases h4:a.Z>20000
 ·simp only[h1,h2,h3,h4,decide_true,decide_false,ko,ku];exact⟨λh=>by omega,λh=>by have:=h.z1;omega⟩
 simp only[h1,h2,h3,h4,decide_false,ku,qG7];exact⟨λh=>⟨by omega,by omega,by omega,by omega,h⟩,λh=>h.all⟩
theorem qH2 (a:Ring) (h:a.Read.length<=1000):MO a=some a:=by
 unfold MO yI;rw[qG8 (by omega)];rfl
theorem qF2 (a:Ring) (h:a.Read.length<=1000):TN a=some a:=by
 unfold TN;rw[qG8 (by omega)];rfl
end Saw
end Go.SL

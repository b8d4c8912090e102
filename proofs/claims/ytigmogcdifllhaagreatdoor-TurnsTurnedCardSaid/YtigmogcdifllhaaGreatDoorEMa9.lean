/- Poly's plain mathematics, part 33: convex polygons: at each height one edge goes up, and one goes down. -/
import Derived.Test.YtigmogcdifllhaaGreatDoorEMa8
import Derived.Test.YtigmogcdifllhaaGreatDoorEMa1
set_option linter.unusedVariables false
set_option linter.unusedSimpArgs false
namespace Go.SL
namespace Saw
theorem wO :FUEL=9223372036854775808:=by unfold FUEL;rfl
theorem zB {n:Int} (h1: -9223372036854775808<=n) (h2:n<=9223372036854775807):w64 n=n:=by
 unfold w64 IntKind.wrap;simp only[IntKind.bits,IntKind.signed,Bool.true_and];split
 ·rename_i h;have h':n % 2^64≥2^(64-1):=ug h;omega
 ·rename_i h;have h':¬n % 2^64≥2^(64-1):=λhh=>h (kf hh);omega
theorem zS {i:Int} {n:Nat} (h0:0<=i) (h1:i<(n:Int)):inb i n=true:=by unfold inb;exact kf ⟨h0,h1⟩
theorem GR {b:Int} (h:b≠0):nz b=true:=by unfold nz;exact kf h
theorem qGt {n b:Nat} (h:n*b<=140737488355328):room n b=true:=by unfold room;exact kf h
theorem qUC (a:Int):NF a=some (decide (-600<=a)&&decide (a<=600)):=by
 unfold NF SE;by_cases h:a≥-600
 ·simp[h]
 ·simp[h]
def KJ (p:qA):Bool:=(decide (-600<=p.X)&&decide (p.X<=600))&&(decide (-600<=p.Y)&&decide (p.Y<=600))
theorem qR0 (p:qA):ZO [p]=some (KJ p):=by
 unfold ZO;rw[wO];rw[show(9223372036854775808:Nat)=9223372036854775806+1+1 from rfl];unfold jA;have e1:w64 (0+1)=1:=by kernel_rfl
 have tail:jA [p] (9223372036854775806+1) 1=some (Sum.inr ()):=by
  unfold jA;simp
 have hi:inb 0 1=true:=by kernel_rfl
 simp only[uT,List.length_nil,kz,WL,e1,tail,hi,kp,gy,ua];have h01:decide ((0:Int)<((1:Nat):Int))=true:=by decide
 rw[h01];simp only[kp,KJ];by_cases h1:p.X< -600
 ·have g1:¬-600<=p.X:=by omega
  simp[h1,g1]
 ·have g1: -600<=p.X:=by omega
  by_cases h2:p.X>600
  ·have g2:¬p.X<=600:=by omega
   simp[h1,h2,g2]
  ·have g2:p.X<=600:=by omega
   by_cases h3:p.Y< -600
   ·have g3:¬-600<=p.Y:=by omega
    simp[h1,h2,h3,g3]
   ·have g3: -600<=p.Y:=by omega
    by_cases h4:p.Y>600
    ·have g4:¬p.Y<=600:=by omega
     simp[h1,h2,h3,h4,g4]
    ·have g4:p.Y<=600:=by omega
     simp[h1,h2,h3,h4,g1,g2,g3,g4]
def qCz (p:qA):Bool:=p.X==0&&(p.Y==0&&true)
def YJ (r:qO):Int:=bif r.Ok&&!KJ r.P then 9 else bif !r.Ok&&!qCz r.P then 19 else 0
def yC (l:List qO):Int:=match l with
 |[]=>0
 |r::l=>bif YJ r==0 then yC l else YJ r
def FM (c:Int):Int⊕Unit:=bif c==0 then .inr () else .inl c
theorem qJ9 {α:Type} [Inhabited α] (l:List α) (x:Nat) (h:x<l.length):l.drop x=l.getD x dd::l.drop (x+1):=by
 rw[gR h,ka,kq h];rfl
theorem qJ1 (a:Ring):∀(n:Nat) (x:Nat),a.Read.length<x+n->x<=a.Read.length->a.Read.length<=1000->QL a n (x:Int)=some (FM (yC (a.Read.drop x)))
 |0,x,h1,h2,_=>by omega
 |n+1,x,h1,h2,h3=>by
  unfold QL;by_cases hx:x<a.Read.length
  ·have hd:=qJ9 a.Read x hx;have ih:=qJ1 a n (x+1) (by omega) (by omega) h3;have e1:w64 ((x:Int)+1)=((x+1:Nat):Int):=by rw[zB (by omega) (by omega)];omega
   have c1:decide ((x:Int)<(a.Read.length:Int))=true:=kf (by omega);rw[c1,zS (by omega) (by omega),hd];simp only[kp,ki,qUC,kd,ND,AT,e1,ih,yC,YJ,KJ,qCz];generalize a.Read.getD x dd=r;cases r.Ok<;>cases (decide (-600<=r.P.X)&&decide (r.P.X<=600))<;>cases (decide (-600<=r.P.Y)&&decide (r.P.Y<=600))<;>cases (r.P.X==0&&(r.P.Y==0&&true))<;>simp[FM]
  ·have c1:decide ((x:Int)<(a.Read.length:Int))=false:=ko (by omega);rw[c1,uw (by omega)];rfl
theorem qMa (a:Ring):∀(n:Nat) (x:Nat),a.Read.length<x+n->x<=a.Read.length->a.Read.length<=1000->QQ a n (x:Int)=some (FM (yC (a.Read.drop x)))
 |0,x,h1,h2,_=>by omega
 |n+1,x,h1,h2,h3=>by
  unfold QQ;by_cases hx:x<a.Read.length
  ·have hd:=qJ9 a.Read x hx;have ih:=qMa a n (x+1) (by omega) (by omega) h3;have e1:w64 ((x:Int)+1)=((x+1:Nat):Int):=by rw[zB (by omega) (by omega)];omega
   have c1:decide ((x:Int)<(a.Read.length:Int))=true:=kf (by omega);rw[c1,zS (by omega) (by omega),hd];simp only[kp,ki,qR0,kd,HB,HC,e1,ih,yC,YJ,qCz];generalize a.Read.getD x dd=r;cases r.Ok<;>cases KJ r.P<;>cases (r.P.X==0&&(r.P.Y==0&&true))<;>simp[FM]
  ·have c1:decide ((x:Int)<(a.Read.length:Int))=false:=ko (by omega);rw[c1,uw (by omega)];rfl
def JS (a:Ring):Int:=
 bif decide ((a.Read.length:Int)<8) then 3 else bif decide ((a.Read.length:Int)>32) then 4 else bif decide (a.Z<0) then 9 else bif decide (a.Z>20000) then 9 else yC a.Read
theorem IE (a:Ring):UC a=some (JS a):=by
 unfold UC JS AH;by_cases h1:(a.Read.length:Int)<8
 ·simp[h1]
 by_cases h2:(a.Read.length:Int)>32
 ·simp[h1,h2]
 have hl:=qJ1 a FUEL 0 (by rw[wO];omega) (by omega) (by omega);rw[uI] at hl;by_cases h3:a.Z<0
 ·simp[h1,h2,h3]
 by_cases h4:a.Z>20000
 ·simp[h1,h2,h3,h4]
 rw[ko h1,ko h2,ko h3,ko h4];have hl':QL a FUEL 0=some (FM (yC a.Read)):=hl;simp only[ku,hl',kd,FM];by_cases hc:yC a.Read=0
 ·rw[hc];rfl
 ·have hb:(yC a.Read==0)=false:=by simpa using hc
  rw[hb];rfl
theorem qFa (a:Ring):UV a=some (JS a):=by
 unfold UV JS HX;by_cases h1:(a.Read.length:Int)<8
 ·simp[h1]
 by_cases h2:(a.Read.length:Int)>32
 ·simp[h1,h2]
 have hl:=qMa a FUEL 0 (by rw[wO];omega) (by omega) (by omega);rw[uI] at hl;by_cases h3:a.Z<0
 ·simp[h1,h2,h3]
 by_cases h4:a.Z>20000
 ·simp[h1,h2,h3,h4]
 rw[ko h1,ko h2,ko h3,ko h4];have hl':QQ a FUEL 0=some (FM (yC a.Read)):=hl;simp only[ku,hl',kd,FM];by_cases hc:yC a.Read=0
 ·rw[hc];rfl
 ·have hb:(yC a.Read==0)=false:=by simpa using hc
  rw[hb];rfl
structure QX (a:Ring):Prop where
 lo:8<=a.Read.length
 hi:a.Read.length<=32
 z0:0<=a.Z
 z1:a.Z<=20000
 all:∀r∈a.Read,YJ r=0
theorem qGr :∀{l:List qO},yC l=0↔∀r∈l,YJ r=0
 |[]=>by simp[yC]
 |r::l=>by
  simp only[yC,kW,forall_eq_or_imp];by_cases h:YJ r=0
  ·simp[h,qGr (l:=l)]
  ·have hb:(YJ r==0)=false:=by simpa using h
   rw[hb];exact⟨λh'=>absurd h' h,λh'=>absurd h'.1 h⟩
theorem NM (a:Ring):JS a=0↔QX a:=by
 unfold JS;by_cases h1:(a.Read.length:Int)<8
 ·simp only[h1,decide_true,kp];exact⟨λh=>by omega,λh=>by have:=h.lo;omega⟩
 by_cases h2:(a.Read.length:Int)>32
 ·simp only[h1,h2,decide_true,decide_false,kp,ku];exact⟨λh=>by omega,λh=>by have:=h.hi;omega⟩
 by_cases h3:a.Z<0
 ·simp only[h1,h2,h3,decide_true,decide_false,kp,ku];exact⟨λh=>by omega,λh=>by have:=h.z0;omega⟩
 by_cases h4:a.Z>20000
 ·simp only[h1,h2,h3,h4,decide_true,decide_false,kp,ku];exact⟨λh=>by omega,λh=>by have:=h.z1;omega⟩
 simp only[h1,h2,h3,h4,decide_false,ku,qGr];exact⟨λh=>⟨by omega,by omega,by omega,by omega,h⟩,λh=>h.all⟩
theorem qMc (a:Ring) (h:a.Read.length<=1000):SF a=some a:=by
 unfold SF ZW;rw[qGt (by omega)];rfl
theorem qTD (a:Ring) (h:a.Read.length<=1000):qEi a=some a:=by
 unfold qEi;rw[qGt (by omega)];rfl
end Saw
end Go.SL

/- Poly's plain mathematics, part 33: convex polygons: at each height one edge goes up, and one goes down. -/
import Derived.Test.YthbamnkheinbgaaGreatDoorSMa7
import Derived.Test.YthbamnkheinbgaaGreatDoorSMod
set_option linter.unusedVariables false
set_option linter.unusedSimpArgs false
namespace Go.SL
namespace Saw
theorem wA :FUEL=4611686018427387904:=by unfold FUEL;rfl
theorem qW {n:Int} (h1: -9223372036854775808<=n) (h2:n<=9223372036854775807):w64 n=n:=by
 unfold w64 IntKind.wrap;simp only[IntKind.bits,IntKind.signed,Bool.true_and];split
 ·rename_i h;have h':n % 2^64≥2^(64-1):=kU h;omega
 ·rename_i h;have h':¬n % 2^64≥2^(64-1):=λhh=>h (ke hh);omega
theorem zM {i:Int} {n:Nat} (h0:0<=i) (h1:i<(n:Int)):inb i n=true:=by unfold inb;exact ke ⟨h0,h1⟩
theorem XK {b:Int} (h:b≠0):nz b=true:=by unfold nz;exact ke h
theorem qBd {n b:Nat} (h:n*b<=140737488355328):room n b=true:=by unfold room;exact ke h
theorem qMd (a:Int):PZ a=some (decide (-600<=a)&&decide (a<=600)):=by
 unfold PZ VH;by_cases h:a≥-600
 ·simp[h]
 ·simp[h]
def KI (p:qA):Bool:=(decide (-600<=p.X)&&decide (p.X<=600))&&(decide (-600<=p.Y)&&decide (p.Y<=600))
theorem qLn (p:qA):jS [p]=some (KI p):=by
 unfold jS;rw[wA];rw[show(4611686018427387904:Nat)=4611686018427387902+1+1 from rfl];unfold zT;have e1:w64 (0+1)=1:=by kernel_rfl
 have tail:zT [p] (4611686018427387902+1) 1=some (Sum.inr ()):=by
  unfold zT;simp
 have hi:inb 0 1=true:=by kernel_rfl
 simp only[uS,List.length_nil,kF,yR,e1,tail,hi,kq,gk,uN];have h01:decide ((0:Int)<((1:Nat):Int))=true:=by decide
 rw[h01];simp only[kq,KI];by_cases h1:p.X< -600
 ·have g1:¬-600<=p.X:=by omega
  simp[h1,g1]
 ·have g1: -600<=p.X:=by omega
  by_cases h2:p.X>600
  ·have g2:¬p.X<=600:=by omega
   simp[h1,h2,g2]
  ·have g2:p.X<=600:=by omega
   by_cases h3:p.Y< -600
   ·have g3:¬-600<=p.Y:=by omega
    simp[h1,h2,h3,g3]
   ·have g3: -600<=p.Y:=by omega
    by_cases h4:p.Y>600
    ·have g4:¬p.Y<=600:=by omega
     simp[h1,h2,h3,h4,g4]
    ·have g4:p.Y<=600:=by omega
     simp[h1,h2,h3,h4,g1,g2,g3,g4]
def EP (p:qA):Bool:=p.X==0&&(p.Y==0&&true)
def ZK (r:qE):Int:=bif r.Ok&&!KI r.P then 9 else bif !r.Ok&&!EP r.P then 19 else 0
def wM (l:List qE):Int:=match l with
 |[]=>0
 |r::l=>bif ZK r==0 then wM l else ZK r
def TG (c:Int):Int⊕Unit:=bif c==0 then .inr () else .inl c
theorem qDM {α:Type} [Inhabited α] (l:List α) (x:Nat) (h:x<l.length):l.drop x=l.getD x dd::l.drop (x+1):=by
 rw[gj h,ka,kr h];rfl
theorem qDZ (a:Ring):∀(n:Nat) (x:Nat),a.Read.length<x+n->x<=a.Read.length->a.Read.length<=1000->jI a n (x:Int)=some (TG (wM (a.Read.drop x)))
 |0,x,h1,h2,_=>by omega
 |n+1,x,h1,h2,h3=>by
  unfold jI;by_cases hx:x<a.Read.length
  ·have hd:=qDM a.Read x hx;have ih:=qDZ a n (x+1) (by omega) (by omega) h3;have e1:w64 ((x:Int)+1)=((x+1:Nat):Int):=by rw[qW (by omega) (by omega)];omega
   have c1:decide ((x:Int)<(a.Read.length:Int))=true:=ke (by omega);rw[c1,zM (by omega) (by omega),hd];simp only[kq,ks,qMd,kd,PQ,DP,e1,ih,wM,ZK,KI,EP];generalize a.Read.getD x dd=r;cases r.Ok<;>cases (decide (-600<=r.P.X)&&decide (r.P.X<=600))<;>cases (decide (-600<=r.P.Y)&&decide (r.P.Y<=600))<;>cases (r.P.X==0&&(r.P.Y==0&&true))<;>simp[TG]
  ·have c1:decide ((x:Int)<(a.Read.length:Int))=false:=kg (by omega);rw[c1,uv (by omega)];rfl
theorem qFW (a:Ring):∀(n:Nat) (x:Nat),a.Read.length<x+n->x<=a.Read.length->a.Read.length<=1000->jK a n (x:Int)=some (TG (wM (a.Read.drop x)))
 |0,x,h1,h2,_=>by omega
 |n+1,x,h1,h2,h3=>by
  unfold jK;by_cases hx:x<a.Read.length
  ·have hd:=qDM a.Read x hx;have ih:=qFW a n (x+1) (by omega) (by omega) h3;have e1:w64 ((x:Int)+1)=((x+1:Nat):Int):=by rw[qW (by omega) (by omega)];omega
   have c1:decide ((x:Int)<(a.Read.length:Int))=true:=ke (by omega);rw[c1,zM (by omega) (by omega),hd];simp only[kq,ks,qLn,kd,VO,VF,e1,ih,wM,ZK,EP];generalize a.Read.getD x dd=r;cases r.Ok<;>cases KI r.P<;>cases (r.P.X==0&&(r.P.Y==0&&true))<;>simp[TG]
  ·have c1:decide ((x:Int)<(a.Read.length:Int))=false:=kg (by omega);rw[c1,uv (by omega)];rfl
def QF (a:Ring):Int:=
 bif decide ((a.Read.length:Int)<8) then 3 else bif decide ((a.Read.length:Int)>32) then 4 else bif decide (a.Z<0) then 9 else bif decide (a.Z>20000) then 9 else wM a.Read
theorem AI (a:Ring):KU a=some (QF a):=by
 unfold KU QF DV;by_cases h1:(a.Read.length:Int)<8
 ·simp[h1]
 by_cases h2:(a.Read.length:Int)>32
 ·simp[h1,h2]
 have hl:=qDZ a FUEL 0 (by rw[wA];omega) (by omega) (by omega);rw[uH] at hl;by_cases h3:a.Z<0
 ·simp[h1,h2,h3]
 by_cases h4:a.Z>20000
 ·simp[h1,h2,h3,h4]
 rw[kg h1,kg h2,kg h3,kg h4];have hl':jI a FUEL 0=some (TG (wM a.Read)):=hl;simp only[ku,hl',kd,TG];by_cases hc:wM a.Read=0
 ·rw[hc];rfl
 ·have hb:(wM a.Read==0)=false:=by simpa using hc
  rw[hb];rfl
theorem CO (a:Ring):YO a=some (QF a):=by
 unfold YO QF VT;by_cases h1:(a.Read.length:Int)<8
 ·simp[h1]
 by_cases h2:(a.Read.length:Int)>32
 ·simp[h1,h2]
 have hl:=qFW a FUEL 0 (by rw[wA];omega) (by omega) (by omega);rw[uH] at hl;by_cases h3:a.Z<0
 ·simp[h1,h2,h3]
 by_cases h4:a.Z>20000
 ·simp[h1,h2,h3,h4]
 rw[kg h1,kg h2,kg h3,kg h4];have hl':jK a FUEL 0=some (TG (wM a.Read)):=hl;simp only[ku,hl',kd,TG];by_cases hc:wM a.Read=0
 ·rw[hc];rfl
 ·have hb:(wM a.Read==0)=false:=by simpa using hc
  rw[hb];rfl
structure yW (a:Ring):Prop where
 lo:8<=a.Read.length
 hi:a.Read.length<=32
 z0:0<=a.Z
 z1:a.Z<=20000
 all:∀r∈a.Read,ZK r=0
theorem qBo :∀{l:List qE},wM l=0↔∀r∈l,ZK r=0
 |[]=>by simp[wM]
 |r::l=>by
  simp only[wM,kT,forall_eq_or_imp];by_cases h:ZK r=0
  ·simp[h,qBo (l:=l)]
  ·have hb:(ZK r==0)=false:=by simpa using h
   rw[hb];exact⟨λh'=>absurd h' h,λh'=>absurd h'.1 h⟩
theorem GR (a:Ring):QF a=0↔yW a:=by
 unfold QF;by_cases h1:(a.Read.length:Int)<8
 ·simp only[h1,decide_true,kq];exact⟨λh=>by omega,λh=>by have:=h.lo;omega⟩
 by_cases h2:(a.Read.length:Int)>32
 ·simp only[h1,h2,decide_true,decide_false,kq,ku];exact⟨λh=>by omega,λh=>by have:=h.hi;omega⟩
 by_cases h3:a.Z<0
 ·simp only[h1,h2,h3,decide_true,decide_false,kq,ku];exact⟨λh=>by omega,λh=>by have:=h.z0;omega⟩
 by_cases h4:a.Z>20000
 ·simp only[h1,h2,h3,h4,decide_true,decide_false,kq,ku];exact⟨λh=>by omega,λh=>by have:=h.z1;omega⟩
 simp only[h1,h2,h3,h4,decide_false,ku,qBo];exact⟨λh=>⟨by omega,by omega,by omega,by omega,h⟩,λh=>h.all⟩
theorem qOd (a:Ring) (h:a.Read.length<=1000):LJ a=some a:=by
 unfold LJ QY;rw[qBd (by omega)];rfl
theorem qMh (a:Ring) (h:a.Read.length<=1000):UE a=some a:=by
 unfold UE;rw[qBd (by omega)];rfl
end Saw
end Go.SL

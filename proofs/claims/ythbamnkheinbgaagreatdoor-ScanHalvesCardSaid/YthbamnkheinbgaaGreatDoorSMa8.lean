/- Poly's plain mathematics, part 33: convex polygons: at each height one edge goes up, and one goes down. -/
import Derived.Test.YthbamnkheinbgaaGreatDoorSMa7
import Derived.Test.YthbamnkheinbgaaGreatDoorSMod
set_option linter.unusedVariables false
set_option linter.unusedSimpArgs false
namespace Go.SL
namespace Saw
theorem zT :FUEL=4611686018427387904:=by unfold FUEL;rfl
theorem qP {n:Int} (h1: -9223372036854775808<=n) (h2:n<=9223372036854775807):w64 n=n:=by
 unfold w64 IntKind.wrap;simp only[IntKind.bits,IntKind.signed,Bool.true_and];split
 ·rename_i h;have h':n % 2^64≥2^(64-1):=kW h;omega
 ·rename_i h;have h':¬n % 2^64≥2^(64-1):=λhh=>h (ke hh);omega
theorem zC {i:Int} {n:Nat} (h0:0<=i) (h1:i<(n:Int)):inb i n=true:=by unfold inb;exact ke ⟨h0,h1⟩
theorem KP {b:Int} (h:b≠0):nz b=true:=by unfold nz;exact ke h
theorem qBw {n b:Nat} (h:n*b<=140737488355328):room n b=true:=by unfold room;exact ke h
theorem qMF (a:Int):TA a=some (decide (-600<=a)&&decide (a<=600)):=by
 unfold TA VO;by_cases h:a≥-600
 ·simp[h]
 ·simp[h]
def WI (p:qA):Bool:=(decide (-600<=p.X)&&decide (p.X<=600))&&(decide (-600<=p.Y)&&decide (p.Y<=600))
theorem qKu (p:qA):ZF [p]=some (WI p):=by
 unfold ZF;rw[zT];rw[show(4611686018427387904:Nat)=4611686018427387902+1+1 from rfl];unfold wV;have e1:w64 (0+1)=1:=by kernel_rfl
 have tail:wV [p] (4611686018427387902+1) 1=some (Sum.inr ()):=by
  unfold wV;simp
 have hi:inb 0 1=true:=by kernel_rfl
 simp only[uV,List.length_nil,kz,ZQ,e1,tail,hi,ko,gH,um];have h01:decide ((0:Int)<((1:Nat):Int))=true:=by decide
 rw[h01];simp only[ko,WI];by_cases h1:p.X< -600
 ·have g1:¬-600<=p.X:=by omega
  simp[h1,g1]
 ·have g1: -600<=p.X:=by omega
  by_cases h2:p.X>600
  ·have g2:¬p.X<=600:=by omega
   simp[h1,h2,g2]
  ·have g2:p.X<=600:=by omega
   by_cases h3:p.Y< -600
   ·have g3:¬-600<=p.Y:=by omega
    simp[h1,h2,h3,g3]
   ·have g3: -600<=p.Y:=by omega
    by_cases h4:p.Y>600
    ·have g4:¬p.Y<=600:=by omega
     simp[h1,h2,h3,h4,g4]
    ·have g4:p.Y<=600:=by omega
     simp[h1,h2,h3,h4,g1,g2,g3,g4]
def EP (p:qA):Bool:=p.X==0&&(p.Y==0&&true)
def ZB (r:qD):Int:=bif r.Ok&&!WI r.P then 9 else bif !r.Ok&&!EP r.P then 19 else 0
def wW (l:List qD):Int:=match l with
 |[]=>0
 |r::l=>bif ZB r==0 then wW l else ZB r
def UB (c:Int):Int⊕Unit:=bif c==0 then .inr () else .inl c
theorem qFk {α:Type} [Inhabited α] (l:List α) (x:Nat) (h:x<l.length):l.drop x=l.getD x dd::l.drop (x+1):=by
 rw[gu h,ka,ki h];rfl
theorem qEX (a:Ring):∀(n:Nat) (x:Nat),a.Read.length<x+n->x<=a.Read.length->a.Read.length<=1000->jJ a n (x:Int)=some (UB (wW (a.Read.drop x)))
 |0,x,h1,h2,_=>by omega
 |n+1,x,h1,h2,h3=>by
  unfold jJ;by_cases hx:x<a.Read.length
  ·have hd:=qFk a.Read x hx;have ih:=qEX a n (x+1) (by omega) (by omega) h3;have e1:w64 ((x:Int)+1)=((x+1:Nat):Int):=by rw[qP (by omega) (by omega)];omega
   have c1:decide ((x:Int)<(a.Read.length:Int))=true:=ke (by omega);rw[c1,zC (by omega) (by omega),hd];simp only[ko,ks,qMF,kd,RL,BA,e1,ih,wW,ZB,WI,EP];generalize a.Read.getD x dd=r;cases r.Ok<;>cases (decide (-600<=r.P.X)&&decide (r.P.X<=600))<;>cases (decide (-600<=r.P.Y)&&decide (r.P.Y<=600))<;>cases (r.P.X==0&&(r.P.Y==0&&true))<;>simp[UB]
  ·have c1:decide ((x:Int)<(a.Read.length:Int))=false:=kf (by omega);rw[c1,uC (by omega)];rfl
theorem qGi (a:Ring):∀(n:Nat) (x:Nat),a.Read.length<x+n->x<=a.Read.length->a.Read.length<=1000->WS a n (x:Int)=some (UB (wW (a.Read.drop x)))
 |0,x,h1,h2,_=>by omega
 |n+1,x,h1,h2,h3=>by
  unfold WS;by_cases hx:x<a.Read.length
  ·have hd:=qFk a.Read x hx;have ih:=qGi a n (x+1) (by omega) (by omega) h3;have e1:w64 ((x:Int)+1)=((x+1:Nat):Int):=by rw[qP (by omega) (by omega)];omega
   have c1:decide ((x:Int)<(a.Read.length:Int))=true:=ke (by omega);rw[c1,zC (by omega) (by omega),hd];simp only[ko,ks,qKu,kd,MV,HO,e1,ih,wW,ZB,EP];generalize a.Read.getD x dd=r;cases r.Ok<;>cases WI r.P<;>cases (r.P.X==0&&(r.P.Y==0&&true))<;>simp[UB]
  ·have c1:decide ((x:Int)<(a.Read.length:Int))=false:=kf (by omega);rw[c1,uC (by omega)];rfl
def ZI (a:Ring):Int:=
 bif decide ((a.Read.length:Int)<8) then 3 else bif decide ((a.Read.length:Int)>32) then 4 else bif decide (a.Z<0) then 9 else bif decide (a.Z>20000) then 9 else wW a.Read
theorem BE (a:Ring):XD a=some (ZI a):=by
 unfold XD ZI BB;by_cases h1:(a.Read.length:Int)<8
 ·simp[h1]
 by_cases h2:(a.Read.length:Int)>32
 ·simp[h1,h2]
 have hl:=qEX a FUEL 0 (by rw[zT];omega) (by omega) (by omega);rw[uF] at hl;by_cases h3:a.Z<0
 ·simp[h1,h2,h3]
 by_cases h4:a.Z>20000
 ·simp[h1,h2,h3,h4]
 rw[kf h1,kf h2,kf h3,kf h4];have hl':jJ a FUEL 0=some (UB (wW a.Read)):=hl;simp only[ku,hl',kd,UB];by_cases hc:wW a.Read=0
 ·rw[hc];rfl
 ·have hb:(wW a.Read==0)=false:=by simpa using hc
  rw[hb];rfl
theorem qEp (a:Ring):EA a=some (ZI a):=by
 unfold EA ZI HP;by_cases h1:(a.Read.length:Int)<8
 ·simp[h1]
 by_cases h2:(a.Read.length:Int)>32
 ·simp[h1,h2]
 have hl:=qGi a FUEL 0 (by rw[zT];omega) (by omega) (by omega);rw[uF] at hl;by_cases h3:a.Z<0
 ·simp[h1,h2,h3]
 by_cases h4:a.Z>20000
 ·simp[h1,h2,h3,h4]
 rw[kf h1,kf h2,kf h3,kf h4];have hl':WS a FUEL 0=some (UB (wW a.Read)):=hl;simp only[ku,hl',kd,UB];by_cases hc:wW a.Read=0
 ·rw[hc];rfl
 ·have hb:(wW a.Read==0)=false:=by simpa using hc
  rw[hb];rfl
structure wM (a:Ring):Prop where
 lo:8<=a.Read.length
 hi:a.Read.length<=32
 z0:0<=a.Z
 z1:a.Z<=20000
 all:∀r∈a.Read,ZB r=0
theorem qBm :∀{l:List qD},wW l=0↔∀r∈l,ZB r=0
 |[]=>by simp[wW]
 |r::l=>by
  simp only[wW,ua,forall_eq_or_imp];by_cases h:ZB r=0
  ·simp[h,qBm (l:=l)]
  ·have hb:(ZB r==0)=false:=by simpa using h
   rw[hb];exact⟨λh'=>absurd h' h,λh'=>absurd h'.1 h⟩
theorem TD (a:Ring):ZI a=0↔wM a:=by
 unfold ZI;by_cases h1:(a.Read.length:Int)<8
 ·simp only[h1,decide_true,ko];exact⟨λh=>by omega,λh=>by have:=h.lo;omega⟩
 by_cases h2:(a.Read.length:Int)>32
 ·simp only[h1,h2,decide_true,decide_false,ko,ku];exact⟨λh=>by omega,λh=>by have:=h.hi;omega⟩
 by_cases h3:a.Z<0
 ·simp only[h1,h2,h3,decide_true,decide_false,ko,ku];exact⟨λh=>by omega,λh=>by have:=h.z0;omega⟩
 by_cases h4:a.Z>20000
 ·simp only[h1,h2,h3,h4,decide_true,decide_false,ko,ku];exact⟨λh=>by omega,λh=>by have:=h.z1;omega⟩
 simp only[h1,h2,h3,h4,decide_false,ku,qBm];exact⟨λh=>⟨by omega,by omega,by omega,by omega,h⟩,λh=>h.all⟩
theorem qGr (a:Ring) (h:a.Read.length<=1000):GB a=some a:=by
 unfold GB yG;rw[qBw (by omega)];rfl
theorem qMK (a:Ring) (h:a.Read.length<=1000):qAu a=some a:=by
 unfold qAu;rw[qBw (by omega)];rfl
end Saw
end Go.SL

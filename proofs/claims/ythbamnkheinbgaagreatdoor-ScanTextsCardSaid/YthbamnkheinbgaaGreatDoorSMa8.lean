/- Poly's plain mathematics, part 33: convex polygons: at each height one edge goes up, and one goes down. -/
import Derived.Test.YthbamnkheinbgaaGreatDoorSMa7
import Derived.Test.YthbamnkheinbgaaGreatDoorSMod
set_option linter.unusedVariables false
set_option linter.unusedSimpArgs false
namespace Go.SL
namespace Saw
theorem OP :FUEL=4611686018427387904:=by unfold FUEL;rfl
theorem qFG {n:Int} (h1: -9223372036854775808<=n) (h2:n<=9223372036854775807):w64 n=n:=by
 unfold w64 IntKind.wrap;simp only[IntKind.bits,IntKind.signed,Bool.true_and];split
 ·rename_i h;have h':n % 2^64≥2^(64-1):=kQ h;omega
 ·rename_i h;have h':¬n % 2^64≥2^(64-1):=λhh=>h (kf hh);omega
theorem qG5 {i:Int} {n:Nat} (h0:0<=i) (h1:i<(n:Int)):inb i n=true:=by unfold inb;exact kf ⟨h0,h1⟩
theorem qG9 (a:Int):XJ a=some (decide (-600<=a)&&decide (a<=600)):=by
 unfold XJ PG;by_cases h:a≥-600
 ·simp[h]
 ·simp[h]
def YF (p:qA):Bool:=(decide (-600<=p.X)&&decide (p.X<=600))&&(decide (-600<=p.Y)&&decide (p.Y<=600))
theorem qGN (p:qA):KX [p]=some (YF p):=by
 unfold KX;rw[OP];rw[show(4611686018427387904:Nat)=4611686018427387902+1+1 from rfl];unfold zZ;have e1:w64 (0+1)=1:=by kernel_rfl
 have tail:zZ [p] (4611686018427387902+1) 1=some (Sum.inr ()):=by
  unfold zZ;simp
 have hi:inb 0 1=true:=by kernel_rfl
 simp only[kv,kL,kF,yU,e1,tail,hi,kq,Int.toNat_zero,uG];have h01:decide ((0:Int)<((1:Nat):Int))=true:=by decide
 rw[h01];simp only[kq,YF];by_cases h1:p.X< -600
 ·have g1:¬-600<=p.X:=by omega
  simp[h1,g1]
 ·have g1: -600<=p.X:=by omega
  by_cases h2:p.X>600
  ·have g2:¬p.X<=600:=by omega
   simp[h1,h2,g2]
  ·have g2:p.X<=600:=by omega
   by_cases h3:p.Y< -600
   ·have g3:¬-600<=p.Y:=by omega
    simp[h1,h2,h3,g3]
   ·have g3: -600<=p.Y:=by omega
    by_cases h4:p.Y>600
    ·have g4:¬p.Y<=600:=by omega
     simp[h1,h2,h3,h4,g4]
    ·have g4:p.Y<=600:=by omega
     simp[h1,h2,h3,h4,g1,g2,g3,g4]
def qAs (p:qA):Bool:=p.X==0&&(p.Y==0&&true)
def YD (r:qB):Int:=bif r.Ok&&!YF r.P then 9 else bif !r.Ok&&!qAs r.P then 19 else 0
def wA (l:List qB):Int:=match l with
 |[]=>0
 |r::l=>bif YD r==0 then wA l else YD r
def KK (c:Int):Int⊕Unit:=bif c==0 then .inr () else .inl c
theorem qBm {α:Type} [Inhabited α] (l:List α) (x:Nat) (h:x<l.length):l.drop x=l.getD x dd::l.drop (x+1):=by
 rw[gj h,ka,kr h];rfl
theorem qBs (a:Ring):∀(n:Nat) (x:Nat),a.Read.length<x+n->x<=a.Read.length->a.Read.length<=1000->wN a n (x:Int)=some (KK (wA (a.Read.drop x)))
 |0,x,h1,h2,_=>by omega
 |n+1,x,h1,h2,h3=>by
  unfold wN;by_cases hx:x<a.Read.length
  ·have hd:=qBm a.Read x hx;have ih:=qBs a n (x+1) (by omega) (by omega) h3;have e1:w64 ((x:Int)+1)=((x+1:Nat):Int):=by rw[qFG (by omega) (by omega)];omega
   have c1:decide ((x:Int)<(a.Read.length:Int))=true:=kf (by omega);rw[c1,qG5 (by omega) (by omega),hd];simp only[kq,kB,qG9,ki,XB,RZ,e1,ih,wA,YD,YF,qAs];generalize a.Read.getD x dd=r;cases r.Ok<;>cases (decide (-600<=r.P.X)&&decide (r.P.X<=600))<;>cases (decide (-600<=r.P.Y)&&decide (r.P.Y<=600))<;>cases (r.P.X==0&&(r.P.Y==0&&true))<;>simp[KK]
  ·have c1:decide ((x:Int)<(a.Read.length:Int))=false:=ke (by omega);rw[c1,uf (by omega)];rfl
theorem qCs (a:Ring):∀(n:Nat) (x:Nat),a.Read.length<x+n->x<=a.Read.length->a.Read.length<=1000->wP a n (x:Int)=some (KK (wA (a.Read.drop x)))
 |0,x,h1,h2,_=>by omega
 |n+1,x,h1,h2,h3=>by
  unfold wP;by_cases hx:x<a.Read.length
  ·have hd:=qBm a.Read x hx;have ih:=qCs a n (x+1) (by omega) (by omega) h3;have e1:w64 ((x:Int)+1)=((x+1:Nat):Int):=by rw[qFG (by omega) (by omega)];omega
   have c1:decide ((x:Int)<(a.Read.length:Int))=true:=kf (by omega);rw[c1,qG5 (by omega) (by omega),hd];simp only[kq,kB,qGN,ki,PL,PI,e1,ih,wA,YD,qAs];generalize a.Read.getD x dd=r;cases r.Ok<;>cases YF r.P<;>cases (r.P.X==0&&(r.P.Y==0&&true))<;>simp[KK]
  ·have c1:decide ((x:Int)<(a.Read.length:Int))=false:=ke (by omega);rw[c1,uf (by omega)];rfl
def WZ (a:Ring):Int:=
 bif decide ((a.Read.length:Int)<8) then 3 else bif decide ((a.Read.length:Int)>32) then 4 else bif decide (a.Z<0) then 9 else bif decide (a.Z>20000) then 9 else wA a.Read
theorem qGA (a:Ring):JZ a=some (WZ a):=by
 unfold JZ WZ TA;by_cases h1:(a.Read.length:Int)<8
 ·simp[h1]
 by_cases h2:(a.Read.length:Int)>32
 ·simp[h1,h2]
 have hl:=qBs a FUEL 0 (by rw[OP];omega) (by omega) (by omega);rw[uI] at hl;by_cases h3:a.Z<0
 ·simp[h1,h2,h3]
 by_cases h4:a.Z>20000
 ·simp[h1,h2,h3,h4]
 rw[ke h1,ke h2,ke h3,ke h4];have hl':wN a FUEL 0=some (KK (wA a.Read)):=hl;simp only[ks,hl',ki,KK];by_cases hc:wA a.Read=0
 ·rw[hc];rfl
 ·have hb:(wA a.Read==0)=false:=by simpa using hc
  rw[hb];rfl
theorem qHK (a:Ring):RP a=some (WZ a):=by
 unfold RP WZ PH;by_cases h1:(a.Read.length:Int)<8
 ·simp[h1]
 by_cases h2:(a.Read.length:Int)>32
 ·simp[h1,h2]
 have hl:=qCs a FUEL 0 (by rw[OP];omega) (by omega) (by omega);rw[uI] at hl;by_cases h3:a.Z<0
 ·simp[h1,h2,h3]
 by_cases h4:a.Z>20000
 ·simp[h1,h2,h3,h4]
 rw[ke h1,ke h2,ke h3,ke h4];have hl':wP a FUEL 0=some (KK (wA a.Read)):=hl;simp only[ks,hl',ki,KK];by_cases hc:wA a.Read=0
 ·rw[hc];rfl
 ·have hb:(wA a.Read==0)=false:=by simpa using hc
  rw[hb];rfl
structure UP (a:Ring):Prop where
 lo:8<=a.Read.length
 hi:a.Read.length<=32
 z0:0<=a.Z
 z1:a.Z<=20000
 all:∀r∈a.Read,YD r=0
theorem SY :∀{l:List qB},wA l=0↔∀r∈l,YD r=0
 |[]=>by simp[wA]
 |r::l=>by
  simp only[wA,un,forall_eq_or_imp];by_cases h:YD r=0
  ·simp[h,SY (l:=l)]
  ·have hb:(YD r==0)=false:=by simpa using h
   rw[hb];exact⟨λh'=>absurd h' h,λh'=>absurd h'.1 h⟩
theorem qCn (a:Ring):WZ a=0↔UP a:=by
 unfold WZ;by_cases h1:(a.Read.length:Int)<8
 ·simp only[h1,decide_true,kq];exact⟨λh=>by omega,λh=>by have:=h.lo;omega⟩
 by_cases h2:(a.Read.length:Int)>32
 ·simp only[h1,h2,decide_true,decide_false,kq,ks];exact⟨λh=>by omega,λh=>by have:=h.hi;omega⟩
 by_cases h3:a.Z<0
 ·simp only[h1,h2,h3,decide_true,decide_false,kq,ks];exact⟨λh=>by omega,λh=>by have:=h.z0;omega⟩
 by_cases h4:a.Z>20000
 ·simp only[h1,h2,h3,h4,decide_true,decide_false,kq,ks];exact⟨λh=>by omega,λh=>by have:=h.z1;omega⟩
 simp only[h1,h2,h3,h4,decide_false,ks,SY];exact⟨λh=>⟨by omega,by omega,by omega,by omega,h⟩,λh=>h.all⟩
end Saw
end Go.SL

/- Poly's plain mathematics, part 33: convex polygons: at each height one edge goes up, and one goes down. -/
import Derived.Test.YthbamnkheinbgaaGreatDoorSMa7
import Derived.Test.YthbamnkheinbgaaGreatDoorSMod
set_option linter.unusedVariables false
set_option linter.unusedSimpArgs false
namespace Go.SL
namespace Saw
theorem HP :FUEL=4611686018427387904:=by unfold FUEL;rfl
theorem qCt {n:Int} (h1: -9223372036854775808<=n) (h2:n<=9223372036854775807):w64 n=n:=by
 unfold w64 IntKind.wrap;simp only[IntKind.bits,IntKind.signed,Bool.true_and];split
 ·rename_i h;have h':n % 2^64≥2^(64-1):=kK h;omega
 ·rename_i h;have h':¬n % 2^64≥2^(64-1):=λhh=>h (kr hh);omega
theorem qEq {i:Int} {n:Nat} (h0:0<=i) (h1:i<(n:Int)):inb i n=true:=by unfold inb;exact kr ⟨h0,h1⟩
theorem qEu (a:Int):WT a=some (decide (-600<=a)&&decide (a<=600)):=by
 unfold WT YS;by_cases h:a≥-600
 ·simp[h]
 ·simp[h]
def TB (p:qA):Bool:=(decide (-600<=p.X)&&decide (p.X<=600))&&(decide (-600<=p.Y)&&decide (p.Y<=600))
theorem qCV (p:qA):JW [p]=some (TB p):=by
 unfold JW;rw[HP];rw[show(4611686018427387904:Nat)=4611686018427387902+1+1 from rfl];unfold zO;have e1:w64 (0+1)=1:=by kernel_rfl
 have tail:zO [p] (4611686018427387902+1) 1=some (Sum.inr ()):=by
  unfold zO;simp
 have hi:inb 0 1=true:=by kernel_rfl
 simp only[List.length_cons,List.length_nil,kz,jI,e1,tail,hi,kv,Int.toNat_zero,ul];have h01:decide ((0:Int)<((1:Nat):Int))=true:=by decide
 rw[h01];simp only[kv,TB];by_cases h1:p.X< -600
 ·have g1:¬-600<=p.X:=by omega
  simp[h1,g1]
 ·have g1: -600<=p.X:=by omega
  by_cases h2:p.X>600
  ·have g2:¬p.X<=600:=by omega
   simp[h1,h2,g2]
  ·have g2:p.X<=600:=by omega
   by_cases h3:p.Y< -600
   ·have g3:¬-600<=p.Y:=by omega
    simp[h1,h2,h3,g3]
   ·have g3: -600<=p.Y:=by omega
    by_cases h4:p.Y>600
    ·have g4:¬p.Y<=600:=by omega
     simp[h1,h2,h3,h4,g4]
    ·have g4:p.Y<=600:=by omega
     simp[h1,h2,h3,h4,g1,g2,g3,g4]
def AO (p:qA):Bool:=p.X==0&&(p.Y==0&&true)
def BE (r:qD):Int:=bif r.Ok&&!TB r.P then 9 else bif !r.Ok&&!AO r.P then 19 else 0
def wD (l:List qD):Int:=match l with
 |[]=>0
 |r::l=>bif BE r==0 then wD l else BE r
def JS (c:Int):Int⊕Unit:=bif c==0 then .inr () else .inl c
theorem EQ {α:Type} [Inhabited α] (l:List α) (x:Nat) (h:x<l.length):l.drop x=l.getD x dd::l.drop (x+1):=by
 rw[uJ h,ka,ko h];rfl
theorem AH (a:Ring):∀(n:Nat) (x:Nat),a.Read.length<x+n->x<=a.Read.length->a.Read.length<=1000->zV a n (x:Int)=some (JS (wD (a.Read.drop x)))
 |0,x,h1,h2,_=>by omega
 |n+1,x,h1,h2,h3=>by
  unfold zV;by_cases hx:x<a.Read.length
  ·have hd:=EQ a.Read x hx;have ih:=AH a n (x+1) (by omega) (by omega) h3;have e1:w64 ((x:Int)+1)=((x+1:Nat):Int):=by rw[qCt (by omega) (by omega)];omega
   have c1:decide ((x:Int)<(a.Read.length:Int))=true:=kr (by omega);rw[c1,qEq (by omega) (by omega),hd];simp only[kv,kZ,qEu,kB,WG,XV,e1,ih,wD,BE,TB,AO];generalize a.Read.getD x dd=r;cases r.Ok<;>cases (decide (-600<=r.P.X)&&decide (r.P.X<=600))<;>cases (decide (-600<=r.P.Y)&&decide (r.P.Y<=600))<;>cases (r.P.X==0&&(r.P.Y==0&&true))<;>simp[JS]
  ·have c1:decide ((x:Int)<(a.Read.length:Int))=false:=kp (by omega);rw[c1,List.drop_of_length_le (by omega)];rfl
theorem CN (a:Ring):∀(n:Nat) (x:Nat),a.Read.length<x+n->x<=a.Read.length->a.Read.length<=1000->zW a n (x:Int)=some (JS (wD (a.Read.drop x)))
 |0,x,h1,h2,_=>by omega
 |n+1,x,h1,h2,h3=>by
  unfold zW;by_cases hx:x<a.Read.length
  ·have hd:=EQ a.Read x hx;have ih:=CN a n (x+1) (by omega) (by omega) h3;have e1:w64 ((x:Int)+1)=((x+1:Nat):Int):=by rw[qCt (by omega) (by omega)];omega
   have c1:decide ((x:Int)<(a.Read.length:Int))=true:=kr (by omega);rw[c1,qEq (by omega) (by omega),hd];simp only[kv,kZ,qCV,kB,YK,YM,e1,ih,wD,BE,AO];generalize a.Read.getD x dd=r;cases r.Ok<;>cases TB r.P<;>cases (r.P.X==0&&(r.P.Y==0&&true))<;>simp[JS]
  ·have c1:decide ((x:Int)<(a.Read.length:Int))=false:=kp (by omega);rw[c1,List.drop_of_length_le (by omega)];rfl
def UX (a:Ring):Int:=
 bif decide ((a.Read.length:Int)<8) then 3 else bif decide ((a.Read.length:Int)>32) then 4 else bif decide (a.Z<0) then 9 else bif decide (a.Z>20000) then 9 else wD a.Read
theorem qC8 (a:Ring):ZV a=some (UX a):=by
 unfold ZV UX KD;by_cases h1:(a.Read.length:Int)<8
 ·simp[h1]
 by_cases h2:(a.Read.length:Int)>32
 ·simp[h1,h2]
 have hl:=AH a FUEL 0 (by rw[HP];omega) (by omega) (by omega);rw[uM] at hl;by_cases h3:a.Z<0
 ·simp[h1,h2,h3]
 by_cases h4:a.Z>20000
 ·simp[h1,h2,h3,h4]
 rw[kp h1,kp h2,kp h3,kp h4];have hl':zV a FUEL 0=some (JS (wD a.Read)):=hl;simp only[kC,hl',kB,JS];by_cases hc:wD a.Read=0
 ·rw[hc];rfl
 ·have hb:(wD a.Read==0)=false:=by simpa using hc
  rw[hb];rfl
theorem qEF (a:Ring):XM a=some (UX a):=by
 unfold XM UX YT;by_cases h1:(a.Read.length:Int)<8
 ·simp[h1]
 by_cases h2:(a.Read.length:Int)>32
 ·simp[h1,h2]
 have hl:=CN a FUEL 0 (by rw[HP];omega) (by omega) (by omega);rw[uM] at hl;by_cases h3:a.Z<0
 ·simp[h1,h2,h3]
 by_cases h4:a.Z>20000
 ·simp[h1,h2,h3,h4]
 rw[kp h1,kp h2,kp h3,kp h4];have hl':zW a FUEL 0=some (JS (wD a.Read)):=hl;simp only[kC,hl',kB,JS];by_cases hc:wD a.Read=0
 ·rw[hc];rfl
 ·have hb:(wD a.Read==0)=false:=by simpa using hc
  rw[hb];rfl
structure qFU (a:Ring):Prop where
 lo:8<=a.Read.length
 hi:a.Read.length<=32
 z0:0<=a.Z
 z1:a.Z<=20000
 all:∀r∈a.Read,BE r=0
end Saw
end Go.SL

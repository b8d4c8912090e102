/- Poly's plain mathematics, part 33: convex polygons: at each height one edge goes up, and one goes down. -/
import Derived.Test.YtigmogcdifllhaaGreatDoorEMa8
import Derived.Test.YtigmogcdifllhaaGreatDoorEMa1
set_option linter.unusedVariables false
set_option linter.unusedSimpArgs false
namespace Go.SL
namespace Saw
theorem wQ :FUEL=9223372036854775808:=by unfold FUEL;rfl
theorem zA {n:Int} (h1: -9223372036854775808<=n) (h2:n<=9223372036854775807):w64 n=n:=by
 unfold w64 IntKind.wrap;simp only[IntKind.bits,IntKind.signed,Bool.true_and];split
 ·rename_i h;have h':n % 2^64≥2^(64-1):=ug h;omega
 ·rename_i h;have h':¬n % 2^64≥2^(64-1):=λhh=>h (ki hh);omega
theorem zT {i:Int} {n:Nat} (h0:0<=i) (h1:i<(n:Int)):inb i n=true:=by unfold inb;exact ki ⟨h0,h1⟩
theorem DI {b:Int} (h:b≠0):nz b=true:=by unfold nz;exact ki h
theorem qGB {n b:Nat} (h:n*b<=140737488355328):room n b=true:=by unfold room;exact ki h
theorem qUh (a:Int):NU a=some (decide (-600<=a)&&decide (a<=600)):=by
 unfold NU SO;by_cases h:a≥-600
 ·simp[h]
 ·simp[h]
def KS (p:qA):Bool:=(decide (-600<=p.X)&&decide (p.X<=600))&&(decide (-600<=p.Y)&&decide (p.Y<=600))
theorem qSQ (p:qA):ZT [p]=some (KS p):=by
 unfold ZT;rw[wQ];rw[show(9223372036854775808:Nat)=9223372036854775806+1+1 from rfl];unfold jC;have e1:w64 (0+1)=1:=by kernel_rfl
 have tail:jC [p] (9223372036854775806+1) 1=some (Sum.inr ()):=by
  unfold jC;simp
 have hi:inb 0 1=true:=by kernel_rfl
 simp only[uG,gT,kz,WN,e1,tail,hi,kp,gA,kZ];have h01:decide ((0:Int)<((1:Nat):Int))=true:=by decide
 rw[h01];simp only[kp,KS];by_cases h1:p.X< -600
 ·have g1:¬-600<=p.X:=by omega
  simp[h1,g1]
 ·have g1: -600<=p.X:=by omega
  by_cases h2:p.X>600
  ·have g2:¬p.X<=600:=by omega
   simp[h1,h2,g2]
  ·have g2:p.X<=600:=by omega
   by_cases h3:p.Y< -600
   ·have g3:¬-600<=p.Y:=by omega
    simp[h1,h2,h3,g3]
   ·have g3: -600<=p.Y:=by omega
    by_cases h4:p.Y>600
    ·have g4:¬p.Y<=600:=by omega
     simp[h1,h2,h3,h4,g4]
    ·have g4:p.Y<=600:=by omega
     simp[h1,h2,h3,h4,g1,g2,g3,g4]
def qCO (p:qA):Bool:=p.X==0&&(p.Y==0&&true)
def YK (r:qO):Int:=bif r.Ok&&!KS r.P then 9 else bif !r.Ok&&!qCO r.P then 19 else 0
def yF (l:List qO):Int:=match l with
 |[]=>0
 |r::l=>bif YK r==0 then yF l else YK r
def LA (c:Int):Int⊕Unit:=bif c==0 then .inr () else .inl c
theorem qJS {α:Type} [Inhabited α] (l:List α) (x:Nat) (h:x<l.length):l.drop x=l.getD x dd::l.drop (x+1):=by
 rw[gS h,ka,kq h];rfl
theorem qKk (a:Ring):∀(n:Nat) (x:Nat),a.Read.length<x+n->x<=a.Read.length->a.Read.length<=1000->QQ a n (x:Int)=some (LA (yF (a.Read.drop x)))
 |0,x,h1,h2,_=>by omega
 |n+1,x,h1,h2,h3=>by
  unfold QQ;by_cases hx:x<a.Read.length
  ·have hd:=qJS a.Read x hx;have ih:=qKk a n (x+1) (by omega) (by omega) h3;have e1:w64 ((x:Int)+1)=((x+1:Nat):Int):=by rw[zA (by omega) (by omega)];omega
   have c1:decide ((x:Int)<(a.Read.length:Int))=true:=ki (by omega);rw[c1,zT (by omega) (by omega),hd];simp only[kp,kg,qUh,kd,BW,IB,e1,ih,yF,YK,KS,qCO];generalize a.Read.getD x dd=r;cases r.Ok<;>cases (decide (-600<=r.P.X)&&decide (r.P.X<=600))<;>cases (decide (-600<=r.P.Y)&&decide (r.P.Y<=600))<;>cases (r.P.X==0&&(r.P.Y==0&&true))<;>simp[LA]
  ·have c1:decide ((x:Int)<(a.Read.length:Int))=false:=kf (by omega);rw[c1,uz (by omega)];rfl
theorem qMs (a:Ring):∀(n:Nat) (x:Nat),a.Read.length<x+n->x<=a.Read.length->a.Read.length<=1000->ZD a n (x:Int)=some (LA (yF (a.Read.drop x)))
 |0,x,h1,h2,_=>by omega
 |n+1,x,h1,h2,h3=>by
  unfold ZD;by_cases hx:x<a.Read.length
  ·have hd:=qJS a.Read x hx;have ih:=qMs a n (x+1) (by omega) (by omega) h3;have e1:w64 ((x:Int)+1)=((x+1:Nat):Int):=by rw[zA (by omega) (by omega)];omega
   have c1:decide ((x:Int)<(a.Read.length:Int))=true:=ki (by omega);rw[c1,zT (by omega) (by omega),hd];simp only[kp,kg,qSQ,kd,SH,HR,e1,ih,yF,YK,qCO];generalize a.Read.getD x dd=r;cases r.Ok<;>cases KS r.P<;>cases (r.P.X==0&&(r.P.Y==0&&true))<;>simp[LA]
  ·have c1:decide ((x:Int)<(a.Read.length:Int))=false:=kf (by omega);rw[c1,uz (by omega)];rfl
def JU (a:Ring):Int:=
 bif decide ((a.Read.length:Int)<8) then 3 else bif decide ((a.Read.length:Int)>32) then 4 else bif decide (a.Z<0) then 9 else bif decide (a.Z>20000) then 9 else yF a.Read
theorem IJ (a:Ring):UH a=some (JU a):=by
 unfold UH JU II;by_cases h1:(a.Read.length:Int)<8
 ·simp[h1]
 by_cases h2:(a.Read.length:Int)>32
 ·simp[h1,h2]
 have hl:=qKk a FUEL 0 (by rw[wQ];omega) (by omega) (by omega);rw[uK] at hl;by_cases h3:a.Z<0
 ·simp[h1,h2,h3]
 by_cases h4:a.Z>20000
 ·simp[h1,h2,h3,h4]
 rw[kf h1,kf h2,kf h3,kf h4];have hl':QQ a FUEL 0=some (LA (yF a.Read)):=hl;simp only[ku,hl',kd,LA];by_cases hc:yF a.Read=0
 ·rw[hc];rfl
 ·have hb:(yF a.Read==0)=false:=by simpa using hc
  rw[hb];rfl
theorem qFB (a:Ring):VF a=some (JU a):=by
 unfold VF JU SW;by_cases h1:(a.Read.length:Int)<8
 ·simp[h1]
 by_cases h2:(a.Read.length:Int)>32
 ·simp[h1,h2]
 have hl:=qMs a FUEL 0 (by rw[wQ];omega) (by omega) (by omega);rw[uK] at hl;by_cases h3:a.Z<0
 ·simp[h1,h2,h3]
 by_cases h4:a.Z>20000
 ·simp[h1,h2,h3,h4]
 rw[kf h1,kf h2,kf h3,kf h4];have hl':ZD a FUEL 0=some (LA (yF a.Read)):=hl;simp only[ku,hl',kd,LA];by_cases hc:yF a.Read=0
 ·rw[hc];rfl
 ·have hb:(yF a.Read==0)=false:=by simpa using hc
  rw[hb];rfl
structure QT (a:Ring):Prop where
 lo:8<=a.Read.length
 hi:a.Read.length<=32
 z0:0<=a.Z
 z1:a.Z<=20000
 all:∀r∈a.Read,YK r=0
theorem qFL :∀{l:List qO},yF l=0↔∀r∈l,YK r=0
 |[]=>by simp[yF]
 |r::l=>by
  simp only[yF,kW,forall_eq_or_imp];by_cases h:YK r=0
  ·simp[h,qFL (l:=l)]
  ·have hb:(YK r==0)=false:=by simpa using h
   rw[hb];exact⟨λh'=>absurd h' h,λh'=>absurd h'.1 h⟩
theorem NQ (a:Ring):JU a=0↔QT a:=by
 unfold JU;by_cases h1:(a.Read.length:Int)<8
 ·simp only[h1,decide_true,kp];exact⟨λh=>by omega,λh=>by have:=h.lo;omega⟩
 by_cases h2:(a.Read.length:Int)>32
 ·simp only[h1,h2,decide_true,decide_false,kp,ku];exact⟨λh=>by omega,λh=>by have:=h.hi;omega⟩
 by_cases h3:a.Z<0
 ·simp only[h1,h2,h3,decide_true,decide_false,kp,ku];exact⟨λh=>by omega,λh=>by have:=h.z0;omega⟩
 by_cases h4:a.Z>20000
 ·simp only[h1,h2,h3,h4,decide_true,decide_false,kp,ku];exact⟨λh=>by omega,λh=>by have:=h.z1;omega⟩
 simp only[h1,h2,h3,h4,decide_false,ku,qFL];exact⟨λh=>⟨by omega,by omega,by omega,by omega,h⟩,λh=>h.all⟩
theorem qMp (a:Ring) (h:a.Read.length<=1000):HX a=some a:=by
 unfold HX WE;rw[qGB (by omega)];rfl
theorem qTY (a:Ring) (h:a.Read.length<=1000):qFq a=some a:=by
 unfold qFq;rw[qGB (by omega)];rfl
end Saw
end Go.SL

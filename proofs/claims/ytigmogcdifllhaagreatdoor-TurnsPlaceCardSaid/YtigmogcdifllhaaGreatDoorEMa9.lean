/- Poly's plain mathematics, part 33: convex polygons: at each height one edge goes up, and one goes down. -/
import Derived.Test.YtigmogcdifllhaaGreatDoorEMa8
import Derived.Test.YtigmogcdifllhaaGreatDoorEMa1
set_option linter.unusedVariables false
set_option linter.unusedSimpArgs false
namespace Go.SL
namespace Saw
theorem wH :FUEL=9223372036854775808:=by unfold FUEL;rfl
theorem zA {n:Int} (h1: -9223372036854775808<=n) (h2:n<=9223372036854775807):w64 n=n:=by
 unfold w64 IntKind.wrap;simp only[IntKind.bits,IntKind.signed,Bool.true_and];split
 ·rename_i h;have h':n % 2^64≥2^(64-1):=ur h;omega
 ·rename_i h;have h':¬n % 2^64≥2^(64-1):=λhh=>h (kf hh);omega
theorem zR {i:Int} {n:Nat} (h0:0<=i) (h1:i<(n:Int)):inb i n=true:=by unfold inb;exact kf ⟨h0,h1⟩
theorem TE {b:Int} (h:b≠0):nz b=true:=by unfold nz;exact kf h
theorem qFz {n b:Nat} (h:n*b<=140737488355328):room n b=true:=by unfold room;exact kf h
theorem qUd (a:Int):GB a=some (decide (-600<=a)&&decide (a<=600)):=by
 unfold GB FK;by_cases h:a≥-600
 ·simp[h]
 ·simp[h]
def YO (p:qA):Bool:=(decide (-600<=p.X)&&decide (p.X<=600))&&(decide (-600<=p.Y)&&decide (p.Y<=600))
theorem qRw (p:qA):QF [p]=some (YO p):=by
 unfold QF;rw[wH];rw[show(9223372036854775808:Nat)=9223372036854775806+1+1 from rfl];unfold wM;have e1:w64 (0+1)=1:=by kernel_rfl
 have tail:wM [p] (9223372036854775806+1) 1=some (Sum.inr ()):=by
  unfold wM;simp
 have hi:inb 0 1=true:=by kernel_rfl
 simp only[uT,List.length_nil,ky,ZG,e1,tail,hi,kq,gq,kW];have h01:decide ((0:Int)<((1:Nat):Int))=true:=by decide
 rw[h01];simp only[kq,YO];by_cases h1:p.X< -600
 ·have g1:¬-600<=p.X:=by omega
  simp[h1,g1]
 ·have g1: -600<=p.X:=by omega
  by_cases h2:p.X>600
  ·have g2:¬p.X<=600:=by omega
   simp[h1,h2,g2]
  ·have g2:p.X<=600:=by omega
   by_cases h3:p.Y< -600
   ·have g3:¬-600<=p.Y:=by omega
    simp[h1,h2,h3,g3]
   ·have g3: -600<=p.Y:=by omega
    by_cases h4:p.Y>600
    ·have g4:¬p.Y<=600:=by omega
     simp[h1,h2,h3,h4,g4]
    ·have g4:p.Y<=600:=by omega
     simp[h1,h2,h3,h4,g1,g2,g3,g4]
def qBY (p:qA):Bool:=p.X==0&&(p.Y==0&&true)
def WF (r:qP):Int:=bif r.Ok&&!YO r.P then 9 else bif !r.Ok&&!qBY r.P then 19 else 0
def jJ (l:List qP):Int:=match l with
 |[]=>0
 |r::l=>bif WF r==0 then jJ l else WF r
def BH (c:Int):Int⊕Unit:=bif c==0 then .inr () else .inl c
theorem qKs {α:Type} [Inhabited α] (l:List α) (x:Nat) (h:x<l.length):l.drop x=l.getD x dd::l.drop (x+1):=by
 rw[gM h,ka,ko h];rfl
theorem qJj (a:Ring):∀(n:Nat) (x:Nat),a.Read.length<x+n->x<=a.Read.length->a.Read.length<=1000->yI a n (x:Int)=some (BH (jJ (a.Read.drop x)))
 |0,x,h1,h2,_=>by omega
 |n+1,x,h1,h2,h3=>by
  unfold yI;by_cases hx:x<a.Read.length
  ·have hd:=qKs a.Read x hx;have ih:=qJj a n (x+1) (by omega) (by omega) h3;have e1:w64 ((x:Int)+1)=((x+1:Nat):Int):=by rw[zA (by omega) (by omega)];omega
   have c1:decide ((x:Int)<(a.Read.length:Int))=true:=kf (by omega);rw[c1,zR (by omega) (by omega),hd];simp only[kq,kr,qUd,kd,VM,HC,e1,ih,jJ,WF,YO,qBY];generalize a.Read.getD x dd=r;cases r.Ok<;>cases (decide (-600<=r.P.X)&&decide (r.P.X<=600))<;>cases (decide (-600<=r.P.Y)&&decide (r.P.Y<=600))<;>cases (r.P.X==0&&(r.P.Y==0&&true))<;>simp[BH]
  ·have c1:decide ((x:Int)<(a.Read.length:Int))=false:=ki (by omega);rw[c1,uz (by omega)];rfl
theorem qLM (a:Ring):∀(n:Nat) (x:Nat),a.Read.length<x+n->x<=a.Read.length->a.Read.length<=1000->yK a n (x:Int)=some (BH (jJ (a.Read.drop x)))
 |0,x,h1,h2,_=>by omega
 |n+1,x,h1,h2,h3=>by
  unfold yK;by_cases hx:x<a.Read.length
  ·have hd:=qKs a.Read x hx;have ih:=qLM a n (x+1) (by omega) (by omega) h3;have e1:w64 ((x:Int)+1)=((x+1:Nat):Int):=by rw[zA (by omega) (by omega)];omega
   have c1:decide ((x:Int)<(a.Read.length:Int))=true:=kf (by omega);rw[c1,zR (by omega) (by omega),hd];simp only[kq,kr,qRw,kd,NT,NN,e1,ih,jJ,WF,qBY];generalize a.Read.getD x dd=r;cases r.Ok<;>cases YO r.P<;>cases (r.P.X==0&&(r.P.Y==0&&true))<;>simp[BH]
  ·have c1:decide ((x:Int)<(a.Read.length:Int))=false:=ki (by omega);rw[c1,uz (by omega)];rfl
def WA (a:Ring):Int:=
 bif decide ((a.Read.length:Int)<8) then 3 else bif decide ((a.Read.length:Int)>32) then 4 else bif decide (a.Z<0) then 9 else bif decide (a.Z>20000) then 9 else jJ a.Read
theorem HN (a:Ring):PI a=some (WA a):=by
 unfold PI WA HB;by_cases h1:(a.Read.length:Int)<8
 ·simp[h1]
 by_cases h2:(a.Read.length:Int)>32
 ·simp[h1,h2]
 have hl:=qJj a FUEL 0 (by rw[wH];omega) (by omega) (by omega);rw[uI] at hl;by_cases h3:a.Z<0
 ·simp[h1,h2,h3]
 by_cases h4:a.Z>20000
 ·simp[h1,h2,h3,h4]
 rw[ki h1,ki h2,ki h3,ki h4];have hl':yI a FUEL 0=some (BH (jJ a.Read)):=hl;simp only[ku,hl',kd,BH];by_cases hc:jJ a.Read=0
 ·rw[hc];rfl
 ·have hb:(jJ a.Read==0)=false:=by simpa using hc
  rw[hb];rfl
theorem qDM (a:Ring):RA a=some (WA a):=by
 unfold RA WA FG;by_cases h1:(a.Read.length:Int)<8
 ·simp[h1]
 by_cases h2:(a.Read.length:Int)>32
 ·simp[h1,h2]
 have hl:=qLM a FUEL 0 (by rw[wH];omega) (by omega) (by omega);rw[uI] at hl;by_cases h3:a.Z<0
 ·simp[h1,h2,h3]
 by_cases h4:a.Z>20000
 ·simp[h1,h2,h3,h4]
 rw[ki h1,ki h2,ki h3,ki h4];have hl':yK a FUEL 0=some (BH (jJ a.Read)):=hl;simp only[ku,hl',kd,BH];by_cases hc:jJ a.Read=0
 ·rw[hc];rfl
 ·have hb:(jJ a.Read==0)=false:=by simpa using hc
  rw[hb];rfl
structure yL (a:Ring):Prop where
 lo:8<=a.Read.length
 hi:a.Read.length<=32
 z0:0<=a.Z
 z1:a.Z<=20000
 all:∀r∈a.Read,WF r=0
theorem qFb :∀{l:List qP},jJ l=0↔∀r∈l,WF r=0
 |[]=>by simp[jJ]
 |r::l=>by
  simp only[jJ,kV,forall_eq_or_imp];by_cases h:WF r=0
  ·simp[h,qFb (l:=l)]
  ·have hb:(WF r==0)=false:=by simpa using h
   rw[hb];exact⟨λh'=>absurd h' h,λh'=>absurd h'.1 h⟩
theorem GA (a:Ring):WA a=0↔yL a:=by
 unfold WA;by_cases h1:(a.Read.length:Int)<8
 ·simp only[h1,decide_true,kq];exact⟨λh=>by omega,λh=>by have:=h.lo;omega⟩
 by_cases h2:(a.Read.length:Int)>32
 ·simp only[h1,h2,decide_true,decide_false,kq,ku];exact⟨λh=>by omega,λh=>by have:=h.hi;omega⟩
 by_cases h3:a.Z<0
 ·simp only[h1,h2,h3,decide_true,decide_false,kq,ku];exact⟨λh=>by omega,λh=>by have:=h.z0;omega⟩
 by_cases h4:a.Z>20000
 ·simp only[h1,h2,h3,h4,decide_true,decide_false,kq,ku];exact⟨λh=>by omega,λh=>by have:=h.z1;omega⟩
 simp only[h1,h2,h3,h4,decide_false,ku,qFb];exact⟨λh=>⟨by omega,by omega,by omega,by omega,h⟩,λh=>h.all⟩
theorem qLY (a:Ring) (h:a.Read.length<=1000):FX a=some a:=by
 unfold FX QT;rw[qFz (by omega)];rfl
theorem qTP (a:Ring) (h:a.Read.length<=1000):qD1 a=some a:=by
 unfold qD1;rw[qFz (by omega)];rfl
end Saw
end Go.SL

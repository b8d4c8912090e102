/- Poly's plain mathematics, part 33: convex polygons: at each height one edge goes up, and one goes down. -/
import Derived.Test.YthbamnkheinbgaaGreatDoorSMa7
import Derived.Test.YthbamnkheinbgaaGreatDoorSMod
set_option linter.unusedVariables false
set_option linter.unusedSimpArgs false
namespace Go.SL
namespace Saw
theorem QB :FUEL=4611686018427387904:=by unfold FUEL;rfl
theorem zG {n:Int} (h1: -9223372036854775808<=n) (h2:n<=9223372036854775807):w64 n=n:=by
 unfold w64 IntKind.wrap;simp only[IntKind.bits,IntKind.signed,Bool.true_and];split
 ·rename_i h;have h':n % 2^64≥2^(64-1):=kK h;omega
 ·rename_i h;have h':¬n % 2^64≥2^(64-1):=λhh=>h (kq hh);omega
theorem QX {i:Int} {n:Nat} (h0:0<=i) (h1:i<(n:Int)):inb i n=true:=by unfold inb;exact kq ⟨h0,h1⟩
theorem qFB {n b:Nat} (h:n*b<=140737488355328):room n b=true:=by unfold room;exact kq h
theorem qHx (a:Int):YP a=some (decide (-600<=a)&&decide (a<=600)):=by
 unfold YP KQ;by_cases h:a≥-600
 ·simp[h]
 ·simp[h]
def JO (p:qA):Bool:=(decide (-600<=p.X)&&decide (p.X<=600))&&(decide (-600<=p.Y)&&decide (p.Y<=600))
theorem qGo (p:qA):KG [p]=some (JO p):=by
 unfold KG;rw[QB];rw[show(4611686018427387904:Nat)=4611686018427387902+1+1 from rfl];unfold zY;have e1:w64 (0+1)=1:=by kernel_rfl
 have tail:zY [p] (4611686018427387902+1) 1=some (Sum.inr ()):=by
  unfold zY;simp
 have hi:inb 0 1=true:=by kernel_rfl
 simp only[List.length_cons,List.length_nil,ky,yP,e1,tail,hi,ks,Int.toNat_zero,kU];have h01:decide ((0:Int)<((1:Nat):Int))=true:=by decide
 rw[h01];simp only[ks,JO];by_cases h1:p.X< -600
 ·have g1:¬-600<=p.X:=by omega
  simp[h1,g1]
 ·have g1: -600<=p.X:=by omega
  by_cases h2:p.X>600
  ·have g2:¬p.X<=600:=by omega
   simp[h1,h2,g2]
  ·have g2:p.X<=600:=by omega
   by_cases h3:p.Y< -600
   ·have g3:¬-600<=p.Y:=by omega
    simp[h1,h2,h3,g3]
   ·have g3: -600<=p.Y:=by omega
    by_cases h4:p.Y>600
    ·have g4:¬p.Y<=600:=by omega
     simp[h1,h2,h3,h4,g4]
    ·have g4:p.Y<=600:=by omega
     simp[h1,h2,h3,h4,g1,g2,g3,g4]
def BY (p:qA):Bool:=p.X==0&&(p.Y==0&&true)
def ZZ (r:qC):Int:=bif r.Ok&&!JO r.P then 9 else bif !r.Ok&&!BY r.P then 19 else 0
def zZ (l:List qC):Int:=match l with
 |[]=>0
 |r::l=>bif ZZ r==0 then zZ l else ZZ r
def KF (c:Int):Int⊕Unit:=bif c==0 then .inr () else .inl c
theorem qAX {α:Type} [Inhabited α] (l:List α) (x:Nat) (h:x<l.length):l.drop x=l.getD x dd::l.drop (x+1):=by
 rw[uW h,ka,ko h];rfl
theorem qAB (a:Ring):∀(n:Nat) (x:Nat),a.Read.length<x+n->x<=a.Read.length->a.Read.length<=1000->wL a n (x:Int)=some (KF (zZ (a.Read.drop x)))
 |0,x,h1,h2,_=>by omega
 |n+1,x,h1,h2,h3=>by
  unfold wL;by_cases hx:x<a.Read.length
  ·have hd:=qAX a.Read x hx;have ih:=qAB a n (x+1) (by omega) (by omega) h3;have e1:w64 ((x:Int)+1)=((x+1:Nat):Int):=by rw[zG (by omega) (by omega)];omega
   have c1:decide ((x:Int)<(a.Read.length:Int))=true:=kq (by omega);rw[c1,QX (by omega) (by omega),hd];simp only[ks,kw,qHx,kr,YD,RQ,e1,ih,zZ,ZZ,JO,BY];generalize a.Read.getD x dd=r;cases r.Ok<;>cases (decide (-600<=r.P.X)&&decide (r.P.X<=600))<;>cases (decide (-600<=r.P.Y)&&decide (r.P.Y<=600))<;>cases (r.P.X==0&&(r.P.Y==0&&true))<;>simp[KF]
  ·have c1:decide ((x:Int)<(a.Read.length:Int))=false:=ki (by omega);rw[c1,List.drop_of_length_le (by omega)];rfl
theorem qCs (a:Ring):∀(n:Nat) (x:Nat),a.Read.length<x+n->x<=a.Read.length->a.Read.length<=1000->wM a n (x:Int)=some (KF (zZ (a.Read.drop x)))
 |0,x,h1,h2,_=>by omega
 |n+1,x,h1,h2,h3=>by
  unfold wM;by_cases hx:x<a.Read.length
  ·have hd:=qAX a.Read x hx;have ih:=qCs a n (x+1) (by omega) (by omega) h3;have e1:w64 ((x:Int)+1)=((x+1:Nat):Int):=by rw[zG (by omega) (by omega)];omega
   have c1:decide ((x:Int)<(a.Read.length:Int))=true:=kq (by omega);rw[c1,QX (by omega) (by omega),hd];simp only[ks,kw,qGo,kr,KP,KY,e1,ih,zZ,ZZ,BY];generalize a.Read.getD x dd=r;cases r.Ok<;>cases JO r.P<;>cases (r.P.X==0&&(r.P.Y==0&&true))<;>simp[KF]
  ·have c1:decide ((x:Int)<(a.Read.length:Int))=false:=ki (by omega);rw[c1,List.drop_of_length_le (by omega)];rfl
def QN (a:Ring):Int:=
 bif decide ((a.Read.length:Int)<8) then 3 else bif decide ((a.Read.length:Int)>32) then 4 else bif decide (a.Z<0) then 9 else bif decide (a.Z>20000) then 9 else zZ a.Read
theorem NZ (a:Ring):ZQ a=some (QN a):=by
 unfold ZQ QN RP;by_cases h1:(a.Read.length:Int)<8
 ·simp[h1]
 by_cases h2:(a.Read.length:Int)>32
 ·simp[h1,h2]
 have hl:=qAB a FUEL 0 (by rw[QB];omega) (by omega) (by omega);rw[gb] at hl;by_cases h3:a.Z<0
 ·simp[h1,h2,h3]
 by_cases h4:a.Z>20000
 ·simp[h1,h2,h3,h4]
 rw[ki h1,ki h2,ki h3,ki h4];have hl':wL a FUEL 0=some (KF (zZ a.Read)):=hl;simp only[ku,hl',kr,KF];by_cases hc:zZ a.Read=0
 ·rw[hc];rfl
 ·have hb:(zZ a.Read==0)=false:=by simpa using hc
  rw[hb];rfl
theorem MR (a:Ring):YQ a=some (QN a):=by
 unfold YQ QN KW;by_cases h1:(a.Read.length:Int)<8
 ·simp[h1]
 by_cases h2:(a.Read.length:Int)>32
 ·simp[h1,h2]
 have hl:=qCs a FUEL 0 (by rw[QB];omega) (by omega) (by omega);rw[gb] at hl;by_cases h3:a.Z<0
 ·simp[h1,h2,h3]
 by_cases h4:a.Z>20000
 ·simp[h1,h2,h3,h4]
 rw[ki h1,ki h2,ki h3,ki h4];have hl':wM a FUEL 0=some (KF (zZ a.Read)):=hl;simp only[ku,hl',kr,KF];by_cases hc:zZ a.Read=0
 ·rw[hc];rfl
 ·have hb:(zZ a.Read==0)=false:=by simpa using hc
  rw[hb];rfl
structure WJ (a:Ring):Prop where
 lo:8<=a.Read.length
 hi:a.Read.length<=32
 z0:0<=a.Z
 z1:a.Z<=20000
 all:∀r∈a.Read,ZZ r=0
theorem EU :∀{l:List qC},zZ l=0↔∀r∈l,ZZ r=0
 |[]=>by simp[zZ]
 |r::l=>by
  simp only[zZ,uy,forall_eq_or_imp];by_cases h:ZZ r=0
  ·simp[h,EU (l:=l)]
  ·have hb:(ZZ r==0)=false:=by simpa using h
   rw[hb];exact⟨λh'=>absurd h' h,λh'=>absurd h'.1 h⟩
theorem YN (a:Ring):QN a=0↔WJ a:=by
 unfold QN;by_cases h1:(a.Read.length:Int)<8
 ·simp only[h1,decide_true,ks];exact⟨λh=>by omega,λh=>by have:=h.lo;omega⟩
 by_cases h2:(a.Read.length:Int)>32
 ·simp only[h1,h2,decide_true,decide_false,ks,ku];exact⟨λh=>by omega,λh=>by have:=h.hi;omega⟩
 by_cases h3:a.Z<0
 ·simp only[h1,h2,h3,decide_true,decide_false,ks,ku];exact⟨λh=>by omega,λh=>by have:=h.z0;omega⟩
 by_cases h4:a.Z>20000
 ·simp only[h1,h2,h3,h4,decide_true,decide_false,ks,ku];exact⟨λh=>by omega,λh=>by have:=h.z1;omega⟩
 simp only[h1,h2,h3,h4,decide_false,ku,EU];exact⟨λh=>⟨by omega,by omega,by omega,by omega,h⟩,λh=>h.all⟩
theorem qCr (a:Ring) (h:a.Read.length<=1000):KS a=some a:=by
 unfold KS wG;rw[qFB (by omega)];rfl
theorem qAA (a:Ring) (h:a.Read.length<=1000):KA a=some a:=by
 unfold KA;rw[qFB (by omega)];rfl
end Saw
end Go.SL

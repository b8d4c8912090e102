/- Poly's plain mathematics, part 33: convex polygons: at each height one edge goes up, and one goes down. -/
import Derived.Test.YthbamnkheinbgaaGreatDoorSMa7
import Derived.Test.YthbamnkheinbgaaGreatDoorSMod
set_option linter.unusedVariables false
set_option linter.unusedSimpArgs false
namespace Go.SL
namespace Saw
theorem VJ :FUEL=4611686018427387904:=by unfold FUEL;rfl
theorem SO {n:Int} (h1: -9223372036854775808<=n) (h2:n<=9223372036854775807):w64 n=n:=by
 unfold w64 IntKind.wrap;simp only[IntKind.bits,IntKind.signed,Bool.true_and];split
 ·rename_i h;have h':n % 2^64≥2^(64-1):=kM h;omega
 ·rename_i h;have h':¬n % 2^64≥2^(64-1):=λhh=>h (kq hh);omega
theorem TI {i:Int} {n:Nat} (h0:0<=i) (h1:i<(n:Int)):inb i n=true:=by unfold inb;exact kq ⟨h0,h1⟩
theorem qE1 {n b:Nat} (h:n*b<=140737488355328):room n b=true:=by unfold room;exact kq h
theorem qGq (a:Int):YG a=some (decide (-600<=a)&&decide (a<=600)):=by
 unfold YG KS;by_cases h:a≥-600
 ·simp[h]
 ·simp[h]
def VL (p:qB):Bool:=(decide (-600<=p.X)&&decide (p.X<=600))&&(decide (-600<=p.Y)&&decide (p.Y<=600))
theorem qFX (p:qB):XW [p]=some (VL p):=by
 unfold XW;rw[VJ];rw[show(4611686018427387904:Nat)=4611686018427387902+1+1 from rfl];unfold zS;have e1:w64 (0+1)=1:=by kernel_rfl
 have tail:zS [p] (4611686018427387902+1) 1=some (Sum.inr ()):=by
  unfold zS;simp
 have hi:inb 0 1=true:=by kernel_rfl
 simp only[List.length_cons,List.length_nil,kz,yF,e1,tail,hi,ks,Int.toNat_zero,un];have h01:decide ((0:Int)<((1:Nat):Int))=true:=by decide
 rw[h01];simp only[ks,VL];by_cases h1:p.X< -600
 ·have g1:¬-600<=p.X:=by omega
  simp[h1,g1]
 ·have g1: -600<=p.X:=by omega
  by_cases h2:p.X>600
  ·have g2:¬p.X<=600:=by omega
   simp[h1,h2,g2]
  ·have g2:p.X<=600:=by omega
   by_cases h3:p.Y< -600
   ·have g3:¬-600<=p.Y:=by omega
    simp[h1,h2,h3,g3]
   ·have g3: -600<=p.Y:=by omega
    by_cases h4:p.Y>600
    ·have g4:¬p.Y<=600:=by omega
     simp[h1,h2,h3,h4,g4]
    ·have g4:p.Y<=600:=by omega
     simp[h1,h2,h3,h4,g1,g2,g3,g4]
def qAB (p:qB):Bool:=p.X==0&&(p.Y==0&&true)
def XD (r:qC):Int:=bif r.Ok&&!VL r.P then 9 else bif !r.Ok&&!qAB r.P then 19 else 0
def zV (l:List qC):Int:=match l with
 |[]=>0
 |r::l=>bif XD r==0 then zV l else XD r
def XN (c:Int):Int⊕Unit:=bif c==0 then .inr () else .inl c
theorem qA5 {α:Type} [Inhabited α] (l:List α) (x:Nat) (h:x<l.length):l.drop x=l.getD x dd::l.drop (x+1):=by
 rw[uR h,ka,kp h];rfl
theorem qAj (a:Ring):∀(n:Nat) (x:Nat),a.Read.length<x+n->x<=a.Read.length->a.Read.length<=1000->wE a n (x:Int)=some (XN (zV (a.Read.drop x)))
 |0,x,h1,h2,_=>by omega
 |n+1,x,h1,h2,h3=>by
  unfold wE;by_cases hx:x<a.Read.length
  ·have hd:=qA5 a.Read x hx;have ih:=qAj a n (x+1) (by omega) (by omega) h3;have e1:w64 ((x:Int)+1)=((x+1:Nat):Int):=by rw[SO (by omega) (by omega)];omega
   have c1:decide ((x:Int)<(a.Read.length:Int))=true:=kq (by omega);rw[c1,TI (by omega) (by omega),hd];simp only[ks,kI,qGq,kr,JP,PV,e1,ih,zV,XD,VL,qAB];generalize a.Read.getD x dd=r;cases r.Ok<;>cases (decide (-600<=r.P.X)&&decide (r.P.X<=600))<;>cases (decide (-600<=r.P.Y)&&decide (r.P.Y<=600))<;>cases (r.P.X==0&&(r.P.Y==0&&true))<;>simp[XN]
  ·have c1:decide ((x:Int)<(a.Read.length:Int))=false:=ki (by omega);rw[c1,List.drop_of_length_le (by omega)];rfl
theorem qB8 (a:Ring):∀(n:Nat) (x:Nat),a.Read.length<x+n->x<=a.Read.length->a.Read.length<=1000->wF a n (x:Int)=some (XN (zV (a.Read.drop x)))
 |0,x,h1,h2,_=>by omega
 |n+1,x,h1,h2,h3=>by
  unfold wF;by_cases hx:x<a.Read.length
  ·have hd:=qA5 a.Read x hx;have ih:=qB8 a n (x+1) (by omega) (by omega) h3;have e1:w64 ((x:Int)+1)=((x+1:Nat):Int):=by rw[SO (by omega) (by omega)];omega
   have c1:decide ((x:Int)<(a.Read.length:Int))=true:=kq (by omega);rw[c1,TI (by omega) (by omega),hd];simp only[ks,kI,qFX,kr,KC,KA,e1,ih,zV,XD,qAB];generalize a.Read.getD x dd=r;cases r.Ok<;>cases VL r.P<;>cases (r.P.X==0&&(r.P.Y==0&&true))<;>simp[XN]
  ·have c1:decide ((x:Int)<(a.Read.length:Int))=false:=ki (by omega);rw[c1,List.drop_of_length_le (by omega)];rfl
def jZ (a:Ring):Int:=
 bif decide ((a.Read.length:Int)<8) then 3 else bif decide ((a.Read.length:Int)>32) then 4 else bif decide (a.Z<0) then 9 else bif decide (a.Z>20000) then 9 else zV a.Read
theorem PS (a:Ring):yU a=some (jZ a):=by
 unfold yU jZ PZ;by_cases h1:(a.Read.length:Int)<8
 ·simp[h1]
 by_cases h2:(a.Read.length:Int)>32
 ·simp[h1,h2]
 have hl:=qAj a FUEL 0 (by rw[VJ];omega) (by omega) (by omega);rw[uI] at hl;by_cases h3:a.Z<0
 ·simp[h1,h2,h3]
 by_cases h4:a.Z>20000
 ·simp[h1,h2,h3,h4]
 rw[ki h1,ki h2,ki h3,ki h4];have hl':wE a FUEL 0=some (XN (zV a.Read)):=hl;simp only[ku,hl',kr,XN];by_cases hc:zV a.Read=0
 ·rw[hc];rfl
 ·have hb:(zV a.Read==0)=false:=by simpa using hc
  rw[hb];rfl
theorem qAS (a:Ring):ZV a=some (jZ a):=by
 unfold ZV jZ KB;by_cases h1:(a.Read.length:Int)<8
 ·simp[h1]
 by_cases h2:(a.Read.length:Int)>32
 ·simp[h1,h2]
 have hl:=qB8 a FUEL 0 (by rw[VJ];omega) (by omega) (by omega);rw[uI] at hl;by_cases h3:a.Z<0
 ·simp[h1,h2,h3]
 by_cases h4:a.Z>20000
 ·simp[h1,h2,h3,h4]
 rw[ki h1,ki h2,ki h3,ki h4];have hl':wF a FUEL 0=some (XN (zV a.Read)):=hl;simp only[ku,hl',kr,XN];by_cases hc:zV a.Read=0
 ·rw[hc];rfl
 ·have hb:(zV a.Read==0)=false:=by simpa using hc
  rw[hb];rfl
structure KP (a:Ring):Prop where
 lo:8<=a.Read.length
 hi:a.Read.length<=32
 z0:0<=a.Z
 z1:a.Z<=20000
 all:∀r∈a.Read,XD r=0
theorem EP :∀{l:List qC},zV l=0↔∀r∈l,XD r=0
 |[]=>by simp[zV]
 |r::l=>by
  simp only[zV,uw,forall_eq_or_imp];by_cases h:XD r=0
  ·simp[h,EP (l:=l)]
  ·have hb:(XD r==0)=false:=by simpa using h
   rw[hb];exact⟨λh'=>absurd h' h,λh'=>absurd h'.1 h⟩
theorem QA (a:Ring):jZ a=0↔KP a:=by
 unfold jZ;by_cases h1:(a.Read.length:Int)<8
 ·simp only[h1,decide_true,ks];exact⟨λh=>by omega,λh=>by have:=h.lo;omega⟩
 by_cases h2:(a.Read.length:Int)>32
 ·simp only[h1,h2,decide_true,decide_false,ks,ku];exact⟨λh=>by omega,λh=>by have:=h.hi;omega⟩
 by_cases h3:a.Z<0
 ·simp only[h1,h2,h3,decide_true,decide_false,ks,ku];exact⟨λh=>by omega,λh=>by have:=h.z0;omega⟩
 by_cases h4:a.Z>20000
 ·simp only[h1,h2,h3,h4,decide_true,decide_false,ks,ku];exact⟨λh=>by omega,λh=>by have:=h.z1;omega⟩
 simp only[h1,h2,h3,h4,decide_false,ku,EP];exact⟨λh=>⟨by omega,by omega,by omega,by omega,h⟩,λh=>h.all⟩
theorem NT (a b:Ring) (hab:a.Read.length=b.Read.length):∀(n:Nat) (x:Nat) (l:List qC),a.Read.length<x+n->x<=a.Read.length->a.Read.length<=1000->l.length=a.Read.length->(∀j,x<=j->l.getD j dd=a.Read.getD j dd)->
  ∃r,zW a b n (x:Int) l=some r/\wQ b n (x:Int) l=some r/\r.length=a.Read.length
 |0,x,l,h1,h2,_,_,_=>by omega
 |n+1,x,l,h1,h2,h3,hl,hj=>by
  unfold zW wQ;by_cases hx:x<a.Read.length
  ·have e1:w64 ((x:Int)+1)=((x+1:Nat):Int):=by rw[SO (by omega) (by omega)];omega
   have c1:decide ((x:Int)<(a.Read.length:Int))=true:=kq (by omega);rw[hl,c1,TI (by omega) (by omega),TI (n:=b.Read.length) (by omega) (by omega)];simp only[ks,kI,hj x (kg _),JL,KM,e1];cases (a.Read.getD x dd).Ok with
   |true=>exact NT a b hab n (x+1) l (by omega) (by omega) h3 hl (λj h=>hj j (by omega))
   | false=>exact NT a b hab n (x+1) _ (by omega) (by omega) h3 (by rw[List.length_set];exact hl) (λj h=>by
     rw[<-hj j (by omega),ka,uO (by omega),<-ka])
  ·have c1:decide ((x:Int)<(a.Read.length:Int))=false:=ki (by omega);rw[hl,c1];exact⟨l,rfl,rfl,hl⟩
theorem qB1 (a:Ring) (h:a.Read.length<=1000):KN a=some a:=by
 unfold KN yG;rw[qE1 (by omega)];rfl
theorem qHd (a:Ring) (h:a.Read.length<=1000):XV a=some a:=by
 unfold XV;rw[qE1 (by omega)];rfl
theorem qFa (a b:Ring):∃r,jW a b=some r/\YH a b=some r/\r.1.Read.length<=1000:=by
 unfold jW YH;simp only[PS,qAS,kr];by_cases ha:jZ a=0
 ·have ga:=(QA a).1 ha;rw[ha];by_cases hb:jZ b=0
  ·have gb:=(QA b).1 hb;rw[hb];simp only[kJ,ku,QZ,KD];by_cases hz:a.Z=b.Z
   ·rw[hz];simp only[kJ,ku];by_cases hl:a.Read.length=b.Read.length
    ·rw[hl];simp only[kJ,ku,qB1 a (by have:=ga.hi;omega),qHd a (by have:=ga.hi;omega),kr];obtain⟨r,h1,h2,h3⟩:=NT a b hl FUEL 0 a.Read (by have:=ga.hi;rw[VJ];omega) (by omega) (by have:=ga.hi;omega) rfl (λ_ _=>rfl);have h1':zW a b FUEL 0 a.Read=some r:=h1;have h2':wQ b FUEL 0 a.Read=some r:=h2;rw[h1',h2'];exact⟨_,rfl,rfl,by have:=ga.hi;show r.length<=1000;omega⟩
    ·have:((a.Read.length:Int) !=(b.Read.length:Int))=true:=by simp;omega
     rw[this];exact⟨_,rfl,rfl,kW _⟩
   ·have:(a.Z !=b.Z)=true:=by simp[hz]
    rw[this];exact⟨_,rfl,rfl,kW _⟩
  ·have:(jZ b !=0)=true:=by simp[hb]
   rw[this];exact⟨_,rfl,rfl,kW _⟩
 ·have:(jZ a !=0)=true:=by simp[ha]
  rw[this];exact⟨_,rfl,rfl,kW _⟩
end Saw
end Go.SL

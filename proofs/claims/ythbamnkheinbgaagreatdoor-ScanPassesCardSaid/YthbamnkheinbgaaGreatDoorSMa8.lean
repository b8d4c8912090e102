/- Poly's plain mathematics, part 33: convex polygons: at each height one edge goes up, and one goes down. -/
import Derived.Test.YthbamnkheinbgaaGreatDoorSMa7
import Derived.Test.YthbamnkheinbgaaGreatDoorSMod
set_option linter.unusedVariables false
set_option linter.unusedSimpArgs false
namespace Go.SL
namespace Saw
theorem wM :FUEL=4611686018427387904:=by unfold FUEL;rfl
theorem wT {n:Int} (h1: -9223372036854775808<=n) (h2:n<=9223372036854775807):w64 n=n:=by
 unfold w64 IntKind.wrap;simp only[IntKind.bits,IntKind.signed,Bool.true_and];split
 ·rename_i h;have h':n % 2^64≥2^(64-1):=kK h;omega
 ·rename_i h;have h':¬n % 2^64≥2^(64-1):=λhh=>h (ku hh);omega
theorem jR {i:Int} {n:Nat} (h0:0<=i) (h1:i<(n:Int)):inb i n=true:=by unfold inb;exact ku ⟨h0,h1⟩
theorem rg_nz_t {b:Int} (h:b≠0):nz b=true:=by unfold nz;exact ku h
theorem CZ {n b:Nat} (h:n*b<=140737488355328):room n b=true:=by unfold room;exact ku h
theorem qFJ (a:Int):YO a=some (decide (-600<=a)&&decide (a<=600)):=by
 unfold YO KK;by_cases h:a≥-600
 ·simp[h]
 ·simp[h]
def UY (p:qA):Bool:=(decide (-600<=p.X)&&decide (p.X<=600))&&(decide (-600<=p.Y)&&decide (p.Y<=600))
theorem qEo (p:qA):FH [p]=some (UY p):=by
 unfold FH;rw[wM];rw[show(4611686018427387904:Nat)=4611686018427387902+1+1 from rfl];unfold wS;have e1:w64 (0+1)=1:=by kernel_rfl
 have tail:wS [p] (4611686018427387902+1) 1=some (Sum.inr ()):=by
  unfold wS;simp
 have hi:inb 0 1=true:=by kernel_rfl
 simp only[List.length_cons,List.length_nil,kz,ZY,e1,tail,hi,kr,Int.toNat_zero,uv];have h01:decide ((0:Int)<((1:Nat):Int))=true:=by decide
 rw[h01];simp only[kr,UY];by_cases h1:p.X< -600
 ·have g1:¬-600<=p.X:=by omega
  simp[h1,g1]
 ·have g1: -600<=p.X:=by omega
  by_cases h2:p.X>600
  ·have g2:¬p.X<=600:=by omega
   simp[h1,h2,g2]
  ·have g2:p.X<=600:=by omega
   by_cases h3:p.Y< -600
   ·have g3:¬-600<=p.Y:=by omega
    simp[h1,h2,h3,g3]
   ·have g3: -600<=p.Y:=by omega
    by_cases h4:p.Y>600
    ·have g4:¬p.Y<=600:=by omega
     simp[h1,h2,h3,h4,g4]
    ·have g4:p.Y<=600:=by omega
     simp[h1,h2,h3,h4,g1,g2,g3,g4]
def CH (p:qA):Bool:=p.X==0&&(p.Y==0&&true)
def JK (r:qB):Int:=bif r.Ok&&!UY r.P then 9 else bif !r.Ok&&!CH r.P then 19 else 0
def zX (l:List qB):Int:=match l with
 |[]=>0
 |r::l=>bif JK r==0 then zX l else JK r
def XW (c:Int):Int⊕Unit:=bif c==0 then .inr () else .inl c
theorem CQ {α:Type} [Inhabited α] (l:List α) (x:Nat) (h:x<l.length):l.drop x=l.getD x dd::l.drop (x+1):=by
 rw[gc h,ka,ki h];rfl
theorem CE (a:Ring):∀(n:Nat) (x:Nat),a.Read.length<x+n->x<=a.Read.length->a.Read.length<=1000->wL a n (x:Int)=some (XW (zX (a.Read.drop x)))
 |0,x,h1,h2,_=>by omega
 |n+1,x,h1,h2,h3=>by
  unfold wL;by_cases hx:x<a.Read.length
  ·have hd:=CQ a.Read x hx;have ih:=CE a n (x+1) (by omega) (by omega) h3;have e1:w64 ((x:Int)+1)=((x+1:Nat):Int):=by rw[wT (by omega) (by omega)];omega
   have c1:decide ((x:Int)<(a.Read.length:Int))=true:=ku (by omega);rw[c1,jR (by omega) (by omega),hd];simp only[kr,kH,qFJ,ks,YH,PS,e1,ih,zX,JK,UY,CH];generalize a.Read.getD x dd=r;cases r.Ok<;>cases (decide (-600<=r.P.X)&&decide (r.P.X<=600))<;>cases (decide (-600<=r.P.Y)&&decide (r.P.Y<=600))<;>cases (r.P.X==0&&(r.P.Y==0&&true))<;>simp[XW]
  ·have c1:decide ((x:Int)<(a.Read.length:Int))=false:=kp (by omega);rw[c1,List.drop_of_length_le (by omega)];rfl
theorem qBf (a:Ring):∀(n:Nat) (x:Nat),a.Read.length<x+n->x<=a.Read.length->a.Read.length<=1000->QG a n (x:Int)=some (XW (zX (a.Read.drop x)))
 |0,x,h1,h2,_=>by omega
 |n+1,x,h1,h2,h3=>by
  unfold QG;by_cases hx:x<a.Read.length
  ·have hd:=CQ a.Read x hx;have ih:=qBf a n (x+1) (by omega) (by omega) h3;have e1:w64 ((x:Int)+1)=((x+1:Nat):Int):=by rw[wT (by omega) (by omega)];omega
   have c1:decide ((x:Int)<(a.Read.length:Int))=true:=ku (by omega);rw[c1,jR (by omega) (by omega),hd];simp only[kr,kH,qEo,ks,GQ,VP,e1,ih,zX,JK,CH];generalize a.Read.getD x dd=r;cases r.Ok<;>cases UY r.P<;>cases (r.P.X==0&&(r.P.Y==0&&true))<;>simp[XW]
  ·have c1:decide ((x:Int)<(a.Read.length:Int))=false:=kp (by omega);rw[c1,List.drop_of_length_le (by omega)];rfl
def yX (a:Ring):Int:=
 bif decide ((a.Read.length:Int)<8) then 3 else bif decide ((a.Read.length:Int)>32) then 4 else bif decide (a.Z<0) then 9 else bif decide (a.Z>20000) then 9 else zX a.Read
theorem PQ (a:Ring):QA a=some (yX a):=by
 unfold QA yX PU;by_cases h1:(a.Read.length:Int)<8
 ·simp[h1]
 by_cases h2:(a.Read.length:Int)>32
 ·simp[h1,h2]
 have hl:=CE a FUEL 0 (by rw[wM];omega) (by omega) (by omega);rw[uO] at hl;by_cases h3:a.Z<0
 ·simp[h1,h2,h3]
 by_cases h4:a.Z>20000
 ·simp[h1,h2,h3,h4]
 rw[kp h1,kp h2,kp h3,kp h4];have hl':wL a FUEL 0=some (XW (zX a.Read)):=hl;simp only[kq,hl',ks,XW];by_cases hc:zX a.Read=0
 ·rw[hc];rfl
 ·have hb:(zX a.Read==0)=false:=by simpa using hc
  rw[hb];rfl
theorem qE3 (a:Ring):DB a=some (yX a):=by
 unfold DB yX VO;by_cases h1:(a.Read.length:Int)<8
 ·simp[h1]
 by_cases h2:(a.Read.length:Int)>32
 ·simp[h1,h2]
 have hl:=qBf a FUEL 0 (by rw[wM];omega) (by omega) (by omega);rw[uO] at hl;by_cases h3:a.Z<0
 ·simp[h1,h2,h3]
 by_cases h4:a.Z>20000
 ·simp[h1,h2,h3,h4]
 rw[kp h1,kp h2,kp h3,kp h4];have hl':QG a FUEL 0=some (XW (zX a.Read)):=hl;simp only[kq,hl',ks,XW];by_cases hc:zX a.Read=0
 ·rw[hc];rfl
 ·have hb:(zX a.Read==0)=false:=by simpa using hc
  rw[hb];rfl
structure WQ (a:Ring):Prop where
 lo:8<=a.Read.length
 hi:a.Read.length<=32
 z0:0<=a.Z
 z1:a.Z<=20000
 all:∀r∈a.Read,JK r=0
theorem ML :∀{l:List qB},zX l=0↔∀r∈l,JK r=0
 |[]=>by simp[zX]
 |r::l=>by
  simp only[zX,uA,forall_eq_or_imp];by_cases h:JK r=0
  ·simp[h,ML (l:=l)]
  ·have hb:(JK r==0)=false:=by simpa using h
   rw[hb];exact⟨λh'=>absurd h' h,λh'=>absurd h'.1 h⟩
theorem QF (a:Ring):yX a=0↔WQ a:=by
 unfold yX;by_cases h1:(a.Read.length:Int)<8
 ·simp only[h1,decide_true,kr];exact⟨λh=>by omega,λh=>by have:=h.lo;omega⟩
 by_cases h2:(a.Read.length:Int)>32
 ·simp only[h1,h2,decide_true,decide_false,kr,kq];exact⟨λh=>by omega,λh=>by have:=h.hi;omega⟩
 by_cases h3:a.Z<0
 ·simp only[h1,h2,h3,decide_true,decide_false,kr,kq];exact⟨λh=>by omega,λh=>by have:=h.z0;omega⟩
 by_cases h4:a.Z>20000
 ·simp only[h1,h2,h3,h4,decide_true,decide_false,kr,kq];exact⟨λh=>by omega,λh=>by have:=h.z1;omega⟩
 simp only[h1,h2,h3,h4,decide_false,kq,ML];exact⟨λh=>⟨by omega,by omega,by omega,by omega,h⟩,λh=>h.all⟩
theorem BN (a b:Ring) (hab:a.Read.length=b.Read.length):∀(n:Nat) (x:Nat) (l:List qB),a.Read.length<x+n->x<=a.Read.length->a.Read.length<=1000->l.length=a.Read.length->(∀j,x<=j->l.getD j dd=a.Read.getD j dd)->
  ∃r,zY a b n (x:Int) l=some r/\QH b n (x:Int) l=some r/\r.length=a.Read.length
 |0,x,l,h1,h2,_,_,_=>by omega
 |n+1,x,l,h1,h2,h3,hl,hj=>by
  unfold zY QH;by_cases hx:x<a.Read.length
  ·have e1:w64 ((x:Int)+1)=((x+1:Nat):Int):=by rw[wT (by omega) (by omega)];omega
   have c1:decide ((x:Int)<(a.Read.length:Int))=true:=ku (by omega);rw[hl,c1,jR (by omega) (by omega),jR (n:=b.Read.length) (by omega) (by omega)];simp only[kr,kH,hj x (kg _),JY,VN,e1];cases (a.Read.getD x dd).Ok with
   |true=>exact BN a b hab n (x+1) l (by omega) (by omega) h3 hl (λj h=>hj j (by omega))
   | false=>exact BN a b hab n (x+1) _ (by omega) (by omega) h3 (by rw[List.length_set];exact hl) (λj h=>by
     rw[<-hj j (by omega),ka,uX (by omega),<-ka])
  ·have c1:decide ((x:Int)<(a.Read.length:Int))=false:=kp (by omega);rw[hl,c1];exact⟨l,rfl,rfl,hl⟩
theorem qBl (a:Ring) (h:a.Read.length<=1000):KJ a=some a:=by
 unfold KJ yO;rw[CZ (by omega)];rfl
theorem qFq (a:Ring) (h:a.Read.length<=1000):zaQ a=some a:=by
 unfold zaQ;rw[CZ (by omega)];rfl
theorem qDR (a b:Ring):∃r,yH a b=some r/\SR a b=some r/\r.1.Read.length<=1000:=by
 unfold yH SR;simp only[PQ,qE3,ks];by_cases ha:yX a=0
 ·have ga:=(QF a).1 ha;rw[ha];by_cases hb:yX b=0
  ·have gb:=(QF b).1 hb;rw[hb];simp only[kJ,kq,ZI,VV];by_cases hz:a.Z=b.Z
   ·rw[hz];simp only[kJ,kq];by_cases hl:a.Read.length=b.Read.length
    ·rw[hl];simp only[kJ,kq,qBl a (by have:=ga.hi;omega),qFq a (by have:=ga.hi;omega),ks];obtain⟨r,h1,h2,h3⟩:=BN a b hl FUEL 0 a.Read (by have:=ga.hi;rw[wM];omega) (by omega) (by have:=ga.hi;omega) rfl (λ_ _=>rfl);have h1':zY a b FUEL 0 a.Read=some r:=h1;have h2':QH b FUEL 0 a.Read=some r:=h2;rw[h1',h2'];exact⟨_,rfl,rfl,by have:=ga.hi;show r.length<=1000;omega⟩
    ·have:((a.Read.length:Int) !=(b.Read.length:Int))=true:=by simp;omega
     rw[this];exact⟨_,rfl,rfl,kM _⟩
   ·have:(a.Z !=b.Z)=true:=by simp[hz]
    rw[this];exact⟨_,rfl,rfl,kM _⟩
  ·have:(yX b !=0)=true:=by simp[hb]
   rw[this];exact⟨_,rfl,rfl,kM _⟩
 ·have:(yX a !=0)=true:=by simp[ha]
  rw[this];exact⟨_,rfl,rfl,kM _⟩
end Saw
end Go.SL

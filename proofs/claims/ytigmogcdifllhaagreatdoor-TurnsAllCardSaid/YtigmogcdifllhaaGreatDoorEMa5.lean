/- Poly's plain mathematics, part 35: PolyChord, PolyWithin. -/
import Derived.Test.YtigmogcdifllhaaGreatDoorEMa4
import Derived.Test.YtigmogcdifllhaaGreatDoorEMa1
set_option linter.unusedVariables false
set_option linter.unusedSimpArgs false
namespace Go.SL
namespace Saw
theorem wG :FUEL=4611686018427387904:=by unfold FUEL;rfl
theorem qR {n:Int} (h1: -9223372036854775808<=n) (h2:n<=9223372036854775807):w64 n=n:=by
 unfold w64 IntKind.wrap;simp only[IntKind.bits,IntKind.signed,Bool.true_and];split
 ·rename_i h;have h':n % 2^64≥2^(64-1):=uw h;omega
 ·rename_i h;have h':¬n % 2^64≥2^(64-1):=λhh=>h (ka hh);omega
theorem zS {i:Int} {n:Nat} (h0:0<=i) (h1:i<(n:Int)):inb i n=true:=by unfold inb;exact ka ⟨h0,h1⟩
theorem NQ {b:Int} (h:b≠0):nz b=true:=by unfold nz;exact ka h
theorem qFX {n b:Nat} (h:n*b<=140737488355328):room n b=true:=by unfold room;exact ka h
theorem qQ1 (a:Int):CN a=some (decide (-600<=a)&&decide (a<=600)):=by
 unfold CN AV;by_cases h:a≥-600
 ·simp[h]
 ·simp[h]
def LS (p:qA):Bool:=(decide (-600<=p.X)&&decide (p.X<=600))&&(decide (-600<=p.Y)&&decide (p.Y<=600))
theorem qPV (p:qA):JY [p]=some (LS p):=by
 unfold JY;rw[wG];rw[show(4611686018427387904:Nat)=4611686018427387902+1+1 from rfl];unfold jD;have e1:w64 (0+1)=1:=by kernel_rfl
 have tail:jD [p] (4611686018427387902+1) 1=some (Sum.inr ()):=by
  unfold jD;simp
 have hi:inb 0 1=true:=by kernel_rfl
 simp only[ue,gg,kz,YP,e1,tail,hi,kp,gK,un];have h01:decide ((0:Int)<((1:Nat):Int))=true:=by decide
 rw[h01];simp only[kp,LS];by_cases h1:p.X< -600
 ·have g1:¬-600<=p.X:=by omega
  simp[h1,g1]
 ·have g1: -600<=p.X:=by omega
  by_cases h2:p.X>600
  ·have g2:¬p.X<=600:=by omega
   simp[h1,h2,g2]
  ·have g2:p.X<=600:=by omega
   by_cases h3:p.Y< -600
   ·have g3:¬-600<=p.Y:=by omega
    simp[h1,h2,h3,g3]
   ·have g3: -600<=p.Y:=by omega
    by_cases h4:p.Y>600
    ·have g4:¬p.Y<=600:=by omega
     simp[h1,h2,h3,h4,g4]
    ·have g4:p.Y<=600:=by omega
     simp[h1,h2,h3,h4,g1,g2,g3,g4]
def qDu (p:qA):Bool:=p.X==0&&(p.Y==0&&true)
def RN (r:qO):Int:=bif r.Ok&&!LS r.P then 9 else bif !r.Ok&&!qDu r.P then 19 else 0
def yN (l:List qO):Int:=match l with
 |[]=>0
 |r::l=>bif RN r==0 then yN l else RN r
def SY (c:Int):Int⊕Unit:=bif c==0 then .inr () else .inl c
theorem qI3 {α:Type} [Inhabited α] (l:List α) (x:Nat) (h:x<l.length):l.drop x=l.getD x daa::l.drop (x+1):=by
 rw[dW h,ki,ks h];rfl
theorem qJc (a:Ring):∀(n:Nat) (x:Nat),a.Read.length<x+n->x<=a.Read.length->a.Read.length<=1000->XA a n (x:Int)=some (SY (yN (a.Read.drop x)))
 |0,x,h1,h2,_=>by omega
 |n+1,x,h1,h2,h3=>by
  unfold XA;by_cases hx:x<a.Read.length
  ·have hd:=qI3 a.Read x hx;have ih:=qJc a n (x+1) (by omega) (by omega) h3;have e1:w64 ((x:Int)+1)=((x+1:Nat):Int):=by rw[qR (by omega) (by omega)];omega
   have c1:decide ((x:Int)<(a.Read.length:Int))=true:=ka (by omega);rw[c1,zS (by omega) (by omega),hd];simp only[kp,ko,qQ1,kg,MH,qAy,e1,ih,yN,RN,LS,qDu];generalize a.Read.getD x daa=r;cases r.Ok<;>cases (decide (-600<=r.P.X)&&decide (r.P.X<=600))<;>cases (decide (-600<=r.P.Y)&&decide (r.P.Y<=600))<;>cases (r.P.X==0&&(r.P.Y==0&&true))<;>simp[SY]
  ·have c1:decide ((x:Int)<(a.Read.length:Int))=false:=ke (by omega);rw[c1,uL (by omega)];rfl
theorem qKA (a:Ring):∀(n:Nat) (x:Nat),a.Read.length<x+n->x<=a.Read.length->a.Read.length<=1000->KL a n (x:Int)=some (SY (yN (a.Read.drop x)))
 |0,x,h1,h2,_=>by omega
 |n+1,x,h1,h2,h3=>by
  unfold KL;by_cases hx:x<a.Read.length
  ·have hd:=qI3 a.Read x hx;have ih:=qKA a n (x+1) (by omega) (by omega) h3;have e1:w64 ((x:Int)+1)=((x+1:Nat):Int):=by rw[qR (by omega) (by omega)];omega
   have c1:decide ((x:Int)<(a.Read.length:Int))=true:=ka (by omega);rw[c1,zS (by omega) (by omega),hd];simp only[kp,ko,qPV,kg,IZ,AM,e1,ih,yN,RN,qDu];generalize a.Read.getD x daa=r;cases r.Ok<;>cases LS r.P<;>cases (r.P.X==0&&(r.P.Y==0&&true))<;>simp[SY]
  ·have c1:decide ((x:Int)<(a.Read.length:Int))=false:=ke (by omega);rw[c1,uL (by omega)];rfl
def JL (a:Ring):Int:=
 bif decide ((a.Read.length:Int)<8) then 3 else bif decide ((a.Read.length:Int)>32) then 4 else bif decide (a.Z<0) then 9 else bif decide (a.Z>20000) then 9 else yN a.Read
theorem MC (a:Ring):LL a=some (JL a):=by
 unfold LL JL qAq;by_cases h1:(a.Read.length:Int)<8
 ·simp[h1]
 by_cases h2:(a.Read.length:Int)>32
 ·simp[h1,h2]
 have hl:=qJc a FUEL 0 (by rw[wG];omega) (by omega) (by omega);rw[uI] at hl;by_cases h3:a.Z<0
 ·simp[h1,h2,h3]
 by_cases h4:a.Z>20000
 ·simp[h1,h2,h3,h4]
 rw[ke h1,ke h2,ke h3,ke h4];have hl':XA a FUEL 0=some (SY (yN a.Read)):=hl;simp only[kr,hl',kg,SY];by_cases hc:yN a.Read=0
 ·rw[hc];rfl
 ·have hb:(yN a.Read==0)=false:=by simpa using hc
  rw[hb];rfl
theorem ER (a:Ring):DZ a=some (JL a):=by
 unfold DZ JL IS;by_cases h1:(a.Read.length:Int)<8
 ·simp[h1]
 by_cases h2:(a.Read.length:Int)>32
 ·simp[h1,h2]
 have hl:=qKA a FUEL 0 (by rw[wG];omega) (by omega) (by omega);rw[uI] at hl;by_cases h3:a.Z<0
 ·simp[h1,h2,h3]
 by_cases h4:a.Z>20000
 ·simp[h1,h2,h3,h4]
 rw[ke h1,ke h2,ke h3,ke h4];have hl':KL a FUEL 0=some (SY (yN a.Read)):=hl;simp only[kr,hl',kg,SY];by_cases hc:yN a.Read=0
 ·rw[hc];rfl
 ·have hb:(yN a.Read==0)=false:=by simpa using hc
  rw[hb];rfl
structure yH (a:Ring):Prop where
 lo:8<=a.Read.length
 hi:a.Read.length<=32
 z0:0<=a.Z
 z1:a.Z<=20000
 all:∀r∈a.Read,RN r=0
theorem qFZ :∀{l:List qO},yN l=0↔∀r∈l,RN r=0
 |[]=>by simp[yN]
 |r::l=>by
  simp only[yN,kN,forall_eq_or_imp];by_cases h:RN r=0
  ·simp[h,qFZ (l:=l)]
  ·have hb:(RN r==0)=false:=by simpa using h
   rw[hb];exact⟨λh'=>absurd h' h,λh'=>absurd h'.1 h⟩
theorem KP (a:Ring):JL a=0↔yH a:=by
 unfold JL;by_cases h1:(a.Read.length:Int)<8
 ·simp only[h1,decide_true,kp];exact⟨λh=>by omega,λh=>by have:=h.lo;omega⟩
 by_cases h2:(a.Read.length:Int)>32
 ·simp only[h1,h2,decide_true,decide_false,kp,kr];exact⟨λh=>by omega,λh=>by have:=h.hi;omega⟩
 by_cases h3:a.Z<0
 ·simp only[h1,h2,h3,decide_true,decide_false,kp,kr];exact⟨λh=>by omega,λh=>by have:=h.z0;omega⟩
 by_cases h4:a.Z>20000
 ·simp only[h1,h2,h3,h4,decide_true,decide_false,kp,kr];exact⟨λh=>by omega,λh=>by have:=h.z1;omega⟩
 simp only[h1,h2,h3,h4,decide_false,kr,qFZ];exact⟨λh=>⟨by omega,by omega,by omega,by omega,h⟩,λh=>h.all⟩
theorem qGm (a:Ring) (h:a.Read.length<=1000):qBZ a=some a:=by
 unfold qBZ QN;rw[qFX (by omega)];rfl
theorem qE2 (a:Ring) (h:a.Read.length<=1000):SH a=some a:=by
 unfold SH;rw[qFX (by omega)];rfl
def rg_okAt (a:Ring) (i:Nat):Bool:=(a.Read.getD i daa).Ok
def rg_meas (a:Ring):List Nat:=(List.range a.Read.length).filter (rg_okAt a)
def rg_Mi (a:Ring) (k:Nat):Nat:=(rg_meas a).getD k 0
def jO (l:List Nat):List Int:=List.map (λi:Nat=>(i:Int)) l
theorem JU (l:List Nat):(jO l).length=l.length:=by simp[jO]
theorem NN (l:List Nat) (k:Nat):(jO l).getD k daa=((l.getD k 0:Nat):Int):=by
 unfold jO;rw[ki,ki,kI];cases l[k]? <;>rfl
theorem wO (x:Nat) (h:x<=1000000):w64 ((x:Int)+1)=((x+1:Nat):Int):=by rw[qR (by omega) (by omega)];omega
theorem RB {x n:Nat} (h:x<n):decide ((x:Int)<((n:Nat):Int))=true:=ka (by omega)
theorem PR {x n:Nat} (h:¬x<n):decide ((x:Int)<((n:Nat):Int))=false:=ke (by omega)
theorem QB (a b:Nat):Int.tmod (a:Int) (b:Int)=((a % b:Nat):Int):=rfl
theorem qEI (a:Ring):∀(n x:Nat) (l:List Int),a.Read.length<x+n->x<=a.Read.length->a.Read.length<=1000->l.length<=x->
  WT a n l (x:Int)=some (l++jO ((List.range' x (a.Read.length-x)).filter (rg_okAt a)))
 |0,x,l,h1,h2,_,_=>by omega
 |n+1,x,l,h1,h2,h3,h4=>by
  unfold WT;by_cases hx:x<a.Read.length
  ·rw[RB hx,zS (by omega) (by omega),show a.Read.length-x=(a.Read.length-(x+1))+1 by omega,List.range'_succ,List.filter_cons,qFX (n:=l.length+1) (by omega)];simp only[kp,ko,LM,wO x (by omega)];rw[show(a.Read.getD x daa).Ok=rg_okAt a x from rfl];cases hk:rg_okAt a x with
   |true=>
    rw[kp,qEI a n (x+1) _ (by omega) (by omega) h3 (by simp;omega)];simp[jO]
   |false=>
    rw[kr,qEI a n (x+1) _ (by omega) (by omega) h3 (by omega)];simp
  ·rw[PR hx,show a.Read.length-x=0 by omega];simp[jO]
theorem qCn (a:Ring) (h:a.Read.length<=1000):GD a=some (jO (rg_meas a)):=by
 unfold GD;have:=qEI a FUEL 0 [] (by rw[wG];omega) (by omega) h (by simp);have h':WT a FUEL [] 0=some (jO (rg_meas a)):=by
  rw[show(0:Int)=((0:Nat):Int) from rfl,this,uj,kO,<-dP];rfl
 rw[h'];rfl
theorem qIO {a:Ring} {k:Nat} (h:k<(rg_meas a).length):(rg_meas a)[k]? =some (rg_Mi a k):=by
 unfold rg_Mi;rw[ki,ks h];rfl
theorem zW {a:Ring} {k:Nat} (h:k<(rg_meas a).length):rg_Mi a k<a.Read.length/\rg_okAt a (rg_Mi a k)=true:=by
 have:=gM (qIO h);unfold rg_meas at this;rw[List.mem_filter,uO] at this;exact this
theorem CT {a:Ring} {q:Nat} (h1:q<a.Read.length) (h2:rg_okAt a q=true):∃t,t<(rg_meas a).length/\rg_Mi a t=q:=by
 have hm:q∈rg_meas a:=by unfold rg_meas;rw[List.mem_filter,uO];exact⟨h1,h2⟩
 obtain⟨t,ht,he⟩:=uV.1 hm;exact⟨t,ht,by unfold rg_Mi;rw[ki,ks ht,he];rfl⟩
theorem qAV {a:Ring} {i j:Nat} (hij:i<j) (hj:j<(rg_meas a).length):rg_Mi a i<rg_Mi a j:=by
 have hp:(rg_meas a).Pairwise (·<·):=List.Pairwise.filter _ List.pairwise_lt_range;have h1:=dt.1 hp i j (by omega) hj hij;have e1:(rg_meas a)[i]'(by omega)=rg_Mi a i:=by unfold rg_Mi;rw[ki,ks (by omega)];rfl
 have e2:(rg_meas a)[j]=rg_Mi a j:=by unfold rg_Mi;rw[ki,ks hj];rfl
 rwa [e1,e2] at h1
theorem SZ {a:Ring} {i j:Nat} (hij:i<=j) (hj:j<(rg_meas a).length):rg_Mi a i<=rg_Mi a j:=by
 rcases Nat.lt_or_eq_of_le hij with h|rfl
 ·exact Nat.le_of_lt (qAV h hj)
 ·exact kq _
def rg_gap (a:Ring) (k:Nat):Nat:=if k+1<(rg_meas a).length then rg_Mi a (k+1)-rg_Mi a k-1 else rg_Mi a 0+a.Read.length-rg_Mi a k-1
theorem qJS (a:Ring) (h:a.Read.length<=1000) {k:Nat} (hk:k<(rg_meas a).length):CX a (jO (rg_meas a)) (k:Int)=some ((rg_gap a k:Nat):Int):=by
 have h0:=zW hk;have hl:(rg_meas a).length<=a.Read.length:=by unfold rg_meas;exact uz (dM _ _) (by simp)
 unfold CX rg_gap;rw[wO k (by omega),JU];by_cases hk1:k+1<(rg_meas a).length
 ·have h1:=zW hk1;have h2:=qAV (a:=a) (show k<k+1 by omega) hk1;rw[RB hk1,zS (by omega) (by omega),zS (by omega) (by omega),if_pos hk1];simp only[kp,ko,NN];rw[show(rg_meas a).getD (k+1) 0=rg_Mi a (k+1) from rfl,show(rg_meas a).getD k 0=rg_Mi a k from rfl];rw[qR (n:=((rg_Mi a (k+1):Nat):Int)-_) (by omega) (by omega),qR (by omega) (by omega)]
  congr 1
  omega
 ·have h1:=zW (a:=a) (k:=0) (by omega);have h2:=SZ (a:=a) (ud k) hk;rw[PR hk1,kr,zS (by omega) (by omega),zS (by omega) (by omega),if_neg hk1];simp only[kp,ko,gK,NN];rw[show(rg_meas a).getD 0 0=rg_Mi a 0 from rfl,show(rg_meas a).getD k 0=rg_Mi a k from rfl];rw[qR (n:=((rg_Mi a 0:Nat):Int)+_) (by omega) (by omega),qR (n:=((rg_Mi a 0:Nat):Int)+_-_) (by omega) (by omega),qR (by omega) (by omega)]
  congr 1
  omega
theorem zQ {x n:Nat} (h:x<n):x % n=x:=uW h
theorem QS {x n:Nat} (h1:n<=x) (h2:x<2*n):x % n=x-n:=by
 rw[Nat.mod_eq_sub_mod h1,uW (by omega)]
theorem KY {a:Ring} {k:Nat} (hk:k<(rg_meas a).length):rg_gap a k+1<=a.Read.length:=by
 have h0:=zW hk;unfold rg_gap;split
 ·rename_i h;have:=zW h;omega
 ·have:=SZ (a:=a) (ud k) hk;omega
theorem LY {a:Ring} {k d:Nat} (hk:k<(rg_meas a).length) (h1:1<=d) (h2:d<=rg_gap a k):rg_okAt a ((rg_Mi a k+d) % a.Read.length)=false:=by
 have h0:=zW hk;have hg:=KY hk;cases ho:rg_okAt a ((rg_Mi a k+d) % a.Read.length) with
 |false=>rfl
 |true=>
  obtain⟨t,ht,he⟩:=CT (kT _ (by omega)) ho;unfold rg_gap at h2;split at h2
  ·rename_i hk1;have h3:=zW hk1;rw[zQ (by omega)] at he;rcases uZ t (k+1) with h|h
   ·have:=SZ (a:=a) (show t<=k by omega) hk;omega
   ·have:=SZ (a:=a) h ht;omega
  ·rename_i hk1;have ht':=SZ (a:=a) (show t<=k by omega) hk;have hz:=SZ (a:=a) (ud t) ht;by_cases hc:rg_Mi a k+d<a.Read.length
   ·rw[zQ hc] at he;omega
   ·rw[QS (by omega) (by omega)] at he;omega
theorem CM {a:Ring} {k:Nat} (hk:k<(rg_meas a).length):(rg_Mi a k+(rg_gap a k+1)) % a.Read.length=rg_Mi a ((k+1) % (rg_meas a).length):=by
 have h0:=zW hk;unfold rg_gap;split
 ·rename_i hk1;have h3:=zW hk1;have h4:=qAV (a:=a) (show k<k+1 by omega) hk1;rw[zQ hk1,show rg_Mi a k+(rg_Mi a (k+1)-rg_Mi a k-1+1)=rg_Mi a (k+1) by omega,zQ h3.1]
 ·rename_i hk1;have hz:=zW (a:=a) (k:=0) (by omega);have hle:=SZ (a:=a) (ud k) hk;rw[show k+1=(rg_meas a).length by omega,Nat.mod_self,show rg_Mi a k+(rg_Mi a 0+a.Read.length-rg_Mi a k-1+1)=rg_Mi a 0+a.Read.length by omega,uN,zQ hz.1]
theorem qIz (a:Ring) (q:Nat):∀(m j:Nat),(rg_meas a).length=j+m->1<=m->rg_Mi a j<q->∃k,k<(rg_meas a).length/\rg_Mi a k<q/\(k+1<(rg_meas a).length->q<=rg_Mi a (k+1))
 |0,_,_,h,_=>by omega
 |m+1,j,hm,_,hj=>by
  by_cases h:j+1<(rg_meas a).length
  ·by_cases hq:rg_Mi a (j+1)<q
   ·exact qIz a q m (j+1) (by omega) (by omega) hq
   ·exact⟨j,by omega,hj,λ_=>by omega⟩
  ·exact⟨j,by omega,hj,λh'=>absurd h' h⟩
theorem qPD {a:Ring} {q:Nat} (hm:1<=(rg_meas a).length) (hq:q<a.Read.length) (ho:rg_okAt a q=false):∃k d,k<(rg_meas a).length/\1<=d/\d<=rg_gap a k/\(rg_Mi a k+d) % a.Read.length=q:=by
 have hne:∀t,t<(rg_meas a).length->rg_Mi a t≠q:=λt ht he=>by
  have:=(zW ht).2;rw[he,ho] at this;cases this
 by_cases h0:rg_Mi a 0<q
 ·obtain⟨k,hk,h1,h2⟩:=qIz a q (rg_meas a).length 0 (by omega) hm h0;refine⟨k,q-rg_Mi a k,hk,by omega,?_,by rw[show rg_Mi a k+(q-rg_Mi a k)=q by omega,zQ hq]⟩;unfold rg_gap;split
  ·rename_i hk1;have:=hne (k+1) hk1;have:=h2 hk1;omega
  ·omega
 ·have hne0:=hne 0 (by omega);have hlast:(rg_meas a).length-1<(rg_meas a).length:=by omega
  have hl:=zW (a:=a) hlast;have hle:=SZ (a:=a) (ud ((rg_meas a).length-1)) hlast;refine⟨(rg_meas a).length-1,q+a.Read.length-rg_Mi a ((rg_meas a).length-1),hlast,by omega,?_,?_⟩
  ·unfold rg_gap;rw[if_neg (by omega)];omega
  ·rw[show rg_Mi a ((rg_meas a).length-1)+(q+a.Read.length-rg_Mi a ((rg_meas a).length-1))=q+a.Read.length by omega,uN,zQ hq]
theorem qKv (x y:Nat):imax (x:Int) (y:Int)=((max x y:Nat):Int):=by
 unfold imax;split<;>omega
theorem qDR (a:Ring) (h:a.Read.length<=1000):∀(n x mx:Nat),(rg_meas a).length<x+n->x<=(rg_meas a).length->
  ∃R:Nat,BW a (jO (rg_meas a)) n (mx:Int) (x:Int)=some (R:Int)/\mx<=R/\(∀k,x<=k->k<(rg_meas a).length->rg_gap a k<=R)/\(R=mx\/∃k,k<(rg_meas a).length/\R=rg_gap a k)
 |0,x,mx,h1,h2=>by omega
 |n+1,x,mx,h1,h2=>by
  have hl:(rg_meas a).length<=a.Read.length:=by unfold rg_meas;exact uz (dM _ _) (by simp)
  unfold BW;rw[JU];by_cases hx:x<(rg_meas a).length
  ·rw[RB hx,qJS a h hx];simp only[kp,kg,qKv,wO x (by omega)];obtain⟨R,e,h3,h4,h5⟩:=qDR a h n (x+1) (max mx (rg_gap a x)) (by omega) (by omega);refine⟨R,e,by omega,λk hk1 hk2=>?_,?_⟩
   ·rcases uZ x k with hk|hk
    ·exact h4 k hk hk2
    ·obtain rfl:k=x:=by omega
     omega
   ·rcases h5 with h5|h5
    ·rcases Nat.le_total mx (rg_gap a x) with hg|hg
     ·exact .inr ⟨x,hx,by omega⟩
     ·exact .inl (by omega)
    ·exact .inr h5
  ·rw[PR hx];exact⟨mx,rfl,kq _,λk hk1 hk2=>by omega,.inl rfl⟩
theorem qCW (a:Ring) (h:a.Read.length<=1000) (q r:Nat) (hq:q<a.Read.length) (hr:r<=a.Read.length) (h1:∀d,d<r->rg_okAt a ((q+d) % a.Read.length)=false) (h2:r=a.Read.length\/rg_okAt a ((q+r) % a.Read.length)=true):
  ∀(n x:Nat),r<x+n->x<=r->yT a (q:Int) n (x:Int)=some (r:Int)
 |0,x,h3,h4=>by omega
 |n+1,x,h3,h4=>by
  unfold yT;by_cases hx:x<a.Read.length
  ·have e:w64 ((q:Int)+(x:Int))=((q+x:Nat):Int):=by rw[qR (by omega) (by omega)];omega
   have hm:(q+x) % a.Read.length<a.Read.length:=kT _ (by omega);rw[RB hx,NQ (by omega),e,QB,zS (by omega) (by omega)];simp only[kp,ko,qAL,wO x (by omega)];rw[show(a.Read.getD ((q+x) % a.Read.length) daa).Ok=rg_okAt a ((q+x) % a.Read.length) from rfl];by_cases hxr:x<r
   ·rw[h1 x hxr];exact qCW a h q r hq hr h1 h2 n (x+1) (by omega) (by omega)
   ·obtain rfl:x=r:=by omega
    rcases h2 with h2|h2
    ·omega
    ·rw[h2];rfl
  ·rw[PR hx];obtain rfl:x=r:=by omega
   rfl
theorem qAS (a:Ring) (h:a.Read.length<=1000) (run:Nat->Nat) (hrun:∀q,q<a.Read.length->rg_okAt a q=false->yT a (q:Int) FUEL 0=some ((run q:Nat):Int)):∀(n x c mx:Nat),a.Read.length<x+n->x<=a.Read.length->c<=x->
  ∃R:Nat,RW a n (c:Int) (mx:Int) (x:Int)=some (((c+(List.range' x (a.Read.length-x)).countP (λi=>!rg_okAt a i):Nat):Int),(R:Int))/\mx<=R/\(∀q,x<=q->q<a.Read.length->rg_okAt a q=false->run q<=R)/\(R=mx\/∃q,q<a.Read.length/\rg_okAt a q=false/\R=run q)
 |0,x,c,mx,h1,h2,_=>by omega
 |n+1,x,c,mx,h1,h2,hc=>by
  unfold RW;by_cases hx:x<a.Read.length
  ·rw[RB hx,zS (by omega) (by omega),show a.Read.length-x=(a.Read.length-(x+1))+1 by omega,List.range'_succ,List.countP_cons];simp only[kp,ko,qAu,wO x (by omega),wO c (by omega)];rw[show(a.Read.getD x daa).Ok=rg_okAt a x from rfl];cases ho:rg_okAt a x with
   |true=>
    obtain⟨R,e,h3,h4,h5⟩:=qAS a h run hrun n (x+1) c mx (by omega) (by omega) (by omega);refine⟨R,by rw[kp,e];simp,h3,λq hq1 hq2 hq3=>?_,h5⟩;rcases uZ x q with hk|hk
    ·exact h4 q hk hq2 hq3
    ·obtain rfl:q=x:=by omega
     rw[ho] at hq3;cases hq3
   |false=>
    obtain⟨R,e,h3,h4,h5⟩:=qAS a h run hrun n (x+1) (c+1) (max mx (run x)) (by omega) (by omega) (by omega);refine⟨R,?_,by omega,λq hq1 hq2 hq3=>?_,?_⟩
    ·rw[kr,hrun x hx ho];simp only[kg,qKv,e,uC,if_true]
     congr 3
     omega
    ·rcases uZ x q with hk|hk
     ·exact h4 q hk hq2 hq3
     ·obtain rfl:q=x:=by omega
      omega
    ·rcases h5 with h5|h5
     ·rcases Nat.le_total mx (run x) with hg|hg
      ·exact .inr ⟨x,hx,ho,by omega⟩
      ·exact .inl (by omega)
     ·exact .inr h5
  ·rw[PR hx,show a.Read.length-x=0 by omega];exact⟨mx,by simp,kq _,λq h1 h2=>by omega,.inl rfl⟩
theorem qXe (a:Ring) (h:a.Read.length<=1000) (q:Nat) (hq:q<a.Read.length) (ho:rg_okAt a q=false):
  ∃r,yT a (q:Int) FUEL 0=some ((r:Nat):Int)/\(((rg_meas a).length=0/\r=a.Read.length)\/∃k d,k<(rg_meas a).length/\1<=d/\d<=rg_gap a k/\(rg_Mi a k+d) % a.Read.length=q/\r=rg_gap a k+1-d):=by
 by_cases hm:(rg_meas a).length=0
 ·refine⟨a.Read.length,qCW a h q _ hq (kq _) (λd _=>?_) (.inl rfl) FUEL 0 (by rw[wG];omega) (by omega),.inl ⟨hm,rfl⟩⟩;cases ho:rg_okAt a ((q+d) % a.Read.length) with
  |false=>rfl
  |true=>
   obtain⟨t,ht,_⟩:=CT (kT _ (by omega)) ho;omega
 ·obtain⟨k,d,hk,h1,h2,h3⟩:=qPD (by omega) hq ho;have hg:=KY hk;have hs:∀e,(q+e) % a.Read.length=(rg_Mi a k+(d+e)) % a.Read.length:=λe=>by rw[<-h3,gv,uX]
  refine⟨rg_gap a k+1-d,qCW a h q _ hq (by omega) (λe he=>?_) (.inr ?_) FUEL 0 (by rw[wG];omega) (by omega),.inr ⟨k,d,hk,h1,h2,h3,rfl⟩⟩
  ·rw[hs];exact LY hk (by omega) (by omega)
  ·rw[hs,show d+(rg_gap a k+1-d)=rg_gap a k+1 by omega,CM hk];exact(zW (kT _ (by omega))).2
theorem qLq (a:Ring):(rg_meas a).length+(List.range' 0 a.Read.length).countP (λi=>!rg_okAt a i)=a.Read.length:=by
 have:=List.length_eq_countP_add_countP (rg_okAt a) (l:=List.range a.Read.length);rw[uc] at this;rw[<-dP];unfold rg_meas;rw[<-List.countP_eq_length_filter];have e:(List.range a.Read.length).countP (λi=>!rg_okAt a i)=(List.range a.Read.length).countP (λi=>decide ¬rg_okAt a i=true):=by
  congr 1
  funext i
  cases rg_okAt a i<;>rfl
 rw[e];omega
theorem qEA (a:Ring) (h:a.Read.length<=1000):∃L:Nat,qDw a=some (((a.Read.length-(rg_meas a).length:Nat):Int),(L:Int))/\OF a=some (((a.Read.length-(rg_meas a).length:Nat):Int),(L:Int)):=by
 have hl:(rg_meas a).length<=a.Read.length:=by unfold rg_meas;exact uz (dM _ _) (by simp)
 have hc:=qLq a;have hex:∀q,∃r,q<a.Read.length->rg_okAt a q=false->yT a (q:Int) FUEL 0=some ((r:Nat):Int)/\(((rg_meas a).length=0/\r=a.Read.length)\/∃k d,k<(rg_meas a).length/\1<=d/\d<=rg_gap a k/\(rg_Mi a k+d) % a.Read.length=q/\r=rg_gap a k+1-d):=λq=>by
  by_cases hq:q<a.Read.length/\rg_okAt a q=false
  ·obtain⟨r,hr⟩:=qXe a h q hq.1 hq.2;exact⟨r,λ_ _=>hr⟩
  ·exact⟨0,λh1 h2=>absurd ⟨h1,h2⟩ hq⟩
 obtain⟨run,hrun⟩:∃f:Nat->Nat,∀q,q<a.Read.length->rg_okAt a q=false->yT a (q:Int) FUEL 0=some ((f q:Nat):Int)/\(((rg_meas a).length=0/\f q=a.Read.length)\/∃k d,k<(rg_meas a).length/\1<=d/\d<=rg_gap a k/\(rg_Mi a k+d) % a.Read.length=q/\f q=rg_gap a k+1-d):=
  ⟨λq=>Classical.choose (hex q),λq=>Classical.choose_spec (hex q)⟩
 obtain⟨R2,e2,_,g2,t2⟩:=qAS a h run (λq h1 h2=>(hrun q h1 h2).1) FUEL 0 0 0 (by rw[wG];omega) (by omega) (by omega);have e2':OF a=some (((a.Read.length-(rg_meas a).length:Nat):Int),(R2:Int)):=by
  unfold OF;have e3:RW a FUEL 0 0 0=some (((a.Read.length-(rg_meas a).length:Nat):Int),(R2:Int)):=by
   rw[kO,kz] at e2;rw[show a.Read.length-(rg_meas a).length=(List.range' 0 a.Read.length).countP (λi=>!rg_okAt a i) by omega];exact e2
  rw[e3];rfl
 have hw:w64 ((a.Read.length:Int)-((rg_meas a).length:Int))=((a.Read.length-(rg_meas a).length:Nat):Int):=by
  rw[qR (by omega) (by omega)];omega
 unfold qDw;rw[qCn a h];simp only[kg,JU];by_cases hm:(rg_meas a).length=0
 ·have:(((rg_meas a).length:Int)==0)=true:=by simp[hm]
  rw[this,kp,hw];have hR:R2=a.Read.length-(rg_meas a).length:=by
   rw[hm,kO];by_cases hn:a.Read.length=0
   ·rcases t2 with t|⟨q,hq,_⟩<;>omega
   ·have ho:rg_okAt a 0=false:=by
     cases ho:rg_okAt a 0 with
     |false=>rfl
     |true=>
      obtain⟨t,ht,_⟩:=CT (a:=a) (q:=0) (by omega) ho;omega
    have h1:=g2 0 (kq _) (by omega) ho;have rg_val:∀q,q<a.Read.length->rg_okAt a q=false->run q=a.Read.length:=λq h1 h2=>by
     rcases(hrun q h1 h2).2 with⟨_,h3⟩|⟨k,d,hk,_⟩
     ·exact h3
     ·omega
    rw[rg_val 0 (by omega) ho] at h1;rcases t2 with t|⟨q,h3,h4,t⟩
    ·omega
    ·rw[t,rg_val q h3 h4]
  exact⟨R2,by rw[hR],e2'⟩
 ·have:(((rg_meas a).length:Int)==0)=false:=kC.2 (by omega);rw[this,kr,hw];obtain⟨R1,e1,_,g1,t1⟩:=qDR a h FUEL 0 0 (by rw[wG];omega) (by omega);have e1':BW a (jO (rg_meas a)) FUEL 0 0=some (R1:Int):=e1;rw[e1'];have hR:R1=R2:=by
   apply Nat.le_antisymm
   ·rcases t1 with t|⟨k,hk,t⟩
    ·omega
    ·by_cases hz:rg_gap a k=0
     ·omega
     ·have hg:=KY hk;have ho:=LY hk (kq 1) (by omega);have hq:(rg_Mi a k+1) % a.Read.length<a.Read.length:=kT _ (by omega);have h1:=g2 _ (ud _) hq ho;have hv:yT a (((rg_Mi a k+1) % a.Read.length:Nat):Int) FUEL 0=some ((rg_gap a k:Nat):Int):=by
       have hs:∀e,((rg_Mi a k+1) % a.Read.length+e) % a.Read.length=(rg_Mi a k+(1+e)) % a.Read.length:=λe=>by rw[gv,uX]
       refine qCW a h _ _ hq (by omega) (λe he=>?_) (.inr ?_) FUEL 0 (by rw[wG];omega) (by omega)
       ·rw[hs];exact LY hk (by omega) (by omega)
       ·rw[hs,show 1+rg_gap a k=rg_gap a k+1 by omega,CM hk];exact(zW (kT _ (by omega))).2
      have h2:=(hrun _ hq ho).1;rw[hv] at h2;have h3:rg_gap a k=run ((rg_Mi a k+1) % a.Read.length):=by
       have:=kQ h2;omega
      omega
   ·rcases t2 with t|⟨q,h3,h4,t⟩
    ·omega
    ·rcases(hrun q h3 h4).2 with⟨h5,_⟩|⟨k,d,hk,hd1,hd2,_,hr⟩
     ·omega
     ·have:=g1 k (ud _) hk;omega
  exact⟨R2,by rw[hR];rfl,e2'⟩
end Saw
end Go.SL

set_option linter.unusedSectionVars false
namespace Go.SL
namespace Saw
theorem TC (a:Ring):(rg_meas a).length<=a.Read.length:=by unfold rg_meas;exact uz (dM _ _) (by simp)
theorem qFi (a:Ring) (h:a.Read.length<=1000) {k:Nat} (hk:k<(rg_meas a).length):∀(n c:Nat),1<=c->c<=rg_gap a k+1->rg_gap a k+1<c+n->
  RS a.Read 1 n (((rg_Mi a k+c) % a.Read.length:Nat):Int)=some ((rg_Mi a ((k+1) % (rg_meas a).length):Nat):Int)
 |0,c,h1,h2,h3=>by omega
 |n+1,c,h1,h2,h3=>by
  have h0:=zW hk;have hlt:(rg_Mi a k+c) % a.Read.length<a.Read.length:=kT _ (by omega);unfold RS;rw[zS (by omega) (by omega),NQ (by omega)];simp only[kp,ko];rw[show(a.Read.getD ((rg_Mi a k+c) % a.Read.length) daa).Ok=rg_okAt a ((rg_Mi a k+c) % a.Read.length) from rfl];by_cases hc:c=rg_gap a k+1
  ·subst hc;rw[CM hk,(zW (kT _ (by omega))).2];rfl
  ·rw[LY hk h1 (by omega)];have e:w64 (w64 ((((rg_Mi a k+c) % a.Read.length:Nat):Int)+1)+(a.Read.length:Int))=(((rg_Mi a k+c) % a.Read.length+1+a.Read.length:Nat):Int):=by
    rw[qR (n:=_+1) (by omega) (by omega),qR (by omega) (by omega)];omega
   rw[e,QB,uN,gv,uX];exact qFi a h hk n (c+1) (by omega) (by omega) (by omega)
theorem qFv (a:Ring) (h:a.Read.length<=1000) {k:Nat} (hk:k<(rg_meas a).length):∀(n c:Nat),c<=rg_gap a k->c<n->
  RS a.Read (-1) n (((rg_Mi a k+c) % a.Read.length:Nat):Int)=some ((rg_Mi a k:Nat):Int)
 |0,c,h1,h2=>by omega
 |n+1,c,h1,h2=>by
  have h0:=zW hk;have hg:=KY hk;have hlt:(rg_Mi a k+c) % a.Read.length<a.Read.length:=kT _ (by omega);unfold RS;rw[zS (by omega) (by omega),NQ (by omega)];simp only[kp,ko];rw[show(a.Read.getD ((rg_Mi a k+c) % a.Read.length) daa).Ok=rg_okAt a ((rg_Mi a k+c) % a.Read.length) from rfl];by_cases hc:c=0
  ·subst hc;rw[ug,zQ h0.1,h0.2];rfl
  ·rw[LY hk (by omega) h1];have e:w64 (w64 ((((rg_Mi a k+c) % a.Read.length:Nat):Int)+ -1)+(a.Read.length:Int))=(((rg_Mi a k+c) % a.Read.length+(a.Read.length-1):Nat):Int):=by
    rw[qR (n:=_+ -1) (by omega) (by omega),qR (by omega) (by omega)];omega
   rw[e,QB,gv,show rg_Mi a k+c+(a.Read.length-1)=rg_Mi a k+(c-1)+a.Read.length by omega,uN];exact qFv a h hk n (c-1) (by omega) (by omega)
theorem qLU (a:Ring) (h:a.Read.length<=1000) {k d:Nat} (hk:k<(rg_meas a).length) (hd:d<=rg_gap a k):
  YN a.Read (((rg_Mi a k+d) % a.Read.length:Nat):Int) 1=some ((rg_Mi a ((k+1) % (rg_meas a).length):Nat):Int):=by
 have h0:=zW hk;have hlt:(rg_Mi a k+d) % a.Read.length<a.Read.length:=kT _ (by omega);have hg:=KY hk;unfold YN;rw[NQ (by omega)];have e:w64 (w64 ((((rg_Mi a k+d) % a.Read.length:Nat):Int)+1)+(a.Read.length:Int))=(((rg_Mi a k+d) % a.Read.length+1+a.Read.length:Nat):Int):=by
  rw[qR (n:=_+1) (by omega) (by omega),qR (by omega) (by omega)];omega
 rw[e,QB,uN,gv,uX,qFi a h hk FUEL (d+1) (by omega) (by omega) (by rw[wG];omega)];rfl
theorem qMu (a:Ring) (h:a.Read.length<=1000) {k d:Nat} (hk:k<(rg_meas a).length) (h1:1<=d) (hd:d<=rg_gap a k+1):
  YN a.Read (((rg_Mi a k+d) % a.Read.length:Nat):Int) (-1)=some ((rg_Mi a k:Nat):Int):=by
 have h0:=zW hk;have hlt:(rg_Mi a k+d) % a.Read.length<a.Read.length:=kT _ (by omega);have hg:=KY hk;unfold YN;rw[NQ (by omega)];have e:w64 (w64 ((((rg_Mi a k+d) % a.Read.length:Nat):Int)+ -1)+(a.Read.length:Int))=(((rg_Mi a k+d) % a.Read.length+(a.Read.length-1):Nat):Int):=by
  rw[qR (n:=_+ -1) (by omega) (by omega),qR (by omega) (by omega)];omega
 rw[e,QB,gv,show rg_Mi a k+d+(a.Read.length-1)=rg_Mi a k+(d-1)+a.Read.length by omega,uN,qFv a h hk FUEL (d-1) (by omega) (by rw[wG];omega)];rfl
theorem qVb (a:Ring) (h:a.Read.length<=1000) {k:Nat} (hk:k<(rg_meas a).length):YN a.Read ((rg_Mi a k:Nat):Int) 1=some ((rg_Mi a ((k+1) % (rg_meas a).length):Nat):Int):=by
 have:=qLU a h hk (ud (rg_gap a k))
 rwa [ug,zQ (zW hk).1] at this
theorem qVo (a:Ring) (h:a.Read.length<=1000) {k:Nat} (hk:k<(rg_meas a).length):YN a.Read ((rg_Mi a k:Nat):Int) (-1)=some ((rg_Mi a ((k+((rg_meas a).length-1)) % (rg_meas a).length):Nat):Int):=by
 have hk':(k+((rg_meas a).length-1)) % (rg_meas a).length<(rg_meas a).length:=kT _ (by omega);have:=qMu a h hk' (show 1<=rg_gap a _+1 by omega) (kq _);rw[CM hk',gv,show k+((rg_meas a).length-1)+1=k+(rg_meas a).length by omega,uN,zQ hk] at this;exact this
def rg_farB (p q:qA) (r:Int):Bool:=decide (w64 (p.X-q.X)>r)||(decide (w64 (q.X-p.X)>r)||(decide (w64 (p.Y-q.Y)>r)||decide (w64 (q.Y-p.Y)>r)))
theorem qMx (x y r:Int):decide (imax x y>r)=(decide (x>r)||decide (y>r)):=by
 unfold imax;by_cases h1:x>r<;>by_cases h2:y>r<;>by_cases h3:y>x<;>simp[h1,h2,h3]<;>omega
theorem qWl (p q:qA) (r:Int):qIk p q r=some (rg_farB p q r):=by
 unfold qIk qC5 rg_farB;rw[qMx,qMx];cases decide (w64 (p.X-q.X)>r)<;>cases decide (w64 (q.X-p.X)>r)<;>simp
theorem qTB (p q:qA) (r:Int):CC p q r=some (rg_farB p q r):=by
 unfold CC TQ rg_farB;cases decide (w64 (p.X-q.X)>r)<;>cases decide (w64 (q.X-p.X)>r)<;>cases decide (w64 (p.Y-q.Y)>r)<;>simp
def rg_Pt (a:Ring) (i:Nat):qA:=(a.Read.getD i daa).P
def rg_nb (a:Ring) (k e:Nat):Nat:=rg_Mi a ((k+e) % (rg_meas a).length)
def rg_Ek (a:Ring) (r:Int) (k:Nat):Bool:=rg_farB (rg_Pt a (rg_Mi a k)) (rg_Pt a (rg_nb a k ((rg_meas a).length-1))) r&&rg_farB (rg_Pt a (rg_Mi a k)) (rg_Pt a (rg_nb a k 1)) r
def rg_dropB (a:Ring) (r:Int) (q:Nat):Bool:=(List.range (rg_meas a).length).any λk=>decide (rg_Mi a k=q)&&rg_Ek a r k
theorem qO0 {a:Ring} {i j:Nat} (hi:i<(rg_meas a).length) (hj:j<(rg_meas a).length) (h:rg_Mi a i=rg_Mi a j):i=j:=by
 rcases Nat.lt_trichotomy i j with h1|h1|h1
 ·have:=qAV h1 hj;omega
 ·exact h1
 ·have:=qAV h1 hi;omega
theorem qKG {a:Ring} {r:Int} {k:Nat} (hk:k<(rg_meas a).length):rg_dropB a r (rg_Mi a k)=rg_Ek a r k:=by
 unfold rg_dropB;cases he:rg_Ek a r k with
 |true=>
  rw[gZ];exact⟨k,uO.2 hk,by simp[he]⟩
 |false=>
  rw[List.any_eq_false];intro j hj;have hj':=uO.1 hj;by_cases h:rg_Mi a j=rg_Mi a k
  ·rw[qO0 hj' hk h,he];simp
  ·simp[h]
def qHV :qO:=qO.mk (qA.mk 0 0) false
def GP (a:Ring) (r:Int) (l:List qO) (i:Nat):List qO:=bif rg_dropB a r i then l.set i qHV else l
theorem qD7 (a:Ring) (r:Int) (l:List qO) (i:Nat):(GP a r l i).length=l.length:=by
 unfold GP;cases rg_dropB a r i<;>simp
theorem qFE (a:Ring) (r:Int):∀(m:List Nat) (l:List qO),(m.foldl (GP a r) l).length=l.length
 |[],_=>rfl
 |i::m,l=>by rw[uR,qFE a r m,qD7]
section
variable (a :Ring) (r:Int) (h:a.Read.length<=1000)
include h
theorem qWZ (k n:Nat) (b:Bool):QX a r (jO (rg_meas a)) (k:Int) (n+1) b 2=some b:=by
 rw[QX];rfl
theorem qMb (k n:Nat) (hk:k<(rg_meas a).length) (b:Bool) (x x1:Int) (e:Nat) (hx:decide (x<2)=true) (hx2:inb x 2=true) (hx1:w64 (x+1)=x1)
  (he:w64 (w64 ((k:Int)+((rg_meas a).length:Int))+([-1,1]:List Int).getD x.toNat 0)=((k+e:Nat):Int)):
  QX a r (jO (rg_meas a)) (k:Int) (n+1) b x=QX a r (jO (rg_meas a)) (k:Int) n (b&&rg_farB (rg_Pt a (rg_Mi a k)) (rg_Pt a (rg_nb a k e)) r) x1:=by
 have hk':(k+e) % (rg_meas a).length<(rg_meas a).length:=kT _ (by omega);have h1:=zW hk';have h0:=zW hk;rw[QX,hx,hx2,JU,he,NQ (by omega),QB,zS (by omega) (by omega)];simp only[kp,ko,NN];rw[show(rg_meas a).getD ((k+e) % (rg_meas a).length) 0=rg_nb a k e from rfl,show(rg_meas a).getD k 0=rg_Mi a k from rfl,zS (show 0<=((rg_nb a k e:Nat):Int) by omega) (by unfold rg_nb;omega),zS (show 0<=((rg_Mi a k:Nat):Int) by omega) (by omega)];simp only[kp,ko,qWl,kg,qAl,hx1];cases b<;>rfl
theorem qYv (k:Nat) (hk:k<(rg_meas a).length):QX a r (jO (rg_meas a)) (k:Int) FUEL true 0=some (rg_Ek a r k):=by
 have hl:=TC a;rw[wG,show(4611686018427387904:Nat)=4611686018427387901+1+1+1 from rfl];rw[qMb a r h k _ hk true 0 1 ((rg_meas a).length-1) (by decide) (by decide) (by kernel_rfl) (by
  rw[show([-1,1]:List Int).getD (0:Int).toNat 0= -1 from rfl,qR (n:=(k:Int)+_) (by omega) (by omega),qR (by omega) (by omega)];omega)]
 rw[qMb a r h k _ hk _ 1 2 ((rg_meas a).length+1) (by decide) (by decide) (by kernel_rfl) (by
  rw[show([-1,1]:List Int).getD (1:Int).toNat 0=1 from rfl,qR (n:=(k:Int)+_) (by omega) (by omega),qR (by omega) (by omega)];omega)]
 rw[qWZ a r h];have e:rg_nb a k ((rg_meas a).length+1)=rg_nb a k 1:=by
  unfold rg_nb;rw[show k+((rg_meas a).length+1)=k+1+(rg_meas a).length by omega,uN]
 rw[e];simp[rg_Ek]
theorem qIG :∀(n x:Nat) (l:List qO),(rg_meas a).length<x+n->x<=(rg_meas a).length->l.length=a.Read.length->
  RP a r (jO (rg_meas a)) n (x:Int) l=some (((rg_meas a).drop x).foldl (GP a r) l)
 |0,x,l,h1,h2,_=>by omega
 |n+1,x,l,h1,h2,h3=>by
  have hl:=TC a;unfold RP;rw[JU];by_cases hx:x<(rg_meas a).length
  ·have h0:=zW hx;rw[RB hx,zS (by omega) (by omega),qYv a r h x hx,dW hx,uR];have hg:(rg_meas a)[x]=rg_Mi a x:=by have:=qIO hx;rw[ks hx] at this;exact kQ this
   rw[hg];simp only[kp,kg,ko,NN,qAP,wO x (by omega)];rw[show(rg_meas a).getD x 0=rg_Mi a x from rfl,zS (show 0<=((rg_Mi a x:Nat):Int) by omega) (by omega)];simp only[kp,ko];have ih:=qIG n (x+1) (GP a r l (rg_Mi a x)) (by omega) (by omega) (by rw[qD7];exact h3);rw[<-ih];unfold GP;rw[qKG hx];cases rg_Ek a r x<;>rfl
  ·rw[PR hx,uL (by omega)];rfl
theorem OW :∀(n x:Nat) (l:List qO),a.Read.length<x+n->x<=a.Read.length->l.length=a.Read.length->
  JF a r n (x:Int) l=some ((List.range' x (a.Read.length-x)).foldl (λl i=>if rg_okAt a i=true then GP a r l i else l) l)
 |0,x,l,h1,h2,_=>by omega
 |n+1,x,l,h1,h2,h3=>by
  unfold JF;by_cases hx:x<a.Read.length
  ·rw[RB hx,zS (by omega) (by omega),show a.Read.length-x=(a.Read.length-(x+1))+1 by omega,List.range'_succ,uR];simp only[kp,ko,OJ,NT,wO x (by omega)];rw[show(a.Read.getD x daa).Ok=rg_okAt a x from rfl];cases ho:rg_okAt a x with
   |false=>exact OW n (x+1) l (by omega) (by omega) h3
   |true=>
    obtain⟨k,hk,hkx⟩:=CT hx ho;subst hkx;have hp:(k+((rg_meas a).length-1)) % (rg_meas a).length<(rg_meas a).length:=kT _ (by omega);have hn:(k+1) % (rg_meas a).length<(rg_meas a).length:=kT _ (by omega);have h4:=zW hp;have h5:=zW hn;rw[qVb a h hk,qVo a h hk];simp only[kG,kr,kg,ko];rw[zS (show 0<=((rg_Mi a ((k+((rg_meas a).length-1)) % (rg_meas a).length):Nat):Int) by omega) (by omega),zS (show 0<=((rg_Mi a ((k+1) % (rg_meas a).length):Nat):Int) by omega) (by omega),zS (show 0<=((rg_Mi a k:Nat):Int) by omega) (by omega)];simp only[kp,qTB,kg,if_true]
    have ih:=OW n (rg_Mi a k+1) (GP a r l (rg_Mi a k)) (by omega) (by omega) (by rw[qD7];exact h3);rw[<-ih];unfold GP;rw[qKG hk];unfold rg_Ek rg_nb;rw[show(a.Read.getD (rg_Mi a k) daa).P=rg_Pt a (rg_Mi a k) from rfl,show(a.Read.getD (rg_Mi a ((k+((rg_meas a).length-1)) % (rg_meas a).length)) daa).P=rg_Pt a (rg_Mi a ((k+((rg_meas a).length-1)) % (rg_meas a).length)) from rfl,
     show(a.Read.getD (rg_Mi a ((k+1) % (rg_meas a).length)) daa).P=rg_Pt a (rg_Mi a ((k+1) % (rg_meas a).length)) from rfl]
    cases rg_farB (rg_Pt a (rg_Mi a k)) (rg_Pt a (rg_Mi a ((k+((rg_meas a).length-1)) % (rg_meas a).length))) r<;>cases rg_farB (rg_Pt a (rg_Mi a k)) (rg_Pt a (rg_Mi a ((k+1) % (rg_meas a).length))) r<;>rfl
  ·rw[PR hx,show a.Read.length-x=0 by omega];rfl
end
def rg_cleaned (a:Ring) (r:Int):Ring:=bif decide (r<0) then a else bif decide (((rg_meas a).length:Int)<2) then a else bif JL a !=0 then a else⟨a.Z,(rg_meas a).foldl (GP a r) a.Read⟩
theorem qQf (a:Ring) (r:Int) (h:a.Read.length<=1000):qEh a r=some (rg_cleaned a r):=by
 have hl:=TC a;unfold qEh MF rg_cleaned;rw[qGm a h,qCn a h];simp only[kg,MC,JU];have hL:RP a r (jO (rg_meas a)) FUEL 0 a.Read=some ((rg_meas a).foldl (GP a r) a.Read):=by
  have:=qIG a r h FUEL 0 a.Read (by rw[wG];omega) (by omega) rfl
  rwa [uI] at this
 rw[hL];cases decide (r<0)<;>cases decide (((rg_meas a).length:Int)<2)<;>cases (JL a !=0)<;>rfl
theorem qSK (a:Ring) (r:Int) (h:a.Read.length<=1000):qCC a r=some (rg_cleaned a r):=by
 have hl:=TC a;obtain⟨L,_,hg⟩:=qEA a h;unfold qCC BT rg_cleaned;rw[hg,qE2 a h];simp only[kg,ER];have hw:w64 ((a.Read.length:Int)-((a.Read.length-(rg_meas a).length:Nat):Int))=((rg_meas a).length:Int):=by
  rw[qR (by omega) (by omega)];omega
 have hL:JF a r FUEL 0 a.Read=some ((rg_meas a).foldl (GP a r) a.Read):=by
  have:=OW a r h FUEL 0 a.Read (by rw[wG];omega) (by omega) rfl;rw[kO,<-dP,<-List.foldl_filter] at this;exact this
 rw[hw,hL];cases decide (r<0)<;>cases decide (((rg_meas a).length:Int)<2)<;>cases (JL a !=0)<;>rfl
theorem qOs (a:Ring) (r:Int):(rg_cleaned a r).Read.length=a.Read.length:=by
 unfold rg_cleaned;cases decide (r<0)<;>cases decide (((rg_meas a).length:Int)<2)<;>cases (JL a !=0)<;>simp[qFE]
theorem qRp (a:Ring) (r:Int):(rg_cleaned a r).Z=a.Z:=by
 unfold rg_cleaned;cases decide (r<0)<;>cases decide (((rg_meas a).length:Int)<2)<;>cases (JL a !=0)<;>rfl
theorem CH {α:Type} [Inhabited α] {l t:List α} (h:l.length=t.length) (hj:∀j,j<l.length->l.getD j daa=t.getD j daa):l=t:=by
 apply dw h;intro i h1 h2;have:=hj i h1
 rwa [ki,ki,ks h1,ks h2] at this
theorem KF {α:Type} [Inhabited α] {l:List α} {x:Nat} (v:α) (h:x<l.length):(l.set x v).getD x daa=v:=by
 rw[ki,dh h];rfl
theorem ZA {α:Type} [Inhabited α] {l:List α} {x j:Nat} (v:α) (h:x≠j):(l.set x v).getD j daa=l.getD j daa:=by
 rw[ki,dR h,<-ki]
theorem MV {α β:Type} [Inhabited α] [Inhabited β] (f:α->β) (l:List α) {j:Nat} (h:j<l.length):(l.map f).getD j daa=f (l.getD j daa):=by
 rw[ki,ki,kI,ks h];rfl
def yI (q:Nat) (p:qA):qA:=match q with
 |0=>p
 |1=>⟨-p.Y,p.X⟩
 |2=>⟨-p.X,-p.Y⟩
 |_=>⟨p.Y,-p.X⟩
def BK (p:qA):Prop:= -600<=p.X/\p.X<=600/\-600<=p.Y/\p.Y<=600
theorem qDH {r:qO} (h:RN r=0):BK r.P/\(r.Ok=false->r.P=⟨0,0⟩):=by
 unfold RN at h;cases ho:r.Ok with
 |true=>
  rw[ho] at h;cases hr:LS r.P with
  |false=>rw[hr] at h;simp at h
  |true=>
   simp only[LS,kv,decide_eq_true_eq] at hr;exact⟨⟨hr.1.1,hr.1.2,hr.2.1,hr.2.2⟩,λh=>by cases h⟩
 |false=>
  rw[ho] at h;cases hz:qDu r.P with
  |false=>rw[hz] at h;simp at h
  |true=>
   have:r.P=⟨0,0⟩:=by
    obtain⟨⟨x,y⟩,o⟩:=r;simp only[qDu,dV,kv,gh] at hz;simp only at hz⊢;rw[hz.1,hz.2]
   rw[this];exact⟨⟨by decide,by decide,by decide,by decide⟩,λ_=>rfl⟩
theorem qPW (r:Int):∃q:Nat,q<4/\Int.tmod (w64 (Int.tmod r 4+4)) 4=(q:Int):=by
 have h1:=gn r (show(0:Int)<4 by decide);have h2: -4<Int.tmod r 4:=by
  rcases dK 0 r with h|h
  ·have:=dB 4 h;omega
  ·have:=dB 4 (show 0<=-r by omega);have h3:=gn (-r) (show(0:Int)<4 by decide);rw[Int.neg_tmod] at this h3;omega
 rw[qR (by omega) (by omega)];obtain⟨n,hn⟩:=Int.eq_ofNat_of_zero_le (show 0<=Int.tmod r 4+4 by omega);rw[hn];exact⟨n % 4,kT _ (by decide),rfl⟩
theorem qF3 (l:List qA) (hs:∀p∈l,BK p) (h:l.length<=1000):∀(n x:Nat),l.length<x+n->x<=l.length->YG l n (x:Int)=some (.inr ())
 |0,x,h1,h2=>by omega
 |n+1,x,h1,h2=>by
  unfold YG;by_cases hx:x<l.length
  ·have hm:BK (l.getD x daa):=hs _ (by rw[ki,ks hx];exact uJ hx);rw[RB hx,zS (by omega) (by omega)];simp only[kp,ko,SB,wO x (by omega)];have e1:((l.getD x daa).X== -9223372036854775808)=false:=kC.2 (by have:=hm.1;omega);have e2:((l.getD x daa).Y== -9223372036854775808)=false:=kC.2 (by have:=hm.2.2.1;omega);rw[e1,e2];exact qF3 l hs h n (x+1) (by omega) (by omega)
  ·rw[PR hx];rfl
theorem qMf (l:List qA) (hs:∀p∈l,BK p) (h:l.length<=1000):qB5 l=some true:=by
 unfold qB5;have:=qF3 l hs h FUEL 0 (by rw[wG];omega) (by omega);have h':YG l FUEL 0=some (.inr ()):=this;rw[h'];rfl
theorem qML (q:Nat) (hq:q<4) (p:qA) (hs:BK p):
  qA.mk (w64 (w64 ((wE.getD q daa).X*p.X)-w64 ((wE.getD q daa).Y*p.Y))) (w64 (w64 ((wE.getD q daa).Y*p.X)+w64 ((wE.getD q daa).X*p.Y)))=yI q p:=by
 obtain⟨h1,h2,h3,h4⟩:=hs;obtain⟨x,y⟩:=p;simp only at h1 h2 h3 h4
 match q,hq with
 |0,_=>
  simp only[wE,un,yI,Int.one_mul,dO];rw[qR (n:=x) (by omega) (by omega),qR (n:=y) (by omega) (by omega),qR (n:=0) (by omega) (by omega),qR (by omega) (by omega),qR (by omega) (by omega)]
  congr 1<;>omega
 |1,_=>
  simp only[wE,un,gX,yI,Int.one_mul,dO];rw[qR (n:=x) (by omega) (by omega),qR (n:=y) (by omega) (by omega),qR (n:=0) (by omega) (by omega),qR (by omega) (by omega),qR (by omega) (by omega)]
  congr 1<;>omega
 |2,_=>
  simp only[wE,un,gX,yI,dO];rw[qR (n:= -1*x) (by omega) (by omega),qR (n:= -1*y) (by omega) (by omega),qR (n:=0) (by omega) (by omega),qR (by omega) (by omega),qR (by omega) (by omega)]
  congr 1<;>omega
 |3,_=>
  simp only[wE,un,gX,yI,dO];rw[qR (n:= -1*x) (by omega) (by omega),qR (n:= -1*y) (by omega) (by omega),qR (n:=0) (by omega) (by omega),qR (by omega) (by omega),qR (by omega) (by omega)]
  congr 1<;>omega
theorem qFa (l:List qA) (hs:∀p∈l,BK p) (h:l.length<=1000) (r:Int) (q:Nat) (hq:q<4) (hr:Int.tmod (w64 (Int.tmod r 4+4)) 4=(q:Int)):
  ∀(n x:Nat) (t:List qA),l.length<x+n->x<=l.length->t.length=l.length->(∀j,j<x->t.getD j daa=yI q (l.getD j daa))->NP l r n t (x:Int)=some (l.map (yI q))
 |0,x,t,h1,h2,_,_=>by omega
 |n+1,x,t,h1,h2,h3,h4=>by
  unfold NP;by_cases hx:x<l.length
  ·have hm:BK (l.getD x daa):=hs _ (by rw[ki,ks hx];exact uJ hx);rw[RB hx,zS (by omega) (by omega),zS (by omega) (by omega),hr];simp only[kp,ko,wO x (by omega)];rw[qML q hq _ hm];refine qFa l hs h r q hq hr n (x+1) _ (by omega) (by omega) (by rw[gO];exact h3) (λj hj=>?_);by_cases he:x=j
   ·subst he;rw[KF _ (by omega)]
   ·rw[ZA _ he];exact h4 j (by omega)
  ·rw[PR hx];have:t=l.map (yI q):=CH (by simp[h3]) (λj hj=>by rw[h4 j (by omega),MV _ _ (by omega)]);rw[this];rfl
theorem qOc (l:List qA) (hs:∀p∈l,BK p) (h:l.length<=1000) (r:Int) (q:Nat) (hq:q<4) (hr:Int.tmod (w64 (Int.tmod r 4+4)) 4=(q:Int)):qGe l r=some (l.map (yI q)):=by
 unfold qGe;have hmk:mkOk (l.length:Int) 16=true:=by unfold mkOk;exact ka ⟨by omega,by omega,by omega⟩
 have hL:=qFa l hs h r q hq hr FUEL 0 (List.replicate l.length (qA.mk 0 0)) (by rw[wG];omega) (by omega) (by simp) (λj hj=>by omega);have hL':NP l r FUEL (List.replicate l.length (qA.mk 0 0)) 0=some (l.map (yI q)):=hL;rw[qMf l hs h,hr,hmk,zS (by omega) (by omega)];simp only[kg,kG,kr,kp,ko,hL']
def UF (q:Nat) (r:qO):qO:=⟨yI q r.P,r.Ok⟩
def qIX (q:Nat) (a:Ring):Ring:=⟨a.Z,a.Read.map (UF q)⟩
theorem qGO (a:Ring) (h:a.Read.length<=1000):∀(n x:Nat) (t:List qA),a.Read.length<x+n->x<=a.Read.length->t.length=a.Read.length->(∀j,j<x->t.getD j daa=(a.Read.getD j daa).P)->
  NR a n t (x:Int)=some (a.Read.map (·.P))
 |0,x,t,h1,h2,_,_=>by omega
 |n+1,x,t,h1,h2,h3,h4=>by
  unfold NR;by_cases hx:x<a.Read.length
  ·rw[RB hx,zS (by omega) (by omega),zS (by omega) (by omega)];simp only[kp,ko,wO x (by omega)];refine qGO a h n (x+1) _ (by omega) (by omega) (by rw[gO];exact h3) (λj hj=>?_);by_cases he:x=j
   ·subst he;rw[KF _ (by omega)]
   ·rw[ZA _ he];exact h4 j (by omega)
  ·rw[PR hx];have:t=a.Read.map (·.P):=CH (by simp[h3]) (λj hj=>by rw[h4 j (by omega),MV _ _ (by omega)]);rw[this];rfl
theorem qG6 (a:Ring) (h:a.Read.length<=1000) (q:Nat):∀(n x:Nat) (t:List qO),a.Read.length<x+n->x<=a.Read.length->t.length=a.Read.length->(∀j,j<x->t.getD j daa=UF q (a.Read.getD j daa))->(∀j,x<=j->t.getD j daa=a.Read.getD j daa)->
  FA ((a.Read.map (·.P)).map (yI q)) n (x:Int) t=some (a.Read.map (UF q))
 |0,x,t,h1,h2,_,_,_=>by omega
 |n+1,x,t,h1,h2,h3,h4,h5=>by
  unfold FA;rw[kP,kP];by_cases hx:x<a.Read.length
  ·rw[RB hx,zS (by omega) (by omega),zS (by omega) (by omega)];simp only[kp,ko,wO x (by omega)];rw[h5 x (kq _),MV _ _ (by simpa using hx),MV _ _ hx];refine qG6 a h q n (x+1) _ (by omega) (by omega) (by rw[gO];exact h3) (λj hj=>?_) (λj hj=>?_)
   ·by_cases he:x=j
    ·subst he;rw[KF _ (by omega)];rfl
    ·rw[ZA _ he];exact h4 j (by omega)
   ·rw[ZA _ (by omega)];exact h5 j (by omega)
  ·rw[PR hx];have:t=a.Read.map (UF q):=CH (by simp[h3]) (λj hj=>by rw[h4 j (by omega),MV _ _ (by omega)]);rw[this];rfl
theorem qQ4 (a:Ring) (r:Int) (g:yH a) (q:Nat) (hq:q<4) (hr:Int.tmod (w64 (Int.tmod r 4+4)) 4=(q:Int)):QR a r=some (qIX q a):=by
 have hn:=g.hi;unfold QR;have hmk:mkOk (a.Read.length:Int) 16=true:=by unfold mkOk;exact ka ⟨by omega,by omega,by omega⟩
 have hL:NR a FUEL (List.replicate a.Read.length (qA.mk 0 0)) 0=some (a.Read.map (·.P)):=qGO a (by omega) FUEL 0 _ (by rw[wG];omega) (by omega) (by simp) (λj hj=>by omega);have hL2:FA ((a.Read.map (·.P)).map (yI q)) FUEL 0 a.Read=some (a.Read.map (UF q)):=qG6 a (by omega) q FUEL 0 _ (by rw[wG];omega) (by omega) rfl (λj hj=>by omega) (λ_ _=>rfl);have hp:=qOc (a.Read.map (·.P)) (λp hp=>by
  obtain⟨x,hx,rfl⟩:=di.1 hp;exact(qDH (g.all x hx)).1) (by simpa using by omega) r q hq hr
 rw[qGm a (by omega),MC,(KP a).2 g,hmk];simp only[kg,kA,kr,kp,ko,hL,hp,hL2];rfl
theorem qLP (a:Ring) (r:Int) (h:a.Read.length<=1000) (hb:¬yH a):QR a r=some a:=by
 unfold QR;have:(JL a !=0)=true:=ua.2 (λh=>hb ((KP a).1 h));rw[qGm a h,MC];simp only[kg,this,kp]
theorem qOB (q:Nat) (hq:q<4) (p:qA) (hs:BK p):qB7 p (q:Int)=some (yI q p):=by
 unfold qB7;rw[wG,show(4611686018427387904:Nat)=4611686018427387899+1+1+1+1+1 from rfl];obtain⟨h1,h2,h3,h4⟩:=hs;obtain⟨x,y⟩:=p;simp only at h1 h2 h3 h4;have ws:∀z:Int,-600<=z->z<=600->w64 (0-z)= -z:=λz h1 h2=>by rw[qR (by omega) (by omega)];omega
 have e1:w64 (0+1)=1:=by kernel_rfl
 have e2:w64 (1+1)=2:=by kernel_rfl
 have e3:w64 (2+1)=3:=by kernel_rfl
 have stop:∀(n:Nat) (z:qA),ZL (q:Int) (n+1) (q:Int) z=some z:=λn z=>by
  rw[ZL];simp
 have go:∀(n:Nat) (i:Int) (z:qA),i<(q:Int)->ZL (q:Int) (n+1) i z=ZL (q:Int) n (w64 (i+1)) ⟨w64 (0-z.Y),z.X⟩:=λn i z hi=>by
  rw[ZL,ka hi];rfl
 match q,hq with
 |0,_=>rw[show(0:Int)=((0:Nat):Int) from rfl,stop];rfl
 |1,_=>
  rw[go _ _ _ (by decide),e1,show(1:Int)=((1:Nat):Int) from rfl,stop];simp only[kg,yI,ws y h3 h4]
 |2,_=>
  rw[go _ _ _ (by decide),e1,go _ _ _ (by decide),e2,show(2:Int)=((2:Nat):Int) from rfl,stop];simp only[kg,yI,ws y h3 h4,ws x h1 h2]
 |3,_=>
  rw[go _ _ _ (by decide),e1,go _ _ _ (by decide),e2,go _ _ _ (by decide),e3,show(3:Int)=((3:Nat):Int) from rfl,stop];simp only[kg,yI,ws y h3 h4,ws x h1 h2,ws (-y) (by omega) (by omega),Int.neg_neg]
theorem qP1 (q:Nat):yI q ⟨0,0⟩=⟨0,0⟩:=by
 unfold yI;split<;>rfl
theorem qBF (a:Ring) (g:yH a) (r:Int) (q:Nat) (hq:q<4) (hr:Int.tmod (w64 (Int.tmod r 4+4)) 4=(q:Int)):∀(n x:Nat) (t:List qO),a.Read.length<x+n->x<=a.Read.length->t.length=a.Read.length->(∀j,j<x->t.getD j daa=UF q (a.Read.getD j daa))->(∀j,x<=j->t.getD j daa=a.Read.getD j daa)->
  RG r n (x:Int) t=some (a.Read.map (UF q))
 |0,x,t,h1,h2,_,_,_=>by omega
 |n+1,x,t,h1,h2,h3,h4,h5=>by
  have hn:=g.hi;unfold RG;rw[h3];by_cases hx:x<a.Read.length
  ·have hmem:a.Read.getD x daa∈a.Read:=by rw[ki,ks hx];exact uJ hx
   have hm:=qDH (g.all _ hmem);rw[RB hx,zS (by omega) (by omega)];simp only[kp,ko,wO x (by omega),qAa,h5 x (kq _),UB,hr,kg,qOB q hq _ hm.1];cases ho:(a.Read.getD x daa).Ok with
   |true=>
    refine qBF a g r q hq hr n (x+1) _ (by omega) (by omega) (by rw[gO];exact h3) (λj hj=>?_) (λj hj=>?_)
    ·by_cases he:x=j
     ·subst he;rw[KF _ (by omega)];unfold UF;rw[ho]
     ·rw[ZA _ he];exact h4 j (by omega)
    ·rw[ZA _ (by omega)];exact h5 j (by omega)
   |false=>
    refine qBF a g r q hq hr n (x+1) t (by omega) (by omega) h3 (λj hj=>?_) (λj hj=>h5 j (by omega));by_cases he:x=j
    ·subst he;rw[h5 x (kq _)];unfold UF;rw[hm.2 ho,qP1,<-hm.2 ho]
    ·exact h4 j (by omega)
  ·rw[PR hx];have:t=a.Read.map (UF q):=CH (by simp[h3]) (λj hj=>by rw[h4 j (by omega),MV _ _ (by omega)]);rw[this];rfl
theorem qTI (a:Ring) (r:Int) (g:yH a) (q:Nat) (hq:q<4) (hr:Int.tmod (w64 (Int.tmod r 4+4)) 4=(q:Int)):DX a r=some (qIX q a):=by
 have hn:=g.hi;unfold DX;have hL:RG r FUEL 0 a.Read=some (a.Read.map (UF q)):=qBF a g r q hq hr FUEL 0 _ (by rw[wG];omega) (by omega) rfl (λj hj=>by omega) (λ_ _=>rfl);rw[qE2 a (by omega),ER,(KP a).2 g];simp only[kg,kA,kr,hL];rfl
theorem qME (a:Ring) (r:Int) (h:a.Read.length<=1000) (hb:¬yH a):DX a r=some a:=by
 unfold DX;have:(JL a !=0)=true:=ua.2 (λh=>hb ((KP a).1 h));rw[qE2 a h,ER];simp only[kg,this,kp]
theorem qQa (a:Ring) (r:Int) (h:a.Read.length<=1000):∃b,QR a r=some b/\DX a r=some b/\b.Read.length=a.Read.length:=by
 obtain⟨q,hq,hr⟩:=qPW r;by_cases g:yH a
 ·exact⟨_,qQ4 a r g q hq hr,qTI a r g q hq hr,by simp[qIX]⟩
 ·exact⟨_,qLP a r h g,qME a r h g,rfl⟩
end Saw
end Go.SL

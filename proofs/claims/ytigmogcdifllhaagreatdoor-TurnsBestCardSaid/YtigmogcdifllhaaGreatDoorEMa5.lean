import Derived.Test.YtigmogcdifllhaaGreatDoorEMa1
set_option linter.unusedVariables false
set_option linter.unusedSimpArgs false
namespace Go.SL
namespace Saw
theorem wK :FUEL=9223372036854775808:=by unfold FUEL;rfl
theorem qZ {n:Int} (h1: -9223372036854775808<=n) (h2:n<=9223372036854775807):w64 n=n:=by
 unfold w64 IntKind.wrap;simp only[IntKind.bits,IntKind.signed,Bool.true_and];split
 ·rename_i h;have h':n % 2^64≥2^(64-1):=ul h;omega
 ·rename_i h;have h':¬n % 2^64≥2^(64-1):=λhh=>h (ki hh);omega
theorem zW {i:Int} {n:Nat} (h0:0<=i) (h1:i<(n:Int)):inb i n=true:=by unfold inb;exact ki ⟨h0,h1⟩
theorem DN {b:Int} (h:b≠0):nz b=true:=by unfold nz;exact ki h
theorem qGt {n b:Nat} (h:n*b<=140737488355328):room n b=true:=by unfold room;exact ki h
theorem qVc (a:Int):FQ a=some (decide (-600<=a)&&decide (a<=600)):=by
 unfold FQ EB;by_cases h:a≥-600
 ·simp[h]
 ·simp[h]
def NM (p:qA):Bool:=(decide (-600<=p.X)&&decide (p.X<=600))&&(decide (-600<=p.Y)&&decide (p.Y<=600))
theorem qS8 (p:qA):XO [p]=some (NM p):=by
 unfold XO;rw[wK];rw[show(9223372036854775808:Nat)=9223372036854775806+1+1 from rfl];unfold yA;have e1:w64 (0+1)=1:=by kernel_rfl
 have tail:yA [p] (9223372036854775806+1) 1=some (Sum.inr ()):=by
  unfold yA;simp
 have hi:inb 0 1=true:=by kernel_rfl
 simp only[uJ,gJ,kB,XX,e1,tail,hi,kp,gB,ua];have h01:decide ((0:Int)<((1:Nat):Int))=true:=by decide
 rw[h01];simp only[kp,NM];by_cases h1:p.X< -600
 ·have g1:¬-600<=p.X:=by omega
  simp[h1,g1]
 ·have g1: -600<=p.X:=by omega
  by_cases h2:p.X>600
  ·have g2:¬p.X<=600:=by omega
   simp[h1,h2,g2]
  ·have g2:p.X<=600:=by omega
   by_cases h3:p.Y< -600
   ·have g3:¬-600<=p.Y:=by omega
    simp[h1,h2,h3,g3]
   ·have g3: -600<=p.Y:=by omega
    by_cases h4:p.Y>600
    ·have g4:¬p.Y<=600:=by omega
     simp[h1,h2,h3,h4,g4]
    ·have g4:p.Y<=600:=by omega
     simp[h1,h2,h3,h4,g1,g2,g3,g4]
def qDj (p:qA):Bool:=p.X==0&&(p.Y==0&&true)
def KS (r:qP):Int:=bif r.Ok&&!NM r.P then 9 else bif !r.Ok&&!qDj r.P then 19 else 0
def yH (l:List qP):Int:=match l with
 |[]=>0
 |r::l=>bif KS r==0 then yH l else KS r
def SI (c:Int):Int⊕Unit:=bif c==0 then .inr () else .inl c
theorem qKC {α:Type} [Inhabited α] (l:List α) (x:Nat) (h:x<l.length):l.drop x=l.getD x du::l.drop (x+1):=by
 rw[gZ h,ka,ks h];rfl
theorem qKT (a:Ring):∀(n:Nat) (x:Nat),a.Read.length<x+n->x<=a.Read.length->a.Read.length<=1000->QV a n (x:Int)=some (SI (yH (a.Read.drop x)))
 |0,x,h1,h2,_=>by omega
 |n+1,x,h1,h2,h3=>by
  unfold QV;by_cases hx:x<a.Read.length
  ·have hd:=qKC a.Read x hx;have ih:=qKT a n (x+1) (by omega) (by omega) h3;have e1:w64 ((x:Int)+1)=((x+1:Nat):Int):=by rw[qZ (by omega) (by omega)];omega
   have c1:decide ((x:Int)<(a.Read.length:Int))=true:=ki (by omega);rw[c1,zW (by omega) (by omega),hd];simp only[kp,kg,qVc,kd,FI,IU,e1,ih,yH,KS,NM,qDj];generalize a.Read.getD x du=r;cases r.Ok<;>cases (decide (-600<=r.P.X)&&decide (r.P.X<=600))<;>cases (decide (-600<=r.P.Y)&&decide (r.P.Y<=600))<;>cases (r.P.X==0&&(r.P.Y==0&&true))<;>simp[SI]
  ·have c1:decide ((x:Int)<(a.Read.length:Int))=false:=kf (by omega);rw[c1,uA (by omega)];rfl
theorem qMR (a:Ring):∀(n:Nat) (x:Nat),a.Read.length<x+n->x<=a.Read.length->a.Read.length<=1000->PZ a n (x:Int)=some (SI (yH (a.Read.drop x)))
 |0,x,h1,h2,_=>by omega
 |n+1,x,h1,h2,h3=>by
  unfold PZ;by_cases hx:x<a.Read.length
  ·have hd:=qKC a.Read x hx;have ih:=qMR a n (x+1) (by omega) (by omega) h3;have e1:w64 ((x:Int)+1)=((x+1:Nat):Int):=by rw[qZ (by omega) (by omega)];omega
   have c1:decide ((x:Int)<(a.Read.length:Int))=true:=ki (by omega);rw[c1,zW (by omega) (by omega),hd];simp only[kp,kg,qS8,kd,qCc,qCl,e1,ih,yH,KS,qDj];generalize a.Read.getD x du=r;cases r.Ok<;>cases NM r.P<;>cases (r.P.X==0&&(r.P.Y==0&&true))<;>simp[SI]
  ·have c1:decide ((x:Int)<(a.Read.length:Int))=false:=kf (by omega);rw[c1,uA (by omega)];rfl
def WB (a:Ring):Int:=
 bif decide ((a.Read.length:Int)<8) then 3 else bif decide ((a.Read.length:Int)>32) then 4 else bif decide (a.Z<0) then 9 else bif decide (a.Z>20000) then 9 else yH a.Read
theorem FE (a:Ring):US a=some (WB a):=by
 unfold US WB IP;by_cases h1:(a.Read.length:Int)<8
 ·simp[h1]
 by_cases h2:(a.Read.length:Int)>32
 ·simp[h1,h2]
 have hl:=qKT a FUEL 0 (by rw[wK];omega) (by omega) (by omega);rw[uN] at hl;by_cases h3:a.Z<0
 ·simp[h1,h2,h3]
 by_cases h4:a.Z>20000
 ·simp[h1,h2,h3,h4]
 rw[kf h1,kf h2,kf h3,kf h4];have hl':QV a FUEL 0=some (SI (yH a.Read)):=hl;simp only[kv,hl',kd,SI];by_cases hc:yH a.Read=0
 ·rw[hc];rfl
 ·have hb:(yH a.Read==0)=false:=by simpa using hc
  rw[hb];rfl
theorem SA (a:Ring):FO a=some (WB a):=by
 unfold FO WB qCf;by_cases h1:(a.Read.length:Int)<8
 ·simp[h1]
 by_cases h2:(a.Read.length:Int)>32
 ·simp[h1,h2]
 have hl:=qMR a FUEL 0 (by rw[wK];omega) (by omega) (by omega);rw[uN] at hl;by_cases h3:a.Z<0
 ·simp[h1,h2,h3]
 by_cases h4:a.Z>20000
 ·simp[h1,h2,h3,h4]
 rw[kf h1,kf h2,kf h3,kf h4];have hl':PZ a FUEL 0=some (SI (yH a.Read)):=hl;simp only[kv,hl',kd,SI];by_cases hc:yH a.Read=0
 ·rw[hc];rfl
 ·have hb:(yH a.Read==0)=false:=by simpa using hc
  rw[hb];rfl
structure yG (a:Ring):Prop where
 lo:8<=a.Read.length
 hi:a.Read.length<=32
 z0:0<=a.Z
 z1:a.Z<=20000
 all:∀r∈a.Read,KS r=0
theorem qGy :∀{l:List qP},yH l=0↔∀r∈l,KS r=0
 |[]=>by simp[yH]
 |r::l=>by
  simp only[yH,kW,forall_eq_or_imp];by_cases h:KS r=0
  ·simp[h,qGy (l:=l)]
  ·have hb:(KS r==0)=false:=by simpa using h
   rw[hb];exact⟨λh'=>absurd h' h,λh'=>absurd h'.1 h⟩
theorem XD (a:Ring):WB a=0↔yG a:=by
 unfold WB;by_cases h1:(a.Read.length:Int)<8
 ·simp only[h1,decide_true,kp];exact⟨λh=>by omega,λh=>by have:=h.lo;omega⟩
 by_cases h2:(a.Read.length:Int)>32
 ·simp only[h1,h2,decide_true,decide_false,kp,kv];exact⟨λh=>by omega,λh=>by have:=h.hi;omega⟩
 by_cases h3:a.Z<0
 ·simp only[h1,h2,h3,decide_true,decide_false,kp,kv];exact⟨λh=>by omega,λh=>by have:=h.z0;omega⟩
 by_cases h4:a.Z>20000
 ·simp only[h1,h2,h3,h4,decide_true,decide_false,kp,kv];exact⟨λh=>by omega,λh=>by have:=h.z1;omega⟩
 simp only[h1,h2,h3,h4,decide_false,kv,qGy];exact⟨λh=>⟨by omega,by omega,by omega,by omega,h⟩,λh=>h.all⟩
theorem qHr (a:Ring) (h:a.Read.length<=1000):EE a=some a:=by
 unfold EE QD;rw[qGt (by omega)];rfl
theorem qFk (a:Ring) (h:a.Read.length<=1000):qAD a=some a:=by
 unfold qAD;rw[qGt (by omega)];rfl
def rg_okAt (a:Ring) (i:Nat):Bool:=(a.Read.getD i du).Ok
def rg_meas (a:Ring):List Nat:=(List.range a.Read.length).filter (rg_okAt a)
def rg_Mi (a:Ring) (k:Nat):Nat:=(rg_meas a).getD k 0
def jT (l:List Nat):List Int:=List.map (λi:Nat=>(i:Int)) l
theorem WM (l:List Nat):(jT l).length=l.length:=by simp[jT]
theorem GX (l:List Nat) (k:Nat):(jT l).getD k du=((l.getD k 0:Nat):Int):=by
 unfold jT;rw[ka,ka,kH];cases l[k]? <;>rfl
theorem wV (x:Nat) (h:x<=1000000):w64 ((x:Int)+1)=((x+1:Nat):Int):=by rw[qZ (by omega) (by omega)];omega
theorem KI {x n:Nat} (h:x<n):decide ((x:Int)<((n:Nat):Int))=true:=ki (by omega)
theorem KG {x n:Nat} (h:¬x<n):decide ((x:Int)<((n:Nat):Int))=false:=kf (by omega)
theorem yT (a b:Nat):Int.tmod (a:Int) (b:Int)=((a % b:Nat):Int):=rfl
theorem qFa (a:Ring):∀(n x:Nat) (l:List Int),a.Read.length<x+n->x<=a.Read.length->a.Read.length<=1000->l.length<=x->
  QM a n l (x:Int)=some (l++jT ((List.range' x (a.Read.length-x)).filter (rg_okAt a)))
 |0,x,l,h1,h2,_,_=>by omega
 |n+1,x,l,h1,h2,h3,h4=>by
  unfold QM;by_cases hx:x<a.Read.length
  ·rw[KI hx,zW (by omega) (by omega),show a.Read.length-x=(a.Read.length-(x+1))+1 by omega,List.range'_succ,List.filter_cons,qGt (n:=l.length+1) (by omega)];simp only[kp,kg,NC,wV x (by omega)];rw[show(a.Read.getD x du).Ok=rg_okAt a x from rfl];cases hk:rg_okAt a x with
   |true=>
    rw[kp,qFa a n (x+1) _ (by omega) (by omega) h3 (by simp;omega)];simp[jT]
   |false=>
    rw[kv,qFa a n (x+1) _ (by omega) (by omega) h3 (by omega)];simp
  ·rw[KG hx,show a.Read.length-x=0 by omega];simp[jT]
theorem qBV (a:Ring) (h:a.Read.length<=1000):KQ a=some (jT (rg_meas a)):=by
 unfold KQ;have:=qFa a FUEL 0 [] (by rw[wK];omega) (by omega) h (by simp);have h':QM a FUEL [] 0=some (jT (rg_meas a)):=by
  rw[show(0:Int)=((0:Nat):Int) from rfl,this,uw,gv,<-gX];rfl
 rw[h'];rfl
theorem qLn {a:Ring} {k:Nat} (h:k<(rg_meas a).length):(rg_meas a)[k]? =some (rg_Mi a k):=by
 unfold rg_Mi;rw[ka,ks h];rfl
theorem zZ {a:Ring} {k:Nat} (h:k<(rg_meas a).length):rg_Mi a k<a.Read.length/\rg_okAt a (rg_Mi a k)=true:=by
 have:=uI (qLn h);unfold rg_meas at this;rw[List.mem_filter,uF] at this;exact this
theorem IL {a:Ring} {q:Nat} (h1:q<a.Read.length) (h2:rg_okAt a q=true):∃t,t<(rg_meas a).length/\rg_Mi a t=q:=by
 have hm:q∈rg_meas a:=by unfold rg_meas;rw[List.mem_filter,uF];exact⟨h1,h2⟩
 obtain⟨t,ht,he⟩:=uK.1 hm;exact⟨t,ht,by unfold rg_Mi;rw[ka,ks ht,he];rfl⟩
theorem OL {a:Ring} {i j:Nat} (hij:i<j) (hj:j<(rg_meas a).length):rg_Mi a i<rg_Mi a j:=by
 have hp:(rg_meas a).Pairwise (·<·):=List.Pairwise.filter _ List.pairwise_lt_range;have h1:=gA.1 hp i j (by omega) hj hij;have e1:(rg_meas a)[i]'(by omega)=rg_Mi a i:=by unfold rg_Mi;rw[ka,ks (by omega)];rfl
 have e2:(rg_meas a)[j]=rg_Mi a j:=by unfold rg_Mi;rw[ka,ks hj];rfl
 rwa [e1,e2] at h1
theorem HV {a:Ring} {i j:Nat} (hij:i<=j) (hj:j<(rg_meas a).length):rg_Mi a i<=rg_Mi a j:=by
 rcases Nat.lt_or_eq_of_le hij with h|rfl
 ·exact Nat.le_of_lt (OL h hj)
 ·exact ke _
def rg_gap (a:Ring) (k:Nat):Nat:=if k+1<(rg_meas a).length then rg_Mi a (k+1)-rg_Mi a k-1 else rg_Mi a 0+a.Read.length-rg_Mi a k-1
theorem qKd (a:Ring) (h:a.Read.length<=1000) {k:Nat} (hk:k<(rg_meas a).length):FT a (jT (rg_meas a)) (k:Int)=some ((rg_gap a k:Nat):Int):=by
 have h0:=zZ hk;have hl:(rg_meas a).length<=a.Read.length:=by unfold rg_meas;exact uu (gV _ _) (by simp)
 unfold FT rg_gap;rw[wV k (by omega),WM];by_cases hk1:k+1<(rg_meas a).length
 ·have h1:=zZ hk1;have h2:=OL (a:=a) (show k<k+1 by omega) hk1;rw[KI hk1,zW (by omega) (by omega),zW (by omega) (by omega),if_pos hk1];simp only[kp,kg,GX];rw[show(rg_meas a).getD (k+1) 0=rg_Mi a (k+1) from rfl,show(rg_meas a).getD k 0=rg_Mi a k from rfl];rw[qZ (n:=((rg_Mi a (k+1):Nat):Int)-_) (by omega) (by omega),qZ (by omega) (by omega)]
  congr 1
  omega
 ·have h1:=zZ (a:=a) (k:=0) (by omega);have h2:=HV (a:=a) (kw k) hk;rw[KG hk1,kv,zW (by omega) (by omega),zW (by omega) (by omega),if_neg hk1];simp only[kp,kg,gB,GX];rw[show(rg_meas a).getD 0 0=rg_Mi a 0 from rfl,show(rg_meas a).getD k 0=rg_Mi a k from rfl];rw[qZ (n:=((rg_Mi a 0:Nat):Int)+_) (by omega) (by omega),qZ (n:=((rg_Mi a 0:Nat):Int)+_-_) (by omega) (by omega),qZ (by omega) (by omega)]
  congr 1
  omega
theorem zT {x n:Nat} (h:x<n):x % n=x:=uL h
theorem QS {x n:Nat} (h1:n<=x) (h2:x<2*n):x % n=x-n:=by
 rw[Nat.mod_eq_sub_mod h1,uL (by omega)]
theorem XI {a:Ring} {k:Nat} (hk:k<(rg_meas a).length):rg_gap a k+1<=a.Read.length:=by
 have h0:=zZ hk;unfold rg_gap;split
 ·rename_i h;have:=zZ h;omega
 ·have:=HV (a:=a) (kw k) hk;omega
theorem NJ {a:Ring} {k d:Nat} (hk:k<(rg_meas a).length) (h1:1<=d) (h2:d<=rg_gap a k):rg_okAt a ((rg_Mi a k+d) % a.Read.length)=false:=by
 have h0:=zZ hk;have hg:=XI hk;cases ho:rg_okAt a ((rg_Mi a k+d) % a.Read.length) with
 |false=>rfl
 |true=>
  obtain⟨t,ht,he⟩:=IL (kK _ (by omega)) ho;unfold rg_gap at h2;split at h2
  ·rename_i hk1;have h3:=zZ hk1;rw[zT (by omega)] at he;rcases uM t (k+1) with h|h
   ·have:=HV (a:=a) (show t<=k by omega) hk;omega
   ·have:=HV (a:=a) h ht;omega
  ·rename_i hk1;have ht':=HV (a:=a) (show t<=k by omega) hk;have hz:=HV (a:=a) (kw t) ht;by_cases hc:rg_Mi a k+d<a.Read.length
   ·rw[zT hc] at he;omega
   ·rw[QS (by omega) (by omega)] at he;omega
theorem IB {a:Ring} {k:Nat} (hk:k<(rg_meas a).length):(rg_Mi a k+(rg_gap a k+1)) % a.Read.length=rg_Mi a ((k+1) % (rg_meas a).length):=by
 have h0:=zZ hk;unfold rg_gap;split
 ·rename_i hk1;have h3:=zZ hk1;have h4:=OL (a:=a) (show k<k+1 by omega) hk1;rw[zT hk1,show rg_Mi a k+(rg_Mi a (k+1)-rg_Mi a k-1+1)=rg_Mi a (k+1) by omega,zT h3.1]
 ·rename_i hk1;have hz:=zZ (a:=a) (k:=0) (by omega);have hle:=HV (a:=a) (kw k) hk;rw[show k+1=(rg_meas a).length by omega,Nat.mod_self,show rg_Mi a k+(rg_Mi a 0+a.Read.length-rg_Mi a k-1+1)=rg_Mi a 0+a.Read.length by omega,uE,zT hz.1]
theorem qJL (a:Ring) (q:Nat):∀(m j:Nat),(rg_meas a).length=j+m->1<=m->rg_Mi a j<q->∃k,k<(rg_meas a).length/\rg_Mi a k<q/\(k+1<(rg_meas a).length->q<=rg_Mi a (k+1))
 |0,_,_,h,_=>by omega
 |m+1,j,hm,_,hj=>by
  by_cases h:j+1<(rg_meas a).length
  ·by_cases hq:rg_Mi a (j+1)<q
   ·exact qJL a q m (j+1) (by omega) (by omega) hq
   ·exact⟨j,by omega,hj,λ_=>by omega⟩
  ·exact⟨j,by omega,hj,λh'=>absurd h' h⟩
theorem qSt {a:Ring} {q:Nat} (hm:1<=(rg_meas a).length) (hq:q<a.Read.length) (ho:rg_okAt a q=false):∃k d,k<(rg_meas a).length/\1<=d/\d<=rg_gap a k/\(rg_Mi a k+d) % a.Read.length=q:=by
 have hne:∀t,t<(rg_meas a).length->rg_Mi a t≠q:=λt ht he=>by
  have:=(zZ ht).2;rw[he,ho] at this;cases this
 by_cases h0:rg_Mi a 0<q
 ·obtain⟨k,hk,h1,h2⟩:=qJL a q (rg_meas a).length 0 (by omega) hm h0;refine⟨k,q-rg_Mi a k,hk,by omega,?_,by rw[show rg_Mi a k+(q-rg_Mi a k)=q by omega,zT hq]⟩;unfold rg_gap;split
  ·rename_i hk1;have:=hne (k+1) hk1;have:=h2 hk1;omega
  ·omega
 ·have hne0:=hne 0 (by omega);have hlast:(rg_meas a).length-1<(rg_meas a).length:=by omega
  have hl:=zZ (a:=a) hlast;have hle:=HV (a:=a) (kw ((rg_meas a).length-1)) hlast;refine⟨(rg_meas a).length-1,q+a.Read.length-rg_Mi a ((rg_meas a).length-1),hlast,by omega,?_,?_⟩
  ·unfold rg_gap;rw[if_neg (by omega)];omega
  ·rw[show rg_Mi a ((rg_meas a).length-1)+(q+a.Read.length-rg_Mi a ((rg_meas a).length-1))=q+a.Read.length by omega,uE,zT hq]
theorem qM4 (x y:Nat):imax (x:Int) (y:Int)=((max x y:Nat):Int):=by
 unfold imax;split<;>omega
theorem qD5 (a:Ring) (h:a.Read.length<=1000):∀(n x mx:Nat),(rg_meas a).length<x+n->x<=(rg_meas a).length->
  ∃R:Nat,GI a (jT (rg_meas a)) n (mx:Int) (x:Int)=some (R:Int)/\mx<=R/\(∀k,x<=k->k<(rg_meas a).length->rg_gap a k<=R)/\(R=mx\/∃k,k<(rg_meas a).length/\R=rg_gap a k)
 |0,x,mx,h1,h2=>by omega
 |n+1,x,mx,h1,h2=>by
  have hl:(rg_meas a).length<=a.Read.length:=by unfold rg_meas;exact uu (gV _ _) (by simp)
  unfold GI;rw[WM];by_cases hx:x<(rg_meas a).length
  ·rw[KI hx,qKd a h hx];simp only[kp,kd,qM4,wV x (by omega)];obtain⟨R,e,h3,h4,h5⟩:=qD5 a h n (x+1) (max mx (rg_gap a x)) (by omega) (by omega);refine⟨R,e,by omega,λk hk1 hk2=>?_,?_⟩
   ·rcases uM x k with hk|hk
    ·exact h4 k hk hk2
    ·obtain rfl:k=x:=by omega
     omega
   ·rcases h5 with h5|h5
    ·rcases Nat.le_total mx (rg_gap a x) with hg|hg
     ·exact .inr ⟨x,hx,by omega⟩
     ·exact .inl (by omega)
    ·exact .inr h5
  ·rw[KG hx];exact⟨mx,rfl,ke _,λk hk1 hk2=>by omega,.inl rfl⟩
theorem qCA (a:Ring) (h:a.Read.length<=1000) (q r:Nat) (hq:q<a.Read.length) (hr:r<=a.Read.length) (h1:∀d,d<r->rg_okAt a ((q+d) % a.Read.length)=false) (h2:r=a.Read.length\/rg_okAt a ((q+r) % a.Read.length)=true):
  ∀(n x:Nat),r<x+n->x<=r->QU a (q:Int) n (x:Int)=some (r:Int)
 |0,x,h3,h4=>by omega
 |n+1,x,h3,h4=>by
  unfold QU;by_cases hx:x<a.Read.length
  ·have e:w64 ((q:Int)+(x:Int))=((q+x:Nat):Int):=by rw[qZ (by omega) (by omega)];omega
   have hm:(q+x) % a.Read.length<a.Read.length:=kK _ (by omega);rw[KI hx,DN (by omega),e,yT,zW (by omega) (by omega)];simp only[kp,kg,qDP,wV x (by omega)];rw[show(a.Read.getD ((q+x) % a.Read.length) du).Ok=rg_okAt a ((q+x) % a.Read.length) from rfl];by_cases hxr:x<r
   ·rw[h1 x hxr];exact qCA a h q r hq hr h1 h2 n (x+1) (by omega) (by omega)
   ·obtain rfl:x=r:=by omega
    rcases h2 with h2|h2
    ·omega
    ·rw[h2];rfl
  ·rw[KG hx];obtain rfl:x=r:=by omega
   rfl
theorem OK (a:Ring) (h:a.Read.length<=1000) (run:Nat->Nat) (hrun:∀q,q<a.Read.length->rg_okAt a q=false->QU a (q:Int) FUEL 0=some ((run q:Nat):Int)):∀(n x c mx:Nat),a.Read.length<x+n->x<=a.Read.length->c<=x->
  ∃R:Nat,TV a n (c:Int) (mx:Int) (x:Int)=some (((c+(List.range' x (a.Read.length-x)).countP (λi=>!rg_okAt a i):Nat):Int),(R:Int))/\mx<=R/\(∀q,x<=q->q<a.Read.length->rg_okAt a q=false->run q<=R)/\(R=mx\/∃q,q<a.Read.length/\rg_okAt a q=false/\R=run q)
 |0,x,c,mx,h1,h2,_=>by omega
 |n+1,x,c,mx,h1,h2,hc=>by
  unfold TV;by_cases hx:x<a.Read.length
  ·rw[KI hx,zW (by omega) (by omega),show a.Read.length-x=(a.Read.length-(x+1))+1 by omega,List.range'_succ,List.countP_cons];simp only[kp,kg,qDD,wV x (by omega),wV c (by omega)];rw[show(a.Read.getD x du).Ok=rg_okAt a x from rfl];cases ho:rg_okAt a x with
   |true=>
    obtain⟨R,e,h3,h4,h5⟩:=OK a h run hrun n (x+1) c mx (by omega) (by omega) (by omega);refine⟨R,by rw[kp,e];simp,h3,λq hq1 hq2 hq3=>?_,h5⟩;rcases uM x q with hk|hk
    ·exact h4 q hk hq2 hq3
    ·obtain rfl:q=x:=by omega
     rw[ho] at hq3;cases hq3
   |false=>
    obtain⟨R,e,h3,h4,h5⟩:=OK a h run hrun n (x+1) (c+1) (max mx (run x)) (by omega) (by omega) (by omega);refine⟨R,?_,by omega,λq hq1 hq2 hq3=>?_,?_⟩
    ·rw[kv,hrun x hx ho];simp only[kd,qM4,e,gT,if_true]
     congr 3
     omega
    ·rcases uM x q with hk|hk
     ·exact h4 q hk hq2 hq3
     ·obtain rfl:q=x:=by omega
      omega
    ·rcases h5 with h5|h5
     ·rcases Nat.le_total mx (run x) with hg|hg
      ·exact .inr ⟨x,hx,ho,by omega⟩
      ·exact .inl (by omega)
     ·exact .inr h5
  ·rw[KG hx,show a.Read.length-x=0 by omega];exact⟨mx,by simp,ke _,λq h1 h2=>by omega,.inl rfl⟩
theorem qY4 (a:Ring) (h:a.Read.length<=1000) (q:Nat) (hq:q<a.Read.length) (ho:rg_okAt a q=false):
  ∃r,QU a (q:Int) FUEL 0=some ((r:Nat):Int)/\(((rg_meas a).length=0/\r=a.Read.length)\/∃k d,k<(rg_meas a).length/\1<=d/\d<=rg_gap a k/\(rg_Mi a k+d) % a.Read.length=q/\r=rg_gap a k+1-d):=by
 by_cases hm:(rg_meas a).length=0
 ·refine⟨a.Read.length,qCA a h q _ hq (ke _) (λd _=>?_) (.inl rfl) FUEL 0 (by rw[wK];omega) (by omega),.inl ⟨hm,rfl⟩⟩;cases ho:rg_okAt a ((q+d) % a.Read.length) with
  |false=>rfl
  |true=>
   obtain⟨t,ht,_⟩:=IL (kK _ (by omega)) ho;omega
 ·obtain⟨k,d,hk,h1,h2,h3⟩:=qSt (by omega) hq ho;have hg:=XI hk;have hs:∀e,(q+e) % a.Read.length=(rg_Mi a k+(d+e)) % a.Read.length:=λe=>by rw[<-h3,uS,uW]
  refine⟨rg_gap a k+1-d,qCA a h q _ hq (by omega) (λe he=>?_) (.inr ?_) FUEL 0 (by rw[wK];omega) (by omega),.inr ⟨k,d,hk,h1,h2,h3,rfl⟩⟩
  ·rw[hs];exact NJ hk (by omega) (by omega)
  ·rw[hs,show d+(rg_gap a k+1-d)=rg_gap a k+1 by omega,IB hk];exact(zZ (kK _ (by omega))).2
theorem qOk (a:Ring):(rg_meas a).length+(List.range' 0 a.Read.length).countP (λi=>!rg_okAt a i)=a.Read.length:=by
 have:=List.length_eq_countP_add_countP (rg_okAt a) (l:=List.range a.Read.length);rw[uD] at this;rw[<-gX];unfold rg_meas;rw[<-List.countP_eq_length_filter];have e:(List.range a.Read.length).countP (λi=>!rg_okAt a i)=(List.range a.Read.length).countP (λi=>decide ¬rg_okAt a i=true):=by
  congr 1
  funext i
  cases rg_okAt a i<;>rfl
 rw[e];omega
theorem qEJ (a:Ring) (h:a.Read.length<=1000):∃L:Nat,CR a=some (((a.Read.length-(rg_meas a).length:Nat):Int),(L:Int))/\qAG a=some (((a.Read.length-(rg_meas a).length:Nat):Int),(L:Int)):=by
 have hl:(rg_meas a).length<=a.Read.length:=by unfold rg_meas;exact uu (gV _ _) (by simp)
 have hc:=qOk a;have hex:∀q,∃r,q<a.Read.length->rg_okAt a q=false->QU a (q:Int) FUEL 0=some ((r:Nat):Int)/\(((rg_meas a).length=0/\r=a.Read.length)\/∃k d,k<(rg_meas a).length/\1<=d/\d<=rg_gap a k/\(rg_Mi a k+d) % a.Read.length=q/\r=rg_gap a k+1-d):=λq=>by
  by_cases hq:q<a.Read.length/\rg_okAt a q=false
  ·obtain⟨r,hr⟩:=qY4 a h q hq.1 hq.2;exact⟨r,λ_ _=>hr⟩
  ·exact⟨0,λh1 h2=>absurd ⟨h1,h2⟩ hq⟩
 obtain⟨run,hrun⟩:∃f:Nat->Nat,∀q,q<a.Read.length->rg_okAt a q=false->QU a (q:Int) FUEL 0=some ((f q:Nat):Int)/\(((rg_meas a).length=0/\f q=a.Read.length)\/∃k d,k<(rg_meas a).length/\1<=d/\d<=rg_gap a k/\(rg_Mi a k+d) % a.Read.length=q/\f q=rg_gap a k+1-d):=
  ⟨λq=>Classical.choose (hex q),λq=>Classical.choose_spec (hex q)⟩
 obtain⟨R2,e2,_,g2,t2⟩:=OK a h run (λq h1 h2=>(hrun q h1 h2).1) FUEL 0 0 0 (by rw[wK];omega) (by omega) (by omega);have e2':qAG a=some (((a.Read.length-(rg_meas a).length:Nat):Int),(R2:Int)):=by
  unfold qAG;have e3:TV a FUEL 0 0 0=some (((a.Read.length-(rg_meas a).length:Nat):Int),(R2:Int)):=by
   rw[gv,kB] at e2;rw[show a.Read.length-(rg_meas a).length=(List.range' 0 a.Read.length).countP (λi=>!rg_okAt a i) by omega];exact e2
  rw[e3];rfl
 have hw:w64 ((a.Read.length:Int)-((rg_meas a).length:Int))=((a.Read.length-(rg_meas a).length:Nat):Int):=by
  rw[qZ (by omega) (by omega)];omega
 unfold CR;rw[qBV a h];simp only[kd,WM];by_cases hm:(rg_meas a).length=0
 ·have:(((rg_meas a).length:Int)==0)=true:=by simp[hm]
  rw[this,kp,hw];have hR:R2=a.Read.length-(rg_meas a).length:=by
   rw[hm,gv];by_cases hn:a.Read.length=0
   ·rcases t2 with t|⟨q,hq,_⟩<;>omega
   ·have ho:rg_okAt a 0=false:=by
     cases ho:rg_okAt a 0 with
     |false=>rfl
     |true=>
      obtain⟨t,ht,_⟩:=IL (a:=a) (q:=0) (by omega) ho;omega
    have h1:=g2 0 (ke _) (by omega) ho;have rg_val:∀q,q<a.Read.length->rg_okAt a q=false->run q=a.Read.length:=λq h1 h2=>by
     rcases(hrun q h1 h2).2 with⟨_,h3⟩|⟨k,d,hk,_⟩
     ·exact h3
     ·omega
    rw[rg_val 0 (by omega) ho] at h1;rcases t2 with t|⟨q,h3,h4,t⟩
    ·omega
    ·rw[t,rg_val q h3 h4]
  exact⟨R2,by rw[hR],e2'⟩
 ·have:(((rg_meas a).length:Int)==0)=false:=kT.2 (by omega);rw[this,kv,hw];obtain⟨R1,e1,_,g1,t1⟩:=qD5 a h FUEL 0 0 (by rw[wK];omega) (by omega);have e1':GI a (jT (rg_meas a)) FUEL 0 0=some (R1:Int):=e1;rw[e1'];have hR:R1=R2:=by
   apply Nat.le_antisymm
   ·rcases t1 with t|⟨k,hk,t⟩
    ·omega
    ·by_cases hz:rg_gap a k=0
     ·omega
     ·have hg:=XI hk;have ho:=NJ hk (ke 1) (by omega);have hq:(rg_Mi a k+1) % a.Read.length<a.Read.length:=kK _ (by omega);have h1:=g2 _ (kw _) hq ho;have hv:QU a (((rg_Mi a k+1) % a.Read.length:Nat):Int) FUEL 0=some ((rg_gap a k:Nat):Int):=by
       have hs:∀e,((rg_Mi a k+1) % a.Read.length+e) % a.Read.length=(rg_Mi a k+(1+e)) % a.Read.length:=λe=>by rw[uS,uW]
       refine qCA a h _ _ hq (by omega) (λe he=>?_) (.inr ?_) FUEL 0 (by rw[wK];omega) (by omega)
       ·rw[hs];exact NJ hk (by omega) (by omega)
       ·rw[hs,show 1+rg_gap a k=rg_gap a k+1 by omega,IB hk];exact(zZ (kK _ (by omega))).2
      have h2:=(hrun _ hq ho).1;rw[hv] at h2;have h3:rg_gap a k=run ((rg_Mi a k+1) % a.Read.length):=by
       have:=kE h2;omega
      omega
   ·rcases t2 with t|⟨q,h3,h4,t⟩
    ·omega
    ·rcases(hrun q h3 h4).2 with⟨h5,_⟩|⟨k,d,hk,hd1,hd2,_,hr⟩
     ·omega
     ·have:=g1 k (kw _) hk;omega
  exact⟨R2,by rw[hR];rfl,e2'⟩
end Saw
end Go.SL
set_option linter.unusedSectionVars false
namespace Go.SL
namespace Saw
theorem PJ (a:Ring):(rg_meas a).length<=a.Read.length:=by unfold rg_meas;exact uu (gV _ _) (by simp)
theorem qF5 (a:Ring) (h:a.Read.length<=1000) {k:Nat} (hk:k<(rg_meas a).length):∀(n c:Nat),1<=c->c<=rg_gap a k+1->rg_gap a k+1<c+n->
  UD a.Read 1 n (((rg_Mi a k+c) % a.Read.length:Nat):Int)=some ((rg_Mi a ((k+1) % (rg_meas a).length):Nat):Int)
 |0,c,h1,h2,h3=>by omega
 |n+1,c,h1,h2,h3=>by
  have h0:=zZ hk;have hlt:(rg_Mi a k+c) % a.Read.length<a.Read.length:=kK _ (by omega);unfold UD;rw[zW (by omega) (by omega),DN (by omega)];simp only[kp,kg];rw[show(a.Read.getD ((rg_Mi a k+c) % a.Read.length) du).Ok=rg_okAt a ((rg_Mi a k+c) % a.Read.length) from rfl];by_cases hc:c=rg_gap a k+1
  ·subst hc;rw[IB hk,(zZ (kK _ (by omega))).2];rfl
  ·rw[NJ hk h1 (by omega)];have e:w64 (w64 ((((rg_Mi a k+c) % a.Read.length:Nat):Int)+1)+(a.Read.length:Int))=(((rg_Mi a k+c) % a.Read.length+1+a.Read.length:Nat):Int):=by
    rw[qZ (n:=_+1) (by omega) (by omega),qZ (by omega) (by omega)];omega
   rw[e,yT,uE,uS,uW];exact qF5 a h hk n (c+1) (by omega) (by omega) (by omega)
theorem qGB (a:Ring) (h:a.Read.length<=1000) {k:Nat} (hk:k<(rg_meas a).length):∀(n c:Nat),c<=rg_gap a k->c<n->
  UD a.Read (-1) n (((rg_Mi a k+c) % a.Read.length:Nat):Int)=some ((rg_Mi a k:Nat):Int)
 |0,c,h1,h2=>by omega
 |n+1,c,h1,h2=>by
  have h0:=zZ hk;have hg:=XI hk;have hlt:(rg_Mi a k+c) % a.Read.length<a.Read.length:=kK _ (by omega);unfold UD;rw[zW (by omega) (by omega),DN (by omega)];simp only[kp,kg];rw[show(a.Read.getD ((rg_Mi a k+c) % a.Read.length) du).Ok=rg_okAt a ((rg_Mi a k+c) % a.Read.length) from rfl];by_cases hc:c=0
  ·subst hc;rw[kY,zT h0.1,h0.2];rfl
  ·rw[NJ hk (by omega) h1];have e:w64 (w64 ((((rg_Mi a k+c) % a.Read.length:Nat):Int)+ -1)+(a.Read.length:Int))=(((rg_Mi a k+c) % a.Read.length+(a.Read.length-1):Nat):Int):=by
    rw[qZ (n:=_+ -1) (by omega) (by omega),qZ (by omega) (by omega)];omega
   rw[e,yT,uS,show rg_Mi a k+c+(a.Read.length-1)=rg_Mi a k+(c-1)+a.Read.length by omega,uE];exact qGB a h hk n (c-1) (by omega) (by omega)
theorem qP9 (a:Ring) (h:a.Read.length<=1000) {k d:Nat} (hk:k<(rg_meas a).length) (hd:d<=rg_gap a k):
  XA a.Read (((rg_Mi a k+d) % a.Read.length:Nat):Int) 1=some ((rg_Mi a ((k+1) % (rg_meas a).length):Nat):Int):=by
 have h0:=zZ hk;have hlt:(rg_Mi a k+d) % a.Read.length<a.Read.length:=kK _ (by omega);have hg:=XI hk;unfold XA;rw[DN (by omega)];have e:w64 (w64 ((((rg_Mi a k+d) % a.Read.length:Nat):Int)+1)+(a.Read.length:Int))=(((rg_Mi a k+d) % a.Read.length+1+a.Read.length:Nat):Int):=by
  rw[qZ (n:=_+1) (by omega) (by omega),qZ (by omega) (by omega)];omega
 rw[e,yT,uE,uS,uW,qF5 a h hk FUEL (d+1) (by omega) (by omega) (by rw[wK];omega)];rfl
theorem qPw (a:Ring) (h:a.Read.length<=1000) {k d:Nat} (hk:k<(rg_meas a).length) (h1:1<=d) (hd:d<=rg_gap a k+1):
  XA a.Read (((rg_Mi a k+d) % a.Read.length:Nat):Int) (-1)=some ((rg_Mi a k:Nat):Int):=by
 have h0:=zZ hk;have hlt:(rg_Mi a k+d) % a.Read.length<a.Read.length:=kK _ (by omega);have hg:=XI hk;unfold XA;rw[DN (by omega)];have e:w64 (w64 ((((rg_Mi a k+d) % a.Read.length:Nat):Int)+ -1)+(a.Read.length:Int))=(((rg_Mi a k+d) % a.Read.length+(a.Read.length-1):Nat):Int):=by
  rw[qZ (n:=_+ -1) (by omega) (by omega),qZ (by omega) (by omega)];omega
 rw[e,yT,uS,show rg_Mi a k+d+(a.Read.length-1)=rg_Mi a k+(d-1)+a.Read.length by omega,uE,qGB a h hk FUEL (d-1) (by omega) (by rw[wK];omega)];rfl
theorem qX1 (a:Ring) (h:a.Read.length<=1000) {k:Nat} (hk:k<(rg_meas a).length):XA a.Read ((rg_Mi a k:Nat):Int) 1=some ((rg_Mi a ((k+1) % (rg_meas a).length):Nat):Int):=by
 have:=qP9 a h hk (kw (rg_gap a k))
 rwa [kY,zT (zZ hk).1] at this
theorem qX2 (a:Ring) (h:a.Read.length<=1000) {k:Nat} (hk:k<(rg_meas a).length):XA a.Read ((rg_Mi a k:Nat):Int) (-1)=some ((rg_Mi a ((k+((rg_meas a).length-1)) % (rg_meas a).length):Nat):Int):=by
 have hk':(k+((rg_meas a).length-1)) % (rg_meas a).length<(rg_meas a).length:=kK _ (by omega);have:=qPw a h hk' (show 1<=rg_gap a _+1 by omega) (ke _);rw[IB hk',uS,show k+((rg_meas a).length-1)+1=k+(rg_meas a).length by omega,uE,zT hk] at this;exact this
def rg_farB (p q:qA) (r:Int):Bool:=decide (w64 (p.X-q.X)>r)||(decide (w64 (q.X-p.X)>r)||(decide (w64 (p.Y-q.Y)>r)||decide (w64 (q.Y-p.Y)>r)))
theorem qQO (x y r:Int):decide (imax x y>r)=(decide (x>r)||decide (y>r)):=by
 unfold imax;by_cases h1:x>r<;>by_cases h2:y>r<;>by_cases h3:y>x<;>simp[h1,h2,h3]<;>omega
theorem qYM (p q:qA) (r:Int):qE3 p q r=some (rg_farB p q r):=by
 unfold qE3 qCG rg_farB;rw[qQO,qQO];cases decide (w64 (p.X-q.X)>r)<;>cases decide (w64 (q.X-p.X)>r)<;>simp
theorem qWy (p q:qA) (r:Int):qCQ p q r=some (rg_farB p q r):=by
 unfold qCQ DU rg_farB;cases decide (w64 (p.X-q.X)>r)<;>cases decide (w64 (q.X-p.X)>r)<;>cases decide (w64 (p.Y-q.Y)>r)<;>simp
def rg_Pt (a:Ring) (i:Nat):qA:=(a.Read.getD i du).P
def rg_nb (a:Ring) (k e:Nat):Nat:=rg_Mi a ((k+e) % (rg_meas a).length)
def rg_Ek (a:Ring) (r:Int) (k:Nat):Bool:=rg_farB (rg_Pt a (rg_Mi a k)) (rg_Pt a (rg_nb a k ((rg_meas a).length-1))) r&&rg_farB (rg_Pt a (rg_Mi a k)) (rg_Pt a (rg_nb a k 1)) r
def rg_dropB (a:Ring) (r:Int) (q:Nat):Bool:=(List.range (rg_meas a).length).any λk=>decide (rg_Mi a k=q)&&rg_Ek a r k
theorem qSo {a:Ring} {i j:Nat} (hi:i<(rg_meas a).length) (hj:j<(rg_meas a).length) (h:rg_Mi a i=rg_Mi a j):i=j:=by
 rcases Nat.lt_trichotomy i j with h1|h1|h1
 ·have:=OL h1 hj;omega
 ·exact h1
 ·have:=OL h1 hi;omega
theorem qMN {a:Ring} {r:Int} {k:Nat} (hk:k<(rg_meas a).length):rg_dropB a r (rg_Mi a k)=rg_Ek a r k:=by
 unfold rg_dropB;cases he:rg_Ek a r k with
 |true=>
  rw[gk];exact⟨k,uF.2 hk,by simp[he]⟩
 |false=>
  rw[List.any_eq_false];intro j hj;have hj':=uF.1 hj;by_cases h:rg_Mi a j=rg_Mi a k
  ·rw[qSo hj' hk h,he];simp
  ·simp[h]
def qIZ :qP:=qP.mk (qA.mk 0 0) false
def VA (a:Ring) (r:Int) (l:List qP) (i:Nat):List qP:=bif rg_dropB a r i then l.set i qIZ else l
theorem qEt (a:Ring) (r:Int) (l:List qP) (i:Nat):(VA a r l i).length=l.length:=by
 unfold VA;cases rg_dropB a r i<;>simp
theorem qFZ (a:Ring) (r:Int):∀(m:List Nat) (l:List qP),(m.foldl (VA a r) l).length=l.length
 |[],_=>rfl
 |i::m,l=>by rw[uG,qFZ a r m,qEt]
section
variable (a :Ring) (r:Int) (h:a.Read.length<=1000)
include h
theorem qYO (k n:Nat) (b:Bool):yP a r (jT (rg_meas a)) (k:Int) (n+1) b 2=some b:=by
 rw[yP];rfl
theorem qQw (k n:Nat) (hk:k<(rg_meas a).length) (b:Bool) (x x1:Int) (e:Nat) (hx:decide (x<2)=true) (hx2:inb x 2=true) (hx1:w64 (x+1)=x1)
  (he:w64 (w64 ((k:Int)+((rg_meas a).length:Int))+([-1,1]:List Int).getD x.toNat 0)=((k+e:Nat):Int)):
  yP a r (jT (rg_meas a)) (k:Int) (n+1) b x=yP a r (jT (rg_meas a)) (k:Int) n (b&&rg_farB (rg_Pt a (rg_Mi a k)) (rg_Pt a (rg_nb a k e)) r) x1:=by
 have hk':(k+e) % (rg_meas a).length<(rg_meas a).length:=kK _ (by omega);have h1:=zZ hk';have h0:=zZ hk;rw[yP,hx,hx2,WM,he,DN (by omega),yT,zW (by omega) (by omega)];simp only[kp,kg,GX];rw[show(rg_meas a).getD ((k+e) % (rg_meas a).length) 0=rg_nb a k e from rfl,show(rg_meas a).getD k 0=rg_Mi a k from rfl,zW (show 0<=((rg_nb a k e:Nat):Int) by omega) (by unfold rg_nb;omega),zW (show 0<=((rg_Mi a k:Nat):Int) by omega) (by omega)];simp only[kp,kg,qYM,kd,OI,hx1];cases b<;>rfl
theorem qZO (k:Nat) (hk:k<(rg_meas a).length):yP a r (jT (rg_meas a)) (k:Int) FUEL true 0=some (rg_Ek a r k):=by
 have hl:=PJ a;rw[wK,show(9223372036854775808:Nat)=9223372036854775805+1+1+1 from rfl];rw[qQw a r h k _ hk true 0 1 ((rg_meas a).length-1) (by decide) (by decide) (by kernel_rfl) (by
  rw[show([-1,1]:List Int).getD (0:Int).toNat 0= -1 from rfl,qZ (n:=(k:Int)+_) (by omega) (by omega),qZ (by omega) (by omega)];omega)]
 rw[qQw a r h k _ hk _ 1 2 ((rg_meas a).length+1) (by decide) (by decide) (by kernel_rfl) (by
  rw[show([-1,1]:List Int).getD (1:Int).toNat 0=1 from rfl,qZ (n:=(k:Int)+_) (by omega) (by omega),qZ (by omega) (by omega)];omega)]
 rw[qYO a r h];have e:rg_nb a k ((rg_meas a).length+1)=rg_nb a k 1:=by
  unfold rg_nb;rw[show k+((rg_meas a).length+1)=k+1+(rg_meas a).length by omega,uE]
 rw[e];simp[rg_Ek]
theorem qJv :∀(n x:Nat) (l:List qP),(rg_meas a).length<x+n->x<=(rg_meas a).length->l.length=a.Read.length->
  JK a r (jT (rg_meas a)) n (x:Int) l=some (((rg_meas a).drop x).foldl (VA a r) l)
 |0,x,l,h1,h2,_=>by omega
 |n+1,x,l,h1,h2,h3=>by
  have hl:=PJ a;unfold JK;rw[WM];by_cases hx:x<(rg_meas a).length
  ·have h0:=zZ hx;rw[KI hx,zW (by omega) (by omega),qZO a r h x hx,gZ hx,uG];have hg:(rg_meas a)[x]=rg_Mi a x:=by have:=qLn hx;rw[ks hx] at this;exact kE this
   rw[hg];simp only[kp,kd,kg,GX,OE,wV x (by omega)];rw[show(rg_meas a).getD x 0=rg_Mi a x from rfl,zW (show 0<=((rg_Mi a x:Nat):Int) by omega) (by omega)];simp only[kp,kg];have ih:=qJv n (x+1) (VA a r l (rg_Mi a x)) (by omega) (by omega) (by rw[qEt];exact h3);rw[<-ih];unfold VA;rw[qMN hx];cases rg_Ek a r x<;>rfl
  ·rw[KG hx,uA (by omega)];rfl
theorem EY :∀(n x:Nat) (l:List qP),a.Read.length<x+n->x<=a.Read.length->l.length=a.Read.length->
  YO a r n (x:Int) l=some ((List.range' x (a.Read.length-x)).foldl (λl i=>if rg_okAt a i=true then VA a r l i else l) l)
 |0,x,l,h1,h2,_=>by omega
 |n+1,x,l,h1,h2,h3=>by
  unfold YO;by_cases hx:x<a.Read.length
  ·rw[KI hx,zW (by omega) (by omega),show a.Read.length-x=(a.Read.length-(x+1))+1 by omega,List.range'_succ,uG];simp only[kp,kg,qCr,SK,wV x (by omega)];rw[show(a.Read.getD x du).Ok=rg_okAt a x from rfl];cases ho:rg_okAt a x with
   |false=>exact EY n (x+1) l (by omega) (by omega) h3
   |true=>
    obtain⟨k,hk,hkx⟩:=IL hx ho;subst hkx;have hp:(k+((rg_meas a).length-1)) % (rg_meas a).length<(rg_meas a).length:=kK _ (by omega);have hn:(k+1) % (rg_meas a).length<(rg_meas a).length:=kK _ (by omega);have h4:=zZ hp;have h5:=zZ hn;rw[qX1 a h hk,qX2 a h hk];simp only[ue,kv,kd,kg];rw[zW (show 0<=((rg_Mi a ((k+((rg_meas a).length-1)) % (rg_meas a).length):Nat):Int) by omega) (by omega),zW (show 0<=((rg_Mi a ((k+1) % (rg_meas a).length):Nat):Int) by omega) (by omega),zW (show 0<=((rg_Mi a k:Nat):Int) by omega) (by omega)];simp only[kp,qWy,kd,if_true]
    have ih:=EY n (rg_Mi a k+1) (VA a r l (rg_Mi a k)) (by omega) (by omega) (by rw[qEt];exact h3);rw[<-ih];unfold VA;rw[qMN hk];unfold rg_Ek rg_nb;rw[show(a.Read.getD (rg_Mi a k) du).P=rg_Pt a (rg_Mi a k) from rfl,show(a.Read.getD (rg_Mi a ((k+((rg_meas a).length-1)) % (rg_meas a).length)) du).P=rg_Pt a (rg_Mi a ((k+((rg_meas a).length-1)) % (rg_meas a).length)) from rfl,
     show(a.Read.getD (rg_Mi a ((k+1) % (rg_meas a).length)) du).P=rg_Pt a (rg_Mi a ((k+1) % (rg_meas a).length)) from rfl]
    cases rg_farB (rg_Pt a (rg_Mi a k)) (rg_Pt a (rg_Mi a ((k+((rg_meas a).length-1)) % (rg_meas a).length))) r<;>cases rg_farB (rg_Pt a (rg_Mi a k)) (rg_Pt a (rg_Mi a ((k+1) % (rg_meas a).length))) r<;>rfl
  ·rw[KG hx,show a.Read.length-x=0 by omega];rfl
end
def rg_cleaned (a:Ring) (r:Int):Ring:=bif decide (r<0) then a else bif decide (((rg_meas a).length:Int)<2) then a else bif WB a !=0 then a else⟨a.Z,(rg_meas a).foldl (VA a r) a.Read⟩
theorem qTg (a:Ring) (r:Int) (h:a.Read.length<=1000):qAq a r=some (rg_cleaned a r):=by
 have hl:=PJ a;unfold qAq NX rg_cleaned;rw[qHr a h,qBV a h];simp only[kd,FE,WM];have hL:JK a r (jT (rg_meas a)) FUEL 0 a.Read=some ((rg_meas a).foldl (VA a r) a.Read):=by
  have:=qJv a r h FUEL 0 a.Read (by rw[wK];omega) (by omega) rfl
  rwa [uN] at this
 rw[hL];cases decide (r<0)<;>cases decide (((rg_meas a).length:Int)<2)<;>cases (WB a !=0)<;>rfl
theorem qWc (a:Ring) (r:Int) (h:a.Read.length<=1000):qG4 a r=some (rg_cleaned a r):=by
 have hl:=PJ a;obtain⟨L,_,hg⟩:=qEJ a h;unfold qG4 EQ rg_cleaned;rw[hg,qFk a h];simp only[kd,SA];have hw:w64 ((a.Read.length:Int)-((a.Read.length-(rg_meas a).length:Nat):Int))=((rg_meas a).length:Int):=by
  rw[qZ (by omega) (by omega)];omega
 have hL:YO a r FUEL 0 a.Read=some ((rg_meas a).foldl (VA a r) a.Read):=by
  have:=EY a r h FUEL 0 a.Read (by rw[wK];omega) (by omega) rfl;rw[gv,<-gX,<-List.foldl_filter] at this;exact this
 rw[hw,hL];cases decide (r<0)<;>cases decide (((rg_meas a).length:Int)<2)<;>cases (WB a !=0)<;>rfl
theorem qRz (a:Ring) (r:Int):(rg_cleaned a r).Read.length=a.Read.length:=by
 unfold rg_cleaned;cases decide (r<0)<;>cases decide (((rg_meas a).length:Int)<2)<;>cases (WB a !=0)<;>simp[qFZ]
theorem qU0 (a:Ring) (r:Int):(rg_cleaned a r).Z=a.Z:=by
 unfold rg_cleaned;cases decide (r<0)<;>cases decide (((rg_meas a).length:Int)<2)<;>cases (WB a !=0)<;>rfl
theorem IM {α:Type} [Inhabited α] {l t:List α} (h:l.length=t.length) (hj:∀j,j<l.length->l.getD j du=t.getD j du):l=t:=by
 apply gE h;intro i h1 h2;have:=hj i h1
 rwa [ka,ka,ks h1,ks h2] at this
theorem YH {α:Type} [Inhabited α] {l:List α} {x:Nat} (v:α) (h:x<l.length):(l.set x v).getD x du=v:=by
 rw[ka,uU h];rfl
theorem ZD {α:Type} [Inhabited α] {l:List α} {x j:Nat} (v:α) (h:x≠j):(l.set x v).getD j du=l.getD j du:=by
 rw[ka,gz h,<-ka]
theorem FW {α β:Type} [Inhabited α] [Inhabited β] (f:α->β) (l:List α) {j:Nat} (h:j<l.length):(l.map f).getD j du=f (l.getD j du):=by
 rw[ka,ka,kH,ks h];rfl
def yN (q:Nat) (p:qA):qA:=match q with
 |0=>p
 |1=>⟨-p.Y,p.X⟩
 |2=>⟨-p.X,-p.Y⟩
 |_=>⟨p.Y,-p.X⟩
def VR (p:qA):Prop:= -600<=p.X/\p.X<=600/\-600<=p.Y/\p.Y<=600
theorem qDN {r:qP} (h:KS r=0):VR r.P/\(r.Ok=false->r.P=⟨0,0⟩):=by
 unfold KS at h;cases ho:r.Ok with
 |true=>
  rw[ho] at h;cases hr:NM r.P with
  |false=>rw[hr] at h;simp at h
  |true=>
   simp only[NM,kq,decide_eq_true_eq] at hr;exact⟨⟨hr.1.1,hr.1.2,hr.2.1,hr.2.2⟩,λh=>by cases h⟩
 |false=>
  rw[ho] at h;cases hz:qDj r.P with
  |false=>rw[hz] at h;simp at h
  |true=>
   have:r.P=⟨0,0⟩:=by
    obtain⟨⟨x,y⟩,o⟩:=r;simp only[qDj,Bool.and_true,kq,beq_iff_eq] at hz;simp only at hz⊢;rw[hz.1,hz.2]
   rw[this];exact⟨⟨by decide,by decide,by decide,by decide⟩,λ_=>rfl⟩
theorem qS5 (r:Int):∃q:Nat,q<4/\Int.tmod (w64 (Int.tmod r 4+4)) 4=(q:Int):=by
 have h1:=uP r (show(0:Int)<4 by decide);have h2: -4<Int.tmod r 4:=by
  rcases gS 0 r with h|h
  ·have:=gI 4 h;omega
  ·have:=gI 4 (show 0<=-r by omega);have h3:=uP (-r) (show(0:Int)<4 by decide);rw[Int.neg_tmod] at this h3;omega
 rw[qZ (by omega) (by omega)];obtain⟨n,hn⟩:=Int.eq_ofNat_of_zero_le (show 0<=Int.tmod r 4+4 by omega);rw[hn];exact⟨n % 4,kK _ (by decide),rfl⟩
theorem qGd (l:List qA) (hs:∀p∈l,VR p) (h:l.length<=1000):∀(n x:Nat),l.length<x+n->x<=l.length->ZO l n (x:Int)=some (.inr ())
 |0,x,h1,h2=>by omega
 |n+1,x,h1,h2=>by
  unfold ZO;by_cases hx:x<l.length
  ·have hm:VR (l.getD x du):=hs _ (by rw[ka,ks hx];exact ut hx);rw[KI hx,zW (by omega) (by omega)];simp only[kp,kg,LO,wV x (by omega)];have e1:((l.getD x du).X== -9223372036854775808)=false:=kT.2 (by have:=hm.1;omega);have e2:((l.getD x du).Y== -9223372036854775808)=false:=kT.2 (by have:=hm.2.2.1;omega);rw[e1,e2];exact qGd l hs h n (x+1) (by omega) (by omega)
  ·rw[KG hx];rfl
theorem qPY (l:List qA) (hs:∀p∈l,VR p) (h:l.length<=1000):MU l=some true:=by
 unfold MU;have:=qGd l hs h FUEL 0 (by rw[wK];omega) (by omega);have h':ZO l FUEL 0=some (.inr ()):=this;rw[h'];rfl
theorem qPZ (q:Nat) (hq:q<4) (p:qA) (hs:VR p):
  qA.mk (w64 (w64 ((zM.getD q du).X*p.X)-w64 ((zM.getD q du).Y*p.Y))) (w64 (w64 ((zM.getD q du).Y*p.X)+w64 ((zM.getD q du).X*p.Y)))=yN q p:=by
 obtain⟨h1,h2,h3,h4⟩:=hs;obtain⟨x,y⟩:=p;simp only at h1 h2 h3 h4
 match q,hq with
 |0,_=>
  simp only[zM,ua,yN,Int.one_mul,Int.zero_mul];rw[qZ (n:=x) (by omega) (by omega),qZ (n:=y) (by omega) (by omega),qZ (n:=0) (by omega) (by omega),qZ (by omega) (by omega),qZ (by omega) (by omega)]
  congr 1<;>omega
 |1,_=>
  simp only[zM,ua,gF,yN,Int.one_mul,Int.zero_mul];rw[qZ (n:=x) (by omega) (by omega),qZ (n:=y) (by omega) (by omega),qZ (n:=0) (by omega) (by omega),qZ (by omega) (by omega),qZ (by omega) (by omega)]
  congr 1<;>omega
 |2,_=>
  simp only[zM,ua,gF,yN,Int.zero_mul];rw[qZ (n:= -1*x) (by omega) (by omega),qZ (n:= -1*y) (by omega) (by omega),qZ (n:=0) (by omega) (by omega),qZ (by omega) (by omega),qZ (by omega) (by omega)]
  congr 1<;>omega
 |3,_=>
  simp only[zM,ua,gF,yN,Int.zero_mul];rw[qZ (n:= -1*x) (by omega) (by omega),qZ (n:= -1*y) (by omega) (by omega),qZ (n:=0) (by omega) (by omega),qZ (by omega) (by omega),qZ (by omega) (by omega)]
  congr 1<;>omega
theorem qFG (l:List qA) (hs:∀p∈l,VR p) (h:l.length<=1000) (r:Int) (q:Nat) (hq:q<4) (hr:Int.tmod (w64 (Int.tmod r 4+4)) 4=(q:Int)):
  ∀(n x:Nat) (t:List qA),l.length<x+n->x<=l.length->t.length=l.length->(∀j,j<x->t.getD j du=yN q (l.getD j du))->DO l r n t (x:Int)=some (l.map (yN q))
 |0,x,t,h1,h2,_,_=>by omega
 |n+1,x,t,h1,h2,h3,h4=>by
  unfold DO;by_cases hx:x<l.length
  ·have hm:VR (l.getD x du):=hs _ (by rw[ka,ks hx];exact ut hx);rw[KI hx,zW (by omega) (by omega),zW (by omega) (by omega),hr];simp only[kp,kg,wV x (by omega)];rw[qPZ q hq _ hm];refine qFG l hs h r q hq hr n (x+1) _ (by omega) (by omega) (by rw[uR];exact h3) (λj hj=>?_);by_cases he:x=j
   ·subst he;rw[YH _ (by omega)]
   ·rw[ZD _ he];exact h4 j (by omega)
  ·rw[KG hx];have:t=l.map (yN q):=IM (by simp[h3]) (λj hj=>by rw[h4 j (by omega),FW _ _ (by omega)]);rw[this];rfl
theorem qRc (l:List qA) (hs:∀p∈l,VR p) (h:l.length<=1000) (r:Int) (q:Nat) (hq:q<4) (hr:Int.tmod (w64 (Int.tmod r 4+4)) 4=(q:Int)):qC2 l r=some (l.map (yN q)):=by
 unfold qC2;have hmk:mkOk (l.length:Int) 16=true:=by unfold mkOk;exact ki ⟨by omega,by omega,by omega⟩
 have hL:=qFG l hs h r q hq hr FUEL 0 (List.replicate l.length (qA.mk 0 0)) (by rw[wK];omega) (by omega) (by simp) (λj hj=>by omega);have hL':DO l r FUEL (List.replicate l.length (qA.mk 0 0)) 0=some (l.map (yN q)):=hL;rw[qPY l hs h,hr,hmk,zW (by omega) (by omega)];simp only[kd,ue,kv,kp,kg,hL']
def TD (q:Nat) (r:qP):qP:=⟨yN q r.P,r.Ok⟩
def qKO (q:Nat) (a:Ring):Ring:=⟨a.Z,a.Read.map (TD q)⟩
theorem qH4 (a:Ring) (h:a.Read.length<=1000):∀(n x:Nat) (t:List qA),a.Read.length<x+n->x<=a.Read.length->t.length=a.Read.length->(∀j,j<x->t.getD j du=(a.Read.getD j du).P)->
  DL a n t (x:Int)=some (a.Read.map (·.P))
 |0,x,t,h1,h2,_,_=>by omega
 |n+1,x,t,h1,h2,h3,h4=>by
  unfold DL;by_cases hx:x<a.Read.length
  ·rw[KI hx,zW (by omega) (by omega),zW (by omega) (by omega)];simp only[kp,kg,wV x (by omega)];refine qH4 a h n (x+1) _ (by omega) (by omega) (by rw[uR];exact h3) (λj hj=>?_);by_cases he:x=j
   ·subst he;rw[YH _ (by omega)]
   ·rw[ZD _ he];exact h4 j (by omega)
  ·rw[KG hx];have:t=a.Read.map (·.P):=IM (by simp[h3]) (λj hj=>by rw[h4 j (by omega),FW _ _ (by omega)]);rw[this];rfl
theorem qH7 (a:Ring) (h:a.Read.length<=1000) (q:Nat):∀(n x:Nat) (t:List qP),a.Read.length<x+n->x<=a.Read.length->t.length=a.Read.length->(∀j,j<x->t.getD j du=TD q (a.Read.getD j du))->(∀j,x<=j->t.getD j du=a.Read.getD j du)->
  GD ((a.Read.map (·.P)).map (yN q)) n (x:Int) t=some (a.Read.map (TD q))
 |0,x,t,h1,h2,_,_,_=>by omega
 |n+1,x,t,h1,h2,h3,h4,h5=>by
  unfold GD;rw[gy,gy];by_cases hx:x<a.Read.length
  ·rw[KI hx,zW (by omega) (by omega),zW (by omega) (by omega)];simp only[kp,kg,wV x (by omega)];rw[h5 x (ke _),FW _ _ (by simpa using hx),FW _ _ hx];refine qH7 a h q n (x+1) _ (by omega) (by omega) (by rw[uR];exact h3) (λj hj=>?_) (λj hj=>?_)
   ·by_cases he:x=j
    ·subst he;rw[YH _ (by omega)];rfl
    ·rw[ZD _ he];exact h4 j (by omega)
   ·rw[ZD _ (by omega)];exact h5 j (by omega)
  ·rw[KG hx];have:t=a.Read.map (TD q):=IM (by simp[h3]) (λj hj=>by rw[h4 j (by omega),FW _ _ (by omega)]);rw[this];rfl
theorem qUM (a:Ring) (r:Int) (g:yG a) (q:Nat) (hq:q<4) (hr:Int.tmod (w64 (Int.tmod r 4+4)) 4=(q:Int)):yX a r=some (qKO q a):=by
 have hn:=g.hi;unfold yX;have hmk:mkOk (a.Read.length:Int) 16=true:=by unfold mkOk;exact ki ⟨by omega,by omega,by omega⟩
 have hL:DL a FUEL (List.replicate a.Read.length (qA.mk 0 0)) 0=some (a.Read.map (·.P)):=qH4 a (by omega) FUEL 0 _ (by rw[wK];omega) (by omega) (by simp) (λj hj=>by omega);have hL2:GD ((a.Read.map (·.P)).map (yN q)) FUEL 0 a.Read=some (a.Read.map (TD q)):=qH7 a (by omega) q FUEL 0 _ (by rw[wK];omega) (by omega) rfl (λj hj=>by omega) (λ_ _=>rfl);have hp:=qRc (a.Read.map (·.P)) (λp hp=>by
  obtain⟨x,hx,rfl⟩:=ge.1 hp;exact(qDN (g.all x hx)).1) (by simpa using by omega) r q hq hr
 rw[qHr a (by omega),FE,(XD a).2 g,hmk];simp only[kd,kQ,kv,kp,kg,hL,hp,hL2];rfl
theorem qOi (a:Ring) (r:Int) (h:a.Read.length<=1000) (hb:¬yG a):yX a r=some a:=by
 unfold yX;have:(WB a !=0)=true:=gg.2 (λh=>hb ((XD a).1 h));rw[qHr a h,FE];simp only[kd,this,kp]
theorem qRt (q:Nat) (hq:q<4) (p:qA) (hs:VR p):qFB p (q:Int)=some (yN q p):=by
 unfold qFB;rw[wK,show(9223372036854775808:Nat)=9223372036854775803+1+1+1+1+1 from rfl];obtain⟨h1,h2,h3,h4⟩:=hs;obtain⟨x,y⟩:=p;simp only at h1 h2 h3 h4;have ws:∀z:Int,-600<=z->z<=600->w64 (0-z)= -z:=λz h1 h2=>by rw[qZ (by omega) (by omega)];omega
 have e1:w64 (0+1)=1:=by kernel_rfl
 have e2:w64 (1+1)=2:=by kernel_rfl
 have e3:w64 (2+1)=3:=by kernel_rfl
 have stop:∀(n:Nat) (z:qA),WS (q:Int) (n+1) (q:Int) z=some z:=λn z=>by
  rw[WS];simp
 have go:∀(n:Nat) (i:Int) (z:qA),i<(q:Int)->WS (q:Int) (n+1) i z=WS (q:Int) n (w64 (i+1)) ⟨w64 (0-z.Y),z.X⟩:=λn i z hi=>by
  rw[WS,ki hi];rfl
 match q,hq with
 |0,_=>rw[show(0:Int)=((0:Nat):Int) from rfl,stop];rfl
 |1,_=>
  rw[go _ _ _ (by decide),e1,show(1:Int)=((1:Nat):Int) from rfl,stop];simp only[kd,yN,ws y h3 h4]
 |2,_=>
  rw[go _ _ _ (by decide),e1,go _ _ _ (by decide),e2,show(2:Int)=((2:Nat):Int) from rfl,stop];simp only[kd,yN,ws y h3 h4,ws x h1 h2]
 |3,_=>
  rw[go _ _ _ (by decide),e1,go _ _ _ (by decide),e2,go _ _ _ (by decide),e3,show(3:Int)=((3:Nat):Int) from rfl,stop];simp only[kd,yN,ws y h3 h4,ws x h1 h2,ws (-y) (by omega) (by omega),Int.neg_neg]
theorem qSK (q:Nat):yN q ⟨0,0⟩=⟨0,0⟩:=by
 unfold yN;split<;>rfl
theorem qAe (a:Ring) (g:yG a) (r:Int) (q:Nat) (hq:q<4) (hr:Int.tmod (w64 (Int.tmod r 4+4)) 4=(q:Int)):∀(n x:Nat) (t:List qP),a.Read.length<x+n->x<=a.Read.length->t.length=a.Read.length->(∀j,j<x->t.getD j du=TD q (a.Read.getD j du))->(∀j,x<=j->t.getD j du=a.Read.getD j du)->
  TT r n (x:Int) t=some (a.Read.map (TD q))
 |0,x,t,h1,h2,_,_,_=>by omega
 |n+1,x,t,h1,h2,h3,h4,h5=>by
  have hn:=g.hi;unfold TT;rw[h3];by_cases hx:x<a.Read.length
  ·have hmem:a.Read.getD x du∈a.Read:=by rw[ka,ks hx];exact ut hx
   have hm:=qDN (g.all _ hmem);rw[KI hx,zW (by omega) (by omega)];simp only[kp,kg,wV x (by omega),qDE,h5 x (ke _),GQ,hr,kd,qRt q hq _ hm.1];cases ho:(a.Read.getD x du).Ok with
   |true=>
    refine qAe a g r q hq hr n (x+1) _ (by omega) (by omega) (by rw[uR];exact h3) (λj hj=>?_) (λj hj=>?_)
    ·by_cases he:x=j
     ·subst he;rw[YH _ (by omega)];unfold TD;rw[ho]
     ·rw[ZD _ he];exact h4 j (by omega)
    ·rw[ZD _ (by omega)];exact h5 j (by omega)
   |false=>
    refine qAe a g r q hq hr n (x+1) t (by omega) (by omega) h3 (λj hj=>?_) (λj hj=>h5 j (by omega));by_cases he:x=j
    ·subst he;rw[h5 x (ke _)];unfold TD;rw[hm.2 ho,qSK,<-hm.2 ho]
    ·exact h4 j (by omega)
  ·rw[KG hx];have:t=a.Read.map (TD q):=IM (by simp[h3]) (λj hj=>by rw[h4 j (by omega),FW _ _ (by omega)]);rw[this];rfl
theorem qWz (a:Ring) (r:Int) (g:yG a) (q:Nat) (hq:q<4) (hr:Int.tmod (w64 (Int.tmod r 4+4)) 4=(q:Int)):NB a r=some (qKO q a):=by
 have hn:=g.hi;unfold NB;have hL:TT r FUEL 0 a.Read=some (a.Read.map (TD q)):=qAe a g r q hq hr FUEL 0 _ (by rw[wK];omega) (by omega) rfl (λj hj=>by omega) (λ_ _=>rfl);rw[qFk a (by omega),SA,(XD a).2 g];simp only[kd,kQ,kv,hL];rfl
theorem qPV (a:Ring) (r:Int) (h:a.Read.length<=1000) (hb:¬yG a):NB a r=some a:=by
 unfold NB;have:(WB a !=0)=true:=gg.2 (λh=>hb ((XD a).1 h));rw[qFk a h,SA];simp only[kd,this,kp]
theorem qTa (a:Ring) (r:Int) (h:a.Read.length<=1000):∃b,yX a r=some b/\NB a r=some b/\b.Read.length=a.Read.length:=by
 obtain⟨q,hq,hr⟩:=qS5 r;by_cases g:yG a
 ·exact⟨_,qUM a r g q hq hr,qWz a r g q hq hr,by simp[qKO]⟩
 ·exact⟨_,qOi a r h g,qPV a r h g,rfl⟩
end Saw
end Go.SL
set_option linter.unusedSectionVars false
namespace Go.SL
namespace Saw
theorem qJE (a b:Int) (hb:0<b):Int.tmod a b+b*Int.tdiv a b=a/\Int.tmod a b<b/\-b<Int.tmod a b/\(Int.tdiv a b).natAbs<=a.natAbs:=by
 refine⟨Int.tmod_add_mul_tdiv a b,uP a hb,?_,?_⟩
 ·rcases gS 0 a with h|h
  ·have:=gI b h;omega
  ·have h3:=uP (-a) hb;rw[Int.neg_tmod] at h3;omega
 ·rw[Int.natAbs_tdiv];exact Nat.div_le_self _ _
theorem qEr {a b q r:Int} (hb:0<b) (h:r+b*q=a) (h0:0<=r) (h1:r<b):a/b=q:=(Int.ediv_emod_unique hb).2 ⟨h,h0,h1⟩|>.1
theorem qM5 (a b:Int) (hb:0<b) (h1: -4611686018427387904<=a) (h2:a<=4611686018427387904):EM a b=some (a/b):=by
 obtain⟨e,l,g,n⟩:=qJE a b hb;unfold EM OD;rw[DN (by omega),qZ (n:=Int.tdiv a b) (by omega) (by omega)];by_cases h:Int.tmod a b<0
 ·rw[ki h,qZ (by omega) (by omega)];have:a/b=Int.tdiv a b-1:=qEr hb (r:=Int.tmod a b+b) (by rw[gL,Int.mul_one];omega) (by omega) (by omega);rw[this];rfl
 ·rw[kf h];have:a/b=Int.tdiv a b:=qEr hb (r:=Int.tmod a b) e (by omega) l;rw[this];rfl
theorem qGC (a b:Int) (hb:0<b) (h3:b<=4611686018427387904) (h1: -4611686018427387904<=a) (h2:a<=4611686018427387904):qCL a b=some (a/b):=by
 obtain⟨e,l,g,n⟩:=qJE a b hb;have hc:Int.tdiv a b*b=b*Int.tdiv a b:=Int.mul_comm _ _;unfold qCL qB4;rw[DN (by omega),qZ (n:=Int.tdiv a b) (by omega) (by omega),qZ (n:=Int.tdiv a b*b) (by omega) (by omega)];by_cases h:Int.tmod a b<0
 ·rw[ki (by omega),qZ (by omega) (by omega)];have:a/b=Int.tdiv a b-1:=qEr hb (r:=Int.tmod a b+b) (by rw[gL,Int.mul_one];omega) (by omega) (by omega);rw[this];rfl
 ·rw[kf (by omega)];have:a/b=Int.tdiv a b:=qEr hb (r:=Int.tmod a b) e (by omega) l;rw[this];rfl
def NZ (x y:Int) (j g:Nat):Int:=x+(y-x)*(j:Int)/((g+1:Nat):Int)
theorem qMQ (x y:Int) (g:Nat):NZ x y 0 g=x:=by simp[NZ]
theorem qMV {d:Int} (j g:Nat) (hj:j<=g+1) (hd:0<=d):0<=d*(j:Int)/\d*(j:Int)<=d*((g+1:Nat):Int):=
 ⟨kC hd (by omega),Int.mul_le_mul_of_nonneg_left (by omega) hd⟩
theorem qRi (x y:Int) (j g:Nat) (hj:j<=g+1):(x<=y->x<=NZ x y j g/\NZ x y j g<=y)/\(y<=x->y<=NZ x y j g/\NZ x y j g<=x):=by
 have hp:(0:Int)<((g+1:Nat):Int):=by omega
 unfold NZ;constructor
 ·intro h;obtain⟨h1,h2⟩:=qMV j g hj (show 0<=y-x by omega);have h3:=Int.ediv_nonneg h1 (df hp);have h4:=Int.ediv_le_ediv hp h2;rw[Int.mul_ediv_cancel _ (by omega)] at h4;omega
 ·intro h;obtain⟨h1,h2⟩:=qMV j g hj (show 0<=x-y by omega);have e:(y-x)*(j:Int)= -((x-y)*(j:Int)):=by rw[<-Int.neg_mul];congr 1;omega
  rw[e];have h3: -((x-y)*(j:Int))/((g+1:Nat):Int)<=0/((g+1:Nat):Int):=Int.ediv_le_ediv hp (by omega);have h4: -((x-y)*((g+1:Nat):Int))/((g+1:Nat):Int)<=-((x-y)*(j:Int))/((g+1:Nat):Int):=Int.ediv_le_ediv hp (by omega);rw[<-Int.neg_mul,Int.mul_ediv_cancel _ (by omega)] at h4;rw[Int.zero_ediv] at h3;omega
def rg_val (a:Ring) (k d:Nat):qA:=⟨NZ (rg_Pt a (rg_Mi a k)).X (rg_Pt a (rg_nb a k 1)).X d (rg_gap a k),NZ (rg_Pt a (rg_Mi a k)).Y (rg_Pt a (rg_nb a k 1)).Y d (rg_gap a k)⟩
theorem qML (a:Ring) (k:Nat):rg_val a k 0=rg_Pt a (rg_Mi a k):=by unfold rg_val;rw[qMQ,qMQ]
theorem qCK {a:Ring} (g:yG a) (i:Nat):VR (rg_Pt a i):=by
 unfold rg_Pt;by_cases h:i<a.Read.length
 ·refine(qDN (g.all _ ?_)).1;rw[ka,ks h];exact ut h
 ·rw[ka,List.getElem?_eq_none (by omega)];exact⟨by decide,by decide,by decide,by decide⟩
theorem qCv (x y:Int) (j g:Nat) (hx: -600<=x) (hx':x<=600) (hy: -600<=y) (hy':y<=600) (hj:j<=g+1) (hg:g<=100):
  w64 (w64 (y-x)*(j:Int))=(y-x)*(j:Int)/\w64 (x+(y-x)*(j:Int)/((g+1:Nat):Int))=NZ x y j g/\-4611686018427387904<=(y-x)*(j:Int)/\(y-x)*(j:Int)<=4611686018427387904:=by
 have hb:=qRi x y j g hj;have hm:w64 (x+(y-x)*(j:Int)/((g+1:Nat):Int))=NZ x y j g:=by
  show w64 (NZ x y j g)=_;rcases gS x y with h|h
  ·have:=hb.1 h;exact qZ (by omega) (by omega)
  ·have:=hb.2 h;exact qZ (by omega) (by omega)
 have hr: -1300000<=(y-x)*(j:Int)/\(y-x)*(j:Int)<=1300000:=by
  have h1:(y-x)*(j:Int)<=1200*(j:Int):=Int.mul_le_mul_of_nonneg_right (by omega) (by omega);have h2:(-1200)*(j:Int)<=(y-x)*(j:Int):=Int.mul_le_mul_of_nonneg_right (by omega) (by omega);omega
 refine⟨?_,hm,by omega,by omega⟩;rw[qZ (n:=y-x) (by omega) (by omega),qZ (by omega) (by omega)]
section
variable (a :Ring) (g:yG a)
include g
theorem qGN {k:Nat} (hk:k<(rg_meas a).length):∀(n x:Nat) (l:List qA),rg_gap a k+1<x+n->1<=x->x<=rg_gap a k+1->l.length=a.Read.length->
  ∃r,RF a (jT (rg_meas a)) (k:Int) ((rg_gap a k:Nat):Int) n l (x:Int)=some r/\r.length=a.Read.length/\
   (∀q,(∀d,x<=d->d<=rg_gap a k->q≠(rg_Mi a k+d) % a.Read.length)->r.getD q du=l.getD q du)/\(∀d,x<=d->d<=rg_gap a k->r.getD ((rg_Mi a k+d) % a.Read.length) du=rg_val a k d)
 |0,x,l,h1,h2,h3,h4=>by omega
 |n+1,x,l,h1,h2,h3,h4=>by
  have hn:=g.hi;have hlo:=g.lo;have hg:=XI hk;have h0:=zZ hk;have hml:=PJ a;unfold RF;by_cases hx:x<=rg_gap a k
  ·have hlt:(rg_Mi a k+x) % a.Read.length<a.Read.length:=kK _ (by omega);have hk1:(k+1) % (rg_meas a).length<(rg_meas a).length:=kK _ (by omega);have hp:=qCK g (rg_Mi a k);have hq:=qCK g (rg_nb a k 1);obtain⟨e1,e2,e3,e4⟩:=qCv (rg_Pt a (rg_Mi a k)).X (rg_Pt a (rg_nb a k 1)).X x (rg_gap a k) hp.1 hp.2.1 hq.1 hq.2.1 (by omega) (by omega);obtain⟨f1,f2,f3,f4⟩:=qCv (rg_Pt a (rg_Mi a k)).Y (rg_Pt a (rg_nb a k 1)).Y x (rg_gap a k) hp.2.2.1 hp.2.2.2 hq.2.2.1 hq.2.2.2 (by omega) (by omega);have c1:decide ((x:Int)<=((rg_gap a k:Nat):Int))=true:=ki (by omega)
   have w1:w64 (((rg_gap a k:Nat):Int)+1)=((rg_gap a k+1:Nat):Int):=wV _ (by omega);have w2:w64 (((rg_Mi a k:Nat):Int)+(x:Int))=((rg_Mi a k+x:Nat):Int):=by rw[qZ (by omega) (by omega)];omega
   rw[c1,h4,DN (by omega),WM,wV k (by omega),yT];simp only[kp,kg,GX];rw[show(rg_meas a).getD ((k+1) % (rg_meas a).length) 0=rg_nb a k 1 from rfl,show(rg_meas a).getD k 0=rg_Mi a k from rfl];rw[show(a.Read.getD (rg_Mi a k) du).P=rg_Pt a (rg_Mi a k) from rfl,show(a.Read.getD (rg_nb a k 1) du).P=rg_Pt a (rg_nb a k 1) from rfl,w1,w2,yT,e1,f1,qM5 _ _ (by omega) e3 e4,qM5 _ _ (by omega) f3 f4,zW (show 0<=(((rg_Mi a k+x) % a.Read.length:Nat):Int) by omega) (by omega)];simp only[kd,kp,e2,f2,kg,wV x (by omega)]
   obtain⟨r,hr,r1,r2,r3⟩:=qGN hk n (x+1) (l.set ((rg_Mi a k+x) % a.Read.length) (rg_val a k x)) (by omega) (by omega) (by omega) (by rw[uR];exact h4);refine⟨r,hr,r1,λq hq=>?_,λd hd1 hd2=>?_⟩
   ·rw[r2 q (λd hd=>hq d (by omega)),ZD _ (λh=>hq x (ke _) hx h.symm)]
   ·by_cases he:d=x
    ·subst he;rw[r2 _ (λe he1 he2 hc=>?_),YH _ (by omega)]
     -- two places of one rg_gap differ
     have hM:=h0.1;rcases uM (rg_Mi a k+d) a.Read.length with u|u<;>rcases uM (rg_Mi a k+e) a.Read.length with v|v
     ·rw[zT u,zT v] at hc;omega
     ·rw[zT u,QS v (by omega)] at hc;omega
     ·omega
     ·rw[QS u (by omega),QS v (by omega)] at hc;omega
    ·exact r3 d (by omega) hd2
  ·have c1:decide ((x:Int)<=((rg_gap a k:Nat):Int))=false:=kf (by omega);rw[c1];exact⟨l,rfl,h4,λ_ _=>rfl,λd h1 h2=>by omega⟩
theorem qKn {k d k' d':Nat} (hk:k<(rg_meas a).length) (hk':k'<(rg_meas a).length) (hd:d<=rg_gap a k) (hd':d'<=rg_gap a k') (h:(rg_Mi a k+d) % a.Read.length=(rg_Mi a k'+d') % a.Read.length):k=k'/\d=d':=by
 have key:∀{k d k' d':Nat},k<(rg_meas a).length->k'<(rg_meas a).length->d<=rg_gap a k->d'<=rg_gap a k'->d<=d'->(rg_Mi a k+d) % a.Read.length=(rg_Mi a k'+d') % a.Read.length->k=k'/\d=d':=by
  intro k d k' d' hk hk' hd hd' hdd h;have h0:=zZ hk;have h1:=zZ hk';have g0:=XI hk;have g1:=XI hk';have hc:(rg_Mi a k'+(d'-d)) % a.Read.length=rg_Mi a k:=by
   have hM:=h0.1;have hM':=h1.1;rcases uM (rg_Mi a k'+(d'-d)) a.Read.length with w|w
   ·rw[zT w];rcases uM (rg_Mi a k+d) a.Read.length with u|u<;>rcases uM (rg_Mi a k'+d') a.Read.length with v|v
    ·rw[zT u,zT v] at h;omega
    ·rw[zT u,QS v (by omega)] at h;omega
    ·rw[QS u (by omega),zT v] at h;omega
    ·rw[QS u (by omega),QS v (by omega)] at h;omega
   ·rw[QS w (by omega)];rcases uM (rg_Mi a k+d) a.Read.length with u|u<;>rcases uM (rg_Mi a k'+d') a.Read.length with v|v
    ·rw[zT u,zT v] at h;omega
    ·rw[zT u,QS v (by omega)] at h;omega
    ·rw[QS u (by omega),zT v] at h;omega
    ·rw[QS u (by omega),QS v (by omega)] at h;omega
  by_cases hz:d'-d=0
  ·rw[hz,kY,zT h1.1] at hc;exact⟨(qSo hk' hk hc).symm,by omega⟩
  ·have:=NJ hk' (show 1<=d'-d by omega) (by omega);rw[hc,h0.2] at this;cases this
 rcases Nat.le_total d d' with hle|hle
 ·exact key hk hk' hd hd' hle h
 ·have:=key hk' hk hd' hd hle h.symm;exact⟨this.1.symm,this.2.symm⟩
theorem qGh :∀(n x:Nat) (l:List qA),(rg_meas a).length<x+n->x<=(rg_meas a).length->l.length=a.Read.length->(∀k d,k<x->d<=rg_gap a k->l.getD ((rg_Mi a k+d) % a.Read.length) du=rg_val a k d)->
  ∃r,YP a (jT (rg_meas a)) n l (x:Int)=some r/\r.length=a.Read.length/\∀k d,k<(rg_meas a).length->d<=rg_gap a k->r.getD ((rg_Mi a k+d) % a.Read.length) du=rg_val a k d
 |0,x,l,h1,h2,_,_=>by omega
 |n+1,x,l,h1,h2,h3,h4=>by
  have hn:=g.hi;have hml:=PJ a;unfold YP;by_cases hx:x<(rg_meas a).length
  ·have h0:=zZ hx;have hg:=XI hx;have hk1:(x+1) % (rg_meas a).length<(rg_meas a).length:=kK _ (by omega);have h5:=zZ hk1;rw[WM,KI hx,zW (by omega) (by omega),DN (by omega),wV x (by omega),yT,zW (n:=(rg_meas a).length) (show 0<=(((x+1) % (rg_meas a).length:Nat):Int) by omega) (by omega)];simp only[kp,kg,GX]
   rw[show(rg_meas a).getD ((x+1) % (rg_meas a).length) 0=rg_Mi a ((x+1) % (rg_meas a).length) from rfl,show(rg_meas a).getD x 0=rg_Mi a x from rfl,h3,zW (show 0<=((rg_Mi a x:Nat):Int) by omega) (by omega),zW (show 0<=((rg_Mi a ((x+1) % (rg_meas a).length):Nat):Int) by omega) (by omega),qKd a (by omega) hx];simp only[kp,kg,kd];obtain⟨r,hr,r1,r2,r3⟩:=qGN a g hx FUEL 1 (l.set (rg_Mi a x) (rg_Pt a (rg_Mi a x))) (by rw[wK];omega) (by omega) (by omega) (by rw[uR];exact h3)
   have hr':RF a (jT (rg_meas a)) (x:Int) ((rg_gap a x:Nat):Int) FUEL (l.set (rg_Mi a x) ((a.Read.getD (rg_Mi a x) du).P)) 1=some r:=hr;rw[hr'];refine qGh n (x+1) r (by omega) (by omega) r1 (λk d hk hd=>?_);have hkm:k<(rg_meas a).length:=by omega
   by_cases he:k=x
   ·subst he;by_cases hz:d=0
    ·subst hz;have hne:∀e,1<=e->e<=rg_gap a k->rg_Mi a k≠(rg_Mi a k+e) % a.Read.length:=λe h1 h2 hc=>by
      have:=NJ hkm h1 h2;rw[<-hc,h0.2] at this;cases this
     rw[kY,zT h0.1,r2 _ hne,YH _ (by omega),qML]
    ·exact r3 d (by omega) hd
   ·rw[r2 _ (λe h1 h2 hc=>he (qKn a g hkm hx hd h2 hc).1),ZD _ (λhc=>?_),h4 k d (by omega) hd];refine he (qKn a g hkm hx hd (kw _) ?_).1;rw[kY,zT h0.1];exact hc.symm
  ·rw[WM,KG hx];exact⟨l,rfl,h3,λk d hk=>h4 k d (by omega)⟩
theorem qMK (hm:1<=(rg_meas a).length) {q:Nat} (hq:q<a.Read.length):∃k d,k<(rg_meas a).length/\d<=rg_gap a k/\(rg_Mi a k+d) % a.Read.length=q/\(d=0↔rg_okAt a q=true):=by
 cases ho:rg_okAt a q with
 |true=>
  obtain⟨k,hk,e⟩:=IL hq ho;exact⟨k,0,hk,kw _,by rw[kY,e,zT hq],by simp⟩
 |false=>
  obtain⟨k,d,hk,h1,h2,h3⟩:=qSt hm hq ho;exact⟨k,d,hk,h2,h3,by simp;omega⟩
theorem qVB (hm:2<=(rg_meas a).length) {k:Nat} (hk:k<(rg_meas a).length):rg_gap a k+1<a.Read.length:=by
 have h0:=zZ hk;unfold rg_gap;split
 ·rename_i h;have h1:=zZ h;have:=OL (a:=a) (show k<k+1 by omega) h;omega
 ·have:=OL (a:=a) (show 0<k by omega) hk;omega
theorem qDm (r:List qA) (hr1:r.length=a.Read.length) (hm:2<=(rg_meas a).length) (hr:∀k d,k<(rg_meas a).length->d<=rg_gap a k->r.getD ((rg_Mi a k+d) % a.Read.length) du=rg_val a k d):
  ∀(n x:Nat),a.Read.length<x+n->x<=a.Read.length->WZ a n (r.take x) (x:Int)=some r
 |0,x,h1,h2=>by omega
 |n+1,x,h1,h2=>by
  have hn:=g.hi;have hlo:=g.lo;unfold WZ;by_cases hx:x<a.Read.length
  ·have hlen:(r.take x).length=x:=by rw[uc];omega
   have htk:r.take (x+1)=r.take x++[r.getD x du]:=by
    rw[gN,ks (by omega),ka,ks (by omega)];rfl
   obtain⟨k,d,hk,hd,hq,hz⟩:=qMK a g (by omega) hx;have h0:=zZ hk;have hg:=XI hk;have ih:=qDm r hr1 hm hr n (x+1) (by omega) (by omega);rw[KI hx,zW (by omega) (by omega),hlen,qGt (by omega)];simp only[kp,kg,qAk,wV x (by omega)];rw[show(a.Read.getD x du).Ok=rg_okAt a x from rfl];have hv:=hr k d hk hd;rw[hq] at hv;rw[htk,hv] at ih;cases ho:rg_okAt a x with
   |true=>
    have hd0:=hz.2 ho;subst hd0;rw[qML] at ih;rw[kY,zT h0.1] at hq;subst hq;exact ih
   |false=>
    have hd0:1<=d:=by
     rcases dd d with h|h
     ·rw[hz.1 h] at ho;cases ho
     ·exact h
    have hk1:(k+1) % (rg_meas a).length<(rg_meas a).length:=kK _ (by omega);have h5:=zZ hk1;have hup:=qP9 a (by omega) hk hd;have hdn:=qPw a (by omega) hk hd0 (by omega);rw[hq] at hup hdn;rw[hup,hdn];have hM:=h0.1;have g3:=qVB a g hm hk;have q1:Int.tmod (w64 (w64 ((x:Int)-((rg_Mi a k:Nat):Int))+(a.Read.length:Int))) (a.Read.length:Int)=(d:Int):=by
     rw[qZ (n:=(x:Int)-_) (by omega) (by omega),qZ (by omega) (by omega)];rcases uM (rg_Mi a k+d) a.Read.length with u|u
     ·rw[zT u] at hq;rw[show(x:Int)-((rg_Mi a k:Nat):Int)+(a.Read.length:Int)=((d+a.Read.length:Nat):Int) by omega,yT,uE,zT (by omega)]
     ·rw[QS u (by omega)] at hq;rw[show(x:Int)-((rg_Mi a k:Nat):Int)+(a.Read.length:Int)=((d:Nat):Int) by omega,yT,zT (by omega)]
    have hgn:=IB hk;have q2:Int.tmod (w64 (w64 (((rg_Mi a ((k+1) % (rg_meas a).length):Nat):Int)-((rg_Mi a k:Nat):Int))+(a.Read.length:Int))) (a.Read.length:Int)=((rg_gap a k+1:Nat):Int):=by
     rw[qZ (n:=_-_) (by omega) (by omega),qZ (by omega) (by omega)];rcases uM (rg_Mi a k+(rg_gap a k+1)) a.Read.length with u|u
     ·rw[zT u] at hgn;rw[show((rg_Mi a ((k+1) % (rg_meas a).length):Nat):Int)-((rg_Mi a k:Nat):Int)+(a.Read.length:Int)=((rg_gap a k+1+a.Read.length:Nat):Int) by omega,yT,uE,zT (by omega)]
     ·rw[QS u (by omega)] at hgn;rw[show((rg_Mi a ((k+1) % (rg_meas a).length):Nat):Int)-((rg_Mi a k:Nat):Int)+(a.Read.length:Int)=((rg_gap a k+1:Nat):Int) by omega,yT,zT (by omega)]
    have hp:=qCK g (rg_Mi a k);have hqq:=qCK g (rg_nb a k 1);obtain⟨e1,e2,e3,e4⟩:=qCv (rg_Pt a (rg_Mi a k)).X (rg_Pt a (rg_nb a k 1)).X d (rg_gap a k) hp.1 hp.2.1 hqq.1 hqq.2.1 (by omega) (by omega);obtain⟨f1,f2,f3,f4⟩:=qCv (rg_Pt a (rg_Mi a k)).Y (rg_Pt a (rg_nb a k 1)).Y d (rg_gap a k) hp.2.2.1 hp.2.2.2 hqq.2.2.1 hqq.2.2.2 (by omega) (by omega);simp only[kv,kd,kg];rw[DN (by omega),zW (show 0<=((rg_Mi a k:Nat):Int) by omega) (by omega),zW (show 0<=((rg_Mi a ((k+1) % (rg_meas a).length):Nat):Int) by omega) (by omega),q1,q2]
    rw[show(a.Read.getD (rg_Mi a k) du).P=rg_Pt a (rg_Mi a k) from rfl,show(a.Read.getD (rg_Mi a ((k+1) % (rg_meas a).length)) du).P=rg_Pt a (rg_nb a k 1) from rfl,e1,f1,qGC _ _ (by omega) (by omega) e3 e4,qGC _ _ (by omega) (by omega) f3 f4];simp only[kp,kd,e2,f2];exact ih
  ·rw[KG hx,uV (by omega)];rfl
theorem qWN (hm:2<=(rg_meas a).length):∃r,r.length=a.Read.length/\(∀k d,k<(rg_meas a).length->d<=rg_gap a k->r.getD ((rg_Mi a k+d) % a.Read.length) du=rg_val a k d)/\
  YP a (jT (rg_meas a)) FUEL (List.replicate ((a.Read.length:Int).toNat) (qA.mk 0 0)) 0=some r/\WZ a FUEL [] 0=some r:=by
 have hn:=g.hi;have hml:=PJ a;obtain⟨r,h1,h2,h3⟩:=qGh a g FUEL 0 (List.replicate ((a.Read.length:Int).toNat) (qA.mk 0 0)) (by rw[wK];omega) (by omega) (by simp) (λk d h=>by omega);refine⟨r,h2,h3,h1,?_⟩;have:=qDm a g r h2 hm h3 FUEL 0 (by rw[wK];omega) (by omega);rw[List.take_zero] at this;exact this
end
noncomputable def fill (a:Ring):List qA:=Classical.epsilon λr=>r.length=a.Read.length/\∀k d,k<(rg_meas a).length->d<=rg_gap a k->r.getD ((rg_Mi a k+d) % a.Read.length) du=rg_val a k d
def qAZ (a:Ring):Int:=match CR a with
 |some x=>x.2
 |none=>0
def rg_canFill (a:Ring) (most:Int):Bool:=!decide (((rg_meas a).length:Int)<3)&&!(decide (((a.Read.length-(rg_meas a).length:Nat):Int)>0)&&decide (qAZ a>most))
theorem qRX (a:Ring) (g:yG a) (hm:2<=(rg_meas a).length) {r:List qA} (h1:r.length=a.Read.length) (h2:∀k d,k<(rg_meas a).length->d<=rg_gap a k->r.getD ((rg_Mi a k+d) % a.Read.length) du=rg_val a k d):r=fill a:=by
 have:=Classical.epsilon_spec (p:=λr:List qA=>r.length=a.Read.length/\∀k d,k<(rg_meas a).length->d<=rg_gap a k->r.getD ((rg_Mi a k+d) % a.Read.length) du=rg_val a k d) ⟨r,h1,h2⟩;refine IM (h1.trans this.1.symm) (λj hj=>?_);obtain⟨k,d,hk,hd,hq,_⟩:=qMK a g (by omega) (show j<a.Read.length by omega);rw[<-hq,h2 k d hk hd];exact(this.2 k d hk hd).symm
theorem qE8 (a:Ring) (g:yG a) (hm:2<=(rg_meas a).length):(fill a).length=a.Read.length/\(∀k d,k<(rg_meas a).length->d<=rg_gap a k->(fill a).getD ((rg_Mi a k+d) % a.Read.length) du=rg_val a k d)/\
  YP a (jT (rg_meas a)) FUEL (List.replicate ((a.Read.length:Int).toNat) (qA.mk 0 0)) 0=some (fill a)/\WZ a FUEL [] 0=some (fill a):=by
 obtain⟨r,h1,h2,h3,h4⟩:=qWN a g hm;obtain rfl:=qRX a g hm h1 h2;exact⟨h1,h2,h3,h4⟩
theorem qRu (a:Ring) (g:yG a) (most:Int):IK a most=some (bif rg_canFill a most then(fill a,0) else([],30)):=by
 have hn:=g.hi;have hml:=PJ a;obtain⟨L,hL,_⟩:=qEJ a (by omega);unfold IK GR rg_canFill;have hlo:qAZ a=(L:Int):=by unfold qAZ;rw[hL]
 have hmk:mkOk (a.Read.length:Int) 16=true:=by unfold mkOk;exact ki ⟨by omega,by omega,by omega⟩
 rw[FE,(XD a).2 g,qBV a (by omega),hL,hlo,hmk];simp only[kd,kQ,kv,WM];by_cases h3:((rg_meas a).length:Int)<3
 ·rw[ki h3];rfl
 ·rw[kf h3,(qE8 a g (by omega)).2.2.1];cases decide (((a.Read.length-(rg_meas a).length:Nat):Int)>0)<;>cases decide ((L:Int)>most)<;>rfl
theorem qTu (a:Ring) (g:yG a) (most:Int):qFp a most=some (bif rg_canFill a most then(fill a,0) else([],30)):=by
 have hn:=g.hi;have hml:=PJ a;obtain⟨L,hL,hR⟩:=qEJ a (by omega);unfold qFp MB rg_canFill;have hlo:qAZ a=(L:Int):=by unfold qAZ;rw[hL]
 rw[SA,(XD a).2 g,hR,hlo];simp only[kd,kQ,kv];rw[qZ (by omega) (by omega),show(a.Read.length:Int)-((a.Read.length-(rg_meas a).length:Nat):Int)=((rg_meas a).length:Int) by omega];by_cases h3:((rg_meas a).length:Int)<3
 ·rw[ki h3];rfl
 ·rw[kf h3,(qE8 a g (by omega)).2.2.2];cases decide (((a.Read.length-(rg_meas a).length:Nat):Int)>0)<;>cases decide ((L:Int)>most)<;>rfl
theorem qMO (a:Ring) (r:Int):∀(m:List Nat) (l:List qP) (j:Nat),j<l.length->(m.foldl (VA a r) l).getD j du=bif decide (j∈m)&&rg_dropB a r j then qIZ else l.getD j du
 |[],l,j,_=>by simp
 |i::m,l,j,hj=>by
  rw[uG,qMO a r m _ j (by rw[qEt];exact hj)];unfold VA;by_cases he:i=j
  ·subst he;cases hd:rg_dropB a r i with
   |false=>simp
   |true=>rw[kp,YH _ hj];simp
  ·have hm:decide (j∈i::m)=decide (j∈m):=by simp[Ne.symm he]
   rw[hm];cases hd:rg_dropB a r i with
   |false=>rfl
   |true=>rw[kp,ZD _ he]
theorem qWd {a:Ring} {r:Int} {j:Nat} (h:rg_dropB a r j=true):j∈rg_meas a:=by
 unfold rg_dropB at h;rw[gk] at h;obtain⟨k,hk,h⟩:=h;rw[kq,decide_eq_true_eq] at h;rw[<-h.1];exact uI (qLn (uF.1 hk))
def rg_cut (a:Ring) (r:Int) (j:Nat):Bool:=!decide (r<0)&&!decide (((rg_meas a).length:Int)<2)&&rg_dropB a r j
theorem qRb (a:Ring) (g:yG a) (r:Int) {j:Nat} (hj:j<a.Read.length):(rg_cleaned a r).Read.getD j du=bif rg_cut a r j then qIZ else a.Read.getD j du:=by
 unfold rg_cleaned rg_cut;rw[(XD a).2 g];cases decide (r<0)<;>cases decide (((rg_meas a).length:Int)<2)<;>simp only[kp,kv,kQ,ue,gT,Bool.false_and,Bool.true_and,Bool.and_false];rw[qMO _ _ _ _ _ hj];cases hd:rg_dropB a r j with
 |false=>simp
 |true=>simp[qWd hd]
theorem qWi {l:List qP} {P:qP->Prop} (h:∀j,j<l.length->P (l.getD j du)):∀r∈l,P r:=by
 intro r hr;obtain⟨t,ht,he⟩:=uK.1 hr;have:=h t ht
 rwa [ka,ks ht,kF,he] at this
theorem qYa {a:Ring} (g:yG a) {j:Nat} (hj:j<a.Read.length):KS (a.Read.getD j du)=0:=by
 refine g.all _ ?_;rw[ka,ks hj];exact ut hj
theorem qPi (a:Ring) (g:yG a) (r:Int):yG (rg_cleaned a r):=by
 have hl:=qRz a r;have hz:=qU0 a r;refine⟨by rw[hl];exact g.lo,by rw[hl];exact g.hi,by rw[hz];exact g.z0,by rw[hz];exact g.z1,qWi λj hj=>?_⟩;rw[hl] at hj;rw[qRb a g r hj];cases rg_cut a r j with
 |true=>exact show KS qIZ=0 by decide
 |false=>exact qYa g hj
end Saw
end Go.SL

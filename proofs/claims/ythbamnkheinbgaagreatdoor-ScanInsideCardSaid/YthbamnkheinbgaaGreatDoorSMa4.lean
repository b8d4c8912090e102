/- Section's plain mathematics, part 8: SectionAdds, SectionTurns, SectionCommon. -/
import Derived.Test.YthbamnkheinbgaaGreatDoorSMa3
import Derived.Test.YthbamnkheinbgaaGreatDoorSMa1
import Derived.Test.YthbamnkheinbgaaGreatDoorSMa2
import Derived.Test.YthbamnkheinbgaaGreatDoorPCmp
set_option linter.unusedVariables false
set_option linter.unusedSimpArgs false
namespace Go.SL
namespace Saw
def inRange (p:qA):Bool:=(decide (-600<=p.X)&&decide (p.X<=600))&&(decide (-600<=p.Y)&&decide (p.Y<=600))
theorem YK {p:qA}:inRange p=true↔(-600<=p.X/\p.X<=600)/\(-600<=p.Y/\p.Y<=600):=by
 unfold inRange;simp only[ki,decide_eq_true_eq]
theorem qDG (a:Int):ZR a=some (decide (-600<=a)&&decide (a<=600)):=by
 unfold ZR UH;by_cases h:a≥-600<;>simp[h]
def wrapB (c:Bool):Bool⊕Unit:=bif c then .inr () else .inl false
theorem qF7 (a:List qA) (hl:a.length<=1000000):∀(n x:Nat),a.length<x+n->x<=a.length->yH a n (x:Int)=some (wrapB ((a.drop x).all inRange))
 |0,x,h1,h2=>by omega
 |n+1,x,h1,h2=>by
  unfold yH;by_cases hx:x<a.length
  ·have ih:=qF7 a hl n (x+1) (by omega) (by omega);rw[lt_t (by omega),qX (by omega),TG a x hx];simp only[ko,ks,qDG,kd,RH,zQ (show x<4611686018427387904 by omega),ih,gO,inRange];generalize a.getD x dd=p;cases (decide (-600<=p.X)&&decide (p.X<=600))<;>cases (decide (-600<=p.Y)&&decide (p.Y<=600))<;>simp[wrapB]
  ·rw[lt_f (by omega),uB (by omega)];rfl
theorem qBv (a:List qA) (hl:a.length<=1000000):WD a=some (a.all inRange):=by
 unfold WD;have h:=qF7 a hl FUEL 0 (by rw[FUEL_eq];omega) (by omega);rw[show((0:Nat):Int)=0 from rfl,uK] at h;rw[h,kd];cases a.all inRange<;>rfl
theorem qOr (p:qA) (b:Bool):(bif decide (p.X< -600) then some (Sum.inl false) else bif decide (p.X>600) then some (Sum.inl false) else bif decide (p.Y< -600) then some (Sum.inl false) else bif decide (p.Y>600) then some (Sum.inl false) else some (wrapB b))=some (wrapB (decide (-600<=p.X)&&decide (p.X<=600)&&(decide (-600<=p.Y)&&decide (p.Y<=600))&&b)):=by
 by_cases h1:p.X< -600
 ·simp[h1,show¬-600<=p.X by omega,wrapB]
 by_cases h2:p.X>600
 ·simp[h1,h2,show¬p.X<=600 by omega,wrapB]
 by_cases h3:p.Y< -600
 ·simp[h1,h2,h3,show¬-600<=p.Y by omega,wrapB]
 by_cases h4:p.Y>600
 ·simp[h1,h2,h3,h4,show¬p.Y<=600 by omega,wrapB]
 simp[h1,h2,h3,h4,show-600<=p.X by omega,show p.X<=600 by omega,show-600<=p.Y by omega,show p.Y<=600 by omega]
theorem qA8 (a:List qA) (hl:a.length<=1000000):∀(n x:Nat),a.length<x+n->x<=a.length->wH a n (x:Int)=some (wrapB ((a.drop x).all inRange))
 |0,x,h1,h2=>by omega
 |n+1,x,h1,h2=>by
  unfold wH;by_cases hx:x<a.length
  ·have ih:=qA8 a hl n (x+1) (by omega) (by omega);rw[lt_t (by omega),qX (by omega),TG a x hx];simp only[ko,ks,QV,zQ (show x<4611686018427387904 by omega),ih,gO,inRange];exact qOr _ _
  ·rw[lt_f (by omega),uB (by omega)];rfl
theorem CC (a:List qA) (hl:a.length<=1000000):yI a=some (a.all inRange):=by
 unfold yI;have h:=qA8 a hl FUEL 0 (by rw[FUEL_eq];omega) (by omega);rw[show((0:Nat):Int)=0 from rfl,uK] at h;rw[h,kd];cases a.all inRange<;>rfl
def term (p q:qA):Int:=p.X*q.Y-q.X*p.Y
def TQ (a:List qA):Nat->Nat->Int->Int
 |_,0,acc=>acc
 |x,m+1,acc=>TQ a (x+1) m (acc+term (a.getD x dd) (a.getD ((x+1) % a.length) dd))
def area (a:List qA):Int:=TQ a 0 a.length 0
theorem TD {a:List qA} (h:a.all inRange=true) {x:Nat} (hx:x<a.length):(-600<=(a.getD x dd).X/\(a.getD x dd).X<=600)/\(-600<=(a.getD x dd).Y/\(a.getD x dd).Y<=600):=
 YK.1 (ky.1 h _ (qY hx))
theorem qFY {a b:Int} (h1: -600<=a/\a<=600) (h2: -600<=b/\b<=600): -360000<=a*b/\a*b<=360000:=
 CK (m:=600) (n:=600) h1.1 h1.2 h2.1 h2.2 (by decide) (by decide)
theorem term_b {p q:qA} (hp:(-600<=p.X/\p.X<=600)/\(-600<=p.Y/\p.Y<=600)) (hq:(-600<=q.X/\q.X<=600)/\(-600<=q.Y/\q.Y<=600)): -720000<=term p q/\term p q<=720000:=by
 have h1:=qFY hp.1 hq.2;have h2:=qFY hq.1 hp.2;unfold term;omega
theorem qHY (a:List qA) (hr:a.all inRange=true) (hl:a.length<=1000000):∀(m n x:Nat) (acc:Int),x+m=a.length->m<n->-(720000*(x:Int))<=acc->acc<=720000*(x:Int)->JA a n acc (x:Int)=some (TQ a x m acc)/\YR a n acc (x:Int)=some (TQ a x m acc)
 |_,0,x,_,_,hn,_,_=>by omega
 |0,n+1,x,acc,hx,_,_,_=>by
  unfold JA YR TQ;rw[lt_f (by omega)];exact⟨rfl,rfl⟩
 |m+1,n+1,x,acc,hx,hn,hb1,hb2=>by
  have hlen:0<a.length:=by omega
  have hy:(x+1) % a.length<a.length:=kH _ hlen;have hp:=TD hr (show x<a.length by omega);have hq:=TD hr hy;have ht:=term_b hp hq;obtain⟨ih1,ih2⟩:=qHY a hr hl m n (x+1) (acc+term (a.getD x dd) (a.getD ((x+1) % a.length) dd)) (by omega) (by omega) (by omega) (by omega);have p1:=qFY hp.1 hq.2;have p2:=qFY hq.1 hp.2;unfold JA YR TQ;rw[qFI hlen (by omega),lt_t (by omega),qX (i:=(x:Int)) (by omega),nz_t (by omega),qX (by omega)];simp only[ko,ks,zQ (show x<4611686018427387904 by omega)]
  change-720000<=(a.getD x dd).X*(a.getD ((x+1) % a.length) dd).Y-(a.getD ((x+1) % a.length) dd).X*(a.getD x dd).Y/\_ at ht;constructor
  ·rw[qQ (n:=(a.getD x dd).X*_) (by omega),qQ (n:=(a.getD ((x+1) % a.length) dd).X*_) (by omega),qQ (n:=_-_) (by omega),qQ (by omega)];exact ih1
  ·rw[qQ (n:=(a.getD x dd).X*_) (by omega),qQ (n:=(a.getD ((x+1) % a.length) dd).X*_) (by omega),qQ (n:=acc+_) (by omega),qQ (n:=_-_) (by omega),show acc+(a.getD x dd).X*(a.getD ((x+1) % a.length) dd).Y-(a.getD ((x+1) % a.length) dd).X*(a.getD x dd).Y=acc+term (a.getD x dd) (a.getD ((x+1) % a.length) dd) by unfold term;omega];exact ih2
def qJq (a:List qA):Int:=bif decide ((a.length:Int)>32) then 0 else bif a.all inRange then area a else 0
theorem qMq (a:List qA):NC a=some (qJq a)/\qAH a=some (qJq a):=by
 unfold NC qAH qJq GI LF;by_cases h:(a.length:Int)>32
 ·simp[h]
 ·rw[kf h,qBv a (by omega),CC a (by omega)];simp only[ku,kd];cases hr:a.all inRange with
  |false=>exact⟨rfl,rfl⟩
  |true=>
   obtain⟨h1,h2⟩:=qHY a hr (by omega) a.length FUEL 0 0 (by omega) (by rw[FUEL_eq];omega) (by omega) (by omega);simp only[show((0:Nat):Int)=0 from rfl] at h1 h2;simp only[uh,ku,ko,h1,h2,kd];exact⟨rfl,rfl⟩
def chk (a:List qA):Int:=bif decide ((a.length:Int)<3) then 3 else bif decide ((a.length:Int)>32) then 4 else bif !(a.all inRange) then 9 else bif area a==0 then 19 else 0
theorem qFM (a:List qA):TU a=some (chk a)/\MY a=some (chk a):=by
 unfold TU MY chk;by_cases h:(a.length:Int)<3
 ·simp[h]
 by_cases h2:(a.length:Int)>32
 ·simp[h,h2]
 rw[kf h,kf h2,qBv a (by omega),CC a (by omega),(qMq a).1,(qMq a).2];simp only[ku,kd,qJq,kf h2];cases a.all inRange with
 |false=>exact⟨rfl,rfl⟩
 |true=>
  simp only[uh,ku,ko];cases area a==0<;>exact⟨rfl,rfl⟩
def WM (r:Rect) (p:qA):Rect:=Rect.mk (Span.mk (imin r.X.A p.X) (imax r.X.B p.X)) (Span.mk (imin r.Y.A p.Y) (imax r.Y.B p.Y))
def bounds (a:List qA):Rect:=match a with
 |[]=>Rect.mk (Span.mk 0 0) (Span.mk 0 0)
 |p::l=>l.foldl WM (Rect.mk (Span.mk p.X p.X) (Span.mk p.Y p.Y))
theorem qAP (a:List qA) (hl:a.length<=1000000):∀(n x:Nat) (r:Rect),a.length<x+n->x<=a.length->XE a n (x:Int) r=some ((a.drop x).foldl WM r)/\RC a n (x:Int) r=some ((a.drop x).foldl WM r)
 |0,x,r,h1,h2=>by omega
 |n+1,x,r,h1,h2=>by
  unfold XE RC;by_cases hx:x<a.length
  ·have ih:=qAP a hl n (x+1) (WM r (a.getD x dd)) (by omega) (by omega);rw[lt_t (by omega),qX (by omega),TG a x hx];simp only[ko,ks,zQ (show x<4611686018427387904 by omega),uH];exact ih
  ·rw[lt_f (by omega),uB (by omega)];exact⟨rfl,rfl⟩
theorem qNv (x:Int):imin x x=x:=by unfold imin;simp
theorem qOf (x:Int):imax x x=x:=by unfold imax;simp
theorem qNM (a:List qA) (hl:a.length<=1000000):VZ a=some (bounds a)/\qDL a=some (bounds a):=by
 unfold VZ qDL;cases a with
 |nil=>exact⟨rfl,rfl⟩
 |cons p l=>
  have h0:((((p::l).length:Nat):Int)==0)=false:=by simp;omega
  have h1:=(qAP (p::l) hl FUEL 0 (Rect.mk (Span.mk p.X p.X) (Span.mk p.Y p.Y)) (by rw[FUEL_eq];omega) (by omega)).1;have h2:=(qAP (p::l) hl FUEL 1 (Rect.mk (Span.mk p.X p.X) (Span.mk p.Y p.Y)) (by rw[FUEL_eq];omega) (by simp)).2;rw[uK] at h1;rw[h0,inb_t (by omega) (by simp)];simp only[ku,ko,gG,uU];rw[show((0:Nat):Int)=0 from rfl] at h1;rw[show((1:Nat):Int)=1 from rfl] at h2;rw[h1,h2];refine⟨?_,rfl⟩;show some (l.foldl WM (WM _ p))=_;unfold WM;simp only[qNv,qOf];rfl
def cross (p q c:qA):Int:=(q.X-p.X)*(c.Y-p.Y)-(c.X-p.X)*(q.Y-p.Y)
abbrev rng (p:qA):Prop:=(-600<=p.X/\p.X<=600)/\(-600<=p.Y/\p.Y<=600)
theorem qH7 (p q c:qA):cross q p c= -cross p q c:=by unfold cross;grind
theorem DO {p q c:qA} (hp:rng p) (hq:rng q) (hc:rng c):XV p q c=some (cross p q c)/\ZQ p q c=some (cross p q c):=by
 obtain⟨⟨p1,p2⟩,p3,p4⟩:=hp;obtain⟨⟨q1,q2⟩,q3,q4⟩:=hq;obtain⟨⟨c1,c2⟩,c3,c4⟩:=hc;have m1:=CK (a:=q.X-p.X) (b:=c.Y-p.Y) (m:=1200) (n:=1200) (by omega) (by omega) (by omega) (by omega) (by decide) (by decide);have m2:=CK (a:=c.X-p.X) (b:=q.Y-p.Y) (m:=1200) (n:=1200) (by omega) (by omega) (by omega) (by omega) (by decide) (by decide);unfold XV ZQ cross;rw[qQ (n:=q.X-p.X) (by omega),qQ (n:=c.Y-p.Y) (by omega),qQ (n:=c.X-p.X) (by omega),qQ (n:=q.Y-p.Y) (by omega),Int.mul_comm (q.Y-p.Y) (c.X-p.X),
  qQ (n:=(q.X-p.X)*(c.Y-p.Y)) (by omega),qQ (n:=(c.X-p.X)*(q.Y-p.Y)) (by omega),qQ (by omega)]
 exact⟨rfl,rfl⟩
def onE (p q c:qA):Bool:=(cross p q c==0)&&(decide (imin p.X q.X<=c.X)&&(decide (c.X<=imax p.X q.X)&&(decide (imin p.Y q.Y<=c.Y)&&decide (c.Y<=imax p.Y q.Y))))
def cro (p q c:qA):Bool:=(decide (p.Y<=c.Y)&&(decide (c.Y<q.Y)&&decide (cross p q c>0)))||(decide (q.Y<=c.Y)&&(decide (c.Y<p.Y)&&decide (cross p q c<0)))
def hasS (a:List qA) (c:qA):Nat->Nat->Bool->Bool⊕Bool
 |_,0,b=> .inr b
 |x,m+1,b=>bif onE (a.getD x dd) (a.getD ((x+1) % a.length) dd) c then .inl true else hasS a c (x+1) m (bif cro (a.getD x dd) (a.getD ((x+1) % a.length) dd) c then !b else b)
theorem qNk {p q c:qA} (hp:rng p) (hq:rng q) (hc:rng c):GA p q c=some (onE p q c):=by
 unfold GA onE;rw[(DO hp hq hc).1,kd];simp only[QE];cases cross p q c==0<;>cases decide (imin p.X q.X<=c.X)<;>cases decide (c.X<=imax p.X q.X)<;>cases decide (imin p.Y q.Y<=c.Y)<;>rfl
theorem k3_eq (rec:Bool->Int->Option (Bool⊕Bool)) (x:Int) {p q c:qA} (hp:rng p) (hq:rng q) (hc:rng c) (b:Bool):(bif decide (p.Y>q.Y) then PK c b x rec p q else PK c b x rec q p)=rec (bif cro p q c then !b else b) (w64 (x+1)):=by
 have hn':=qH7 p q c;unfold PK VK HD;rw[(DO hp hq hc).1,(DO hq hp hc).1,hn'];simp only[kd];by_cases h1:p.Y>q.Y
 ·rw[kg h1];simp only[ko,cro];by_cases e1:q.Y<=c.Y
  ·by_cases e2:c.Y<p.Y
   ·have e3:¬p.Y<=c.Y:=by omega
    by_cases e5:cross p q c<0
    ·have e6: -cross p q c>0:=by omega
     simp[e1,e2,e3,e5]
    ·have e6:¬-cross p q c>0:=by omega
     simp[e1,e2,e3,e5]
   ·have e4:¬c.Y<q.Y:=by omega
    simp[e1,e2,e4]
  ·have e3:¬p.Y<=c.Y:=by omega
   simp[e1,e3]
 ·rw[kf h1];simp only[ku,cro];by_cases e1:p.Y<=c.Y
  ·by_cases e2:c.Y<q.Y
   ·have e3:¬q.Y<=c.Y:=by omega
    by_cases e5:cross p q c>0
    ·have e5':0<cross p q c:=e5;simp[e1,e2,e3,e5']
    ·have e5':¬0<cross p q c:=e5;simp[e1,e2,e3,e5']
   ·have e4:¬c.Y<p.Y:=by omega
    simp[e1,e2,e4]
  ·have e3:¬q.Y<=c.Y:=by omega
   simp[e1,e3]
theorem rk3_eq (rec:Bool->Int->Option (Bool⊕Bool)) (a:List qA) (x:Int) {p q c:qA} (hpx:a.getD x.toNat dd=p) (hqx:a.getD (Int.tmod (w64 (x+1)) (a.length:Int)).toNat dd=q) (hp:rng p) (hq:rng q) (hc:rng c) (b e:Bool):
  WB a c b x rec e=bif e then some (.inl true) else rec (bif cro p q c then !b else b) (w64 (x+1)):=by
 unfold WB wV OH cro;rw[hpx,hqx,(DO hp hq hc).2];simp only[kd];cases e with
 |true=>rfl
 |false=>cases decide (p.Y<=c.Y)<;>cases decide (c.Y<q.Y)<;>cases decide (q.Y<=c.Y)<;>cases decide (c.Y<p.Y)<;>cases decide (cross p q c>0)<;>cases decide (cross p q c<0)<;>rfl
theorem qKL (a:List qA) (c:qA) (hr:a.all inRange=true) (hc:rng c) (hl:a.length<=1000000):∀(m n x:Nat) (b:Bool),x+m=a.length->m<n->jW a c n b (x:Int)=some (hasS a c x m b)/\jY a c n b (x:Int)=some (hasS a c x m b)
 |_,0,x,_,_,hn=>by omega
 |0,n+1,x,b,hx,_=>by
  unfold jW jY hasS;rw[lt_f (by omega)];exact⟨rfl,rfl⟩
 |m+1,n+1,x,b,hx,hn=>by
  have hlen:0<a.length:=by omega
  have hy:(x+1) % a.length<a.length:=kH _ hlen;have hnx:=qFI hlen (show x<4611686018427387904 by omega);obtain⟨p,hpx⟩:∃p,a.getD x dd=p:=⟨_,rfl⟩
  obtain⟨q,hqx⟩:∃q,a.getD ((x+1) % a.length) dd=q:=⟨_,rfl⟩
  have hpx':a.getD (x:Int).toNat dd=p:=by rw[ks];exact hpx
  have hqx':a.getD (Int.tmod (w64 ((x:Int)+1)) (a.length:Int)).toNat dd=q:=by rw[hnx,ks];exact hqx
  have hp:rng p:=by rw[<-hpx];exact TD hr (show x<a.length by omega)
  have hq:rng q:=by rw[<-hqx];exact TD hr hy
  have ih:=qKL a c hr hc hl m n (x+1) (bif cro p q c then !b else b) (by omega) (by omega);have hi:inb (Int.tmod (w64 ((x:Int)+1)) (a.length:Int)) a.length=true:=by rw[hnx];exact qX (by omega)
  have hinc:w64 ((x:Int)+1)=((x+1:Nat):Int):=zQ (by omega);have hS:hasS a c x (m+1) b=bif onE p q c then .inl true else hasS a c (x+1) m (bif cro p q c then !b else b):=by rw[hasS,hpx,hqx]
  rw[hS];constructor
  ·unfold jW;rw[lt_t (by omega),qX (i:=(x:Int)) (by omega),nz_t (by omega),hi,hpx',hqx',qNk hp hq hc];simp only[ko,kd];rw[k3_eq _ _ hp hq hc,hinc,ih.1];cases onE p q c<;>rfl
  ·unfold jY;rw[lt_t (by omega),qX (i:=(x:Int)) (by omega),nz_t (by omega),hi,hpx',hqx',(DO hp hq hc).2];simp only[ko,kd,rk3_eq _ a (x:Int) hpx' hqx' hp hq hc,hinc,ih.2];unfold onE;cases cross p q c==0<;>cases decide (imin p.X q.X<=c.X)<;>cases decide (c.X<=imax p.X q.X)<;>cases decide (imin p.Y q.Y<=c.Y)<;>cases decide (c.Y<=imax p.Y q.Y)<;>rfl
def has (a:List qA) (c:qA):Bool:=bif chk a==0&&inRange c then Sum.elim id id (hasS a c 0 a.length false) else false
theorem qNR {a:List qA} (h:chk a=0):3<=a.length/\a.length<=32/\a.all inRange=true/\area a≠0:=by
 unfold chk at h;by_cases h1:(a.length:Int)<3
 ·rw[kg h1] at h;cases h
 rw[kf h1] at h;by_cases h2:(a.length:Int)>32
 ·rw[kg h2] at h;cases h
 rw[kf h2] at h;cases h3:a.all inRange with
 |false=>rw[h3] at h;cases h
 |true=>
  rw[h3] at h;refine⟨by omega,by omega,rfl,λh4=>?_⟩;rw[h4] at h;cases h
theorem has_eq (a:List qA) (c:qA):TC a c=some (has a c)/\qIh a c=some (has a c):=by
 unfold TC qIh has VX OE;rw[(qFM a).1,(qFM a).2,CC [c] (by simp),qDG,qDG];simp only[kd,gO,List.all_nil,gP];cases h:chk a==0 with
 |false=>
  have:(chk a !=0)=true:=by simp only[bne,h];rfl
  rw[this];exact⟨rfl,rfl⟩
 |true=>
  have:(chk a !=0)=false:=by simp only[bne,h];rfl
  have h0:chk a=0:=by simpa using h
  obtain⟨l1,l2,hr,_⟩:=qNR h0;rw[this];cases hc:inRange c with
  |false=>
   unfold inRange at hc;simp only[Bool.and_false,ku,gH,ko];refine⟨?_,trivial⟩;cases hx:(decide (-600<=c.X)&&decide (c.X<=600)) with
   |false=>rfl
   |true=>rw[hx,Bool.true_and] at hc;rw[hc];rfl
  |true=>
   have hcr:rng c:=YK.1 hc;obtain⟨e1,e2⟩:=qKL a c hr hcr (by omega) a.length FUEL 0 false (by omega) (by rw[FUEL_eq];omega);rw[show((0:Nat):Int)=0 from rfl] at e1 e2;unfold inRange at hc;rw[ki] at hc;simp only[hc.1,hc.2,ku,uh,e1,e2,kd,gP,ko];cases hasS a c 0 a.length false<;>exact⟨rfl,rfl⟩
def pLt (p q:qA):Prop:=p.X<q.X\/(p.X=q.X/\p.Y<q.Y)
instance (p q:qA):Decidable (pLt p q):=inferInstanceAs (Decidable (_\/_))
def pLe (p q:qA):Bool:=!decide (pLt q p)
theorem qNp {p q:qA} (h1:p.X=q.X) (h2:p.Y=q.Y):p=q:=by cases p;cases q;simp_all
theorem pLt_irrefl (p:qA):¬pLt p p:=by unfold pLt;omega
theorem HO {p q r:qA} (h1:pLt p q) (h2:pLt q r):pLt p r:=by unfold pLt at*;omega
theorem pLt_tri (p q:qA):pLt p q\/p=q\/pLt q p:=by
 by_cases h1:pLt p q
 ·exact .inl h1
 by_cases h2:pLt q p
 ·exact .inr (.inr h2)
 unfold pLt at*;exact .inr (.inl (qNp (by omega) (by omega)))
theorem pLt_asymm {p q:qA} (h1:pLt p q):¬pLt q p:=λh2=>pLt_irrefl _ (HO h1 h2)
theorem pLe_iff {p q:qA}:pLe p q=true↔pLt p q\/p=q:=by
 unfold pLe;simp only[uw,decide_eq_false_iff_not];refine⟨λh=>?_,λh=>?_⟩
 ·rcases pLt_tri p q with h1|h1|h1
  ·exact .inl h1
  ·exact .inr h1
  ·exact absurd h1 h
 ·rcases h with h|rfl
  ·exact pLt_asymm h
  ·exact pLt_irrefl _
theorem cmp_lt (p q:qA):(poly_Hull_1 p q).getD 0<0↔pLt p q:=by
 rw[poly_Hull_1_eq];have:=ltPt p q;unfold Go.Proofs.ltOf at this;have h2:=decide_eq_decide.1 this;exact h2
theorem sort_eq (a:List qA):PE poly_Hull_1 a=GJ pLe a:=by
 unfold PE
 congr 1
 funext x y
 unfold pLe
 congr 1
 exact decide_eq_decide.2 (cmp_lt y x)
abbrev wI (l:List qA):Prop:=l.Pairwise pLt
theorem qCk :∀{l t:List qA},wI l->wI t->(∀p,p∈l↔p∈t)->l=t
 |[],[],_,_,_=>rfl
 |[],q::t,_,_,h=>by have:=(h q).2 kQ;cases this
 |p::l,[],_,_,h=>by have:=(h p).1 kQ;cases this
 |p::l,q::t,hl,ht,h=>by
  obtain⟨l1,l2⟩:=kN.1 hl;obtain⟨t1,t2⟩:=kN.1 ht;have e:p=q:=by
   rcases kU.1 ((h p).1 kQ) with h1|h1
   ·exact h1
   ·rcases kU.1 ((h q).2 kQ) with h2|h2
    ·exact h2.symm
    ·exact absurd (t1 p h1) (pLt_asymm (l1 q h2))
  subst e
  congr 1
  refine qCk l2 t2 (λr=>⟨λhr=>?_,λhr=>?_⟩)
  ·rcases kU.1 ((h r).1 (kz _ hr)) with rfl|h1
   ·exact absurd (l1 r hr) (pLt_irrefl _)
   ·exact h1
  ·rcases kU.1 ((h r).2 (kz _ hr)) with rfl|h1
   ·exact absurd (t1 r hr) (pLt_irrefl _)
   ·exact h1
def peq (p q:qA):Bool:=(p.X==q.X)&&((p.Y==q.Y)&&true)
theorem qD4 {p q:qA}:peq p q=true↔p=q:=by
 unfold peq;simp only[ki,beq_iff_eq,and_true];exact⟨λh=>qNp h.1 h.2,λh=>by subst h;exact⟨rfl,rfl⟩⟩
def ddT (l:List qA):Nat->List qA
 |0=>[]
 |m+1=>ddT l m++(bif !(Nat.beq m 0)&&peq (l.getD m dd) (l.getD (m-1) dd) then[] else[l.getD m dd])
theorem qHj (l:List qA):∀m,(ddT l m).length<=m
 |0=>kr _
 |m+1=>by
  have:=qHj l m;unfold ddT;rw[ul];cases (!(Nat.beq m 0)&&peq (l.getD m dd) (l.getD (m-1) dd))<;>simp<;>omega
theorem qHe (l:List qA):∀m,m<=l.length->∀p,p∈ddT l m↔p∈l.take m
 |0,_,p=>by simp[ddT]
 |m+1,hm,p=>by
  have hx:m<l.length:=by omega
  have ht:l.take (m+1)=l.take m++[l.getD m dd]:=by
   rw[gB,kq hx,ka,kq hx];rfl
  unfold ddT;rw[um,qHe l m (by omega),ht,um];cases h:(!(Nat.beq m 0)&&peq (l.getD m dd) (l.getD (m-1) dd)) with
  |false=>simp
  |true=>
   rw[ki] at h;have h0:m≠0:=λe=>by rw[e] at h;cases h.1
   have he:=qD4.1 h.2;simp only[ko,List.not_mem_nil,or_false,uA];refine⟨.inl,λh'=>h'.elim id λe=>?_⟩;rw[e,he,gQ];exact⟨m-1,by omega,by rw[ka,kq (by omega)];rfl⟩
theorem qBN (l:List qA) (hs:l.Pairwise (λa b=>pLe a b=true)):∀m,m<=l.length->wI (ddT l m)
 |0,_=>List.Pairwise.nil
 |m+1,hm=>by
  have hx:m<l.length:=by omega
  unfold ddT;cases h:(!(Nat.beq m 0)&&peq (l.getD m dd) (l.getD (m-1) dd)) with
  |true=>simp only[ko,gq];exact qBN l hs m (by omega)
  |false=>
   simp only[ku];refine gv.2 ⟨qBN l hs m (by omega),List.pairwise_singleton _ _,λp hp q hq=>?_⟩;rw[uA] at hq;subst hq;rw[qHe l m (by omega)] at hp;have hm0:m≠0:=λe=>by subst e;simp at hp
   obtain⟨j,hj,rfl⟩:=gQ.1 hp;have hj':j<m:=by omega
   have g:∀i (hi:i<l.length),l.getD i dd=l[i]:=λi hi=>by rw[ka,kq hi];rfl
   have hb:Nat.beq m 0=false:=by cases m with|zero=>exact absurd rfl hm0|succ m=>rfl
   rw[hb,gH,Bool.true_and] at h;have hne:¬l.getD m dd=l.getD (m-1) dd:=λe=>by rw[qD4.2 e] at h;cases h
   rw[uO] at hs;have s1:=pLe_iff.1 (hs (m-1) m (by omega) hx (by omega));rw[g m hx,g (m-1) (by omega)] at hne;rw[g m hx];have s2:pLt l[m-1] l[m]:=s1.resolve_right (λe=>hne e.symm);by_cases hjm:j=m-1
   ·subst hjm;exact s2
   ·rcases pLe_iff.1 (hs j (m-1) (by omega) (by omega) (by omega)) with h1|h1
    ·exact HO h1 s2
    ·rw[h1];exact s2
theorem qBT (l:List qA) (x:Nat) (hl:l.length<=1000000) (hx:0<x) (hxl:x<l.length):∀(n k i:Nat) (t:List qA),l.length-x<k+n->0<k->k<=l.length-x->t.length=l.length->i<=x+k-1->t.take i=ddT l (x+k)->i=(ddT l (x+k)).length->
  (∀j,x+k-1<=j->j<l.length->t.getD j dd=l.getD j dd)->∃t':List qA,zS l (x:Int) n t (i:Int) (k:Int)=some (t',((ddT l l.length).length:Int))/\t'.length=l.length/\t'.take (ddT l l.length).length=ddT l l.length
 |0,k,i,t,h1,_,h2,_,_,_,_,_=>by omega
 |n+1,k,i,t,h1,hk,h2,h3,h4,h5,h5',h6=>by
  unfold zS;simp only[ks];by_cases hkl:k<l.length-x
  ·have e1:w64 ((k:Int)-1)=((k-1:Nat):Int):=by rw[qQ (by omega)];omega
   have hb:Nat.ble (x+(l.length-x)) t.length=true:=by rw[Nat.ble_eq];omega
   rw[lt_t (by omega),qX (by omega),hb,e1,qX (by omega)];simp only[ko,ks,jZ,zQ (show k<4611686018427387904 by omega),zQ (show i<4611686018427387904 by omega)];have g1:t.getD (x+k) dd=l.getD (x+k) dd:=h6 _ (by omega) (by omega);have g2:t.getD (x+(k-1)) dd=l.getD (x+k-1) dd:=by rw[show x+(k-1)=x+k-1 by omega];exact h6 _ (by omega) (by omega)
   have hbq:Nat.beq (x+k) 0=false:=by rw[show x+k=(x+k-1)+1 by omega];rfl
   have hdd:ddT l (x+(k+1))=ddT l (x+k)++(bif peq (l.getD (x+k) dd) (l.getD (x+k-1) dd) then[] else[l.getD (x+k) dd]):=by
    rw[show x+(k+1)=(x+k)+1 by omega,ddT,hbq];rfl
   rw[g1,g2];cases hp:peq (l.getD (x+k) dd) (l.getD (x+k-1) dd) with
   |true=>
    have hp':=hp;unfold peq at hp';rw[hp] at hdd;simp only[ko,gq] at hdd;rw[hp'];simp only[uh,ku];exact qBT l x hl hx hxl n (k+1) i t (by omega) (by omega) (by omega) h3 (by omega) (by rw[hdd];exact h5) (by rw[hdd];exact h5') (λj hj1 hj2=>h6 j (by omega) hj2)
   |false=>
    have hp':=hp;unfold peq at hp';rw[hp] at hdd;simp only[ku] at hdd;rw[hp',qX (by omega)];simp only[gH,ko];refine qBT l x hl hx hxl n (k+1) (i+1) _ (by omega) (by omega) (by omega) (by rw[List.length_set];exact h3) (by omega) ?_ (by rw[hdd,ul,<-h5'];rfl) (λj hj1 hj2=>by rw[VN _ (by omega)];exact h6 j (by omega) hj2);rw[hdd,<-h5,gB,gk (by omega),List.take_set_of_le (kr _)];rfl
  ·have hkk:x+k=l.length:=by omega
   rw[lt_f (by omega)];rw[hkk] at h5 h5';exact⟨t,by simp only[ku];rw[h5'],h3,by rw[<-h5'];exact h5⟩
theorem compact_L1 (l:List qA) (hl:l.length<=1000000):∀(n x:Nat),l.length<x+n->0<x->x<=l.length->ddT l x=l.take x->(wD n l (x:Int)=some (.inl (ddT l l.length,ddT l l.length)))\/(wD n l (x:Int)=some (.inr l)/\ddT l l.length=l)
 |0,x,h1,_,h2,_=>by omega
 |n+1,x,h1,h0,h2,h3=>by
  unfold wD;by_cases hx:x<l.length
  ·have e1:w64 ((x:Int)-1)=((x-1:Nat):Int):=by rw[qQ (by omega)];omega
   have hbq:Nat.beq x 0=false:=by rw[show x=(x-1)+1 by omega];rfl
   have hlen:(ddT l x).length=x:=by rw[h3];simp;omega
   rw[lt_t (by omega),e1,qX (by omega),qX (by omega)];simp only[ko,ks,zQ (show x<4611686018427387904 by omega)];cases hp:peq (l.getD x dd) (l.getD (x-1) dd) with
   |true=>
    have hp':=hp;unfold peq at hp';have hdd:ddT l (x+1)=ddT l x:=by rw[ddT,hbq,hp];simp
    have hsl:slOk (x:Int) (l.length:Int) l.length=true:=by unfold slOk;exact kg ⟨by omega,by omega,by omega⟩
    obtain⟨t',e2,e3,e4⟩:=qBT l x hl h0 hx FUEL 1 x l (by rw[FUEL_eq];omega) (by omega) (by omega) rfl (by omega) (by rw[hdd,h3]) (by rw[hdd,hlen]) (λj _ _=>rfl);have hle:=qHj l l.length;have s1:slOk ((ddT l l.length).length:Int) (t'.length:Int) t'.length=true:=by unfold slOk;exact kg ⟨by omega,by omega,by omega⟩
    have s2:slOk 0 ((ddT l l.length).length:Int) t'.length=true:=by unfold slOk;exact kg ⟨by omega,by omega,by omega⟩
    rw[show((1:Nat):Int)=1 from rfl] at e2;rw[hp',hsl,e2];simp only[ko,kd,s1,s2,ks,e4];exact .inl trivial
   |false=>
    have hp':=hp;unfold peq at hp';rw[hp'];simp only[ku];refine compact_L1 l hl n (x+1) (by omega) (by omega) (by omega) ?_;rw[ddT,hbq,hp,h3,gB,kq hx,ka,kq hx];rfl
  ·rw[lt_f (by omega)];have:x=l.length:=by omega
   rw[this,List.take_length] at h3;exact .inr ⟨rfl,h3⟩
theorem qMJ (l:List qA) (hl:l.length<=1000000):wT l=some (ddT l l.length,ddT l l.length):=by
 unfold wT;by_cases h:(l.length:Int)<2
 ·rw[kg h];have:ddT l l.length=l:=by
   match l,h with
   |[],_=>rfl
   |[p],_=>rfl
   |p::q::r,h=>simp at h;omega
  rw[this];rfl
 ·rw[kf h];have h1:ddT l 1=l.take 1:=by
   match l,h with
   |[],h=>exact absurd (by decide) h
   |p::r,_=>rfl
  rcases compact_L1 l hl FUEL 1 (by rw[FUEL_eq];omega) (by omega) (by omega) h1 with h2|⟨h2,h3⟩
  ·rw[show((1:Nat):Int)=1 from rfl] at h2;rw[h2];rfl
  ·rw[show((1:Nat):Int)=1 from rfl] at h2;rw[h2,h3];rfl
end Saw
end Go.SL

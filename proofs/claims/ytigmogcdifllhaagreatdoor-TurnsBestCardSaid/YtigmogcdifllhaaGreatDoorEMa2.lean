import Derived.Test.YtigmogcdifllhaaGreatDoorEMa1
import Derived.Test.YtigmogcdifllhaaGreatDoorPCmp
set_option linter.unusedVariables false
set_option linter.unusedSimpArgs false
namespace Go.SL
namespace Saw
theorem qTL {s:qG} (h:VS s) {r:Int} (h1: -60<=r) (h2:r<60):ST s r=some (row s r)/\qGR s r=some (row s r):=by
 have b1:=h.low;have b2:=h.high;unfold ST IV qGR qFj row;by_cases hr:r<s.Low
 ·rw[ki hr,if_pos hr];exact⟨rfl,rfl⟩
 rw[kf hr,if_neg hr,w64_o (n:=s.Low+_) (by omega),w64_o (n:=r-s.Low) (by omega)];by_cases hr2:r<s.Low+s.Rows.length
 ·rw[kf (show¬r≥_ by omega),zR (by omega)];exact⟨rfl,rfl⟩
 ·rw[ki (show r≥_ by omega),qRG (by omega)];exact⟨rfl,rfl⟩
theorem qG.eta (s:qG):qG.mk s.Low s.Rows=s:=rfl
def negS (x:Span):Span:=⟨-x.B,-x.A⟩
theorem neg_neg (x:Span):negS (negS x)=x:=by unfold negS;simp
theorem qON (l:List Span) (hl:l.length<=1000):∀(n x:Nat),l.length<x+n->x<=l.length->(∀j,j<x->empS (l.getD j du)=true)->
  ∃f:Nat,YV l n (x:Int)=some (f:Int)/\f<=l.length/\(∀j,j<f->empS (l.getD j du)=true)/\(f<l.length->empS (l.getD f du)=false)
 |0,x,h1,h2,_=>by omega
 |n+1,x,h1,h2,h3=>by
  rw[YV];by_cases hx:x<l.length
  ·rw[ki (show(x:Int)<_ by omega),zR (by omega)];simp only[kp,kg,DA,kd,OM,wH (show x<4611686018427387904 by omega)];cases he:empS (l.getD x du) with
   |true=>
    exact qON l hl n (x+1) (by omega) (by omega) (λj hj=>by
     by_cases hjx:j=x
     ·rw[hjx];exact he
     ·exact h3 j (by omega))
   |false=>exact⟨x,rfl,by omega,h3,λ_=>he⟩
  ·rw[kf (show¬(x:Int)<_ by omega)];exact⟨x,rfl,by omega,h3,λh=>absurd h hx⟩
theorem qO9 (l:List Span) (hl:l.length<=1000) (f:Nat):∀(n x:Nat),x<n+f->f<=x->x<=l.length->(∀j,x<=j->j<l.length->empS (l.getD j du)=true)->
  ∃t:Nat,TC l (f:Int) n (x:Int)=some (t:Int)/\f<=t/\t<=l.length/\(∀j,t<=j->j<l.length->empS (l.getD j du)=true)/\(f<t->empS (l.getD (t-1) du)=false)
 |0,x,h1,h2,_,_=>by omega
 |n+1,x,h1,h2,h3,h4=>by
  rw[TC];by_cases hx:f<x
  ·rw[ki (show(x:Int)>(f:Int) by omega),w64_o (by omega),zR (by omega),show(x:Int)-1=((x-1:Nat):Int) by omega];simp only[kp,kg,DA,kd,CF];cases he:empS (l.getD (x-1) du) with
   |true=>
    rw[w64_o (by omega),show(x:Int)-1=((x-1:Nat):Int) by omega];exact qO9 l hl f n (x-1) (by omega) (by omega) (by omega) (λj h5 h6=>by
     by_cases hjx:j=x-1
     ·rw[hjx];exact he
     ·exact h4 j (by omega) h6)
   |false=>exact⟨x,rfl,by omega,by omega,h4,λ_=>he⟩
  ·rw[kf (show¬(x:Int)>(f:Int) by omega)];exact⟨x,rfl,by omega,by omega,h4,λh=>by omega⟩
theorem qQS (l:List Span) (hl:l.length<=1000) (t:Nat) (ht:t<=l.length):∀(n x:Nat) (o:List Span),t<x+n->x<=t->o.length<=x->∃o',QR l (t:Int) n (x:Int) o=some (o++o')/\o'.length=t-x/\∀i,i<t-x->o'.getD i du=nrm (l.getD (x+i) du)
 |0,x,o,h1,h2,_=>by omega
 |n+1,x,o,h1,h2,h3=>by
  rw[QR];by_cases hx:x<t
  ·rw[ki (show(x:Int)<(t:Int) by omega),zR (by omega)];have e:(bif empS (l.getD x du) then RN (x:Int) o (QR l (t:Int) n) ⟨0,0⟩ else RN (x:Int) o (QR l (t:Int) n) (l.getD x du))=QR l (t:Int) n ((x+1:Nat):Int) (o++[nrm (l.getD x du)]):=by
    unfold RN nrm;rw[yC (by omega),wH (by omega)];cases empS (l.getD x du)<;>rfl
   simp only[kp,kg,DA,kd];rw[e];obtain⟨o',k1,k2,k3⟩:=qQS l hl t ht n (x+1) (o++[nrm (l.getD x du)]) (by omega) (by omega) (by simp;omega);refine⟨nrm (l.getD x du)::o',by rw[k1];simp,by simp;omega,λi hi=>?_⟩;cases i with
   |zero=>rfl
   |succ i=>
    have:=k3 i (by omega);rw[show x+(i+1)=x+1+i by omega];simpa using this
  ·rw[kf (show¬(x:Int)<(t:Int) by omega)];exact⟨[],by simp,by simp;omega,λi hi=>by omega⟩
theorem qPv (l:List Span) (hl:l.length=120):UA (-60) l=some (qBa λj=>l.getD j du):=by
 obtain⟨f,f1,f2,f3,f4⟩:=qON l (by omega) FUEL 0 (by rw[FUEL_eq];omega) (by omega) (λj hj=>by omega);obtain⟨t,t1,t2,t3,t4,t5⟩:=qO9 l (by omega) f FUEL l.length (by rw[FUEL_eq];omega) f2 (ke _) (λj h1 h2=>by omega);have f1':YV l FUEL 0=some (f:Int):=f1;unfold UA;rw[f1'];simp only[kd];rw[t1];simp only[kd];obtain⟨g1,g2⟩:=EP (λj=>l.getD j du);by_cases hft:f=t
 ·rw[show((f:Int)==(t:Int))=true by rw[hft];simp];simp only[kp]
  congr 1
  refine qRE (s:=nilS) qKP.toTrim g1 (λr=>?_);have:row nilS r=⟨0,0⟩:=by unfold row nilS;split<;>rfl
  rw[this,g2 r];unfold qFE;split
  ·rw[qAb];by_cases hj:(r+60).toNat<f
   ·exact f3 _ hj
   ·exact t4 _ (by omega) (by omega)
  ·rfl
 ·obtain⟨o,o1,o2,o3⟩:=qQS l (by omega) t t3 FUEL f [] (by rw[FUEL_eq];omega) t2 (by simp);rw[show((f:Int)==(t:Int))=false by rw[kT];omega];simp only[kv];rw[o1,w64_o (by omega)];simp only[kd,uw]
  congr 1
  refine qRE ⟨λe=>?_,λ_=>?_,λ_=>?_⟩ g1 (λr=>?_)
  ·have e':o=[]:=e;rw[e'] at o2;simp at o2;omega
  ·show empS (o.getD 0 du)=false;rw[o3 0 (by omega),qHG];exact f4 (by omega)
  ·show empS (o.getD (o.length-1) du)=false;rw[o2,o3 _ (by omega),qHG,show f+(t-f-1)=t-1 by omega];exact t5 (by omega)
  ·rw[g2 r];unfold row qFE;simp only;by_cases c1:r< -60+(f:Int)
   ·rw[if_pos c1];split
    ·rw[qAb (f3 _ (by omega))]
    ·rfl
   ·rw[if_neg c1];by_cases c2:(r-(-60+(f:Int))).toNat<t-f
    ·rw[o3 _ c2,if_pos (by omega)]
     congr 2
     omega
    ·rw[qRG (by omega)];split
     ·rw[qAb (t4 _ (by omega) (by omega))];rfl
     ·rfl
def mxS (x y:Span):Span:=⟨imax x.A y.A,imin x.B y.B⟩
theorem qTT (x y:Span):WH x y=some (nrm (mxS x y)):=by
 unfold WH nrm mxS empS;simp only[ge_iff_le];cases decide (imin x.B y.B<=imax x.A y.A)<;>rfl
noncomputable def qGe (a b:qG):qG:=qBa (λj=>mxS (row a ((j:Int)-60)) (row b ((j:Int)-60)))
theorem qHk {g g':Nat->Span} (h:∀j,j<120->nrm (g j)=nrm (g' j)):qBa g=qBa g':=by
 refine qRE (EP g).1 (EP g').1 (λr=>?_);rw[(EP g).2,(EP g').2];unfold qFE;split
 ·exact h _ (by omega)
 ·rfl
theorem meet_eq {a b:qG} (ha:VS a) (hb:VS b):RK a b=some (qGe a b):=by
 have m1:∀r:Int,-60<=r->r<60->GW r a b=some (nrm (mxS (row a r) (row b r))):=λr h1 h2=>by
  unfold GW;rw[(qTL ha h1 h2).1,(qTL hb h1 h2).1];simp only[kd,qTT]
 unfold RK qGe;rw[qHk (g':=λj=>nrm (mxS (row a ((j:Int)-60)) (row b ((j:Int)-60)))) (λj _=>(nrm_nrm _).symm)];refine qSH (λj=>nrm (mxS (row a ((j:Int)-60)) (row b ((j:Int)-60)))) (wN a b) (λn x u w l hx=>?_) (λn u w l=>?_)
 ·rw[wN,ki (show(x:Int)-60<60 by omega),m1 _ (by omega) (by omega)];simp only[kp,kd,VI,TH,YF]
 ·rw[wN];rfl
theorem qXG {a b:qG} (ha:VS a) (hb:VS b):((TW a b FUEL [] (-60)).bind λo=>(UA (-60) o).bind λv=>some (qG.mk v.Low v.Rows))=some (qGe a b):=by
 have k:=qF1 (List.range 120) (λn (l:List Span) x=>TW a b n l x) (λx=>(x:Int)-60) (λx (_:Nat) l=>l++[mxS (row a ((x:Int)-60)) (row b ((x:Int)-60))]) (λl=>l) (λx l=>l.length=x) (by simp)
  (λn x l hx hi=>by
   have hx':x<120:=by simpa using hx
   refine⟨?_,by simp[hi]⟩;rw[TW,ki (show(x:Int)-60<60 by omega),(qTL ha (by omega) (by omega)).2,(qTL hb (by omega) (by omega)).2];simp only[kp,kd];rw[yC (by omega),w64_o (by omega),show(x:Int)-60+1=((x+1:Nat):Int)-60 by omega];rfl)
  (λn l _=>by
   have e:(((List.range 120).length:Nat):Int)-60=60:=by rw[uD];rfl
   simp only[e];rw[TW];rfl) (i:= -60) rfl [] rfl
 rw[qKR (λx (_:Nat)=>mxS (row a ((x:Int)-60)) (row b ((x:Int)-60))),uw] at k;rw[k.1];simp only[kd];rw[qPv _ (by rw[qOz];simp)];simp only[kd];have e:qBa (λj=>(mapi (λx (_:Nat)=>mxS (row a ((x:Int)-60)) (row b ((x:Int)-60))) 0 (List.range 120)).getD j du)=qGe a b:=by
  unfold qGe;refine qHk (λj hj=>?_);rw[qNZ _ _ _ _ (by rw[uD];exact hj),kB]
 rw[qG.eta,e]
theorem Meet_eq (a b:qG):DR a b=some (qGe (zbQ a) (zbQ b))/\qIA a b=some (qGe (zbQ a) (zbQ b)):=by
 unfold DR qIA;rw[(qFC a).1,(qFC a).2,(qFC b).1,(qFC b).2];simp only[kd];rw[meet_eq (qJr a) (qJr b)];exact⟨rfl,qXG (qJr a) (qJr b)⟩
def lenS (x:Span):Int:=bif empS x then 0 else x.B-x.A
theorem qUv (n:Int):IntKind.u64.wrap n=n % 18446744073709551616:=by
 unfold IntKind.wrap;simp only[IntKind.bits,IntKind.signed,Bool.false_and];simp
theorem qMX {x:Span} (h:x.B-x.A<=9223372036854775807):PA x=some (lenS x):=by
 unfold PA qCR SB lenS empS;by_cases he:x.B<=x.A
 ·rw[ki (show x.A≥x.B from he)];rfl
 ·rw[kf (show¬x.A≥x.B from he),qUv,qUv,qUv];simp only[kv,kd];rw[show(x.B % 18446744073709551616-x.A % 18446744073709551616) % 18446744073709551616=x.B-x.A by omega];have:imin (x.B-x.A) 9223372036854775807=x.B-x.A:=by have:=qBA (x.B-x.A) 9223372036854775807;omega
  rw[this,w64_o (by omega)]
def inRange (p:qA):Bool:=(decide (-600<=p.X)&&decide (p.X<=600))&&(decide (-600<=p.Y)&&decide (p.Y<=600))
theorem qCE {p:qA}:inRange p=true↔(-600<=p.X/\p.X<=600)/\(-600<=p.Y/\p.Y<=600):=by
 unfold inRange;simp only[kq,decide_eq_true_eq]
theorem qYT (a:Int):FP a=some (decide (-600<=a)&&decide (a<=600)):=by
 unfold FP EF;by_cases h:a≥-600<;>simp[h]
def wrapB (c:Bool):Bool⊕Unit:=bif c then .inr () else .inl false
theorem qO1 (a:List qA) (hl:a.length<=1000000):∀(n x:Nat),a.length<x+n->x<=a.length->JD a n (x:Int)=some (wrapB ((a.drop x).all inRange))
 |0,x,h1,h2=>by omega
 |n+1,x,h1,h2=>by
  unfold JD;by_cases hx:x<a.length
  ·have ih:=qO1 a hl n (x+1) (by omega) (by omega);rw[lt_t (by omega),zR (by omega),HK a x hx];simp only[kp,kg,qYT,kd,LI,wH (show x<4611686018427387904 by omega),ih,List.all_cons,inRange];generalize a.getD x du=p;cases (decide (-600<=p.X)&&decide (p.X<=600))<;>cases (decide (-600<=p.Y)&&decide (p.Y<=600))<;>simp[wrapB]
  ·rw[lt_f (by omega),uA (by omega)];rfl
theorem qIH (a:List qA) (hl:a.length<=1000000):RV a=some (a.all inRange):=by
 unfold RV;have h:=qO1 a hl FUEL 0 (by rw[FUEL_eq];omega) (by omega);rw[show((0:Nat):Int)=0 from rfl,uN] at h;rw[h,kd];cases a.all inRange<;>rfl
theorem q0b (p:qA) (b:Bool):(bif decide (p.X< -600) then some (Sum.inl false) else bif decide (p.X>600) then some (Sum.inl false) else bif decide (p.Y< -600) then some (Sum.inl false) else bif decide (p.Y>600) then some (Sum.inl false) else some (wrapB b))=some (wrapB (decide (-600<=p.X)&&decide (p.X<=600)&&(decide (-600<=p.Y)&&decide (p.Y<=600))&&b)):=by
 by_cases h1:p.X< -600
 ·simp[h1,show¬-600<=p.X by omega,wrapB]
 by_cases h2:p.X>600
 ·simp[h1,h2,show¬p.X<=600 by omega,wrapB]
 by_cases h3:p.Y< -600
 ·simp[h1,h2,h3,show¬-600<=p.Y by omega,wrapB]
 by_cases h4:p.Y>600
 ·simp[h1,h2,h3,h4,show¬p.Y<=600 by omega,wrapB]
 simp[h1,h2,h3,h4,show-600<=p.X by omega,show p.X<=600 by omega,show-600<=p.Y by omega,show p.Y<=600 by omega]
theorem qIa (a:List qA) (hl:a.length<=1000000):∀(n x:Nat),a.length<x+n->x<=a.length->yA a n (x:Int)=some (wrapB ((a.drop x).all inRange))
 |0,x,h1,h2=>by omega
 |n+1,x,h1,h2=>by
  unfold yA;by_cases hx:x<a.length
  ·have ih:=qIa a hl n (x+1) (by omega) (by omega);rw[lt_t (by omega),zR (by omega),HK a x hx];simp only[kp,kg,XX,wH (show x<4611686018427387904 by omega),ih,List.all_cons,inRange];exact q0b _ _
  ·rw[lt_f (by omega),uA (by omega)];rfl
theorem qKs (a:List qA) (hl:a.length<=1000000):XO a=some (a.all inRange):=by
 unfold XO;have h:=qIa a hl FUEL 0 (by rw[FUEL_eq];omega) (by omega);rw[show((0:Nat):Int)=0 from rfl,uN] at h;rw[h,kd];cases a.all inRange<;>rfl
def term (p q:qA):Int:=p.X*q.Y-q.X*p.Y
def qEE (a:List qA):Nat->Nat->Int->Int
 |_,0,acc=>acc
 |x,m+1,acc=>qEE a (x+1) m (acc+term (a.getD x du) (a.getD ((x+1) % a.length) du))
def area (a:List qA):Int:=qEE a 0 a.length 0
theorem qC1 {a:List qA} (h:a.all inRange=true) {x:Nat} (hx:x<a.length):(-600<=(a.getD x du).X/\(a.getD x du).X<=600)/\(-600<=(a.getD x du).Y/\(a.getD x du).Y<=600):=
 qCE.1 (ky.1 h _ (wJ hx))
theorem qPJ {a b:Int} (h1: -600<=a/\a<=600) (h2: -600<=b/\b<=600): -360000<=a*b/\a*b<=360000:=
 qGs (m:=600) (n:=600) h1.1 h1.2 h2.1 h2.2 (by decide) (by decide)
theorem term_b {p q:qA} (hp:(-600<=p.X/\p.X<=600)/\(-600<=p.Y/\p.Y<=600)) (hq:(-600<=q.X/\q.X<=600)/\(-600<=q.Y/\q.Y<=600)): -720000<=term p q/\term p q<=720000:=by
 have h1:=qPJ hp.1 hq.2;have h2:=qPJ hq.1 hp.2;unfold term;omega
theorem qSb (a:List qA) (hr:a.all inRange=true) (hl:a.length<=1000000):∀(m n x:Nat) (acc:Int),x+m=a.length->m<n->-(720000*(x:Int))<=acc->acc<=720000*(x:Int)->TM a n acc (x:Int)=some (qEE a x m acc)/\DQ a n acc (x:Int)=some (qEE a x m acc)
 |_,0,x,_,_,hn,_,_=>by omega
 |0,n+1,x,acc,hx,_,_,_=>by
  unfold TM DQ qEE;rw[lt_f (by omega)];exact⟨rfl,rfl⟩
 |m+1,n+1,x,acc,hx,hn,hb1,hb2=>by
  have hlen:0<a.length:=by omega
  have hy:(x+1) % a.length<a.length:=kK _ hlen;have hp:=qC1 hr (show x<a.length by omega);have hq:=qC1 hr hy;have ht:=term_b hp hq;obtain⟨ih1,ih2⟩:=qSb a hr hl m n (x+1) (acc+term (a.getD x du) (a.getD ((x+1) % a.length) du)) (by omega) (by omega) (by omega) (by omega);have p1:=qPJ hp.1 hq.2;have p2:=qPJ hq.1 hp.2;unfold TM DQ qEE;rw[qT0 hlen (by omega),lt_t (by omega),zR (i:=(x:Int)) (by omega),nz_t (by omega),zR (by omega)];simp only[kp,kg,wH (show x<4611686018427387904 by omega)]
  change-720000<=(a.getD x du).X*(a.getD ((x+1) % a.length) du).Y-(a.getD ((x+1) % a.length) du).X*(a.getD x du).Y/\_ at ht;constructor
  ·rw[w64_o (n:=(a.getD x du).X*_) (by omega),w64_o (n:=(a.getD ((x+1) % a.length) du).X*_) (by omega),w64_o (n:=_-_) (by omega),w64_o (by omega)];exact ih1
  ·rw[w64_o (n:=(a.getD x du).X*_) (by omega),w64_o (n:=(a.getD ((x+1) % a.length) du).X*_) (by omega),w64_o (n:=acc+_) (by omega),w64_o (n:=_-_) (by omega),show acc+(a.getD x du).X*(a.getD ((x+1) % a.length) du).Y-(a.getD ((x+1) % a.length) du).X*(a.getD x du).Y=acc+term (a.getD x du) (a.getD ((x+1) % a.length) du) by unfold term;omega];exact ih2
def qTF (a:List qA):Int:=bif decide ((a.length:Int)>32) then 0 else bif a.all inRange then area a else 0
theorem qW3 (a:List qA):qA1 a=some (qTF a)/\qG8 a=some (qTF a):=by
 unfold qA1 qG8 qTF IQ qBF;by_cases h:(a.length:Int)>32
 ·simp[h]
 ·rw[kf h,qIH a (by omega),qKs a (by omega)];simp only[kv,kd];cases hr:a.all inRange with
  |false=>exact⟨rfl,rfl⟩
  |true=>
   obtain⟨h1,h2⟩:=qSb a hr (by omega) a.length FUEL 0 0 (by omega) (by rw[FUEL_eq];omega) (by omega) (by omega);simp only[show((0:Nat):Int)=0 from rfl] at h1 h2;simp only[ue,kv,kp,h1,h2,kd];exact⟨rfl,rfl⟩
def chk (a:List qA):Int:=bif decide ((a.length:Int)<3) then 3 else bif decide ((a.length:Int)>32) then 4 else bif !(a.all inRange) then 9 else bif area a==0 then 19 else 0
theorem qY3 (a:List qA):qAY a=some (chk a)/\qHj a=some (chk a):=by
 unfold qAY qHj chk;by_cases h:(a.length:Int)<3
 ·simp[h]
 by_cases h2:(a.length:Int)>32
 ·simp[h,h2]
 rw[kf h,kf h2,qIH a (by omega),qKs a (by omega),(qW3 a).1,(qW3 a).2];simp only[kv,kd,qTF,kf h2];cases a.all inRange with
 |false=>exact⟨rfl,rfl⟩
 |true=>
  simp only[ue,kv,kp];cases area a==0<;>exact⟨rfl,rfl⟩
def TJ (r:Rect) (p:qA):Rect:=Rect.mk (Span.mk (imin r.X.A p.X) (imax r.X.B p.X)) (Span.mk (imin r.Y.A p.Y) (imax r.Y.B p.Y))
def bounds (a:List qA):Rect:=match a with
 |[]=>Rect.mk (Span.mk 0 0) (Span.mk 0 0)
 |p::l=>l.foldl TJ (Rect.mk (Span.mk p.X p.X) (Span.mk p.Y p.Y))
theorem qG3 (a:List qA) (hl:a.length<=1000000):∀(n x:Nat) (r:Rect),a.length<x+n->x<=a.length->DX a n (x:Int) r=some ((a.drop x).foldl TJ r)/\LT a n (x:Int) r=some ((a.drop x).foldl TJ r)
 |0,x,r,h1,h2=>by omega
 |n+1,x,r,h1,h2=>by
  unfold DX LT;by_cases hx:x<a.length
  ·have ih:=qG3 a hl n (x+1) (TJ r (a.getD x du)) (by omega) (by omega);rw[lt_t (by omega),zR (by omega),HK a x hx];simp only[kp,kg,wH (show x<4611686018427387904 by omega),uG];exact ih
  ·rw[lt_f (by omega),uA (by omega)];exact⟨rfl,rfl⟩
theorem qYV (x:Int):imin x x=x:=by unfold imin;simp
theorem qYz (x:Int):imax x x=x:=by unfold imax;simp
theorem qYW (a:List qA) (hl:a.length<=1000000):IC a=some (bounds a)/\qKD a=some (bounds a):=by
 unfold IC qKD;cases a with
 |nil=>exact⟨rfl,rfl⟩
 |cons p l=>
  have h0:((((p::l).length:Nat):Int)==0)=false:=by simp;omega
  have h1:=(qG3 (p::l) hl FUEL 0 (Rect.mk (Span.mk p.X p.X) (Span.mk p.Y p.Y)) (by rw[FUEL_eq];omega) (by omega)).1;have h2:=(qG3 (p::l) hl FUEL 1 (Rect.mk (Span.mk p.X p.X) (Span.mk p.Y p.Y)) (by rw[FUEL_eq];omega) (by simp)).2;rw[uN] at h1;rw[h0,inb_t (by omega) (by simp)];simp only[kv,kp,gB,ua];rw[show((0:Nat):Int)=0 from rfl] at h1;rw[show((1:Nat):Int)=1 from rfl] at h2;rw[h1,h2];refine⟨?_,rfl⟩;show some (l.foldl TJ (TJ _ p))=_;unfold TJ;simp only[qYV,qYz];rfl
def cross (p q c:qA):Int:=(q.X-p.X)*(c.Y-p.Y)-(c.X-p.X)*(q.Y-p.Y)
abbrev rng (p:qA):Prop:=(-600<=p.X/\p.X<=600)/\(-600<=p.Y/\p.Y<=600)
theorem qUs {p q c:qA} (hp:rng p) (hq:rng q) (hc:rng c):qAN p q c=some (cross p q c)/\qHi p q c=some (cross p q c):=by
 obtain⟨⟨p1,p2⟩,p3,p4⟩:=hp;obtain⟨⟨q1,q2⟩,q3,q4⟩:=hq;obtain⟨⟨c1,c2⟩,c3,c4⟩:=hc;have m1:=qGs (a:=q.X-p.X) (b:=c.Y-p.Y) (m:=1200) (n:=1200) (by omega) (by omega) (by omega) (by omega) (by decide) (by decide);have m2:=qGs (a:=c.X-p.X) (b:=q.Y-p.Y) (m:=1200) (n:=1200) (by omega) (by omega) (by omega) (by omega) (by decide) (by decide);unfold qAN qHi cross;rw[w64_o (n:=q.X-p.X) (by omega),w64_o (n:=c.Y-p.Y) (by omega),w64_o (n:=c.X-p.X) (by omega),w64_o (n:=q.Y-p.Y) (by omega),Int.mul_comm (q.Y-p.Y) (c.X-p.X),
  w64_o (n:=(q.X-p.X)*(c.Y-p.Y)) (by omega),w64_o (n:=(c.X-p.X)*(q.Y-p.Y)) (by omega),w64_o (by omega)]
 exact⟨rfl,rfl⟩
def pLt (p q:qA):Prop:=p.X<q.X\/(p.X=q.X/\p.Y<q.Y)
instance (p q:qA):Decidable (pLt p q):=inferInstanceAs (Decidable (_\/_))
def pLe (p q:qA):Bool:=!decide (pLt q p)
theorem qYI {p q:qA} (h1:p.X=q.X) (h2:p.Y=q.Y):p=q:=by cases p;cases q;simp_all
theorem pLt_irrefl (p:qA):¬pLt p p:=by unfold pLt;omega
theorem qDe {p q r:qA} (h1:pLt p q) (h2:pLt q r):pLt p r:=by unfold pLt at*;omega
theorem pLt_tri (p q:qA):pLt p q\/p=q\/pLt q p:=by
 by_cases h1:pLt p q
 ·exact .inl h1
 by_cases h2:pLt q p
 ·exact .inr (.inr h2)
 unfold pLt at*;exact .inr (.inl (qYI (by omega) (by omega)))
theorem pLt_asymm {p q:qA} (h1:pLt p q):¬pLt q p:=λh2=>pLt_irrefl _ (qDe h1 h2)
theorem pLe_iff {p q:qA}:pLe p q=true↔pLt p q\/p=q:=by
 unfold pLe;simp only[uv,decide_eq_false_iff_not];refine⟨λh=>?_,λh=>?_⟩
 ·rcases pLt_tri p q with h1|h1|h1
  ·exact .inl h1
  ·exact .inr h1
  ·exact absurd h1 h
 ·rcases h with h|rfl
  ·exact pLt_asymm h
  ·exact pLt_irrefl _
theorem cmp_lt (p q:qA):(poly_Hull_1 p q).getD 0<0↔pLt p q:=by
 rw[poly_Hull_1_eq];have:=ltPt p q;unfold Go.Proofs.ltOf at this;have h2:=decide_eq_decide.1 this;exact h2
theorem sort_eq (a:List qA):FM poly_Hull_1 a=WY pLe a:=by
 unfold FM
 congr 1
 funext x y
 unfold pLe
 congr 1
 exact decide_eq_decide.2 (cmp_lt y x)
abbrev QH (l:List qA):Prop:=l.Pairwise pLt
theorem qJt :∀{l t:List qA},QH l->QH t->(∀p,p∈l↔p∈t)->l=t
 |[],[],_,_,_=>rfl
 |[],q::t,_,_,h=>by have:=(h q).2 kN;cases this
 |p::l,[],_,_,h=>by have:=(h p).1 kN;cases this
 |p::l,q::t,hl,ht,h=>by
  obtain⟨l1,l2⟩:=kO.1 hl;obtain⟨t1,t2⟩:=kO.1 ht;have e:p=q:=by
   rcases kW.1 ((h p).1 kN) with h1|h1
   ·exact h1
   ·rcases kW.1 ((h q).2 kN) with h2|h2
    ·exact h2.symm
    ·exact absurd (t1 p h1) (pLt_asymm (l1 q h2))
  subst e
  congr 1
  refine qJt l2 t2 (λr=>⟨λhr=>?_,λhr=>?_⟩)
  ·rcases kW.1 ((h r).1 (kG _ hr)) with rfl|h1
   ·exact absurd (l1 r hr) (pLt_irrefl _)
   ·exact h1
  ·rcases kW.1 ((h r).2 (kG _ hr)) with rfl|h1
   ·exact absurd (t1 r hr) (pLt_irrefl _)
   ·exact h1
def peq (p q:qA):Bool:=(p.X==q.X)&&((p.Y==q.Y)&&true)
theorem qLR {p q:qA}:peq p q=true↔p=q:=by
 unfold peq;simp only[kq,beq_iff_eq,and_true];exact⟨λh=>qYI h.1 h.2,λh=>by subst h;exact⟨rfl,rfl⟩⟩
def ddT (l:List qA):Nat->List qA
 |0=>[]
 |m+1=>ddT l m++(bif !(Nat.beq m 0)&&peq (l.getD m du) (l.getD (m-1) du) then[] else[l.getD m du])
theorem qRy (l:List qA):∀m,(ddT l m).length<=m
 |0=>ke _
 |m+1=>by
  have:=qRy l m;unfold ddT;rw[kS];cases (!(Nat.beq m 0)&&peq (l.getD m du) (l.getD (m-1) du))<;>simp<;>omega
theorem qRx (l:List qA):∀m,m<=l.length->∀p,p∈ddT l m↔p∈l.take m
 |0,_,p=>by simp[ddT]
 |m+1,hm,p=>by
  have hx:m<l.length:=by omega
  have ht:l.take (m+1)=l.take m++[l.getD m du]:=by
   rw[gN,ks hx,ka,ks hx];rfl
  unfold ddT;rw[ud,qRx l m (by omega),ht,ud];cases h:(!(Nat.beq m 0)&&peq (l.getD m du) (l.getD (m-1) du)) with
  |false=>simp
  |true=>
   rw[kq] at h;have h0:m≠0:=λe=>by rw[e] at h;cases h.1
   have he:=qLR.1 h.2;simp only[kp,List.not_mem_nil,or_false,un];refine⟨.inl,λh'=>h'.elim id λe=>?_⟩;rw[e,he,da];exact⟨m-1,by omega,by rw[ka,ks (by omega)];rfl⟩
theorem qJo (l:List qA) (hs:l.Pairwise (λa b=>pLe a b=true)):∀m,m<=l.length->QH (ddT l m)
 |0,_=>List.Pairwise.nil
 |m+1,hm=>by
  have hx:m<l.length:=by omega
  unfold ddT;cases h:(!(Nat.beq m 0)&&peq (l.getD m du) (l.getD (m-1) du)) with
  |true=>simp only[kp,gw];exact qJo l hs m (by omega)
  |false=>
   simp only[kv];refine List.pairwise_append.2 ⟨qJo l hs m (by omega),List.pairwise_singleton _ _,λp hp q hq=>?_⟩;rw[un] at hq;subst hq;rw[qRx l m (by omega)] at hp;have hm0:m≠0:=λe=>by subst e;simp at hp
   obtain⟨j,hj,rfl⟩:=da.1 hp;have hj':j<m:=by omega
   have g:∀i (hi:i<l.length),l.getD i du=l[i]:=λi hi=>by rw[ka,ks hi];rfl
   have hb:Nat.beq m 0=false:=by cases m with|zero=>exact absurd rfl hm0|succ m=>rfl
   rw[hb,gT,Bool.true_and] at h;have hne:¬l.getD m du=l.getD (m-1) du:=λe=>by rw[qLR.2 e] at h;cases h
   rw[gA] at hs;have s1:=pLe_iff.1 (hs (m-1) m (by omega) hx (by omega));rw[g m hx,g (m-1) (by omega)] at hne;rw[g m hx];have s2:pLt l[m-1] l[m]:=s1.resolve_right (λe=>hne e.symm);by_cases hjm:j=m-1
   ·subst hjm;exact s2
   ·rcases pLe_iff.1 (hs j (m-1) (by omega) (by omega) (by omega)) with h1|h1
    ·exact qDe h1 s2
    ·rw[h1];exact s2
theorem qI1 (l:List qA) (x:Nat) (hl:l.length<=1000000) (hx:0<x) (hxl:x<l.length):∀(n k i:Nat) (t:List qA),l.length-x<k+n->0<k->k<=l.length-x->t.length=l.length->i<=x+k-1->t.take i=ddT l (x+k)->i=(ddT l (x+k)).length->
  (∀j,x+k-1<=j->j<l.length->t.getD j du=l.getD j du)->∃t':List qA,jF l (x:Int) n t (i:Int) (k:Int)=some (t',((ddT l l.length).length:Int))/\t'.length=l.length/\t'.take (ddT l l.length).length=ddT l l.length
 |0,k,i,t,h1,_,h2,_,_,_,_,_=>by omega
 |n+1,k,i,t,h1,hk,h2,h3,h4,h5,h5',h6=>by
  unfold jF;simp only[kg];by_cases hkl:k<l.length-x
  ·have e1:w64 ((k:Int)-1)=((k-1:Nat):Int):=by rw[w64_o (by omega)];omega
   have hb:Nat.ble (x+(l.length-x)) t.length=true:=by rw[Nat.ble_eq];omega
   rw[lt_t (by omega),zR (by omega),hb,e1,zR (by omega)];simp only[kp,kg,WV,wH (show k<4611686018427387904 by omega),wH (show i<4611686018427387904 by omega)];have g1:t.getD (x+k) du=l.getD (x+k) du:=h6 _ (by omega) (by omega);have g2:t.getD (x+(k-1)) du=l.getD (x+k-1) du:=by rw[show x+(k-1)=x+k-1 by omega];exact h6 _ (by omega) (by omega)
   have hbq:Nat.beq (x+k) 0=false:=by rw[show x+k=(x+k-1)+1 by omega];rfl
   have hdd:ddT l (x+(k+1))=ddT l (x+k)++(bif peq (l.getD (x+k) du) (l.getD (x+k-1) du) then[] else[l.getD (x+k) du]):=by
    rw[show x+(k+1)=(x+k)+1 by omega,ddT,hbq];rfl
   rw[g1,g2];cases hp:peq (l.getD (x+k) du) (l.getD (x+k-1) du) with
   |true=>
    have hp':=hp;unfold peq at hp';rw[hp] at hdd;simp only[kp,gw] at hdd;rw[hp'];simp only[ue,kv];exact qI1 l x hl hx hxl n (k+1) i t (by omega) (by omega) (by omega) h3 (by omega) (by rw[hdd];exact h5) (by rw[hdd];exact h5') (λj hj1 hj2=>h6 j (by omega) hj2)
   |false=>
    have hp':=hp;unfold peq at hp';rw[hp] at hdd;simp only[kv] at hdd;rw[hp',zR (by omega)];simp only[gT,kp];refine qI1 l x hl hx hxl n (k+1) (i+1) _ (by omega) (by omega) (by omega) (by rw[uR];exact h3) (by omega) ?_ (by rw[hdd,kS,<-h5'];rfl) (λj hj1 hj2=>by rw[IE _ (by omega)];exact h6 j (by omega) hj2);rw[hdd,<-h5,gN,uU (by omega),List.take_set_of_le (ke _)];rfl
  ·have hkk:x+k=l.length:=by omega
   rw[lt_f (by omega)];rw[hkk] at h5 h5';exact⟨t,by simp only[kv];rw[h5'],h3,by rw[<-h5'];exact h5⟩
theorem compact_L1 (l:List qA) (hl:l.length<=1000000):∀(n x:Nat),l.length<x+n->0<x->x<=l.length->ddT l x=l.take x->(jX n l (x:Int)=some (.inl (ddT l l.length,ddT l l.length)))\/(jX n l (x:Int)=some (.inr l)/\ddT l l.length=l)
 |0,x,h1,_,h2,_=>by omega
 |n+1,x,h1,h0,h2,h3=>by
  unfold jX;by_cases hx:x<l.length
  ·have e1:w64 ((x:Int)-1)=((x-1:Nat):Int):=by rw[w64_o (by omega)];omega
   have hbq:Nat.beq x 0=false:=by rw[show x=(x-1)+1 by omega];rfl
   have hlen:(ddT l x).length=x:=by rw[h3];simp;omega
   rw[lt_t (by omega),e1,zR (by omega),zR (by omega)];simp only[kp,kg,wH (show x<4611686018427387904 by omega)];cases hp:peq (l.getD x du) (l.getD (x-1) du) with
   |true=>
    have hp':=hp;unfold peq at hp';have hdd:ddT l (x+1)=ddT l x:=by rw[ddT,hbq,hp];simp
    have hsl:slOk (x:Int) (l.length:Int) l.length=true:=by unfold slOk;exact ki ⟨by omega,by omega,by omega⟩
    obtain⟨t',e2,e3,e4⟩:=qI1 l x hl h0 hx FUEL 1 x l (by rw[FUEL_eq];omega) (by omega) (by omega) rfl (by omega) (by rw[hdd,h3]) (by rw[hdd,hlen]) (λj _ _=>rfl);have hle:=qRy l l.length;have s1:slOk ((ddT l l.length).length:Int) (t'.length:Int) t'.length=true:=by unfold slOk;exact ki ⟨by omega,by omega,by omega⟩
    have s2:slOk 0 ((ddT l l.length).length:Int) t'.length=true:=by unfold slOk;exact ki ⟨by omega,by omega,by omega⟩
    rw[show((1:Nat):Int)=1 from rfl] at e2;rw[hp',hsl,e2];simp only[kp,kd,s1,s2,kg,e4];exact .inl trivial
   |false=>
    have hp':=hp;unfold peq at hp';rw[hp'];simp only[kv];refine compact_L1 l hl n (x+1) (by omega) (by omega) (by omega) ?_;rw[ddT,hbq,hp,h3,gN,ks hx,ka,ks hx];rfl
  ·rw[lt_f (by omega)];have:x=l.length:=by omega
   rw[this,List.take_length] at h3;exact .inr ⟨rfl,h3⟩
theorem qXH (l:List qA) (hl:l.length<=1000000):QG l=some (ddT l l.length,ddT l l.length):=by
 unfold QG;by_cases h:(l.length:Int)<2
 ·rw[ki h];have:ddT l l.length=l:=by
   match l,h with
   |[],_=>rfl
   |[p],_=>rfl
   |p::q::r,h=>simp at h;omega
  rw[this];rfl
 ·rw[kf h];have h1:ddT l 1=l.take 1:=by
   match l,h with
   |[],h=>exact absurd (by decide) h
   |p::r,_=>rfl
  rcases compact_L1 l hl FUEL 1 (by rw[FUEL_eq];omega) (by omega) (by omega) h1 with h2|⟨h2,h3⟩
  ·rw[show((1:Nat):Int)=1 from rfl] at h2;rw[h2];rfl
  ·rw[show((1:Nat):Int)=1 from rfl] at h2;rw[h2,h3];rfl
end Saw
end Go.SL

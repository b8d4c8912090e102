/- Section's plain mathematics, part 8: SectionAdds, SectionTurns, SectionCommon. -/
import Derived.Test.YtigmogcdifllhaaGreatDoorEMa4
import Derived.Test.YtigmogcdifllhaaGreatDoorEMa2
import Derived.Test.YtigmogcdifllhaaGreatDoorEMa3
import Derived.Test.YtigmogcdifllhaaGreatDoorPCmp
set_option linter.unusedVariables false
set_option linter.unusedSimpArgs false
namespace Go.SL
namespace Saw
def inRange (p:qA):Bool:=(decide (-600<=p.X)&&decide (p.X<=600))&&(decide (-600<=p.Y)&&decide (p.Y<=600))
theorem qCp {p:qA}:inRange p=true↔(-600<=p.X/\p.X<=600)/\(-600<=p.Y/\p.Y<=600):=by
 unfold inRange;simp only[kr,decide_eq_true_eq]
theorem qY7 (a:Int):NT a=some (decide (-600<=a)&&decide (a<=600)):=by
 unfold NT SC;by_cases h:a≥-600<;>simp[h]
def wrapB (c:Bool):Bool⊕Unit:=bif c then .inr () else .inl false
theorem qQg (a:List qA) (hl:a.length<=1000000):∀(n x:Nat),a.length<x+n->x<=a.length->JA a n (x:Int)=some (wrapB ((a.drop x).all inRange))
 |0,x,h1,h2=>by omega
 |n+1,x,h1,h2=>by
  unfold JA;by_cases hx:x<a.length
  ·have ih:=qQg a hl n (x+1) (by omega) (by omega);rw[lt_t (by omega),zS (by omega),LZ a x hx];simp only[kp,kg,qY7,kd,FU,wF (show x<4611686018427387904 by omega),ih,List.all_cons,inRange];generalize a.getD x dd=p;cases (decide (-600<=p.X)&&decide (p.X<=600))<;>cases (decide (-600<=p.Y)&&decide (p.Y<=600))<;>simp[wrapB]
  ·rw[lt_f (by omega),uz (by omega)];rfl
theorem qIl (a:List qA) (hl:a.length<=1000000):RF a=some (a.all inRange):=by
 unfold RF;have h:=qQg a hl FUEL 0 (by rw[FUEL_eq];omega) (by omega);rw[show((0:Nat):Int)=0 from rfl,uK] at h;rw[h,kd];cases a.all inRange<;>rfl
theorem qZR (p:qA) (b:Bool):(bif decide (p.X< -600) then some (Sum.inl false) else bif decide (p.X>600) then some (Sum.inl false) else bif decide (p.Y< -600) then some (Sum.inl false) else bif decide (p.Y>600) then some (Sum.inl false) else some (wrapB b))=some (wrapB (decide (-600<=p.X)&&decide (p.X<=600)&&(decide (-600<=p.Y)&&decide (p.Y<=600))&&b)):=by
 by_cases h1:p.X< -600
 ·simp[h1,show¬-600<=p.X by omega,wrapB]
 by_cases h2:p.X>600
 ·simp[h1,h2,show¬p.X<=600 by omega,wrapB]
 by_cases h3:p.Y< -600
 ·simp[h1,h2,h3,show¬-600<=p.Y by omega,wrapB]
 by_cases h4:p.Y>600
 ·simp[h1,h2,h3,h4,show¬p.Y<=600 by omega,wrapB]
 simp[h1,h2,h3,h4,show-600<=p.X by omega,show p.X<=600 by omega,show-600<=p.Y by omega,show p.Y<=600 by omega]
theorem qH6 (a:List qA) (hl:a.length<=1000000):∀(n x:Nat),a.length<x+n->x<=a.length->jC a n (x:Int)=some (wrapB ((a.drop x).all inRange))
 |0,x,h1,h2=>by omega
 |n+1,x,h1,h2=>by
  unfold jC;by_cases hx:x<a.length
  ·have ih:=qH6 a hl n (x+1) (by omega) (by omega);rw[lt_t (by omega),zS (by omega),LZ a x hx];simp only[kp,kg,WN,wF (show x<4611686018427387904 by omega),ih,List.all_cons,inRange];exact qZR _ _
  ·rw[lt_f (by omega),uz (by omega)];rfl
theorem qJW (a:List qA) (hl:a.length<=1000000):ZT a=some (a.all inRange):=by
 unfold ZT;have h:=qH6 a hl FUEL 0 (by rw[FUEL_eq];omega) (by omega);rw[show((0:Nat):Int)=0 from rfl,uK] at h;rw[h,kd];cases a.all inRange<;>rfl
def term (p q:qA):Int:=p.X*q.Y-q.X*p.Y
def qEx (a:List qA):Nat->Nat->Int->Int
 |_,0,acc=>acc
 |x,m+1,acc=>qEx a (x+1) m (acc+term (a.getD x dd) (a.getD ((x+1) % a.length) dd))
def area (a:List qA):Int:=qEx a 0 a.length 0
theorem qDc {a:List qA} (h:a.all inRange=true) {x:Nat} (hx:x<a.length):(-600<=(a.getD x dd).X/\(a.getD x dd).X<=600)/\(-600<=(a.getD x dd).Y/\(a.getD x dd).Y<=600):=
 qCp.1 (kw.1 h _ (wG hx))
theorem qPu {a b:Int} (h1: -600<=a/\a<=600) (h2: -600<=b/\b<=600): -360000<=a*b/\a*b<=360000:=
 qGC (m:=600) (n:=600) h1.1 h1.2 h2.1 h2.2 (by decide) (by decide)
theorem term_b {p q:qA} (hp:(-600<=p.X/\p.X<=600)/\(-600<=p.Y/\p.Y<=600)) (hq:(-600<=q.X/\q.X<=600)/\(-600<=q.Y/\q.Y<=600)): -720000<=term p q/\term p q<=720000:=by
 have h1:=qPu hp.1 hq.2;have h2:=qPu hq.1 hp.2;unfold term;omega
theorem qRU (a:List qA) (hr:a.all inRange=true) (hl:a.length<=1000000):∀(m n x:Nat) (acc:Int),x+m=a.length->m<n->-(720000*(x:Int))<=acc->acc<=720000*(x:Int)->TC a n acc (x:Int)=some (qEx a x m acc)/\GY a n acc (x:Int)=some (qEx a x m acc)
 |_,0,x,_,_,hn,_,_=>by omega
 |0,n+1,x,acc,hx,_,_,_=>by
  unfold TC GY qEx;rw[lt_f (by omega)];exact⟨rfl,rfl⟩
 |m+1,n+1,x,acc,hx,hn,hb1,hb2=>by
  have hlen:0<a.length:=by omega
  have hy:(x+1) % a.length<a.length:=kJ _ hlen;have hp:=qDc hr (show x<a.length by omega);have hq:=qDc hr hy;have ht:=term_b hp hq;obtain⟨ih1,ih2⟩:=qRU a hr hl m n (x+1) (acc+term (a.getD x dd) (a.getD ((x+1) % a.length) dd)) (by omega) (by omega) (by omega) (by omega);have p1:=qPu hp.1 hq.2;have p2:=qPu hq.1 hp.2;unfold TC GY qEx;rw[qVk hlen (by omega),lt_t (by omega),zS (i:=(x:Int)) (by omega),nz_t (by omega),zS (by omega)];simp only[kp,kg,wF (show x<4611686018427387904 by omega)]
  change-720000<=(a.getD x dd).X*(a.getD ((x+1) % a.length) dd).Y-(a.getD ((x+1) % a.length) dd).X*(a.getD x dd).Y/\_ at ht;constructor
  ·rw[w64_o (n:=(a.getD x dd).X*_) (by omega),w64_o (n:=(a.getD ((x+1) % a.length) dd).X*_) (by omega),w64_o (n:=_-_) (by omega),w64_o (by omega)];exact ih1
  ·rw[w64_o (n:=(a.getD x dd).X*_) (by omega),w64_o (n:=(a.getD ((x+1) % a.length) dd).X*_) (by omega),w64_o (n:=acc+_) (by omega),w64_o (n:=_-_) (by omega),show acc+(a.getD x dd).X*(a.getD ((x+1) % a.length) dd).Y-(a.getD ((x+1) % a.length) dd).X*(a.getD x dd).Y=acc+term (a.getD x dd) (a.getD ((x+1) % a.length) dd) by unfold term;omega];exact ih2
def qTn (a:List qA):Int:=bif decide ((a.length:Int)>32) then 0 else bif a.all inRange then area a else 0
theorem qWR (a:List qA):qAF a=some (qTn a)/\qGZ a=some (qTn a):=by
 unfold qAF qGZ qTn IQ qBM;by_cases h:(a.length:Int)>32
 ·simp[h]
 ·rw[kf h,qIl a (by omega),qJW a (by omega)];simp only[ku,kd];cases hr:a.all inRange with
  |false=>exact⟨rfl,rfl⟩
  |true=>
   obtain⟨h1,h2⟩:=qRU a hr (by omega) a.length FUEL 0 0 (by omega) (by rw[FUEL_eq];omega) (by omega) (by omega);simp only[show((0:Nat):Int)=0 from rfl] at h1 h2;simp only[uc,ku,kp,h1,h2,kd];exact⟨rfl,rfl⟩
def chk (a:List qA):Int:=bif decide ((a.length:Int)<3) then 3 else bif decide ((a.length:Int)>32) then 4 else bif !(a.all inRange) then 9 else bif area a==0 then 19 else 0
theorem qYA (a:List qA):qAE a=some (chk a)/\qG3 a=some (chk a):=by
 unfold qAE qG3 chk;by_cases h:(a.length:Int)<3
 ·simp[h]
 by_cases h2:(a.length:Int)>32
 ·simp[h,h2]
 rw[kf h,kf h2,qIl a (by omega),qJW a (by omega),(qWR a).1,(qWR a).2];simp only[ku,kd,qTn,kf h2];cases a.all inRange with
 |false=>exact⟨rfl,rfl⟩
 |true=>
  simp only[uc,ku,kp];cases area a==0<;>exact⟨rfl,rfl⟩
def RV (r:Rect) (p:qA):Rect:=Rect.mk (Span.mk (imin r.X.A p.X) (imax r.X.B p.X)) (Span.mk (imin r.Y.A p.Y) (imax r.Y.B p.Y))
def bounds (a:List qA):Rect:=match a with
 |[]=>Rect.mk (Span.mk 0 0) (Span.mk 0 0)
 |p::l=>l.foldl RV (Rect.mk (Span.mk p.X p.X) (Span.mk p.Y p.Y))
theorem qG8 (a:List qA) (hl:a.length<=1000000):∀(n x:Nat) (r:Rect),a.length<x+n->x<=a.length->GN a n (x:Int) r=some ((a.drop x).foldl RV r)/\FQ a n (x:Int) r=some ((a.drop x).foldl RV r)
 |0,x,r,h1,h2=>by omega
 |n+1,x,r,h1,h2=>by
  unfold GN FQ;by_cases hx:x<a.length
  ·have ih:=qG8 a hl n (x+1) (RV r (a.getD x dd)) (by omega) (by omega);rw[lt_t (by omega),zS (by omega),LZ a x hx];simp only[kp,kg,wF (show x<4611686018427387904 by omega),uE];exact ih
  ·rw[lt_f (by omega),uz (by omega)];exact⟨rfl,rfl⟩
theorem qYC (x:Int):imin x x=x:=by unfold imin;simp
theorem qYk (x:Int):imax x x=x:=by unfold imax;simp
theorem qZj (a:List qA) (hl:a.length<=1000000):AI a=some (bounds a)/\qKO a=some (bounds a):=by
 unfold AI qKO;cases a with
 |nil=>exact⟨rfl,rfl⟩
 |cons p l=>
  have h0:((((p::l).length:Nat):Int)==0)=false:=by simp;omega
  have h1:=(qG8 (p::l) hl FUEL 0 (Rect.mk (Span.mk p.X p.X) (Span.mk p.Y p.Y)) (by rw[FUEL_eq];omega) (by omega)).1;have h2:=(qG8 (p::l) hl FUEL 1 (Rect.mk (Span.mk p.X p.X) (Span.mk p.Y p.Y)) (by rw[FUEL_eq];omega) (by simp)).2;rw[uK] at h1;rw[h0,inb_t (by omega) (by simp)];simp only[ku,kp,gA,kZ];rw[show((0:Nat):Int)=0 from rfl] at h1;rw[show((1:Nat):Int)=1 from rfl] at h2;rw[h1,h2];refine⟨?_,rfl⟩;show some (l.foldl RV (RV _ p))=_;unfold RV;simp only[qYC,qYk];rfl
def cross (p q c:qA):Int:=(q.X-p.X)*(c.Y-p.Y)-(c.X-p.X)*(q.Y-p.Y)
abbrev rng (p:qA):Prop:=(-600<=p.X/\p.X<=600)/\(-600<=p.Y/\p.Y<=600)
theorem qUl {p q c:qA} (hp:rng p) (hq:rng q) (hc:rng c):CW p q c=some (cross p q c)/\qG0 p q c=some (cross p q c):=by
 obtain⟨⟨p1,p2⟩,p3,p4⟩:=hp;obtain⟨⟨q1,q2⟩,q3,q4⟩:=hq;obtain⟨⟨c1,c2⟩,c3,c4⟩:=hc;have m1:=qGC (a:=q.X-p.X) (b:=c.Y-p.Y) (m:=1200) (n:=1200) (by omega) (by omega) (by omega) (by omega) (by decide) (by decide);have m2:=qGC (a:=c.X-p.X) (b:=q.Y-p.Y) (m:=1200) (n:=1200) (by omega) (by omega) (by omega) (by omega) (by decide) (by decide);unfold CW qG0 cross;rw[w64_o (n:=q.X-p.X) (by omega),w64_o (n:=c.Y-p.Y) (by omega),w64_o (n:=c.X-p.X) (by omega),w64_o (n:=q.Y-p.Y) (by omega),Int.mul_comm (q.Y-p.Y) (c.X-p.X),
  w64_o (n:=(q.X-p.X)*(c.Y-p.Y)) (by omega),w64_o (n:=(c.X-p.X)*(q.Y-p.Y)) (by omega),w64_o (by omega)]
 exact⟨rfl,rfl⟩
def pLt (p q:qA):Prop:=p.X<q.X\/(p.X=q.X/\p.Y<q.Y)
instance (p q:qA):Decidable (pLt p q):=inferInstanceAs (Decidable (_\/_))
def pLe (p q:qA):Bool:=!decide (pLt q p)
theorem qZf {p q:qA} (h1:p.X=q.X) (h2:p.Y=q.Y):p=q:=by cases p;cases q;simp_all
theorem pLt_irrefl (p:qA):¬pLt p p:=by unfold pLt;omega
theorem qCU {p q r:qA} (h1:pLt p q) (h2:pLt q r):pLt p r:=by unfold pLt at*;omega
theorem pLt_tri (p q:qA):pLt p q\/p=q\/pLt q p:=by
 by_cases h1:pLt p q
 ·exact .inl h1
 by_cases h2:pLt q p
 ·exact .inr (.inr h2)
 unfold pLt at*;exact .inr (.inl (qZf (by omega) (by omega)))
theorem pLt_asymm {p q:qA} (h1:pLt p q):¬pLt q p:=λh2=>pLt_irrefl _ (qCU h1 h2)
theorem pLe_iff {p q:qA}:pLe p q=true↔pLt p q\/p=q:=by
 unfold pLe;simp only[ut,decide_eq_false_iff_not];refine⟨λh=>?_,λh=>?_⟩
 ·rcases pLt_tri p q with h1|h1|h1
  ·exact .inl h1
  ·exact .inr h1
  ·exact absurd h1 h
 ·rcases h with h|rfl
  ·exact pLt_asymm h
  ·exact pLt_irrefl _
theorem cmp_lt (p q:qA):(poly_Hull_1 p q).getD 0<0↔pLt p q:=by
 rw[poly_Hull_1_eq];have:=ltPt p q;unfold Go.Proofs.ltOf at this;have h2:=decide_eq_decide.1 this;exact h2
theorem sort_eq (a:List qA):BR poly_Hull_1 a=WR pLe a:=by
 unfold BR
 congr 1
 funext x y
 unfold pLe
 congr 1
 exact decide_eq_decide.2 (cmp_lt y x)
abbrev QA (l:List qA):Prop:=l.Pairwise pLt
theorem qJv :∀{l t:List qA},QA l->QA t->(∀p,p∈l↔p∈t)->l=t
 |[],[],_,_,_=>rfl
 |[],q::t,_,_,h=>by have:=(h q).2 kO;cases this
 |p::l,[],_,_,h=>by have:=(h p).1 kO;cases this
 |p::l,q::t,hl,ht,h=>by
  obtain⟨l1,l2⟩:=kP.1 hl;obtain⟨t1,t2⟩:=kP.1 ht;have e:p=q:=by
   rcases kW.1 ((h p).1 kO) with h1|h1
   ·exact h1
   ·rcases kW.1 ((h q).2 kO) with h2|h2
    ·exact h2.symm
    ·exact absurd (t1 p h1) (pLt_asymm (l1 q h2))
  subst e
  congr 1
  refine qJv l2 t2 (λr=>⟨λhr=>?_,λhr=>?_⟩)
  ·rcases kW.1 ((h r).1 (kF _ hr)) with rfl|h1
   ·exact absurd (l1 r hr) (pLt_irrefl _)
   ·exact h1
  ·rcases kW.1 ((h r).2 (kF _ hr)) with rfl|h1
   ·exact absurd (t1 r hr) (pLt_irrefl _)
   ·exact h1
def peq (p q:qA):Bool:=(p.X==q.X)&&((p.Y==q.Y)&&true)
theorem qLi {p q:qA}:peq p q=true↔p=q:=by
 unfold peq;simp only[kr,beq_iff_eq,and_true];exact⟨λh=>qZf h.1 h.2,λh=>by subst h;exact⟨rfl,rfl⟩⟩
def ddT (l:List qA):Nat->List qA
 |0=>[]
 |m+1=>ddT l m++(bif !(Nat.beq m 0)&&peq (l.getD m dd) (l.getD (m-1) dd) then[] else[l.getD m dd])
theorem qQ7 (l:List qA):∀m,(ddT l m).length<=m
 |0=>ke _
 |m+1=>by
  have:=qQ7 l m;unfold ddT;rw[kS];cases (!(Nat.beq m 0)&&peq (l.getD m dd) (l.getD (m-1) dd))<;>simp<;>omega
theorem qRr (l:List qA):∀m,m<=l.length->∀p,p∈ddT l m↔p∈l.take m
 |0,_,p=>by simp[ddT]
 |m+1,hm,p=>by
  have hx:m<l.length:=by omega
  have ht:l.take (m+1)=l.take m++[l.getD m dd]:=by
   rw[gI,kq hx,ka,kq hx];rfl
  unfold ddT;rw[ub,qRr l m (by omega),ht,ub];cases h:(!(Nat.beq m 0)&&peq (l.getD m dd) (l.getD (m-1) dd)) with
  |false=>simp
  |true=>
   rw[kr] at h;have h0:m≠0:=λe=>by rw[e] at h;cases h.1
   have he:=qLi.1 h.2;simp only[kp,List.not_mem_nil,or_false,uj];refine⟨.inl,λh'=>h'.elim id λe=>?_⟩;rw[e,he,gU];exact⟨m-1,by omega,by rw[ka,kq (by omega)];rfl⟩
theorem qI3 (l:List qA) (hs:l.Pairwise (λa b=>pLe a b=true)):∀m,m<=l.length->QA (ddT l m)
 |0,_=>List.Pairwise.nil
 |m+1,hm=>by
  have hx:m<l.length:=by omega
  unfold ddT;cases h:(!(Nat.beq m 0)&&peq (l.getD m dd) (l.getD (m-1) dd)) with
  |true=>simp only[kp,gu];exact qI3 l hs m (by omega)
  |false=>
   simp only[ku];refine List.pairwise_append.2 ⟨qI3 l hs m (by omega),List.pairwise_singleton _ _,λp hp q hq=>?_⟩;rw[uj] at hq;subst hq;rw[qRr l m (by omega)] at hp;have hm0:m≠0:=λe=>by subst e;simp at hp
   obtain⟨j,hj,rfl⟩:=gU.1 hp;have hj':j<m:=by omega
   have g:∀i (hi:i<l.length),l.getD i dd=l[i]:=λi hi=>by rw[ka,kq hi];rfl
   have hb:Nat.beq m 0=false:=by cases m with|zero=>exact absurd rfl hm0|succ m=>rfl
   rw[hb,gM,Bool.true_and] at h;have hne:¬l.getD m dd=l.getD (m-1) dd:=λe=>by rw[qLi.2 e] at h;cases h
   rw[gy] at hs;have s1:=pLe_iff.1 (hs (m-1) m (by omega) hx (by omega));rw[g m hx,g (m-1) (by omega)] at hne;rw[g m hx];have s2:pLt l[m-1] l[m]:=s1.resolve_right (λe=>hne e.symm);by_cases hjm:j=m-1
   ·subst hjm;exact s2
   ·rcases pLe_iff.1 (hs j (m-1) (by omega) (by omega) (by omega)) with h1|h1
    ·exact qCU h1 s2
    ·rw[h1];exact s2
theorem qIF (l:List qA) (x:Nat) (hl:l.length<=1000000) (hx:0<x) (hxl:x<l.length):∀(n k i:Nat) (t:List qA),l.length-x<k+n->0<k->k<=l.length-x->t.length=l.length->i<=x+k-1->t.take i=ddT l (x+k)->i=(ddT l (x+k)).length->
  (∀j,x+k-1<=j->j<l.length->t.getD j dd=l.getD j dd)->∃t':List qA,jD l (x:Int) n t (i:Int) (k:Int)=some (t',((ddT l l.length).length:Int))/\t'.length=l.length/\t'.take (ddT l l.length).length=ddT l l.length
 |0,k,i,t,h1,_,h2,_,_,_,_,_=>by omega
 |n+1,k,i,t,h1,hk,h2,h3,h4,h5,h5',h6=>by
  unfold jD;simp only[kg];by_cases hkl:k<l.length-x
  ·have e1:w64 ((k:Int)-1)=((k-1:Nat):Int):=by rw[w64_o (by omega)];omega
   have hb:Nat.ble (x+(l.length-x)) t.length=true:=by rw[Nat.ble_eq];omega
   rw[lt_t (by omega),zS (by omega),hb,e1,zS (by omega)];simp only[kp,kg,WX,wF (show k<4611686018427387904 by omega),wF (show i<4611686018427387904 by omega)];have g1:t.getD (x+k) dd=l.getD (x+k) dd:=h6 _ (by omega) (by omega);have g2:t.getD (x+(k-1)) dd=l.getD (x+k-1) dd:=by rw[show x+(k-1)=x+k-1 by omega];exact h6 _ (by omega) (by omega)
   have hbq:Nat.beq (x+k) 0=false:=by rw[show x+k=(x+k-1)+1 by omega];rfl
   have hdd:ddT l (x+(k+1))=ddT l (x+k)++(bif peq (l.getD (x+k) dd) (l.getD (x+k-1) dd) then[] else[l.getD (x+k) dd]):=by
    rw[show x+(k+1)=(x+k)+1 by omega,ddT,hbq];rfl
   rw[g1,g2];cases hp:peq (l.getD (x+k) dd) (l.getD (x+k-1) dd) with
   |true=>
    have hp':=hp;unfold peq at hp';rw[hp] at hdd;simp only[kp,gu] at hdd;rw[hp'];simp only[uc,ku];exact qIF l x hl hx hxl n (k+1) i t (by omega) (by omega) (by omega) h3 (by omega) (by rw[hdd];exact h5) (by rw[hdd];exact h5') (λj hj1 hj2=>h6 j (by omega) hj2)
   |false=>
    have hp':=hp;unfold peq at hp';rw[hp] at hdd;simp only[ku] at hdd;rw[hp',zS (by omega)];simp only[gM,kp];refine qIF l x hl hx hxl n (k+1) (i+1) _ (by omega) (by omega) (by omega) (by rw[gc];exact h3) (by omega) ?_ (by rw[hdd,kS,<-h5'];rfl) (λj hj1 hj2=>by rw[AG _ (by omega)];exact h6 j (by omega) hj2);rw[hdd,<-h5,gI,uR (by omega),List.take_set_of_le (ke _)];rfl
  ·have hkk:x+k=l.length:=by omega
   rw[lt_f (by omega)];rw[hkk] at h5 h5';exact⟨t,by simp only[ku];rw[h5'],h3,by rw[<-h5'];exact h5⟩
theorem compact_L1 (l:List qA) (hl:l.length<=1000000):∀(n x:Nat),l.length<x+n->0<x->x<=l.length->ddT l x=l.take x->(jT n l (x:Int)=some (.inl (ddT l l.length,ddT l l.length)))\/(jT n l (x:Int)=some (.inr l)/\ddT l l.length=l)
 |0,x,h1,_,h2,_=>by omega
 |n+1,x,h1,h0,h2,h3=>by
  unfold jT;by_cases hx:x<l.length
  ·have e1:w64 ((x:Int)-1)=((x-1:Nat):Int):=by rw[w64_o (by omega)];omega
   have hbq:Nat.beq x 0=false:=by rw[show x=(x-1)+1 by omega];rfl
   have hlen:(ddT l x).length=x:=by rw[h3];simp;omega
   rw[lt_t (by omega),e1,zS (by omega),zS (by omega)];simp only[kp,kg,wF (show x<4611686018427387904 by omega)];cases hp:peq (l.getD x dd) (l.getD (x-1) dd) with
   |true=>
    have hp':=hp;unfold peq at hp';have hdd:ddT l (x+1)=ddT l x:=by rw[ddT,hbq,hp];simp
    have hsl:slOk (x:Int) (l.length:Int) l.length=true:=by unfold slOk;exact ki ⟨by omega,by omega,by omega⟩
    obtain⟨t',e2,e3,e4⟩:=qIF l x hl h0 hx FUEL 1 x l (by rw[FUEL_eq];omega) (by omega) (by omega) rfl (by omega) (by rw[hdd,h3]) (by rw[hdd,hlen]) (λj _ _=>rfl);have hle:=qQ7 l l.length;have s1:slOk ((ddT l l.length).length:Int) (t'.length:Int) t'.length=true:=by unfold slOk;exact ki ⟨by omega,by omega,by omega⟩
    have s2:slOk 0 ((ddT l l.length).length:Int) t'.length=true:=by unfold slOk;exact ki ⟨by omega,by omega,by omega⟩
    rw[show((1:Nat):Int)=1 from rfl] at e2;rw[hp',hsl,e2];simp only[kp,kd,s1,s2,kg,e4];exact .inl trivial
   |false=>
    have hp':=hp;unfold peq at hp';rw[hp'];simp only[ku];refine compact_L1 l hl n (x+1) (by omega) (by omega) (by omega) ?_;rw[ddT,hbq,hp,h3,gI,kq hx,ka,kq hx];rfl
  ·rw[lt_f (by omega)];have:x=l.length:=by omega
   rw[this,List.take_length] at h3;exact .inr ⟨rfl,h3⟩
theorem qXF (l:List qA) (hl:l.length<=1000000):QD l=some (ddT l l.length,ddT l l.length):=by
 unfold QD;by_cases h:(l.length:Int)<2
 ·rw[ki h];have:ddT l l.length=l:=by
   match l,h with
   |[],_=>rfl
   |[p],_=>rfl
   |p::q::r,h=>simp at h;omega
  rw[this];rfl
 ·rw[kf h];have h1:ddT l 1=l.take 1:=by
   match l,h with
   |[],h=>exact absurd (by decide) h
   |p::r,_=>rfl
  rcases compact_L1 l hl FUEL 1 (by rw[FUEL_eq];omega) (by omega) (by omega) h1 with h2|⟨h2,h3⟩
  ·rw[show((1:Nat):Int)=1 from rfl] at h2;rw[h2];rfl
  ·rw[show((1:Nat):Int)=1 from rfl] at h2;rw[h2,h3];rfl
end Saw
end Go.SL

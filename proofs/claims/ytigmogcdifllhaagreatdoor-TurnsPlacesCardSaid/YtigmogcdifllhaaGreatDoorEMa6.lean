/- Poly's plain mathematics, part 5: the hull, as both compute it. -/
import Derived.Test.YtigmogcdifllhaaGreatDoorEMa5
import Derived.Test.YtigmogcdifllhaaGreatDoorEMa3
set_option linter.unusedVariables false
set_option linter.unusedSimpArgs false
namespace Go.SL
namespace Saw
theorem q1I (p q:qA):FF p q=some (decide (pLt p q)):=by
 unfold FF RH pLt;by_cases h1:p.X<q.X
 ·simp[h1]
 ·by_cases h2:p.X=q.X
  ·simp[h1,h2]
  ·have:(p.X==q.X)=false:=by simpa using h2
   simp[h1,h2,this]
theorem qTT (a l:List qA) (x:Nat) (hl:l.length<=1000000) (hx:x<a.length):∀(n k:Nat),l.length<k+n->k<=l.length->(∀j,j<k->pLt (l.getD j dd) (a.getD x dd))->
  ∃k',WB a l (x:Int) n (k:Int)=some ((k':Nat):Int)/\k'<=l.length/\(∀j,j<k'->pLt (l.getD j dd) (a.getD x dd))/\(k'<l.length->¬pLt (l.getD k' dd) (a.getD x dd))
 |0,k,h1,h2,_=>by omega
 |n+1,k,h1,h2,h3=>by
  unfold WB;by_cases hk:k<l.length
  ·rw[lt_t (by omega),zT (by omega),zT (by omega)];simp only[ko,kr,q1I,ke,BX,wE (show k<4611686018427387904 by omega)];by_cases hp:pLt (l.getD k dd) (a.getD x dd)
   ·rw[kf hp];exact qTT a l x hl hx n (k+1) (by omega) (by omega) (λj hj=>by
     by_cases hjk:j=k
     ·subst hjk;exact hp
     ·exact h3 j (by omega))
   ·rw[kg hp];exact⟨k,rfl,h2,h3,λ_=>hp⟩
  ·rw[lt_f (by omega)];exact⟨k,rfl,h2,h3,λh=>absurd h hk⟩
theorem qJL {α:Type} [Inhabited α] {l:List α} {i:Nat} (h:i<l.length):l.getD i dd=l[i]:=by rw[ka,kp h];rfl
theorem qH1 (a:List qA) (hl:a.length<=1000000):∀(n x:Nat) (l:List qA),a.length<x+n->x<=a.length->l.length<=x->yJ l->(∀p,p∈l↔p∈a.take x)->∃s,yE a n l (x:Int)=some s/\yJ s/\(∀p,p∈s↔p∈a)/\s.length<=a.length
 |0,x,l,h1,h2,_,_,_=>by omega
 |n+1,x,l,h1,h2,h3,h4,h5=>by
  unfold yE;by_cases hx:x<a.length
  ·obtain⟨k,e1,e2,e3,e4⟩:=qTT a l x (by omega) hx FUEL 0 (by rw[FUEL_eq];omega) (by omega) (λj hj=>by omega);have ht:a.take (x+1)=a.take x++[a.getD x dd]:=by rw[gE,kp hx,qJL hx];rfl
   rw[show((0:Nat):Int)=0 from rfl] at e1;rw[lt_t (by omega),e1];simp only[ko,ke,NG,NF,kr,wE (show x<4611686018427387904 by omega)];have s1:slOk 0 ((k:Nat):Int) l.length=true:=by unfold slOk;exact kf ⟨by omega,by omega,by omega⟩
   have s2:slOk ((k:Nat):Int) (l.length:Int) l.length=true:=by unfold slOk;exact kf ⟨by omega,by omega,by omega⟩
   rw[s1,s2,QI (n:=0+k) (by omega),QI (n:=0+k+1) (by omega),QI (n:=0+k+1+(l.length-k)) (by omega),zT (i:=(x:Int)) (by omega)];simp only[ko,un];have hins:¬(k<l.length/\peq (l.getD k dd) (a.getD x dd)=true)->∃s,yE a n (l.take k++[a.getD x dd]++(l.drop k).take (l.length-k)) ((x+1:Nat):Int)=some s/\yJ s/\(∀p,p∈s↔p∈a)/\s.length<=a.length:=by
    intro hne;have hdr:(l.drop k).take (l.length-k)=l.drop k:=uR (by simp);rw[hdr];have hall:∀p∈l.drop k,pLt (a.getD x dd) p:=by
     intro p hp;obtain⟨j,hj,rfl⟩:=uF.1 hp;rw[ub] at hj;rw[List.getElem_drop];have hk:k<l.length:=by omega
     have hc:pLt (a.getD x dd) (l.getD k dd):=by
      rcases pLt_tri (l.getD k dd) (a.getD x dd) with h|h|h
      ·exact absurd h (e4 hk)
      ·exact absurd ⟨hk,qMG.2 h⟩ hne
      ·exact h
     rw[qJL hk] at hc;by_cases hj0:j=0
     ·subst hj0;exact hc
     ·have h4':=gr.1 h4;exact qDe hc (h4' k (k+j) hk (by omega) (by omega))
    have htk:∀p∈l.take k,pLt p (a.getD x dd):=by
     intro p hp;obtain⟨j,hj,rfl⟩:=gQ.1 hp;have:=e3 j (by omega)
     rwa [qJL (by omega)] at this
    refine qH1 a hl n (x+1) _ (by omega) (by omega) (by simp;omega) ?_ (λp=>?_)
    ·refine List.pairwise_append.2 ⟨List.pairwise_append.2 ⟨h4.take,List.pairwise_singleton _ _,λp hp q hq=>?_⟩,h4.drop,λp hp q hq=>?_⟩
     ·rw[uv] at hq;subst hq;exact htk p hp
     ·rcases uo.1 hp with hp|hp
      ·exact qDe (htk p hp) (hall q hq)
      ·rw[uv] at hp;subst hp;exact hall q hq
    ·rw[ht,uo,uo,uo,<-h5 p];have:p∈l↔p∈l.take k\/p∈l.drop k:=by rw[<-uo,List.take_append_drop]
     rw[this];constructor
     ·rintro((h|h)|h)
      ·exact .inl (.inl h)
      ·exact .inr h
      ·exact .inl (.inr h)
     ·rintro((h|h)|h)
      ·exact .inl (.inl h)
      ·exact .inr h
      ·exact .inl (.inr h)
   by_cases hk:k<l.length
   ·rw[lt_t (by omega),zT (by omega)];simp only[ko];cases hp:peq (l.getD k dd) (a.getD x dd) with
    |true=>
     have hp':=hp;unfold peq at hp';rw[hp'];simp only[ko];refine qH1 a hl n (x+1) l (by omega) (by omega) (by omega) h4 (λp=>?_);rw[ht,uo,<-h5 p,uv];refine⟨.inl,λh=>h.elim id λe=>?_⟩;rw[e,<-qMG.1 hp];exact wP hk
    |false=>
     have hp':=hp;unfold peq at hp';rw[hp'];simp only[ku];exact hins (λh=>by rw[hp] at h;cases h.2)
   ·rw[lt_f (by omega)];simp only[ku];exact hins (λh=>hk h.1)
  ·rw[lt_f (by omega)];rw[uR (by omega)] at h5;exact⟨l,rfl,h4,h5,by omega⟩
def srt (a:List qA):List qA:=ddT (WR pLe a) (WR pLe a).length
theorem q1c (x y z:qA) (h1:pLe x y=true) (h2:pLe y z=true):pLe x z=true:=by
 rw[pLe_iff] at*;rcases h1 with h1|rfl
 ·rcases h2 with h2|rfl
  ·exact .inl (qDe h1 h2)
  ·exact .inl h1
 ·exact h2
theorem q1t (x y:qA):pLe x y=true\/pLe y x=true:=by
 rw[pLe_iff,pLe_iff];rcases pLt_tri x y with h|h|h
 ·exact .inl (.inl h)
 ·exact .inl (.inr h)
 ·exact .inr (.inl h)
theorem CV (a:List qA):yJ (srt a):=qJY _ (qBv q1c q1t a) _ (kd _)
theorem qE8 (a:List qA) (p:qA):p∈srt a↔p∈a:=by
 unfold srt;rw[qTv _ _ (kd _),List.take_length];exact(VW pLe a).mem_iff
theorem qMK (a:List qA):(srt a).length<=a.length:=by
 have:=qSN (WR pLe a) (WR pLe a).length;have h2:=(VW pLe a).length_eq;unfold srt;omega
theorem qXo (a:List qA) (hl:a.length<=1000000):FP a=some (srt a):=by
 unfold FP;obtain⟨s,e1,e2,e3,_⟩:=qH1 a hl FUEL 0 [] (by rw[FUEL_eq];omega) (by omega) (by simp) List.Pairwise.nil (λp=>by simp);rw[show((0:Nat):Int)=0 from rfl] at e1;rw[e1,ke]
 congr 1
 exact qKv e2 (CV a) (λp=>by rw[e3,qE8])
def turnP (q:Nat) (p:qA):qA:=match q with
 |0=>p
 |1=>⟨-p.Y,p.X⟩
 |2=>⟨-p.X,-p.Y⟩
 |_=>⟨p.Y,-p.X⟩
def canT (p:qA):Bool:=!(p.X== -9223372036854775808)&&!(p.Y== -9223372036854775808)
def turns (a:List qA) (q:Nat):List qA:=bif a.all canT then a.map (turnP q) else[]
def popR :List qA->qA->List qA
 |t::s::r,c=>if cross s t c<=0 then popR (s::r) c else t::s::r
 |l,_=>l
theorem qOc (c:qA):∀st,(popR st c).length<=st.length
 |[]=>kd _
 |[_]=>kd _
 |t::s::r=>by
  unfold popR;split
  ·have:=qOc c (s::r);simp at this⊢;omega
  ·exact kd _
theorem qPg (c:qA):∀st p,p∈popR st c->p∈st
 |[],_,h=>h
 |[_],_,h=>h
 |t::s::r,p,h=>by
  unfold popR at h;split at h
  ·exact kE _ (qPg c (s::r) p h)
  ·exact h
def jF (st:List qA) (c:qA):List qA:=c::popR st c
def chainR (a:List qA):List qA:=a.foldl jF []
theorem two_top (t s:qA) (r:List qA):((t::s::r).reverse).getD r.length dd=s/\((t::s::r).reverse).getD (r.length+1) dd=t/\((t::s::r).reverse).take (r.length+1)=(s::r).reverse:=by
 simp only[kK,kI,uE,un];refine⟨?_,?_,?_⟩
 ·rw[ka,kA (by simp)];simp
 ·rw[ka,kA (by simp)];simp
 ·rw[List.take_append,uR (by simp)];simp
theorem qWb (a:List qA) (x:Nat) (hx:x<a.length) (hc:rng (a.getD x dd)):∀(n:Nat) (st:List qA),st.length<n->st.length<=1000000->(∀p∈st,rng p)->
  YY a (x:Int) n st.reverse=some (popR st (a.getD x dd)).reverse/\WZ a (x:Int) n st.reverse=some (popR st (a.getD x dd)).reverse
 |0,st,h,_,_=>by omega
 |n+1,[],_,_,_=>⟨rfl,rfl⟩
 |n+1,[t],_,_,_=>⟨rfl,rfl⟩
 |n+1,t::s::r,h,hl,hr=>by
  have hs:rng s:=hr s (by simp);have ht:rng t:=hr t (by simp);obtain⟨g1,g2,g3⟩:=two_top t s r;have hlen:((t::s::r).reverse).length=r.length+2:=by simp
  simp only[uU] at h hl;have e1:w64 (((r.length+2:Nat):Int)-2)=(r.length:Int):=by rw[zK (by omega)];omega
  have e2:w64 (((r.length+2:Nat):Int)-1)=((r.length+1:Nat):Int):=by rw[zK (by omega)];omega
  have hsl:slOk 0 ((r.length+1:Nat):Int) (r.length+2)=true:=by unfold slOk;exact kf ⟨by omega,by omega,by omega⟩
  obtain⟨ih1,ih2⟩:=qWb a x hx hc n (s::r) (by simp;omega) (by simp;omega) (λp hp=>hr p (kE _ hp));unfold YY WZ AG LU popR;rw[hlen,e1,e2,kf (show((r.length+2:Nat):Int)≥2 by omega),kf (show((r.length+2:Nat):Int)>1 by omega),zT (i:=(r.length:Int)) (by omega),zT (i:=((r.length+1:Nat):Int)) (by omega),zT (i:=(x:Int)) (by omega),hsl];simp only[ko,kr,g1,g2,g3,(qWI hs ht hc).1,(qWI hs ht hc).2,ke,ih1,ih2];by_cases hcr:cross s t (a.getD x dd)<=0
  ·rw[kf hcr,if_pos hcr];exact⟨rfl,rfl⟩
  ·rw[kg hcr,if_neg hcr];exact⟨rfl,rfl⟩
theorem qWU (a:List qA) (hr:∀p∈a,rng p) (hl:a.length<=1000000):∀(n x:Nat) (st:List qA),a.length<x+n->x<=a.length->st.length<=x->(∀p∈st,rng p)->
  GW a n st.reverse (x:Int)=some ((a.drop x).foldl jF st).reverse/\TS a n st.reverse (x:Int)=some ((a.drop x).foldl jF st).reverse
 |0,x,st,h1,h2,_,_=>by omega
 |n+1,x,st,h1,h2,h3,h4=>by
  unfold GW TS;by_cases hx:x<a.length
  ·have hc:rng (a.getD x dd):=hr _ (wP hx);obtain⟨p1,p2⟩:=qWb a x hx hc FUEL st (by rw[FUEL_eq];omega) (by omega) h4;have hp:=qOc (a.getD x dd) st;obtain⟨ih1,ih2⟩:=qWU a hr hl n (x+1) (jF st (a.getD x dd)) (by omega) (by omega) (by unfold jF;rw[uU];omega) (λp hp'=>by
    unfold jF at hp';rcases kX.1 hp' with rfl|hp'
    ·exact hc
    ·exact h4 p (qPg _ _ _ hp'))
   rw[lt_t (by omega),zT (by omega),p1,p2,NO a x hx];simp only[ko,ke,uf,QI (n:=(popR st (a.getD x dd)).length+1) (b:=16) (by omega),kr,wE (show x<4611686018427387904 by omega),uD];unfold jF at ih1 ih2⊢;rw[kK] at ih1 ih2;exact⟨ih1,ih2⟩
  ·rw[lt_f (by omega),uw (by omega)];exact⟨rfl,rfl⟩
theorem qIt :∀(a st:List qA),(a.foldl jF st).length<=a.length+st.length
 |[],st=>by simp
 |c::a,st=>by
  have h1:=qIt a (jF st c);have h2:=qOc c st;unfold jF at h1;simp only[uD,uU] at h1⊢;unfold jF;omega
theorem ZS (a:List qA):(chainR a).length<=a.length:=by have:=qIt a [];simpa[chainR] using this
theorem qKd :∀(a st:List qA),st≠[]\/a≠[]->a.foldl jF st≠[]
 |[],st,h=>by simpa using h
 |c::a,st,_=>qKd a (jF st c) (.inl (by unfold jF;simp))
theorem GB {a:List qA} (h:a≠[]):0<(chainR a).length:=ue.2 (qKd a [] (.inr h))
theorem qJj (a:List qA) (hr:∀p∈a,rng p) (hl:a.length<=1000000):(a≠[]->MV a=some (chainR a).tail.reverse)/\BD a=some (chainR a).reverse:=by
 obtain⟨h1,h2⟩:=qWU a hr hl FUEL 0 [] (by rw[FUEL_eq];omega) (by omega) (by simp) (λp hp=>by cases hp);rw[show((0:Nat):Int)=0 from rfl,uI,List.reverse_nil] at h1 h2;unfold MV BD;rw[h1,h2];refine⟨λhne=>?_,rfl⟩;have hp:=GB hne;have hle:=ZS a;change 0<(a.foldl jF []).length at hp;change (a.foldl jF []).length<=a.length at hle;have e2:w64 ((((a.foldl jF []).reverse.length:Nat):Int)-1)=(((a.foldl jF []).length-1:Nat):Int):=by rw[uf,zK (by omega)];omega
 have hsl:slOk 0 (((a.foldl jF []).length-1:Nat):Int) (a.foldl jF []).reverse.length=true:=by unfold slOk;rw[uf];exact kf ⟨by omega,by omega,by omega⟩
 simp only[ke,e2,hsl,ko,kr];unfold chainR;generalize a.foldl jF []=st at hp;cases st with
 |nil=>simp at hp
 |cons t r=>simp
theorem qXz (l:List qA) (hl:l.length<=1000000):∀(n i j:Nat) (t:List qA),l.length<2*i+2*n->i<=j+1->i+j+1=l.length->t.length=l.length->(∀k,k<l.length->(k<i\/j<k)->t.getD k dd=l.getD (l.length-1-k) dd)->(∀k,i<=k->k<=j->t.getD k dd=l.getD k dd)->
  yR n t (i:Int) (j:Int)=some l.reverse
 |0,i,j,t,h1,h2,h3,_,_,_=>by omega
 |n+1,i,j,t,h1,h2,h3,h4,h5,h6=>by
  unfold yR;by_cases hij:i<j
  ·have e1:w64 ((j:Int)-1)=((j-1:Nat):Int):=by rw[zK (by omega)];omega
   rw[lt_t (by omega),zT (i:=(j:Int)) (by omega),zT (i:=(i:Int)) (by omega),e1];simp only[ko,kr,wE (show i<4611686018427387904 by omega)];refine qXz l hl n (i+1) (j-1) _ (by omega) (by omega) (by omega) (by simp[h4]) (λk hk hkk=>?_) (λk hk1 hk2=>?_)
   ·by_cases hkj:k=j
    ·subst hkj;rw[qNX _ (by simp;omega),h6 i (by omega) (by omega)]
     congr 1;omega
    ·rw[EP _ (λe=>hkj e.symm)];by_cases hki:k=i
     ·subst hki;rw[qNX _ (by omega),h6 j (by omega) (by omega)]
      congr 1;omega
     ·rw[EP _ (λe=>hki e.symm)];exact h5 k hk (by omega)
   ·rw[EP _ (by omega),EP _ (by omega)];exact h6 k (by omega) (by omega)
  ·rw[lt_f (by omega)];have:t=l.reverse:=by
    refine qXC (by simp[h4]) (λk hk=>?_);rw[ka (l:=l.reverse),List.getElem?_reverse (by omega),<-ka];by_cases hkk:k<i\/j<k
    ·exact h5 k (by omega) hkk
    ·rw[h6 k (by omega) (by omega)];congr 1;omega
   rw[this];rfl
theorem rev_eq (l:List qA) (hne:l≠[]) (hl:l.length<=1000000):ZM l=some l.reverse:=by
 have hp:0<l.length:=ue.2 hne;unfold ZM;have h:=qXz l hl FUEL 0 (l.length-1) l (by rw[FUEL_eq];omega) (by omega) (by omega) rfl (λk hk h=>by omega) (λ_ _ _=>rfl);rw[show((0:Nat):Int)=0 from rfl] at h;rw[show w64 ((l.length:Int)-1)=((l.length-1:Nat):Int) by rw[zK (by omega)];omega,h];rfl
theorem qN7 (l:List qA) (h:l.length<=1000000):∀(n x:Nat) (t:List qA),x<n->x<=l.length->t=(l.drop x).reverse->YM l n t ((x:Int)-1)=some l.reverse
 |0,x,t,h1,h2,_=>by omega
 |n+1,0,t,h1,h2,h3=>by
  unfold YM;rw[kg (by omega),h3];rfl
 |n+1,x+1,t,h1,h2,h3=>by
  unfold YM;have hx:x<l.length:=by omega
  have ht:t.length<=1000000:=by rw[h3];simp;omega
  have e0:(((x+1:Nat):Int)-1)=(x:Int):=by omega
  have e4:w64 ((x:Int)-1)=(x:Int)-1:=zK (by omega);rw[e0,kf (by omega),zT (by omega),QI (by omega)];simp only[ko,kr,e4];refine qN7 l h n x _ (by omega) (by omega) ?_;rw[NO l x hx,kK,h3]
def hullOf (s:List qA):List qA:=if(chainR s).length+(chainR s.reverse).length<5 then[] else(chainR s).tail.reverse++(chainR s.reverse).tail.reverse
def hull (a:List qA):List qA:=bif decide ((a.length:Int)>32) then[] else bif a.all inRange then hullOf (srt a) else[]
theorem qV4 {s:List qA} (h:s.length<3):hullOf s=[]:=by
 have h1:=ZS s;have h2:=ZS s.reverse;rw[uf] at h2;unfold hullOf;rw[if_pos (by omega)]
theorem q0d (a:List qA):qAx a=some (hull a):=by
 unfold qAx hull AJ;by_cases h:(a.length:Int)>32
 ·simp[h]
 rw[kg h,qLW a (by omega)];simp only[ku,ke];cases hr:a.all inRange with
 |false=>rfl
 |true=>
  have hrng:∀p∈srt a,rng p:=λp hp=>qCC.1 (kv.1 hr p ((qE8 a p).1 hp));have hsl:=qMK a;have c1:=(qJj (srt a) hrng (by omega)).2;have c2:=(qJj (srt a).reverse (λp hp=>hrng p (by simpa using hp)) (by simp;omega)).2;have hrv:YM (srt a) FUEL [] (w64 (((srt a).length:Int)-1))=some (srt a).reverse:=by
   rw[zK (by omega)];exact qN7 (srt a) (by omega) FUEL (srt a).length [] (by rw[FUEL_eq];omega) (kd _) (by simp)
  rw[qXo a (by omega)];simp only[kZ,ku,ko,ke,hrv,c1,c2];have l1:=ZS (srt a);have l2:=ZS (srt a).reverse;rw[uf] at l2;simp only[uf];rw[zK (n:=((chainR (srt a)).length:Int)+((chainR (srt a).reverse).length:Int)) (by omega)];unfold hullOf;by_cases h5:(chainR (srt a)).length+(chainR (srt a).reverse).length<5
  ·rw[if_pos h5,lt_t (by omega)];rfl
  ·rw[if_neg h5,lt_f (by omega)];have hne:srt a≠[]:=λe=>by rw[e] at h5;simp[chainR] at h5
   have p1:=GB hne;have p2:=GB (a:=(srt a).reverse) (by simpa using hne);have e1:w64 (((chainR (srt a)).length:Int)-1)=(((chainR (srt a)).length-1:Nat):Int):=by rw[zK (by omega)];omega
   have e2:w64 (((chainR (srt a).reverse).length:Int)-1)=(((chainR (srt a).reverse).length-1:Nat):Int):=by rw[zK (by omega)];omega
   have s1:slOk 0 (((chainR (srt a)).length-1:Nat):Int) (chainR (srt a)).length=true:=by unfold slOk;exact kf ⟨by omega,by omega,by omega⟩
   have s2:slOk 0 (((chainR (srt a).reverse).length-1:Nat):Int) (chainR (srt a).reverse).length=true:=by unfold slOk;exact kf ⟨by omega,by omega,by omega⟩
   rw[e1,e2,s1,s2,QI (by simp;omega),QI (by simp;omega)];simp only[ku,ko,kr,un]
   congr 1
   have tk:∀st:List qA,0<st.length->st.reverse.take (st.length-1)=st.tail.reverse:=λst hst=>by
    cases st with
    |nil=>simp at hst
    |cons t r=>simp
   rw[tk _ p1,tk _ p2]
theorem qY0 (a:List qA):qDi a=some (hull a):=by
 unfold qDi hull FA;by_cases h3:(a.length:Int)<3
 ·have hs:hullOf (srt a)=[]:=qV4 (by have:=qMK a;omega);rw[kf h3,kg (show¬(a.length:Int)>32 by omega),hs];cases a.all inRange<;>rfl
 by_cases h:(a.length:Int)>32
 ·simp[h,h3]
 rw[kg h,kg h3,qJW a (by omega)];simp only[ku,ke];cases hr:a.all inRange with
 |false=>rfl
 |true=>
  have hrng:∀p∈srt a,rng p:=λp hp=>qCC.1 (kv.1 hr p ((qE8 a p).1 hp));have hsl:=qMK a;have hpl:=(VW pLe a).length_eq;have hane:a≠[]:=λe=>by rw[e] at h3;simp at h3
  have hne:srt a≠[]:=λe=>by
   obtain⟨p,hp⟩:=List.exists_mem_of_ne_nil a hane;have:=(qE8 a p).2 hp;rw[e] at this;cases this
  have c1:=(qJj (srt a) hrng (by omega)).1 hne;have c2:=(qJj (srt a).reverse (λp hp=>hrng p (by simpa using hp)) (by simp;omega)).1 (by simpa using hne);have hso:qLh a.length=true:=by unfold qLh;rw[kq,kQ,kQ];omega
  have hcl:WX a=some a:=by unfold WX;rw[QI (by omega)];rfl
  have hst:QU a=some (WR pLe a):=by unfold QU;rw[hso,sort_eq];rfl
  have hco:yK (WR pLe a)=some (srt a,srt a):=q0i (WR pLe a) (by omega);have l1:=ZS (srt a);have l2:=ZS (srt a).reverse;rw[uf] at l2;have p1:=GB hne;have p2:=GB (a:=(srt a).reverse) (by simpa using hne);simp only[kZ,ku,ko,hcl,hst,hco,ke,hpl,gv,c1,rev_eq _ hne (show(srt a).length<=1000000 by omega),c2,uf,List.length_tail];rw[QI (by omega)];unfold hullOf;by_cases h5:(chainR (srt a)).length+(chainR (srt a).reverse).length<5
  ·rw[if_pos h5,lt_t (by omega)];rfl
  ·rw[if_neg h5,lt_f (by omega)];rfl
theorem q0A (s:List qA):(hullOf s).length<=s.length+s.length:=by
 have h1:=ZS s;have h2:=ZS s.reverse;rw[uf] at h2;unfold hullOf;split
 ·simp
 ·simp;omega
theorem q2e (a:List qA):(hull a).length<=a.length+a.length:=by
 have h1:=q0A (srt a);have h2:=qMK a;unfold hull;cases decide ((a.length:Int)>32) with
 |true=>simp
 |false=>cases a.all inRange with
  |true=>simp only[ku,ko];omega
  |false=>simp
def pos (x y:Int):Prop:=0<x\/(x=0/\0<y)
theorem CG {ux uy vx vy wx wy:Int} (hu:pos ux uy) (hv:pos vx vy) (hw:pos wx wy) (h1:0<=ux*vy-vx*uy) (h2:0<=vx*wy-wx*vy):0<=ux*wy-wx*uy:=by
 unfold pos at*;have hux:0<=ux:=by omega
 have hwx:0<=wx:=by omega
 rcases hv with hv|⟨hv,hvy⟩
 ·have e:(ux*wy-wx*uy)*vx=(ux*vy-vx*uy)*wx+(vx*wy-wx*vy)*ux:=by grind
  have h3:0<=(ux*wy-wx*uy)*vx:=by rw[e];exact Int.add_nonneg (kz h1 hwx) (kz h2 hux)
  exact Int.nonneg_of_mul_nonneg_left h3 hv
 ·subst hv;have h4:0<=-(wx*vy):=by simpa using h2
  have hw0:wx=0:=by
   rcases gW hwx with h|h
   ·have:=uW h hvy;omega
   ·exact h.symm
  subst hw0;have hwy:0<wy:=by omega
  have:=kz hux (gX hwy);simpa using this
theorem WU {p q:qA} (h:pLt p q):pos (q.X-p.X) (q.Y-p.Y):=by unfold pLt at h;unfold pos;omega
theorem qMs (p q:qA):cross p q p=0:=by unfold cross;grind
theorem qXl (p q:qA):cross p q q=0:=by unfold cross;grind
theorem turn_b {s t c p:qA} (hst:pLt s t) (hsc:pLt s c) (hsp:pLt s p) (h1:cross s t c<=0) (h2:0<=cross s t p):0<=cross s c p:=by
 unfold cross at*;exact CG (WU hsc) (WU hst) (WU hsp) (by omega) h2
theorem turn_c {s t c p:qA} (hst:pLt s t) (htc:pLt t c) (hpt:pLt p t) (h1:0<cross s t c) (h2:0<=cross s t p):0<=cross t c p:=by
 have h3:=CG (ux:=t.X-p.X) (uy:=t.Y-p.Y) (vx:=t.X-s.X) (vy:=t.Y-s.Y) (wx:=c.X-t.X) (wy:=c.Y-t.Y) (WU hpt) (WU hst) (WU htc)
  (by unfold cross at h2;grind) (by unfold cross at h1;grind)
 unfold cross
 grind
def Left (pts:List qA):List qA->Prop
 |v::u::r=>(∀p∈pts,0<=cross u v p)/\Left pts (u::r)
 |_=>True
def qCB :List qA->Prop
 |c::t::s::r=>0<cross s t c/\qCB (t::s::r)
 |_=>True
theorem qWR (pts:List qA) (c:qA) (hc:∀p∈pts,pLt p c):∀(st:List qA),st.Pairwise (λa b=>pLt b a)->(∀p∈st,p∈pts)->Left pts st->qCB st->(∀t r,st=t::r->∀p∈pts,pLt t p->0<=cross t c p)->(∀t,st.getLast? =some t->∀p∈pts,p=t\/pLt t p)->
  Left pts (c::popR st c)/\qCB (c::popR st c)
 |[],_,_,_,_,_,_=>⟨trivial,trivial⟩
 |[t],_,hm,_,_,hq,hb=>by
  refine⟨⟨λp hp=>?_,trivial⟩,trivial⟩;rcases hb t rfl p hp with rfl|h
  ·rw[qMs];exact um _
  ·exact hq t [] rfl p hp h
 |t::s::r,hs,hm,hl,ht,hq,hb=>by
  obtain⟨s1,s2⟩:=kO.1 hs;have hst:pLt s t:=s1 s kN;obtain⟨l1,l2⟩:=hl;have htc:=hc t (hm t kN);unfold popR;by_cases hcr:cross s t c<=0
  ·rw[if_pos hcr];refine qWR pts c hc (s::r) s2 (λp hp=>hm p (kE _ hp)) l2 (by cases r with|nil=>trivial|cons u r=>exact ht.2) (λt' r' he p hp hsp=>?_) (λt' he p hp=>hb t' (by rw[ge];exact he) p hp);cases he;exact turn_b hst (hc s (hm s (by simp))) hsp hcr (l1 p hp)
  ·rw[if_neg hcr];refine⟨⟨λp hp=>?_,l1,l2⟩,by omega,ht⟩;rcases pLt_tri p t with h|h|h
   ·exact turn_c hst htc h (by omega) (l1 p hp)
   ·rw[h,qMs];exact um _
   ·exact hq t _ rfl p hp h
abbrev Desc (st:List qA):Prop:=st.Pairwise (λa b=>pLt b a)
structure Inv (pts st:List qA):Prop where
 desc:Desc st
 sub:∀p∈st,p∈pts
 left:Left pts st
 turns:qCB st
 top:∀t r,st=t::r->∀p∈pts,p=t\/pLt p t
 bot:∀t,st.getLast? =some t->∀p∈pts,p=t\/pLt t p
theorem qK9 (c:qA):∀st,Desc st->Desc (popR st c)
 |[],h=>h
 |[_],h=>h
 |t::s::r,h=>by
  unfold popR;split
  ·exact qK9 c (s::r) (kO.1 h).2
  ·exact h
theorem qLG (c:qA):∀st,(popR st c).getLast? =st.getLast?
 |[]=>rfl
 |[_]=>rfl
 |t::s::r=>by
  unfold popR;split
  ·rw[qLG c (s::r),ge]
  ·rfl
theorem qYr {a b:List qA}:∀{st:List qA},Left a st->Left b st->Left (a++b) st
 |[],_,_=>trivial
 |[_],_,_=>trivial
 |v::u::r,⟨h1,h2⟩,⟨h3,h4⟩=>⟨λp hp=>(uo.1 hp).elim (h1 p) (h3 p),qYr h2 h4⟩
theorem qX9 (c:qA):∀st,Desc st->(∀p∈st,pLt p c)->qCB st->(∀v u r,st=v::u::r->0<=cross u v c)->Left [c] st
 |[],_,_,_,_=>trivial
 |[_],_,_,_,_=>trivial
 |v::u::r,hd,hc,ht,h0=>by
  have h1:=h0 v u r rfl;obtain⟨d1,d2⟩:=kO.1 hd;refine⟨λp hp=>by rw[uv.1 hp];exact h1,qX9 c (u::r) d2 (λp hp=>hc p (kE _ hp)) (by cases r with|nil=>trivial|cons x r=>exact ht.2) (λv' u' r' he=>?_)⟩;cases he;obtain⟨t1,_⟩:=ht;have huv:pLt u v:=d1 u kN;have hxu:pLt u' u:=(kO.1 d2).1 u' kN;have huc:pLt u c:=hc u (by simp);have:=CG (WU hxu) (WU huv) (WU huc) (by unfold cross at t1;grind) (by unfold cross at h1;grind);unfold cross
  grind
theorem Inv.push {pts st:List qA} (h:Inv pts st) {c:qA} (hc:∀p∈pts,pLt p c) (hne:pts≠[]->st≠[]):Inv (pts++[c]) (jF st c):=by
 have hp:=qWR pts c hc st h.desc h.sub h.left h.turns (λt r he p hp htp=>by
  rcases h.top t r he p hp with rfl|h1
  ·exact absurd htp (pLt_irrefl _)
  ·exact absurd htp (pLt_asymm h1)) h.bot
 have hsub:∀p∈popR st c,p∈pts:=λp hp=>h.sub p (qPg c st p hp);have hlt:∀p∈popR st c,pLt p c:=λp hp=>hc p (hsub p hp);have hdesc:Desc (jF st c):=kO.2 ⟨hlt,qK9 c st h.desc⟩;refine⟨hdesc,λp hp'=>?_,qYr hp.1 ?_,hp.2,λt r he p hp'=>?_,λt he p hp'=>?_⟩
 ·rcases kX.1 hp' with rfl|hp'
  ·simp
  ·exact List.mem_append_left _ (hsub p hp')
 ·have hl:Left [c] (popR st c):=by
   refine qX9 c _ (qK9 c st h.desc) hlt ?_ (λv u r he=>?_)
   ·have:=hp.2;generalize popR st c=q at this
    match q,this with
    |[],_=>trivial
    |[_],_=>trivial
    |[_,_],_=>trivial
    |_::_::_::_,this=>exact this.2
   ·have:=hp.2;rw[he] at this;exact gX this.1
  unfold jF;generalize popR st c=q at hl
  match q,hl with
  |[],_=>trivial
  |t::r,hl=>exact⟨λp hp=>by rw[uv.1 hp,qXl];exact um _,hl⟩
 ·cases he;rcases uo.1 hp' with h1|h1
  ·exact .inr (hc p h1)
  ·exact .inl (uv.1 h1)
 ·unfold jF at he;by_cases hst:st=[]
  ·subst hst;have hpts:pts=[]:=Classical.byContradiction λhh=>hne hh rfl;subst hpts;simp[popR] at he;subst he;exact .inl (by simpa using hp')
  ·have hpe:popR st c≠[]:=λe=>by
    have:=qLG c st;rw[e] at this;exact hst (List.getLast?_eq_none_iff.1 this.symm)
   have he':st.getLast? =some t:=by
    obtain⟨x,q,hq⟩:=uT hpe;rw[<-qLG c st,hq];rw[hq,ge] at he;exact he
   rcases uo.1 hp' with h1|h1
   ·exact h.bot t he' p h1
   ·rw[uv.1 h1];exact .inr (hc t (h.sub t (List.mem_of_getLast? he')))
theorem qWa :∀(rest pts st:List qA),Inv pts st->(pts≠[]->st≠[])->(∀p∈pts,∀q∈rest,pLt p q)->yJ rest->Inv (pts++rest) (rest.foldl jF st)
 |[],pts,st,h,_,_,_=>by simpa using h
 |c::rest,pts,st,h,hne,hlt,hs=>by
  obtain⟨s1,s2⟩:=kO.1 hs;have:=qWa rest (pts++[c]) (jF st c) (h.push (λp hp=>hlt p hp c kN) hne) (λ_=>by unfold jF;simp) (λp hp q hq=>by
   rcases uo.1 hp with h1|h1
   ·exact hlt p h1 q (kE _ hq)
   ·rw[uv.1 h1];exact s1 q hq) s2
  rw[kI] at this;exact this
theorem qDv {s:List qA} (hs:yJ s):Inv s (chainR s):=by
 have:=qWa s [] [] ⟨List.Pairwise.nil,λp hp=>(by cases hp),trivial,trivial,λt r he=>(by cases he),λt he=>(by cases he)⟩ (λh=>absurd rfl h) (λp hp=>by cases hp) hs;simpa[chainR] using this
def ng (p:qA):qA:=⟨-p.X,-p.Y⟩
theorem ng_ng (p:qA):ng (ng p)=p:=by unfold ng;simp
theorem qJI (p q r:qA):cross (ng p) (ng q) (ng r)=cross p q r:=by unfold cross ng;grind
theorem qL8 {p q:qA}:pLt (ng p) (ng q)↔pLt q p:=by unfold pLt ng;simp only;omega
theorem qZA (c:qA):∀st,popR (st.map ng) (ng c)=(popR st c).map ng
 |[]=>rfl
 |[_]=>rfl
 |t::s::r=>by
  have ih:=qZA c (s::r);simp only[uB] at ih⊢;rw[popR,popR,qJI];split
  ·exact ih
  ·simp
theorem qZq :∀(l st:List qA),(l.map ng).foldl jF (st.map ng)=(l.foldl jF st).map ng
 |[],st=>rfl
 |c::l,st=>by
  have:=qZq l (jF st c);simp only[uB,uD];rw[<-this];unfold jF;rw[qZA,uB]
theorem qGT (l:List qA):chainR (l.map ng)=(chainR l).map ng:=qZq l []
theorem qZW {pts:List qA}:∀{st:List qA},Left (pts.map ng) (st.map ng)->Left pts st
 |[],_=>trivial
 |[_],_=>trivial
 |v::u::r,⟨h1,h2⟩=>⟨λp hp=>by have:=h1 (ng p) (List.mem_map_of_mem hp);rwa [qJI] at this,qZW h2⟩
theorem qXN :∀{st:List qA},qCB (st.map ng)->qCB st
 |[],_=>trivial
 |[_],_=>trivial
 |[_,_],_=>trivial
 |c::t::s::r,⟨h1,h2⟩=>⟨by rwa [qJI] at h1,qXN h2⟩
theorem qYs {a b:List qA} (h:∀p,p∈b->p∈a):∀{st:List qA},Left a st->Left b st
 |[],_=>trivial
 |[_],_=>trivial
 |_::_::_,⟨h1,h2⟩=>⟨λp hp=>h1 p (h p hp),qYs h h2⟩
structure Up (pts st:List qA):Prop where
 asc:yJ st
 sub:∀p∈st,p∈pts
 left:Left pts st
 turns:qCB st
 top:∀t r,st=t::r->∀p∈pts,p=t\/pLt t p
 bot:∀t,st.getLast? =some t->∀p∈pts,p=t\/pLt p t
theorem qRQ {s:List qA} (hs:yJ s):Up s (chainR s.reverse):=by
 have hs':yJ (s.reverse.map ng):=by
  refine List.pairwise_map.2 (gK.2 ?_);exact hs.imp (λh=>qL8.2 h)
 have hi:=qDv hs';have he:chainR (s.reverse.map ng)=(chainR s.reverse).map ng:=qGT _;rw[he] at hi;have hmem:∀p,p∈s->ng p∈s.reverse.map ng:=λp hp=>List.mem_map_of_mem (by simpa using hp);have inj:∀p q,ng p=ng q->p=q:=λp q h=>by rw[<-ng_ng p,h,ng_ng]
 refine⟨?_,λp hp=>?_,qZW (qYs (λp hp=>?_) hi.left),qXN hi.turns,λt r ht p hp=>?_,λt ht p hp=>?_⟩
 ·have:=hi.desc;rw[Desc,List.pairwise_map] at this;exact this.imp (λh=>qL8.1 h)
 ·have:=hi.sub (ng p) (List.mem_map_of_mem hp);obtain⟨q,hq,e⟩:=gu.1 this;rw[<-inj _ _ e];simpa using hq
 ·obtain⟨q,hq,e⟩:=gu.1 hp;rw[<-e];exact hmem q hq
 ·rcases hi.top (ng t) (r.map ng) (by rw[ht];rfl) (ng p) (hmem p hp) with h|h
  ·exact .inl (inj _ _ h)
  ·exact .inr (qL8.1 h)
 ·rcases hi.bot (ng t) (by rw[List.getLast?_map,ht];rfl) (ng p) (hmem p hp) with h|h
  ·exact .inl (inj _ _ h)
  ·exact .inr (qL8.1 h)
def qHr (pts:List qA):List qA->Prop
 |u::v::r=>(∀p∈pts,0<=cross u v p)/\qHr pts (v::r)
 |_=>True
theorem qJG {pts:List qA} {x:qA}:∀{a b:List qA},qHr pts (a++[x])->qHr pts (x::b)->qHr pts (a++x::b)
 |[],_,_,h=>h
 |[_],_,h1,h2=>⟨h1.1,h2⟩
 |_::v::a,b,h1,h2=>⟨h1.1,qJG (a:=v::a) h1.2 h2⟩
theorem qJy {pts:List qA}:∀{st:List qA},Left pts st->qHr pts st.reverse
 |[],_=>trivial
 |[_],_=>trivial
 |v::u::r,⟨h1,h2⟩=>by
  have ih:=qJy h2;rw[kK] at ih;rw[kK,kK,kI];exact qJG ih ⟨h1,trivial⟩
theorem qUh {pts:List qA}:∀{w:List qA},qHr pts w->∀x,x+1<w.length->∀p∈pts,0<=cross (w.getD x dd) (w.getD (x+1) dd) p
 |[],_,x,h=>by simp at h
 |[_],_,x,h=>by simp at h
 |u::v::r,hl,0,_=>hl.1
 |u::v::r,hl,x+1,h=>by
  have:=qUh hl.2 x (by simpa using h);simpa using this
end Saw
end Go.SL

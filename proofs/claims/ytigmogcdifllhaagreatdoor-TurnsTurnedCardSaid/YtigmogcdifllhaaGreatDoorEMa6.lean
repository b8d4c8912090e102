/- Poly's plain mathematics, part 5: the hull, as both compute it. -/
import Derived.Test.YtigmogcdifllhaaGreatDoorEMa5
import Derived.Test.YtigmogcdifllhaaGreatDoorEMa3
set_option linter.unusedVariables false
set_option linter.unusedSimpArgs false
namespace Go.SL
namespace Saw
theorem qYv (p q:qA):qE7 p q=some (decide (pLt p q)):=by
 unfold qE7 FX pLt;by_cases h1:p.X<q.X
 ·simp[h1]
 ·by_cases h2:p.X=q.X
  ·simp[h1,h2]
  ·have:(p.X==q.X)=false:=by simpa using h2
   simp[h1,h2,this]
theorem qR8 (a l:List qA) (x:Nat) (hl:l.length<=1000000) (hx:x<a.length):∀(n k:Nat),l.length<k+n->k<=l.length->(∀j,j<k->pLt (l.getD j dd) (a.getD x dd))->
  ∃k',TV a l (x:Int) n (k:Int)=some ((k':Nat):Int)/\k'<=l.length/\(∀j,j<k'->pLt (l.getD j dd) (a.getD x dd))/\(k'<l.length->¬pLt (l.getD k' dd) (a.getD x dd))
 |0,k,h1,h2,_=>by omega
 |n+1,k,h1,h2,h3=>by
  unfold TV;by_cases hk:k<l.length
  ·rw[lt_t (by omega),zS (by omega),zS (by omega)];simp only[kp,kg,qYv,kd,qAs,wF (show k<4611686018427387904 by omega)];by_cases hp:pLt (l.getD k dd) (a.getD x dd)
   ·rw[ki hp];exact qR8 a l x hl hx n (k+1) (by omega) (by omega) (λj hj=>by
     by_cases hjk:j=k
     ·subst hjk;exact hp
     ·exact h3 j (by omega))
   ·rw[kf hp];exact⟨k,rfl,h2,h3,λ_=>hp⟩
  ·rw[lt_f (by omega)];exact⟨k,rfl,h2,h3,λh=>absurd h hk⟩
theorem qIt {α:Type} [Inhabited α] {l:List α} {i:Nat} (h:i<l.length):l.getD i dd=l[i]:=by rw[ka,kq h];rfl
theorem qG9 (a:List qA) (hl:a.length<=1000000):∀(n x:Nat) (l:List qA),a.length<x+n->x<=a.length->l.length<=x->QA l->(∀p,p∈l↔p∈a.take x)->∃s,XJ a n l (x:Int)=some s/\QA s/\(∀p,p∈s↔p∈a)/\s.length<=a.length
 |0,x,l,h1,h2,_,_,_=>by omega
 |n+1,x,l,h1,h2,h3,h4,h5=>by
  unfold XJ;by_cases hx:x<a.length
  ·obtain⟨k,e1,e2,e3,e4⟩:=qR8 a l x (by omega) hx FUEL 0 (by rw[FUEL_eq];omega) (by omega) (λj hj=>by omega);have ht:a.take (x+1)=a.take x++[a.getD x dd]:=by rw[gI,kq hx,qIt hx];rfl
   rw[show((0:Nat):Int)=0 from rfl] at e1;rw[lt_t (by omega),e1];simp only[kp,kd,qAP,qAc,kg,wF (show x<4611686018427387904 by omega)];have s1:slOk 0 ((k:Nat):Int) l.length=true:=by unfold slOk;exact ki ⟨by omega,by omega,by omega⟩
   have s2:slOk ((k:Nat):Int) (l.length:Int) l.length=true:=by unfold slOk;exact ki ⟨by omega,by omega,by omega⟩
   rw[s1,s2,ZF (n:=0+k) (by omega),ZF (n:=0+k+1) (by omega),ZF (n:=0+k+1+(l.length-k)) (by omega),zS (i:=(x:Int)) (by omega)];simp only[kp,ur];have hins:¬(k<l.length/\peq (l.getD k dd) (a.getD x dd)=true)->∃s,XJ a n (l.take k++[a.getD x dd]++(l.drop k).take (l.length-k)) ((x+1:Nat):Int)=some s/\QA s/\(∀p,p∈s↔p∈a)/\s.length<=a.length:=by
    intro hne;have hdr:(l.drop k).take (l.length-k)=l.drop k:=uS (by simp);rw[hdr];have hall:∀p∈l.drop k,pLt (a.getD x dd) p:=by
     intro p hp;obtain⟨j,hj,rfl⟩:=uH.1 hp;rw[uf] at hj;rw[List.getElem_drop];have hk:k<l.length:=by omega
     have hc:pLt (a.getD x dd) (l.getD k dd):=by
      rcases pLt_tri (l.getD k dd) (a.getD x dd) with h|h|h
      ·exact absurd h (e4 hk)
      ·exact absurd ⟨hk,qLi.2 h⟩ hne
      ·exact h
     rw[qIt hk] at hc;by_cases hj0:j=0
     ·subst hj0;exact hc
     ·have h4':=gy.1 h4;exact qCU hc (h4' k (k+j) hk (by omega) (by omega))
    have htk:∀p∈l.take k,pLt p (a.getD x dd):=by
     intro p hp;obtain⟨j,hj,rfl⟩:=gU.1 hp;have:=e3 j (by omega)
     rwa [qIt (by omega)] at this
    refine qG9 a hl n (x+1) _ (by omega) (by omega) (by simp;omega) ?_ (λp=>?_)
    ·refine List.pairwise_append.2 ⟨List.pairwise_append.2 ⟨h4.take,List.pairwise_singleton _ _,λp hp q hq=>?_⟩,h4.drop,λp hp q hq=>?_⟩
     ·rw[uj] at hq;subst hq;exact htk p hp
     ·rcases ub.1 hp with hp|hp
      ·exact qCU (htk p hp) (hall q hq)
      ·rw[uj] at hp;subst hp;exact hall q hq
    ·rw[ht,ub,ub,ub,<-h5 p];have:p∈l↔p∈l.take k\/p∈l.drop k:=by rw[<-ub,List.take_append_drop]
     rw[this];constructor
     ·rintro((h|h)|h)
      ·exact .inl (.inl h)
      ·exact .inr h
      ·exact .inl (.inr h)
     ·rintro((h|h)|h)
      ·exact .inl (.inl h)
      ·exact .inr h
      ·exact .inl (.inr h)
   by_cases hk:k<l.length
   ·rw[lt_t (by omega),zS (by omega)];simp only[kp];cases hp:peq (l.getD k dd) (a.getD x dd) with
    |true=>
     have hp':=hp;unfold peq at hp';rw[hp'];simp only[kp];refine qG9 a hl n (x+1) l (by omega) (by omega) (by omega) h4 (λp=>?_);rw[ht,ub,<-h5 p,uj];refine⟨.inl,λh=>h.elim id λe=>?_⟩;rw[e,<-qLi.1 hp];exact wG hk
    |false=>
     have hp':=hp;unfold peq at hp';rw[hp'];simp only[ku];exact hins (λh=>by rw[hp] at h;cases h.2)
   ·rw[lt_f (by omega)];simp only[ku];exact hins (λh=>hk h.1)
  ·rw[lt_f (by omega)];rw[uS (by omega)] at h5;exact⟨l,rfl,h4,h5,by omega⟩
def srt (a:List qA):List qA:=ddT (WR pLe a) (WR pLe a).length
theorem qYK (x y z:qA) (h1:pLe x y=true) (h2:pLe y z=true):pLe x z=true:=by
 rw[pLe_iff] at*;rcases h1 with h1|rfl
 ·rcases h2 with h2|rfl
  ·exact .inl (qCU h1 h2)
  ·exact .inl h1
 ·exact h2
theorem qYT (x y:qA):pLe x y=true\/pLe y x=true:=by
 rw[pLe_iff,pLe_iff];rcases pLt_tri x y with h|h|h
 ·exact .inl (.inl h)
 ·exact .inl (.inr h)
 ·exact .inr (.inl h)
theorem qAl (a:List qA):QA (srt a):=qI3 _ (qAH qYK qYT a) _ (ke _)
theorem qEw (a:List qA) (p:qA):p∈srt a↔p∈a:=by
 unfold srt;rw[qRr _ _ (ke _),List.take_length];exact(TT pLe a).mem_iff
theorem qLl (a:List qA):(srt a).length<=a.length:=by
 have:=qQ7 (WR pLe a) (WR pLe a).length;have h2:=(TT pLe a).length_eq;unfold srt;omega
theorem qVl (a:List qA) (hl:a.length<=1000000):qFh a=some (srt a):=by
 unfold qFh;obtain⟨s,e1,e2,e3,_⟩:=qG9 a hl FUEL 0 [] (by rw[FUEL_eq];omega) (by omega) (by simp) List.Pairwise.nil (λp=>by simp);rw[show((0:Nat):Int)=0 from rfl] at e1;rw[e1,kd]
 congr 1
 exact qJv e2 (qAl a) (λp=>by rw[e3,qEw])
def turnP (q:Nat) (p:qA):qA:=match q with
 |0=>p
 |1=>⟨-p.Y,p.X⟩
 |2=>⟨-p.X,-p.Y⟩
 |_=>⟨p.Y,-p.X⟩
def canT (p:qA):Bool:=!(p.X== -9223372036854775808)&&!(p.Y== -9223372036854775808)
def turns (a:List qA) (q:Nat):List qA:=bif a.all canT then a.map (turnP q) else[]
def popR :List qA->qA->List qA
 |t::s::r,c=>if cross s t c<=0 then popR (s::r) c else t::s::r
 |l,_=>l
theorem qMN (c:qA):∀st,(popR st c).length<=st.length
 |[]=>ke _
 |[_]=>ke _
 |t::s::r=>by
  unfold popR;split
  ·have:=qMN c (s::r);simp at this⊢;omega
  ·exact ke _
theorem qMM (c:qA):∀st p,p∈popR st c->p∈st
 |[],_,h=>h
 |[_],_,h=>h
 |t::s::r,p,h=>by
  unfold popR at h;split at h
  ·exact kF _ (qMM c (s::r) p h)
  ·exact h
def jX (st:List qA) (c:qA):List qA:=c::popR st c
def chainR (a:List qA):List qA:=a.foldl jX []
theorem two_top (t s:qA) (r:List qA):((t::s::r).reverse).getD r.length dd=s/\((t::s::r).reverse).getD (r.length+1) dd=t/\((t::s::r).reverse).take (r.length+1)=(s::r).reverse:=by
 simp only[kM,kH,uF,ur];refine⟨?_,?_,?_⟩
 ·rw[ka,kA (by simp)];simp
 ·rw[ka,kA (by simp)];simp
 ·rw[List.take_append,uS (by simp)];simp
theorem qUV (a:List qA) (x:Nat) (hx:x<a.length) (hc:rng (a.getD x dd)):∀(n:Nat) (st:List qA),st.length<n->st.length<=1000000->(∀p∈st,rng p)->
  KJ a (x:Int) n st.reverse=some (popR st (a.getD x dd)).reverse/\GW a (x:Int) n st.reverse=some (popR st (a.getD x dd)).reverse
 |0,st,h,_,_=>by omega
 |n+1,[],_,_,_=>⟨rfl,rfl⟩
 |n+1,[t],_,_,_=>⟨rfl,rfl⟩
 |n+1,t::s::r,h,hl,hr=>by
  have hs:rng s:=hr s (by simp);have ht:rng t:=hr t (by simp);obtain⟨g1,g2,g3⟩:=two_top t s r;have hlen:((t::s::r).reverse).length=r.length+2:=by simp
  simp only[uG] at h hl;have e1:w64 (((r.length+2:Nat):Int)-2)=(r.length:Int):=by rw[w64_o (by omega)];omega
  have e2:w64 (((r.length+2:Nat):Int)-1)=((r.length+1:Nat):Int):=by rw[w64_o (by omega)];omega
  have hsl:slOk 0 ((r.length+1:Nat):Int) (r.length+2)=true:=by unfold slOk;exact ki ⟨by omega,by omega,by omega⟩
  obtain⟨ih1,ih2⟩:=qUV a x hx hc n (s::r) (by simp;omega) (by simp;omega) (λp hp=>hr p (kF _ hp));unfold KJ GW IS qBy popR;rw[hlen,e1,e2,ki (show((r.length+2:Nat):Int)≥2 by omega),ki (show((r.length+2:Nat):Int)>1 by omega),zS (i:=(r.length:Int)) (by omega),zS (i:=((r.length+1:Nat):Int)) (by omega),zS (i:=(x:Int)) (by omega),hsl];simp only[kp,kg,g1,g2,g3,(qUl hs ht hc).1,(qUl hs ht hc).2,kd,ih1,ih2];by_cases hcr:cross s t (a.getD x dd)<=0
  ·rw[ki hcr,if_pos hcr];exact⟨rfl,rfl⟩
  ·rw[kf hcr,if_neg hcr];exact⟨rfl,rfl⟩
theorem qUa (a:List qA) (hr:∀p∈a,rng p) (hl:a.length<=1000000):∀(n x:Nat) (st:List qA),a.length<x+n->x<=a.length->st.length<=x->(∀p∈st,rng p)->
  NH a n st.reverse (x:Int)=some ((a.drop x).foldl jX st).reverse/\HP a n st.reverse (x:Int)=some ((a.drop x).foldl jX st).reverse
 |0,x,st,h1,h2,_,_=>by omega
 |n+1,x,st,h1,h2,h3,h4=>by
  unfold NH HP;by_cases hx:x<a.length
  ·have hc:rng (a.getD x dd):=hr _ (wG hx);obtain⟨p1,p2⟩:=qUV a x hx hc FUEL st (by rw[FUEL_eq];omega) (by omega) h4;have hp:=qMN (a.getD x dd) st;obtain⟨ih1,ih2⟩:=qUa a hr hl n (x+1) (jX st (a.getD x dd)) (by omega) (by omega) (by unfold jX;rw[uG];omega) (λp hp'=>by
    unfold jX at hp';rcases kW.1 hp' with rfl|hp'
    ·exact hc
    ·exact h4 p (qMM _ _ _ hp'))
   rw[lt_t (by omega),zS (by omega),p1,p2,LZ a x hx];simp only[kp,kd,un,ZF (n:=(popR st (a.getD x dd)).length+1) (b:=16) (by omega),kg,wF (show x<4611686018427387904 by omega),uE];unfold jX at ih1 ih2⊢;rw[kM] at ih1 ih2;exact⟨ih1,ih2⟩
  ·rw[lt_f (by omega),uz (by omega)];exact⟨rfl,rfl⟩
theorem qIa :∀(a st:List qA),(a.foldl jX st).length<=a.length+st.length
 |[],st=>by simp
 |c::a,st=>by
  have h1:=qIa a (jX st c);have h2:=qMN c st;unfold jX at h1;simp only[uE,uG] at h1⊢;unfold jX;omega
theorem WT (a:List qA):(chainR a).length<=a.length:=by have:=qIa a [];simpa[chainR] using this
theorem qJd :∀(a st:List qA),st≠[]\/a≠[]->a.foldl jX st≠[]
 |[],st,h=>by simpa using h
 |c::a,st,_=>qJd a (jX st c) (.inl (by unfold jX;simp))
theorem BD {a:List qA} (h:a≠[]):0<(chainR a).length:=um.2 (qJd a [] (.inr h))
theorem qIZ (a:List qA) (hr:∀p∈a,rng p) (hl:a.length<=1000000):(a≠[]->SE a=some (chainR a).tail.reverse)/\qCx a=some (chainR a).reverse:=by
 obtain⟨h1,h2⟩:=qUa a hr hl FUEL 0 [] (by rw[FUEL_eq];omega) (by omega) (by simp) (λp hp=>by cases hp);rw[show((0:Nat):Int)=0 from rfl,uK,List.reverse_nil] at h1 h2;unfold SE qCx;rw[h1,h2];refine⟨λhne=>?_,rfl⟩;have hp:=BD hne;have hle:=WT a;change 0<(a.foldl jX []).length at hp;change (a.foldl jX []).length<=a.length at hle;have e2:w64 ((((a.foldl jX []).reverse.length:Nat):Int)-1)=(((a.foldl jX []).length-1:Nat):Int):=by rw[un,w64_o (by omega)];omega
 have hsl:slOk 0 (((a.foldl jX []).length-1:Nat):Int) (a.foldl jX []).reverse.length=true:=by unfold slOk;rw[un];exact ki ⟨by omega,by omega,by omega⟩
 simp only[kd,e2,hsl,kp,kg];unfold chainR;generalize a.foldl jX []=st at hp;cases st with
 |nil=>simp at hp
 |cons t r=>simp
theorem qUc (l:List qA) (hl:l.length<=1000000):∀(n i j:Nat) (t:List qA),l.length<2*i+2*n->i<=j+1->i+j+1=l.length->t.length=l.length->(∀k,k<l.length->(k<i\/j<k)->t.getD k dd=l.getD (l.length-1-k) dd)->(∀k,i<=k->k<=j->t.getD k dd=l.getD k dd)->
  QL n t (i:Int) (j:Int)=some l.reverse
 |0,i,j,t,h1,h2,h3,_,_,_=>by omega
 |n+1,i,j,t,h1,h2,h3,h4,h5,h6=>by
  unfold QL;by_cases hij:i<j
  ·have e1:w64 ((j:Int)-1)=((j-1:Nat):Int):=by rw[w64_o (by omega)];omega
   rw[lt_t (by omega),zS (i:=(j:Int)) (by omega),zS (i:=(i:Int)) (by omega),e1];simp only[kp,kg,wF (show i<4611686018427387904 by omega)];refine qUc l hl n (i+1) (j-1) _ (by omega) (by omega) (by omega) (by simp[h4]) (λk hk hkk=>?_) (λk hk1 hk2=>?_)
   ·by_cases hkj:k=j
    ·subst hkj;rw[qMv _ (by simp;omega),h6 i (by omega) (by omega)]
     congr 1;omega
    ·rw[AG _ (λe=>hkj e.symm)];by_cases hki:k=i
     ·subst hki;rw[qMv _ (by omega),h6 j (by omega) (by omega)]
      congr 1;omega
     ·rw[AG _ (λe=>hki e.symm)];exact h5 k hk (by omega)
   ·rw[AG _ (by omega),AG _ (by omega)];exact h6 k (by omega) (by omega)
  ·rw[lt_f (by omega)];have:t=l.reverse:=by
    refine qU6 (by simp[h4]) (λk hk=>?_);rw[ka (l:=l.reverse),List.getElem?_reverse (by omega),<-ka];by_cases hkk:k<i\/j<k
    ·exact h5 k (by omega) hkk
    ·rw[h6 k (by omega) (by omega)];congr 1;omega
   rw[this];rfl
theorem rev_eq (l:List qA) (hne:l≠[]) (hl:l.length<=1000000):WG l=some l.reverse:=by
 have hp:0<l.length:=um.2 hne;unfold WG;have h:=qUc l hl FUEL 0 (l.length-1) l (by rw[FUEL_eq];omega) (by omega) (by omega) rfl (λk hk h=>by omega) (λ_ _ _=>rfl);rw[show((0:Nat):Int)=0 from rfl] at h;rw[show w64 ((l.length:Int)-1)=((l.length-1:Nat):Int) by rw[w64_o (by omega)];omega,h];rfl
theorem qME (l:List qA) (h:l.length<=1000000):∀(n x:Nat) (t:List qA),x<n->x<=l.length->t=(l.drop x).reverse->TQ l n t ((x:Int)-1)=some l.reverse
 |0,x,t,h1,h2,_=>by omega
 |n+1,0,t,h1,h2,h3=>by
  unfold TQ;rw[kf (by omega),h3];rfl
 |n+1,x+1,t,h1,h2,h3=>by
  unfold TQ;have hx:x<l.length:=by omega
  have ht:t.length<=1000000:=by rw[h3];simp;omega
  have e0:(((x+1:Nat):Int)-1)=(x:Int):=by omega
  have e4:w64 ((x:Int)-1)=(x:Int)-1:=w64_o (by omega);rw[e0,ki (by omega),zS (by omega),ZF (by omega)];simp only[kp,kg,e4];refine qME l h n x _ (by omega) (by omega) ?_;rw[LZ l x hx,kM,h3]
def hullOf (s:List qA):List qA:=if(chainR s).length+(chainR s.reverse).length<5 then[] else(chainR s).tail.reverse++(chainR s.reverse).tail.reverse
def hull (a:List qA):List qA:=bif decide ((a.length:Int)>32) then[] else bif a.all inRange then hullOf (srt a) else[]
theorem qVC {s:List qA} (h:s.length<3):hullOf s=[]:=by
 have h1:=WT s;have h2:=WT s.reverse;rw[un] at h2;unfold hullOf;rw[if_pos (by omega)]
theorem qXU (a:List qA):qIz a=some (hull a):=by
 unfold qIz hull qDv;by_cases h:(a.length:Int)>32
 ·simp[h]
 rw[kf h,qJW a (by omega)];simp only[ku,kd];cases hr:a.all inRange with
 |false=>rfl
 |true=>
  have hrng:∀p∈srt a,rng p:=λp hp=>qCp.1 (kw.1 hr p ((qEw a p).1 hp));have hsl:=qLl a;have c1:=(qIZ (srt a) hrng (by omega)).2;have c2:=(qIZ (srt a).reverse (λp hp=>hrng p (by simpa using hp)) (by simp;omega)).2;have hrv:TQ (srt a) FUEL [] (w64 (((srt a).length:Int)-1))=some (srt a).reverse:=by
   rw[w64_o (by omega)];exact qME (srt a) (by omega) FUEL (srt a).length [] (by rw[FUEL_eq];omega) (ke _) (by simp)
  rw[qVl a (by omega)];simp only[uc,ku,kp,kd,hrv,c1,c2];have l1:=WT (srt a);have l2:=WT (srt a).reverse;rw[un] at l2;simp only[un];rw[w64_o (n:=((chainR (srt a)).length:Int)+((chainR (srt a).reverse).length:Int)) (by omega)];unfold hullOf;by_cases h5:(chainR (srt a)).length+(chainR (srt a).reverse).length<5
  ·rw[if_pos h5,lt_t (by omega)];rfl
  ·rw[if_neg h5,lt_f (by omega)];have hne:srt a≠[]:=λe=>by rw[e] at h5;simp[chainR] at h5
   have p1:=BD hne;have p2:=BD (a:=(srt a).reverse) (by simpa using hne);have e1:w64 (((chainR (srt a)).length:Int)-1)=(((chainR (srt a)).length-1:Nat):Int):=by rw[w64_o (by omega)];omega
   have e2:w64 (((chainR (srt a).reverse).length:Int)-1)=(((chainR (srt a).reverse).length-1:Nat):Int):=by rw[w64_o (by omega)];omega
   have s1:slOk 0 (((chainR (srt a)).length-1:Nat):Int) (chainR (srt a)).length=true:=by unfold slOk;exact ki ⟨by omega,by omega,by omega⟩
   have s2:slOk 0 (((chainR (srt a).reverse).length-1:Nat):Int) (chainR (srt a).reverse).length=true:=by unfold slOk;exact ki ⟨by omega,by omega,by omega⟩
   rw[e1,e2,s1,s2,ZF (by simp;omega),ZF (by simp;omega)];simp only[ku,kp,kg,ur]
   congr 1
   have tk:∀st:List qA,0<st.length->st.reverse.take (st.length-1)=st.tail.reverse:=λst hst=>by
    cases st with
    |nil=>simp at hst
    |cons t r=>simp
   rw[tk _ p1,tk _ p2]
theorem qWu (a:List qA):qC8 a=some (hull a):=by
 unfold qC8 hull HJ;by_cases h3:(a.length:Int)<3
 ·have hs:hullOf (srt a)=[]:=qVC (by have:=qLl a;omega);rw[ki h3,kf (show¬(a.length:Int)>32 by omega),hs];cases a.all inRange<;>rfl
 by_cases h:(a.length:Int)>32
 ·simp[h,h3]
 rw[kf h,kf h3,qIl a (by omega)];simp only[ku,kd];cases hr:a.all inRange with
 |false=>rfl
 |true=>
  have hrng:∀p∈srt a,rng p:=λp hp=>qCp.1 (kw.1 hr p ((qEw a p).1 hp));have hsl:=qLl a;have hpl:=(TT pLe a).length_eq;have hane:a≠[]:=λe=>by rw[e] at h3;simp at h3
  have hne:srt a≠[]:=λe=>by
   obtain⟨p,hp⟩:=List.exists_mem_of_ne_nil a hane;have:=(qEw a p).2 hp;rw[e] at this;cases this
  have c1:=(qIZ (srt a) hrng (by omega)).1 hne;have c2:=(qIZ (srt a).reverse (λp hp=>hrng p (by simpa using hp)) (by simp;omega)).1 (by simpa using hne);have hso:qJR a.length=true:=by unfold qJR;rw[kr,kT,kT];omega
  have hcl:JV a=some a:=by unfold JV;rw[ZF (by omega)];rfl
  have hst:ZS a=some (WR pLe a):=by unfold ZS;rw[hso,sort_eq];rfl
  have hco:QD (WR pLe a)=some (srt a,srt a):=qXF (WR pLe a) (by omega);have l1:=WT (srt a);have l2:=WT (srt a).reverse;rw[un] at l2;have p1:=BD hne;have p2:=BD (a:=(srt a).reverse) (by simpa using hne);simp only[uc,ku,kp,hcl,hst,hco,kd,hpl,gh,c1,rev_eq _ hne (show(srt a).length<=1000000 by omega),c2,un,List.length_tail];rw[ZF (by omega)];unfold hullOf;by_cases h5:(chainR (srt a)).length+(chainR (srt a).reverse).length<5
  ·rw[if_pos h5,lt_t (by omega)];rfl
  ·rw[if_neg h5,lt_f (by omega)];rfl
theorem qXH (s:List qA):(hullOf s).length<=s.length+s.length:=by
 have h1:=WT s;have h2:=WT s.reverse;rw[un] at h2;unfold hullOf;split
 ·simp
 ·simp;omega
theorem qZT (a:List qA):(hull a).length<=a.length+a.length:=by
 have h1:=qXH (srt a);have h2:=qLl a;unfold hull;cases decide ((a.length:Int)>32) with
 |true=>simp
 |false=>cases a.all inRange with
  |true=>simp only[ku,kp];omega
  |false=>simp
def pos (x y:Int):Prop:=0<x\/(x=0/\0<y)
theorem CP {ux uy vx vy wx wy:Int} (hu:pos ux uy) (hv:pos vx vy) (hw:pos wx wy) (h1:0<=ux*vy-vx*uy) (h2:0<=vx*wy-wx*vy):0<=ux*wy-wx*uy:=by
 unfold pos at*;have hux:0<=ux:=by omega
 have hwx:0<=wx:=by omega
 rcases hv with hv|⟨hv,hvy⟩
 ·have e:(ux*wy-wx*uy)*vx=(ux*vy-vx*uy)*wx+(vx*wy-wx*vy)*ux:=by grind
  have h3:0<=(ux*wy-wx*uy)*vx:=by rw[e];exact Int.add_nonneg (kB h1 hwx) (kB h2 hux)
  exact Int.nonneg_of_mul_nonneg_left h3 hv
 ·subst hv;have h4:0<=-(wx*vy):=by simpa using h2
  have hw0:wx=0:=by
   rcases da hwx with h|h
   ·have:=uX h hvy;omega
   ·exact h.symm
  subst hw0;have hwy:0<wy:=by omega
  have:=kB hux (db hwy);simpa using this
theorem JT {p q:qA} (h:pLt p q):pos (q.X-p.X) (q.Y-p.Y):=by unfold pLt at h;unfold pos;omega
theorem qKC (p q:qA):cross p q p=0:=by unfold cross;grind
theorem qUx (p q:qA):cross p q q=0:=by unfold cross;grind
theorem turn_b {s t c p:qA} (hst:pLt s t) (hsc:pLt s c) (hsp:pLt s p) (h1:cross s t c<=0) (h2:0<=cross s t p):0<=cross s c p:=by
 unfold cross at*;exact CP (JT hsc) (JT hst) (JT hsp) (by omega) h2
theorem turn_c {s t c p:qA} (hst:pLt s t) (htc:pLt t c) (hpt:pLt p t) (h1:0<cross s t c) (h2:0<=cross s t p):0<=cross t c p:=by
 have h3:=CP (ux:=t.X-p.X) (uy:=t.Y-p.Y) (vx:=t.X-s.X) (vy:=t.Y-s.Y) (wx:=c.X-t.X) (wy:=c.Y-t.Y) (JT hpt) (JT hst) (JT htc)
  (by unfold cross at h2;grind) (by unfold cross at h1;grind)
 unfold cross
 grind
def Left (pts:List qA):List qA->Prop
 |v::u::r=>(∀p∈pts,0<=cross u v p)/\Left pts (u::r)
 |_=>True
def qCd :List qA->Prop
 |c::t::s::r=>0<cross s t c/\qCd (t::s::r)
 |_=>True
theorem qVw (pts:List qA) (c:qA) (hc:∀p∈pts,pLt p c):∀(st:List qA),st.Pairwise (λa b=>pLt b a)->(∀p∈st,p∈pts)->Left pts st->qCd st->(∀t r,st=t::r->∀p∈pts,pLt t p->0<=cross t c p)->(∀t,st.getLast? =some t->∀p∈pts,p=t\/pLt t p)->
  Left pts (c::popR st c)/\qCd (c::popR st c)
 |[],_,_,_,_,_,_=>⟨trivial,trivial⟩
 |[t],_,hm,_,_,hq,hb=>by
  refine⟨⟨λp hp=>?_,trivial⟩,trivial⟩;rcases hb t rfl p hp with rfl|h
  ·rw[qKC];exact kV _
  ·exact hq t [] rfl p hp h
 |t::s::r,hs,hm,hl,ht,hq,hb=>by
  obtain⟨s1,s2⟩:=kP.1 hs;have hst:pLt s t:=s1 s kO;obtain⟨l1,l2⟩:=hl;have htc:=hc t (hm t kO);unfold popR;by_cases hcr:cross s t c<=0
  ·rw[if_pos hcr];refine qVw pts c hc (s::r) s2 (λp hp=>hm p (kF _ hp)) l2 (by cases r with|nil=>trivial|cons u r=>exact ht.2) (λt' r' he p hp hsp=>?_) (λt' he p hp=>hb t' (by rw[gf];exact he) p hp);cases he;exact turn_b hst (hc s (hm s (by simp))) hsp hcr (l1 p hp)
  ·rw[if_neg hcr];refine⟨⟨λp hp=>?_,l1,l2⟩,by omega,ht⟩;rcases pLt_tri p t with h|h|h
   ·exact turn_c hst htc h (by omega) (l1 p hp)
   ·rw[h,qKC];exact kV _
   ·exact hq t _ rfl p hp h
abbrev Desc (st:List qA):Prop:=st.Pairwise (λa b=>pLt b a)
structure Inv (pts st:List qA):Prop where
 desc:Desc st
 sub:∀p∈st,p∈pts
 left:Left pts st
 turns:qCd st
 top:∀t r,st=t::r->∀p∈pts,p=t\/pLt p t
 bot:∀t,st.getLast? =some t->∀p∈pts,p=t\/pLt t p
theorem qKG (c:qA):∀st,Desc st->Desc (popR st c)
 |[],h=>h
 |[_],h=>h
 |t::s::r,h=>by
  unfold popR;split
  ·exact qKG c (s::r) (kP.1 h).2
  ·exact h
theorem qJT (c:qA):∀st,(popR st c).getLast? =st.getLast?
 |[]=>rfl
 |[_]=>rfl
 |t::s::r=>by
  unfold popR;split
  ·rw[qJT c (s::r),gf]
  ·rfl
theorem qUZ {a b:List qA}:∀{st:List qA},Left a st->Left b st->Left (a++b) st
 |[],_,_=>trivial
 |[_],_,_=>trivial
 |v::u::r,⟨h1,h2⟩,⟨h3,h4⟩=>⟨λp hp=>(ub.1 hp).elim (h1 p) (h3 p),qUZ h2 h4⟩
theorem qTD (c:qA):∀st,Desc st->(∀p∈st,pLt p c)->qCd st->(∀v u r,st=v::u::r->0<=cross u v c)->Left [c] st
 |[],_,_,_,_=>trivial
 |[_],_,_,_,_=>trivial
 |v::u::r,hd,hc,ht,h0=>by
  have h1:=h0 v u r rfl;obtain⟨d1,d2⟩:=kP.1 hd;refine⟨λp hp=>by rw[uj.1 hp];exact h1,qTD c (u::r) d2 (λp hp=>hc p (kF _ hp)) (by cases r with|nil=>trivial|cons x r=>exact ht.2) (λv' u' r' he=>?_)⟩;cases he;obtain⟨t1,_⟩:=ht;have huv:pLt u v:=d1 u kO;have hxu:pLt u' u:=(kP.1 d2).1 u' kO;have huc:pLt u c:=hc u (by simp);have:=CP (JT hxu) (JT huv) (JT huc) (by unfold cross at t1;grind) (by unfold cross at h1;grind);unfold cross
  grind
theorem Inv.push {pts st:List qA} (h:Inv pts st) {c:qA} (hc:∀p∈pts,pLt p c) (hne:pts≠[]->st≠[]):Inv (pts++[c]) (jX st c):=by
 have hp:=qVw pts c hc st h.desc h.sub h.left h.turns (λt r he p hp htp=>by
  rcases h.top t r he p hp with rfl|h1
  ·exact absurd htp (pLt_irrefl _)
  ·exact absurd htp (pLt_asymm h1)) h.bot
 have hsub:∀p∈popR st c,p∈pts:=λp hp=>h.sub p (qMM c st p hp);have hlt:∀p∈popR st c,pLt p c:=λp hp=>hc p (hsub p hp);have hdesc:Desc (jX st c):=kP.2 ⟨hlt,qKG c st h.desc⟩;refine⟨hdesc,λp hp'=>?_,qUZ hp.1 ?_,hp.2,λt r he p hp'=>?_,λt he p hp'=>?_⟩
 ·rcases kW.1 hp' with rfl|hp'
  ·simp
  ·exact List.mem_append_left _ (hsub p hp')
 ·have hl:Left [c] (popR st c):=by
   refine qTD c _ (qKG c st h.desc) hlt ?_ (λv u r he=>?_)
   ·have:=hp.2;generalize popR st c=q at this
    match q,this with
    |[],_=>trivial
    |[_],_=>trivial
    |[_,_],_=>trivial
    |_::_::_::_,this=>exact this.2
   ·have:=hp.2;rw[he] at this;exact db this.1
  unfold jX;generalize popR st c=q at hl
  match q,hl with
  |[],_=>trivial
  |t::r,hl=>exact⟨λp hp=>by rw[uj.1 hp,qUx];exact kV _,hl⟩
 ·cases he;rcases ub.1 hp' with h1|h1
  ·exact .inr (hc p h1)
  ·exact .inl (uj.1 h1)
 ·unfold jX at he;by_cases hst:st=[]
  ·subst hst;have hpts:pts=[]:=Classical.byContradiction λhh=>hne hh rfl;subst hpts;simp[popR] at he;subst he;exact .inl (by simpa using hp')
  ·have hpe:popR st c≠[]:=λe=>by
    have:=qJT c st;rw[e] at this;exact hst (List.getLast?_eq_none_iff.1 this.symm)
   have he':st.getLast? =some t:=by
    obtain⟨x,q,hq⟩:=uU hpe;rw[<-qJT c st,hq];rw[hq,gf] at he;exact he
   rcases ub.1 hp' with h1|h1
   ·exact h.bot t he' p h1
   ·rw[uj.1 h1];exact .inr (hc t (h.sub t (List.mem_of_getLast? he')))
theorem qVQ :∀(rest pts st:List qA),Inv pts st->(pts≠[]->st≠[])->(∀p∈pts,∀q∈rest,pLt p q)->QA rest->Inv (pts++rest) (rest.foldl jX st)
 |[],pts,st,h,_,_,_=>by simpa using h
 |c::rest,pts,st,h,hne,hlt,hs=>by
  obtain⟨s1,s2⟩:=kP.1 hs;have:=qVQ rest (pts++[c]) (jX st c) (h.push (λp hp=>hlt p hp c kO) hne) (λ_=>by unfold jX;simp) (λp hp q hq=>by
   rcases ub.1 hp with h1|h1
   ·exact hlt p h1 q (kF _ hq)
   ·rw[uj.1 h1];exact s1 q hq) s2
  rw[kH] at this;exact this
theorem qCJ {s:List qA} (hs:QA s):Inv s (chainR s):=by
 have:=qVQ s [] [] ⟨List.Pairwise.nil,λp hp=>(by cases hp),trivial,trivial,λt r he=>(by cases he),λt he=>(by cases he)⟩ (λh=>absurd rfl h) (λp hp=>by cases hp) hs;simpa[chainR] using this
def ng (p:qA):qA:=⟨-p.X,-p.Y⟩
theorem ng_ng (p:qA):ng (ng p)=p:=by unfold ng;simp
theorem qIQ (p q r:qA):cross (ng p) (ng q) (ng r)=cross p q r:=by unfold cross ng;grind
theorem qKf {p q:qA}:pLt (ng p) (ng q)↔pLt q p:=by unfold pLt ng;simp only;omega
theorem qWU (c:qA):∀st,popR (st.map ng) (ng c)=(popR st c).map ng
 |[]=>rfl
 |[_]=>rfl
 |t::s::r=>by
  have ih:=qWU c (s::r);simp only[uI] at ih⊢;rw[popR,popR,qIQ];split
  ·exact ih
  ·simp
theorem qWM :∀(l st:List qA),(l.map ng).foldl jX (st.map ng)=(l.foldl jX st).map ng
 |[],st=>rfl
 |c::l,st=>by
  have:=qWM l (jX st c);simp only[uI,uE];rw[<-this];unfold jX;rw[qWU,uI]
theorem qGd (l:List qA):chainR (l.map ng)=(chainR l).map ng:=qWM l []
theorem qW2 {pts:List qA}:∀{st:List qA},Left (pts.map ng) (st.map ng)->Left pts st
 |[],_=>trivial
 |[_],_=>trivial
 |v::u::r,⟨h1,h2⟩=>⟨λp hp=>by have:=h1 (ng p) (List.mem_map_of_mem hp);rwa [qIQ] at this,qW2 h2⟩
theorem qUB :∀{st:List qA},qCd (st.map ng)->qCd st
 |[],_=>trivial
 |[_],_=>trivial
 |[_,_],_=>trivial
 |c::t::s::r,⟨h1,h2⟩=>⟨by rwa [qIQ] at h1,qUB h2⟩
theorem qTM {a b:List qA} (h:∀p,p∈b->p∈a):∀{st:List qA},Left a st->Left b st
 |[],_=>trivial
 |[_],_=>trivial
 |_::_::_,⟨h1,h2⟩=>⟨λp hp=>h1 p (h p hp),qTM h h2⟩
structure Up (pts st:List qA):Prop where
 asc:QA st
 sub:∀p∈st,p∈pts
 left:Left pts st
 turns:qCd st
 top:∀t r,st=t::r->∀p∈pts,p=t\/pLt t p
 bot:∀t,st.getLast? =some t->∀p∈pts,p=t\/pLt p t
theorem qPk {s:List qA} (hs:QA s):Up s (chainR s.reverse):=by
 have hs':QA (s.reverse.map ng):=by
  refine List.pairwise_map.2 (gN.2 ?_);exact hs.imp (λh=>qKf.2 h)
 have hi:=qCJ hs';have he:chainR (s.reverse.map ng)=(chainR s.reverse).map ng:=qGd _;rw[he] at hi;have hmem:∀p,p∈s->ng p∈s.reverse.map ng:=λp hp=>List.mem_map_of_mem (by simpa using hp);have inj:∀p q,ng p=ng q->p=q:=λp q h=>by rw[<-ng_ng p,h,ng_ng]
 refine⟨?_,λp hp=>?_,qW2 (qTM (λp hp=>?_) hi.left),qUB hi.turns,λt r ht p hp=>?_,λt ht p hp=>?_⟩
 ·have:=hi.desc;rw[Desc,List.pairwise_map] at this;exact this.imp (λh=>qKf.1 h)
 ·have:=hi.sub (ng p) (List.mem_map_of_mem hp);obtain⟨q,hq,e⟩:=uQ.1 this;rw[<-inj _ _ e];simpa using hq
 ·obtain⟨q,hq,e⟩:=uQ.1 hp;rw[<-e];exact hmem q hq
 ·rcases hi.top (ng t) (r.map ng) (by rw[ht];rfl) (ng p) (hmem p hp) with h|h
  ·exact .inl (inj _ _ h)
  ·exact .inr (qKf.1 h)
 ·rcases hi.bot (ng t) (by rw[List.getLast?_map,ht];rfl) (ng p) (hmem p hp) with h|h
  ·exact .inl (inj _ _ h)
  ·exact .inr (qKf.1 h)
def qFO (pts:List qA):List qA->Prop
 |u::v::r=>(∀p∈pts,0<=cross u v p)/\qFO pts (v::r)
 |_=>True
theorem qIn {pts:List qA} {x:qA}:∀{a b:List qA},qFO pts (a++[x])->qFO pts (x::b)->qFO pts (a++x::b)
 |[],_,_,h=>h
 |[_],_,h1,h2=>⟨h1.1,h2⟩
 |_::v::a,b,h1,h2=>⟨h1.1,qIn (a:=v::a) h1.2 h2⟩
theorem qIT {pts:List qA}:∀{st:List qA},Left pts st->qFO pts st.reverse
 |[],_=>trivial
 |[_],_=>trivial
 |v::u::r,⟨h1,h2⟩=>by
  have ih:=qIT h2;rw[kM] at ih;rw[kM,kM,kH];exact qIn ih ⟨h1,trivial⟩
theorem qR4 {pts:List qA}:∀{w:List qA},qFO pts w->∀x,x+1<w.length->∀p∈pts,0<=cross (w.getD x dd) (w.getD (x+1) dd) p
 |[],_,x,h=>by simp at h
 |[_],_,x,h=>by simp at h
 |u::v::r,hl,0,_=>hl.1
 |u::v::r,hl,x+1,h=>by
  have:=qR4 hl.2 x (by simpa using h);simpa using this
end Saw
end Go.SL

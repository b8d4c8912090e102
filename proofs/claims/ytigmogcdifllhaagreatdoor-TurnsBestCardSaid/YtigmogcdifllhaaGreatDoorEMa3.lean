import Derived.Test.YtigmogcdifllhaaGreatDoorEMa2
import Derived.Test.YtigmogcdifllhaaGreatDoorEMa1
set_option linter.unusedVariables false
set_option linter.unusedSimpArgs false
namespace Go.SL
namespace Saw
theorem qYH (p q:qA):qFH p q=some (decide (pLt p q)):=by
 unfold qFH LR pLt;by_cases h1:p.X<q.X
 ·simp[h1]
 ·by_cases h2:p.X=q.X
  ·simp[h1,h2]
  ·have:(p.X==q.X)=false:=by simpa using h2
   simp[h1,h2,this]
theorem qSi (a l:List qA) (x:Nat) (hl:l.length<=1000000) (hx:x<a.length):∀(n k:Nat),l.length<k+n->k<=l.length->(∀j,j<k->pLt (l.getD j du) (a.getD x du))->
  ∃k',VB a l (x:Int) n (k:Int)=some ((k':Nat):Int)/\k'<=l.length/\(∀j,j<k'->pLt (l.getD j du) (a.getD x du))/\(k'<l.length->¬pLt (l.getD k' du) (a.getD x du))
 |0,k,h1,h2,_=>by omega
 |n+1,k,h1,h2,h3=>by
  unfold VB;by_cases hk:k<l.length
  ·rw[lt_t (by omega),zR (by omega),zR (by omega)];simp only[kp,kg,qYH,kd,qAg,wH (show k<4611686018427387904 by omega)];by_cases hp:pLt (l.getD k du) (a.getD x du)
   ·rw[ki hp];exact qSi a l x hl hx n (k+1) (by omega) (by omega) (λj hj=>by
     by_cases hjk:j=k
     ·subst hjk;exact hp
     ·exact h3 j (by omega))
   ·rw[kf hp];exact⟨k,rfl,h2,h3,λ_=>hp⟩
  ·rw[lt_f (by omega)];exact⟨k,rfl,h2,h3,λh=>absurd h hk⟩
theorem qJd {α:Type} [Inhabited α] {l:List α} {i:Nat} (h:i<l.length):l.getD i du=l[i]:=by rw[ka,ks h];rfl
theorem qHo (a:List qA) (hl:a.length<=1000000):∀(n x:Nat) (l:List qA),a.length<x+n->x<=a.length->l.length<=x->QH l->(∀p,p∈l↔p∈a.take x)->∃s,KE a n l (x:Int)=some s/\QH s/\(∀p,p∈s↔p∈a)/\s.length<=a.length
 |0,x,l,h1,h2,_,_,_=>by omega
 |n+1,x,l,h1,h2,h3,h4,h5=>by
  unfold KE;by_cases hx:x<a.length
  ·obtain⟨k,e1,e2,e3,e4⟩:=qSi a l x (by omega) hx FUEL 0 (by rw[FUEL_eq];omega) (by omega) (λj hj=>by omega);have ht:a.take (x+1)=a.take x++[a.getD x du]:=by rw[gN,ks hx,qJd hx];rfl
   rw[show((0:Nat):Int)=0 from rfl] at e1;rw[lt_t (by omega),e1];simp only[kp,kd,qAQ,qAm,kg,wH (show x<4611686018427387904 by omega)];have s1:slOk 0 ((k:Nat):Int) l.length=true:=by unfold slOk;exact ki ⟨by omega,by omega,by omega⟩
   have s2:slOk ((k:Nat):Int) (l.length:Int) l.length=true:=by unfold slOk;exact ki ⟨by omega,by omega,by omega⟩
   rw[s1,s2,yC (n:=0+k) (by omega),yC (n:=0+k+1) (by omega),yC (n:=0+k+1+(l.length-k)) (by omega),zR (i:=(x:Int)) (by omega)];simp only[kp,uw];have hins:¬(k<l.length/\peq (l.getD k du) (a.getD x du)=true)->∃s,KE a n (l.take k++[a.getD x du]++(l.drop k).take (l.length-k)) ((x+1:Nat):Int)=some s/\QH s/\(∀p,p∈s↔p∈a)/\s.length<=a.length:=by
    intro hne;have hdr:(l.drop k).take (l.length-k)=l.drop k:=uV (by simp);rw[hdr];have hall:∀p∈l.drop k,pLt (a.getD x du) p:=by
     intro p hp;obtain⟨j,hj,rfl⟩:=uK.1 hp;rw[uj] at hj;rw[List.getElem_drop];have hk:k<l.length:=by omega
     have hc:pLt (a.getD x du) (l.getD k du):=by
      rcases pLt_tri (l.getD k du) (a.getD x du) with h|h|h
      ·exact absurd h (e4 hk)
      ·exact absurd ⟨hk,qLR.2 h⟩ hne
      ·exact h
     rw[qJd hk] at hc;by_cases hj0:j=0
     ·subst hj0;exact hc
     ·have h4':=gA.1 h4;exact qDe hc (h4' k (k+j) hk (by omega) (by omega))
    have htk:∀p∈l.take k,pLt p (a.getD x du):=by
     intro p hp;obtain⟨j,hj,rfl⟩:=da.1 hp;have:=e3 j (by omega)
     rwa [qJd (by omega)] at this
    refine qHo a hl n (x+1) _ (by omega) (by omega) (by simp;omega) ?_ (λp=>?_)
    ·refine List.pairwise_append.2 ⟨List.pairwise_append.2 ⟨h4.take,List.pairwise_singleton _ _,λp hp q hq=>?_⟩,h4.drop,λp hp q hq=>?_⟩
     ·rw[un] at hq;subst hq;exact htk p hp
     ·rcases ud.1 hp with hp|hp
      ·exact qDe (htk p hp) (hall q hq)
      ·rw[un] at hp;subst hp;exact hall q hq
    ·rw[ht,ud,ud,ud,<-h5 p];have:p∈l↔p∈l.take k\/p∈l.drop k:=by rw[<-ud,List.take_append_drop]
     rw[this];constructor
     ·rintro((h|h)|h)
      ·exact .inl (.inl h)
      ·exact .inr h
      ·exact .inl (.inr h)
     ·rintro((h|h)|h)
      ·exact .inl (.inl h)
      ·exact .inr h
      ·exact .inl (.inr h)
   by_cases hk:k<l.length
   ·rw[lt_t (by omega),zR (by omega)];simp only[kp];cases hp:peq (l.getD k du) (a.getD x du) with
    |true=>
     have hp':=hp;unfold peq at hp';rw[hp'];simp only[kp];refine qHo a hl n (x+1) l (by omega) (by omega) (by omega) h4 (λp=>?_);rw[ht,ud,<-h5 p,un];refine⟨.inl,λh=>h.elim id λe=>?_⟩;rw[e,<-qLR.1 hp];exact wJ hk
    |false=>
     have hp':=hp;unfold peq at hp';rw[hp'];simp only[kv];exact hins (λh=>by rw[hp] at h;cases h.2)
   ·rw[lt_f (by omega)];simp only[kv];exact hins (λh=>hk h.1)
  ·rw[lt_f (by omega)];rw[uV (by omega)] at h5;exact⟨l,rfl,h4,h5,by omega⟩
def srt (a:List qA):List qA:=ddT (WY pLe a) (WY pLe a).length
theorem qZa (x y z:qA) (h1:pLe x y=true) (h2:pLe y z=true):pLe x z=true:=by
 rw[pLe_iff] at*;rcases h1 with h1|rfl
 ·rcases h2 with h2|rfl
  ·exact .inl (qDe h1 h2)
  ·exact .inl h1
 ·exact h2
theorem qYs (x y:qA):pLe x y=true\/pLe y x=true:=by
 rw[pLe_iff,pLe_iff];rcases pLt_tri x y with h|h|h
 ·exact .inl (.inl h)
 ·exact .inl (.inr h)
 ·exact .inr (.inl h)
theorem qAX (a:List qA):QH (srt a):=qJo _ (qA4 qZa qYs a) _ (ke _)
theorem qEH (a:List qA) (p:qA):p∈srt a↔p∈a:=by
 unfold srt;rw[qRx _ _ (ke _),List.take_length];exact(UK pLe a).mem_iff
theorem qLS (a:List qA):(srt a).length<=a.length:=by
 have:=qRy (WY pLe a) (WY pLe a).length;have h2:=(UK pLe a).length_eq;unfold srt;omega
theorem qU6 (a:List qA) (hl:a.length<=1000000):qE0 a=some (srt a):=by
 unfold qE0;obtain⟨s,e1,e2,e3,_⟩:=qHo a hl FUEL 0 [] (by rw[FUEL_eq];omega) (by omega) (by simp) List.Pairwise.nil (λp=>by simp);rw[show((0:Nat):Int)=0 from rfl] at e1;rw[e1,kd]
 congr 1
 exact qJt e2 (qAX a) (λp=>by rw[e3,qEH])
def turnP (q:Nat) (p:qA):qA:=match q with
 |0=>p
 |1=>⟨-p.Y,p.X⟩
 |2=>⟨-p.X,-p.Y⟩
 |_=>⟨p.Y,-p.X⟩
def canT (p:qA):Bool:=!(p.X== -9223372036854775808)&&!(p.Y== -9223372036854775808)
def turns (a:List qA) (q:Nat):List qA:=bif a.all canT then a.map (turnP q) else[]
def popR :List qA->qA->List qA
 |t::s::r,c=>if cross s t c<=0 then popR (s::r) c else t::s::r
 |l,_=>l
theorem qOA (c:qA):∀st,(popR st c).length<=st.length
 |[]=>ke _
 |[_]=>ke _
 |t::s::r=>by
  unfold popR;split
  ·have:=qOA c (s::r);simp at this⊢;omega
  ·exact ke _
theorem qOl (c:qA):∀st p,p∈popR st c->p∈st
 |[],_,h=>h
 |[_],_,h=>h
 |t::s::r,p,h=>by
  unfold popR at h;split at h
  ·exact kG _ (qOl c (s::r) p h)
  ·exact h
def jZ (st:List qA) (c:qA):List qA:=c::popR st c
def chainR (a:List qA):List qA:=a.foldl jZ []
theorem two_top (t s:qA) (r:List qA):((t::s::r).reverse).getD r.length du=s/\((t::s::r).reverse).getD (r.length+1) du=t/\((t::s::r).reverse).take (r.length+1)=(s::r).reverse:=by
 simp only[kP,kI,uH,uw];refine⟨?_,?_,?_⟩
 ·rw[ka,kA (by simp)];simp
 ·rw[ka,kA (by simp)];simp
 ·rw[List.take_append,uV (by simp)];simp
theorem qUf (a:List qA) (x:Nat) (hx:x<a.length) (hc:rng (a.getD x du)):∀(n:Nat) (st:List qA),st.length<n->st.length<=1000000->(∀p∈st,rng p)->
  KP a (x:Int) n st.reverse=some (popR st (a.getD x du)).reverse/\GU a (x:Int) n st.reverse=some (popR st (a.getD x du)).reverse
 |0,st,h,_,_=>by omega
 |n+1,[],_,_,_=>⟨rfl,rfl⟩
 |n+1,[t],_,_,_=>⟨rfl,rfl⟩
 |n+1,t::s::r,h,hl,hr=>by
  have hs:rng s:=hr s (by simp);have ht:rng t:=hr t (by simp);obtain⟨g1,g2,g3⟩:=two_top t s r;have hlen:((t::s::r).reverse).length=r.length+2:=by simp
  simp only[uJ] at h hl;have e1:w64 (((r.length+2:Nat):Int)-2)=(r.length:Int):=by rw[w64_o (by omega)];omega
  have e2:w64 (((r.length+2:Nat):Int)-1)=((r.length+1:Nat):Int):=by rw[w64_o (by omega)];omega
  have hsl:slOk 0 ((r.length+1:Nat):Int) (r.length+2)=true:=by unfold slOk;exact ki ⟨by omega,by omega,by omega⟩
  obtain⟨ih1,ih2⟩:=qUf a x hx hc n (s::r) (by simp;omega) (by simp;omega) (λp hp=>hr p (kG _ hp));unfold KP GU OF qBI popR;rw[hlen,e1,e2,ki (show((r.length+2:Nat):Int)≥2 by omega),ki (show((r.length+2:Nat):Int)>1 by omega),zR (i:=(r.length:Int)) (by omega),zR (i:=((r.length+1:Nat):Int)) (by omega),zR (i:=(x:Int)) (by omega),hsl];simp only[kp,kg,g1,g2,g3,(qUs hs ht hc).1,(qUs hs ht hc).2,kd,ih1,ih2];by_cases hcr:cross s t (a.getD x du)<=0
  ·rw[ki hcr,if_pos hcr];exact⟨rfl,rfl⟩
  ·rw[kf hcr,if_neg hcr];exact⟨rfl,rfl⟩
theorem qUF (a:List qA) (hr:∀p∈a,rng p) (hl:a.length<=1000000):∀(n x:Nat) (st:List qA),a.length<x+n->x<=a.length->st.length<=x->(∀p∈st,rng p)->
  NY a n st.reverse (x:Int)=some ((a.drop x).foldl jZ st).reverse/\EN a n st.reverse (x:Int)=some ((a.drop x).foldl jZ st).reverse
 |0,x,st,h1,h2,_,_=>by omega
 |n+1,x,st,h1,h2,h3,h4=>by
  unfold NY EN;by_cases hx:x<a.length
  ·have hc:rng (a.getD x du):=hr _ (wJ hx);obtain⟨p1,p2⟩:=qUf a x hx hc FUEL st (by rw[FUEL_eq];omega) (by omega) h4;have hp:=qOA (a.getD x du) st;obtain⟨ih1,ih2⟩:=qUF a hr hl n (x+1) (jZ st (a.getD x du)) (by omega) (by omega) (by unfold jZ;rw[uJ];omega) (λp hp'=>by
    unfold jZ at hp';rcases kW.1 hp' with rfl|hp'
    ·exact hc
    ·exact h4 p (qOl _ _ _ hp'))
   rw[lt_t (by omega),zR (by omega),p1,p2,HK a x hx];simp only[kp,kd,ur,yC (n:=(popR st (a.getD x du)).length+1) (b:=16) (by omega),kg,wH (show x<4611686018427387904 by omega),uG];unfold jZ at ih1 ih2⊢;rw[kP] at ih1 ih2;exact⟨ih1,ih2⟩
  ·rw[lt_f (by omega),uA (by omega)];exact⟨rfl,rfl⟩
theorem qIg :∀(a st:List qA),(a.foldl jZ st).length<=a.length+st.length
 |[],st=>by simp
 |c::a,st=>by
  have h1:=qIg a (jZ st c);have h2:=qOA c st;unfold jZ at h1;simp only[uG,uJ] at h1⊢;unfold jZ;omega
theorem WR (a:List qA):(chainR a).length<=a.length:=by have:=qIg a [];simpa[chainR] using this
theorem qJB :∀(a st:List qA),st≠[]\/a≠[]->a.foldl jZ st≠[]
 |[],st,h=>by simpa using h
 |c::a,st,_=>qJB a (jZ st c) (.inl (by unfold jZ;simp))
theorem BZ {a:List qA} (h:a≠[]):0<(chainR a).length:=uq.2 (qJB a [] (.inr h))
theorem qI9 (a:List qA) (hr:∀p∈a,rng p) (hl:a.length<=1000000):(a≠[]->SY a=some (chainR a).tail.reverse)/\qCz a=some (chainR a).reverse:=by
 obtain⟨h1,h2⟩:=qUF a hr hl FUEL 0 [] (by rw[FUEL_eq];omega) (by omega) (by simp) (λp hp=>by cases hp);rw[show((0:Nat):Int)=0 from rfl,uN,List.reverse_nil] at h1 h2;unfold SY qCz;rw[h1,h2];refine⟨λhne=>?_,rfl⟩;have hp:=BZ hne;have hle:=WR a;change 0<(a.foldl jZ []).length at hp;change (a.foldl jZ []).length<=a.length at hle;have e2:w64 ((((a.foldl jZ []).reverse.length:Nat):Int)-1)=(((a.foldl jZ []).length-1:Nat):Int):=by rw[ur,w64_o (by omega)];omega
 have hsl:slOk 0 (((a.foldl jZ []).length-1:Nat):Int) (a.foldl jZ []).reverse.length=true:=by unfold slOk;rw[ur];exact ki ⟨by omega,by omega,by omega⟩
 simp only[kd,e2,hsl,kp,kg];unfold chainR;generalize a.foldl jZ []=st at hp;cases st with
 |nil=>simp at hp
 |cons t r=>simp
theorem qUL (l:List qA) (hl:l.length<=1000000):∀(n i j:Nat) (t:List qA),l.length<2*i+2*n->i<=j+1->i+j+1=l.length->t.length=l.length->(∀k,k<l.length->(k<i\/j<k)->t.getD k du=l.getD (l.length-1-k) du)->(∀k,i<=k->k<=j->t.getD k du=l.getD k du)->
  QN n t (i:Int) (j:Int)=some l.reverse
 |0,i,j,t,h1,h2,h3,_,_,_=>by omega
 |n+1,i,j,t,h1,h2,h3,h4,h5,h6=>by
  unfold QN;by_cases hij:i<j
  ·have e1:w64 ((j:Int)-1)=((j-1:Nat):Int):=by rw[w64_o (by omega)];omega
   rw[lt_t (by omega),zR (i:=(j:Int)) (by omega),zR (i:=(i:Int)) (by omega),e1];simp only[kp,kg,wH (show i<4611686018427387904 by omega)];refine qUL l hl n (i+1) (j-1) _ (by omega) (by omega) (by omega) (by simp[h4]) (λk hk hkk=>?_) (λk hk1 hk2=>?_)
   ·by_cases hkj:k=j
    ·subst hkj;rw[qM1 _ (by simp;omega),h6 i (by omega) (by omega)]
     congr 1;omega
    ·rw[IE _ (λe=>hkj e.symm)];by_cases hki:k=i
     ·subst hki;rw[qM1 _ (by omega),h6 j (by omega) (by omega)]
      congr 1;omega
     ·rw[IE _ (λe=>hki e.symm)];exact h5 k hk (by omega)
   ·rw[IE _ (by omega),IE _ (by omega)];exact h6 k (by omega) (by omega)
  ·rw[lt_f (by omega)];have:t=l.reverse:=by
    refine qUy (by simp[h4]) (λk hk=>?_);rw[ka (l:=l.reverse),List.getElem?_reverse (by omega),<-ka];by_cases hkk:k<i\/j<k
    ·exact h5 k (by omega) hkk
    ·rw[h6 k (by omega) (by omega)];congr 1;omega
   rw[this];rfl
theorem rev_eq (l:List qA) (hne:l≠[]) (hl:l.length<=1000000):WF l=some l.reverse:=by
 have hp:0<l.length:=uq.2 hne;unfold WF;have h:=qUL l hl FUEL 0 (l.length-1) l (by rw[FUEL_eq];omega) (by omega) (by omega) rfl (λk hk h=>by omega) (λ_ _ _=>rfl);rw[show((0:Nat):Int)=0 from rfl] at h;rw[show w64 ((l.length:Int)-1)=((l.length-1:Nat):Int) by rw[w64_o (by omega)];omega,h];rfl
theorem qMJ (l:List qA) (h:l.length<=1000000):∀(n x:Nat) (t:List qA),x<n->x<=l.length->t=(l.drop x).reverse->TS l n t ((x:Int)-1)=some l.reverse
 |0,x,t,h1,h2,_=>by omega
 |n+1,0,t,h1,h2,h3=>by
  unfold TS;rw[kf (by omega),h3];rfl
 |n+1,x+1,t,h1,h2,h3=>by
  unfold TS;have hx:x<l.length:=by omega
  have ht:t.length<=1000000:=by rw[h3];simp;omega
  have e0:(((x+1:Nat):Int)-1)=(x:Int):=by omega
  have e4:w64 ((x:Int)-1)=(x:Int)-1:=w64_o (by omega);rw[e0,ki (by omega),zR (by omega),yC (by omega)];simp only[kp,kg,e4];refine qMJ l h n x _ (by omega) (by omega) ?_;rw[HK l x hx,kP,h3]
def hullOf (s:List qA):List qA:=if(chainR s).length+(chainR s.reverse).length<5 then[] else(chainR s).tail.reverse++(chainR s.reverse).tail.reverse
def hull (a:List qA):List qA:=bif decide ((a.length:Int)>32) then[] else bif a.all inRange then hullOf (srt a) else[]
theorem qUD {s:List qA} (h:s.length<3):hullOf s=[]:=by
 have h1:=WR s;have h2:=WR s.reverse;rw[ur] at h2;unfold hullOf;rw[if_pos (by omega)]
theorem qXY (a:List qA):qIL a=some (hull a):=by
 unfold qIL hull qDz;by_cases h:(a.length:Int)>32
 ·simp[h]
 rw[kf h,qKs a (by omega)];simp only[kv,kd];cases hr:a.all inRange with
 |false=>rfl
 |true=>
  have hrng:∀p∈srt a,rng p:=λp hp=>qCE.1 (ky.1 hr p ((qEH a p).1 hp));have hsl:=qLS a;have c1:=(qI9 (srt a) hrng (by omega)).2;have c2:=(qI9 (srt a).reverse (λp hp=>hrng p (by simpa using hp)) (by simp;omega)).2;have hrv:TS (srt a) FUEL [] (w64 (((srt a).length:Int)-1))=some (srt a).reverse:=by
   rw[w64_o (by omega)];exact qMJ (srt a) (by omega) FUEL (srt a).length [] (by rw[FUEL_eq];omega) (ke _) (by simp)
  rw[qU6 a (by omega)];simp only[ue,kv,kp,kd,hrv,c1,c2];have l1:=WR (srt a);have l2:=WR (srt a).reverse;rw[ur] at l2;simp only[ur];rw[w64_o (n:=((chainR (srt a)).length:Int)+((chainR (srt a).reverse).length:Int)) (by omega)];unfold hullOf;by_cases h5:(chainR (srt a)).length+(chainR (srt a).reverse).length<5
  ·rw[if_pos h5,lt_t (by omega)];rfl
  ·rw[if_neg h5,lt_f (by omega)];have hne:srt a≠[]:=λe=>by rw[e] at h5;simp[chainR] at h5
   have p1:=BZ hne;have p2:=BZ (a:=(srt a).reverse) (by simpa using hne);have e1:w64 (((chainR (srt a)).length:Int)-1)=(((chainR (srt a)).length-1:Nat):Int):=by rw[w64_o (by omega)];omega
   have e2:w64 (((chainR (srt a).reverse).length:Int)-1)=(((chainR (srt a).reverse).length-1:Nat):Int):=by rw[w64_o (by omega)];omega
   have s1:slOk 0 (((chainR (srt a)).length-1:Nat):Int) (chainR (srt a)).length=true:=by unfold slOk;exact ki ⟨by omega,by omega,by omega⟩
   have s2:slOk 0 (((chainR (srt a).reverse).length-1:Nat):Int) (chainR (srt a).reverse).length=true:=by unfold slOk;exact ki ⟨by omega,by omega,by omega⟩
   rw[e1,e2,s1,s2,yC (by simp;omega),yC (by simp;omega)];simp only[kv,kp,kg,uw]
   congr 1
   have tk:∀st:List qA,0<st.length->st.reverse.take (st.length-1)=st.tail.reverse:=λst hst=>by
    cases st with
    |nil=>simp at hst
    |cons t r=>simp
   rw[tk _ p1,tk _ p2]
theorem qWs (a:List qA):qC0 a=some (hull a):=by
 unfold qC0 hull SC;by_cases h3:(a.length:Int)<3
 ·have hs:hullOf (srt a)=[]:=qUD (by have:=qLS a;omega);rw[ki h3,kf (show¬(a.length:Int)>32 by omega),hs];cases a.all inRange<;>rfl
 by_cases h:(a.length:Int)>32
 ·simp[h,h3]
 rw[kf h,kf h3,qIH a (by omega)];simp only[kv,kd];cases hr:a.all inRange with
 |false=>rfl
 |true=>
  have hrng:∀p∈srt a,rng p:=λp hp=>qCE.1 (ky.1 hr p ((qEH a p).1 hp));have hsl:=qLS a;have hpl:=(UK pLe a).length_eq;have hane:a≠[]:=λe=>by rw[e] at h3;simp at h3
  have hne:srt a≠[]:=λe=>by
   obtain⟨p,hp⟩:=List.exists_mem_of_ne_nil a hane;have:=(qEH a p).2 hp;rw[e] at this;cases this
  have c1:=(qI9 (srt a) hrng (by omega)).1 hne;have c2:=(qI9 (srt a).reverse (λp hp=>hrng p (by simpa using hp)) (by simp;omega)).1 (by simpa using hne);have hso:qK5 a.length=true:=by unfold qK5;rw[kq,kV,kV];omega
  have hcl:YE a=some a:=by unfold YE;rw[yC (by omega)];rfl
  have hst:ZQ a=some (WY pLe a):=by unfold ZQ;rw[hso,sort_eq];rfl
  have hco:QG (WY pLe a)=some (srt a,srt a):=qXH (WY pLe a) (by omega);have l1:=WR (srt a);have l2:=WR (srt a).reverse;rw[ur] at l2;have p1:=BZ hne;have p2:=BZ (a:=(srt a).reverse) (by simpa using hne);simp only[ue,kv,kp,hcl,hst,hco,kd,hpl,gC,c1,rev_eq _ hne (show(srt a).length<=1000000 by omega),c2,ur,List.length_tail];rw[yC (by omega)];unfold hullOf;by_cases h5:(chainR (srt a)).length+(chainR (srt a).reverse).length<5
  ·rw[if_pos h5,lt_t (by omega)];rfl
  ·rw[if_neg h5,lt_f (by omega)];rfl
theorem qXN (s:List qA):(hullOf s).length<=s.length+s.length:=by
 have h1:=WR s;have h2:=WR s.reverse;rw[ur] at h2;unfold hullOf;split
 ·simp
 ·simp;omega
theorem qZG (a:List qA):(hull a).length<=a.length+a.length:=by
 have h1:=qXN (srt a);have h2:=qLS a;unfold hull;cases decide ((a.length:Int)>32) with
 |true=>simp
 |false=>cases a.all inRange with
  |true=>simp only[kv,kp];omega
  |false=>simp
def pos (x y:Int):Prop:=0<x\/(x=0/\0<y)
theorem CX {ux uy vx vy wx wy:Int} (hu:pos ux uy) (hv:pos vx vy) (hw:pos wx wy) (h1:0<=ux*vy-vx*uy) (h2:0<=vx*wy-wx*vy):0<=ux*wy-wx*uy:=by
 unfold pos at*;have hux:0<=ux:=by omega
 have hwx:0<=wx:=by omega
 rcases hv with hv|⟨hv,hvy⟩
 ·have e:(ux*wy-wx*uy)*vx=(ux*vy-vx*uy)*wx+(vx*wy-wx*vy)*ux:=by grind
  have h3:0<=(ux*wy-wx*uy)*vx:=by rw[e];exact Int.add_nonneg (kC h1 hwx) (kC h2 hux)
  exact Int.nonneg_of_mul_nonneg_left h3 hv
 ·subst hv;have h4:0<=-(wx*vy):=by simpa using h2
  have hw0:wx=0:=by
   rcases de hwx with h|h
   ·have:=gc h hvy;omega
   ·exact h.symm
  subst hw0;have hwy:0<wy:=by omega
  have:=kC hux (df hwy);simpa using this
theorem YA {p q:qA} (h:pLt p q):pos (q.X-p.X) (q.Y-p.Y):=by unfold pLt at h;unfold pos;omega
theorem qKk (p q:qA):cross p q p=0:=by unfold cross;grind
theorem qUt (p q:qA):cross p q q=0:=by unfold cross;grind
theorem turn_b {s t c p:qA} (hst:pLt s t) (hsc:pLt s c) (hsp:pLt s p) (h1:cross s t c<=0) (h2:0<=cross s t p):0<=cross s c p:=by
 unfold cross at*;exact CX (YA hsc) (YA hst) (YA hsp) (by omega) h2
theorem turn_c {s t c p:qA} (hst:pLt s t) (htc:pLt t c) (hpt:pLt p t) (h1:0<cross s t c) (h2:0<=cross s t p):0<=cross t c p:=by
 have h3:=CX (ux:=t.X-p.X) (uy:=t.Y-p.Y) (vx:=t.X-s.X) (vy:=t.Y-s.Y) (wx:=c.X-t.X) (wy:=c.Y-t.Y) (YA hpt) (YA hst) (YA htc)
  (by unfold cross at h2;grind) (by unfold cross at h1;grind)
 unfold cross
 grind
def Left (pts:List qA):List qA->Prop
 |v::u::r=>(∀p∈pts,0<=cross u v p)/\Left pts (u::r)
 |_=>True
def qCD :List qA->Prop
 |c::t::s::r=>0<cross s t c/\qCD (t::s::r)
 |_=>True
theorem qVe (pts:List qA) (c:qA) (hc:∀p∈pts,pLt p c):∀(st:List qA),st.Pairwise (λa b=>pLt b a)->(∀p∈st,p∈pts)->Left pts st->qCD st->(∀t r,st=t::r->∀p∈pts,pLt t p->0<=cross t c p)->(∀t,st.getLast? =some t->∀p∈pts,p=t\/pLt t p)->
  Left pts (c::popR st c)/\qCD (c::popR st c)
 |[],_,_,_,_,_,_=>⟨trivial,trivial⟩
 |[t],_,hm,_,_,hq,hb=>by
  refine⟨⟨λp hp=>?_,trivial⟩,trivial⟩;rcases hb t rfl p hp with rfl|h
  ·rw[qKk];exact kX _
  ·exact hq t [] rfl p hp h
 |t::s::r,hs,hm,hl,ht,hq,hb=>by
  obtain⟨s1,s2⟩:=kO.1 hs;have hst:pLt s t:=s1 s kN;obtain⟨l1,l2⟩:=hl;have htc:=hc t (hm t kN);unfold popR;by_cases hcr:cross s t c<=0
  ·rw[if_pos hcr];refine qVe pts c hc (s::r) s2 (λp hp=>hm p (kG _ hp)) l2 (by cases r with|nil=>trivial|cons u r=>exact ht.2) (λt' r' he p hp hsp=>?_) (λt' he p hp=>hb t' (by rw[gj];exact he) p hp);cases he;exact turn_b hst (hc s (hm s (by simp))) hsp hcr (l1 p hp)
  ·rw[if_neg hcr];refine⟨⟨λp hp=>?_,l1,l2⟩,by omega,ht⟩;rcases pLt_tri p t with h|h|h
   ·exact turn_c hst htc h (by omega) (l1 p hp)
   ·rw[h,qKk];exact kX _
   ·exact hq t _ rfl p hp h
abbrev Desc (st:List qA):Prop:=st.Pairwise (λa b=>pLt b a)
structure Inv (pts st:List qA):Prop where
 desc:Desc st
 sub:∀p∈st,p∈pts
 left:Left pts st
 turns:qCD st
 top:∀t r,st=t::r->∀p∈pts,p=t\/pLt p t
 bot:∀t,st.getLast? =some t->∀p∈pts,p=t\/pLt t p
theorem qLp (c:qA):∀st,Desc st->Desc (popR st c)
 |[],h=>h
 |[_],h=>h
 |t::s::r,h=>by
  unfold popR;split
  ·exact qLp c (s::r) (kO.1 h).2
  ·exact h
theorem qKY (c:qA):∀st,(popR st c).getLast? =st.getLast?
 |[]=>rfl
 |[_]=>rfl
 |t::s::r=>by
  unfold popR;split
  ·rw[qKY c (s::r),gj]
  ·rfl
theorem qVt {a b:List qA}:∀{st:List qA},Left a st->Left b st->Left (a++b) st
 |[],_,_=>trivial
 |[_],_,_=>trivial
 |v::u::r,⟨h1,h2⟩,⟨h3,h4⟩=>⟨λp hp=>(ud.1 hp).elim (h1 p) (h3 p),qVt h2 h4⟩
theorem qT7 (c:qA):∀st,Desc st->(∀p∈st,pLt p c)->qCD st->(∀v u r,st=v::u::r->0<=cross u v c)->Left [c] st
 |[],_,_,_,_=>trivial
 |[_],_,_,_,_=>trivial
 |v::u::r,hd,hc,ht,h0=>by
  have h1:=h0 v u r rfl;obtain⟨d1,d2⟩:=kO.1 hd;refine⟨λp hp=>by rw[un.1 hp];exact h1,qT7 c (u::r) d2 (λp hp=>hc p (kG _ hp)) (by cases r with|nil=>trivial|cons x r=>exact ht.2) (λv' u' r' he=>?_)⟩;cases he;obtain⟨t1,_⟩:=ht;have huv:pLt u v:=d1 u kN;have hxu:pLt u' u:=(kO.1 d2).1 u' kN;have huc:pLt u c:=hc u (by simp);have:=CX (YA hxu) (YA huv) (YA huc) (by unfold cross at t1;grind) (by unfold cross at h1;grind);unfold cross
  grind
theorem Inv.push {pts st:List qA} (h:Inv pts st) {c:qA} (hc:∀p∈pts,pLt p c) (hne:pts≠[]->st≠[]):Inv (pts++[c]) (jZ st c):=by
 have hp:=qVe pts c hc st h.desc h.sub h.left h.turns (λt r he p hp htp=>by
  rcases h.top t r he p hp with rfl|h1
  ·exact absurd htp (pLt_irrefl _)
  ·exact absurd htp (pLt_asymm h1)) h.bot
 have hsub:∀p∈popR st c,p∈pts:=λp hp=>h.sub p (qOl c st p hp);have hlt:∀p∈popR st c,pLt p c:=λp hp=>hc p (hsub p hp);have hdesc:Desc (jZ st c):=kO.2 ⟨hlt,qLp c st h.desc⟩;refine⟨hdesc,λp hp'=>?_,qVt hp.1 ?_,hp.2,λt r he p hp'=>?_,λt he p hp'=>?_⟩
 ·rcases kW.1 hp' with rfl|hp'
  ·simp
  ·exact List.mem_append_left _ (hsub p hp')
 ·have hl:Left [c] (popR st c):=by
   refine qT7 c _ (qLp c st h.desc) hlt ?_ (λv u r he=>?_)
   ·have:=hp.2;generalize popR st c=q at this
    match q,this with
    |[],_=>trivial
    |[_],_=>trivial
    |[_,_],_=>trivial
    |_::_::_::_,this=>exact this.2
   ·have:=hp.2;rw[he] at this;exact df this.1
  unfold jZ;generalize popR st c=q at hl
  match q,hl with
  |[],_=>trivial
  |t::r,hl=>exact⟨λp hp=>by rw[un.1 hp,qUt];exact kX _,hl⟩
 ·cases he;rcases ud.1 hp' with h1|h1
  ·exact .inr (hc p h1)
  ·exact .inl (un.1 h1)
 ·unfold jZ at he;by_cases hst:st=[]
  ·subst hst;have hpts:pts=[]:=Classical.byContradiction λhh=>hne hh rfl;subst hpts;simp[popR] at he;subst he;exact .inl (by simpa using hp')
  ·have hpe:popR st c≠[]:=λe=>by
    have:=qKY c st;rw[e] at this;exact hst (List.getLast?_eq_none_iff.1 this.symm)
   have he':st.getLast? =some t:=by
    obtain⟨x,q,hq⟩:=uX hpe;rw[<-qKY c st,hq];rw[hq,gj] at he;exact he
   rcases ud.1 hp' with h1|h1
   ·exact h.bot t he' p h1
   ·rw[un.1 h1];exact .inr (hc t (h.sub t (List.mem_of_getLast? he')))
theorem qT6 :∀(rest pts st:List qA),Inv pts st->(pts≠[]->st≠[])->(∀p∈pts,∀q∈rest,pLt p q)->QH rest->Inv (pts++rest) (rest.foldl jZ st)
 |[],pts,st,h,_,_,_=>by simpa using h
 |c::rest,pts,st,h,hne,hlt,hs=>by
  obtain⟨s1,s2⟩:=kO.1 hs;have:=qT6 rest (pts++[c]) (jZ st c) (h.push (λp hp=>hlt p hp c kN) hne) (λ_=>by unfold jZ;simp) (λp hp q hq=>by
   rcases ud.1 hp with h1|h1
   ·exact hlt p h1 q (kG _ hq)
   ·rw[un.1 h1];exact s1 q hq) s2
  rw[kI] at this;exact this
theorem qCS {s:List qA} (hs:QH s):Inv s (chainR s):=by
 have:=qT6 s [] [] ⟨List.Pairwise.nil,λp hp=>(by cases hp),trivial,trivial,λt r he=>(by cases he),λt he=>(by cases he)⟩ (λh=>absurd rfl h) (λp hp=>by cases hp) hs;simpa[chainR] using this
def ng (p:qA):qA:=⟨-p.X,-p.Y⟩
theorem ng_ng (p:qA):ng (ng p)=p:=by unfold ng;simp
theorem qI4 (p q r:qA):cross (ng p) (ng q) (ng r)=cross p q r:=by unfold cross ng;grind
theorem qKK {p q:qA}:pLt (ng p) (ng q)↔pLt q p:=by unfold pLt ng;simp only;omega
theorem qW5 (c:qA):∀st,popR (st.map ng) (ng c)=(popR st c).map ng
 |[]=>rfl
 |[_]=>rfl
 |t::s::r=>by
  have ih:=qW5 c (s::r);simp only[uz] at ih⊢;rw[popR,popR,qI4];split
  ·exact ih
  ·simp
theorem qXA :∀(l st:List qA),(l.map ng).foldl jZ (st.map ng)=(l.foldl jZ st).map ng
 |[],st=>rfl
 |c::l,st=>by
  have:=qXA l (jZ st c);simp only[uz,uG];rw[<-this];unfold jZ;rw[qW5,uz]
theorem qFY (l:List qA):chainR (l.map ng)=(chainR l).map ng:=qXA l []
theorem qXi {pts:List qA}:∀{st:List qA},Left (pts.map ng) (st.map ng)->Left pts st
 |[],_=>trivial
 |[_],_=>trivial
 |v::u::r,⟨h1,h2⟩=>⟨λp hp=>by have:=h1 (ng p) (List.mem_map_of_mem hp);rwa [qI4] at this,qXi h2⟩
theorem qV2 :∀{st:List qA},qCD (st.map ng)->qCD st
 |[],_=>trivial
 |[_],_=>trivial
 |[_,_],_=>trivial
 |c::t::s::r,⟨h1,h2⟩=>⟨by rwa [qI4] at h1,qV2 h2⟩
theorem qVn {a b:List qA} (h:∀p,p∈b->p∈a):∀{st:List qA},Left a st->Left b st
 |[],_=>trivial
 |[_],_=>trivial
 |_::_::_,⟨h1,h2⟩=>⟨λp hp=>h1 p (h p hp),qVn h h2⟩
structure Up (pts st:List qA):Prop where
 asc:QH st
 sub:∀p∈st,p∈pts
 left:Left pts st
 turns:qCD st
 top:∀t r,st=t::r->∀p∈pts,p=t\/pLt t p
 bot:∀t,st.getLast? =some t->∀p∈pts,p=t\/pLt p t
theorem qP7 {s:List qA} (hs:QH s):Up s (chainR s.reverse):=by
 have hs':QH (s.reverse.map ng):=by
  refine List.pairwise_map.2 (gU.2 ?_);exact hs.imp (λh=>qKK.2 h)
 have hi:=qCS hs';have he:chainR (s.reverse.map ng)=(chainR s.reverse).map ng:=qFY _;rw[he] at hi;have hmem:∀p,p∈s->ng p∈s.reverse.map ng:=λp hp=>List.mem_map_of_mem (by simpa using hp);have inj:∀p q,ng p=ng q->p=q:=λp q h=>by rw[<-ng_ng p,h,ng_ng]
 refine⟨?_,λp hp=>?_,qXi (qVn (λp hp=>?_) hi.left),qV2 hi.turns,λt r ht p hp=>?_,λt ht p hp=>?_⟩
 ·have:=hi.desc;rw[Desc,List.pairwise_map] at this;exact this.imp (λh=>qKK.1 h)
 ·have:=hi.sub (ng p) (List.mem_map_of_mem hp);obtain⟨q,hq,e⟩:=ge.1 this;rw[<-inj _ _ e];simpa using hq
 ·obtain⟨q,hq,e⟩:=ge.1 hp;rw[<-e];exact hmem q hq
 ·rcases hi.top (ng t) (r.map ng) (by rw[ht];rfl) (ng p) (hmem p hp) with h|h
  ·exact .inl (inj _ _ h)
  ·exact .inr (qKK.1 h)
 ·rcases hi.bot (ng t) (by rw[List.getLast?_map,ht];rfl) (ng p) (hmem p hp) with h|h
  ·exact .inl (inj _ _ h)
  ·exact .inr (qKK.1 h)
def qGW (pts:List qA):List qA->Prop
 |u::v::r=>(∀p∈pts,0<=cross u v p)/\qGW pts (v::r)
 |_=>True
theorem qJp {pts:List qA} {x:qA}:∀{a b:List qA},qGW pts (a++[x])->qGW pts (x::b)->qGW pts (a++x::b)
 |[],_,_,h=>h
 |[_],_,h1,h2=>⟨h1.1,h2⟩
 |_::v::a,b,h1,h2=>⟨h1.1,qJp (a:=v::a) h1.2 h2⟩
theorem qJs {pts:List qA}:∀{st:List qA},Left pts st->qGW pts st.reverse
 |[],_=>trivial
 |[_],_=>trivial
 |v::u::r,⟨h1,h2⟩=>by
  have ih:=qJs h2;rw[kP] at ih;rw[kP,kP,kI];exact qJp ih ⟨h1,trivial⟩
theorem qSE {pts:List qA}:∀{w:List qA},qGW pts w->∀x,x+1<w.length->∀p∈pts,0<=cross (w.getD x du) (w.getD (x+1) du) p
 |[],_,x,h=>by simp at h
 |[_],_,x,h=>by simp at h
 |u::v::r,hl,0,_=>hl.1
 |u::v::r,hl,x+1,h=>by
  have:=qSE hl.2 x (by simpa using h);simpa using this
theorem qVA {l:List qA} {m:qA} (h:l.getLast? =some m):∃r,l.reverse=m::r:=by
 rw[List.getLast?_eq_head?_reverse] at h;cases hr:l.reverse with
 |nil=>rw[hr] at h;cases h
 |cons a r=>rw[hr] at h;cases h;exact⟨r,rfl⟩
theorem qSB {l:List qA} (h:l≠[]):∃m,l.getLast? =some m:=by
 cases hl:l.getLast? with
 |none=>exact absurd (List.getLast?_eq_none_iff.1 hl) h
 |some m=>exact⟨m,rfl⟩
theorem qSf {s:List qA} (hs:QH s) (h5:¬(chainR s).length+(chainR s.reverse).length<5):∃(m M:qA) (lo up:List qA),chainR s=M::lo/\chainR s.reverse=m::up/\m∈s/\M∈s/\(∀p∈s,p=m\/pLt m p)/\(∀p∈s,p=M\/pLt p M)/\pLt m M/\(∃r,lo.reverse=m::r)/\(∃r,up.reverse=M::r)/\hullOf s=lo.reverse++up.reverse:=by
 have hne:s≠[]:=λe=>by rw[e] at h5;simp[chainR] at h5
 have hi:=qCS hs;have hu:=qP7 hs;have l1:chainR s≠[]:=uq.1 (BZ hne);have l2:chainR s.reverse≠[]:=uq.1 (BZ (a:=s.reverse) (by simpa using hne));obtain⟨M,lo,e1⟩:=uX l1;obtain⟨m,up,e2⟩:=uX l2;obtain⟨m',f1⟩:=qSB l1;obtain⟨M',f2⟩:=qSB l2;have hM:M∈s:=hi.sub M (by rw[e1];exact kN);have hm:m∈s:=hu.sub m (by rw[e2];exact kN);have hM':M'∈s:=hu.sub M' (List.mem_of_getLast? f2);have hm':m'∈s:=hi.sub m' (List.mem_of_getLast? f1);have tM:=hi.top M lo e1;have tm:=hu.top m up e2;have bm:=hi.bot m' f1;have bM:=hu.bot M' f2;have em:m'=m:=by
  rcases bm m hm with h|h
  ·exact h.symm
  ·rcases tm m' hm' with h'|h'
   ·exact h'
   ·exact absurd h (pLt_asymm h')
 have eM:M'=M:=by
  rcases bM M hM with h|h
  ·exact h.symm
  ·rcases tM M' hM' with h'|h'
   ·exact h'
   ·exact absurd h (pLt_asymm h')
 subst em eM;have hlt:pLt m' M':=by
  rcases tm M' hM with h|h
  ·exfalso;have all:∀p∈s,p=m':=λp hp=>by
    rcases tm p hp with h1|h1
    ·exact h1
    ·rcases tM p hp with h2|h2
     ·rw[h2,h]
     ·rw[h] at h2;exact absurd h1 (pLt_asymm h2)
   have one:s.length<=1:=by
    match s,hs,all with
    |[],_,_=>simp
    |[_],_,_=>simp
    |a::b::r,hs,all=>
     have:=(kO.1 hs).1 b kN;rw[all a (by simp),all b (by simp)] at this;exact absurd this (pLt_irrefl _)
   have c1:=WR s;have c2:=WR s.reverse;rw[ur] at c2;omega
  ·exact h
 have g1:∃r,lo.reverse=m'::r:=by
  refine qVA ?_;rw[e1] at f1;cases lo with
  |nil=>simp at f1;rw[f1] at hlt;exact absurd hlt (pLt_irrefl _)
  |cons a r=>rw[gj] at f1;exact f1
 have g2:∃r,up.reverse=M'::r:=by
  refine qVA ?_;rw[e2] at f2;cases up with
  |nil=>simp at f2;rw[f2] at hlt;exact absurd hlt (pLt_irrefl _)
  |cons a r=>rw[gj] at f2;exact f2
 refine⟨m',M',lo,up,e1,e2,hm,hM,tm,tM,hlt,g1,g2,?_⟩;unfold hullOf;rw[if_neg h5,e1,e2];rfl
theorem qGx {s:List qA} (hs:QH s) (h5:¬(chainR s).length+(chainR s.reverse).length<5):3<=(hullOf s).length/\(∀p∈hullOf s,p∈s)/\∀x,x<(hullOf s).length->∀p∈s,0<=cross ((hullOf s).getD x du) ((hullOf s).getD ((x+1) % (hullOf s).length) du) p:=by
 obtain⟨m,M,lo,up,e1,e2,hm,hM,tm,tM,hlt,⟨r1,g1⟩,⟨r2,g2⟩,hH⟩:=qSf hs h5;have hi:=qCS hs;have hu:=qP7 hs;have L1:=qJs hi.left;have L2:=qJs hu.left;rw[e1,kP] at L1;rw[e2,kP,g2,uH] at L2;have LW:qGW s (lo.reverse++up.reverse++[m]):=by
  rw[kI,g2,uH];exact qJp L1 L2
 have hlen:(hullOf s).length=lo.length+up.length:=by rw[hH];simp
 have h3:3<=(hullOf s).length:=by
  have a1:(chainR s).length=lo.length+1:=by rw[e1];rfl
  have a2:(chainR s.reverse).length=up.length+1:=by rw[e2];rfl
  omega
 refine⟨h3,λp hp=>?_,λx hx p hp=>?_⟩
 ·rw[hH,ud,List.mem_reverse,List.mem_reverse] at hp;rcases hp with hp|hp
  ·exact hi.sub p (by rw[e1];exact kG _ hp)
  ·exact hu.sub p (by rw[e2];exact kG _ hp)
 ·have hw:=qSE LW x (by rw[<-hH];simp;omega) p hp;rw[<-hH] at hw;have w1:(hullOf s++[m]).getD x du=(hullOf s).getD x du:=by
   rw[ka,kD hx,<-ka]
  have w2:(hullOf s++[m]).getD (x+1) du=(hullOf s).getD ((x+1) % (hullOf s).length) du:=by
   by_cases hx1:x+1<(hullOf s).length
   ·rw[uL hx1,ka,kD hx1,<-ka]
   ·have:x+1=(hullOf s).length:=by omega
    rw[this,Nat.mod_self,ka,kA (ke _),db,hH,g1];rfl
  rw[w1,w2] at hw;exact hw
def qBi :List qA->Prop
 |u::v::w::r=>0<cross u v w/\qBi (v::w::r)
 |_=>True
theorem qCw {x y:qA}:∀{a b:List qA},qBi (a++[x,y])->qBi (x::y::b)->qBi (a++x::y::b)
 |[],_,_,h=>h
 |[_],_,h1,h2=>⟨h1.1,h2⟩
 |[_,_],_,h1,h2=>⟨h1.1,h1.2.1,h2⟩
 |_::v::w::a,b,h1,h2=>⟨h1.1,qCw (a:=v::w::a) h1.2 h2⟩
theorem qGb :∀{st:List qA},qCD st->qBi st.reverse
 |[],_=>trivial
 |[_],_=>trivial
 |[_,_],_=>trivial
 |c::t::s::r,⟨h1,h2⟩=>by
  have ih:=qGb h2;rw[kP,kP,kI] at ih;rw[kP,kP,kP,kI,kI];exact qCw ih ⟨h1,trivial⟩
theorem qPH :∀{w:List qA},qBi w->∀x,x+2<w.length->0<cross (w.getD x du) (w.getD (x+1) du) (w.getD (x+2) du)
 |[],_,x,h=>by simp at h
 |[_],_,x,h=>by simp at h
 |[_,_],_,x,h=>by simp only[uJ,gJ] at h;omega
 |u::v::w::r,hl,0,_=>hl.1
 |u::v::w::r,hl,x+1,h=>by
  have:=qPH hl.2 x (by simpa using h);simpa using this
theorem qU8 {s:List qA} (hs:QH s) (h5:¬(chainR s).length+(chainR s.reverse).length<5) {x y M:qA} {lo up:List qA} (e1:chainR s=M::x::lo) (e2:(chainR s.reverse).reverse=M::y::up):0<cross x M y:=by
 have hi:=qCS hs;have hu:=qP7 hs;have hl:=hi.left;rw[e1] at hl;have hd:=hi.desc;rw[e1] at hd;have hxM:pLt x M:=(kO.1 hd).1 x kN;have L2:=qJs hu.left;rw[e2] at L2;have hys:y∈s:=hu.sub y (by rw[<-List.mem_reverse,e2];simp);have htop:=hi.top M _ e1;have hyM:pLt y M:=by
  have ha:=hu.asc;have hr:(chainR s.reverse).reverse.Pairwise (λa b=>pLt b a):=gU.2 ha;rw[e2] at hr;exact(kO.1 hr).1 y kN
 rcases de (hl.1 y hys) with h|h
 ·exact h
 exfalso
 -- all points lie on one line
 have key:∀p∈s,pLt p M->(M.X-x.X)*(M.Y-p.Y)-(M.X-p.X)*(M.Y-x.Y)=0:=by
  intro p hp hpM;have q1:=hl.1 p hp;have q2:=L2.1 p hp;have a1:=CX (YA hxM) (YA hyM) (YA hpM) (by unfold cross at h;grind) (by unfold cross at q2;grind);unfold cross at q1;have e:(M.X-x.X)*(p.Y-x.Y)-(p.X-x.X)*(M.Y-x.Y)= -((M.X-x.X)*(M.Y-p.Y)-(M.X-p.X)*(M.Y-x.Y)):=by clear q1 q2 a1;grind
  omega
 have par:∀p q,p∈s->q∈s->pLt p M->pLt q M->(M.X-p.X)*(M.Y-q.Y)-(M.X-q.X)*(M.Y-p.Y)=0:=by
  intro p q hp hq hpM hqM;have k1:=key p hp hpM;have k2:=key q hq hqM;have b1:=CX (YA hpM) (YA hxM) (YA hqM) (by omega) (by omega);have b2:=CX (YA hqM) (YA hxM) (YA hpM) (by omega) (by omega);omega
 have c1:(chainR s).length<=2:=by
  rw[e1]
  match lo,e1 with
  |[],_=>simp
  |z::lo',e1=>
   have ht:=hi.turns;rw[e1] at ht;have hzs:z∈s:=hi.sub z (by rw[e1];simp);have hxs:x∈s:=hi.sub x (by rw[e1];simp);have hzM:pLt z M:=by
    have hd':=hi.desc;rw[e1] at hd';exact(kO.1 hd').1 z (by simp)
   have:=par z x hzs hxs hzM hxM;have t1:=ht.1;have e:cross z x M=(M.X-z.X)*(M.Y-x.Y)-(M.X-x.X)*(M.Y-z.Y):=by unfold cross;clear t1 this;grind
   omega
 have c2:(chainR s.reverse).length<=2:=by
  rw[<-ur,e2]
  match up,e2 with
  |[],_=>simp
  |z::up',e2=>
   have ht:=qGb hu.turns;rw[e2] at ht;have hzs:z∈s:=hu.sub z (by rw[<-List.mem_reverse,e2];simp);have hzM:pLt z M:=by
    have hr:(chainR s.reverse).reverse.Pairwise (λa b=>pLt b a):=gU.2 hu.asc;rw[e2] at hr;exact(kO.1 hr).1 z (by simp)
   have:=par y z hys hzs hyM hzM;have t1:=ht.1;have e:cross M y z=(M.X-y.X)*(M.Y-z.Y)-(M.X-z.X)*(M.Y-y.Y):=by unfold cross;clear t1 this;grind
   omega
 omega
theorem qZ1 {s:List qA} (hs:QH s) (h5:¬(chainR s).length+(chainR s.reverse).length<5) {x y m:qA} {lo up:List qA} (e1:chainR s.reverse=m::x::up) (e2:(chainR s).reverse=m::y::lo):0<cross x m y:=by
 have hs':QH (s.reverse.map ng):=List.pairwise_map.2 (gU.2 (hs.imp (λh=>qKK.2 h)));have c1:chainR (s.reverse.map ng)=ng m::ng x::up.map ng:=by rw[qFY,e1];rfl
 have c2:chainR (s.reverse.map ng).reverse=(chainR s).map ng:=by rw[<-List.map_reverse,List.reverse_reverse,qFY]
 have c3:(chainR (s.reverse.map ng).reverse).reverse=ng m::ng y::lo.map ng:=by rw[c2,<-List.map_reverse,e2];rfl
 have:=qU8 hs' (by rw[c2,qFY,gy,gy];omega) c1 c3
 rwa [qI4] at this
theorem qIE {l t:List qA} {x:Nat} (h:x<l.length):(l++t).getD x du=l.getD x du:=by rw[ka,kD h,<-ka]
theorem qJe {l t:List qA} (k:Nat):(l++t).getD (l.length+k) du=t.getD k du:=by rw[ka,kA (by omega),Nat.add_sub_cancel_left,<-ka]
theorem qXF {s:List qA} (hs:QH s) (h5:¬(chainR s).length+(chainR s.reverse).length<5):∀x,x<(hullOf s).length->0<cross ((hullOf s).getD x du) ((hullOf s).getD ((x+1) % (hullOf s).length) du) ((hullOf s).getD ((x+2) % (hullOf s).length) du):=by
 have h3:=(qGx hs h5).1;obtain⟨m,M,lo,up,e1,e2,hm,hM,tm,tM,hlt,⟨r1,g1⟩,⟨r2,g2⟩,hH⟩:=qSf hs h5;have hi:=qCS hs;have hu:=qP7 hs;have lone:lo≠[]:=λe=>by rw[e] at g1;simp at g1
 have upne:up≠[]:=λe=>by rw[e] at g2;simp at g2
 obtain⟨x0,lo',ex⟩:=uX lone;obtain⟨x1,up',ex'⟩:=uX upne;have T1:=qGb hi.turns;have T2:=qGb hu.turns;rw[e1,ex,kP,kP,kI] at T1
 -- the upper walk begins with M, y
 obtain⟨y,r3,ey⟩:∃y r3,(chainR s.reverse).reverse=M::y::r3:=by
  rw[e2,kP,g2,uH];cases r2 with
  |nil=>exact⟨m,[],rfl⟩
  |cons y r=>exact⟨y,r++[m],rfl⟩
 obtain⟨y',r4,ey'⟩:∃y r4,(chainR s).reverse=m::y::r4:=by
  rw[e1,kP,g1,uH];cases r1 with
  |nil=>exact⟨M,[],rfl⟩
  |cons y r=>exact⟨y,r++[M],rfl⟩
 have k1:=qU8 hs h5 (e1.trans (by rw[ex])) ey;have k2:=qZ1 hs h5 (e2.trans (by rw[ex'])) ey';rw[ey] at T2;have W1:qBi (lo'.reverse++x0::M::y::r3):=qCw T1 ⟨k1,T2⟩;have eW:lo'.reverse++x0::M::y::r3=hullOf s++[m]:=by
  rw[hH,ex,kP,kI,kI]
  congr 1
  show x0::M::y::r3=x0::(up.reverse++[m])
  congr 1
  rw[<-ey,e2,kP]
 have eH:∃q,hullOf s=q++[x1]:=⟨lo.reverse++up'.reverse,by rw[hH,ex',kP,kI]⟩
 obtain⟨q,hq⟩:=eH;rw[eW] at W1;have W2:qBi (hullOf s++[m,y']):=by
  rw[hq,kI] at W1⊢;exact qCw W1 ⟨k2,trivial⟩
 have h0:(hullOf s).getD 0 du=m:=by rw[hH,g1];rfl
 have h1:(hullOf s).getD 1 du=y':=by
  have:(hullOf s)=(lo.reverse++[M])++r2:=by rw[hH,g2,kI];rfl
  have hlr:lo.reverse++[M]=m::y'::r4:=by rw[<-ey',e1,kP]
  rw[this,hlr];rfl
 intro x hx;have w:=qPH W2 x (by simp;omega);rw[qIE hx] at w;have a1:(hullOf s++[m,y']).getD (x+1) du=(hullOf s).getD ((x+1) % (hullOf s).length) du:=by
  by_cases hx1:x+1<(hullOf s).length
  ·rw[uL hx1,qIE hx1]
  ·have e:x+1=(hullOf s).length:=by omega
   rw[e,Nat.mod_self,h0];exact qJe 0
 have a2:(hullOf s++[m,y']).getD (x+2) du=(hullOf s).getD ((x+2) % (hullOf s).length) du:=by
  by_cases hx1:x+2<(hullOf s).length
  ·rw[uL hx1,qIE hx1]
  ·by_cases hx2:x+2=(hullOf s).length
   ·rw[hx2,Nat.mod_self,h0];exact qJe 0
   ·have e:x+2=(hullOf s).length+1:=by omega
    rw[e,Nat.add_mod_left,uL (by omega),h1];exact qJe 1
 rw[a1,a2] at w;exact w
theorem qPc (a b:Int) (hb:0<b):Int.tmod a b+b*Int.tdiv a b=a/\Int.tmod a b<b/\-b<Int.tmod a b/\(Int.tdiv a b).natAbs<=a.natAbs:=by
 refine⟨Int.tmod_add_mul_tdiv a b,uP a hb,?_,?_⟩
 ·rcases gS 0 a with h|h
  ·have:=gI b h;omega
  ·have h3:=uP (-a) hb;rw[Int.neg_tmod] at h3;omega
 ·rw[Int.natAbs_tdiv];exact Nat.div_le_self _ _
theorem qLL {a b q r:Int} (hb:0<b) (h:r+b*q=a) (h0:0<=r) (h1:r<b):a/b=q:=(Int.ediv_emod_unique hb).2 ⟨h,h0,h1⟩|>.1
theorem qTS (a b:Int) (hb:0<b) (h1: -4611686018427387904<=a) (h2:a<=4611686018427387904):SV a b=some (a/b):=by
 obtain⟨e,l,g,n⟩:=qPc a b hb;unfold SV IX;rw[nz_t (by omega),w64_o (n:=Int.tdiv a b) (by omega)];by_cases h:Int.tmod a b<0
 ·rw[ki h,w64_o (by omega)];have:a/b=Int.tdiv a b-1:=qLL hb (r:=Int.tmod a b+b) (by rw[gL,Int.mul_one];omega) (by omega) (by omega);rw[this];rfl
 ·rw[kf h];have:a/b=Int.tdiv a b:=qLL hb (r:=Int.tmod a b) e (by omega) l;rw[this];rfl
theorem qKu (a b:Int) (hb:0<b) (h3:b<=4611686018427387904) (h1: -4611686018427387904<=a) (h2:a<=4611686018427387904):qCy a b=some (a/b):=by
 obtain⟨e,l,g,n⟩:=qPc a b hb;have hc:Int.tdiv a b*b=b*Int.tdiv a b:=Int.mul_comm _ _;unfold qCy qBr;rw[nz_t (by omega),w64_o (n:=Int.tdiv a b) (by omega),w64_o (n:=Int.tdiv a b*b) (by omega)];by_cases h:Int.tmod a b<0
 ·rw[ki (by omega),w64_o (by omega)];have:a/b=Int.tdiv a b-1:=qLL hb (r:=Int.tmod a b+b) (by rw[gL,Int.mul_one];omega) (by omega) (by omega);rw[this];rfl
 ·rw[kf (by omega)];have:a/b=Int.tdiv a b:=qLL hb (r:=Int.tmod a b) e (by omega) l;rw[this];rfl
def upB (p q:qA) (y:Int):Int:=p.X+(q.X-p.X)*(y-p.Y)/(q.Y-p.Y)
def dnB (p q:qA) (y:Int):Int:=p.X-(q.X-p.X)*(y-p.Y)/(p.Y-q.Y)
theorem qCp {p q:qA} (h:p.Y<q.Y) (X y:Int):X<=upB p q y↔0<=cross p q ⟨X,y⟩:=by
 unfold upB cross;have:=Int.le_ediv_iff_mul_le (a:=X-p.X) (b:=(q.X-p.X)*(y-p.Y)) (show 0<q.Y-p.Y by omega);constructor
 ·intro h1;have h2:=this.1 (by omega);simp only;omega
 ·intro h1;have h2:=this.2 (by simp only at h1;omega);omega
theorem qBG {p q:qA} (h:q.Y<p.Y) (X y:Int):dnB p q y<=X↔0<=cross p q ⟨X,y⟩:=by
 unfold dnB cross;have:=Int.le_ediv_iff_mul_le (a:=p.X-X) (b:=(q.X-p.X)*(y-p.Y)) (show 0<p.Y-q.Y by omega);have e:(p.X-X)*(p.Y-q.Y)=(X-p.X)*(q.Y-p.Y):=by grind
 rw[e] at this;constructor
 ·intro h1;have h2:=this.1 (by omega);simp only;omega
 ·intro h1;have h2:=this.2 (by simp only at h1;omega);omega
theorem dnB_eq {p q:qA} (h:q.Y<p.Y) (y:Int):q.X-(q.X-p.X)*(y-q.Y)/(p.Y-q.Y)=dnB p q y:=by
 unfold dnB;have e:(q.X-p.X)*(y-q.Y)=(q.X-p.X)*(y-p.Y)+(q.X-p.X)*(p.Y-q.Y):=by grind
 rw[e,Int.add_mul_ediv_right _ _ (by omega)];omega
theorem up_up {p q u v:qA} {y:Int} (hpq:p.Y<q.Y) (hy1:p.Y<=y) (hy2:y<=q.Y) (huv:u.Y<v.Y) (h1:0<=cross u v p) (h2:0<=cross u v q):upB p q y<=upB u v y:=by
 rw[qCp huv];have hb:=(qCp hpq (upB p q y) y).1 (kX _);generalize upB p q y=X at hb;have hD:0<q.Y-p.Y:=by omega
 have key:(q.Y-p.Y)*cross u v ⟨X,y⟩=(q.Y-y)*cross u v p+(y-p.Y)*cross u v q+(v.Y-u.Y)*cross p q ⟨X,y⟩:=by unfold cross;grind
 have a1:=kC (show 0<=q.Y-y by omega) h1;have a2:=kC (show 0<=y-p.Y by omega) h2;have a3:=kC (show 0<=v.Y-u.Y by omega) hb;have:0<=(q.Y-p.Y)*cross u v ⟨X,y⟩:=by rw[key];omega
 exact Int.nonneg_of_mul_nonneg_right this hD
theorem dn_dn {p q u v:qA} {y:Int} (hpq:q.Y<p.Y) (hy1:q.Y<=y) (hy2:y<=p.Y) (huv:v.Y<u.Y) (h1:0<=cross u v p) (h2:0<=cross u v q):dnB u v y<=dnB p q y:=by
 rw[qBG huv];have hb:=(qBG hpq (dnB p q y) y).1 (kX _);generalize dnB p q y=X at hb;have hD:0<p.Y-q.Y:=by omega
 have key:(p.Y-q.Y)*cross u v ⟨X,y⟩=(y-q.Y)*cross u v p+(p.Y-y)*cross u v q+(u.Y-v.Y)*cross p q ⟨X,y⟩:=by unfold cross;grind
 have a1:=kC (show 0<=y-q.Y by omega) h1;have a2:=kC (show 0<=p.Y-y by omega) h2;have a3:=kC (show 0<=u.Y-v.Y by omega) hb;have:0<=(p.Y-q.Y)*cross u v ⟨X,y⟩:=by rw[key];omega
 exact Int.nonneg_of_mul_nonneg_right this hD
theorem qP6 {N D:Int} (hD:0<D) (h1: -1440000<=N) (h2:N<=1440000): -1440000<=N/D/\N/D<=1440000:=by
 constructor
 ·rw[Int.le_ediv_iff_mul_le hD];have:=Int.mul_le_mul_of_nonneg_left (a:= -1440000) (b:=0) (c:=D-1) (by decide) (by omega);have e:(-1440000)*D=(D-1)*(-1440000)+(-1440000):=by grind
  omega
 ·have:=Int.ediv_lt_of_lt_mul (a:=N) (b:=1440001) hD (by
   have:=kC (show(0:Int)<=1440001 by decide) (show 0<=D-1 by omega);have e:1440001*D=1440001*(D-1)+1440001:=by grind
   omega)
  omega
def pstep (p q:qA) (y:Int) (r:Int×Int):Int×Int:=
 if p.Y<q.Y/\p.Y<=y/\y<=q.Y then(r.1,upB p q y) else if q.Y<p.Y/\q.Y<=y/\y<=p.Y then(dnB p q y,r.2) else r
def pS (H:List qA) (y:Int):Nat->Nat->Int×Int->Int×Int
 |_,0,r=>r
 |x,m+1,r=>pS H y (x+1) m (pstep (H.getD x du) (H.getD ((x+1) % H.length) du) y r)
def qCF (p q:qA) (y:Int) (r:Int×Int):Option (Int×Int):=
 if p.Y<q.Y then some (r.1,imin r.2 (upB p q y)) else if q.Y<p.Y then some (imax r.1 (dnB p q y),r.2) else if(q.X-p.X)*(y-p.Y)<0 then none else some r
def rS (H:List qA) (y:Int):Nat->Nat->Int×Int->(Int×Int)⊕(Int×Int)
 |_,0,r=> .inr r
 |x,m+1,r=>match qCF (H.getD x du) (H.getD ((x+1) % H.length) du) y r with
  |some r'=>rS H y (x+1) m r'
  |none=> .inl (1,0)
theorem num_b {p q:qA} {y:Int} (hp:rng p) (hq:rng q) (hy: -600<=y/\y<=600): -1440000<=(q.X-p.X)*(y-p.Y)/\(q.X-p.X)*(y-p.Y)<=1440000:=by
 obtain⟨⟨p1,p2⟩,p3,p4⟩:=hp;obtain⟨⟨q1,q2⟩,q3,q4⟩:=hq;exact qGs (m:=1200) (n:=1200) (by omega) (by omega) (by omega) (by omega) (by decide) (by decide)
theorem qMT (H:List qA) (y:Int) (hr:∀p∈H,rng p) (hy: -600<=y/\y<=600) (hl:H.length<=1000000):∀(m n x:Nat) (lo hi:Int),x+m=H.length->m<n->WU H y n lo hi (x:Int)=some (rS H y x m (lo,hi))
 |_,0,x,_,_,_,hn=>by omega
 |0,n+1,x,lo,hi,hx,_=>by
  unfold WU rS;rw[lt_f (by omega)];rfl
 |m+1,n+1,x,lo,hi,hx,hn=>by
  have hlen:0<H.length:=by omega
  have hyy:(x+1) % H.length<H.length:=kK _ hlen;have hnx:=qT0 hlen (show x<4611686018427387904 by omega);obtain⟨p,hpx⟩:∃p,H.getD x du=p:=⟨_,rfl⟩
  obtain⟨q,hqx⟩:∃q,H.getD ((x+1) % H.length) du=q:=⟨_,rfl⟩
  have hpx':H.getD (x:Int).toNat du=p:=by rw[kg];exact hpx
  have hqx':H.getD (Int.tmod (w64 ((x:Int)+1)) (H.length:Int)).toNat du=q:=by rw[hnx,kg];exact hqx
  have hp:rng p:=by rw[<-hpx];exact hr _ (wJ (by omega))
  have hq:rng q:=by rw[<-hqx];exact hr _ (wJ hyy)
  have ih:=λlo hi=>qMT H y hr hy hl m n (x+1) lo hi (by omega) (by omega);have hi':inb (Int.tmod (w64 ((x:Int)+1)) (H.length:Int)) H.length=true:=by rw[hnx];exact zR (by omega)
  have hinc:w64 ((x:Int)+1)=((x+1:Nat):Int):=wH (by omega);have nb:=num_b hp hq hy;have hp':=hp;have hq':=hq;obtain⟨⟨p1,p2⟩,p3,p4⟩:=hp';obtain⟨⟨q1,q2⟩,q3,q4⟩:=hq';unfold WU rS;rw[lt_t (by omega),zR (i:=(x:Int)) (by omega),nz_t (by omega),hi',hpx',hqx',hpx,hqx];simp only[kp];rw[w64_o (n:=q.Y-p.Y) (by omega),w64_o (n:=q.X-p.X) (by omega),w64_o (n:=y-p.Y) (by omega),w64_o (n:=(q.X-p.X)*(y-p.Y)) (by omega)];unfold qCF MD;by_cases h1:p.Y<q.Y
  ·have eb:=qP6 (show 0<q.Y-p.Y by omega) nb.1 nb.2;rw[ki (show q.Y-p.Y>0 by omega),if_pos h1,qKu _ _ (by omega) (by omega) (by omega) (by omega)];simp only[kp,kd];rw[w64_o (n:=p.X+_) (by omega),hinc,ih];rfl
  ·rw[kf (show¬q.Y-p.Y>0 by omega),if_neg h1];by_cases h2:q.Y<p.Y
   ·have eb:=qP6 (show 0<p.Y-q.Y by omega) nb.1 nb.2;have e5:w64 (0-(q.Y-p.Y))=p.Y-q.Y:=(w64_o (n:=0-(q.Y-p.Y)) (by omega)).trans (by omega);rw[ki (show q.Y-p.Y<0 by omega),if_pos h2,e5,qKu _ (p.Y-q.Y) (by omega) (by omega) (by omega) (by omega)];simp only[kp,kv,kd];rw[w64_o (n:=p.X-_) (by omega),hinc,ih];rfl
   ·rw[kf (show¬q.Y-p.Y<0 by omega),if_neg h2];simp only[kv];by_cases h3:(q.X-p.X)*(y-p.Y)<0
    ·rw[ki h3,if_pos h3];rfl
    ·rw[kf h3,if_neg h3,hinc];simp only[kv];exact ih lo hi
theorem qPk (H:List qA) (y:Int) (hr:∀p∈H,rng p) (hy: -600<=y/\y<=600) (hl:H.length<=1000000):∀(m n x:Nat) (r:Int×Int),x+m=H.length->m<n->jI y H n r.1 r.2 (x:Int)=some (pS H y x m r)
 |_,0,x,_,_,hn=>by omega
 |0,n+1,x,r,hx,_=>by
  unfold jI pS;rw[lt_f (by omega)];rfl
 |m+1,n+1,x,r,hx,hn=>by
  have hlen:0<H.length:=by omega
  have hyy:(x+1) % H.length<H.length:=kK _ hlen;have hnx:=qT0 hlen (show x<4611686018427387904 by omega);obtain⟨p,hpx⟩:∃p,H.getD x du=p:=⟨_,rfl⟩
  obtain⟨q,hqx⟩:∃q,H.getD ((x+1) % H.length) du=q:=⟨_,rfl⟩
  have hpx':H.getD (x:Int).toNat du=p:=by rw[kg];exact hpx
  have hqx':H.getD (Int.tmod (w64 ((x:Int)+1)) (H.length:Int)).toNat du=q:=by rw[hnx,kg];exact hqx
  have hp:rng p:=by rw[<-hpx];exact hr _ (wJ (by omega))
  have hq:rng q:=by rw[<-hqx];exact hr _ (wJ hyy)
  have ih:=λr=>qPk H y hr hy hl m n (x+1) r (by omega) (by omega);have hi':inb (Int.tmod (w64 ((x:Int)+1)) (H.length:Int)) H.length=true:=by rw[hnx];exact zR (by omega)
  have hinc:w64 ((x:Int)+1)=((x+1:Nat):Int):=wH (by omega);have nb:=num_b hp hq hy;have nb2:=num_b hq hp hy;have hp':=hp;have hq':=hq;obtain⟨⟨p1,p2⟩,p3,p4⟩:=hp';obtain⟨⟨q1,q2⟩,q3,q4⟩:=hq';have nb3: -1440000<=(q.X-p.X)*(y-q.Y)/\(q.X-p.X)*(y-q.Y)<=1440000:=by
   have e:(q.X-p.X)*(y-q.Y)= -((p.X-q.X)*(y-q.Y)):=by clear nb nb2;grind
   omega
  unfold jI pS;rw[lt_t (by omega),zR (i:=(x:Int)) (by omega),nz_t (by omega),hi'];unfold UG UJ VK;rw[hpx',hqx',hpx,hqx];simp only[kp];rw[w64_o (n:=q.Y-p.Y) (by omega),w64_o (n:=p.Y-q.Y) (by omega),w64_o (n:=q.X-p.X) (by omega),w64_o (n:=y-p.Y) (by omega),w64_o (n:=y-q.Y) (by omega),w64_o (n:=(q.X-p.X)*(y-p.Y)) (by omega),w64_o (n:=(q.X-p.X)*(y-q.Y)) (by omega),hinc];unfold pstep;by_cases h1:p.Y<q.Y
  ·have h1':¬p.Y>q.Y:=by omega
   have h1'':¬q.Y<p.Y:=by omega
   have eb:=qP6 (show 0<q.Y-p.Y by omega) nb.1 nb.2;rw[qTS _ (q.Y-p.Y) (by omega) (by omega) (by omega)];by_cases h2:p.Y<=y
   ·by_cases h3:y<=q.Y
    ·rw[if_pos ⟨h1,h2,h3⟩];simp only[h1,h2,h3,decide_true,kp,kd];rw[w64_o (n:=p.X+_) (by omega)];exact ih (r.1,upB p q y)
    ·rw[if_neg (by omega),if_neg (by omega)];simp only[h1,h2,h3,h1',h1'',decide_true,decide_false,kp,kv];exact ih r
   ·rw[if_neg (by omega),if_neg (by omega)];simp only[h1,h2,h1',h1'',decide_true,decide_false,kp,kv];exact ih r
  ·by_cases h2:q.Y<p.Y
   ·have h2':p.Y>q.Y:=h2;have eb:=qP6 (show 0<p.Y-q.Y by omega) nb3.1 nb3.2;rw[qTS _ (p.Y-q.Y) (by omega) (by omega) (by omega)];by_cases h3:q.Y<=y
    ·by_cases h4:y<=p.Y
     ·rw[if_neg (by omega),if_pos ⟨h2,h3,h4⟩,<-dnB_eq h2 y];simp only[h1,h2',h3,h4,decide_true,decide_false,kp,kv,kd];rw[w64_o (n:=q.X-_) (by omega)];exact ih (q.X-(q.X-p.X)*(y-q.Y)/(p.Y-q.Y),r.2)
     ·rw[if_neg (by omega),if_neg (by omega)];simp only[h1,h2',h3,h4,decide_true,decide_false,kp,kv];exact ih r
    ·rw[if_neg (by omega),if_neg (by omega)];simp only[h1,h2',h3,decide_true,decide_false,kp,kv];exact ih r
   ·have h2':¬p.Y>q.Y:=h2;rw[if_neg (by omega),if_neg (by omega)];simp only[h1,h2',decide_false,kv];exact ih r
abbrev spU (p q:qA) (y:Int):Prop:=p.Y<q.Y/\p.Y<=y/\y<=q.Y
abbrev spD (p q:qA) (y:Int):Prop:=q.Y<p.Y/\q.Y<=y/\y<=p.Y
theorem pS_up (H:List qA) (y:Int):∀(m x:Nat) (r:Int×Int),((pS H y x m r).2=r.2/\∀j,x<=j->j<x+m->¬spU (H.getD j du) (H.getD ((j+1) % H.length) du) y)\/∃j,x<=j/\j<x+m/\spU (H.getD j du) (H.getD ((j+1) % H.length) du) y/\(pS H y x m r).2=upB (H.getD j du) (H.getD ((j+1) % H.length) du) y
 |0,x,r=> .inl ⟨rfl,λj h1 h2=>by omega⟩
 |m+1,x,r=>by
  unfold pS;rcases pS_up H y m (x+1) (pstep (H.getD x du) (H.getD ((x+1) % H.length) du) y r) with⟨h1,h2⟩|⟨j,h1,h2,h3,h4⟩
  ·by_cases hs:spU (H.getD x du) (H.getD ((x+1) % H.length) du) y
   ·refine .inr ⟨x,ke _,by omega,hs,?_⟩;rw[h1];unfold pstep;rw[if_pos hs]
   ·refine .inl ⟨?_,λj hj1 hj2=>?_⟩
    ·rw[h1];unfold pstep;rw[if_neg hs];split<;>rfl
    ·by_cases hjx:j=x
     ·subst hjx;exact hs
     ·exact h2 j (by omega) (by omega)
  ·exact .inr ⟨j,by omega,by omega,h3,h4⟩
theorem pS_dn (H:List qA) (y:Int):∀(m x:Nat) (r:Int×Int),((pS H y x m r).1=r.1/\∀j,x<=j->j<x+m->¬spD (H.getD j du) (H.getD ((j+1) % H.length) du) y)\/∃j,x<=j/\j<x+m/\spD (H.getD j du) (H.getD ((j+1) % H.length) du) y/\(pS H y x m r).1=dnB (H.getD j du) (H.getD ((j+1) % H.length) du) y
 |0,x,r=> .inl ⟨rfl,λj h1 h2=>by omega⟩
 |m+1,x,r=>by
  unfold pS;rcases pS_dn H y m (x+1) (pstep (H.getD x du) (H.getD ((x+1) % H.length) du) y r) with⟨h1,h2⟩|⟨j,h1,h2,h3,h4⟩
  ·by_cases hs:spD (H.getD x du) (H.getD ((x+1) % H.length) du) y
   ·refine .inr ⟨x,ke _,by omega,hs,?_⟩;rw[h1];unfold pstep;rw[if_neg (by omega),if_pos hs]
   ·refine .inl ⟨?_,λj hj1 hj2=>?_⟩
    ·rw[h1];unfold pstep;rw[if_neg hs];split<;>rfl
    ·by_cases hjx:j=x
     ·subst hjx;exact hs
     ·exact h2 j (by omega) (by omega)
  ·exact .inr ⟨j,by omega,by omega,h3,h4⟩
abbrev Ep (H:List qA) (j:Nat):qA:=H.getD j du
abbrev Eq' (H:List qA) (j:Nat):qA:=H.getD ((j+1) % H.length) du
def bad (p q:qA) (y:Int):Prop:=¬p.Y<q.Y/\¬q.Y<p.Y/\(q.X-p.X)*(y-p.Y)<0
theorem qXk {a b X:Int}:X<=imin a b↔X<=a/\X<=b:=by unfold imin;split<;>omega
theorem qXx {a b X:Int}:imax a b<=X↔a<=X/\b<=X:=by unfold imax;split<;>omega
theorem rS_spec (H:List qA) (y:Int):∀(m x:Nat) (r:Int×Int),
  ((∃j,x<=j/\j<x+m/\bad (Ep H j) (Eq' H j) y)/\rS H y x m r= .inl (1,0))\/
  ((∀j,x<=j->j<x+m->¬bad (Ep H j) (Eq' H j) y)/\∃r',rS H y x m r= .inr r'/\(∀X,r'.1<=X↔r.1<=X/\∀j,x<=j->j<x+m->(Eq' H j).Y<(Ep H j).Y->dnB (Ep H j) (Eq' H j) y<=X)/\(∀X,X<=r'.2↔X<=r.2/\∀j,x<=j->j<x+m->(Ep H j).Y<(Eq' H j).Y->X<=upB (Ep H j) (Eq' H j) y))
 |0,x,r=> .inr ⟨λj h1 h2=>by omega,r,rfl,λX=>⟨λh=>⟨h,λj h1 h2=>by omega⟩,λh=>h.1⟩,λX=>⟨λh=>⟨h,λj h1 h2=>by omega⟩,λh=>h.1⟩⟩
 |m+1,x,r=>by
  have all:∀{P:Nat->Prop},(∀j,x<=j->j<x+(m+1)->P j)↔P x/\∀j,x+1<=j->j<x+1+m->P j:=fun{P}=>
   ⟨λh=>⟨h x (ke _) (by omega),λj h1 h2=>h j (by omega) (by omega)⟩,λh j h1 h2=>by
    by_cases hj:j=x
    ·subst hj;exact h.1
    ·exact h.2 j (by omega) (by omega)⟩
  unfold rS;by_cases h1:(Ep H x).Y<(Eq' H x).Y
  ·have e:qCF (Ep H x) (Eq' H x) y r=some (r.1,imin r.2 (upB (Ep H x) (Eq' H x) y)):=by unfold qCF;rw[if_pos h1]
   rw[e];rcases rS_spec H y m (x+1) (r.1,imin r.2 (upB (Ep H x) (Eq' H x) y)) with⟨⟨j,j1,j2,j3⟩,h⟩|⟨h,r',e',h2,h3⟩
   ·exact .inl ⟨⟨j,by omega,by omega,j3⟩,h⟩
   ·refine .inr ⟨all.2 ⟨λhb=>hb.1 h1,h⟩,r',e',λX=>?_,λX=>?_⟩
    ·rw[h2 X,all];exact⟨fun⟨a,b⟩=>⟨a,λhh=>by omega,b⟩,fun⟨a,_,b⟩=>⟨a,b⟩⟩
    ·rw[h3 X,all,qXk];exact⟨fun⟨⟨a,a'⟩,b⟩=>⟨a,λ_=>a',b⟩,fun⟨a,a',b⟩=>⟨⟨a,a' h1⟩,b⟩⟩
  ·by_cases h2:(Eq' H x).Y<(Ep H x).Y
   ·have e:qCF (Ep H x) (Eq' H x) y r=some (imax r.1 (dnB (Ep H x) (Eq' H x) y),r.2):=by unfold qCF;rw[if_neg h1,if_pos h2]
    rw[e];rcases rS_spec H y m (x+1) (imax r.1 (dnB (Ep H x) (Eq' H x) y),r.2) with⟨⟨j,j1,j2,j3⟩,h⟩|⟨h,r',e',h3,h4⟩
    ·exact .inl ⟨⟨j,by omega,by omega,j3⟩,h⟩
    ·refine .inr ⟨all.2 ⟨λhb=>hb.2.1 h2,h⟩,r',e',λX=>?_,λX=>?_⟩
     ·rw[h3 X,all,qXx];exact⟨fun⟨⟨a,a'⟩,b⟩=>⟨a,λ_=>a',b⟩,fun⟨a,a',b⟩=>⟨⟨a,a' h2⟩,b⟩⟩
     ·rw[h4 X,all];exact⟨fun⟨a,b⟩=>⟨a,λhh=>absurd hh h1,b⟩,fun⟨a,_,b⟩=>⟨a,b⟩⟩
   ·by_cases h3:((Eq' H x).X-(Ep H x).X)*(y-(Ep H x).Y)<0
    ·have e:qCF (Ep H x) (Eq' H x) y r=none:=by unfold qCF;rw[if_neg h1,if_neg h2,if_pos h3]
     rw[e];exact .inl ⟨⟨x,ke _,by omega,h1,h2,h3⟩,rfl⟩
    ·have e:qCF (Ep H x) (Eq' H x) y r=some r:=by unfold qCF;rw[if_neg h1,if_neg h2,if_neg h3]
     rw[e];rcases rS_spec H y m (x+1) r with⟨⟨j,j1,j2,j3⟩,h⟩|⟨h,r',e',h4,h5⟩
     ·exact .inl ⟨⟨j,by omega,by omega,j3⟩,h⟩
     ·refine .inr ⟨all.2 ⟨λhb=>h3 hb.2.2,h⟩,r',e',λX=>?_,λX=>?_⟩
      ·rw[h4 X,all];exact⟨fun⟨a,b⟩=>⟨a,λhh=>absurd hh h2,b⟩,fun⟨a,_,b⟩=>⟨a,b⟩⟩
      ·rw[h5 X,all];exact⟨fun⟨a,b⟩=>⟨a,λhh=>absurd hh h1,b⟩,fun⟨a,_,b⟩=>⟨a,b⟩⟩
theorem qHI {n:Nat} {P:Nat->Prop} {i:Nat} (hi:i<n) (h0:P i) (hs:∀x,x<n->P x->P ((x+1) % n)):∀x,x<n->P x:=by
 have step:∀k,P ((i+k) % n):=by
  intro k
  induction k with
  |zero=>rw[kY,uL hi];exact h0
  |succ k ih=>
   have:=hs _ (kK _ (by omega)) ih;rw[uS] at this;exact this
 intro x hx;by_cases h:i<=x
 ·have:=step (x-i);rw[show i+(x-i)=x by omega,uL hx] at this;exact this
 ·have:=step (n-i+x);rw[show i+(n-i+x)=n+x by omega,Nat.add_mod_left,uL hx] at this;exact this
structure Cvx (H:List qA):Prop where
 n3:3<=H.length
 rg:∀p∈H,rng p
 lf:∀x,x<H.length->∀p∈H,0<=cross (Ep H x) (Eq' H x) p
 tn:∀x,x<H.length->0<cross (Ep H x) (Eq' H x) (Ep H ((x+2) % H.length))
theorem AY {H:List qA} {p:qA} (h:p∈H):∃x,x<H.length/\Ep H x=p:=by
 obtain⟨x,hx,e⟩:=uK.1 h;exact⟨x,hx,by rw[Ep,qJd hx];exact e⟩
theorem qNg {H:List qA} (hc:Cvx H) (c:Int):¬∀p∈H,p.Y=c:=by
 intro h;have hn:=hc.n3;have t:=hc.tn 0 (by omega);have y0:=h (Ep H 0) (wJ (by omega));have y1:=h (Eq' H 0) (wJ (kK _ (by omega)));have y2:=h (Ep H ((0+2) % H.length)) (wJ (kK _ (by omega)));unfold cross at t;rw[y0,y1,y2] at t;simp at t
theorem qRv {H:List qA} (hc:Cvx H) {y:Int} {a b:qA} (ha:a∈H) (hb:b∈H) (h1:a.Y<=y) (h2:y<=b.Y):∃j,j<H.length/\spU (Ep H j) (Eq' H j) y:=by
 refine Classical.byContradiction λhno=>?_;have no:∀j,j<H.length->¬spU (Ep H j) (Eq' H j) y:=λj hj hs=>hno ⟨j,hj,hs⟩;by_cases hlow:∃p∈H,p.Y<y
 ·obtain⟨p,hp,hpy⟩:=hlow;obtain⟨i,hi,e⟩:=AY hp;have:=qHI (P:=λx=>(Ep H x).Y<y) hi (by rw[e];exact hpy) (λx hx hx'=>by
   have h3:¬((Ep H x).Y<(Eq' H x).Y/\(Ep H x).Y<=y/\y<=(Eq' H x).Y):=no x hx;have h4:(Ep H x).Y<y:=hx';show(Eq' H x).Y<y;omega)
  obtain⟨k,hk,e'⟩:=AY hb;have:=this k hk;simp only[e'] at this;omega
 ·have hall:∀p∈H,y<=p.Y:=λp hp=>by
   rcases Int.lt_or_le p.Y y with h|h
   ·exact absurd ⟨p,hp,h⟩ hlow
   ·exact h
  have hay:a.Y=y:=by have:=hall a ha;omega
  obtain⟨i,hi,e⟩:=AY ha;have:=qHI (P:=λx=>(Ep H x).Y=y) hi (by rw[e];exact hay) (λx hx hx'=>by
   have h3:¬((Ep H x).Y<(Eq' H x).Y/\(Ep H x).Y<=y/\y<=(Eq' H x).Y):=no x hx;have h4:y<=(Eq' H x).Y:=hall (Eq' H x) (wJ (kK _ (by omega)));have h5:(Ep H x).Y=y:=hx';show(Eq' H x).Y=y;omega)
  refine qNg hc y (λp hp=>?_);obtain⟨k,hk,e'⟩:=AY hp;rw[<-e'];exact this k hk
theorem qRJ {H:List qA} (hc:Cvx H) {y:Int} {a b:qA} (ha:a∈H) (hb:b∈H) (h1:a.Y<=y) (h2:y<=b.Y):∃j,j<H.length/\spD (Ep H j) (Eq' H j) y:=by
 refine Classical.byContradiction λhno=>?_;have no:∀j,j<H.length->¬spD (Ep H j) (Eq' H j) y:=λj hj hs=>hno ⟨j,hj,hs⟩;by_cases hhi:∃p∈H,y<p.Y
 ·obtain⟨p,hp,hpy⟩:=hhi;obtain⟨i,hi,e⟩:=AY hp;have:=qHI (P:=λx=>y<(Ep H x).Y) hi (by rw[e];exact hpy) (λx hx hx'=>by
   have h3:¬((Eq' H x).Y<(Ep H x).Y/\(Eq' H x).Y<=y/\y<=(Ep H x).Y):=no x hx;have h4:y<(Ep H x).Y:=hx';show y<(Eq' H x).Y;omega)
  obtain⟨k,hk,e'⟩:=AY ha;have:=this k hk;simp only[e'] at this;omega
 ·have hall:∀p∈H,p.Y<=y:=λp hp=>by
   rcases Int.lt_or_le y p.Y with h|h
   ·exact absurd ⟨p,hp,h⟩ hhi
   ·exact h
  have hby:b.Y=y:=by have:=hall b hb;omega
  obtain⟨i,hi,e⟩:=AY hb;have:=qHI (P:=λx=>(Ep H x).Y=y) hi (by rw[e];exact hby) (λx hx hx'=>by
   have h3:¬((Eq' H x).Y<(Ep H x).Y/\(Eq' H x).Y<=y/\y<=(Ep H x).Y):=no x hx;have h4:(Eq' H x).Y<=y:=hall (Eq' H x) (wJ (kK _ (by omega)));have h5:(Ep H x).Y=y:=hx';show(Eq' H x).Y=y;omega)
  refine qNg hc y (λp hp=>?_);obtain⟨k,hk,e'⟩:=AY hp;rw[<-e'];exact this k hk
theorem no_bad {H:List qA} (hc:Cvx H) {y:Int} {a b:qA} (ha:a∈H) (hb:b∈H) (h1:a.Y<=y) (h2:y<=b.Y) {j:Nat} (hj:j<H.length):¬bad (Ep H j) (Eq' H j) y:=by
 rintro⟨n1,n2,n3⟩;have la:=hc.lf j hj a ha;have lb:=hc.lf j hj b hb;generalize Ep H j=p at*;generalize Eq' H j=q at*;have hy:q.Y-p.Y=0:=by omega
 unfold cross at la lb;rw[hy,Int.mul_zero] at la lb;rcases Int.lt_trichotomy (q.X-p.X) 0 with h|h|h
 ·have:0<=(q.X-p.X)*(y-b.Y):=by
   have:=kC (show 0<=-(q.X-p.X) by omega) (show 0<=b.Y-y by omega);have e: -(q.X-p.X)*(b.Y-y)=(q.X-p.X)*(y-b.Y):=by grind
   omega
  have e:(q.X-p.X)*(y-p.Y)=(q.X-p.X)*(y-b.Y)+(q.X-p.X)*(b.Y-p.Y):=by grind
  omega
 ·rw[h] at n3;simp at n3
 ·have:0<=(q.X-p.X)*(y-a.Y):=kC (by omega) (by omega);have e:(q.X-p.X)*(y-p.Y)=(q.X-p.X)*(y-a.Y)+(q.X-p.X)*(a.Y-p.Y):=by grind
  omega
theorem qZu {p q:qA} {y:Int} (hp:rng p) (hq:rng q) (h:spU p q y):upB p q y<=600:=by
 refine Classical.byContradiction λhn=>?_;have hb:=(qCp h.1 601 y).1 (by omega);unfold cross at hb;simp only at hb;have e:(q.X-p.X)*(y-p.Y)-(601-p.X)*(q.Y-p.Y)= -((601-q.X)*(y-p.Y))-(601-p.X)*(q.Y-y):=by grind
 have a1:=kC (show 0<=601-q.X by omega) (show 0<=y-p.Y by omega);have a2:=kC (show 0<=601-p.X by omega) (show 0<=q.Y-y by omega);rcases de (show 0<=y-p.Y by omega) with h3|h3
 ·have:=gc (show 0<601-q.X by omega) h3;omega
 ·have:=gc (show 0<601-p.X by omega) (show 0<q.Y-y by omega);omega
theorem qYo {p q:qA} {y:Int} (hp:rng p) (hq:rng q) (h:spD p q y): -600<=dnB p q y:=by
 refine Classical.byContradiction λhn=>?_;have hb:=(qBG h.1 (-601) y).1 (by omega);unfold cross at hb;simp only at hb;have e:(q.X-p.X)*(y-p.Y)-(-601-p.X)*(q.Y-p.Y)= -((601+q.X)*(p.Y-y))-(601+p.X)*(y-q.Y):=by grind
 have a1:=kC (show 0<=601+q.X by omega) (show 0<=p.Y-y by omega);have a2:=kC (show 0<=601+p.X by omega) (show 0<=y-q.Y by omega);rcases de (show 0<=p.Y-y by omega) with h3|h3
 ·have:=gc (show 0<601+q.X by omega) h3;omega
 ·have:=gc (show 0<601+p.X by omega) (show 0<y-q.Y by omega);omega
theorem qUo {a b:Int} (h:∀X,X<=a↔X<=b):a=b:=by have h1:=(h a).1 (kX _);have h2:=(h b).2 (kX _);omega
theorem qVq {a b:Int} (h:∀X,a<=X↔b<=X):a=b:=by have h1:=(h a).1 (kX _);have h2:=(h b).2 (kX _);omega
theorem qXC {H:List qA} (hc:Cvx H) {y:Int} {a b:qA} (ha:a∈H) (hb:b∈H) (h1:a.Y<=y) (h2:y<=b.Y) (r:Int×Int):rS H y 0 H.length (-600,600)= .inr (pS H y 0 H.length r):=by
 have hn:=hc.n3;have mq:∀j,Eq' H j∈H:=λj=>wJ (kK _ (by omega));have mp:∀j,j<H.length->Ep H j∈H:=λj hj=>wJ hj;rcases rS_spec H y H.length 0 (-600,600) with⟨⟨j,_,j2,j3⟩,_⟩|⟨_,r',e,g1,g2⟩
 ·exact absurd j3 (no_bad hc ha hb h1 h2 (by omega))
 rw[e]
 congr 1
 refine Prod.ext ?_ ?_
 ·rcases pS_dn H y H.length 0 r with⟨_,h⟩|⟨j,_,j2,j3,j4⟩
  ·obtain⟨j,hj,hs⟩:=qRJ hc ha hb h1 h2;exact absurd hs (h j (by omega) (by omega))
  ·have hj:j<H.length:=by omega
   rw[j4];refine qVq (λX=>?_);rw[g1 X];refine⟨λh=>h.2 j (by omega) j2 j3.1,λh=>⟨dg (qYo (hc.rg _ (mp j hj)) (hc.rg _ (mq j)) j3) h,λk k1 k2 k3=>dg (dn_dn j3.1 j3.2.1 j3.2.2 k3 (hc.lf k (by omega) _ (mp j hj)) (hc.lf k (by omega) _ (mq j))) h⟩⟩
 ·rcases pS_up H y H.length 0 r with⟨_,h⟩|⟨j,_,j2,j3,j4⟩
  ·obtain⟨j,hj,hs⟩:=qRv hc ha hb h1 h2;exact absurd hs (h j (by omega) (by omega))
  ·have hj:j<H.length:=by omega
   rw[j4];refine qUo (λX=>?_);rw[g2 X];refine⟨λh=>h.2 j (by omega) j2 j3.1,λh=>⟨dg h (qZu (hc.rg _ (mp j hj)) (hc.rg _ (mq j)) j3),λk k1 k2 k3=>dg h (up_up j3.1 j3.2.1 j3.2.2 k3 (hc.lf k (by omega) _ (mp j hj)) (hc.lf k (by omega) _ (mq j)))⟩⟩
theorem out_key {u v z:qA} {X y:Int} (h1:0<=cross u v ⟨X,y⟩) (h2:0<=cross v z ⟨X,y⟩) (h3:0<cross u v z):¬((v.Y<u.Y/\v.Y<z.Y/\y<v.Y)\/(u.Y<v.Y/\z.Y<v.Y/\v.Y<y)):=by
 have key:cross u v z*(v.Y-y)= -(cross u v ⟨X,y⟩*(z.Y-v.Y))-cross v z ⟨X,y⟩*(u.Y-v.Y):=by unfold cross;grind
 rintro(⟨a1,a2,a3⟩|⟨a1,a2,a3⟩)
 ·have b1:=gc h3 (show 0<v.Y-y by omega);have b2:=kC h1 (show 0<=z.Y-v.Y by omega);have b3:=kC h2 (show 0<=u.Y-v.Y by omega);omega
 ·have b1:=gc h3 (show 0<y-v.Y by omega);have b2:=kC h1 (show 0<=v.Y-z.Y by omega);have b3:=kC h2 (show 0<=v.Y-u.Y by omega);have e1:cross u v z*(y-v.Y)= -(cross u v z*(v.Y-y)):=by grind
  have e2:cross u v ⟨X,y⟩*(v.Y-z.Y)= -(cross u v ⟨X,y⟩*(z.Y-v.Y)):=by grind
  have e3:cross v z ⟨X,y⟩*(v.Y-u.Y)= -(cross v z ⟨X,y⟩*(u.Y-v.Y)):=by grind
  omega
end Saw
end Go.SL

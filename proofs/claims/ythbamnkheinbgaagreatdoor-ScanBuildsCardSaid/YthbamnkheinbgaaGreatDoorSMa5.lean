/- Poly's plain mathematics, part 5: the hull, as both compute it. -/
import Derived.Test.YthbamnkheinbgaaGreatDoorSMa4
import Derived.Test.YthbamnkheinbgaaGreatDoorSMa2
set_option linter.unusedVariables false
set_option linter.unusedSimpArgs false
namespace Go.SL
namespace Saw
theorem qPK (p q:qA):TO p q=some (decide (pLt p q)):=by
 unfold TO YG pLt;by_cases h1:p.X<q.X
 ·simp[h1]
 ·by_cases h2:p.X=q.X
  ·simp[h1,h2]
  ·have:(p.X==q.X)=false:=by simpa using h2
   simp[h1,h2,this]
theorem qJ1 (a l:List qA) (x:Nat) (hl:l.length<=1000000) (hx:x<a.length):∀(n k:Nat),l.length<k+n->k<=l.length->(∀j,j<k->pLt (l.getD j dd) (a.getD x dd))->
  ∃k',yI a l (x:Int) n (k:Int)=some ((k':Nat):Int)/\k'<=l.length/\(∀j,j<k'->pLt (l.getD j dd) (a.getD x dd))/\(k'<l.length->¬pLt (l.getD k' dd) (a.getD x dd))
 |0,k,h1,h2,_=>by omega
 |n+1,k,h1,h2,h3=>by
  unfold yI;by_cases hk:k<l.length
  ·rw[lt_t (by omega),zF (by omega),zF (by omega)];simp only[kq,ks,qPK,kd,RT,zX (show k<4611686018427387904 by omega)];by_cases hp:pLt (l.getD k dd) (a.getD x dd)
   ·rw[ke hp];exact qJ1 a l x hl hx n (k+1) (by omega) (by omega) (λj hj=>by
     by_cases hjk:j=k
     ·subst hjk;exact hp
     ·exact h3 j (by omega))
   ·rw[kg hp];exact⟨k,rfl,h2,h3,λ_=>hp⟩
  ·rw[lt_f (by omega)];exact⟨k,rfl,h2,h3,λh=>absurd h hk⟩
theorem qCK {α:Type} [Inhabited α] {l:List α} {i:Nat} (h:i<l.length):l.getD i dd=l[i]:=by rw[ka,kr h];rfl
theorem qBJ (a:List qA) (hl:a.length<=1000000):∀(n x:Nat) (l:List qA),a.length<x+n->x<=a.length->l.length<=x->jB l->(∀p,p∈l↔p∈a.take x)->∃s,wZ a n l (x:Int)=some s/\jB s/\(∀p,p∈s↔p∈a)/\s.length<=a.length
 |0,x,l,h1,h2,_,_,_=>by omega
 |n+1,x,l,h1,h2,h3,h4,h5=>by
  unfold wZ;by_cases hx:x<a.length
  ·obtain⟨k,e1,e2,e3,e4⟩:=qJ1 a l x (by omega) hx FUEL 0 (by rw[FUEL_eq];omega) (by omega) (λj hj=>by omega);have ht:a.take (x+1)=a.take x++[a.getD x dd]:=by rw[gr,kr hx,qCK hx];rfl
   rw[show((0:Nat):Int)=0 from rfl] at e1;rw[lt_t (by omega),e1];simp only[kq,kd,RZ,RU,ks,zX (show x<4611686018427387904 by omega)];have s1:slOk 0 ((k:Nat):Int) l.length=true:=by unfold slOk;exact ke ⟨by omega,by omega,by omega⟩
   have s2:slOk ((k:Nat):Int) (l.length:Int) l.length=true:=by unfold slOk;exact ke ⟨by omega,by omega,by omega⟩
   rw[s1,s2,YJ (n:=0+k) (by omega),YJ (n:=0+k+1) (by omega),YJ (n:=0+k+1+(l.length-k)) (by omega),zF (i:=(x:Int)) (by omega)];simp only[kq,ut];have hins:¬(k<l.length/\peq (l.getD k dd) (a.getD x dd)=true)->∃s,wZ a n (l.take k++[a.getD x dd]++(l.drop k).take (l.length-k)) ((x+1:Nat):Int)=some s/\jB s/\(∀p,p∈s↔p∈a)/\s.length<=a.length:=by
    intro hne;have hdr:(l.drop k).take (l.length-k)=l.drop k:=uO (by simp);rw[hdr];have hall:∀p∈l.drop k,pLt (a.getD x dd) p:=by
     intro p hp;obtain⟨j,hj,rfl⟩:=uE.1 hp;rw[uc] at hj;rw[List.getElem_drop];have hk:k<l.length:=by omega
     have hc:pLt (a.getD x dd) (l.getD k dd):=by
      rcases pLt_tri (l.getD k dd) (a.getD x dd) with h|h|h
      ·exact absurd h (e4 hk)
      ·exact absurd ⟨hk,qE6.2 h⟩ hne
      ·exact h
     rw[qCK hk] at hc;by_cases hj0:j=0
     ·subst hj0;exact hc
     ·have h4':=gi.1 h4;exact ED hc (h4' k (k+j) hk (by omega) (by omega))
    have htk:∀p∈l.take k,pLt p (a.getD x dd):=by
     intro p hp;obtain⟨j,hj,rfl⟩:=gF.1 hp;have:=e3 j (by omega)
     rwa [qCK (by omega)] at this
    refine qBJ a hl n (x+1) _ (by omega) (by omega) (by simp;omega) ?_ (λp=>?_)
    ·refine List.pairwise_append.2 ⟨List.pairwise_append.2 ⟨h4.take,List.pairwise_singleton _ _,λp hp q hq=>?_⟩,h4.drop,λp hp q hq=>?_⟩
     ·rw[uu] at hq;subst hq;exact htk p hp
     ·rcases un.1 hp with hp|hp
      ·exact ED (htk p hp) (hall q hq)
      ·rw[uu] at hp;subst hp;exact hall q hq
    ·rw[ht,un,un,un,<-h5 p];have:p∈l↔p∈l.take k\/p∈l.drop k:=by rw[<-un,List.take_append_drop]
     rw[this];constructor
     ·rintro((h|h)|h)
      ·exact .inl (.inl h)
      ·exact .inr h
      ·exact .inl (.inr h)
     ·rintro((h|h)|h)
      ·exact .inl (.inl h)
      ·exact .inr h
      ·exact .inl (.inr h)
   by_cases hk:k<l.length
   ·rw[lt_t (by omega),zF (by omega)];simp only[kq];cases hp:peq (l.getD k dd) (a.getD x dd) with
    |true=>
     have hp':=hp;unfold peq at hp';rw[hp'];simp only[kq];refine qBJ a hl n (x+1) l (by omega) (by omega) (by omega) h4 (λp=>?_);rw[ht,un,<-h5 p,uu];refine⟨.inl,λh=>h.elim id λe=>?_⟩;rw[e,<-qE6.1 hp];exact zW hk
    |false=>
     have hp':=hp;unfold peq at hp';rw[hp'];simp only[ku];exact hins (λh=>by rw[hp] at h;cases h.2)
   ·rw[lt_f (by omega)];simp only[ku];exact hins (λh=>hk h.1)
  ·rw[lt_f (by omega)];rw[uO (by omega)] at h5;exact⟨l,rfl,h4,h5,by omega⟩
def srt (a:List qA):List qA:=ddT (DY pLe a) (DY pLe a).length
theorem qPV (x y z:qA) (h1:pLe x y=true) (h2:pLe y z=true):pLe x z=true:=by
 rw[pLe_iff] at*;rcases h1 with h1|rfl
 ·rcases h2 with h2|rfl
  ·exact .inl (ED h1 h2)
  ·exact .inl h1
 ·exact h2
theorem qQf (x y:qA):pLe x y=true\/pLe y x=true:=by
 rw[pLe_iff,pLe_iff];rcases pLt_tri x y with h|h|h
 ·exact .inl (.inl h)
 ·exact .inl (.inr h)
 ·exact .inr (.inl h)
theorem FX (a:List qA):jB (srt a):=qCI _ (OP qPV qQf a) _ (ki _)
theorem OI (a:List qA) (p:qA):p∈srt a↔p∈a:=by
 unfold srt;rw[qJh _ _ (ki _),List.take_length];exact(zaQ pLe a).mem_iff
theorem qE1 (a:List qA):(srt a).length<=a.length:=by
 have:=qJx (DY pLe a) (DY pLe a).length;have h2:=(zaQ pLe a).length_eq;unfold srt;omega
theorem qL6 (a:List qA) (hl:a.length<=1000000):TL a=some (srt a):=by
 unfold TL;obtain⟨s,e1,e2,e3,_⟩:=qBJ a hl FUEL 0 [] (by rw[FUEL_eq];omega) (by omega) (by simp) List.Pairwise.nil (λp=>by simp);rw[show((0:Nat):Int)=0 from rfl] at e1;rw[e1,kd]
 congr 1
 exact qDf e2 (FX a) (λp=>by rw[e3,OI])
def turnP (q:Nat) (p:qA):qA:=match q with
 |0=>p
 |1=>⟨-p.Y,p.X⟩
 |2=>⟨-p.X,-p.Y⟩
 |_=>⟨p.Y,-p.X⟩
def canT (p:qA):Bool:=!(p.X== -9223372036854775808)&&!(p.Y== -9223372036854775808)
def turns (a:List qA) (q:Nat):List qA:=bif a.all canT then a.map (turnP q) else[]
def popR :List qA->qA->List qA
 |t::s::r,c=>if cross s t c<=0 then popR (s::r) c else t::s::r
 |l,_=>l
theorem qHc (c:qA):∀st,(popR st c).length<=st.length
 |[]=>ki _
 |[_]=>ki _
 |t::s::r=>by
  unfold popR;split
  ·have:=qHc c (s::r);simp at this⊢;omega
  ·exact ki _
theorem qGc (c:qA):∀st p,p∈popR st c->p∈st
 |[],_,h=>h
 |[_],_,h=>h
 |t::s::r,p,h=>by
  unfold popR at h;split at h
  ·exact kE _ (qGc c (s::r) p h)
  ·exact h
def wJ (st:List qA) (c:qA):List qA:=c::popR st c
def chainR (a:List qA):List qA:=a.foldl wJ []
theorem two_top (t s:qA) (r:List qA):((t::s::r).reverse).getD r.length dd=s/\((t::s::r).reverse).getD (r.length+1) dd=t/\((t::s::r).reverse).take (r.length+1)=(s::r).reverse:=by
 simp only[kM,kJ,uD,ut];refine⟨?_,?_,?_⟩
 ·rw[ka,kz (by simp)];simp
 ·rw[ka,kz (by simp)];simp
 ·rw[List.take_append,uO (by simp)];simp
theorem qNH (a:List qA) (x:Nat) (hx:x<a.length) (hc:rng (a.getD x dd)):∀(n:Nat) (st:List qA),st.length<n->st.length<=1000000->(∀p∈st,rng p)->
  ZH a (x:Int) n st.reverse=some (popR st (a.getD x dd)).reverse/\QM a (x:Int) n st.reverse=some (popR st (a.getD x dd)).reverse
 |0,st,h,_,_=>by omega
 |n+1,[],_,_,_=>⟨rfl,rfl⟩
 |n+1,[t],_,_,_=>⟨rfl,rfl⟩
 |n+1,t::s::r,h,hl,hr=>by
  have hs:rng s:=hr s (by simp);have ht:rng t:=hr t (by simp);obtain⟨g1,g2,g3⟩:=two_top t s r;have hlen:((t::s::r).reverse).length=r.length+2:=by simp
  simp only[uS] at h hl;have e1:w64 (((r.length+2:Nat):Int)-2)=(r.length:Int):=by rw[qU (by omega)];omega
  have e2:w64 (((r.length+2:Nat):Int)-1)=((r.length+1:Nat):Int):=by rw[qU (by omega)];omega
  have hsl:slOk 0 ((r.length+1:Nat):Int) (r.length+2)=true:=by unfold slOk;exact ke ⟨by omega,by omega,by omega⟩
  obtain⟨ih1,ih2⟩:=qNH a x hx hc n (s::r) (by simp;omega) (by simp;omega) (λp hp=>hr p (kE _ hp));unfold ZH QM BE VC popR;rw[hlen,e1,e2,ke (show((r.length+2:Nat):Int)≥2 by omega),ke (show((r.length+2:Nat):Int)>1 by omega),zF (i:=(r.length:Int)) (by omega),zF (i:=((r.length+1:Nat):Int)) (by omega),zF (i:=(x:Int)) (by omega),hsl];simp only[kq,ks,g1,g2,g3,(qMp hs ht hc).1,(qMp hs ht hc).2,kd,ih1,ih2];by_cases hcr:cross s t (a.getD x dd)<=0
  ·rw[ke hcr,if_pos hcr];exact⟨rfl,rfl⟩
  ·rw[kg hcr,if_neg hcr];exact⟨rfl,rfl⟩
theorem qNg (a:List qA) (hr:∀p∈a,rng p) (hl:a.length<=1000000):∀(n x:Nat) (st:List qA),a.length<x+n->x<=a.length->st.length<=x->(∀p∈st,rng p)->
  PD a n st.reverse (x:Int)=some ((a.drop x).foldl wJ st).reverse/\XT a n st.reverse (x:Int)=some ((a.drop x).foldl wJ st).reverse
 |0,x,st,h1,h2,_,_=>by omega
 |n+1,x,st,h1,h2,h3,h4=>by
  unfold PD XT;by_cases hx:x<a.length
  ·have hc:rng (a.getD x dd):=hr _ (zW hx);obtain⟨p1,p2⟩:=qNH a x hx hc FUEL st (by rw[FUEL_eq];omega) (by omega) h4;have hp:=qHc (a.getD x dd) st;obtain⟨ih1,ih2⟩:=qNg a hr hl n (x+1) (wJ st (a.getD x dd)) (by omega) (by omega) (by unfold wJ;rw[uS];omega) (λp hp'=>by
    unfold wJ at hp';rcases kT.1 hp' with rfl|hp'
    ·exact hc
    ·exact h4 p (qGc _ _ _ hp'))
   rw[lt_t (by omega),zF (by omega),p1,p2,TJ a x hx];simp only[kq,kd,uf,YJ (n:=(popR st (a.getD x dd)).length+1) (b:=16) (by omega),ks,zX (show x<4611686018427387904 by omega),uB];unfold wJ at ih1 ih2⊢;rw[kM] at ih1 ih2;exact⟨ih1,ih2⟩
  ·rw[lt_f (by omega),uv (by omega)];exact⟨rfl,rfl⟩
theorem qBR :∀(a st:List qA),(a.foldl wJ st).length<=a.length+st.length
 |[],st=>by simp
 |c::a,st=>by
  have h1:=qBR a (wJ st c);have h2:=qHc c st;unfold wJ at h1;simp only[uB,uS] at h1⊢;unfold wJ;omega
theorem yK (a:List qA):(chainR a).length<=a.length:=by have:=qBR a [];simpa[chainR] using this
theorem qDt :∀(a st:List qA),st≠[]\/a≠[]->a.foldl wJ st≠[]
 |[],st,h=>by simpa using h
 |c::a,st,_=>qDt a (wJ st c) (.inl (by unfold wJ;simp))
theorem KS {a:List qA} (h:a≠[]):0<(chainR a).length:=ue.2 (qDt a [] (.inr h))
theorem qC9 (a:List qA) (hr:∀p∈a,rng p) (hl:a.length<=1000000):(a≠[]->UN a=some (chainR a).tail.reverse)/\PT a=some (chainR a).reverse:=by
 obtain⟨h1,h2⟩:=qNg a hr hl FUEL 0 [] (by rw[FUEL_eq];omega) (by omega) (by simp) (λp hp=>by cases hp);rw[show((0:Nat):Int)=0 from rfl,uH,List.reverse_nil] at h1 h2;unfold UN PT;rw[h1,h2];refine⟨λhne=>?_,rfl⟩;have hp:=KS hne;have hle:=yK a;change 0<(a.foldl wJ []).length at hp;change (a.foldl wJ []).length<=a.length at hle;have e2:w64 ((((a.foldl wJ []).reverse.length:Nat):Int)-1)=(((a.foldl wJ []).length-1:Nat):Int):=by rw[uf,qU (by omega)];omega
 have hsl:slOk 0 (((a.foldl wJ []).length-1:Nat):Int) (a.foldl wJ []).reverse.length=true:=by unfold slOk;rw[uf];exact ke ⟨by omega,by omega,by omega⟩
 simp only[kd,e2,hsl,kq,ks];unfold chainR;generalize a.foldl wJ []=st at hp;cases st with
 |nil=>simp at hp
 |cons t r=>simp
theorem qMv (l:List qA) (hl:l.length<=1000000):∀(n i j:Nat) (t:List qA),l.length<2*i+2*n->i<=j+1->i+j+1=l.length->t.length=l.length->(∀k,k<l.length->(k<i\/j<k)->t.getD k dd=l.getD (l.length-1-k) dd)->(∀k,i<=k->k<=j->t.getD k dd=l.getD k dd)->
  jF n t (i:Int) (j:Int)=some l.reverse
 |0,i,j,t,h1,h2,h3,_,_,_=>by omega
 |n+1,i,j,t,h1,h2,h3,h4,h5,h6=>by
  unfold jF;by_cases hij:i<j
  ·have e1:w64 ((j:Int)-1)=((j-1:Nat):Int):=by rw[qU (by omega)];omega
   rw[lt_t (by omega),zF (i:=(j:Int)) (by omega),zF (i:=(i:Int)) (by omega),e1];simp only[kq,ks,zX (show i<4611686018427387904 by omega)];refine qMv l hl n (i+1) (j-1) _ (by omega) (by omega) (by omega) (by simp[h4]) (λk hk hkk=>?_) (λk hk1 hk2=>?_)
   ·by_cases hkj:k=j
    ·subst hkj;rw[qF8 _ (by simp;omega),h6 i (by omega) (by omega)]
     congr 1;omega
    ·rw[GZ _ (λe=>hkj e.symm)];by_cases hki:k=i
     ·subst hki;rw[qF8 _ (by omega),h6 j (by omega) (by omega)]
      congr 1;omega
     ·rw[GZ _ (λe=>hki e.symm)];exact h5 k hk (by omega)
   ·rw[GZ _ (by omega),GZ _ (by omega)];exact h6 k (by omega) (by omega)
  ·rw[lt_f (by omega)];have:t=l.reverse:=by
    refine qMa (by simp[h4]) (λk hk=>?_);rw[ka (l:=l.reverse),List.getElem?_reverse (by omega),<-ka];by_cases hkk:k<i\/j<k
    ·exact h5 k (by omega) hkk
    ·rw[h6 k (by omega) (by omega)];congr 1;omega
   rw[this];rfl
theorem rev_eq (l:List qA) (hne:l≠[]) (hl:l.length<=1000000):yC l=some l.reverse:=by
 have hp:0<l.length:=ue.2 hne;unfold yC;have h:=qMv l hl FUEL 0 (l.length-1) l (by rw[FUEL_eq];omega) (by omega) (by omega) rfl (λk hk h=>by omega) (λ_ _ _=>rfl);rw[show((0:Nat):Int)=0 from rfl] at h;rw[show w64 ((l.length:Int)-1)=((l.length-1:Nat):Int) by rw[qU (by omega)];omega,h];rfl
theorem qF0 (l:List qA) (h:l.length<=1000000):∀(n x:Nat) (t:List qA),x<n->x<=l.length->t=(l.drop x).reverse->ZM l n t ((x:Int)-1)=some l.reverse
 |0,x,t,h1,h2,_=>by omega
 |n+1,0,t,h1,h2,h3=>by
  unfold ZM;rw[kg (by omega),h3];rfl
 |n+1,x+1,t,h1,h2,h3=>by
  unfold ZM;have hx:x<l.length:=by omega
  have ht:t.length<=1000000:=by rw[h3];simp;omega
  have e0:(((x+1:Nat):Int)-1)=(x:Int):=by omega
  have e4:w64 ((x:Int)-1)=(x:Int)-1:=qU (by omega);rw[e0,ke (by omega),zF (by omega),YJ (by omega)];simp only[kq,ks,e4];refine qF0 l h n x _ (by omega) (by omega) ?_;rw[TJ l x hx,kM,h3]
def hullOf (s:List qA):List qA:=if(chainR s).length+(chainR s.reverse).length<5 then[] else(chainR s).tail.reverse++(chainR s.reverse).tail.reverse
def hull (a:List qA):List qA:=bif decide ((a.length:Int)>32) then[] else bif a.all inRange then hullOf (srt a) else[]
theorem qMo {s:List qA} (h:s.length<3):hullOf s=[]:=by
 have h1:=yK s;have h2:=yK s.reverse;rw[uf] at h2;unfold hullOf;rw[if_pos (by omega)]
theorem qPf (a:List qA):FW a=some (hull a):=by
 unfold FW hull DR;by_cases h:(a.length:Int)>32
 ·simp[h]
 rw[kg h,qEc a (by omega)];simp only[ku,kd];cases hr:a.all inRange with
 |false=>rfl
 |true=>
  have hrng:∀p∈srt a,rng p:=λp hp=>SR.1 (kw.1 hr p ((OI a p).1 hp));have hsl:=qE1 a;have c1:=(qC9 (srt a) hrng (by omega)).2;have c2:=(qC9 (srt a).reverse (λp hp=>hrng p (by simpa using hp)) (by simp;omega)).2;have hrv:ZM (srt a) FUEL [] (w64 (((srt a).length:Int)-1))=some (srt a).reverse:=by
   rw[qU (by omega)];exact qF0 (srt a) (by omega) FUEL (srt a).length [] (by rw[FUEL_eq];omega) (ki _) (by simp)
  rw[qL6 a (by omega)];simp only[uq,ku,kq,kd,hrv,c1,c2];have l1:=yK (srt a);have l2:=yK (srt a).reverse;rw[uf] at l2;simp only[uf];rw[qU (n:=((chainR (srt a)).length:Int)+((chainR (srt a).reverse).length:Int)) (by omega)];unfold hullOf;by_cases h5:(chainR (srt a)).length+(chainR (srt a).reverse).length<5
  ·rw[if_pos h5,lt_t (by omega)];rfl
  ·rw[if_neg h5,lt_f (by omega)];have hne:srt a≠[]:=λe=>by rw[e] at h5;simp[chainR] at h5
   have p1:=KS hne;have p2:=KS (a:=(srt a).reverse) (by simpa using hne);have e1:w64 (((chainR (srt a)).length:Int)-1)=(((chainR (srt a)).length-1:Nat):Int):=by rw[qU (by omega)];omega
   have e2:w64 (((chainR (srt a).reverse).length:Int)-1)=(((chainR (srt a).reverse).length-1:Nat):Int):=by rw[qU (by omega)];omega
   have s1:slOk 0 (((chainR (srt a)).length-1:Nat):Int) (chainR (srt a)).length=true:=by unfold slOk;exact ke ⟨by omega,by omega,by omega⟩
   have s2:slOk 0 (((chainR (srt a).reverse).length-1:Nat):Int) (chainR (srt a).reverse).length=true:=by unfold slOk;exact ke ⟨by omega,by omega,by omega⟩
   rw[e1,e2,s1,s2,YJ (by simp;omega),YJ (by simp;omega)];simp only[ku,kq,ks,ut]
   congr 1
   have tk:∀st:List qA,0<st.length->st.reverse.take (st.length-1)=st.tail.reverse:=λst hst=>by
    cases st with
    |nil=>simp at hst
    |cons t r=>simp
   rw[tk _ p1,tk _ p2]
theorem qNW (a:List qA):SZ a=some (hull a):=by
 unfold SZ hull TH;by_cases h3:(a.length:Int)<3
 ·have hs:hullOf (srt a)=[]:=qMo (by have:=qE1 a;omega);rw[ke h3,kg (show¬(a.length:Int)>32 by omega),hs];cases a.all inRange<;>rfl
 by_cases h:(a.length:Int)>32
 ·simp[h,h3]
 rw[kg h,kg h3,qCW a (by omega)];simp only[ku,kd];cases hr:a.all inRange with
 |false=>rfl
 |true=>
  have hrng:∀p∈srt a,rng p:=λp hp=>SR.1 (kw.1 hr p ((OI a p).1 hp));have hsl:=qE1 a;have hpl:=(zaQ pLe a).length_eq;have hane:a≠[]:=λe=>by rw[e] at h3;simp at h3
  have hne:srt a≠[]:=λe=>by
   obtain⟨p,hp⟩:=List.exists_mem_of_ne_nil a hane;have:=(OI a p).2 hp;rw[e] at this;cases this
  have c1:=(qC9 (srt a) hrng (by omega)).1 hne;have c2:=(qC9 (srt a).reverse (λp hp=>hrng p (by simpa using hp)) (by simp;omega)).1 (by simpa using hne);have hso:qDP a.length=true:=by unfold qDP;rw[ko,kQ,kQ];omega
  have hcl:QG a=some a:=by unfold QG;rw[YJ (by omega)];rfl
  have hst:jR a=some (DY pLe a):=by unfold jR;rw[hso,sort_eq];rfl
  have hco:jA (DY pLe a)=some (srt a,srt a):=qPF (DY pLe a) (by omega);have l1:=yK (srt a);have l2:=yK (srt a).reverse;rw[uf] at l2;have p1:=KS hne;have p2:=KS (a:=(srt a).reverse) (by simpa using hne);simp only[uq,ku,kq,hcl,hst,hco,kd,hpl,beq_self_eq_true,c1,rev_eq _ hne (show(srt a).length<=1000000 by omega),c2,uf,List.length_tail];rw[YJ (by omega)];unfold hullOf;by_cases h5:(chainR (srt a)).length+(chainR (srt a).reverse).length<5
  ·rw[if_pos h5,lt_t (by omega)];rfl
  ·rw[if_neg h5,lt_f (by omega)];rfl
theorem qO8 (s:List qA):(hullOf s).length<=s.length+s.length:=by
 have h1:=yK s;have h2:=yK s.reverse;rw[uf] at h2;unfold hullOf;split
 ·simp
 ·simp;omega
theorem qQX (a:List qA):(hull a).length<=a.length+a.length:=by
 have h1:=qO8 (srt a);have h2:=qE1 a;unfold hull;cases decide ((a.length:Int)>32) with
 |true=>simp
 |false=>cases a.all inRange with
  |true=>simp only[ku,kq];omega
  |false=>simp
def pos (x y:Int):Prop:=0<x\/(x=0/\0<y)
theorem NR {ux uy vx vy wx wy:Int} (hu:pos ux uy) (hv:pos vx vy) (hw:pos wx wy) (h1:0<=ux*vy-vx*uy) (h2:0<=vx*wy-wx*vy):0<=ux*wy-wx*uy:=by
 unfold pos at*;have hux:0<=ux:=by omega
 have hwx:0<=wx:=by omega
 rcases hv with hv|⟨hv,hvy⟩
 ·have e:(ux*wy-wx*uy)*vx=(ux*vy-vx*uy)*wx+(vx*wy-wx*vy)*ux:=by grind
  have h3:0<=(ux*wy-wx*uy)*vx:=by rw[e];exact Int.add_nonneg (ky h1 hwx) (ky h2 hux)
  exact Int.nonneg_of_mul_nonneg_left h3 hv
 ·subst hv;have h4:0<=-(wx*vy):=by simpa using h2
  have hw0:wx=0:=by
   rcases gL hwx with h|h
   ·have:=uT h hvy;omega
   ·exact h.symm
  subst hw0;have hwy:0<wy:=by omega
  have:=ky hux (gM hwy);simpa using this
theorem QK {p q:qA} (h:pLt p q):pos (q.X-p.X) (q.Y-p.Y):=by unfold pLt at h;unfold pos;omega
theorem qEo (p q:qA):cross p q p=0:=by unfold cross;grind
theorem qLP (p q:qA):cross p q q=0:=by unfold cross;grind
theorem turn_b {s t c p:qA} (hst:pLt s t) (hsc:pLt s c) (hsp:pLt s p) (h1:cross s t c<=0) (h2:0<=cross s t p):0<=cross s c p:=by
 unfold cross at*;exact NR (QK hsc) (QK hst) (QK hsp) (by omega) h2
theorem turn_c {s t c p:qA} (hst:pLt s t) (htc:pLt t c) (hpt:pLt p t) (h1:0<cross s t c) (h2:0<=cross s t p):0<=cross t c p:=by
 have h3:=NR (ux:=t.X-p.X) (uy:=t.Y-p.Y) (vx:=t.X-s.X) (vy:=t.Y-s.Y) (wx:=c.X-t.X) (wy:=c.Y-t.Y) (QK hpt) (QK hst) (QK htc)
  (by unfold cross at h2;grind) (by unfold cross at h1;grind)
 unfold cross
 grind
def Left (pts:List qA):List qA->Prop
 |v::u::r=>(∀p∈pts,0<=cross u v p)/\Left pts (u::r)
 |_=>True
def OC :List qA->Prop
 |c::t::s::r=>0<cross s t c/\OC (t::s::r)
 |_=>True
theorem qMt (pts:List qA) (c:qA) (hc:∀p∈pts,pLt p c):∀(st:List qA),st.Pairwise (λa b=>pLt b a)->(∀p∈st,p∈pts)->Left pts st->OC st->(∀t r,st=t::r->∀p∈pts,pLt t p->0<=cross t c p)->(∀t,st.getLast? =some t->∀p∈pts,p=t\/pLt t p)->
  Left pts (c::popR st c)/\OC (c::popR st c)
 |[],_,_,_,_,_,_=>⟨trivial,trivial⟩
 |[t],_,hm,_,_,hq,hb=>by
  refine⟨⟨λp hp=>?_,trivial⟩,trivial⟩;rcases hb t rfl p hp with rfl|h
  ·rw[qEo];exact um _
  ·exact hq t [] rfl p hp h
 |t::s::r,hs,hm,hl,ht,hq,hb=>by
  obtain⟨s1,s2⟩:=kO.1 hs;have hst:pLt s t:=s1 s kN;obtain⟨l1,l2⟩:=hl;have htc:=hc t (hm t kN);unfold popR;by_cases hcr:cross s t c<=0
  ·rw[if_pos hcr];refine qMt pts c hc (s::r) s2 (λp hp=>hm p (kE _ hp)) l2 (by cases r with|nil=>trivial|cons u r=>exact ht.2) (λt' r' he p hp hsp=>?_) (λt' he p hp=>hb t' (by rw[uY];exact he) p hp);cases he;exact turn_b hst (hc s (hm s (by simp))) hsp hcr (l1 p hp)
  ·rw[if_neg hcr];refine⟨⟨λp hp=>?_,l1,l2⟩,by omega,ht⟩;rcases pLt_tri p t with h|h|h
   ·exact turn_c hst htc h (by omega) (l1 p hp)
   ·rw[h,qEo];exact um _
   ·exact hq t _ rfl p hp h
abbrev Desc (st:List qA):Prop:=st.Pairwise (λa b=>pLt b a)
structure Inv (pts st:List qA):Prop where
 desc:Desc st
 sub:∀p∈st,p∈pts
 left:Left pts st
 turns:OC st
 top:∀t r,st=t::r->∀p∈pts,p=t\/pLt p t
 bot:∀t,st.getLast? =some t->∀p∈pts,p=t\/pLt t p
theorem qD4 (c:qA):∀st,Desc st->Desc (popR st c)
 |[],h=>h
 |[_],h=>h
 |t::s::r,h=>by
  unfold popR;split
  ·exact qD4 c (s::r) (kO.1 h).2
  ·exact h
theorem qEd (c:qA):∀st,(popR st c).getLast? =st.getLast?
 |[]=>rfl
 |[_]=>rfl
 |t::s::r=>by
  unfold popR;split
  ·rw[qEd c (s::r),uY]
  ·rfl
theorem qM1 {a b:List qA}:∀{st:List qA},Left a st->Left b st->Left (a++b) st
 |[],_,_=>trivial
 |[_],_,_=>trivial
 |v::u::r,⟨h1,h2⟩,⟨h3,h4⟩=>⟨λp hp=>(un.1 hp).elim (h1 p) (h3 p),qM1 h2 h4⟩
theorem qNw (c:qA):∀st,Desc st->(∀p∈st,pLt p c)->OC st->(∀v u r,st=v::u::r->0<=cross u v c)->Left [c] st
 |[],_,_,_,_=>trivial
 |[_],_,_,_,_=>trivial
 |v::u::r,hd,hc,ht,h0=>by
  have h1:=h0 v u r rfl;obtain⟨d1,d2⟩:=kO.1 hd;refine⟨λp hp=>by rw[uu.1 hp];exact h1,qNw c (u::r) d2 (λp hp=>hc p (kE _ hp)) (by cases r with|nil=>trivial|cons x r=>exact ht.2) (λv' u' r' he=>?_)⟩;cases he;obtain⟨t1,_⟩:=ht;have huv:pLt u v:=d1 u kN;have hxu:pLt u' u:=(kO.1 d2).1 u' kN;have huc:pLt u c:=hc u (by simp);have:=NR (QK hxu) (QK huv) (QK huc) (by unfold cross at t1;grind) (by unfold cross at h1;grind);unfold cross
  grind
theorem Inv.push {pts st:List qA} (h:Inv pts st) {c:qA} (hc:∀p∈pts,pLt p c) (hne:pts≠[]->st≠[]):Inv (pts++[c]) (wJ st c):=by
 have hp:=qMt pts c hc st h.desc h.sub h.left h.turns (λt r he p hp htp=>by
  rcases h.top t r he p hp with rfl|h1
  ·exact absurd htp (pLt_irrefl _)
  ·exact absurd htp (pLt_asymm h1)) h.bot
 have hsub:∀p∈popR st c,p∈pts:=λp hp=>h.sub p (qGc c st p hp);have hlt:∀p∈popR st c,pLt p c:=λp hp=>hc p (hsub p hp);have hdesc:Desc (wJ st c):=kO.2 ⟨hlt,qD4 c st h.desc⟩;refine⟨hdesc,λp hp'=>?_,qM1 hp.1 ?_,hp.2,λt r he p hp'=>?_,λt he p hp'=>?_⟩
 ·rcases kT.1 hp' with rfl|hp'
  ·simp
  ·exact List.mem_append_left _ (hsub p hp')
 ·have hl:Left [c] (popR st c):=by
   refine qNw c _ (qD4 c st h.desc) hlt ?_ (λv u r he=>?_)
   ·have:=hp.2;generalize popR st c=q at this
    match q,this with
    |[],_=>trivial
    |[_],_=>trivial
    |[_,_],_=>trivial
    |_::_::_::_,this=>exact this.2
   ·have:=hp.2;rw[he] at this;exact gM this.1
  unfold wJ;generalize popR st c=q at hl
  match q,hl with
  |[],_=>trivial
  |t::r,hl=>exact⟨λp hp=>by rw[uu.1 hp,qLP];exact um _,hl⟩
 ·cases he;rcases un.1 hp' with h1|h1
  ·exact .inr (hc p h1)
  ·exact .inl (uu.1 h1)
 ·unfold wJ at he;by_cases hst:st=[]
  ·subst hst;have hpts:pts=[]:=Classical.byContradiction λhh=>hne hh rfl;subst hpts;simp[popR] at he;subst he;exact .inl (by simpa using hp')
  ·have hpe:popR st c≠[]:=λe=>by
    have:=qEd c st;rw[e] at this;exact hst (List.getLast?_eq_none_iff.1 this.symm)
   have he':st.getLast? =some t:=by
    obtain⟨x,q,hq⟩:=uR hpe;rw[<-qEd c st,hq];rw[hq,uY] at he;exact he
   rcases un.1 hp' with h1|h1
   ·exact h.bot t he' p h1
   ·rw[uu.1 h1];exact .inr (hc t (h.sub t (List.mem_of_getLast? he')))
theorem qMF :∀(rest pts st:List qA),Inv pts st->(pts≠[]->st≠[])->(∀p∈pts,∀q∈rest,pLt p q)->jB rest->Inv (pts++rest) (rest.foldl wJ st)
 |[],pts,st,h,_,_,_=>by simpa using h
 |c::rest,pts,st,h,hne,hlt,hs=>by
  obtain⟨s1,s2⟩:=kO.1 hs;have:=qMF rest (pts++[c]) (wJ st c) (h.push (λp hp=>hlt p hp c kN) hne) (λ_=>by unfold wJ;simp) (λp hp q hq=>by
   rcases un.1 hp with h1|h1
   ·exact hlt p h1 q (kE _ hq)
   ·rw[uu.1 h1];exact s1 q hq) s2
  rw[kJ] at this;exact this
theorem EN {s:List qA} (hs:jB s):Inv s (chainR s):=by
 have:=qMF s [] [] ⟨List.Pairwise.nil,λp hp=>(by cases hp),trivial,trivial,λt r he=>(by cases he),λt he=>(by cases he)⟩ (λh=>absurd rfl h) (λp hp=>by cases hp) hs;simpa[chainR] using this
def ng (p:qA):qA:=⟨-p.X,-p.Y⟩
theorem ng_ng (p:qA):ng (ng p)=p:=by unfold ng;simp
theorem qCF (p q r:qA):cross (ng p) (ng q) (ng r)=cross p q r:=by unfold cross ng;grind
theorem qEn {p q:qA}:pLt (ng p) (ng q)↔pLt q p:=by unfold pLt ng;simp only;omega
theorem qOs (c:qA):∀st,popR (st.map ng) (ng c)=(popR st c).map ng
 |[]=>rfl
 |[_]=>rfl
 |t::s::r=>by
  have ih:=qOs c (s::r);simp only[ur] at ih⊢;rw[popR,popR,qCF];split
  ·exact ih
  ·simp
theorem qOJ :∀(l st:List qA),(l.map ng).foldl wJ (st.map ng)=(l.foldl wJ st).map ng
 |[],st=>rfl
 |c::l,st=>by
  have:=qOJ l (wJ st c);simp only[ur,uB];rw[<-this];unfold wJ;rw[qOs,ur]
theorem qAM (l:List qA):chainR (l.map ng)=(chainR l).map ng:=qOJ l []
theorem qOH {pts:List qA}:∀{st:List qA},Left (pts.map ng) (st.map ng)->Left pts st
 |[],_=>trivial
 |[_],_=>trivial
 |v::u::r,⟨h1,h2⟩=>⟨λp hp=>by have:=h1 (ng p) (List.mem_map_of_mem hp);rwa [qCF] at this,qOH h2⟩
theorem qLX :∀{st:List qA},OC (st.map ng)->OC st
 |[],_=>trivial
 |[_],_=>trivial
 |[_,_],_=>trivial
 |c::t::s::r,⟨h1,h2⟩=>⟨by rwa [qCF] at h1,qLX h2⟩
theorem qL9 {a b:List qA} (h:∀p,p∈b->p∈a):∀{st:List qA},Left a st->Left b st
 |[],_=>trivial
 |[_],_=>trivial
 |_::_::_,⟨h1,h2⟩=>⟨λp hp=>h1 p (h p hp),qL9 h h2⟩
structure Up (pts st:List qA):Prop where
 asc:jB st
 sub:∀p∈st,p∈pts
 left:Left pts st
 turns:OC st
 top:∀t r,st=t::r->∀p∈pts,p=t\/pLt t p
 bot:∀t,st.getLast? =some t->∀p∈pts,p=t\/pLt p t
theorem qIp {s:List qA} (hs:jB s):Up s (chainR s.reverse):=by
 have hs':jB (s.reverse.map ng):=by
  refine List.pairwise_map.2 (gx.2 ?_);exact hs.imp (λh=>qEn.2 h)
 have hi:=EN hs';have he:chainR (s.reverse.map ng)=(chainR s.reverse).map ng:=qAM _;rw[he] at hi;have hmem:∀p,p∈s->ng p∈s.reverse.map ng:=λp hp=>List.mem_map_of_mem (by simpa using hp);have inj:∀p q,ng p=ng q->p=q:=λp q h=>by rw[<-ng_ng p,h,ng_ng]
 refine⟨?_,λp hp=>?_,qOH (qL9 (λp hp=>?_) hi.left),qLX hi.turns,λt r ht p hp=>?_,λt ht p hp=>?_⟩
 ·have:=hi.desc;rw[Desc,List.pairwise_map] at this;exact this.imp (λh=>qEn.1 h)
 ·have:=hi.sub (ng p) (List.mem_map_of_mem hp);obtain⟨q,hq,e⟩:=gt.1 this;rw[<-inj _ _ e];simpa using hq
 ·obtain⟨q,hq,e⟩:=gt.1 hp;rw[<-e];exact hmem q hq
 ·rcases hi.top (ng t) (r.map ng) (by rw[ht];rfl) (ng p) (hmem p hp) with h|h
  ·exact .inl (inj _ _ h)
  ·exact .inr (qEn.1 h)
 ·rcases hi.bot (ng t) (by rw[List.getLast?_map,ht];rfl) (ng p) (hmem p hp) with h|h
  ·exact .inl (inj _ _ h)
  ·exact .inr (qEn.1 h)
def qBb (pts:List qA):List qA->Prop
 |u::v::r=>(∀p∈pts,0<=cross u v p)/\qBb pts (v::r)
 |_=>True
theorem qCs {pts:List qA} {x:qA}:∀{a b:List qA},qBb pts (a++[x])->qBb pts (x::b)->qBb pts (a++x::b)
 |[],_,_,h=>h
 |[_],_,h1,h2=>⟨h1.1,h2⟩
 |_::v::a,b,h1,h2=>⟨h1.1,qCs (a:=v::a) h1.2 h2⟩
theorem qDa {pts:List qA}:∀{st:List qA},Left pts st->qBb pts st.reverse
 |[],_=>trivial
 |[_],_=>trivial
 |v::u::r,⟨h1,h2⟩=>by
  have ih:=qDa h2;rw[kM] at ih;rw[kM,kM,kJ];exact qCs ih ⟨h1,trivial⟩
theorem qKf {pts:List qA}:∀{w:List qA},qBb pts w->∀x,x+1<w.length->∀p∈pts,0<=cross (w.getD x dd) (w.getD (x+1) dd) p
 |[],_,x,h=>by simp at h
 |[_],_,x,h=>by simp at h
 |u::v::r,hl,0,_=>hl.1
 |u::v::r,hl,x+1,h=>by
  have:=qKf hl.2 x (by simpa using h);simpa using this
end Saw
end Go.SL

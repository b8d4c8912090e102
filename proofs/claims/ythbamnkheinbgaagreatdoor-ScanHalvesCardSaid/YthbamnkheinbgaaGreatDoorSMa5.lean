/- Poly's plain mathematics, part 5: the hull, as both compute it. -/
import Derived.Test.YthbamnkheinbgaaGreatDoorSMa4
import Derived.Test.YthbamnkheinbgaaGreatDoorSMa2
set_option linter.unusedVariables false
set_option linter.unusedSimpArgs false
namespace Go.SL
namespace Saw
theorem qPl (p q:qA):qAd p q=some (decide (pLt p q)):=by
 unfold qAd TX pLt;by_cases h1:p.X<q.X
 ·simp[h1]
 ·by_cases h2:p.X=q.X
  ·simp[h1,h2]
  ·have:(p.X==q.X)=false:=by simpa using h2
   simp[h1,h2,this]
theorem qKd (a l:List qA) (x:Nat) (hl:l.length<=1000000) (hx:x<a.length):∀(n k:Nat),l.length<k+n->k<=l.length->(∀j,j<k->pLt (l.getD j dd) (a.getD x dd))->
  ∃k',YW a l (x:Int) n (k:Int)=some ((k':Nat):Int)/\k'<=l.length/\(∀j,j<k'->pLt (l.getD j dd) (a.getD x dd))/\(k'<l.length->¬pLt (l.getD k' dd) (a.getD x dd))
 |0,k,h1,h2,_=>by omega
 |n+1,k,h1,h2,h3=>by
  unfold YW;by_cases hk:k<l.length
  ·rw[lt_t (by omega),qY (by omega),qY (by omega)];simp only[ko,ks,qPl,kd,LQ,zM (show k<4611686018427387904 by omega)];by_cases hp:pLt (l.getD k dd) (a.getD x dd)
   ·rw[ke hp];exact qKd a l x hl hx n (k+1) (by omega) (by omega) (λj hj=>by
     by_cases hjk:j=k
     ·subst hjk;exact hp
     ·exact h3 j (by omega))
   ·rw[kf hp];exact⟨k,rfl,h2,h3,λ_=>hp⟩
  ·rw[lt_f (by omega)];exact⟨k,rfl,h2,h3,λh=>absurd h hk⟩
theorem qDC {α:Type} [Inhabited α] {l:List α} {i:Nat} (h:i<l.length):l.getD i dd=l[i]:=by rw[ka,ki h];rfl
theorem qBT (a:List qA) (hl:a.length<=1000000):∀(n x:Nat) (l:List qA),a.length<x+n->x<=a.length->l.length<=x->wQ l->(∀p,p∈l↔p∈a.take x)->∃s,ZN a n l (x:Int)=some s/\wQ s/\(∀p,p∈s↔p∈a)/\s.length<=a.length
 |0,x,l,h1,h2,_,_,_=>by omega
 |n+1,x,l,h1,h2,h3,h4,h5=>by
  unfold ZN;by_cases hx:x<a.length
  ·obtain⟨k,e1,e2,e3,e4⟩:=qKd a l x (by omega) hx FUEL 0 (by rw[FUEL_eq];omega) (by omega) (λj hj=>by omega);have ht:a.take (x+1)=a.take x++[a.getD x dd]:=by rw[gC,ki hx,qDC hx];rfl
   rw[show((0:Nat):Int)=0 from rfl] at e1;rw[lt_t (by omega),e1];simp only[ko,kd,ME,FN,ks,zM (show x<4611686018427387904 by omega)];have s1:slOk 0 ((k:Nat):Int) l.length=true:=by unfold slOk;exact ke ⟨by omega,by omega,by omega⟩
   have s2:slOk ((k:Nat):Int) (l.length:Int) l.length=true:=by unfold slOk;exact ke ⟨by omega,by omega,by omega⟩
   rw[s1,s2,WD (n:=0+k) (by omega),WD (n:=0+k+1) (by omega),WD (n:=0+k+1+(l.length-k)) (by omega),qY (i:=(x:Int)) (by omega)];simp only[ko,uv];have hins:¬(k<l.length/\peq (l.getD k dd) (a.getD x dd)=true)->∃s,ZN a n (l.take k++[a.getD x dd]++(l.drop k).take (l.length-k)) ((x+1:Nat):Int)=some s/\wQ s/\(∀p,p∈s↔p∈a)/\s.length<=a.length:=by
    intro hne;have hdr:(l.drop k).take (l.length-k)=l.drop k:=uR (by simp);rw[hdr];have hall:∀p∈l.drop k,pLt (a.getD x dd) p:=by
     intro p hp;obtain⟨j,hj,rfl⟩:=uI.1 hp;rw[uh] at hj;rw[List.getElem_drop];have hk:k<l.length:=by omega
     have hc:pLt (a.getD x dd) (l.getD k dd):=by
      rcases pLt_tri (l.getD k dd) (a.getD x dd) with h|h|h
      ·exact absurd h (e4 hk)
      ·exact absurd ⟨hk,qFs.2 h⟩ hne
      ·exact h
     rw[qDC hk] at hc;by_cases hj0:j=0
     ·subst hj0;exact hc
     ·have h4':=gt.1 h4;exact ET hc (h4' k (k+j) hk (by omega) (by omega))
    have htk:∀p∈l.take k,pLt p (a.getD x dd):=by
     intro p hp;obtain⟨j,hj,rfl⟩:=gO.1 hp;have:=e3 j (by omega)
     rwa [qDC (by omega)] at this
    refine qBT a hl n (x+1) _ (by omega) (by omega) (by simp;omega) ?_ (λp=>?_)
    ·refine List.pairwise_append.2 ⟨List.pairwise_append.2 ⟨h4.take,List.pairwise_singleton _ _,λp hp q hq=>?_⟩,h4.drop,λp hp q hq=>?_⟩
     ·rw[uA] at hq;subst hq;exact htk p hp
     ·rcases uw.1 hp with hp|hp
      ·exact ET (htk p hp) (hall q hq)
      ·rw[uA] at hp;subst hp;exact hall q hq
    ·rw[ht,uw,uw,uw,<-h5 p];have:p∈l↔p∈l.take k\/p∈l.drop k:=by rw[<-uw,List.take_append_drop]
     rw[this];constructor
     ·rintro((h|h)|h)
      ·exact .inl (.inl h)
      ·exact .inr h
      ·exact .inl (.inr h)
     ·rintro((h|h)|h)
      ·exact .inl (.inl h)
      ·exact .inr h
      ·exact .inl (.inr h)
   by_cases hk:k<l.length
   ·rw[lt_t (by omega),qY (by omega)];simp only[ko];cases hp:peq (l.getD k dd) (a.getD x dd) with
    |true=>
     have hp':=hp;unfold peq at hp';rw[hp'];simp only[ko];refine qBT a hl n (x+1) l (by omega) (by omega) (by omega) h4 (λp=>?_);rw[ht,uw,<-h5 p,uA];refine⟨.inl,λh=>h.elim id λe=>?_⟩;rw[e,<-qFs.1 hp];exact zU hk
    |false=>
     have hp':=hp;unfold peq at hp';rw[hp'];simp only[ku];exact hins (λh=>by rw[hp] at h;cases h.2)
   ·rw[lt_f (by omega)];simp only[ku];exact hins (λh=>hk h.1)
  ·rw[lt_f (by omega)];rw[uR (by omega)] at h5;exact⟨l,rfl,h4,h5,by omega⟩
def srt (a:List qA):List qA:=ddT (DT pLe a) (DT pLe a).length
theorem qQy (x y z:qA) (h1:pLe x y=true) (h2:pLe y z=true):pLe x z=true:=by
 rw[pLe_iff] at*;rcases h1 with h1|rfl
 ·rcases h2 with h2|rfl
  ·exact .inl (ET h1 h2)
  ·exact .inl h1
 ·exact h2
theorem qPj (x y:qA):pLe x y=true\/pLe y x=true:=by
 rw[pLe_iff,pLe_iff];rcases pLt_tri x y with h|h|h
 ·exact .inl (.inl h)
 ·exact .inl (.inr h)
 ·exact .inr (.inl h)
theorem VZ (a:List qA):wQ (srt a):=qC1 _ (qAl qQy qPj a) _ (kr _)
theorem GD (a:List qA) (p:qA):p∈srt a↔p∈a:=by
 unfold srt;rw[qJp _ _ (kr _),List.take_length];exact(FH pLe a).mem_iff
theorem qFp (a:List qA):(srt a).length<=a.length:=by
 have:=qJl (DT pLe a) (DT pLe a).length;have h2:=(FH pLe a).length_eq;unfold srt;omega
theorem qLv (a:List qA) (hl:a.length<=1000000):CO a=some (srt a):=by
 unfold CO;obtain⟨s,e1,e2,e3,_⟩:=qBT a hl FUEL 0 [] (by rw[FUEL_eq];omega) (by omega) (by simp) List.Pairwise.nil (λp=>by simp);rw[show((0:Nat):Int)=0 from rfl] at e1;rw[e1,kd]
 congr 1
 exact qDW e2 (VZ a) (λp=>by rw[e3,GD])
def turnP (q:Nat) (p:qA):qA:=match q with
 |0=>p
 |1=>⟨-p.Y,p.X⟩
 |2=>⟨-p.X,-p.Y⟩
 |_=>⟨p.Y,-p.X⟩
def canT (p:qA):Bool:=!(p.X== -9223372036854775808)&&!(p.Y== -9223372036854775808)
def turns (a:List qA) (q:Nat):List qA:=bif a.all canT then a.map (turnP q) else[]
def popR :List qA->qA->List qA
 |t::s::r,c=>if cross s t c<=0 then popR (s::r) c else t::s::r
 |l,_=>l
theorem qHd (c:qA):∀st,(popR st c).length<=st.length
 |[]=>kr _
 |[_]=>kr _
 |t::s::r=>by
  unfold popR;split
  ·have:=qHd c (s::r);simp at this⊢;omega
  ·exact kr _
theorem qGY (c:qA):∀st p,p∈popR st c->p∈st
 |[],_,h=>h
 |[_],_,h=>h
 |t::s::r,p,h=>by
  unfold popR at h;split at h
  ·exact kG _ (qGY c (s::r) p h)
  ·exact h
def wU (st:List qA) (c:qA):List qA:=c::popR st c
def chainR (a:List qA):List qA:=a.foldl wU []
theorem two_top (t s:qA) (r:List qA):((t::s::r).reverse).getD r.length dd=s/\((t::s::r).reverse).getD (r.length+1) dd=t/\((t::s::r).reverse).take (r.length+1)=(s::r).reverse:=by
 simp only[kM,kL,uH,uv];refine⟨?_,?_,?_⟩
 ·rw[ka,kA (by simp)];simp
 ·rw[ka,kA (by simp)];simp
 ·rw[List.take_append,uR (by simp)];simp
theorem qMS (a:List qA) (x:Nat) (hx:x<a.length) (hc:rng (a.getD x dd)):∀(n:Nat) (st:List qA),st.length<n->st.length<=1000000->(∀p∈st,rng p)->
  ZU a (x:Int) n st.reverse=some (popR st (a.getD x dd)).reverse/\XR a (x:Int) n st.reverse=some (popR st (a.getD x dd)).reverse
 |0,st,h,_,_=>by omega
 |n+1,[],_,_,_=>⟨rfl,rfl⟩
 |n+1,[t],_,_,_=>⟨rfl,rfl⟩
 |n+1,t::s::r,h,hl,hr=>by
  have hs:rng s:=hr s (by simp);have ht:rng t:=hr t (by simp);obtain⟨g1,g2,g3⟩:=two_top t s r;have hlen:((t::s::r).reverse).length=r.length+2:=by simp
  simp only[uV] at h hl;have e1:w64 (((r.length+2:Nat):Int)-2)=(r.length:Int):=by rw[qR (by omega)];omega
  have e2:w64 (((r.length+2:Nat):Int)-1)=((r.length+1:Nat):Int):=by rw[qR (by omega)];omega
  have hsl:slOk 0 ((r.length+1:Nat):Int) (r.length+2)=true:=by unfold slOk;exact ke ⟨by omega,by omega,by omega⟩
  obtain⟨ih1,ih2⟩:=qMS a x hx hc n (s::r) (by simp;omega) (by simp;omega) (λp hp=>hr p (kG _ hp));unfold ZU XR DZ MT popR;rw[hlen,e1,e2,ke (show((r.length+2:Nat):Int)≥2 by omega),ke (show((r.length+2:Nat):Int)>1 by omega),qY (i:=(r.length:Int)) (by omega),qY (i:=((r.length+1:Nat):Int)) (by omega),qY (i:=(x:Int)) (by omega),hsl];simp only[ko,ks,g1,g2,g3,(qMa hs ht hc).1,(qMa hs ht hc).2,kd,ih1,ih2];by_cases hcr:cross s t (a.getD x dd)<=0
  ·rw[ke hcr,if_pos hcr];exact⟨rfl,rfl⟩
  ·rw[kf hcr,if_neg hcr];exact⟨rfl,rfl⟩
theorem qLz (a:List qA) (hr:∀p∈a,rng p) (hl:a.length<=1000000):∀(n x:Nat) (st:List qA),a.length<x+n->x<=a.length->st.length<=x->(∀p∈st,rng p)->
  RA a n st.reverse (x:Int)=some ((a.drop x).foldl wU st).reverse/\GJ a n st.reverse (x:Int)=some ((a.drop x).foldl wU st).reverse
 |0,x,st,h1,h2,_,_=>by omega
 |n+1,x,st,h1,h2,h3,h4=>by
  unfold RA GJ;by_cases hx:x<a.length
  ·have hc:rng (a.getD x dd):=hr _ (zU hx);obtain⟨p1,p2⟩:=qMS a x hx hc FUEL st (by rw[FUEL_eq];omega) (by omega) h4;have hp:=qHd (a.getD x dd) st;obtain⟨ih1,ih2⟩:=qLz a hr hl n (x+1) (wU st (a.getD x dd)) (by omega) (by omega) (by unfold wU;rw[uV];omega) (λp hp'=>by
    unfold wU at hp';rcases ua.1 hp' with rfl|hp'
    ·exact hc
    ·exact h4 p (qGY _ _ _ hp'))
   rw[lt_t (by omega),qY (by omega),p1,p2,PE a x hx];simp only[ko,kd,kU,WD (n:=(popR st (a.getD x dd)).length+1) (b:=16) (by omega),ks,zM (show x<4611686018427387904 by omega),uG];unfold wU at ih1 ih2⊢;rw[kM] at ih1 ih2;exact⟨ih1,ih2⟩
  ·rw[lt_f (by omega),uC (by omega)];exact⟨rfl,rfl⟩
theorem qCp :∀(a st:List qA),(a.foldl wU st).length<=a.length+st.length
 |[],st=>by simp
 |c::a,st=>by
  have h1:=qCp a (wU st c);have h2:=qHd c st;unfold wU at h1;simp only[uG,uV] at h1⊢;unfold wU;omega
theorem yO (a:List qA):(chainR a).length<=a.length:=by have:=qCp a [];simpa[chainR] using this
theorem qDV :∀(a st:List qA),st≠[]\/a≠[]->a.foldl wU st≠[]
 |[],st,h=>by simpa using h
 |c::a,st,_=>qDV a (wU st c) (.inl (by unfold wU;simp))
theorem WG {a:List qA} (h:a≠[]):0<(chainR a).length:=kT.2 (qDV a [] (.inr h))
theorem qDw (a:List qA) (hr:∀p∈a,rng p) (hl:a.length<=1000000):(a≠[]->GF a=some (chainR a).tail.reverse)/\EK a=some (chainR a).reverse:=by
 obtain⟨h1,h2⟩:=qLz a hr hl FUEL 0 [] (by rw[FUEL_eq];omega) (by omega) (by simp) (λp hp=>by cases hp);rw[show((0:Nat):Int)=0 from rfl,uF,List.reverse_nil] at h1 h2;unfold GF EK;rw[h1,h2];refine⟨λhne=>?_,rfl⟩;have hp:=WG hne;have hle:=yO a;change 0<(a.foldl wU []).length at hp;change (a.foldl wU []).length<=a.length at hle;have e2:w64 ((((a.foldl wU []).reverse.length:Nat):Int)-1)=(((a.foldl wU []).length-1:Nat):Int):=by rw[kU,qR (by omega)];omega
 have hsl:slOk 0 (((a.foldl wU []).length-1:Nat):Int) (a.foldl wU []).reverse.length=true:=by unfold slOk;rw[kU];exact ke ⟨by omega,by omega,by omega⟩
 simp only[kd,e2,hsl,ko,ks];unfold chainR;generalize a.foldl wU []=st at hp;cases st with
 |nil=>simp at hp
 |cons t r=>simp
theorem qLK (l:List qA) (hl:l.length<=1000000):∀(n i j:Nat) (t:List qA),l.length<2*i+2*n->i<=j+1->i+j+1=l.length->t.length=l.length->(∀k,k<l.length->(k<i\/j<k)->t.getD k dd=l.getD (l.length-1-k) dd)->(∀k,i<=k->k<=j->t.getD k dd=l.getD k dd)->
  jE n t (i:Int) (j:Int)=some l.reverse
 |0,i,j,t,h1,h2,h3,_,_,_=>by omega
 |n+1,i,j,t,h1,h2,h3,h4,h5,h6=>by
  unfold jE;by_cases hij:i<j
  ·have e1:w64 ((j:Int)-1)=((j-1:Nat):Int):=by rw[qR (by omega)];omega
   rw[lt_t (by omega),qY (i:=(j:Int)) (by omega),qY (i:=(i:Int)) (by omega),e1];simp only[ko,ks,zM (show i<4611686018427387904 by omega)];refine qLK l hl n (i+1) (j-1) _ (by omega) (by omega) (by omega) (by simp[h4]) (λk hk hkk=>?_) (λk hk1 hk2=>?_)
   ·by_cases hkj:k=j
    ·subst hkj;rw[qGo _ (by simp;omega),h6 i (by omega) (by omega)]
     congr 1;omega
    ·rw[DO _ (λe=>hkj e.symm)];by_cases hki:k=i
     ·subst hki;rw[qGo _ (by omega),h6 j (by omega) (by omega)]
      congr 1;omega
     ·rw[DO _ (λe=>hki e.symm)];exact h5 k hk (by omega)
   ·rw[DO _ (by omega),DO _ (by omega)];exact h6 k (by omega) (by omega)
  ·rw[lt_f (by omega)];have:t=l.reverse:=by
    refine qHk (by simp[h4]) (λk hk=>?_);rw[ka (l:=l.reverse),List.getElem?_reverse (by omega),<-ka];by_cases hkk:k<i\/j<k
    ·exact h5 k (by omega) hkk
    ·rw[h6 k (by omega) (by omega)];congr 1;omega
   rw[this];rfl
theorem rev_eq (l:List qA) (hne:l≠[]) (hl:l.length<=1000000):yB l=some l.reverse:=by
 have hp:0<l.length:=kT.2 hne;unfold yB;have h:=qLK l hl FUEL 0 (l.length-1) l (by rw[FUEL_eq];omega) (by omega) (by omega) rfl (λk hk h=>by omega) (λ_ _ _=>rfl);rw[show((0:Nat):Int)=0 from rfl] at h;rw[show w64 ((l.length:Int)-1)=((l.length-1:Nat):Int) by rw[qR (by omega)];omega,h];rfl
theorem qGg (l:List qA) (h:l.length<=1000000):∀(n x:Nat) (t:List qA),x<n->x<=l.length->t=(l.drop x).reverse->YL l n t ((x:Int)-1)=some l.reverse
 |0,x,t,h1,h2,_=>by omega
 |n+1,0,t,h1,h2,h3=>by
  unfold YL;rw[kf (by omega),h3];rfl
 |n+1,x+1,t,h1,h2,h3=>by
  unfold YL;have hx:x<l.length:=by omega
  have ht:t.length<=1000000:=by rw[h3];simp;omega
  have e0:(((x+1:Nat):Int)-1)=(x:Int):=by omega
  have e4:w64 ((x:Int)-1)=(x:Int)-1:=qR (by omega);rw[e0,ke (by omega),qY (by omega),WD (by omega)];simp only[ko,ks,e4];refine qGg l h n x _ (by omega) (by omega) ?_;rw[PE l x hx,kM,h3]
def hullOf (s:List qA):List qA:=if(chainR s).length+(chainR s.reverse).length<5 then[] else(chainR s).tail.reverse++(chainR s.reverse).tail.reverse
def hull (a:List qA):List qA:=bif decide ((a.length:Int)>32) then[] else bif a.all inRange then hullOf (srt a) else[]
theorem qLo {s:List qA} (h:s.length<3):hullOf s=[]:=by
 have h1:=yO s;have h2:=yO s.reverse;rw[kU] at h2;unfold hullOf;rw[if_pos (by omega)]
theorem qOE (a:List qA):qC8 a=some (hull a):=by
 unfold qC8 hull IN;by_cases h:(a.length:Int)>32
 ·simp[h]
 rw[kf h,qEo a (by omega)];simp only[ku,kd];cases hr:a.all inRange with
 |false=>rfl
 |true=>
  have hrng:∀p∈srt a,rng p:=λp hp=>RS.1 (kw.1 hr p ((GD a p).1 hp));have hsl:=qFp a;have c1:=(qDw (srt a) hrng (by omega)).2;have c2:=(qDw (srt a).reverse (λp hp=>hrng p (by simpa using hp)) (by simp;omega)).2;have hrv:YL (srt a) FUEL [] (w64 (((srt a).length:Int)-1))=some (srt a).reverse:=by
   rw[qR (by omega)];exact qGg (srt a) (by omega) FUEL (srt a).length [] (by rw[FUEL_eq];omega) (kr _) (by simp)
  rw[qLv a (by omega)];simp only[kV,ku,ko,kd,hrv,c1,c2];have l1:=yO (srt a);have l2:=yO (srt a).reverse;rw[kU] at l2;simp only[kU];rw[qR (n:=((chainR (srt a)).length:Int)+((chainR (srt a).reverse).length:Int)) (by omega)];unfold hullOf;by_cases h5:(chainR (srt a)).length+(chainR (srt a).reverse).length<5
  ·rw[if_pos h5,lt_t (by omega)];rfl
  ·rw[if_neg h5,lt_f (by omega)];have hne:srt a≠[]:=λe=>by rw[e] at h5;simp[chainR] at h5
   have p1:=WG hne;have p2:=WG (a:=(srt a).reverse) (by simpa using hne);have e1:w64 (((chainR (srt a)).length:Int)-1)=(((chainR (srt a)).length-1:Nat):Int):=by rw[qR (by omega)];omega
   have e2:w64 (((chainR (srt a).reverse).length:Int)-1)=(((chainR (srt a).reverse).length-1:Nat):Int):=by rw[qR (by omega)];omega
   have s1:slOk 0 (((chainR (srt a)).length-1:Nat):Int) (chainR (srt a)).length=true:=by unfold slOk;exact ke ⟨by omega,by omega,by omega⟩
   have s2:slOk 0 (((chainR (srt a).reverse).length-1:Nat):Int) (chainR (srt a).reverse).length=true:=by unfold slOk;exact ke ⟨by omega,by omega,by omega⟩
   rw[e1,e2,s1,s2,WD (by simp;omega),WD (by simp;omega)];simp only[ku,ko,ks,uv]
   congr 1
   have tk:∀st:List qA,0<st.length->st.reverse.take (st.length-1)=st.tail.reverse:=λst hst=>by
    cases st with
    |nil=>simp at hst
    |cons t r=>simp
   rw[tk _ p1,tk _ p2]
theorem qNF (a:List qA):AV a=some (hull a):=by
 unfold AV hull UI;by_cases h3:(a.length:Int)<3
 ·have hs:hullOf (srt a)=[]:=qLo (by have:=qFp a;omega);rw[ke h3,kf (show¬(a.length:Int)>32 by omega),hs];cases a.all inRange<;>rfl
 by_cases h:(a.length:Int)>32
 ·simp[h,h3]
 rw[kf h,kf h3,qDA a (by omega)];simp only[ku,kd];cases hr:a.all inRange with
 |false=>rfl
 |true=>
  have hrng:∀p∈srt a,rng p:=λp hp=>RS.1 (kw.1 hr p ((GD a p).1 hp));have hsl:=qFp a;have hpl:=(FH pLe a).length_eq;have hane:a≠[]:=λe=>by rw[e] at h3;simp at h3
  have hne:srt a≠[]:=λe=>by
   obtain⟨p,hp⟩:=List.exists_mem_of_ne_nil a hane;have:=(GD a p).2 hp;rw[e] at this;cases this
  have c1:=(qDw (srt a) hrng (by omega)).1 hne;have c2:=(qDw (srt a).reverse (λp hp=>hrng p (by simpa using hp)) (by simp;omega)).1 (by simpa using hne);have hso:qEH a.length=true:=by unfold qEH;rw[kp,kS,kS];omega
  have hcl:QI a=some a:=by unfold QI;rw[WD (by omega)];rfl
  have hst:jQ a=some (DT pLe a):=by unfold jQ;rw[hso,sort_eq];rfl
  have hco:jC (DT pLe a)=some (srt a,srt a):=qOL (DT pLe a) (by omega);have l1:=yO (srt a);have l2:=yO (srt a).reverse;rw[kU] at l2;have p1:=WG hne;have p2:=WG (a:=(srt a).reverse) (by simpa using hne);simp only[kV,ku,ko,hcl,hst,hco,kd,hpl,gh,c1,rev_eq _ hne (show(srt a).length<=1000000 by omega),c2,kU,List.length_tail];rw[WD (by omega)];unfold hullOf;by_cases h5:(chainR (srt a)).length+(chainR (srt a).reverse).length<5
  ·rw[if_pos h5,lt_t (by omega)];rfl
  ·rw[if_neg h5,lt_f (by omega)];rfl
theorem qOU (s:List qA):(hullOf s).length<=s.length+s.length:=by
 have h1:=yO s;have h2:=yO s.reverse;rw[kU] at h2;unfold hullOf;split
 ·simp
 ·simp;omega
theorem qQC (a:List qA):(hull a).length<=a.length+a.length:=by
 have h1:=qOU (srt a);have h2:=qFp a;unfold hull;cases decide ((a.length:Int)>32) with
 |true=>simp
 |false=>cases a.all inRange with
  |true=>simp only[ku,ko];omega
  |false=>simp
def pos (x y:Int):Prop:=0<x\/(x=0/\0<y)
theorem NV {ux uy vx vy wx wy:Int} (hu:pos ux uy) (hv:pos vx vy) (hw:pos wx wy) (h1:0<=ux*vy-vx*uy) (h2:0<=vx*wy-wx*vy):0<=ux*wy-wx*uy:=by
 unfold pos at*;have hux:0<=ux:=by omega
 have hwx:0<=wx:=by omega
 rcases hv with hv|⟨hv,hvy⟩
 ·have e:(ux*wy-wx*uy)*vx=(ux*vy-vx*uy)*wx+(vx*wy-wx*vy)*ux:=by grind
  have h3:0<=(ux*wy-wx*uy)*vx:=by rw[e];exact Int.add_nonneg (ky h1 hwx) (ky h2 hux)
  exact Int.nonneg_of_mul_nonneg_left h3 hv
 ·subst hv;have h4:0<=-(wx*vy):=by simpa using h2
  have hw0:wx=0:=by
   rcases gW hwx with h|h
   ·have:=uY h hvy;omega
   ·exact h.symm
  subst hw0;have hwy:0<wy:=by omega
  have:=ky hux (gX hwy);simpa using this
theorem QL {p q:qA} (h:pLt p q):pos (q.X-p.X) (q.Y-p.Y):=by unfold pLt at h;unfold pos;omega
theorem qEM (p q:qA):cross p q p=0:=by unfold cross;grind
theorem qLt (p q:qA):cross p q q=0:=by unfold cross;grind
theorem turn_b {s t c p:qA} (hst:pLt s t) (hsc:pLt s c) (hsp:pLt s p) (h1:cross s t c<=0) (h2:0<=cross s t p):0<=cross s c p:=by
 unfold cross at*;exact NV (QL hsc) (QL hst) (QL hsp) (by omega) h2
theorem turn_c {s t c p:qA} (hst:pLt s t) (htc:pLt t c) (hpt:pLt p t) (h1:0<cross s t c) (h2:0<=cross s t p):0<=cross t c p:=by
 have h3:=NV (ux:=t.X-p.X) (uy:=t.Y-p.Y) (vx:=t.X-s.X) (vy:=t.Y-s.Y) (wx:=c.X-t.X) (wy:=c.Y-t.Y) (QL hpt) (QL hst) (QL htc)
  (by unfold cross at h2;grind) (by unfold cross at h1;grind)
 unfold cross
 grind
def Left (pts:List qA):List qA->Prop
 |v::u::r=>(∀p∈pts,0<=cross u v p)/\Left pts (u::r)
 |_=>True
def OL :List qA->Prop
 |c::t::s::r=>0<cross s t c/\OL (t::s::r)
 |_=>True
theorem qLM (pts:List qA) (c:qA) (hc:∀p∈pts,pLt p c):∀(st:List qA),st.Pairwise (λa b=>pLt b a)->(∀p∈st,p∈pts)->Left pts st->OL st->(∀t r,st=t::r->∀p∈pts,pLt t p->0<=cross t c p)->(∀t,st.getLast? =some t->∀p∈pts,p=t\/pLt t p)->
  Left pts (c::popR st c)/\OL (c::popR st c)
 |[],_,_,_,_,_,_=>⟨trivial,trivial⟩
 |[t],_,hm,_,_,hq,hb=>by
  refine⟨⟨λp hp=>?_,trivial⟩,trivial⟩;rcases hb t rfl p hp with rfl|h
  ·rw[qEM];exact kZ _
  ·exact hq t [] rfl p hp h
 |t::s::r,hs,hm,hl,ht,hq,hb=>by
  obtain⟨s1,s2⟩:=kO.1 hs;have hst:pLt s t:=s1 s kN;obtain⟨l1,l2⟩:=hl;have htc:=hc t (hm t kN);unfold popR;by_cases hcr:cross s t c<=0
  ·rw[if_pos hcr];refine qLM pts c hc (s::r) s2 (λp hp=>hm p (kG _ hp)) l2 (by cases r with|nil=>trivial|cons u r=>exact ht.2) (λt' r' he p hp hsp=>?_) (λt' he p hp=>hb t' (by rw[uO];exact he) p hp);cases he;exact turn_b hst (hc s (hm s (by simp))) hsp hcr (l1 p hp)
  ·rw[if_neg hcr];refine⟨⟨λp hp=>?_,l1,l2⟩,by omega,ht⟩;rcases pLt_tri p t with h|h|h
   ·exact turn_c hst htc h (by omega) (l1 p hp)
   ·rw[h,qEM];exact kZ _
   ·exact hq t _ rfl p hp h
abbrev Desc (st:List qA):Prop:=st.Pairwise (λa b=>pLt b a)
structure Inv (pts st:List qA):Prop where
 desc:Desc st
 sub:∀p∈st,p∈pts
 left:Left pts st
 turns:OL st
 top:∀t r,st=t::r->∀p∈pts,p=t\/pLt p t
 bot:∀t,st.getLast? =some t->∀p∈pts,p=t\/pLt t p
theorem qFj (c:qA):∀st,Desc st->Desc (popR st c)
 |[],h=>h
 |[_],h=>h
 |t::s::r,h=>by
  unfold popR;split
  ·exact qFj c (s::r) (kO.1 h).2
  ·exact h
theorem qEZ (c:qA):∀st,(popR st c).getLast? =st.getLast?
 |[]=>rfl
 |[_]=>rfl
 |t::s::r=>by
  unfold popR;split
  ·rw[qEZ c (s::r),uO]
  ·rfl
theorem qLZ {a b:List qA}:∀{st:List qA},Left a st->Left b st->Left (a++b) st
 |[],_,_=>trivial
 |[_],_,_=>trivial
 |v::u::r,⟨h1,h2⟩,⟨h3,h4⟩=>⟨λp hp=>(uw.1 hp).elim (h1 p) (h3 p),qLZ h2 h4⟩
theorem qMR (c:qA):∀st,Desc st->(∀p∈st,pLt p c)->OL st->(∀v u r,st=v::u::r->0<=cross u v c)->Left [c] st
 |[],_,_,_,_=>trivial
 |[_],_,_,_,_=>trivial
 |v::u::r,hd,hc,ht,h0=>by
  have h1:=h0 v u r rfl;obtain⟨d1,d2⟩:=kO.1 hd;refine⟨λp hp=>by rw[uA.1 hp];exact h1,qMR c (u::r) d2 (λp hp=>hc p (kG _ hp)) (by cases r with|nil=>trivial|cons x r=>exact ht.2) (λv' u' r' he=>?_)⟩;cases he;obtain⟨t1,_⟩:=ht;have huv:pLt u v:=d1 u kN;have hxu:pLt u' u:=(kO.1 d2).1 u' kN;have huc:pLt u c:=hc u (by simp);have:=NV (QL hxu) (QL huv) (QL huc) (by unfold cross at t1;grind) (by unfold cross at h1;grind);unfold cross
  grind
theorem Inv.push {pts st:List qA} (h:Inv pts st) {c:qA} (hc:∀p∈pts,pLt p c) (hne:pts≠[]->st≠[]):Inv (pts++[c]) (wU st c):=by
 have hp:=qLM pts c hc st h.desc h.sub h.left h.turns (λt r he p hp htp=>by
  rcases h.top t r he p hp with rfl|h1
  ·exact absurd htp (pLt_irrefl _)
  ·exact absurd htp (pLt_asymm h1)) h.bot
 have hsub:∀p∈popR st c,p∈pts:=λp hp=>h.sub p (qGY c st p hp);have hlt:∀p∈popR st c,pLt p c:=λp hp=>hc p (hsub p hp);have hdesc:Desc (wU st c):=kO.2 ⟨hlt,qFj c st h.desc⟩;refine⟨hdesc,λp hp'=>?_,qLZ hp.1 ?_,hp.2,λt r he p hp'=>?_,λt he p hp'=>?_⟩
 ·rcases ua.1 hp' with rfl|hp'
  ·simp
  ·exact List.mem_append_left _ (hsub p hp')
 ·have hl:Left [c] (popR st c):=by
   refine qMR c _ (qFj c st h.desc) hlt ?_ (λv u r he=>?_)
   ·have:=hp.2;generalize popR st c=q at this
    match q,this with
    |[],_=>trivial
    |[_],_=>trivial
    |[_,_],_=>trivial
    |_::_::_::_,this=>exact this.2
   ·have:=hp.2;rw[he] at this;exact gX this.1
  unfold wU;generalize popR st c=q at hl
  match q,hl with
  |[],_=>trivial
  |t::r,hl=>exact⟨λp hp=>by rw[uA.1 hp,qLt];exact kZ _,hl⟩
 ·cases he;rcases uw.1 hp' with h1|h1
  ·exact .inr (hc p h1)
  ·exact .inl (uA.1 h1)
 ·unfold wU at he;by_cases hst:st=[]
  ·subst hst;have hpts:pts=[]:=Classical.byContradiction λhh=>hne hh rfl;subst hpts;simp[popR] at he;subst he;exact .inl (by simpa using hp')
  ·have hpe:popR st c≠[]:=λe=>by
    have:=qEZ c st;rw[e] at this;exact hst (List.getLast?_eq_none_iff.1 this.symm)
   have he':st.getLast? =some t:=by
    obtain⟨x,q,hq⟩:=uU hpe;rw[<-qEZ c st,hq];rw[hq,uO] at he;exact he
   rcases uw.1 hp' with h1|h1
   ·exact h.bot t he' p h1
   ·rw[uA.1 h1];exact .inr (hc t (h.sub t (gv he')))
theorem qMH :∀(rest pts st:List qA),Inv pts st->(pts≠[]->st≠[])->(∀p∈pts,∀q∈rest,pLt p q)->wQ rest->Inv (pts++rest) (rest.foldl wU st)
 |[],pts,st,h,_,_,_=>by simpa using h
 |c::rest,pts,st,h,hne,hlt,hs=>by
  obtain⟨s1,s2⟩:=kO.1 hs;have:=qMH rest (pts++[c]) (wU st c) (h.push (λp hp=>hlt p hp c kN) hne) (λ_=>by unfold wU;simp) (λp hp q hq=>by
   rcases uw.1 hp with h1|h1
   ·exact hlt p h1 q (kG _ hq)
   ·rw[uA.1 h1];exact s1 q hq) s2
  rw[kL] at this;exact this
theorem NQ {s:List qA} (hs:wQ s):Inv s (chainR s):=by
 have:=qMH s [] [] ⟨List.Pairwise.nil,λp hp=>(by cases hp),trivial,trivial,λt r he=>(by cases he),λt he=>(by cases he)⟩ (λh=>absurd rfl h) (λp hp=>by cases hp) hs;simpa[chainR] using this
def ng (p:qA):qA:=⟨-p.X,-p.Y⟩
theorem qHX (p:qA):ng (ng p)=p:=by unfold ng;simp
theorem UK (p q r:qA):cross (ng p) (ng q) (ng r)=cross p q r:=by unfold cross ng;grind
theorem qCR {p q:qA}:pLt (ng p) (ng q)↔pLt q p:=by unfold pLt ng;simp only;omega
theorem qOw (c:qA):∀st,popR (st.map ng) (ng c)=(popR st c).map ng
 |[]=>rfl
 |[_]=>rfl
 |t::s::r=>by
  have ih:=qOw c (s::r);simp only[uE] at ih⊢;rw[popR,popR,UK];split
  ·exact ih
  ·simp
theorem qOi :∀(l st:List qA),(l.map ng).foldl wU (st.map ng)=(l.foldl wU st).map ng
 |[],st=>rfl
 |c::l,st=>by
  have:=qOi l (wU st c);simp only[uE,uG];rw[<-this];unfold wU;rw[qOw,uE]
theorem qBB (l:List qA):chainR (l.map ng)=(chainR l).map ng:=qOi l []
theorem qOl {pts:List qA}:∀{st:List qA},Left (pts.map ng) (st.map ng)->Left pts st
 |[],_=>trivial
 |[_],_=>trivial
 |v::u::r,⟨h1,h2⟩=>⟨λp hp=>by have:=h1 (ng p) (gy hp);rwa [UK] at this,qOl h2⟩
theorem qL5 :∀{st:List qA},OL (st.map ng)->OL st
 |[],_=>trivial
 |[_],_=>trivial
 |[_,_],_=>trivial
 |c::t::s::r,⟨h1,h2⟩=>⟨by rwa [UK] at h1,qL5 h2⟩
theorem qM1 {a b:List qA} (h:∀p,p∈b->p∈a):∀{st:List qA},Left a st->Left b st
 |[],_=>trivial
 |[_],_=>trivial
 |_::_::_,⟨h1,h2⟩=>⟨λp hp=>h1 p (h p hp),qM1 h h2⟩
structure Up (pts st:List qA):Prop where
 asc:wQ st
 sub:∀p∈st,p∈pts
 left:Left pts st
 turns:OL st
 top:∀t r,st=t::r->∀p∈pts,p=t\/pLt t p
 bot:∀t,st.getLast? =some t->∀p∈pts,p=t\/pLt p t
theorem qE7 {s:List qA} (hs:wQ s):Up s (chainR s.reverse):=by
 have hs':wQ (s.reverse.map ng):=by
  refine List.pairwise_map.2 (uX.2 ?_);exact hs.imp (λh=>qCR.2 h)
 have hi:=NQ hs';have he:chainR (s.reverse.map ng)=(chainR s.reverse).map ng:=qBB _;rw[he] at hi;have hmem:∀p,p∈s->ng p∈s.reverse.map ng:=λp hp=>gy (by simpa using hp);have inj:∀p q,ng p=ng q->p=q:=λp q h=>by rw[<-qHX p,h,qHX]
 refine⟨?_,λp hp=>?_,qOl (qM1 (λp hp=>?_) hi.left),qL5 hi.turns,λt r ht p hp=>?_,λt ht p hp=>?_⟩
 ·have:=hi.desc;rw[Desc,List.pairwise_map] at this;exact this.imp (λh=>qCR.1 h)
 ·have:=hi.sub (ng p) (gy hp);obtain⟨q,hq,e⟩:=ui.1 this;rw[<-inj _ _ e];simpa using hq
 ·obtain⟨q,hq,e⟩:=ui.1 hp;rw[<-e];exact hmem q hq
 ·rcases hi.top (ng t) (r.map ng) (by rw[ht];rfl) (ng p) (hmem p hp) with h|h
  ·exact .inl (inj _ _ h)
  ·exact .inr (qCR.1 h)
 ·rcases hi.bot (ng t) (by rw[List.getLast?_map,ht];rfl) (ng p) (hmem p hp) with h|h
  ·exact .inl (inj _ _ h)
  ·exact .inr (qCR.1 h)
def SV (pts:List qA):List qA->Prop
 |u::v::r=>(∀p∈pts,0<=cross u v p)/\SV pts (v::r)
 |_=>True
theorem qC9 {pts:List qA} {x:qA}:∀{a b:List qA},SV pts (a++[x])->SV pts (x::b)->SV pts (a++x::b)
 |[],_,_,h=>h
 |[_],_,h1,h2=>⟨h1.1,h2⟩
 |_::v::a,b,h1,h2=>⟨h1.1,qC9 (a:=v::a) h1.2 h2⟩
theorem SA {pts:List qA}:∀{st:List qA},Left pts st->SV pts st.reverse
 |[],_=>trivial
 |[_],_=>trivial
 |v::u::r,⟨h1,h2⟩=>by
  have ih:=SA h2;rw[kM] at ih;rw[kM,kM,kL];exact qC9 ih ⟨h1,trivial⟩
theorem qKc {pts:List qA}:∀{w:List qA},SV pts w->∀x,x+1<w.length->∀p∈pts,0<=cross (w.getD x dd) (w.getD (x+1) dd) p
 |[],_,x,h=>by simp at h
 |[_],_,x,h=>by simp at h
 |u::v::r,hl,0,_=>hl.1
 |u::v::r,hl,x+1,h=>by
  have:=qKc hl.2 x (by simpa using h);simpa using this
end Saw
end Go.SL

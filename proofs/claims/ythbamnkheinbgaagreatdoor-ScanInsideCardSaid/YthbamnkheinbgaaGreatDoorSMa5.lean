/- Poly's plain mathematics, part 5: the hull, as both compute it. -/
import Derived.Test.YthbamnkheinbgaaGreatDoorSMa4
import Derived.Test.YthbamnkheinbgaaGreatDoorSMa2
set_option linter.unusedVariables false
set_option linter.unusedSimpArgs false
namespace Go.SL
namespace Saw
theorem qNe (p q:qA):IT p q=some (decide (pLt p q)):=by
 unfold IT RD pLt;by_cases h1:p.X<q.X
 ·simp[h1]
 ·by_cases h2:p.X=q.X
  ·simp[h1,h2]
  ·have:(p.X==q.X)=false:=by simpa using h2
   simp[h1,h2,this]
theorem qIB (a l:List qA) (x:Nat) (hl:l.length<=1000000) (hx:x<a.length):∀(n k:Nat),l.length<k+n->k<=l.length->(∀j,j<k->pLt (l.getD j dd) (a.getD x dd))->
  ∃k',JV a l (x:Int) n (k:Int)=some ((k':Nat):Int)/\k'<=l.length/\(∀j,j<k'->pLt (l.getD j dd) (a.getD x dd))/\(k'<l.length->¬pLt (l.getD k' dd) (a.getD x dd))
 |0,k,h1,h2,_=>by omega
 |n+1,k,h1,h2,h3=>by
  unfold JV;by_cases hk:k<l.length
  ·rw[lt_t (by omega),qX (by omega),qX (by omega)];simp only[ko,ks,qNe,kd,NZ,zQ (show k<4611686018427387904 by omega)];by_cases hp:pLt (l.getD k dd) (a.getD x dd)
   ·rw[kg hp];exact qIB a l x hl hx n (k+1) (by omega) (by omega) (λj hj=>by
     by_cases hjk:j=k
     ·subst hjk;exact hp
     ·exact h3 j (by omega))
   ·rw[kf hp];exact⟨k,rfl,h2,h3,λ_=>hp⟩
  ·rw[lt_f (by omega)];exact⟨k,rfl,h2,h3,λh=>absurd h hk⟩
theorem MG {α:Type} [Inhabited α] {l:List α} {i:Nat} (h:i<l.length):l.getD i dd=l[i]:=by rw[ka,kq h];rfl
theorem qAx (a:List qA) (hl:a.length<=1000000):∀(n x:Nat) (l:List qA),a.length<x+n->x<=a.length->l.length<=x->wI l->(∀p,p∈l↔p∈a.take x)->∃s,QU a n l (x:Int)=some s/\wI s/\(∀p,p∈s↔p∈a)/\s.length<=a.length
 |0,x,l,h1,h2,_,_,_=>by omega
 |n+1,x,l,h1,h2,h3,h4,h5=>by
  unfold QU;by_cases hx:x<a.length
  ·obtain⟨k,e1,e2,e3,e4⟩:=qIB a l x (by omega) hx FUEL 0 (by rw[FUEL_eq];omega) (by omega) (λj hj=>by omega);have ht:a.take (x+1)=a.take x++[a.getD x dd]:=by rw[gB,kq hx,MG hx];rfl
   rw[show((0:Nat):Int)=0 from rfl] at e1;rw[lt_t (by omega),e1];simp only[ko,kd,NB,FF,ks,zQ (show x<4611686018427387904 by omega)];have s1:slOk 0 ((k:Nat):Int) l.length=true:=by unfold slOk;exact kg ⟨by omega,by omega,by omega⟩
   have s2:slOk ((k:Nat):Int) (l.length:Int) l.length=true:=by unfold slOk;exact kg ⟨by omega,by omega,by omega⟩
   rw[s1,s2,JY (n:=0+k) (by omega),JY (n:=0+k+1) (by omega),JY (n:=0+k+1+(l.length-k)) (by omega),qX (i:=(x:Int)) (by omega)];simp only[ko,uu];have hins:¬(k<l.length/\peq (l.getD k dd) (a.getD x dd)=true)->∃s,QU a n (l.take k++[a.getD x dd]++(l.drop k).take (l.length-k)) ((x+1:Nat):Int)=some s/\wI s/\(∀p,p∈s↔p∈a)/\s.length<=a.length:=by
    intro hne;have hdr:(l.drop k).take (l.length-k)=l.drop k:=uV (by simp);rw[hdr];have hall:∀p∈l.drop k,pLt (a.getD x dd) p:=by
     intro p hp;obtain⟨j,hj,rfl⟩:=uI.1 hp;rw[ug] at hj;rw[List.getElem_drop];have hk:k<l.length:=by omega
     have hc:pLt (a.getD x dd) (l.getD k dd):=by
      rcases pLt_tri (l.getD k dd) (a.getD x dd) with h|h|h
      ·exact absurd h (e4 hk)
      ·exact absurd ⟨hk,qD4.2 h⟩ hne
      ·exact h
     rw[MG hk] at hc;by_cases hj0:j=0
     ·subst hj0;exact hc
     ·have h4':=uO.1 h4;exact HO hc (h4' k (k+j) hk (by omega) (by omega))
    have htk:∀p∈l.take k,pLt p (a.getD x dd):=by
     intro p hp;obtain⟨j,hj,rfl⟩:=gQ.1 hp;have:=e3 j (by omega)
     rwa [MG (by omega)] at this
    refine qAx a hl n (x+1) _ (by omega) (by omega) (by simp;omega) ?_ (λp=>?_)
    ·refine gv.2 ⟨gv.2 ⟨h4.take,List.pairwise_singleton _ _,λp hp q hq=>?_⟩,h4.drop,λp hp q hq=>?_⟩
     ·rw[uA] at hq;subst hq;exact htk p hp
     ·rcases um.1 hp with hp|hp
      ·exact HO (htk p hp) (hall q hq)
      ·rw[uA] at hp;subst hp;exact hall q hq
    ·rw[ht,um,um,um,<-h5 p];have:p∈l↔p∈l.take k\/p∈l.drop k:=by rw[<-um,List.take_append_drop]
     rw[this];constructor
     ·rintro((h|h)|h)
      ·exact .inl (.inl h)
      ·exact .inr h
      ·exact .inl (.inr h)
     ·rintro((h|h)|h)
      ·exact .inl (.inl h)
      ·exact .inr h
      ·exact .inl (.inr h)
   by_cases hk:k<l.length
   ·rw[lt_t (by omega),qX (by omega)];simp only[ko];cases hp:peq (l.getD k dd) (a.getD x dd) with
    |true=>
     have hp':=hp;unfold peq at hp';rw[hp'];simp only[ko];refine qAx a hl n (x+1) l (by omega) (by omega) (by omega) h4 (λp=>?_);rw[ht,um,<-h5 p,uA];refine⟨.inl,λh=>h.elim id λe=>?_⟩;rw[e,<-qD4.1 hp];exact qY hk
    |false=>
     have hp':=hp;unfold peq at hp';rw[hp'];simp only[ku];exact hins (λh=>by rw[hp] at h;cases h.2)
   ·rw[lt_f (by omega)];simp only[ku];exact hins (λh=>hk h.1)
  ·rw[lt_f (by omega)];rw[uV (by omega)] at h5;exact⟨l,rfl,h4,h5,by omega⟩
def srt (a:List qA):List qA:=ddT (GJ pLe a) (GJ pLe a).length
theorem qNC (x y z:qA) (h1:pLe x y=true) (h2:pLe y z=true):pLe x z=true:=by
 rw[pLe_iff] at*;rcases h1 with h1|rfl
 ·rcases h2 with h2|rfl
  ·exact .inl (HO h1 h2)
  ·exact .inl h1
 ·exact h2
theorem qNO (x y:qA):pLe x y=true\/pLe y x=true:=by
 rw[pLe_iff,pLe_iff];rcases pLt_tri x y with h|h|h
 ·exact .inl (.inl h)
 ·exact .inl (.inr h)
 ·exact .inr (.inl h)
theorem UG (a:List qA):wI (srt a):=qBN _ (zbQ qNC qNO a) _ (kr _)
theorem AJ (a:List qA) (p:qA):p∈srt a↔p∈a:=by
 unfold srt;rw[qHe _ _ (kr _),List.take_length];exact(NK pLe a).mem_iff
theorem qDX (a:List qA):(srt a).length<=a.length:=by
 have:=qHj (GJ pLe a) (GJ pLe a).length;have h2:=(NK pLe a).length_eq;unfold srt;omega
theorem qJy (a:List qA) (hl:a.length<=1000000):IR a=some (srt a):=by
 unfold IR;obtain⟨s,e1,e2,e3,_⟩:=qAx a hl FUEL 0 [] (by rw[FUEL_eq];omega) (by omega) (by simp) List.Pairwise.nil (λp=>by simp);rw[show((0:Nat):Int)=0 from rfl] at e1;rw[e1,kd]
 congr 1
 exact qCk e2 (UG a) (λp=>by rw[e3,AJ])
def turnP (q:Nat) (p:qA):qA:=match q with
 |0=>p
 |1=>⟨-p.Y,p.X⟩
 |2=>⟨-p.X,-p.Y⟩
 |_=>⟨p.Y,-p.X⟩
def canT (p:qA):Bool:=!(p.X== -9223372036854775808)&&!(p.Y== -9223372036854775808)
def turns (a:List qA) (q:Nat):List qA:=bif a.all canT then a.map (turnP q) else[]
def popR :List qA->qA->List qA
 |t::s::r,c=>if cross s t c<=0 then popR (s::r) c else t::s::r
 |l,_=>l
theorem qE0 (c:qA):∀st,(popR st c).length<=st.length
 |[]=>kr _
 |[_]=>kr _
 |t::s::r=>by
  unfold popR;split
  ·have:=qE0 c (s::r);simp at this⊢;omega
  ·exact kr _
theorem qFn (c:qA):∀st p,p∈popR st c->p∈st
 |[],_,h=>h
 |[_],_,h=>h
 |t::s::r,p,h=>by
  unfold popR at h;split at h
  ·exact kz _ (qFn c (s::r) p h)
  ·exact h
def wG (st:List qA) (c:qA):List qA:=c::popR st c
def chainR (a:List qA):List qA:=a.foldl wG []
theorem two_top (t s:qA) (r:List qA):((t::s::r).reverse).getD r.length dd=s/\((t::s::r).reverse).getD (r.length+1) dd=t/\((t::s::r).reverse).take (r.length+1)=(s::r).reverse:=by
 simp only[kO,kK,uv,uu];refine⟨?_,?_,?_⟩
 ·rw[ka,kC (by simp)];simp
 ·rw[ka,kC (by simp)];simp
 ·rw[List.take_append,uV (by simp)];simp
theorem qKl (a:List qA) (x:Nat) (hx:x<a.length) (hc:rng (a.getD x dd)):∀(n:Nat) (st:List qA),st.length<n->st.length<=1000000->(∀p∈st,rng p)->
  QY a (x:Int) n st.reverse=some (popR st (a.getD x dd)).reverse/\XL a (x:Int) n st.reverse=some (popR st (a.getD x dd)).reverse
 |0,st,h,_,_=>by omega
 |n+1,[],_,_,_=>⟨rfl,rfl⟩
 |n+1,[t],_,_,_=>⟨rfl,rfl⟩
 |n+1,t::s::r,h,hl,hr=>by
  have hs:rng s:=hr s (by simp);have ht:rng t:=hr t (by simp);obtain⟨g1,g2,g3⟩:=two_top t s r;have hlen:((t::s::r).reverse).length=r.length+2:=by simp
  simp only[uS] at h hl;have e1:w64 (((r.length+2:Nat):Int)-2)=(r.length:Int):=by rw[qQ (by omega)];omega
  have e2:w64 (((r.length+2:Nat):Int)-1)=((r.length+1:Nat):Int):=by rw[qQ (by omega)];omega
  have hsl:slOk 0 ((r.length+1:Nat):Int) (r.length+2)=true:=by unfold slOk;exact kg ⟨by omega,by omega,by omega⟩
  obtain⟨ih1,ih2⟩:=qKl a x hx hc n (s::r) (by simp;omega) (by simp;omega) (λp hp=>hr p (kz _ hp));unfold QY XL GN FP popR;rw[hlen,e1,e2,kg (show((r.length+2:Nat):Int)≥2 by omega),kg (show((r.length+2:Nat):Int)>1 by omega),qX (i:=(r.length:Int)) (by omega),qX (i:=((r.length+1:Nat):Int)) (by omega),qX (i:=(x:Int)) (by omega),hsl];simp only[ko,ks,g1,g2,g3,(DO hs ht hc).1,(DO hs ht hc).2,kd,ih1,ih2];by_cases hcr:cross s t (a.getD x dd)<=0
  ·rw[kg hcr,if_pos hcr];exact⟨rfl,rfl⟩
  ·rw[kf hcr,if_neg hcr];exact⟨rfl,rfl⟩
theorem qJv (a:List qA) (hr:∀p∈a,rng p) (hl:a.length<=1000000):∀(n x:Nat) (st:List qA),a.length<x+n->x<=a.length->st.length<=x->(∀p∈st,rng p)->
  KR a n st.reverse (x:Int)=some ((a.drop x).foldl wG st).reverse/\TT a n st.reverse (x:Int)=some ((a.drop x).foldl wG st).reverse
 |0,x,st,h1,h2,_,_=>by omega
 |n+1,x,st,h1,h2,h3,h4=>by
  unfold KR TT;by_cases hx:x<a.length
  ·have hc:rng (a.getD x dd):=hr _ (qY hx);obtain⟨p1,p2⟩:=qKl a x hx hc FUEL st (by rw[FUEL_eq];omega) (by omega) h4;have hp:=qE0 (a.getD x dd) st;obtain⟨ih1,ih2⟩:=qJv a hr hl n (x+1) (wG st (a.getD x dd)) (by omega) (by omega) (by unfold wG;rw[uS];omega) (λp hp'=>by
    unfold wG at hp';rcases kU.1 hp' with rfl|hp'
    ·exact hc
    ·exact h4 p (qFn _ _ _ hp'))
   rw[lt_t (by omega),qX (by omega),p1,p2,TG a x hx];simp only[ko,kd,uo,JY (n:=(popR st (a.getD x dd)).length+1) (b:=16) (by omega),ks,zQ (show x<4611686018427387904 by omega),uH];unfold wG at ih1 ih2⊢;rw[kO] at ih1 ih2;exact⟨ih1,ih2⟩
  ·rw[lt_f (by omega),uB (by omega)];exact⟨rfl,rfl⟩
theorem qA5 :∀(a st:List qA),(a.foldl wG st).length<=a.length+st.length
 |[],st=>by simp
 |c::a,st=>by
  have h1:=qA5 a (wG st c);have h2:=qE0 c st;unfold wG at h1;simp only[uH,uS] at h1⊢;unfold wG;omega
theorem yC (a:List qA):(chainR a).length<=a.length:=by have:=qA5 a [];simpa[chainR] using this
theorem qCi :∀(a st:List qA),st≠[]\/a≠[]->a.foldl wG st≠[]
 |[],st,h=>by simpa using h
 |c::a,st,_=>qCi a (wG st c) (.inl (by unfold wG;simp))
theorem XZ {a:List qA} (h:a≠[]):0<(chainR a).length:=uf.2 (qCi a [] (.inr h))
theorem qBJ (a:List qA) (hr:∀p∈a,rng p) (hl:a.length<=1000000):(a≠[]->US a=some (chainR a).tail.reverse)/\MZ a=some (chainR a).reverse:=by
 obtain⟨h1,h2⟩:=qJv a hr hl FUEL 0 [] (by rw[FUEL_eq];omega) (by omega) (by simp) (λp hp=>by cases hp);rw[show((0:Nat):Int)=0 from rfl,uK,List.reverse_nil] at h1 h2;unfold US MZ;rw[h1,h2];refine⟨λhne=>?_,rfl⟩;have hp:=XZ hne;have hle:=yC a;change 0<(a.foldl wG []).length at hp;change (a.foldl wG []).length<=a.length at hle;have e2:w64 ((((a.foldl wG []).reverse.length:Nat):Int)-1)=(((a.foldl wG []).length-1:Nat):Int):=by rw[uo,qQ (by omega)];omega
 have hsl:slOk 0 (((a.foldl wG []).length-1:Nat):Int) (a.foldl wG []).reverse.length=true:=by unfold slOk;rw[uo];exact kg ⟨by omega,by omega,by omega⟩
 simp only[kd,e2,hsl,ko,ks];unfold chainR;generalize a.foldl wG []=st at hp;cases st with
 |nil=>simp at hp
 |cons t r=>simp
theorem qLa (l:List qA) (hl:l.length<=1000000):∀(n i j:Nat) (t:List qA),l.length<2*i+2*n->i<=j+1->i+j+1=l.length->t.length=l.length->(∀k,k<l.length->(k<i\/j<k)->t.getD k dd=l.getD (l.length-1-k) dd)->(∀k,i<=k->k<=j->t.getD k dd=l.getD k dd)->
  wW n t (i:Int) (j:Int)=some l.reverse
 |0,i,j,t,h1,h2,h3,_,_,_=>by omega
 |n+1,i,j,t,h1,h2,h3,h4,h5,h6=>by
  unfold wW;by_cases hij:i<j
  ·have e1:w64 ((j:Int)-1)=((j-1:Nat):Int):=by rw[qQ (by omega)];omega
   rw[lt_t (by omega),qX (i:=(j:Int)) (by omega),qX (i:=(i:Int)) (by omega),e1];simp only[ko,ks,zQ (show i<4611686018427387904 by omega)];refine qLa l hl n (i+1) (j-1) _ (by omega) (by omega) (by omega) (by simp[h4]) (λk hk hkk=>?_) (λk hk1 hk2=>?_)
   ·by_cases hkj:k=j
    ·subst hkj;rw[qEA _ (by simp;omega),h6 i (by omega) (by omega)]
     congr 1;omega
    ·rw[VN _ (λe=>hkj e.symm)];by_cases hki:k=i
     ·subst hki;rw[qEA _ (by omega),h6 j (by omega) (by omega)]
      congr 1;omega
     ·rw[VN _ (λe=>hki e.symm)];exact h5 k hk (by omega)
   ·rw[VN _ (by omega),VN _ (by omega)];exact h6 k (by omega) (by omega)
  ·rw[lt_f (by omega)];have:t=l.reverse:=by
    refine qE8 (by simp[h4]) (λk hk=>?_);rw[ka (l:=l.reverse),List.getElem?_reverse (by omega),<-ka];by_cases hkk:k<i\/j<k
    ·exact h5 k (by omega) hkk
    ·rw[h6 k (by omega) (by omega)];congr 1;omega
   rw[this];rfl
theorem rev_eq (l:List qA) (hne:l≠[]) (hl:l.length<=1000000):jO l=some l.reverse:=by
 have hp:0<l.length:=uf.2 hne;unfold jO;have h:=qLa l hl FUEL 0 (l.length-1) l (by rw[FUEL_eq];omega) (by omega) (by omega) rfl (λk hk h=>by omega) (λ_ _ _=>rfl);rw[show((0:Nat):Int)=0 from rfl] at h;rw[show w64 ((l.length:Int)-1)=((l.length-1:Nat):Int) by rw[qQ (by omega)];omega,h];rfl
theorem qET (l:List qA) (h:l.length<=1000000):∀(n x:Nat) (t:List qA),x<n->x<=l.length->t=(l.drop x).reverse->JE l n t ((x:Int)-1)=some l.reverse
 |0,x,t,h1,h2,_=>by omega
 |n+1,0,t,h1,h2,h3=>by
  unfold JE;rw[kf (by omega),h3];rfl
 |n+1,x+1,t,h1,h2,h3=>by
  unfold JE;have hx:x<l.length:=by omega
  have ht:t.length<=1000000:=by rw[h3];simp;omega
  have e0:(((x+1:Nat):Int)-1)=(x:Int):=by omega
  have e4:w64 ((x:Int)-1)=(x:Int)-1:=qQ (by omega);rw[e0,kg (by omega),qX (by omega),JY (by omega)];simp only[ko,ks,e4];refine qET l h n x _ (by omega) (by omega) ?_;rw[TG l x hx,kO,h3]
def hullOf (s:List qA):List qA:=if(chainR s).length+(chainR s.reverse).length<5 then[] else(chainR s).tail.reverse++(chainR s.reverse).tail.reverse
def hull (a:List qA):List qA:=bif decide ((a.length:Int)>32) then[] else bif a.all inRange then hullOf (srt a) else[]
theorem qKq {s:List qA} (h:s.length<3):hullOf s=[]:=by
 have h1:=yC s;have h2:=yC s.reverse;rw[uo] at h2;unfold hullOf;rw[if_pos (by omega)]
theorem qNa (a:List qA):qBx a=some (hull a):=by
 unfold qBx hull EI;by_cases h:(a.length:Int)>32
 ·simp[h]
 rw[kf h,CC a (by omega)];simp only[ku,kd];cases hr:a.all inRange with
 |false=>rfl
 |true=>
  have hrng:∀p∈srt a,rng p:=λp hp=>YK.1 (ky.1 hr p ((AJ a p).1 hp));have hsl:=qDX a;have c1:=(qBJ (srt a) hrng (by omega)).2;have c2:=(qBJ (srt a).reverse (λp hp=>hrng p (by simpa using hp)) (by simp;omega)).2;have hrv:JE (srt a) FUEL [] (w64 (((srt a).length:Int)-1))=some (srt a).reverse:=by
   rw[qQ (by omega)];exact qET (srt a) (by omega) FUEL (srt a).length [] (by rw[FUEL_eq];omega) (kr _) (by simp)
  rw[qJy a (by omega)];simp only[uh,ku,ko,kd,hrv,c1,c2];have l1:=yC (srt a);have l2:=yC (srt a).reverse;rw[uo] at l2;simp only[uo];rw[qQ (n:=((chainR (srt a)).length:Int)+((chainR (srt a).reverse).length:Int)) (by omega)];unfold hullOf;by_cases h5:(chainR (srt a)).length+(chainR (srt a).reverse).length<5
  ·rw[if_pos h5,lt_t (by omega)];rfl
  ·rw[if_neg h5,lt_f (by omega)];have hne:srt a≠[]:=λe=>by rw[e] at h5;simp[chainR] at h5
   have p1:=XZ hne;have p2:=XZ (a:=(srt a).reverse) (by simpa using hne);have e1:w64 (((chainR (srt a)).length:Int)-1)=(((chainR (srt a)).length-1:Nat):Int):=by rw[qQ (by omega)];omega
   have e2:w64 (((chainR (srt a).reverse).length:Int)-1)=(((chainR (srt a).reverse).length-1:Nat):Int):=by rw[qQ (by omega)];omega
   have s1:slOk 0 (((chainR (srt a)).length-1:Nat):Int) (chainR (srt a)).length=true:=by unfold slOk;exact kg ⟨by omega,by omega,by omega⟩
   have s2:slOk 0 (((chainR (srt a).reverse).length-1:Nat):Int) (chainR (srt a).reverse).length=true:=by unfold slOk;exact kg ⟨by omega,by omega,by omega⟩
   rw[e1,e2,s1,s2,JY (by simp;omega),JY (by simp;omega)];simp only[ku,ko,ks,uu]
   congr 1
   have tk:∀st:List qA,0<st.length->st.reverse.take (st.length-1)=st.tail.reverse:=λst hst=>by
    cases st with
    |nil=>simp at hst
    |cons t r=>simp
   rw[tk _ p1,tk _ p2]
theorem qEF (a:List qA):DT a=some (hull a):=by
 unfold DT hull RZ;by_cases h3:(a.length:Int)<3
 ·have hs:hullOf (srt a)=[]:=qKq (by have:=qDX a;omega);rw[kg h3,kf (show¬(a.length:Int)>32 by omega),hs];cases a.all inRange<;>rfl
 by_cases h:(a.length:Int)>32
 ·simp[h,h3]
 rw[kf h,kf h3,qBv a (by omega)];simp only[ku,kd];cases hr:a.all inRange with
 |false=>rfl
 |true=>
  have hrng:∀p∈srt a,rng p:=λp hp=>YK.1 (ky.1 hr p ((AJ a p).1 hp));have hsl:=qDX a;have hpl:=(NK pLe a).length_eq;have hane:a≠[]:=λe=>by rw[e] at h3;simp at h3
  have hne:srt a≠[]:=λe=>by
   obtain⟨p,hp⟩:=List.exists_mem_of_ne_nil a hane;have:=(AJ a p).2 hp;rw[e] at this;cases this
  have c1:=(qBJ (srt a) hrng (by omega)).1 hne;have c2:=(qBJ (srt a).reverse (λp hp=>hrng p (by simpa using hp)) (by simp;omega)).1 (by simpa using hne);have hso:qCR a.length=true:=by unfold qCR;rw[ki,kT,kT];omega
  have hcl:yY a=some a:=by unfold yY;rw[JY (by omega)];rfl
  have hst:jG a=some (GJ pLe a):=by unfold jG;rw[hso,sort_eq];rfl
  have hco:wT (GJ pLe a)=some (srt a,srt a):=qMJ (GJ pLe a) (by omega);have l1:=yC (srt a);have l2:=yC (srt a).reverse;rw[uo] at l2;have p1:=XZ hne;have p2:=XZ (a:=(srt a).reverse) (by simpa using hne);simp only[uh,ku,ko,hcl,hst,hco,kd,hpl,beq_self_eq_true,c1,rev_eq _ hne (show(srt a).length<=1000000 by omega),c2,uo,List.length_tail];rw[JY (by omega)];unfold hullOf;by_cases h5:(chainR (srt a)).length+(chainR (srt a).reverse).length<5
  ·rw[if_pos h5,lt_t (by omega)];rfl
  ·rw[if_neg h5,lt_f (by omega)];rfl
theorem qMY (s:List qA):(hullOf s).length<=s.length+s.length:=by
 have h1:=yC s;have h2:=yC s.reverse;rw[uo] at h2;unfold hullOf;split
 ·simp
 ·simp;omega
theorem qOL (a:List qA):(hull a).length<=a.length+a.length:=by
 have h1:=qMY (srt a);have h2:=qDX a;unfold hull;cases decide ((a.length:Int)>32) with
 |true=>simp
 |false=>cases a.all inRange with
  |true=>simp only[ku,ko];omega
  |false=>simp
def pos (x y:Int):Prop:=0<x\/(x=0/\0<y)
theorem BE {ux uy vx vy wx wy:Int} (hu:pos ux uy) (hv:pos vx vy) (hw:pos wx wy) (h1:0<=ux*vy-vx*uy) (h2:0<=vx*wy-wx*vy):0<=ux*wy-wx*uy:=by
 unfold pos at*;have hux:0<=ux:=by omega
 have hwx:0<=wx:=by omega
 rcases hv with hv|⟨hv,hvy⟩
 ·have e:(ux*wy-wx*uy)*vx=(ux*vy-vx*uy)*wx+(vx*wy-wx*vy)*ux:=by grind
  have h3:0<=(ux*wy-wx*uy)*vx:=by rw[e];exact Int.add_nonneg (kv h1 hwx) (kv h2 hux)
  exact Int.nonneg_of_mul_nonneg_left h3 hv
 ·subst hv;have h4:0<=-(wx*vy):=by simpa using h2
  have hw0:wx=0:=by
   rcases gX hwx with h|h
   ·have:=ui h hvy;omega
   ·exact h.symm
  subst hw0;have hwy:0<wy:=by omega
  have:=kv hux (gw hwy);simpa using this
theorem jR {p q:qA} (h:pLt p q):pos (q.X-p.X) (q.Y-p.Y):=by unfold pLt at h;unfold pos;omega
theorem NA (p q:qA):cross p q p=0:=by unfold cross;grind
theorem qDy (p q:qA):cross p q q=0:=by unfold cross;grind
theorem turn_b {s t c p:qA} (hst:pLt s t) (hsc:pLt s c) (hsp:pLt s p) (h1:cross s t c<=0) (h2:0<=cross s t p):0<=cross s c p:=by
 unfold cross at*;exact BE (jR hsc) (jR hst) (jR hsp) (by omega) h2
theorem turn_c {s t c p:qA} (hst:pLt s t) (htc:pLt t c) (hpt:pLt p t) (h1:0<cross s t c) (h2:0<=cross s t p):0<=cross t c p:=by
 have h3:=BE (ux:=t.X-p.X) (uy:=t.Y-p.Y) (vx:=t.X-s.X) (vy:=t.Y-s.Y) (wx:=c.X-t.X) (wy:=c.Y-t.Y) (jR hpt) (jR hst) (jR htc)
  (by unfold cross at h2;grind) (by unfold cross at h1;grind)
 unfold cross
 grind
def Left (pts:List qA):List qA->Prop
 |v::u::r=>(∀p∈pts,0<=cross u v p)/\Left pts (u::r)
 |_=>True
def AF :List qA->Prop
 |c::t::s::r=>0<cross s t c/\AF (t::s::r)
 |_=>True
theorem qJH (pts:List qA) (c:qA) (hc:∀p∈pts,pLt p c):∀(st:List qA),st.Pairwise (λa b=>pLt b a)->(∀p∈st,p∈pts)->Left pts st->AF st->(∀t r,st=t::r->∀p∈pts,pLt t p->0<=cross t c p)->(∀t,st.getLast? =some t->∀p∈pts,p=t\/pLt t p)->
  Left pts (c::popR st c)/\AF (c::popR st c)
 |[],_,_,_,_,_,_=>⟨trivial,trivial⟩
 |[t],_,hm,_,_,hq,hb=>by
  refine⟨⟨λp hp=>?_,trivial⟩,trivial⟩;rcases hb t rfl p hp with rfl|h
  ·rw[NA];exact un _
  ·exact hq t [] rfl p hp h
 |t::s::r,hs,hm,hl,ht,hq,hb=>by
  obtain⟨s1,s2⟩:=kN.1 hs;have hst:pLt s t:=s1 s kQ;obtain⟨l1,l2⟩:=hl;have htc:=hc t (hm t kQ);unfold popR;by_cases hcr:cross s t c<=0
  ·rw[if_pos hcr];refine qJH pts c hc (s::r) s2 (λp hp=>hm p (kz _ hp)) l2 (by cases r with|nil=>trivial|cons u r=>exact ht.2) (λt' r' he p hp hsp=>?_) (λt' he p hp=>hb t' (by rw[gg];exact he) p hp);cases he;exact turn_b hst (hc s (hm s (by simp))) hsp hcr (l1 p hp)
  ·rw[if_neg hcr];refine⟨⟨λp hp=>?_,l1,l2⟩,by omega,ht⟩;rcases pLt_tri p t with h|h|h
   ·exact turn_c hst htc h (by omega) (l1 p hp)
   ·rw[h,NA];exact un _
   ·exact hq t _ rfl p hp h
abbrev Desc (st:List qA):Prop:=st.Pairwise (λa b=>pLt b a)
structure Inv (pts st:List qA):Prop where
 desc:Desc st
 sub:∀p∈st,p∈pts
 left:Left pts st
 turns:AF st
 top:∀t r,st=t::r->∀p∈pts,p=t\/pLt p t
 bot:∀t,st.getLast? =some t->∀p∈pts,p=t\/pLt t p
theorem qCJ (c:qA):∀st,Desc st->Desc (popR st c)
 |[],h=>h
 |[_],h=>h
 |t::s::r,h=>by
  unfold popR;split
  ·exact qCJ c (s::r) (kN.1 h).2
  ·exact h
theorem qDC (c:qA):∀st,(popR st c).getLast? =st.getLast?
 |[]=>rfl
 |[_]=>rfl
 |t::s::r=>by
  unfold popR;split
  ·rw[qDC c (s::r),gg]
  ·rfl
theorem qK1 {a b:List qA}:∀{st:List qA},Left a st->Left b st->Left (a++b) st
 |[],_,_=>trivial
 |[_],_,_=>trivial
 |v::u::r,⟨h1,h2⟩,⟨h3,h4⟩=>⟨λp hp=>(um.1 hp).elim (h1 p) (h3 p),qK1 h2 h4⟩
theorem qKW (c:qA):∀st,Desc st->(∀p∈st,pLt p c)->AF st->(∀v u r,st=v::u::r->0<=cross u v c)->Left [c] st
 |[],_,_,_,_=>trivial
 |[_],_,_,_,_=>trivial
 |v::u::r,hd,hc,ht,h0=>by
  have h1:=h0 v u r rfl;obtain⟨d1,d2⟩:=kN.1 hd;refine⟨λp hp=>by rw[uA.1 hp];exact h1,qKW c (u::r) d2 (λp hp=>hc p (kz _ hp)) (by cases r with|nil=>trivial|cons x r=>exact ht.2) (λv' u' r' he=>?_)⟩;cases he;obtain⟨t1,_⟩:=ht;have huv:pLt u v:=d1 u kQ;have hxu:pLt u' u:=(kN.1 d2).1 u' kQ;have huc:pLt u c:=hc u (by simp);have:=BE (jR hxu) (jR huv) (jR huc) (by unfold cross at t1;grind) (by unfold cross at h1;grind);unfold cross
  grind
theorem Inv.push {pts st:List qA} (h:Inv pts st) {c:qA} (hc:∀p∈pts,pLt p c) (hne:pts≠[]->st≠[]):Inv (pts++[c]) (wG st c):=by
 have hp:=qJH pts c hc st h.desc h.sub h.left h.turns (λt r he p hp htp=>by
  rcases h.top t r he p hp with rfl|h1
  ·exact absurd htp (pLt_irrefl _)
  ·exact absurd htp (pLt_asymm h1)) h.bot
 have hsub:∀p∈popR st c,p∈pts:=λp hp=>h.sub p (qFn c st p hp);have hlt:∀p∈popR st c,pLt p c:=λp hp=>hc p (hsub p hp);have hdesc:Desc (wG st c):=kN.2 ⟨hlt,qCJ c st h.desc⟩;refine⟨hdesc,λp hp'=>?_,qK1 hp.1 ?_,hp.2,λt r he p hp'=>?_,λt he p hp'=>?_⟩
 ·rcases kU.1 hp' with rfl|hp'
  ·simp
  ·exact List.mem_append_left _ (hsub p hp')
 ·have hl:Left [c] (popR st c):=by
   refine qKW c _ (qCJ c st h.desc) hlt ?_ (λv u r he=>?_)
   ·have:=hp.2;generalize popR st c=q at this
    match q,this with
    |[],_=>trivial
    |[_],_=>trivial
    |[_,_],_=>trivial
    |_::_::_::_,this=>exact this.2
   ·have:=hp.2;rw[he] at this;exact gw this.1
  unfold wG;generalize popR st c=q at hl
  match q,hl with
  |[],_=>trivial
  |t::r,hl=>exact⟨λp hp=>by rw[uA.1 hp,qDy];exact un _,hl⟩
 ·cases he;rcases um.1 hp' with h1|h1
  ·exact .inr (hc p h1)
  ·exact .inl (uA.1 h1)
 ·unfold wG at he;by_cases hst:st=[]
  ·subst hst;have hpts:pts=[]:=Classical.byContradiction λhh=>hne hh rfl;subst hpts;simp[popR] at he;subst he;exact .inl (by simpa using hp')
  ·have hpe:popR st c≠[]:=λe=>by
    have:=qDC c st;rw[e] at this;exact hst (List.getLast?_eq_none_iff.1 this.symm)
   have he':st.getLast? =some t:=by
    obtain⟨x,q,hq⟩:=uZ hpe;rw[<-qDC c st,hq];rw[hq,gg] at he;exact he
   rcases um.1 hp' with h1|h1
   ·exact h.bot t he' p h1
   ·rw[uA.1 h1];exact .inr (hc t (h.sub t (List.mem_of_getLast? he')))
theorem qJP :∀(rest pts st:List qA),Inv pts st->(pts≠[]->st≠[])->(∀p∈pts,∀q∈rest,pLt p q)->wI rest->Inv (pts++rest) (rest.foldl wG st)
 |[],pts,st,h,_,_,_=>by simpa using h
 |c::rest,pts,st,h,hne,hlt,hs=>by
  obtain⟨s1,s2⟩:=kN.1 hs;have:=qJP rest (pts++[c]) (wG st c) (h.push (λp hp=>hlt p hp c kQ) hne) (λ_=>by unfold wG;simp) (λp hp q hq=>by
   rcases um.1 hp with h1|h1
   ·exact hlt p h1 q (kz _ hq)
   ·rw[uA.1 h1];exact s1 q hq) s2
  rw[kK] at this;exact this
theorem BM {s:List qA} (hs:wI s):Inv s (chainR s):=by
 have:=qJP s [] [] ⟨List.Pairwise.nil,λp hp=>(by cases hp),trivial,trivial,λt r he=>(by cases he),λt he=>(by cases he)⟩ (λh=>absurd rfl h) (λp hp=>by cases hp) hs;simpa[chainR] using this
def ng (p:qA):qA:=⟨-p.X,-p.Y⟩
theorem qJi (p:qA):ng (ng p)=p:=by unfold ng;simp
theorem LX (p q r:qA):cross (ng p) (ng q) (ng r)=cross p q r:=by unfold cross ng;grind
theorem qDB {p q:qA}:pLt (ng p) (ng q)↔pLt q p:=by unfold pLt ng;simp only;omega
theorem qL6 (c:qA):∀st,popR (st.map ng) (ng c)=(popR st c).map ng
 |[]=>rfl
 |[_]=>rfl
 |t::s::r=>by
  have ih:=qL6 c (s::r);simp only[uF] at ih⊢;rw[popR,popR,LX];split
  ·exact ih
  ·simp
theorem qMm :∀(l st:List qA),(l.map ng).foldl wG (st.map ng)=(l.foldl wG st).map ng
 |[],st=>rfl
 |c::l,st=>by
  have:=qMm l (wG st c);simp only[uF,uH];rw[<-this];unfold wG;rw[qL6,uF]
theorem CA (l:List qA):chainR (l.map ng)=(chainR l).map ng:=qMm l []
theorem qLY {pts:List qA}:∀{st:List qA},Left (pts.map ng) (st.map ng)->Left pts st
 |[],_=>trivial
 |[_],_=>trivial
 |v::u::r,⟨h1,h2⟩=>⟨λp hp=>by have:=h1 (ng p) (List.mem_map_of_mem hp);rwa [LX] at this,qLY h2⟩
theorem qJZ :∀{st:List qA},AF (st.map ng)->AF st
 |[],_=>trivial
 |[_],_=>trivial
 |[_,_],_=>trivial
 |c::t::s::r,⟨h1,h2⟩=>⟨by rwa [LX] at h1,qJZ h2⟩
theorem qKo {a b:List qA} (h:∀p,p∈b->p∈a):∀{st:List qA},Left a st->Left b st
 |[],_=>trivial
 |[_],_=>trivial
 |_::_::_,⟨h1,h2⟩=>⟨λp hp=>h1 p (h p hp),qKo h h2⟩
structure Up (pts st:List qA):Prop where
 asc:wI st
 sub:∀p∈st,p∈pts
 left:Left pts st
 turns:AF st
 top:∀t r,st=t::r->∀p∈pts,p=t\/pLt t p
 bot:∀t,st.getLast? =some t->∀p∈pts,p=t\/pLt p t
theorem qDb {s:List qA} (hs:wI s):Up s (chainR s.reverse):=by
 have hs':wI (s.reverse.map ng):=by
  refine List.pairwise_map.2 (uG.2 ?_);exact hs.imp (λh=>qDB.2 h)
 have hi:=BM hs';have he:chainR (s.reverse.map ng)=(chainR s.reverse).map ng:=CA _;rw[he] at hi;have hmem:∀p,p∈s->ng p∈s.reverse.map ng:=λp hp=>List.mem_map_of_mem (by simpa using hp);have inj:∀p q,ng p=ng q->p=q:=λp q h=>by rw[<-qJi p,h,qJi]
 refine⟨?_,λp hp=>?_,qLY (qKo (λp hp=>?_) hi.left),qJZ hi.turns,λt r ht p hp=>?_,λt ht p hp=>?_⟩
 ·have:=hi.desc;rw[Desc,List.pairwise_map] at this;exact this.imp (λh=>qDB.1 h)
 ·have:=hi.sub (ng p) (List.mem_map_of_mem hp);obtain⟨q,hq,e⟩:=go.1 this;rw[<-inj _ _ e];simpa using hq
 ·obtain⟨q,hq,e⟩:=go.1 hp;rw[<-e];exact hmem q hq
 ·rcases hi.top (ng t) (r.map ng) (by rw[ht];rfl) (ng p) (hmem p hp) with h|h
  ·exact .inl (inj _ _ h)
  ·exact .inr (qDB.1 h)
 ·rcases hi.bot (ng t) (by rw[List.getLast?_map,ht];rfl) (ng p) (hmem p hp) with h|h
  ·exact .inl (inj _ _ h)
  ·exact .inr (qDB.1 h)
def EZ (pts:List qA):List qA->Prop
 |u::v::r=>(∀p∈pts,0<=cross u v p)/\EZ pts (v::r)
 |_=>True
theorem qBy {pts:List qA} {x:qA}:∀{a b:List qA},EZ pts (a++[x])->EZ pts (x::b)->EZ pts (a++x::b)
 |[],_,_,h=>h
 |[_],_,h1,h2=>⟨h1.1,h2⟩
 |_::v::a,b,h1,h2=>⟨h1.1,qBy (a:=v::a) h1.2 h2⟩
theorem FY {pts:List qA}:∀{st:List qA},Left pts st->EZ pts st.reverse
 |[],_=>trivial
 |[_],_=>trivial
 |v::u::r,⟨h1,h2⟩=>by
  have ih:=FY h2;rw[kO] at ih;rw[kO,kO,kK];exact qBy ih ⟨h1,trivial⟩
theorem qHZ {pts:List qA}:∀{w:List qA},EZ pts w->∀x,x+1<w.length->∀p∈pts,0<=cross (w.getD x dd) (w.getD (x+1) dd) p
 |[],_,x,h=>by simp at h
 |[_],_,x,h=>by simp at h
 |u::v::r,hl,0,_=>hl.1
 |u::v::r,hl,x+1,h=>by
  have:=qHZ hl.2 x (by simpa using h);simpa using this
end Saw
end Go.SL

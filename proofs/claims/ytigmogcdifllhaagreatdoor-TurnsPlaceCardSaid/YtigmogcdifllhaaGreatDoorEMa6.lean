/- Poly's plain mathematics, part 5: the hull, as both compute it. -/
import Derived.Test.YtigmogcdifllhaaGreatDoorEMa5
import Derived.Test.YtigmogcdifllhaaGreatDoorEMa3
set_option linter.unusedVariables false
set_option linter.unusedSimpArgs false
namespace Go.SL
namespace Saw
theorem qXX (p q:qA):qEE p q=some (decide (pLt p q)):=by
 unfold qEE DA pLt;by_cases h1:p.X<q.X
 ·simp[h1]
 ·by_cases h2:p.X=q.X
  ·simp[h1,h2]
  ·have:(p.X==q.X)=false:=by simpa using h2
   simp[h1,h2,this]
theorem qQS (a l:List qA) (x:Nat) (hl:l.length<=1000000) (hx:x<a.length):∀(n k:Nat),l.length<k+n->k<=l.length->(∀j,j<k->pLt (l.getD j dd) (a.getD x dd))->
  ∃k',PM a l (x:Int) n (k:Int)=some ((k':Nat):Int)/\k'<=l.length/\(∀j,j<k'->pLt (l.getD j dd) (a.getD x dd))/\(k'<l.length->¬pLt (l.getD k' dd) (a.getD x dd))
 |0,k,h1,h2,_=>by omega
 |n+1,k,h1,h2,h3=>by
  unfold PM;by_cases hk:k<l.length
  ·rw[lt_t (by omega),zQ (by omega),zQ (by omega)];simp only[kq,kr,qXX,kd,OV,wI (show k<4611686018427387904 by omega)];by_cases hp:pLt (l.getD k dd) (a.getD x dd)
   ·rw[kf hp];exact qQS a l x hl hx n (k+1) (by omega) (by omega) (λj hj=>by
     by_cases hjk:j=k
     ·subst hjk;exact hp
     ·exact h3 j (by omega))
   ·rw[ki hp];exact⟨k,rfl,h2,h3,λ_=>hp⟩
  ·rw[lt_f (by omega)];exact⟨k,rfl,h2,h3,λh=>absurd h hk⟩
theorem qHB {α:Type} [Inhabited α] {l:List α} {i:Nat} (h:i<l.length):l.getD i dd=l[i]:=by rw[ka,ko h];rfl
theorem qGa (a:List qA) (hl:a.length<=1000000):∀(n x:Nat) (l:List qA),a.length<x+n->x<=a.length->l.length<=x->jW l->(∀p,p∈l↔p∈a.take x)->∃s,JD a n l (x:Int)=some s/\jW s/\(∀p,p∈s↔p∈a)/\s.length<=a.length
 |0,x,l,h1,h2,_,_,_=>by omega
 |n+1,x,l,h1,h2,h3,h4,h5=>by
  unfold JD;by_cases hx:x<a.length
  ·obtain⟨k,e1,e2,e3,e4⟩:=qQS a l x (by omega) hx FUEL 0 (by rw[FUEL_eq];omega) (by omega) (λj hj=>by omega);have ht:a.take (x+1)=a.take x++[a.getD x dd]:=by rw[gA,ko hx,qHB hx];rfl
   rw[show((0:Nat):Int)=0 from rfl] at e1;rw[lt_t (by omega),e1];simp only[kq,kd,IJ,CS,kr,wI (show x<4611686018427387904 by omega)];have s1:slOk 0 ((k:Nat):Int) l.length=true:=by unfold slOk;exact kf ⟨by omega,by omega,by omega⟩
   have s2:slOk ((k:Nat):Int) (l.length:Int) l.length=true:=by unfold slOk;exact kf ⟨by omega,by omega,by omega⟩
   rw[s1,s2,WZ (n:=0+k) (by omega),WZ (n:=0+k+1) (by omega),WZ (n:=0+k+1+(l.length-k)) (by omega),zQ (i:=(x:Int)) (by omega)];simp only[kq,um];have hins:¬(k<l.length/\peq (l.getD k dd) (a.getD x dd)=true)->∃s,JD a n (l.take k++[a.getD x dd]++(l.drop k).take (l.length-k)) ((x+1:Nat):Int)=some s/\jW s/\(∀p,p∈s↔p∈a)/\s.length<=a.length:=by
    intro hne;have hdr:(l.drop k).take (l.length-k)=l.drop k:=uQ (by simp);rw[hdr];have hall:∀p∈l.drop k,pLt (a.getD x dd) p:=by
     intro p hp;obtain⟨j,hj,rfl⟩:=uF.1 hp;rw[ub] at hj;rw[List.getElem_drop];have hk:k<l.length:=by omega
     have hc:pLt (a.getD x dd) (l.getD k dd):=by
      rcases pLt_tri (l.getD k dd) (a.getD x dd) with h|h|h
      ·exact absurd h (e4 hk)
      ·exact absurd ⟨hk,qKG.2 h⟩ hne
      ·exact h
     rw[qHB hk] at hc;by_cases hj0:j=0
     ·subst hj0;exact hc
     ·have h4':=gp.1 h4;exact qCc hc (h4' k (k+j) hk (by omega) (by omega))
    have htk:∀p∈l.take k,pLt p (a.getD x dd):=by
     intro p hp;obtain⟨j,hj,rfl⟩:=gN.1 hp;have:=e3 j (by omega)
     rwa [qHB (by omega)] at this
    refine qGa a hl n (x+1) _ (by omega) (by omega) (by simp;omega) ?_ (λp=>?_)
    ·refine List.pairwise_append.2 ⟨List.pairwise_append.2 ⟨h4.take,List.pairwise_singleton _ _,λp hp q hq=>?_⟩,h4.drop,λp hp q hq=>?_⟩
     ·rw[uu] at hq;subst hq;exact htk p hp
     ·rcases un.1 hp with hp|hp
      ·exact qCc (htk p hp) (hall q hq)
      ·rw[uu] at hp;subst hp;exact hall q hq
    ·rw[ht,un,un,un,<-h5 p];have:p∈l↔p∈l.take k\/p∈l.drop k:=by rw[<-un,List.take_append_drop]
     rw[this];constructor
     ·rintro((h|h)|h)
      ·exact .inl (.inl h)
      ·exact .inr h
      ·exact .inl (.inr h)
     ·rintro((h|h)|h)
      ·exact .inl (.inl h)
      ·exact .inr h
      ·exact .inl (.inr h)
   by_cases hk:k<l.length
   ·rw[lt_t (by omega),zQ (by omega)];simp only[kq];cases hp:peq (l.getD k dd) (a.getD x dd) with
    |true=>
     have hp':=hp;unfold peq at hp';rw[hp'];simp only[kq];refine qGa a hl n (x+1) l (by omega) (by omega) (by omega) h4 (λp=>?_);rw[ht,un,<-h5 p,uu];refine⟨.inl,λh=>h.elim id λe=>?_⟩;rw[e,<-qKG.1 hp];exact wQ hk
    |false=>
     have hp':=hp;unfold peq at hp';rw[hp'];simp only[ku];exact hins (λh=>by rw[hp] at h;cases h.2)
   ·rw[lt_f (by omega)];simp only[ku];exact hins (λh=>hk h.1)
  ·rw[lt_f (by omega)];rw[uQ (by omega)] at h5;exact⟨l,rfl,h4,h5,by omega⟩
def srt (a:List qA):List qA:=ddT (ZV pLe a) (ZV pLe a).length
theorem qXB (x y z:qA) (h1:pLe x y=true) (h2:pLe y z=true):pLe x z=true:=by
 rw[pLe_iff] at*;rcases h1 with h1|rfl
 ·rcases h2 with h2|rfl
  ·exact .inl (qCc h1 h2)
  ·exact .inl h1
 ·exact h2
theorem qXA (x y:qA):pLe x y=true\/pLe y x=true:=by
 rw[pLe_iff,pLe_iff];rcases pLt_tri x y with h|h|h
 ·exact .inl (.inl h)
 ·exact .inl (.inr h)
 ·exact .inr (.inl h)
theorem OA (a:List qA):jW (srt a):=qHT _ (zbQ qXB qXA a) _ (ke _)
theorem qDE (a:List qA) (p:qA):p∈srt a↔p∈a:=by
 unfold srt;rw[qPD _ _ (ke _),List.take_length];exact(VE pLe a).mem_iff
theorem qKK (a:List qA):(srt a).length<=a.length:=by
 have:=qPS (ZV pLe a) (ZV pLe a).length;have h2:=(VE pLe a).length_eq;unfold srt;omega
theorem qTz (a:List qA) (hl:a.length<=1000000):qDS a=some (srt a):=by
 unfold qDS;obtain⟨s,e1,e2,e3,_⟩:=qGa a hl FUEL 0 [] (by rw[FUEL_eq];omega) (by omega) (by simp) List.Pairwise.nil (λp=>by simp);rw[show((0:Nat):Int)=0 from rfl] at e1;rw[e1,kd]
 congr 1
 exact qIE e2 (OA a) (λp=>by rw[e3,qDE])
def turnP (q:Nat) (p:qA):qA:=match q with
 |0=>p
 |1=>⟨-p.Y,p.X⟩
 |2=>⟨-p.X,-p.Y⟩
 |_=>⟨p.Y,-p.X⟩
def canT (p:qA):Bool:=!(p.X== -9223372036854775808)&&!(p.Y== -9223372036854775808)
def turns (a:List qA) (q:Nat):List qA:=bif a.all canT then a.map (turnP q) else[]
def popR :List qA->qA->List qA
 |t::s::r,c=>if cross s t c<=0 then popR (s::r) c else t::s::r
 |l,_=>l
theorem qNr (c:qA):∀st,(popR st c).length<=st.length
 |[]=>ke _
 |[_]=>ke _
 |t::s::r=>by
  unfold popR;split
  ·have:=qNr c (s::r);simp at this⊢;omega
  ·exact ke _
theorem qMZ (c:qA):∀st p,p∈popR st c->p∈st
 |[],_,h=>h
 |[_],_,h=>h
 |t::s::r,p,h=>by
  unfold popR at h;split at h
  ·exact kE _ (qMZ c (s::r) p h)
  ·exact h
def jD (st:List qA) (c:qA):List qA:=c::popR st c
def chainR (a:List qA):List qA:=a.foldl jD []
theorem two_top (t s:qA) (r:List qA):((t::s::r).reverse).getD r.length dd=s/\((t::s::r).reverse).getD (r.length+1) dd=t/\((t::s::r).reverse).take (r.length+1)=(s::r).reverse:=by
 simp only[kK,kH,uE,um];refine⟨?_,?_,?_⟩
 ·rw[ka,kA (by simp)];simp
 ·rw[ka,kA (by simp)];simp
 ·rw[List.take_append,uQ (by simp)];simp
theorem qTs (a:List qA) (x:Nat) (hx:x<a.length) (hc:rng (a.getD x dd)):∀(n:Nat) (st:List qA),st.length<n->st.length<=1000000->(∀p∈st,rng p)->
  JY a (x:Int) n st.reverse=some (popR st (a.getD x dd)).reverse/\TN a (x:Int) n st.reverse=some (popR st (a.getD x dd)).reverse
 |0,st,h,_,_=>by omega
 |n+1,[],_,_,_=>⟨rfl,rfl⟩
 |n+1,[t],_,_,_=>⟨rfl,rfl⟩
 |n+1,t::s::r,h,hl,hr=>by
  have hs:rng s:=hr s (by simp);have ht:rng t:=hr t (by simp);obtain⟨g1,g2,g3⟩:=two_top t s r;have hlen:((t::s::r).reverse).length=r.length+2:=by simp
  simp only[uT] at h hl;have e1:w64 (((r.length+2:Nat):Int)-2)=(r.length:Int):=by rw[zF (by omega)];omega
  have e2:w64 (((r.length+2:Nat):Int)-1)=((r.length+1:Nat):Int):=by rw[zF (by omega)];omega
  have hsl:slOk 0 ((r.length+1:Nat):Int) (r.length+2)=true:=by unfold slOk;exact kf ⟨by omega,by omega,by omega⟩
  obtain⟨ih1,ih2⟩:=qTs a x hx hc n (s::r) (by simp;omega) (by simp;omega) (λp hp=>hr p (kE _ hp));unfold JY TN MY CW popR;rw[hlen,e1,e2,kf (show((r.length+2:Nat):Int)≥2 by omega),kf (show((r.length+2:Nat):Int)>1 by omega),zQ (i:=(r.length:Int)) (by omega),zQ (i:=((r.length+1:Nat):Int)) (by omega),zQ (i:=(x:Int)) (by omega),hsl];simp only[kq,kr,g1,g2,g3,(qUO hs ht hc).1,(qUO hs ht hc).2,kd,ih1,ih2];by_cases hcr:cross s t (a.getD x dd)<=0
  ·rw[kf hcr,if_pos hcr];exact⟨rfl,rfl⟩
  ·rw[ki hcr,if_neg hcr];exact⟨rfl,rfl⟩
theorem qTq (a:List qA) (hr:∀p∈a,rng p) (hl:a.length<=1000000):∀(n x:Nat) (st:List qA),a.length<x+n->x<=a.length->st.length<=x->(∀p∈st,rng p)->
  VG a n st.reverse (x:Int)=some ((a.drop x).foldl jD st).reverse/\NX a n st.reverse (x:Int)=some ((a.drop x).foldl jD st).reverse
 |0,x,st,h1,h2,_,_=>by omega
 |n+1,x,st,h1,h2,h3,h4=>by
  unfold VG NX;by_cases hx:x<a.length
  ·have hc:rng (a.getD x dd):=hr _ (wQ hx);obtain⟨p1,p2⟩:=qTs a x hx hc FUEL st (by rw[FUEL_eq];omega) (by omega) h4;have hp:=qNr (a.getD x dd) st;obtain⟨ih1,ih2⟩:=qTq a hr hl n (x+1) (jD st (a.getD x dd)) (by omega) (by omega) (by unfold jD;rw[uT];omega) (λp hp'=>by
    unfold jD at hp';rcases kV.1 hp' with rfl|hp'
    ·exact hc
    ·exact h4 p (qMZ _ _ _ hp'))
   rw[lt_t (by omega),zQ (by omega),p1,p2,BT a x hx];simp only[kq,kd,uf,WZ (n:=(popR st (a.getD x dd)).length+1) (b:=16) (by omega),kr,wI (show x<4611686018427387904 by omega),uD];unfold jD at ih1 ih2⊢;rw[kK] at ih1 ih2;exact⟨ih1,ih2⟩
  ·rw[lt_f (by omega),uz (by omega)];exact⟨rfl,rfl⟩
theorem qHo :∀(a st:List qA),(a.foldl jD st).length<=a.length+st.length
 |[],st=>by simp
 |c::a,st=>by
  have h1:=qHo a (jD st c);have h2:=qNr c st;unfold jD at h1;simp only[uD,uT] at h1⊢;unfold jD;omega
theorem ZJ (a:List qA):(chainR a).length<=a.length:=by have:=qHo a [];simpa[chainR] using this
theorem qIv :∀(a st:List qA),st≠[]\/a≠[]->a.foldl jD st≠[]
 |[],st,h=>by simpa using h
 |c::a,st,_=>qIv a (jD st c) (.inl (by unfold jD;simp))
theorem UI {a:List qA} (h:a≠[]):0<(chainR a).length:=ue.2 (qIv a [] (.inr h))
theorem qHH (a:List qA) (hr:∀p∈a,rng p) (hl:a.length<=1000000):(a≠[]->FA a=some (chainR a).tail.reverse)/\qBn a=some (chainR a).reverse:=by
 obtain⟨h1,h2⟩:=qTq a hr hl FUEL 0 [] (by rw[FUEL_eq];omega) (by omega) (by simp) (λp hp=>by cases hp);rw[show((0:Nat):Int)=0 from rfl,uI,List.reverse_nil] at h1 h2;unfold FA qBn;rw[h1,h2];refine⟨λhne=>?_,rfl⟩;have hp:=UI hne;have hle:=ZJ a;change 0<(a.foldl jD []).length at hp;change (a.foldl jD []).length<=a.length at hle;have e2:w64 ((((a.foldl jD []).reverse.length:Nat):Int)-1)=(((a.foldl jD []).length-1:Nat):Int):=by rw[uf,zF (by omega)];omega
 have hsl:slOk 0 (((a.foldl jD []).length-1:Nat):Int) (a.foldl jD []).reverse.length=true:=by unfold slOk;rw[uf];exact kf ⟨by omega,by omega,by omega⟩
 simp only[kd,e2,hsl,kq,kr];unfold chainR;generalize a.foldl jD []=st at hp;cases st with
 |nil=>simp at hp
 |cons t r=>simp
theorem qSX (l:List qA) (hl:l.length<=1000000):∀(n i j:Nat) (t:List qA),l.length<2*i+2*n->i<=j+1->i+j+1=l.length->t.length=l.length->(∀k,k<l.length->(k<i\/j<k)->t.getD k dd=l.getD (l.length-1-k) dd)->(∀k,i<=k->k<=j->t.getD k dd=l.getD k dd)->
  jZ n t (i:Int) (j:Int)=some l.reverse
 |0,i,j,t,h1,h2,h3,_,_,_=>by omega
 |n+1,i,j,t,h1,h2,h3,h4,h5,h6=>by
  unfold jZ;by_cases hij:i<j
  ·have e1:w64 ((j:Int)-1)=((j-1:Nat):Int):=by rw[zF (by omega)];omega
   rw[lt_t (by omega),zQ (i:=(j:Int)) (by omega),zQ (i:=(i:Int)) (by omega),e1];simp only[kq,kr,wI (show i<4611686018427387904 by omega)];refine qSX l hl n (i+1) (j-1) _ (by omega) (by omega) (by omega) (by simp[h4]) (λk hk hkk=>?_) (λk hk1 hk2=>?_)
   ·by_cases hkj:k=j
    ·subst hkj;rw[qLF _ (by simp;omega),h6 i (by omega) (by omega)]
     congr 1;omega
    ·rw[MJ _ (λe=>hkj e.symm)];by_cases hki:k=i
     ·subst hki;rw[qLF _ (by omega),h6 j (by omega) (by omega)]
      congr 1;omega
     ·rw[MJ _ (λe=>hki e.symm)];exact h5 k hk (by omega)
   ·rw[MJ _ (by omega),MJ _ (by omega)];exact h6 k (by omega) (by omega)
  ·rw[lt_f (by omega)];have:t=l.reverse:=by
    refine qTm (by simp[h4]) (λk hk=>?_);rw[ka (l:=l.reverse),List.getElem?_reverse (by omega),<-ka];by_cases hkk:k<i\/j<k
    ·exact h5 k (by omega) hkk
    ·rw[h6 k (by omega) (by omega)];congr 1;omega
   rw[this];rfl
theorem rev_eq (l:List qA) (hne:l≠[]) (hl:l.length<=1000000):QQ l=some l.reverse:=by
 have hp:0<l.length:=ue.2 hne;unfold QQ;have h:=qSX l hl FUEL 0 (l.length-1) l (by rw[FUEL_eq];omega) (by omega) (by omega) rfl (λk hk h=>by omega) (λ_ _ _=>rfl);rw[show((0:Nat):Int)=0 from rfl] at h;rw[show w64 ((l.length:Int)-1)=((l.length-1:Nat):Int) by rw[zF (by omega)];omega,h];rfl
theorem qLZ (l:List qA) (h:l.length<=1000000):∀(n x:Nat) (t:List qA),x<n->x<=l.length->t=(l.drop x).reverse->KG l n t ((x:Int)-1)=some l.reverse
 |0,x,t,h1,h2,_=>by omega
 |n+1,0,t,h1,h2,h3=>by
  unfold KG;rw[ki (by omega),h3];rfl
 |n+1,x+1,t,h1,h2,h3=>by
  unfold KG;have hx:x<l.length:=by omega
  have ht:t.length<=1000000:=by rw[h3];simp;omega
  have e0:(((x+1:Nat):Int)-1)=(x:Int):=by omega
  have e4:w64 ((x:Int)-1)=(x:Int)-1:=zF (by omega);rw[e0,kf (by omega),zQ (by omega),WZ (by omega)];simp only[kq,kr,e4];refine qLZ l h n x _ (by omega) (by omega) ?_;rw[BT l x hx,kK,h3]
def hullOf (s:List qA):List qA:=if(chainR s).length+(chainR s.reverse).length<5 then[] else(chainR s).tail.reverse++(chainR s.reverse).tail.reverse
def hull (a:List qA):List qA:=bif decide ((a.length:Int)>32) then[] else bif a.all inRange then hullOf (srt a) else[]
theorem qUi {s:List qA} (h:s.length<3):hullOf s=[]:=by
 have h1:=ZJ s;have h2:=ZJ s.reverse;rw[uf] at h2;unfold hullOf;rw[if_pos (by omega)]
theorem qWo (a:List qA):qIj a=some (hull a):=by
 unfold qIj hull qCJ;by_cases h:(a.length:Int)>32
 ·simp[h]
 rw[ki h,qJ1 a (by omega)];simp only[ku,kd];cases hr:a.all inRange with
 |false=>rfl
 |true=>
  have hrng:∀p∈srt a,rng p:=λp hp=>qBr.1 (kv.1 hr p ((qDE a p).1 hp));have hsl:=qKK a;have c1:=(qHH (srt a) hrng (by omega)).2;have c2:=(qHH (srt a).reverse (λp hp=>hrng p (by simpa using hp)) (by simp;omega)).2;have hrv:KG (srt a) FUEL [] (w64 (((srt a).length:Int)-1))=some (srt a).reverse:=by
   rw[zF (by omega)];exact qLZ (srt a) (by omega) FUEL (srt a).length [] (by rw[FUEL_eq];omega) (ke _) (by simp)
  rw[qTz a (by omega)];simp only[kY,ku,kq,kd,hrv,c1,c2];have l1:=ZJ (srt a);have l2:=ZJ (srt a).reverse;rw[uf] at l2;simp only[uf];rw[zF (n:=((chainR (srt a)).length:Int)+((chainR (srt a).reverse).length:Int)) (by omega)];unfold hullOf;by_cases h5:(chainR (srt a)).length+(chainR (srt a).reverse).length<5
  ·rw[if_pos h5,lt_t (by omega)];rfl
  ·rw[if_neg h5,lt_f (by omega)];have hne:srt a≠[]:=λe=>by rw[e] at h5;simp[chainR] at h5
   have p1:=UI hne;have p2:=UI (a:=(srt a).reverse) (by simpa using hne);have e1:w64 (((chainR (srt a)).length:Int)-1)=(((chainR (srt a)).length-1:Nat):Int):=by rw[zF (by omega)];omega
   have e2:w64 (((chainR (srt a).reverse).length:Int)-1)=(((chainR (srt a).reverse).length-1:Nat):Int):=by rw[zF (by omega)];omega
   have s1:slOk 0 (((chainR (srt a)).length-1:Nat):Int) (chainR (srt a)).length=true:=by unfold slOk;exact kf ⟨by omega,by omega,by omega⟩
   have s2:slOk 0 (((chainR (srt a).reverse).length-1:Nat):Int) (chainR (srt a).reverse).length=true:=by unfold slOk;exact kf ⟨by omega,by omega,by omega⟩
   rw[e1,e2,s1,s2,WZ (by simp;omega),WZ (by simp;omega)];simp only[ku,kq,kr,um]
   congr 1
   have tk:∀st:List qA,0<st.length->st.reverse.take (st.length-1)=st.tail.reverse:=λst hst=>by
    cases st with
    |nil=>simp at hst
    |cons t r=>simp
   rw[tk _ p1,tk _ p2]
theorem qVB (a:List qA):qCa a=some (hull a):=by
 unfold qCa hull BM;by_cases h3:(a.length:Int)<3
 ·have hs:hullOf (srt a)=[]:=qUi (by have:=qKK a;omega);rw[kf h3,ki (show¬(a.length:Int)>32 by omega),hs];cases a.all inRange<;>rfl
 by_cases h:(a.length:Int)>32
 ·simp[h,h3]
 rw[ki h,ki h3,qHE a (by omega)];simp only[ku,kd];cases hr:a.all inRange with
 |false=>rfl
 |true=>
  have hrng:∀p∈srt a,rng p:=λp hp=>qBr.1 (kv.1 hr p ((qDE a p).1 hp));have hsl:=qKK a;have hpl:=(VE pLe a).length_eq;have hane:a≠[]:=λe=>by rw[e] at h3;simp at h3
  have hne:srt a≠[]:=λe=>by
   obtain⟨p,hp⟩:=List.exists_mem_of_ne_nil a hane;have:=(qDE a p).2 hp;rw[e] at this;cases this
  have c1:=(qHH (srt a) hrng (by omega)).1 hne;have c2:=(qHH (srt a).reverse (λp hp=>hrng p (by simpa using hp)) (by simp;omega)).1 (by simpa using hne);have hso:qKp a.length=true:=by unfold qKp;rw[kp,kQ,kQ];omega
  have hcl:ZZ a=some a:=by unfold ZZ;rw[WZ (by omega)];rfl
  have hst:QD a=some (ZV pLe a):=by unfold QD;rw[hso,sort_eq];rfl
  have hco:jS (ZV pLe a)=some (srt a,srt a):=qWg (ZV pLe a) (by omega);have l1:=ZJ (srt a);have l2:=ZJ (srt a).reverse;rw[uf] at l2;have p1:=UI hne;have p2:=UI (a:=(srt a).reverse) (by simpa using hne);simp only[kY,ku,kq,hcl,hst,hco,kd,hpl,gr,c1,rev_eq _ hne (show(srt a).length<=1000000 by omega),c2,uf,List.length_tail];rw[WZ (by omega)];unfold hullOf;by_cases h5:(chainR (srt a)).length+(chainR (srt a).reverse).length<5
  ·rw[if_pos h5,lt_t (by omega)];rfl
  ·rw[if_neg h5,lt_f (by omega)];rfl
theorem qWt (s:List qA):(hullOf s).length<=s.length+s.length:=by
 have h1:=ZJ s;have h2:=ZJ s.reverse;rw[uf] at h2;unfold hullOf;split
 ·simp
 ·simp;omega
theorem qYI (a:List qA):(hull a).length<=a.length+a.length:=by
 have h1:=qWt (srt a);have h2:=qKK a;unfold hull;cases decide ((a.length:Int)>32) with
 |true=>simp
 |false=>cases a.all inRange with
  |true=>simp only[ku,kq];omega
  |false=>simp
def pos (x y:Int):Prop:=0<x\/(x=0/\0<y)
theorem EW {ux uy vx vy wx wy:Int} (hu:pos ux uy) (hv:pos vx vy) (hw:pos wx wy) (h1:0<=ux*vy-vx*uy) (h2:0<=vx*wy-wx*vy):0<=ux*wy-wx*uy:=by
 unfold pos at*;have hux:0<=ux:=by omega
 have hwx:0<=wx:=by omega
 rcases hv with hv|⟨hv,hvy⟩
 ·have e:(ux*wy-wx*uy)*vx=(ux*vy-vx*uy)*wx+(vx*wy-wx*vy)*ux:=by grind
  have h3:0<=(ux*wy-wx*uy)*vx:=by rw[e];exact Int.add_nonneg (kz h1 hwx) (kz h2 hux)
  exact Int.nonneg_of_mul_nonneg_left h3 hv
 ·subst hv;have h4:0<=-(wx*vy):=by simpa using h2
  have hw0:wx=0:=by
   rcases gT hwx with h|h
   ·have:=uW h hvy;omega
   ·exact h.symm
  subst hw0;have hwy:0<wy:=by omega
  have:=kz hux (gU hwy);simpa using this
theorem WD {p q:qA} (h:pLt p q):pos (q.X-p.X) (q.Y-p.Y):=by unfold pLt at h;unfold pos;omega
theorem qJW (p q:qA):cross p q p=0:=by unfold cross;grind
theorem qTL (p q:qA):cross p q q=0:=by unfold cross;grind
theorem turn_b {s t c p:qA} (hst:pLt s t) (hsc:pLt s c) (hsp:pLt s p) (h1:cross s t c<=0) (h2:0<=cross s t p):0<=cross s c p:=by
 unfold cross at*;exact EW (WD hsc) (WD hst) (WD hsp) (by omega) h2
theorem turn_c {s t c p:qA} (hst:pLt s t) (htc:pLt t c) (hpt:pLt p t) (h1:0<cross s t c) (h2:0<=cross s t p):0<=cross t c p:=by
 have h3:=EW (ux:=t.X-p.X) (uy:=t.Y-p.Y) (vx:=t.X-s.X) (vy:=t.Y-s.Y) (wx:=c.X-t.X) (wy:=c.Y-t.Y) (WD hpt) (WD hst) (WD htc)
  (by unfold cross at h2;grind) (by unfold cross at h1;grind)
 unfold cross
 grind
def Left (pts:List qA):List qA->Prop
 |v::u::r=>(∀p∈pts,0<=cross u v p)/\Left pts (u::r)
 |_=>True
def qBe :List qA->Prop
 |c::t::s::r=>0<cross s t c/\qBe (t::s::r)
 |_=>True
theorem qUH (pts:List qA) (c:qA) (hc:∀p∈pts,pLt p c):∀(st:List qA),st.Pairwise (λa b=>pLt b a)->(∀p∈st,p∈pts)->Left pts st->qBe st->(∀t r,st=t::r->∀p∈pts,pLt t p->0<=cross t c p)->(∀t,st.getLast? =some t->∀p∈pts,p=t\/pLt t p)->
  Left pts (c::popR st c)/\qBe (c::popR st c)
 |[],_,_,_,_,_,_=>⟨trivial,trivial⟩
 |[t],_,hm,_,_,hq,hb=>by
  refine⟨⟨λp hp=>?_,trivial⟩,trivial⟩;rcases hb t rfl p hp with rfl|h
  ·rw[qJW];exact ul _
  ·exact hq t [] rfl p hp h
 |t::s::r,hs,hm,hl,ht,hq,hb=>by
  obtain⟨s1,s2⟩:=kN.1 hs;have hst:pLt s t:=s1 s kM;obtain⟨l1,l2⟩:=hl;have htc:=hc t (hm t kM);unfold popR;by_cases hcr:cross s t c<=0
  ·rw[if_pos hcr];refine qUH pts c hc (s::r) s2 (λp hp=>hm p (kE _ hp)) l2 (by cases r with|nil=>trivial|cons u r=>exact ht.2) (λt' r' he p hp hsp=>?_) (λt' he p hp=>hb t' (by rw[ga];exact he) p hp);cases he;exact turn_b hst (hc s (hm s (by simp))) hsp hcr (l1 p hp)
  ·rw[if_neg hcr];refine⟨⟨λp hp=>?_,l1,l2⟩,by omega,ht⟩;rcases pLt_tri p t with h|h|h
   ·exact turn_c hst htc h (by omega) (l1 p hp)
   ·rw[h,qJW];exact ul _
   ·exact hq t _ rfl p hp h
abbrev Desc (st:List qA):Prop:=st.Pairwise (λa b=>pLt b a)
structure Inv (pts st:List qA):Prop where
 desc:Desc st
 sub:∀p∈st,p∈pts
 left:Left pts st
 turns:qBe st
 top:∀t r,st=t::r->∀p∈pts,p=t\/pLt p t
 bot:∀t,st.getLast? =some t->∀p∈pts,p=t\/pLt t p
theorem qJq (c:qA):∀st,Desc st->Desc (popR st c)
 |[],h=>h
 |[_],h=>h
 |t::s::r,h=>by
  unfold popR;split
  ·exact qJq c (s::r) (kN.1 h).2
  ·exact h
theorem qKb (c:qA):∀st,(popR st c).getLast? =st.getLast?
 |[]=>rfl
 |[_]=>rfl
 |t::s::r=>by
  unfold popR;split
  ·rw[qKb c (s::r),ga]
  ·rfl
theorem qUu {a b:List qA}:∀{st:List qA},Left a st->Left b st->Left (a++b) st
 |[],_,_=>trivial
 |[_],_,_=>trivial
 |v::u::r,⟨h1,h2⟩,⟨h3,h4⟩=>⟨λp hp=>(un.1 hp).elim (h1 p) (h3 p),qUu h2 h4⟩
theorem qTk (c:qA):∀st,Desc st->(∀p∈st,pLt p c)->qBe st->(∀v u r,st=v::u::r->0<=cross u v c)->Left [c] st
 |[],_,_,_,_=>trivial
 |[_],_,_,_,_=>trivial
 |v::u::r,hd,hc,ht,h0=>by
  have h1:=h0 v u r rfl;obtain⟨d1,d2⟩:=kN.1 hd;refine⟨λp hp=>by rw[uu.1 hp];exact h1,qTk c (u::r) d2 (λp hp=>hc p (kE _ hp)) (by cases r with|nil=>trivial|cons x r=>exact ht.2) (λv' u' r' he=>?_)⟩;cases he;obtain⟨t1,_⟩:=ht;have huv:pLt u v:=d1 u kM;have hxu:pLt u' u:=(kN.1 d2).1 u' kM;have huc:pLt u c:=hc u (by simp);have:=EW (WD hxu) (WD huv) (WD huc) (by unfold cross at t1;grind) (by unfold cross at h1;grind);unfold cross
  grind
theorem Inv.push {pts st:List qA} (h:Inv pts st) {c:qA} (hc:∀p∈pts,pLt p c) (hne:pts≠[]->st≠[]):Inv (pts++[c]) (jD st c):=by
 have hp:=qUH pts c hc st h.desc h.sub h.left h.turns (λt r he p hp htp=>by
  rcases h.top t r he p hp with rfl|h1
  ·exact absurd htp (pLt_irrefl _)
  ·exact absurd htp (pLt_asymm h1)) h.bot
 have hsub:∀p∈popR st c,p∈pts:=λp hp=>h.sub p (qMZ c st p hp);have hlt:∀p∈popR st c,pLt p c:=λp hp=>hc p (hsub p hp);have hdesc:Desc (jD st c):=kN.2 ⟨hlt,qJq c st h.desc⟩;refine⟨hdesc,λp hp'=>?_,qUu hp.1 ?_,hp.2,λt r he p hp'=>?_,λt he p hp'=>?_⟩
 ·rcases kV.1 hp' with rfl|hp'
  ·simp
  ·exact List.mem_append_left _ (hsub p hp')
 ·have hl:Left [c] (popR st c):=by
   refine qTk c _ (qJq c st h.desc) hlt ?_ (λv u r he=>?_)
   ·have:=hp.2;generalize popR st c=q at this
    match q,this with
    |[],_=>trivial
    |[_],_=>trivial
    |[_,_],_=>trivial
    |_::_::_::_,this=>exact this.2
   ·have:=hp.2;rw[he] at this;exact gU this.1
  unfold jD;generalize popR st c=q at hl
  match q,hl with
  |[],_=>trivial
  |t::r,hl=>exact⟨λp hp=>by rw[uu.1 hp,qTL];exact ul _,hl⟩
 ·cases he;rcases un.1 hp' with h1|h1
  ·exact .inr (hc p h1)
  ·exact .inl (uu.1 h1)
 ·unfold jD at he;by_cases hst:st=[]
  ·subst hst;have hpts:pts=[]:=Classical.byContradiction λhh=>hne hh rfl;subst hpts;simp[popR] at he;subst he;exact .inl (by simpa using hp')
  ·have hpe:popR st c≠[]:=λe=>by
    have:=qKb c st;rw[e] at this;exact hst (List.getLast?_eq_none_iff.1 this.symm)
   have he':st.getLast? =some t:=by
    obtain⟨x,q,hq⟩:=uS hpe;rw[<-qKb c st,hq];rw[hq,ga] at he;exact he
   rcases un.1 hp' with h1|h1
   ·exact h.bot t he' p h1
   ·rw[uu.1 h1];exact .inr (hc t (h.sub t (List.mem_of_getLast? he')))
theorem qTG :∀(rest pts st:List qA),Inv pts st->(pts≠[]->st≠[])->(∀p∈pts,∀q∈rest,pLt p q)->jW rest->Inv (pts++rest) (rest.foldl jD st)
 |[],pts,st,h,_,_,_=>by simpa using h
 |c::rest,pts,st,h,hne,hlt,hs=>by
  obtain⟨s1,s2⟩:=kN.1 hs;have:=qTG rest (pts++[c]) (jD st c) (h.push (λp hp=>hlt p hp c kM) hne) (λ_=>by unfold jD;simp) (λp hp q hq=>by
   rcases un.1 hp with h1|h1
   ·exact hlt p h1 q (kE _ hq)
   ·rw[uu.1 h1];exact s1 q hq) s2
  rw[kH] at this;exact this
theorem qB8 {s:List qA} (hs:jW s):Inv s (chainR s):=by
 have:=qTG s [] [] ⟨List.Pairwise.nil,λp hp=>(by cases hp),trivial,trivial,λt r he=>(by cases he),λt he=>(by cases he)⟩ (λh=>absurd rfl h) (λp hp=>by cases hp) hs;simpa[chainR] using this
def ng (p:qA):qA:=⟨-p.X,-p.Y⟩
theorem ng_ng (p:qA):ng (ng p)=p:=by unfold ng;simp
theorem qH6 (p q r:qA):cross (ng p) (ng q) (ng r)=cross p q r:=by unfold cross ng;grind
theorem qJF {p q:qA}:pLt (ng p) (ng q)↔pLt q p:=by unfold pLt ng;simp only;omega
theorem qV4 (c:qA):∀st,popR (st.map ng) (ng c)=(popR st c).map ng
 |[]=>rfl
 |[_]=>rfl
 |t::s::r=>by
  have ih:=qV4 c (s::r);simp only[uG] at ih⊢;rw[popR,popR,qH6];split
  ·exact ih
  ·simp
theorem qVN :∀(l st:List qA),(l.map ng).foldl jD (st.map ng)=(l.foldl jD st).map ng
 |[],st=>rfl
 |c::l,st=>by
  have:=qVN l (jD st c);simp only[uG,uD];rw[<-this];unfold jD;rw[qV4,uG]
theorem qEZ (l:List qA):chainR (l.map ng)=(chainR l).map ng:=qVN l []
theorem qV8 {pts:List qA}:∀{st:List qA},Left (pts.map ng) (st.map ng)->Left pts st
 |[],_=>trivial
 |[_],_=>trivial
 |v::u::r,⟨h1,h2⟩=>⟨λp hp=>by have:=h1 (ng p) (List.mem_map_of_mem hp);rwa [qH6] at this,qV8 h2⟩
theorem qSH :∀{st:List qA},qBe (st.map ng)->qBe st
 |[],_=>trivial
 |[_],_=>trivial
 |[_,_],_=>trivial
 |c::t::s::r,⟨h1,h2⟩=>⟨by rwa [qH6] at h1,qSH h2⟩
theorem qUm {a b:List qA} (h:∀p,p∈b->p∈a):∀{st:List qA},Left a st->Left b st
 |[],_=>trivial
 |[_],_=>trivial
 |_::_::_,⟨h1,h2⟩=>⟨λp hp=>h1 p (h p hp),qUm h h2⟩
structure Up (pts st:List qA):Prop where
 asc:jW st
 sub:∀p∈st,p∈pts
 left:Left pts st
 turns:qBe st
 top:∀t r,st=t::r->∀p∈pts,p=t\/pLt t p
 bot:∀t,st.getLast? =some t->∀p∈pts,p=t\/pLt p t
theorem qOA {s:List qA} (hs:jW s):Up s (chainR s.reverse):=by
 have hs':jW (s.reverse.map ng):=by
  refine List.pairwise_map.2 (gF.2 ?_);exact hs.imp (λh=>qJF.2 h)
 have hi:=qB8 hs';have he:chainR (s.reverse.map ng)=(chainR s.reverse).map ng:=qEZ _;rw[he] at hi;have hmem:∀p,p∈s->ng p∈s.reverse.map ng:=λp hp=>List.mem_map_of_mem (by simpa using hp);have inj:∀p q,ng p=ng q->p=q:=λp q h=>by rw[<-ng_ng p,h,ng_ng]
 refine⟨?_,λp hp=>?_,qV8 (qUm (λp hp=>?_) hi.left),qSH hi.turns,λt r ht p hp=>?_,λt ht p hp=>?_⟩
 ·have:=hi.desc;rw[Desc,List.pairwise_map] at this;exact this.imp (λh=>qJF.1 h)
 ·have:=hi.sub (ng p) (List.mem_map_of_mem hp);obtain⟨q,hq,e⟩:=uP.1 this;rw[<-inj _ _ e];simpa using hq
 ·obtain⟨q,hq,e⟩:=uP.1 hp;rw[<-e];exact hmem q hq
 ·rcases hi.top (ng t) (r.map ng) (by rw[ht];rfl) (ng p) (hmem p hp) with h|h
  ·exact .inl (inj _ _ h)
  ·exact .inr (qJF.1 h)
 ·rcases hi.bot (ng t) (by rw[List.getLast?_map,ht];rfl) (ng p) (hmem p hp) with h|h
  ·exact .inl (inj _ _ h)
  ·exact .inr (qJF.1 h)
def qFQ (pts:List qA):List qA->Prop
 |u::v::r=>(∀p∈pts,0<=cross u v p)/\qFQ pts (v::r)
 |_=>True
theorem qHW {pts:List qA} {x:qA}:∀{a b:List qA},qFQ pts (a++[x])->qFQ pts (x::b)->qFQ pts (a++x::b)
 |[],_,_,h=>h
 |[_],_,h1,h2=>⟨h1.1,h2⟩
 |_::v::a,b,h1,h2=>⟨h1.1,qHW (a:=v::a) h1.2 h2⟩
theorem qHL {pts:List qA}:∀{st:List qA},Left pts st->qFQ pts st.reverse
 |[],_=>trivial
 |[_],_=>trivial
 |v::u::r,⟨h1,h2⟩=>by
  have ih:=qHL h2;rw[kK] at ih;rw[kK,kK,kH];exact qHW ih ⟨h1,trivial⟩
theorem qQK {pts:List qA}:∀{w:List qA},qFQ pts w->∀x,x+1<w.length->∀p∈pts,0<=cross (w.getD x dd) (w.getD (x+1) dd) p
 |[],_,x,h=>by simp at h
 |[_],_,x,h=>by simp at h
 |u::v::r,hl,0,_=>hl.1
 |u::v::r,hl,x+1,h=>by
  have:=qQK hl.2 x (by simpa using h);simpa using this
end Saw
end Go.SL

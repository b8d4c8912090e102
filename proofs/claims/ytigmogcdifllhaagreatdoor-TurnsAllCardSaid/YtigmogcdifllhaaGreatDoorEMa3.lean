/- Poly's plain mathematics, part 4: the sorted points. -/
import Derived.Test.YtigmogcdifllhaaGreatDoorEMa2
import Derived.Test.YtigmogcdifllhaaGreatDoorPCmp
import Derived.Test.YtigmogcdifllhaaGreatDoorEMa1
set_option linter.unusedVariables false
set_option linter.unusedSimpArgs false
namespace Go.SL
namespace Saw
def pLt (p q:qA):Prop:=p.X<q.X\/(p.X=q.X/\p.Y<q.Y)
instance (p q:qA):Decidable (pLt p q):=inferInstanceAs (Decidable (_\/_))
def pLe (p q:qA):Bool:=!decide (pLt q p)
theorem qWz {p q:qA} (h1:p.X=q.X) (h2:p.Y=q.Y):p=q:=by cases p;cases q;simp_all
theorem pLt_irrefl (p:qA):¬pLt p p:=by unfold pLt;omega
theorem qDd {p q r:qA} (h1:pLt p q) (h2:pLt q r):pLt p r:=by unfold pLt at*;omega
theorem pLt_tri (p q:qA):pLt p q\/p=q\/pLt q p:=by
 by_cases h1:pLt p q
 ·exact .inl h1
 by_cases h2:pLt q p
 ·exact .inr (.inr h2)
 unfold pLt at*;exact .inr (.inl (qWz (by omega) (by omega)))
theorem pLt_asymm {p q:qA} (h1:pLt p q):¬pLt q p:=λh2=>pLt_irrefl _ (qDd h1 h2)
theorem pLe_iff {p q:qA}:pLe p q=true↔pLt p q\/p=q:=by
 unfold pLe;simp only[uF,decide_eq_false_iff_not];refine⟨λh=>?_,λh=>?_⟩
 ·rcases pLt_tri p q with h1|h1|h1
  ·exact .inl h1
  ·exact .inr h1
  ·exact absurd h1 h
 ·rcases h with h|rfl
  ·exact pLt_asymm h
  ·exact pLt_irrefl _
theorem cmp_lt (p q:qA):(poly_Hull_1 p q).getD 0<0↔pLt p q:=by
 rw[poly_Hull_1_eq];have:=ltPt p q;unfold Go.Proofs.ltOf at this;have h2:=decide_eq_decide.1 this;exact h2
theorem sort_eq (a:List qA):MD poly_Hull_1 a=WJ pLe a:=by
 unfold MD
 congr 1
 funext x y
 unfold pLe
 congr 1
 exact decide_eq_decide.2 (cmp_lt y x)
abbrev QM (l:List qA):Prop:=l.Pairwise pLt
theorem qIv :∀{l t:List qA},QM l->QM t->(∀p,p∈l↔p∈t)->l=t
 |[],[],_,_,_=>rfl
 |[],q::t,_,_,h=>by have:=(h q).2 kF;cases this
 |p::l,[],_,_,h=>by have:=(h p).1 kF;cases this
 |p::l,q::t,hl,ht,h=>by
  obtain⟨l1,l2⟩:=kK.1 hl;obtain⟨t1,t2⟩:=kK.1 ht;have e:p=q:=by
   rcases kN.1 ((h p).1 kF) with h1|h1
   ·exact h1
   ·rcases kN.1 ((h q).2 kF) with h2|h2
    ·exact h2.symm
    ·exact absurd (t1 p h1) (pLt_asymm (l1 q h2))
  subst e
  congr 1
  refine qIv l2 t2 (λr=>⟨λhr=>?_,λhr=>?_⟩)
  ·rcases kN.1 ((h r).1 (kD _ hr)) with rfl|h1
   ·exact absurd (l1 r hr) (pLt_irrefl _)
   ·exact h1
  ·rcases kN.1 ((h r).2 (kD _ hr)) with rfl|h1
   ·exact absurd (t1 r hr) (pLt_irrefl _)
   ·exact h1
def peq (p q:qA):Bool:=(p.X==q.X)&&((p.Y==q.Y)&&true)
theorem qJ3 {p q:qA}:peq p q=true↔p=q:=by
 unfold peq;simp only[kv,gh,and_true];exact⟨λh=>qWz h.1 h.2,λh=>by subst h;exact⟨rfl,rfl⟩⟩
def ddT (l:List qA):Nat->List qA
 |0=>[]
 |m+1=>ddT l m++(bif !(Nat.beq m 0)&&peq (l.getD m daa) (l.getD (m-1) daa) then[] else[l.getD m daa])
theorem qOH (l:List qA):∀m,(ddT l m).length<=m
 |0=>kq _
 |m+1=>by
  have:=qOH l m;unfold ddT;rw[ub];cases (!(Nat.beq m 0)&&peq (l.getD m daa) (l.getD (m-1) daa))<;>simp<;>omega
theorem qOD (l:List qA):∀m,m<=l.length->∀p,p∈ddT l m↔p∈l.take m
 |0,_,p=>by simp[ddT]
 |m+1,hm,p=>by
  have hx:m<l.length:=by omega
  have ht:l.take (m+1)=l.take m++[l.getD m daa]:=by
   rw[ge,ks hx,ki,ks hx];rfl
  unfold ddT;rw[um,qOD l m (by omega),ht,um];cases h:(!(Nat.beq m 0)&&peq (l.getD m daa) (l.getD (m-1) daa)) with
  |false=>simp
  |true=>
   rw[kv] at h;have h0:m≠0:=λe=>by rw[e] at h;cases h.1
   have he:=qJ3.1 h.2;simp only[kp,dc,or_false,uH];refine⟨.inl,λh'=>h'.elim id λe=>?_⟩;rw[e,he,dY];exact⟨m-1,by omega,by rw[ki,ks (by omega)];rfl⟩
theorem qHL (l:List qA) (hs:l.Pairwise (λa b=>pLe a b=true)):∀m,m<=l.length->QM (ddT l m)
 |0,_=>List.Pairwise.nil
 |m+1,hm=>by
  have hx:m<l.length:=by omega
  unfold ddT;cases h:(!(Nat.beq m 0)&&peq (l.getD m daa) (l.getD (m-1) daa)) with
  |true=>simp only[kp,uQ];exact qHL l hs m (by omega)
  |false=>
   simp only[kr];refine dS.2 ⟨qHL l hs m (by omega),List.pairwise_singleton _ _,λp hp q hq=>?_⟩;rw[uH] at hq;subst hq;rw[qOD l m (by omega)] at hp;have hm0:m≠0:=λe=>by subst e;simp at hp
   obtain⟨j,hj,rfl⟩:=dY.1 hp;have hj':j<m:=by omega
   have g:∀i (hi:i<l.length),l.getD i daa=l[i]:=λi hi=>by rw[ki,ks hi];rfl
   have hb:Nat.beq m 0=false:=by cases m with|zero=>exact absurd rfl hm0|succ m=>rfl
   rw[hb,uC,Bool.true_and] at h;have hne:¬l.getD m daa=l.getD (m-1) daa:=λe=>by rw[qJ3.2 e] at h;cases h
   rw[dt] at hs;have s1:=pLe_iff.1 (hs (m-1) m (by omega) hx (by omega));rw[g m hx,g (m-1) (by omega)] at hne;rw[g m hx];have s2:pLt l[m-1] l[m]:=s1.resolve_right (λe=>hne e.symm);by_cases hjm:j=m-1
   ·subst hjm;exact s2
   ·rcases pLe_iff.1 (hs j (m-1) (by omega) (by omega) (by omega)) with h1|h1
    ·exact qDd h1 s2
    ·rw[h1];exact s2
theorem qHW (l:List qA) (x:Nat) (hl:l.length<=1000000) (hx:0<x) (hxl:x<l.length):∀(n k i:Nat) (t:List qA),l.length-x<k+n->0<k->k<=l.length-x->t.length=l.length->i<=x+k-1->t.take i=ddT l (x+k)->i=(ddT l (x+k)).length->
  (∀j,x+k-1<=j->j<l.length->t.getD j daa=l.getD j daa)->∃t':List qA,jP l (x:Int) n t (i:Int) (k:Int)=some (t',((ddT l l.length).length:Int))/\t'.length=l.length/\t'.take (ddT l l.length).length=ddT l l.length
 |0,k,i,t,h1,_,h2,_,_,_,_,_=>by omega
 |n+1,k,i,t,h1,hk,h2,h3,h4,h5,h5',h6=>by
  unfold jP;simp only[ko];by_cases hkl:k<l.length-x
  ·have e1:w64 ((k:Int)-1)=((k-1:Nat):Int):=by rw[qD (by omega)];omega
   have hb:Nat.ble (x+(l.length-x)) t.length=true:=by rw[Nat.ble_eq];omega
   rw[lt_t (by omega),qJ (by omega),hb,e1,qJ (by omega)];simp only[kp,ko,YA,qM (show k<4611686018427387904 by omega),qM (show i<4611686018427387904 by omega)];have g1:t.getD (x+k) daa=l.getD (x+k) daa:=h6 _ (by omega) (by omega);have g2:t.getD (x+(k-1)) daa=l.getD (x+k-1) daa:=by rw[show x+(k-1)=x+k-1 by omega];exact h6 _ (by omega) (by omega)
   have hbq:Nat.beq (x+k) 0=false:=by rw[show x+k=(x+k-1)+1 by omega];rfl
   have hdd:ddT l (x+(k+1))=ddT l (x+k)++(bif peq (l.getD (x+k) daa) (l.getD (x+k-1) daa) then[] else[l.getD (x+k) daa]):=by
    rw[show x+(k+1)=(x+k)+1 by omega,ddT,hbq];rfl
   rw[g1,g2];cases hp:peq (l.getD (x+k) daa) (l.getD (x+k-1) daa) with
   |true=>
    have hp':=hp;unfold peq at hp';rw[hp] at hdd;simp only[kp,uQ] at hdd;rw[hp'];simp only[kG,kr];exact qHW l x hl hx hxl n (k+1) i t (by omega) (by omega) (by omega) h3 (by omega) (by rw[hdd];exact h5) (by rw[hdd];exact h5') (λj hj1 hj2=>h6 j (by omega) hj2)
   |false=>
    have hp':=hp;unfold peq at hp';rw[hp] at hdd;simp only[kr] at hdd;rw[hp',qJ (by omega)];simp only[uC,kp];refine qHW l x hl hx hxl n (k+1) (i+1) _ (by omega) (by omega) (by omega) (by rw[gO];exact h3) (by omega) ?_ (by rw[hdd,ub,<-h5'];rfl) (λj hj1 hj2=>by rw[ZZ _ (by omega)];exact h6 j (by omega) hj2);rw[hdd,<-h5,ge,dh (by omega),List.take_set_of_le (kq _)];rfl
  ·have hkk:x+k=l.length:=by omega
   rw[lt_f (by omega)];rw[hkk] at h5 h5';exact⟨t,by simp only[kr];rw[h5'],h3,by rw[<-h5'];exact h5⟩
theorem compact_L1 (l:List qA) (hl:l.length<=1000000):∀(n x:Nat),l.length<x+n->0<x->x<=l.length->ddT l x=l.take x->(jM n l (x:Int)=some (.inl (ddT l l.length,ddT l l.length)))\/(jM n l (x:Int)=some (.inr l)/\ddT l l.length=l)
 |0,x,h1,_,h2,_=>by omega
 |n+1,x,h1,h0,h2,h3=>by
  unfold jM;by_cases hx:x<l.length
  ·have e1:w64 ((x:Int)-1)=((x-1:Nat):Int):=by rw[qD (by omega)];omega
   have hbq:Nat.beq x 0=false:=by rw[show x=(x-1)+1 by omega];rfl
   have hlen:(ddT l x).length=x:=by rw[h3];simp;omega
   rw[lt_t (by omega),e1,qJ (by omega),qJ (by omega)];simp only[kp,ko,qM (show x<4611686018427387904 by omega)];cases hp:peq (l.getD x daa) (l.getD (x-1) daa) with
   |true=>
    have hp':=hp;unfold peq at hp';have hdd:ddT l (x+1)=ddT l x:=by rw[ddT,hbq,hp];simp
    have hsl:slOk (x:Int) (l.length:Int) l.length=true:=by unfold slOk;exact ka ⟨by omega,by omega,by omega⟩
    obtain⟨t',e2,e3,e4⟩:=qHW l x hl h0 hx FUEL 1 x l (by rw[FUEL_eq];omega) (by omega) (by omega) rfl (by omega) (by rw[hdd,h3]) (by rw[hdd,hlen]) (λj _ _=>rfl);have hle:=qOH l l.length;have s1:slOk ((ddT l l.length).length:Int) (t'.length:Int) t'.length=true:=by unfold slOk;exact ka ⟨by omega,by omega,by omega⟩
    have s2:slOk 0 ((ddT l l.length).length:Int) t'.length=true:=by unfold slOk;exact ka ⟨by omega,by omega,by omega⟩
    rw[show((1:Nat):Int)=1 from rfl] at e2;rw[hp',hsl,e2];simp only[kp,kg,s1,s2,ko,e4];exact .inl trivial
   |false=>
    have hp':=hp;unfold peq at hp';rw[hp'];simp only[kr];refine compact_L1 l hl n (x+1) (by omega) (by omega) (by omega) ?_;rw[ddT,hbq,hp,h3,ge,ks hx,ki,ks hx];rfl
  ·rw[lt_f (by omega)];have:x=l.length:=by omega
   rw[this,de] at h3;exact .inr ⟨rfl,h3⟩
theorem qVa (l:List qA) (hl:l.length<=1000000):JB l=some (ddT l l.length,ddT l l.length):=by
 unfold JB;by_cases h:(l.length:Int)<2
 ·rw[ka h];have:ddT l l.length=l:=by
   match l,h with
   |[],_=>rfl
   |[p],_=>rfl
   |p::q::r,h=>simp at h;omega
  rw[this];rfl
 ·rw[ke h];have h1:ddT l 1=l.take 1:=by
   match l,h with
   |[],h=>exact absurd (by decide) h
   |p::r,_=>rfl
  rcases compact_L1 l hl FUEL 1 (by rw[FUEL_eq];omega) (by omega) (by omega) h1 with h2|⟨h2,h3⟩
  ·rw[show((1:Nat):Int)=1 from rfl] at h2;rw[h2];rfl
  ·rw[show((1:Nat):Int)=1 from rfl] at h2;rw[h2,h3];rfl
theorem qXy (p q:qA):qB6 p q=some (decide (pLt p q)):=by
 unfold qB6 DJ pLt;by_cases h1:p.X<q.X
 ·simp[h1]
 ·by_cases h2:p.X=q.X
  ·simp[h1,h2]
  ·have:(p.X==q.X)=false:=by simpa using h2
   simp[h1,h2,this]
theorem qOZ (a l:List qA) (x:Nat) (hl:l.length<=1000000) (hx:x<a.length):∀(n k:Nat),l.length<k+n->k<=l.length->(∀j,j<k->pLt (l.getD j daa) (a.getD x daa))->
  ∃k',PK a l (x:Int) n (k:Int)=some ((k':Nat):Int)/\k'<=l.length/\(∀j,j<k'->pLt (l.getD j daa) (a.getD x daa))/\(k'<l.length->¬pLt (l.getD k' daa) (a.getD x daa))
 |0,k,h1,h2,_=>by omega
 |n+1,k,h1,h2,h3=>by
  unfold PK;by_cases hk:k<l.length
  ·rw[lt_t (by omega),qJ (by omega),qJ (by omega)];simp only[kp,ko,qXy,kg,HT,qM (show k<4611686018427387904 by omega)];by_cases hp:pLt (l.getD k daa) (a.getD x daa)
   ·rw[ka hp];exact qOZ a l x hl hx n (k+1) (by omega) (by omega) (λj hj=>by
     by_cases hjk:j=k
     ·subst hjk;exact hp
     ·exact h3 j (by omega))
   ·rw[ke hp];exact⟨k,rfl,h2,h3,λ_=>hp⟩
  ·rw[lt_f (by omega)];exact⟨k,rfl,h2,h3,λh=>absurd h hk⟩
theorem qIc {α:Type} [Inhabited α] {l:List α} {i:Nat} (h:i<l.length):l.getD i daa=l[i]:=by rw[ki,ks h];rfl
theorem qGp (a:List qA) (hl:a.length<=1000000):∀(n x:Nat) (l:List qA),a.length<x+n->x<=a.length->l.length<=x->QM l->(∀p,p∈l↔p∈a.take x)->∃s,YO a n l (x:Int)=some s/\QM s/\(∀p,p∈s↔p∈a)/\s.length<=a.length
 |0,x,l,h1,h2,_,_,_=>by omega
 |n+1,x,l,h1,h2,h3,h4,h5=>by
  unfold YO;by_cases hx:x<a.length
  ·obtain⟨k,e1,e2,e3,e4⟩:=qOZ a l x (by omega) hx FUEL 0 (by rw[FUEL_eq];omega) (by omega) (λj hj=>by omega);have ht:a.take (x+1)=a.take x++[a.getD x daa]:=by rw[ge,ks hx,qIc hx];rfl
   rw[show((0:Nat):Int)=0 from rfl] at e1;rw[lt_t (by omega),e1];simp only[kp,kg,HJ,HK,ko,qM (show x<4611686018427387904 by omega)];have s1:slOk 0 ((k:Nat):Int) l.length=true:=by unfold slOk;exact ka ⟨by omega,by omega,by omega⟩
   have s2:slOk ((k:Nat):Int) (l.length:Int) l.length=true:=by unfold slOk;exact ka ⟨by omega,by omega,by omega⟩
   rw[s1,s2,QG (n:=0+k) (by omega),QG (n:=0+k+1) (by omega),QG (n:=0+k+1+(l.length-k)) (by omega),qJ (i:=(x:Int)) (by omega)];simp only[kp,uj];have hins:¬(k<l.length/\peq (l.getD k daa) (a.getD x daa)=true)->∃s,YO a n (l.take k++[a.getD x daa]++(l.drop k).take (l.length-k)) ((x+1:Nat):Int)=some s/\QM s/\(∀p,p∈s↔p∈a)/\s.length<=a.length:=by
    intro hne;have hdr:(l.drop k).take (l.length-k)=l.drop k:=gx (by simp);rw[hdr];have hall:∀p∈l.drop k,pLt (a.getD x daa) p:=by
     intro p hp;obtain⟨j,hj,rfl⟩:=uV.1 hp;rw[uv] at hj;rw[List.getElem_drop];have hk:k<l.length:=by omega
     have hc:pLt (a.getD x daa) (l.getD k daa):=by
      rcases pLt_tri (l.getD k daa) (a.getD x daa) with h|h|h
      ·exact absurd h (e4 hk)
      ·exact absurd ⟨hk,qJ3.2 h⟩ hne
      ·exact h
     rw[qIc hk] at hc;by_cases hj0:j=0
     ·subst hj0;exact hc
     ·have h4':=dt.1 h4;exact qDd hc (h4' k (k+j) hk (by omega) (by omega))
    have htk:∀p∈l.take k,pLt p (a.getD x daa):=by
     intro p hp;obtain⟨j,hj,rfl⟩:=dY.1 hp;have:=e3 j (by omega)
     rwa [qIc (by omega)] at this
    refine qGp a hl n (x+1) _ (by omega) (by omega) (by simp;omega) ?_ (λp=>?_)
    ·refine dS.2 ⟨dS.2 ⟨h4.take,List.pairwise_singleton _ _,λp hp q hq=>?_⟩,h4.drop,λp hp q hq=>?_⟩
     ·rw[uH] at hq;subst hq;exact htk p hp
     ·rcases um.1 hp with hp|hp
      ·exact qDd (htk p hp) (hall q hq)
      ·rw[uH] at hp;subst hp;exact hall q hq
    ·rw[ht,um,um,um,<-h5 p];have:p∈l↔p∈l.take k\/p∈l.drop k:=by rw[<-um,List.take_append_drop]
     rw[this];constructor
     ·rintro((h|h)|h)
      ·exact .inl (.inl h)
      ·exact .inr h
      ·exact .inl (.inr h)
     ·rintro((h|h)|h)
      ·exact .inl (.inl h)
      ·exact .inr h
      ·exact .inl (.inr h)
   by_cases hk:k<l.length
   ·rw[lt_t (by omega),qJ (by omega)];simp only[kp];cases hp:peq (l.getD k daa) (a.getD x daa) with
    |true=>
     have hp':=hp;unfold peq at hp';rw[hp'];simp only[kp];refine qGp a hl n (x+1) l (by omega) (by omega) (by omega) h4 (λp=>?_);rw[ht,um,<-h5 p,uH];refine⟨.inl,λh=>h.elim id λe=>?_⟩;rw[e,<-qJ3.1 hp];exact zK hk
    |false=>
     have hp':=hp;unfold peq at hp';rw[hp'];simp only[kr];exact hins (λh=>by rw[hp] at h;cases h.2)
   ·rw[lt_f (by omega)];simp only[kr];exact hins (λh=>hk h.1)
  ·rw[lt_f (by omega)];rw[gx (by omega)] at h5;exact⟨l,rfl,h4,h5,by omega⟩
def srt (a:List qA):List qA:=ddT (WJ pLe a) (WJ pLe a).length
theorem qWH (x y z:qA) (h1:pLe x y=true) (h2:pLe y z=true):pLe x z=true:=by
 rw[pLe_iff] at*;rcases h1 with h1|rfl
 ·rcases h2 with h2|rfl
  ·exact .inl (qDd h1 h2)
  ·exact .inl h1
 ·exact h2
theorem qXf (x y:qA):pLe x y=true\/pLe y x=true:=by
 rw[pLe_iff,pLe_iff];rcases pLt_tri x y with h|h|h
 ·exact .inl (.inl h)
 ·exact .inl (.inr h)
 ·exact .inr (.inl h)
theorem qBS (a:List qA):QM (srt a):=qHL _ (EC qWH qXf a) _ (kq _)
theorem qEC (a:List qA) (p:qA):p∈srt a↔p∈a:=by
 unfold srt;rw[qOD _ _ (kq _),de];exact(KN pLe a).mem_iff
theorem qKb (a:List qA):(srt a).length<=a.length:=by
 have:=qOH (WJ pLe a) (WJ pLe a).length;have h2:=(KN pLe a).length_eq;unfold srt;omega
theorem qS0 (a:List qA) (hl:a.length<=1000000):qBe a=some (srt a):=by
 unfold qBe;obtain⟨s,e1,e2,e3,_⟩:=qGp a hl FUEL 0 [] (by rw[FUEL_eq];omega) (by omega) (by simp) List.Pairwise.nil (λp=>by simp);rw[show((0:Nat):Int)=0 from rfl] at e1;rw[e1,kg]
 congr 1
 exact qIv e2 (qBS a) (λp=>by rw[e3,qEC])
def turnP (q:Nat) (p:qA):qA:=match q with
 |0=>p
 |1=>⟨-p.Y,p.X⟩
 |2=>⟨-p.X,-p.Y⟩
 |_=>⟨p.Y,-p.X⟩
def canT (p:qA):Bool:=!(p.X== -9223372036854775808)&&!(p.Y== -9223372036854775808)
def turns (a:List qA) (q:Nat):List qA:=bif a.all canT then a.map (turnP q) else[]
def popR :List qA->qA->List qA
 |t::s::r,c=>if cross s t c<=0 then popR (s::r) c else t::s::r
 |l,_=>l
theorem qLx (c:qA):∀st,(popR st c).length<=st.length
 |[]=>kq _
 |[_]=>kq _
 |t::s::r=>by
  unfold popR;split
  ·have:=qLx c (s::r);simp at this⊢;omega
  ·exact kq _
theorem qLw (c:qA):∀st p,p∈popR st c->p∈st
 |[],_,h=>h
 |[_],_,h=>h
 |t::s::r,p,h=>by
  unfold popR at h;split at h
  ·exact kD _ (qLw c (s::r) p h)
  ·exact h
def jX (st:List qA) (c:qA):List qA:=c::popR st c
def chainR (a:List qA):List qA:=a.foldl jX []
theorem two_top (t s:qA) (r:List qA):((t::s::r).reverse).getD r.length daa=s/\((t::s::r).reverse).getD (r.length+1) daa=t/\((t::s::r).reverse).take (r.length+1)=(s::r).reverse:=by
 simp only[kX,kR,uT,uj];refine⟨?_,?_,?_⟩
 ·rw[ki,kH (by simp)];simp
 ·rw[ki,kH (by simp)];simp
 ·rw[List.take_append,gx (by simp)];simp
theorem qSN (a:List qA) (x:Nat) (hx:x<a.length) (hc:rng (a.getD x daa)):∀(n:Nat) (st:List qA),st.length<n->st.length<=1000000->(∀p∈st,rng p)->
  VQ a (x:Int) n st.reverse=some (popR st (a.getD x daa)).reverse/\TZ a (x:Int) n st.reverse=some (popR st (a.getD x daa)).reverse
 |0,st,h,_,_=>by omega
 |n+1,[],_,_,_=>⟨rfl,rfl⟩
 |n+1,[t],_,_,_=>⟨rfl,rfl⟩
 |n+1,t::s::r,h,hl,hr=>by
  have hs:rng s:=hr s (by simp);have ht:rng t:=hr t (by simp);obtain⟨g1,g2,g3⟩:=two_top t s r;have hlen:((t::s::r).reverse).length=r.length+2:=by simp
  simp only[ue] at h hl;have e1:w64 (((r.length+2:Nat):Int)-2)=(r.length:Int):=by rw[qD (by omega)];omega
  have e2:w64 (((r.length+2:Nat):Int)-1)=((r.length+1:Nat):Int):=by rw[qD (by omega)];omega
  have hsl:slOk 0 ((r.length+1:Nat):Int) (r.length+2)=true:=by unfold slOk;exact ka ⟨by omega,by omega,by omega⟩
  obtain⟨ih1,ih2⟩:=qSN a x hx hc n (s::r) (by simp;omega) (by simp;omega) (λp hp=>hr p (kD _ hp));unfold VQ TZ qAH IL popR;rw[hlen,e1,e2,ka (show((r.length+2:Nat):Int)≥2 by omega),ka (show((r.length+2:Nat):Int)>1 by omega),qJ (i:=(r.length:Int)) (by omega),qJ (i:=((r.length+1:Nat):Int)) (by omega),qJ (i:=(x:Int)) (by omega),hsl];simp only[kp,ko,g1,g2,g3,(qR0 hs ht hc).1,(qR0 hs ht hc).2,kg,ih1,ih2];by_cases hcr:cross s t (a.getD x daa)<=0
  ·rw[ka hcr,if_pos hcr];exact⟨rfl,rfl⟩
  ·rw[ke hcr,if_neg hcr];exact⟨rfl,rfl⟩
theorem qRS (a:List qA) (hr:∀p∈a,rng p) (hl:a.length<=1000000):∀(n x:Nat) (st:List qA),a.length<x+n->x<=a.length->st.length<=x->(∀p∈st,rng p)->
  MS a n st.reverse (x:Int)=some ((a.drop x).foldl jX st).reverse/\FC a n st.reverse (x:Int)=some ((a.drop x).foldl jX st).reverse
 |0,x,st,h1,h2,_,_=>by omega
 |n+1,x,st,h1,h2,h3,h4=>by
  unfold MS FC;by_cases hx:x<a.length
  ·have hc:rng (a.getD x daa):=hr _ (zK hx);obtain⟨p1,p2⟩:=qSN a x hx hc FUEL st (by rw[FUEL_eq];omega) (by omega) h4;have hp:=qLx (a.getD x daa) st;obtain⟨ih1,ih2⟩:=qRS a hr hl n (x+1) (jX st (a.getD x daa)) (by omega) (by omega) (by unfold jX;rw[ue];omega) (λp hp'=>by
    unfold jX at hp';rcases kN.1 hp' with rfl|hp'
    ·exact hc
    ·exact h4 p (qLw _ _ _ hp'))
   rw[lt_t (by omega),qJ (by omega),p1,p2,JE a x hx];simp only[kp,kg,uD,QG (n:=(popR st (a.getD x daa)).length+1) (b:=16) (by omega),ko,qM (show x<4611686018427387904 by omega),uR];unfold jX at ih1 ih2⊢;rw[kX] at ih1 ih2;exact⟨ih1,ih2⟩
  ·rw[lt_f (by omega),uL (by omega)];exact⟨rfl,rfl⟩
theorem qHk :∀(a st:List qA),(a.foldl jX st).length<=a.length+st.length
 |[],st=>by simp
 |c::a,st=>by
  have h1:=qHk a (jX st c);have h2:=qLx c st;unfold jX at h1;simp only[uR,ue] at h1⊢;unfold jX;omega
theorem YC (a:List qA):(chainR a).length<=a.length:=by have:=qHk a [];simpa[chainR] using this
theorem qIA :∀(a st:List qA),st≠[]\/a≠[]->a.foldl jX st≠[]
 |[],st,h=>by simpa using h
 |c::a,st,_=>qIA a (jX st c) (.inl (by unfold jX;simp))
theorem LQ {a:List qA} (h:a≠[]):0<(chainR a).length:=uq.2 (qIA a [] (.inr h))
theorem qHI (a:List qA) (hr:∀p∈a,rng p) (hl:a.length<=1000000):(a≠[]->qBj a=some (chainR a).tail.reverse)/\CS a=some (chainR a).reverse:=by
 obtain⟨h1,h2⟩:=qRS a hr hl FUEL 0 [] (by rw[FUEL_eq];omega) (by omega) (by simp) (λp hp=>by cases hp);rw[show((0:Nat):Int)=0 from rfl,uI,List.reverse_nil] at h1 h2;unfold qBj CS;rw[h1,h2];refine⟨λhne=>?_,rfl⟩;have hp:=LQ hne;have hle:=YC a;change 0<(a.foldl jX []).length at hp;change (a.foldl jX []).length<=a.length at hle;have e2:w64 ((((a.foldl jX []).reverse.length:Nat):Int)-1)=(((a.foldl jX []).length-1:Nat):Int):=by rw[uD,qD (by omega)];omega
 have hsl:slOk 0 (((a.foldl jX []).length-1:Nat):Int) (a.foldl jX []).reverse.length=true:=by unfold slOk;rw[uD];exact ka ⟨by omega,by omega,by omega⟩
 simp only[kg,e2,hsl,kp,ko];unfold chainR;generalize a.foldl jX []=st at hp;cases st with
 |nil=>simp at hp
 |cons t r=>simp
theorem qSn (l:List qA) (hl:l.length<=1000000):∀(n i j:Nat) (t:List qA),l.length<2*i+2*n->i<=j+1->i+j+1=l.length->t.length=l.length->(∀k,k<l.length->(k<i\/j<k)->t.getD k daa=l.getD (l.length-1-k) daa)->(∀k,i<=k->k<=j->t.getD k daa=l.getD k daa)->
  QU n t (i:Int) (j:Int)=some l.reverse
 |0,i,j,t,h1,h2,h3,_,_,_=>by omega
 |n+1,i,j,t,h1,h2,h3,h4,h5,h6=>by
  unfold QU;by_cases hij:i<j
  ·have e1:w64 ((j:Int)-1)=((j-1:Nat):Int):=by rw[qD (by omega)];omega
   rw[lt_t (by omega),qJ (i:=(j:Int)) (by omega),qJ (i:=(i:Int)) (by omega),e1];simp only[kp,ko,qM (show i<4611686018427387904 by omega)];refine qSn l hl n (i+1) (j-1) _ (by omega) (by omega) (by omega) (by simp[h4]) (λk hk hkk=>?_) (λk hk1 hk2=>?_)
   ·by_cases hkj:k=j
    ·subst hkj;rw[BF _ (by simp;omega),h6 i (by omega) (by omega)]
     congr 1;omega
    ·rw[ZZ _ (λe=>hkj e.symm)];by_cases hki:k=i
     ·subst hki;rw[BF _ (by omega),h6 j (by omega) (by omega)]
      congr 1;omega
     ·rw[ZZ _ (λe=>hki e.symm)];exact h5 k hk (by omega)
   ·rw[ZZ _ (by omega),ZZ _ (by omega)];exact h6 k (by omega) (by omega)
  ·rw[lt_f (by omega)];have:t=l.reverse:=by
    refine qH8 (by simp[h4]) (λk hk=>?_);rw[ki (l:=l.reverse),List.getElem?_reverse (by omega),<-ki];by_cases hkk:k<i\/j<k
    ·exact h5 k (by omega) hkk
    ·rw[h6 k (by omega) (by omega)];congr 1;omega
   rw[this];rfl
theorem rev_eq (l:List qA) (hne:l≠[]) (hl:l.length<=1000000):PS l=some l.reverse:=by
 have hp:0<l.length:=uq.2 hne;unfold PS;have h:=qSn l hl FUEL 0 (l.length-1) l (by rw[FUEL_eq];omega) (by omega) (by omega) rfl (λk hk h=>by omega) (λ_ _ _=>rfl);rw[show((0:Nat):Int)=0 from rfl] at h;rw[show w64 ((l.length:Int)-1)=((l.length-1:Nat):Int) by rw[qD (by omega)];omega,h];rfl
theorem qKI (l:List qA) (h:l.length<=1000000):∀(n x:Nat) (t:List qA),x<n->x<=l.length->t=(l.drop x).reverse->RK l n t ((x:Int)-1)=some l.reverse
 |0,x,t,h1,h2,_=>by omega
 |n+1,0,t,h1,h2,h3=>by
  unfold RK;rw[ke (by omega),h3];rfl
 |n+1,x+1,t,h1,h2,h3=>by
  unfold RK;have hx:x<l.length:=by omega
  have ht:t.length<=1000000:=by rw[h3];simp;omega
  have e0:(((x+1:Nat):Int)-1)=(x:Int):=by omega
  have e4:w64 ((x:Int)-1)=(x:Int)-1:=qD (by omega);rw[e0,ka (by omega),qJ (by omega),QG (by omega)];simp only[kp,ko,e4];refine qKI l h n x _ (by omega) (by omega) ?_;rw[JE l x hx,kX,h3]
def hullOf (s:List qA):List qA:=if(chainR s).length+(chainR s.reverse).length<5 then[] else(chainR s).tail.reverse++(chainR s.reverse).tail.reverse
def hull (a:List qA):List qA:=bif decide ((a.length:Int)>32) then[] else bif a.all inRange then hullOf (srt a) else[]
theorem qRh {s:List qA} (h:s.length<3):hullOf s=[]:=by
 have h1:=YC s;have h2:=YC s.reverse;rw[uD] at h2;unfold hullOf;rw[if_pos (by omega)]
theorem qVJ (a:List qA):qD6 a=some (hull a):=by
 unfold qD6 hull qAs;by_cases h:(a.length:Int)>32
 ·simp[h]
 rw[ke h,qJN a (by omega)];simp only[kr,kg];cases hr:a.all inRange with
 |false=>rfl
 |true=>
  have hrng:∀p∈srt a,rng p:=λp hp=>qCD.1 (kB.1 hr p ((qEC a p).1 hp));have hsl:=qKb a;have c1:=(qHI (srt a) hrng (by omega)).2;have c2:=(qHI (srt a).reverse (λp hp=>hrng p (by simpa using hp)) (by simp;omega)).2;have hrv:RK (srt a) FUEL [] (w64 (((srt a).length:Int)-1))=some (srt a).reverse:=by
   rw[qD (by omega)];exact qKI (srt a) (by omega) FUEL (srt a).length [] (by rw[FUEL_eq];omega) (kq _) (by simp)
  rw[qS0 a (by omega)];simp only[kG,kr,kp,kg,hrv,c1,c2];have l1:=YC (srt a);have l2:=YC (srt a).reverse;rw[uD] at l2;simp only[uD];rw[qD (n:=((chainR (srt a)).length:Int)+((chainR (srt a).reverse).length:Int)) (by omega)];unfold hullOf;by_cases h5:(chainR (srt a)).length+(chainR (srt a).reverse).length<5
  ·rw[if_pos h5,lt_t (by omega)];rfl
  ·rw[if_neg h5,lt_f (by omega)];have hne:srt a≠[]:=λe=>by rw[e] at h5;simp[chainR] at h5
   have p1:=LQ hne;have p2:=LQ (a:=(srt a).reverse) (by simpa using hne);have e1:w64 (((chainR (srt a)).length:Int)-1)=(((chainR (srt a)).length-1:Nat):Int):=by rw[qD (by omega)];omega
   have e2:w64 (((chainR (srt a).reverse).length:Int)-1)=(((chainR (srt a).reverse).length-1:Nat):Int):=by rw[qD (by omega)];omega
   have s1:slOk 0 (((chainR (srt a)).length-1:Nat):Int) (chainR (srt a)).length=true:=by unfold slOk;exact ka ⟨by omega,by omega,by omega⟩
   have s2:slOk 0 (((chainR (srt a).reverse).length-1:Nat):Int) (chainR (srt a).reverse).length=true:=by unfold slOk;exact ka ⟨by omega,by omega,by omega⟩
   rw[e1,e2,s1,s2,QG (by simp;omega),QG (by simp;omega)];simp only[kr,kp,ko,uj]
   congr 1
   have tk:∀st:List qA,0<st.length->st.reverse.take (st.length-1)=st.tail.reverse:=λst hst=>by
    cases st with
    |nil=>simp at hst
    |cons t r=>simp
   rw[tk _ p1,tk _ p2]
theorem qTv (a:List qA):qF2 a=some (hull a):=by
 unfold qF2 hull AG;by_cases h3:(a.length:Int)<3
 ·have hs:hullOf (srt a)=[]:=qRh (by have:=qKb a;omega);rw[ka h3,ke (show¬(a.length:Int)>32 by omega),hs];cases a.all inRange<;>rfl
 by_cases h:(a.length:Int)>32
 ·simp[h,h3]
 rw[ke h,ke h3,qH5 a (by omega)];simp only[kr,kg];cases hr:a.all inRange with
 |false=>rfl
 |true=>
  have hrng:∀p∈srt a,rng p:=λp hp=>qCD.1 (kB.1 hr p ((qEC a p).1 hp));have hsl:=qKb a;have hpl:=(KN pLe a).length_eq;have hane:a≠[]:=λe=>by rw[e] at h3;simp at h3
  have hne:srt a≠[]:=λe=>by
   obtain⟨p,hp⟩:=List.exists_mem_of_ne_nil a hane;have:=(qEC a p).2 hp;rw[e] at this;cases this
  have c1:=(qHI (srt a) hrng (by omega)).1 hne;have c2:=(qHI (srt a).reverse (λp hp=>hrng p (by simpa using hp)) (by simp;omega)).1 (by simpa using hne);have hso:qIU a.length=true:=by unfold qIU;rw[kv,uf,uf];omega
  have hcl:XN a=some a:=by unfold XN;rw[QG (by omega)];rfl
  have hst:ZW a=some (WJ pLe a):=by unfold ZW;rw[hso,sort_eq];rfl
  have hco:JB (WJ pLe a)=some (srt a,srt a):=qVa (WJ pLe a) (by omega);have l1:=YC (srt a);have l2:=YC (srt a).reverse;rw[uD] at l2;have p1:=LQ hne;have p2:=LQ (a:=(srt a).reverse) (by simpa using hne);simp only[kG,kr,kp,hcl,hst,hco,kg,hpl,uU,c1,rev_eq _ hne (show(srt a).length<=1000000 by omega),c2,uD,List.length_tail];rw[QG (by omega)];unfold hullOf;by_cases h5:(chainR (srt a)).length+(chainR (srt a).reverse).length<5
  ·rw[if_pos h5,lt_t (by omega)];rfl
  ·rw[if_neg h5,lt_f (by omega)];rfl
theorem qVf (s:List qA):(hullOf s).length<=s.length+s.length:=by
 have h1:=YC s;have h2:=YC s.reverse;rw[uD] at h2;unfold hullOf;split
 ·simp
 ·simp;omega
theorem qX2 (a:List qA):(hull a).length<=a.length+a.length:=by
 have h1:=qVf (srt a);have h2:=qKb a;unfold hull;cases decide ((a.length:Int)>32) with
 |true=>simp
 |false=>cases a.all inRange with
  |true=>simp only[kr,kp];omega
  |false=>simp
def pos (x y:Int):Prop:=0<x\/(x=0/\0<y)
theorem qA4 {ux uy vx vy wx wy:Int} (hu:pos ux uy) (hv:pos vx vy) (hw:pos wx wy) (h1:0<=ux*vy-vx*uy) (h2:0<=vx*wy-wx*vy):0<=ux*wy-wx*uy:=by
 unfold pos at*;have hux:0<=ux:=by omega
 have hwx:0<=wx:=by omega
 rcases hv with hv|⟨hv,hvy⟩
 ·have e:(ux*wy-wx*uy)*vx=(ux*vy-vx*uy)*wx+(vx*wy-wx*vy)*ux:=by grind
  have h3:0<=(ux*wy-wx*uy)*vx:=by rw[e];exact Int.add_nonneg (ky h1 hwx) (ky h2 hux)
  exact Int.nonneg_of_mul_nonneg_left h3 hv
 ·subst hv;have h4:0<=-(wx*vy):=by simpa using h2
  have hw0:wx=0:=by
   rcases kae hwx with h|h
   ·have:=gz h hvy;omega
   ·exact h.symm
  subst hw0;have hwy:0<wy:=by omega
  have:=ky hux (kaf hwy);simpa using this
theorem XM {p q:qA} (h:pLt p q):pos (q.X-p.X) (q.Y-p.Y):=by unfold pLt at h;unfold pos;omega
theorem qIN (p q:qA):cross p q p=0:=by unfold cross;grind
theorem qSz (p q:qA):cross p q q=0:=by unfold cross;grind
theorem turn_b {s t c p:qA} (hst:pLt s t) (hsc:pLt s c) (hsp:pLt s p) (h1:cross s t c<=0) (h2:0<=cross s t p):0<=cross s c p:=by
 unfold cross at*;exact qA4 (XM hsc) (XM hst) (XM hsp) (by omega) h2
theorem turn_c {s t c p:qA} (hst:pLt s t) (htc:pLt t c) (hpt:pLt p t) (h1:0<cross s t c) (h2:0<=cross s t p):0<=cross t c p:=by
 have h3:=qA4 (ux:=t.X-p.X) (uy:=t.Y-p.Y) (vx:=t.X-s.X) (vy:=t.Y-s.Y) (wx:=c.X-t.X) (wy:=c.Y-t.Y) (XM hpt) (XM hst) (XM htc)
  (by unfold cross at h2;grind) (by unfold cross at h1;grind)
 unfold cross
 grind
def Left (pts:List qA):List qA->Prop
 |v::u::r=>(∀p∈pts,0<=cross u v p)/\Left pts (u::r)
 |_=>True
def qC8 :List qA->Prop
 |c::t::s::r=>0<cross s t c/\qC8 (t::s::r)
 |_=>True
theorem qRR (pts:List qA) (c:qA) (hc:∀p∈pts,pLt p c):∀(st:List qA),st.Pairwise (λa b=>pLt b a)->(∀p∈st,p∈pts)->Left pts st->qC8 st->(∀t r,st=t::r->∀p∈pts,pLt t p->0<=cross t c p)->(∀t,st.getLast? =some t->∀p∈pts,p=t\/pLt t p)->
  Left pts (c::popR st c)/\qC8 (c::popR st c)
 |[],_,_,_,_,_,_=>⟨trivial,trivial⟩
 |[t],_,hm,_,_,hq,hb=>by
  refine⟨⟨λp hp=>?_,trivial⟩,trivial⟩;rcases hb t rfl p hp with rfl|h
  ·rw[qIN];exact kM _
  ·exact hq t [] rfl p hp h
 |t::s::r,hs,hm,hl,ht,hq,hb=>by
  obtain⟨s1,s2⟩:=kK.1 hs;have hst:pLt s t:=s1 s kF;obtain⟨l1,l2⟩:=hl;have htc:=hc t (hm t kF);unfold popR;by_cases hcr:cross s t c<=0
  ·rw[if_pos hcr];refine qRR pts c hc (s::r) s2 (λp hp=>hm p (kD _ hp)) l2 (by cases r with|nil=>trivial|cons u r=>exact ht.2) (λt' r' he p hp hsp=>?_) (λt' he p hp=>hb t' (by rw[gT];exact he) p hp);cases he;exact turn_b hst (hc s (hm s (by simp))) hsp hcr (l1 p hp)
  ·rw[if_neg hcr];refine⟨⟨λp hp=>?_,l1,l2⟩,by omega,ht⟩;rcases pLt_tri p t with h|h|h
   ·exact turn_c hst htc h (by omega) (l1 p hp)
   ·rw[h,qIN];exact kM _
   ·exact hq t _ rfl p hp h
abbrev Desc (st:List qA):Prop:=st.Pairwise (λa b=>pLt b a)
structure Inv (pts st:List qA):Prop where
 desc:Desc st
 sub:∀p∈st,p∈pts
 left:Left pts st
 turns:qC8 st
 top:∀t r,st=t::r->∀p∈pts,p=t\/pLt p t
 bot:∀t,st.getLast? =some t->∀p∈pts,p=t\/pLt t p
theorem qJx (c:qA):∀st,Desc st->Desc (popR st c)
 |[],h=>h
 |[_],h=>h
 |t::s::r,h=>by
  unfold popR;split
  ·exact qJx c (s::r) (kK.1 h).2
  ·exact h
theorem qJj (c:qA):∀st,(popR st c).getLast? =st.getLast?
 |[]=>rfl
 |[_]=>rfl
 |t::s::r=>by
  unfold popR;split
  ·rw[qJj c (s::r),gT]
  ·rfl
theorem qSE {a b:List qA}:∀{st:List qA},Left a st->Left b st->Left (a++b) st
 |[],_,_=>trivial
 |[_],_,_=>trivial
 |v::u::r,⟨h1,h2⟩,⟨h3,h4⟩=>⟨λp hp=>(um.1 hp).elim (h1 p) (h3 p),qSE h2 h4⟩
theorem qRm (c:qA):∀st,Desc st->(∀p∈st,pLt p c)->qC8 st->(∀v u r,st=v::u::r->0<=cross u v c)->Left [c] st
 |[],_,_,_,_=>trivial
 |[_],_,_,_,_=>trivial
 |v::u::r,hd,hc,ht,h0=>by
  have h1:=h0 v u r rfl;obtain⟨d1,d2⟩:=kK.1 hd;refine⟨λp hp=>by rw[uH.1 hp];exact h1,qRm c (u::r) d2 (λp hp=>hc p (kD _ hp)) (by cases r with|nil=>trivial|cons x r=>exact ht.2) (λv' u' r' he=>?_)⟩;cases he;obtain⟨t1,_⟩:=ht;have huv:pLt u v:=d1 u kF;have hxu:pLt u' u:=(kK.1 d2).1 u' kF;have huc:pLt u c:=hc u (by simp);have:=qA4 (XM hxu) (XM huv) (XM huc) (by unfold cross at t1;grind) (by unfold cross at h1;grind);unfold cross
  grind
theorem Inv.push {pts st:List qA} (h:Inv pts st) {c:qA} (hc:∀p∈pts,pLt p c) (hne:pts≠[]->st≠[]):Inv (pts++[c]) (jX st c):=by
 have hp:=qRR pts c hc st h.desc h.sub h.left h.turns (λt r he p hp htp=>by
  rcases h.top t r he p hp with rfl|h1
  ·exact absurd htp (pLt_irrefl _)
  ·exact absurd htp (pLt_asymm h1)) h.bot
 have hsub:∀p∈popR st c,p∈pts:=λp hp=>h.sub p (qLw c st p hp);have hlt:∀p∈popR st c,pLt p c:=λp hp=>hc p (hsub p hp);have hdesc:Desc (jX st c):=kK.2 ⟨hlt,qJx c st h.desc⟩;refine⟨hdesc,λp hp'=>?_,qSE hp.1 ?_,hp.2,λt r he p hp'=>?_,λt he p hp'=>?_⟩
 ·rcases kN.1 hp' with rfl|hp'
  ·simp
  ·exact List.mem_append_left _ (hsub p hp')
 ·have hl:Left [c] (popR st c):=by
   refine qRm c _ (qJx c st h.desc) hlt ?_ (λv u r he=>?_)
   ·have:=hp.2;generalize popR st c=q at this
    match q,this with
    |[],_=>trivial
    |[_],_=>trivial
    |[_,_],_=>trivial
    |_::_::_::_,this=>exact this.2
   ·have:=hp.2;rw[he] at this;exact kaf this.1
  unfold jX;generalize popR st c=q at hl
  match q,hl with
  |[],_=>trivial
  |t::r,hl=>exact⟨λp hp=>by rw[uH.1 hp,qSz];exact kM _,hl⟩
 ·cases he;rcases um.1 hp' with h1|h1
  ·exact .inr (hc p h1)
  ·exact .inl (uH.1 h1)
 ·unfold jX at he;by_cases hst:st=[]
  ·subst hst;have hpts:pts=[]:=Classical.byContradiction λhh=>hne hh rfl;subst hpts;simp[popR] at he;subst he;exact .inl (by simpa using hp')
  ·have hpe:popR st c≠[]:=λe=>by
    have:=qJj c st;rw[e] at this;exact hst (List.getLast?_eq_none_iff.1 this.symm)
   have he':st.getLast? =some t:=by
    obtain⟨x,q,hq⟩:=gF hpe;rw[<-qJj c st,hq];rw[hq,gT] at he;exact he
   rcases um.1 hp' with h1|h1
   ·exact h.bot t he' p h1
   ·rw[uH.1 h1];exact .inr (hc t (h.sub t (List.mem_of_getLast? he')))
theorem qTb :∀(rest pts st:List qA),Inv pts st->(pts≠[]->st≠[])->(∀p∈pts,∀q∈rest,pLt p q)->QM rest->Inv (pts++rest) (rest.foldl jX st)
 |[],pts,st,h,_,_,_=>by simpa using h
 |c::rest,pts,st,h,hne,hlt,hs=>by
  obtain⟨s1,s2⟩:=kK.1 hs;have:=qTb rest (pts++[c]) (jX st c) (h.push (λp hp=>hlt p hp c kF) hne) (λ_=>by unfold jX;simp) (λp hp q hq=>by
   rcases um.1 hp with h1|h1
   ·exact hlt p h1 q (kD _ hq)
   ·rw[uH.1 h1];exact s1 q hq) s2
  rw[kR] at this;exact this
theorem qDt {s:List qA} (hs:QM s):Inv s (chainR s):=by
 have:=qTb s [] [] ⟨List.Pairwise.nil,λp hp=>(by cases hp),trivial,trivial,λt r he=>(by cases he),λt he=>(by cases he)⟩ (λh=>absurd rfl h) (λp hp=>by cases hp) hs;simpa[chainR] using this
def ng (p:qA):qA:=⟨-p.X,-p.Y⟩
theorem ng_ng (p:qA):ng (ng p)=p:=by unfold ng;simp
theorem qId (p q r:qA):cross (ng p) (ng q) (ng r)=cross p q r:=by unfold cross ng;grind
theorem qIZ {p q:qA}:pLt (ng p) (ng q)↔pLt q p:=by unfold pLt ng;simp only;omega
theorem qUt (c:qA):∀st,popR (st.map ng) (ng c)=(popR st c).map ng
 |[]=>rfl
 |[_]=>rfl
 |t::s::r=>by
  have ih:=qUt c (s::r);simp only[ut] at ih⊢;rw[popR,popR,qId];split
  ·exact ih
  ·simp
theorem qUK :∀(l st:List qA),(l.map ng).foldl jX (st.map ng)=(l.foldl jX st).map ng
 |[],st=>rfl
 |c::l,st=>by
  have:=qUK l (jX st c);simp only[ut,uR];rw[<-this];unfold jX;rw[qUt,ut]
theorem qFL (l:List qA):chainR (l.map ng)=(chainR l).map ng:=qUK l []
theorem qUJ {pts:List qA}:∀{st:List qA},Left (pts.map ng) (st.map ng)->Left pts st
 |[],_=>trivial
 |[_],_=>trivial
 |v::u::r,⟨h1,h2⟩=>⟨λp hp=>by have:=h1 (ng p) (List.mem_map_of_mem hp);rwa [qId] at this,qUJ h2⟩
theorem qS6 :∀{st:List qA},qC8 (st.map ng)->qC8 st
 |[],_=>trivial
 |[_],_=>trivial
 |[_,_],_=>trivial
 |c::t::s::r,⟨h1,h2⟩=>⟨by rwa [qId] at h1,qS6 h2⟩
theorem qSL {a b:List qA} (h:∀p,p∈b->p∈a):∀{st:List qA},Left a st->Left b st
 |[],_=>trivial
 |[_],_=>trivial
 |_::_::_,⟨h1,h2⟩=>⟨λp hp=>h1 p (h p hp),qSL h h2⟩
structure Up (pts st:List qA):Prop where
 asc:QM st
 sub:∀p∈st,p∈pts
 left:Left pts st
 turns:qC8 st
 top:∀t r,st=t::r->∀p∈pts,p=t\/pLt t p
 bot:∀t,st.getLast? =some t->∀p∈pts,p=t\/pLt p t
theorem qMQ {s:List qA} (hs:QM s):Up s (chainR s.reverse):=by
 have hs':QM (s.reverse.map ng):=by
  refine List.pairwise_map.2 (dL.2 ?_);exact hs.imp (λh=>qIZ.2 h)
 have hi:=qDt hs';have he:chainR (s.reverse.map ng)=(chainR s.reverse).map ng:=qFL _;rw[he] at hi;have hmem:∀p,p∈s->ng p∈s.reverse.map ng:=λp hp=>List.mem_map_of_mem (by simpa using hp);have inj:∀p q,ng p=ng q->p=q:=λp q h=>by rw[<-ng_ng p,h,ng_ng]
 refine⟨?_,λp hp=>?_,qUJ (qSL (λp hp=>?_) hi.left),qS6 hi.turns,λt r ht p hp=>?_,λt ht p hp=>?_⟩
 ·have:=hi.desc;rw[Desc,List.pairwise_map] at this;exact this.imp (λh=>qIZ.1 h)
 ·have:=hi.sub (ng p) (List.mem_map_of_mem hp);obtain⟨q,hq,e⟩:=di.1 this;rw[<-inj _ _ e];simpa using hq
 ·obtain⟨q,hq,e⟩:=di.1 hp;rw[<-e];exact hmem q hq
 ·rcases hi.top (ng t) (r.map ng) (by rw[ht];rfl) (ng p) (hmem p hp) with h|h
  ·exact .inl (inj _ _ h)
  ·exact .inr (qIZ.1 h)
 ·rcases hi.bot (ng t) (by rw[List.getLast?_map,ht];rfl) (ng p) (hmem p hp) with h|h
  ·exact .inl (inj _ _ h)
  ·exact .inr (qIZ.1 h)
def qF9 (pts:List qA):List qA->Prop
 |u::v::r=>(∀p∈pts,0<=cross u v p)/\qF9 pts (v::r)
 |_=>True
theorem qHP {pts:List qA} {x:qA}:∀{a b:List qA},qF9 pts (a++[x])->qF9 pts (x::b)->qF9 pts (a++x::b)
 |[],_,_,h=>h
 |[_],_,h1,h2=>⟨h1.1,h2⟩
 |_::v::a,b,h1,h2=>⟨h1.1,qHP (a:=v::a) h1.2 h2⟩
theorem qIa {pts:List qA}:∀{st:List qA},Left pts st->qF9 pts st.reverse
 |[],_=>trivial
 |[_],_=>trivial
 |v::u::r,⟨h1,h2⟩=>by
  have ih:=qIa h2;rw[kX] at ih;rw[kX,kX,kR];exact qHP ih ⟨h1,trivial⟩
theorem qPQ {pts:List qA}:∀{w:List qA},qF9 pts w->∀x,x+1<w.length->∀p∈pts,0<=cross (w.getD x daa) (w.getD (x+1) daa) p
 |[],_,x,h=>by simp at h
 |[_],_,x,h=>by simp at h
 |u::v::r,hl,0,_=>hl.1
 |u::v::r,hl,x+1,h=>by
  have:=qPQ hl.2 x (by simpa using h);simpa using this
theorem qMT {l:List qA} {m:qA} (h:l.getLast? =some m):∃r,l.reverse=m::r:=by
 rw[List.getLast?_eq_head?_reverse] at h;cases hr:l.reverse with
 |nil=>rw[hr] at h;cases h
 |cons a r=>rw[hr] at h;cases h;exact⟨r,rfl⟩
theorem qPa {l:List qA} (h:l≠[]):∃m,l.getLast? =some m:=by
 cases hl:l.getLast? with
 |none=>exact absurd (List.getLast?_eq_none_iff.1 hl) h
 |some m=>exact⟨m,rfl⟩
theorem qPJ {s:List qA} (hs:QM s) (h5:¬(chainR s).length+(chainR s.reverse).length<5):∃(m M:qA) (lo up:List qA),chainR s=M::lo/\chainR s.reverse=m::up/\m∈s/\M∈s/\(∀p∈s,p=m\/pLt m p)/\(∀p∈s,p=M\/pLt p M)/\pLt m M/\(∃r,lo.reverse=m::r)/\(∃r,up.reverse=M::r)/\hullOf s=lo.reverse++up.reverse:=by
 have hne:s≠[]:=λe=>by rw[e] at h5;simp[chainR] at h5
 have hi:=qDt hs;have hu:=qMQ hs;have l1:chainR s≠[]:=uq.1 (LQ hne);have l2:chainR s.reverse≠[]:=uq.1 (LQ (a:=s.reverse) (by simpa using hne));obtain⟨M,lo,e1⟩:=gF l1;obtain⟨m,up,e2⟩:=gF l2;obtain⟨m',f1⟩:=qPa l1;obtain⟨M',f2⟩:=qPa l2;have hM:M∈s:=hi.sub M (by rw[e1];exact kF);have hm:m∈s:=hu.sub m (by rw[e2];exact kF);have hM':M'∈s:=hu.sub M' (List.mem_of_getLast? f2);have hm':m'∈s:=hi.sub m' (List.mem_of_getLast? f1);have tM:=hi.top M lo e1;have tm:=hu.top m up e2;have bm:=hi.bot m' f1;have bM:=hu.bot M' f2;have em:m'=m:=by
  rcases bm m hm with h|h
  ·exact h.symm
  ·rcases tm m' hm' with h'|h'
   ·exact h'
   ·exact absurd h (pLt_asymm h')
 have eM:M'=M:=by
  rcases bM M hM with h|h
  ·exact h.symm
  ·rcases tM M' hM' with h'|h'
   ·exact h'
   ·exact absurd h (pLt_asymm h')
 subst em eM;have hlt:pLt m' M':=by
  rcases tm M' hM with h|h
  ·exfalso;have all:∀p∈s,p=m':=λp hp=>by
    rcases tm p hp with h1|h1
    ·exact h1
    ·rcases tM p hp with h2|h2
     ·rw[h2,h]
     ·rw[h] at h2;exact absurd h1 (pLt_asymm h2)
   have one:s.length<=1:=by
    match s,hs,all with
    |[],_,_=>simp
    |[_],_,_=>simp
    |a::b::r,hs,all=>
     have:=(kK.1 hs).1 b kF;rw[all a (by simp),all b (by simp)] at this;exact absurd this (pLt_irrefl _)
   have c1:=YC s;have c2:=YC s.reverse;rw[uD] at c2;omega
  ·exact h
 have g1:∃r,lo.reverse=m'::r:=by
  refine qMT ?_;rw[e1] at f1;cases lo with
  |nil=>simp at f1;rw[f1] at hlt;exact absurd hlt (pLt_irrefl _)
  |cons a r=>rw[gT] at f1;exact f1
 have g2:∃r,up.reverse=M'::r:=by
  refine qMT ?_;rw[e2] at f2;cases up with
  |nil=>simp at f2;rw[f2] at hlt;exact absurd hlt (pLt_irrefl _)
  |cons a r=>rw[gT] at f2;exact f2
 refine⟨m',M',lo,up,e1,e2,hm,hM,tm,tM,hlt,g1,g2,?_⟩;unfold hullOf;rw[if_neg h5,e1,e2];rfl
theorem qFB {s:List qA} (hs:QM s) (h5:¬(chainR s).length+(chainR s.reverse).length<5):3<=(hullOf s).length/\(∀p∈hullOf s,p∈s)/\∀x,x<(hullOf s).length->∀p∈s,0<=cross ((hullOf s).getD x daa) ((hullOf s).getD ((x+1) % (hullOf s).length) daa) p:=by
 obtain⟨m,M,lo,up,e1,e2,hm,hM,tm,tM,hlt,⟨r1,g1⟩,⟨r2,g2⟩,hH⟩:=qPJ hs h5;have hi:=qDt hs;have hu:=qMQ hs;have L1:=qIa hi.left;have L2:=qIa hu.left;rw[e1,kX] at L1;rw[e2,kX,g2,uT] at L2;have LW:qF9 s (lo.reverse++up.reverse++[m]):=by
  rw[kR,g2,uT];exact qHP L1 L2
 have hlen:(hullOf s).length=lo.length+up.length:=by rw[hH];simp
 have h3:3<=(hullOf s).length:=by
  have a1:(chainR s).length=lo.length+1:=by rw[e1];rfl
  have a2:(chainR s.reverse).length=up.length+1:=by rw[e2];rfl
  omega
 refine⟨h3,λp hp=>?_,λx hx p hp=>?_⟩
 ·rw[hH,um,List.mem_reverse,List.mem_reverse] at hp;rcases hp with hp|hp
  ·exact hi.sub p (by rw[e1];exact kD _ hp)
  ·exact hu.sub p (by rw[e2];exact kD _ hp)
 ·have hw:=qPQ LW x (by rw[<-hH];simp;omega) p hp;rw[<-hH] at hw;have w1:(hullOf s++[m]).getD x daa=(hullOf s).getD x daa:=by
   rw[ki,kL hx,<-ki]
  have w2:(hullOf s++[m]).getD (x+1) daa=(hullOf s).getD ((x+1) % (hullOf s).length) daa:=by
   by_cases hx1:x+1<(hullOf s).length
   ·rw[uW hx1,ki,kL hx1,<-ki]
   ·have:x+1=(hullOf s).length:=by omega
    rw[this,Nat.mod_self,ki,kH (kq _),dH,hH,g1];rfl
  rw[w1,w2] at hw;exact hw
def qB4 :List qA->Prop
 |u::v::w::r=>0<cross u v w/\qB4 (v::w::r)
 |_=>True
theorem qCU {x y:qA}:∀{a b:List qA},qB4 (a++[x,y])->qB4 (x::y::b)->qB4 (a++x::y::b)
 |[],_,_,h=>h
 |[_],_,h1,h2=>⟨h1.1,h2⟩
 |[_,_],_,h1,h2=>⟨h1.1,h1.2.1,h2⟩
 |_::v::w::a,b,h1,h2=>⟨h1.1,qCU (a:=v::w::a) h1.2 h2⟩
theorem qFM :∀{st:List qA},qC8 st->qB4 st.reverse
 |[],_=>trivial
 |[_],_=>trivial
 |[_,_],_=>trivial
 |c::t::s::r,⟨h1,h2⟩=>by
  have ih:=qFM h2;rw[kX,kX,kR] at ih;rw[kX,kX,kX,kR,kR];exact qCU ih ⟨h1,trivial⟩
theorem qNr :∀{w:List qA},qB4 w->∀x,x+2<w.length->0<cross (w.getD x daa) (w.getD (x+1) daa) (w.getD (x+2) daa)
 |[],_,x,h=>by simp at h
 |[_],_,x,h=>by simp at h
 |[_,_],_,x,h=>by simp only[ue,gg] at h;omega
 |u::v::w::r,hl,0,_=>hl.1
 |u::v::w::r,hl,x+1,h=>by
  have:=qNr hl.2 x (by simpa using h);simpa using this
theorem qRQ {s:List qA} (hs:QM s) (h5:¬(chainR s).length+(chainR s.reverse).length<5) {x y M:qA} {lo up:List qA} (e1:chainR s=M::x::lo) (e2:(chainR s.reverse).reverse=M::y::up):0<cross x M y:=by
 have hi:=qDt hs;have hu:=qMQ hs;have hl:=hi.left;rw[e1] at hl;have hd:=hi.desc;rw[e1] at hd;have hxM:pLt x M:=(kK.1 hd).1 x kF;have L2:=qIa hu.left;rw[e2] at L2;have hys:y∈s:=hu.sub y (by rw[<-List.mem_reverse,e2];simp);have htop:=hi.top M _ e1;have hyM:pLt y M:=by
  have ha:=hu.asc;have hr:(chainR s.reverse).reverse.Pairwise (λa b=>pLt b a):=dL.2 ha;rw[e2] at hr;exact(kK.1 hr).1 y kF
 rcases kae (hl.1 y hys) with h|h
 ·exact h
 exfalso
 -- all points lie on one line
 have key:∀p∈s,pLt p M->(M.X-x.X)*(M.Y-p.Y)-(M.X-p.X)*(M.Y-x.Y)=0:=by
  intro p hp hpM;have q1:=hl.1 p hp;have q2:=L2.1 p hp;have a1:=qA4 (XM hxM) (XM hyM) (XM hpM) (by unfold cross at h;grind) (by unfold cross at q2;grind);unfold cross at q1;have e:(M.X-x.X)*(p.Y-x.Y)-(p.X-x.X)*(M.Y-x.Y)= -((M.X-x.X)*(M.Y-p.Y)-(M.X-p.X)*(M.Y-x.Y)):=by clear q1 q2 a1;grind
  omega
 have par:∀p q,p∈s->q∈s->pLt p M->pLt q M->(M.X-p.X)*(M.Y-q.Y)-(M.X-q.X)*(M.Y-p.Y)=0:=by
  intro p q hp hq hpM hqM;have k1:=key p hp hpM;have k2:=key q hq hqM;have b1:=qA4 (XM hpM) (XM hxM) (XM hqM) (by omega) (by omega);have b2:=qA4 (XM hqM) (XM hxM) (XM hpM) (by omega) (by omega);omega
 have c1:(chainR s).length<=2:=by
  rw[e1]
  match lo,e1 with
  |[],_=>simp
  |z::lo',e1=>
   have ht:=hi.turns;rw[e1] at ht;have hzs:z∈s:=hi.sub z (by rw[e1];simp);have hxs:x∈s:=hi.sub x (by rw[e1];simp);have hzM:pLt z M:=by
    have hd':=hi.desc;rw[e1] at hd';exact(kK.1 hd').1 z (by simp)
   have:=par z x hzs hxs hzM hxM;have t1:=ht.1;have e:cross z x M=(M.X-z.X)*(M.Y-x.Y)-(M.X-x.X)*(M.Y-z.Y):=by unfold cross;clear t1 this;grind
   omega
 have c2:(chainR s.reverse).length<=2:=by
  rw[<-uD,e2]
  match up,e2 with
  |[],_=>simp
  |z::up',e2=>
   have ht:=qFM hu.turns;rw[e2] at ht;have hzs:z∈s:=hu.sub z (by rw[<-List.mem_reverse,e2];simp);have hzM:pLt z M:=by
    have hr:(chainR s.reverse).reverse.Pairwise (λa b=>pLt b a):=dL.2 hu.asc;rw[e2] at hr;exact(kK.1 hr).1 z (by simp)
   have:=par y z hys hzs hyM hzM;have t1:=ht.1;have e:cross M y z=(M.X-y.X)*(M.Y-z.Y)-(M.X-z.X)*(M.Y-y.Y):=by unfold cross;clear t1 this;grind
   omega
 omega
theorem qYi {s:List qA} (hs:QM s) (h5:¬(chainR s).length+(chainR s.reverse).length<5) {x y m:qA} {lo up:List qA} (e1:chainR s.reverse=m::x::up) (e2:(chainR s).reverse=m::y::lo):0<cross x m y:=by
 have hs':QM (s.reverse.map ng):=List.pairwise_map.2 (dL.2 (hs.imp (λh=>qIZ.2 h)));have c1:chainR (s.reverse.map ng)=ng m::ng x::up.map ng:=by rw[qFL,e1];rfl
 have c2:chainR (s.reverse.map ng).reverse=(chainR s).map ng:=by rw[<-List.map_reverse,List.reverse_reverse,qFL]
 have c3:(chainR (s.reverse.map ng).reverse).reverse=ng m::ng y::lo.map ng:=by rw[c2,<-List.map_reverse,e2];rfl
 have:=qRQ hs' (by rw[c2,qFL,kP,kP];omega) c1 c3
 rwa [qId] at this
theorem qES {l t:List qA} {x:Nat} (h:x<l.length):(l++t).getD x daa=l.getD x daa:=by rw[ki,kL h,<-ki]
theorem qHD {l t:List qA} (k:Nat):(l++t).getD (l.length+k) daa=t.getD k daa:=by rw[ki,kH (by omega),Nat.add_sub_cancel_left,<-ki]
theorem qVe {s:List qA} (hs:QM s) (h5:¬(chainR s).length+(chainR s.reverse).length<5):∀x,x<(hullOf s).length->0<cross ((hullOf s).getD x daa) ((hullOf s).getD ((x+1) % (hullOf s).length) daa) ((hullOf s).getD ((x+2) % (hullOf s).length) daa):=by
 have h3:=(qFB hs h5).1;obtain⟨m,M,lo,up,e1,e2,hm,hM,tm,tM,hlt,⟨r1,g1⟩,⟨r2,g2⟩,hH⟩:=qPJ hs h5;have hi:=qDt hs;have hu:=qMQ hs;have lone:lo≠[]:=λe=>by rw[e] at g1;simp at g1
 have upne:up≠[]:=λe=>by rw[e] at g2;simp at g2
 obtain⟨x0,lo',ex⟩:=gF lone;obtain⟨x1,up',ex'⟩:=gF upne;have T1:=qFM hi.turns;have T2:=qFM hu.turns;rw[e1,ex,kX,kX,kR] at T1
 -- the upper walk begins with M, y
 obtain⟨y,r3,ey⟩:∃y r3,(chainR s.reverse).reverse=M::y::r3:=by
  rw[e2,kX,g2,uT];cases r2 with
  |nil=>exact⟨m,[],rfl⟩
  |cons y r=>exact⟨y,r++[m],rfl⟩
 obtain⟨y',r4,ey'⟩:∃y r4,(chainR s).reverse=m::y::r4:=by
  rw[e1,kX,g1,uT];cases r1 with
  |nil=>exact⟨M,[],rfl⟩
  |cons y r=>exact⟨y,r++[M],rfl⟩
 have k1:=qRQ hs h5 (e1.trans (by rw[ex])) ey;have k2:=qYi hs h5 (e2.trans (by rw[ex'])) ey';rw[ey] at T2;have W1:qB4 (lo'.reverse++x0::M::y::r3):=qCU T1 ⟨k1,T2⟩;have eW:lo'.reverse++x0::M::y::r3=hullOf s++[m]:=by
  rw[hH,ex,kX,kR,kR]
  congr 1
  show x0::M::y::r3=x0::(up.reverse++[m])
  congr 1
  rw[<-ey,e2,kX]
 have eH:∃q,hullOf s=q++[x1]:=⟨lo.reverse++up'.reverse,by rw[hH,ex',kX,kR]⟩
 obtain⟨q,hq⟩:=eH;rw[eW] at W1;have W2:qB4 (hullOf s++[m,y']):=by
  rw[hq,kR] at W1⊢;exact qCU W1 ⟨k2,trivial⟩
 have h0:(hullOf s).getD 0 daa=m:=by rw[hH,g1];rfl
 have h1:(hullOf s).getD 1 daa=y':=by
  have:(hullOf s)=(lo.reverse++[M])++r2:=by rw[hH,g2,kR];rfl
  have hlr:lo.reverse++[M]=m::y'::r4:=by rw[<-ey',e1,kX]
  rw[this,hlr];rfl
 intro x hx;have w:=qNr W2 x (by simp;omega);rw[qES hx] at w;have a1:(hullOf s++[m,y']).getD (x+1) daa=(hullOf s).getD ((x+1) % (hullOf s).length) daa:=by
  by_cases hx1:x+1<(hullOf s).length
  ·rw[uW hx1,qES hx1]
  ·have e:x+1=(hullOf s).length:=by omega
   rw[e,Nat.mod_self,h0];exact qHD 0
 have a2:(hullOf s++[m,y']).getD (x+2) daa=(hullOf s).getD ((x+2) % (hullOf s).length) daa:=by
  by_cases hx1:x+2<(hullOf s).length
  ·rw[uW hx1,qES hx1]
  ·by_cases hx2:x+2=(hullOf s).length
   ·rw[hx2,Nat.mod_self,h0];exact qHD 0
   ·have e:x+2=(hullOf s).length+1:=by omega
    rw[e,Nat.add_mod_left,uW (by omega),h1];exact qHD 1
 rw[a1,a2] at w;exact w
theorem qMH (a b:Int) (hb:0<b):Int.tmod a b+b*Int.tdiv a b=a/\Int.tmod a b<b/\-b<Int.tmod a b/\(Int.tdiv a b).natAbs<=a.natAbs:=by
 refine⟨Int.tmod_add_mul_tdiv a b,gn a hb,?_,?_⟩
 ·rcases dK 0 a with h|h
  ·have:=dB b h;omega
  ·have h3:=gn (-a) hb;rw[Int.neg_tmod] at h3;omega
 ·rw[Int.natAbs_tdiv];exact dZ _ _
theorem qJ6 {a b q r:Int} (hb:0<b) (h:r+b*q=a) (h0:0<=r) (h1:r<b):a/b=q:=(Int.ediv_emod_unique hb).2 ⟨h,h0,h1⟩|>.1
theorem qQ6 (a b:Int) (hb:0<b) (h1: -4611686018427387904<=a) (h2:a<=4611686018427387904):qBL a b=some (a/b):=by
 obtain⟨e,l,g,n⟩:=qMH a b hb;unfold qBL qAh;rw[nz_t (by omega),qD (n:=Int.tdiv a b) (by omega)];by_cases h:Int.tmod a b<0
 ·rw[ka h,qD (by omega)];have:a/b=Int.tdiv a b-1:=qJ6 hb (r:=Int.tmod a b+b) (by rw[gL,Int.mul_one];omega) (by omega) (by omega);rw[this];rfl
 ·rw[ke h];have:a/b=Int.tdiv a b:=qJ6 hb (r:=Int.tmod a b) e (by omega) l;rw[this];rfl
theorem qIP (a b:Int) (hb:0<b) (h3:b<=4611686018427387904) (h1: -4611686018427387904<=a) (h2:a<=4611686018427387904):OX a b=some (a/b):=by
 obtain⟨e,l,g,n⟩:=qMH a b hb;have hc:Int.tdiv a b*b=b*Int.tdiv a b:=Int.mul_comm _ _;unfold OX OB;rw[nz_t (by omega),qD (n:=Int.tdiv a b) (by omega),qD (n:=Int.tdiv a b*b) (by omega)];by_cases h:Int.tmod a b<0
 ·rw[ka (by omega),qD (by omega)];have:a/b=Int.tdiv a b-1:=qJ6 hb (r:=Int.tmod a b+b) (by rw[gL,Int.mul_one];omega) (by omega) (by omega);rw[this];rfl
 ·rw[ke (by omega)];have:a/b=Int.tdiv a b:=qJ6 hb (r:=Int.tmod a b) e (by omega) l;rw[this];rfl
def upB (p q:qA) (y:Int):Int:=p.X+(q.X-p.X)*(y-p.Y)/(q.Y-p.Y)
def dnB (p q:qA) (y:Int):Int:=p.X-(q.X-p.X)*(y-p.Y)/(p.Y-q.Y)
theorem qCj {p q:qA} (h:p.Y<q.Y) (X y:Int):X<=upB p q y↔0<=cross p q ⟨X,y⟩:=by
 unfold upB cross;have:=dE (a:=X-p.X) (b:=(q.X-p.X)*(y-p.Y)) (show 0<q.Y-p.Y by omega);constructor
 ·intro h1;have h2:=this.1 (by omega);simp only;omega
 ·intro h1;have h2:=this.2 (by simp only at h1;omega);omega
theorem qCr {p q:qA} (h:q.Y<p.Y) (X y:Int):dnB p q y<=X↔0<=cross p q ⟨X,y⟩:=by
 unfold dnB cross;have:=dE (a:=p.X-X) (b:=(q.X-p.X)*(y-p.Y)) (show 0<p.Y-q.Y by omega);have e:(p.X-X)*(p.Y-q.Y)=(X-p.X)*(q.Y-p.Y):=by grind
 rw[e] at this;constructor
 ·intro h1;have h2:=this.1 (by omega);simp only;omega
 ·intro h1;have h2:=this.2 (by simp only at h1;omega);omega
theorem dnB_eq {p q:qA} (h:q.Y<p.Y) (y:Int):q.X-(q.X-p.X)*(y-q.Y)/(p.Y-q.Y)=dnB p q y:=by
 unfold dnB;have e:(q.X-p.X)*(y-q.Y)=(q.X-p.X)*(y-p.Y)+(q.X-p.X)*(p.Y-q.Y):=by grind
 rw[e,Int.add_mul_ediv_right _ _ (by omega)];omega
theorem up_up {p q u v:qA} {y:Int} (hpq:p.Y<q.Y) (hy1:p.Y<=y) (hy2:y<=q.Y) (huv:u.Y<v.Y) (h1:0<=cross u v p) (h2:0<=cross u v q):upB p q y<=upB u v y:=by
 rw[qCj huv];have hb:=(qCj hpq (upB p q y) y).1 (kM _);generalize upB p q y=X at hb;have hD:0<q.Y-p.Y:=by omega
 have key:(q.Y-p.Y)*cross u v ⟨X,y⟩=(q.Y-y)*cross u v p+(y-p.Y)*cross u v q+(v.Y-u.Y)*cross p q ⟨X,y⟩:=by unfold cross;grind
 have a1:=ky (show 0<=q.Y-y by omega) h1;have a2:=ky (show 0<=y-p.Y by omega) h2;have a3:=ky (show 0<=v.Y-u.Y by omega) hb;have:0<=(q.Y-p.Y)*cross u v ⟨X,y⟩:=by rw[key];omega
 exact Int.nonneg_of_mul_nonneg_right this hD
theorem dn_dn {p q u v:qA} {y:Int} (hpq:q.Y<p.Y) (hy1:q.Y<=y) (hy2:y<=p.Y) (huv:v.Y<u.Y) (h1:0<=cross u v p) (h2:0<=cross u v q):dnB u v y<=dnB p q y:=by
 rw[qCr huv];have hb:=(qCr hpq (dnB p q y) y).1 (kM _);generalize dnB p q y=X at hb;have hD:0<p.Y-q.Y:=by omega
 have key:(p.Y-q.Y)*cross u v ⟨X,y⟩=(y-q.Y)*cross u v p+(p.Y-y)*cross u v q+(u.Y-v.Y)*cross p q ⟨X,y⟩:=by unfold cross;grind
 have a1:=ky (show 0<=y-q.Y by omega) h1;have a2:=ky (show 0<=p.Y-y by omega) h2;have a3:=ky (show 0<=u.Y-v.Y by omega) hb;have:0<=(p.Y-q.Y)*cross u v ⟨X,y⟩:=by rw[key];omega
 exact Int.nonneg_of_mul_nonneg_right this hD
theorem qMF {N D:Int} (hD:0<D) (h1: -1440000<=N) (h2:N<=1440000): -1440000<=N/D/\N/D<=1440000:=by
 constructor
 ·rw[dE hD];have:=gj (a:= -1440000) (b:=0) (c:=D-1) (by decide) (by omega);have e:(-1440000)*D=(D-1)*(-1440000)+(-1440000):=by grind
  omega
 ·have:=Int.ediv_lt_of_lt_mul (a:=N) (b:=1440001) hD (by
   have:=ky (show(0:Int)<=1440001 by decide) (show 0<=D-1 by omega);have e:1440001*D=1440001*(D-1)+1440001:=by grind
   omega)
  omega
def pstep (p q:qA) (y:Int) (r:Int×Int):Int×Int:=
 if p.Y<q.Y/\p.Y<=y/\y<=q.Y then(r.1,upB p q y) else if q.Y<p.Y/\q.Y<=y/\y<=p.Y then(dnB p q y,r.2) else r
def pS (H:List qA) (y:Int):Nat->Nat->Int×Int->Int×Int
 |_,0,r=>r
 |x,m+1,r=>pS H y (x+1) m (pstep (H.getD x daa) (H.getD ((x+1) % H.length) daa) y r)
def qCS (p q:qA) (y:Int) (r:Int×Int):Option (Int×Int):=
 if p.Y<q.Y then some (r.1,imin r.2 (upB p q y)) else if q.Y<p.Y then some (imax r.1 (dnB p q y),r.2) else if(q.X-p.X)*(y-p.Y)<0 then none else some r
def rS (H:List qA) (y:Int):Nat->Nat->Int×Int->(Int×Int)⊕(Int×Int)
 |_,0,r=> .inr r
 |x,m+1,r=>match qCS (H.getD x daa) (H.getD ((x+1) % H.length) daa) y r with
  |some r'=>rS H y (x+1) m r'
  |none=> .inl (1,0)
theorem num_b {p q:qA} {y:Int} (hp:rng p) (hq:rng q) (hy: -600<=y/\y<=600): -1440000<=(q.X-p.X)*(y-p.Y)/\(q.X-p.X)*(y-p.Y)<=1440000:=by
 obtain⟨⟨p1,p2⟩,p3,p4⟩:=hp;obtain⟨⟨q1,q2⟩,q3,q4⟩:=hq;exact wS (m:=1200) (n:=1200) (by omega) (by omega) (by omega) (by omega) (by decide) (by decide)
theorem qKB (H:List qA) (y:Int) (hr:∀p∈H,rng p) (hy: -600<=y/\y<=600) (hl:H.length<=1000000):∀(m n x:Nat) (lo hi:Int),x+m=H.length->m<n->ZP H y n lo hi (x:Int)=some (rS H y x m (lo,hi))
 |_,0,x,_,_,_,hn=>by omega
 |0,n+1,x,lo,hi,hx,_=>by
  unfold ZP rS;rw[lt_f (by omega)];rfl
 |m+1,n+1,x,lo,hi,hx,hn=>by
  have hlen:0<H.length:=by omega
  have hyy:(x+1) % H.length<H.length:=kT _ hlen;have hnx:=qRV hlen (show x<4611686018427387904 by omega);obtain⟨p,hpx⟩:∃p,H.getD x daa=p:=⟨_,rfl⟩
  obtain⟨q,hqx⟩:∃q,H.getD ((x+1) % H.length) daa=q:=⟨_,rfl⟩
  have hpx':H.getD (x:Int).toNat daa=p:=by rw[ko];exact hpx
  have hqx':H.getD (Int.tmod (w64 ((x:Int)+1)) (H.length:Int)).toNat daa=q:=by rw[hnx,ko];exact hqx
  have hp:rng p:=by rw[<-hpx];exact hr _ (zK (by omega))
  have hq:rng q:=by rw[<-hqx];exact hr _ (zK hyy)
  have ih:=λlo hi=>qKB H y hr hy hl m n (x+1) lo hi (by omega) (by omega);have hi':inb (Int.tmod (w64 ((x:Int)+1)) (H.length:Int)) H.length=true:=by rw[hnx];exact qJ (by omega)
  have hinc:w64 ((x:Int)+1)=((x+1:Nat):Int):=qM (by omega);have nb:=num_b hp hq hy;have hp':=hp;have hq':=hq;obtain⟨⟨p1,p2⟩,p3,p4⟩:=hp';obtain⟨⟨q1,q2⟩,q3,q4⟩:=hq';unfold ZP rS;rw[lt_t (by omega),qJ (i:=(x:Int)) (by omega),nz_t (by omega),hi',hpx',hqx',hpx,hqx];simp only[kp];rw[qD (n:=q.Y-p.Y) (by omega),qD (n:=q.X-p.X) (by omega),qD (n:=y-p.Y) (by omega),qD (n:=(q.X-p.X)*(y-p.Y)) (by omega)];unfold qCS GS;by_cases h1:p.Y<q.Y
  ·have eb:=qMF (show 0<q.Y-p.Y by omega) nb.1 nb.2;rw[ka (show q.Y-p.Y>0 by omega),if_pos h1,qIP _ _ (by omega) (by omega) (by omega) (by omega)];simp only[kp,kg];rw[qD (n:=p.X+_) (by omega),hinc,ih];rfl
  ·rw[ke (show¬q.Y-p.Y>0 by omega),if_neg h1];by_cases h2:q.Y<p.Y
   ·have eb:=qMF (show 0<p.Y-q.Y by omega) nb.1 nb.2;have e5:w64 (0-(q.Y-p.Y))=p.Y-q.Y:=(qD (n:=0-(q.Y-p.Y)) (by omega)).trans (by omega);rw[ka (show q.Y-p.Y<0 by omega),if_pos h2,e5,qIP _ (p.Y-q.Y) (by omega) (by omega) (by omega) (by omega)];simp only[kp,kr,kg];rw[qD (n:=p.X-_) (by omega),hinc,ih];rfl
   ·rw[ke (show¬q.Y-p.Y<0 by omega),if_neg h2];simp only[kr];by_cases h3:(q.X-p.X)*(y-p.Y)<0
    ·rw[ka h3,if_pos h3];rfl
    ·rw[ke h3,if_neg h3,hinc];simp only[kr];exact ih lo hi
theorem qMM (H:List qA) (y:Int) (hr:∀p∈H,rng p) (hy: -600<=y/\y<=600) (hl:H.length<=1000000):∀(m n x:Nat) (r:Int×Int),x+m=H.length->m<n->ZO y H n r.1 r.2 (x:Int)=some (pS H y x m r)
 |_,0,x,_,_,hn=>by omega
 |0,n+1,x,r,hx,_=>by
  unfold ZO pS;rw[lt_f (by omega)];rfl
 |m+1,n+1,x,r,hx,hn=>by
  have hlen:0<H.length:=by omega
  have hyy:(x+1) % H.length<H.length:=kT _ hlen;have hnx:=qRV hlen (show x<4611686018427387904 by omega);obtain⟨p,hpx⟩:∃p,H.getD x daa=p:=⟨_,rfl⟩
  obtain⟨q,hqx⟩:∃q,H.getD ((x+1) % H.length) daa=q:=⟨_,rfl⟩
  have hpx':H.getD (x:Int).toNat daa=p:=by rw[ko];exact hpx
  have hqx':H.getD (Int.tmod (w64 ((x:Int)+1)) (H.length:Int)).toNat daa=q:=by rw[hnx,ko];exact hqx
  have hp:rng p:=by rw[<-hpx];exact hr _ (zK (by omega))
  have hq:rng q:=by rw[<-hqx];exact hr _ (zK hyy)
  have ih:=λr=>qMM H y hr hy hl m n (x+1) r (by omega) (by omega);have hi':inb (Int.tmod (w64 ((x:Int)+1)) (H.length:Int)) H.length=true:=by rw[hnx];exact qJ (by omega)
  have hinc:w64 ((x:Int)+1)=((x+1:Nat):Int):=qM (by omega);have nb:=num_b hp hq hy;have nb2:=num_b hq hp hy;have hp':=hp;have hq':=hq;obtain⟨⟨p1,p2⟩,p3,p4⟩:=hp';obtain⟨⟨q1,q2⟩,q3,q4⟩:=hq';have nb3: -1440000<=(q.X-p.X)*(y-q.Y)/\(q.X-p.X)*(y-q.Y)<=1440000:=by
   have e:(q.X-p.X)*(y-q.Y)= -((p.X-q.X)*(y-q.Y)):=by clear nb nb2;grind
   omega
  unfold ZO pS;rw[lt_t (by omega),qJ (i:=(x:Int)) (by omega),nz_t (by omega),hi'];unfold DW DG DR;rw[hpx',hqx',hpx,hqx];simp only[kp];rw[qD (n:=q.Y-p.Y) (by omega),qD (n:=p.Y-q.Y) (by omega),qD (n:=q.X-p.X) (by omega),qD (n:=y-p.Y) (by omega),qD (n:=y-q.Y) (by omega),qD (n:=(q.X-p.X)*(y-p.Y)) (by omega),qD (n:=(q.X-p.X)*(y-q.Y)) (by omega),hinc];unfold pstep;by_cases h1:p.Y<q.Y
  ·have h1':¬p.Y>q.Y:=by omega
   have h1'':¬q.Y<p.Y:=by omega
   have eb:=qMF (show 0<q.Y-p.Y by omega) nb.1 nb.2;rw[qQ6 _ (q.Y-p.Y) (by omega) (by omega) (by omega)];by_cases h2:p.Y<=y
   ·by_cases h3:y<=q.Y
    ·rw[if_pos ⟨h1,h2,h3⟩];simp only[h1,h2,h3,decide_true,kp,kg];rw[qD (n:=p.X+_) (by omega)];exact ih (r.1,upB p q y)
    ·rw[if_neg (by omega),if_neg (by omega)];simp only[h1,h2,h3,h1',h1'',decide_true,decide_false,kp,kr];exact ih r
   ·rw[if_neg (by omega),if_neg (by omega)];simp only[h1,h2,h1',h1'',decide_true,decide_false,kp,kr];exact ih r
  ·by_cases h2:q.Y<p.Y
   ·have h2':p.Y>q.Y:=h2;have eb:=qMF (show 0<p.Y-q.Y by omega) nb3.1 nb3.2;rw[qQ6 _ (p.Y-q.Y) (by omega) (by omega) (by omega)];by_cases h3:q.Y<=y
    ·by_cases h4:y<=p.Y
     ·rw[if_neg (by omega),if_pos ⟨h2,h3,h4⟩,<-dnB_eq h2 y];simp only[h1,h2',h3,h4,decide_true,decide_false,kp,kr,kg];rw[qD (n:=q.X-_) (by omega)];exact ih (q.X-(q.X-p.X)*(y-q.Y)/(p.Y-q.Y),r.2)
     ·rw[if_neg (by omega),if_neg (by omega)];simp only[h1,h2',h3,h4,decide_true,decide_false,kp,kr];exact ih r
    ·rw[if_neg (by omega),if_neg (by omega)];simp only[h1,h2',h3,decide_true,decide_false,kp,kr];exact ih r
   ·have h2':¬p.Y>q.Y:=h2;rw[if_neg (by omega),if_neg (by omega)];simp only[h1,h2',decide_false,kr];exact ih r
abbrev spU (p q:qA) (y:Int):Prop:=p.Y<q.Y/\p.Y<=y/\y<=q.Y
abbrev spD (p q:qA) (y:Int):Prop:=q.Y<p.Y/\q.Y<=y/\y<=p.Y
theorem pS_up (H:List qA) (y:Int):∀(m x:Nat) (r:Int×Int),((pS H y x m r).2=r.2/\∀j,x<=j->j<x+m->¬spU (H.getD j daa) (H.getD ((j+1) % H.length) daa) y)\/∃j,x<=j/\j<x+m/\spU (H.getD j daa) (H.getD ((j+1) % H.length) daa) y/\(pS H y x m r).2=upB (H.getD j daa) (H.getD ((j+1) % H.length) daa) y
 |0,x,r=> .inl ⟨rfl,λj h1 h2=>by omega⟩
 |m+1,x,r=>by
  unfold pS;rcases pS_up H y m (x+1) (pstep (H.getD x daa) (H.getD ((x+1) % H.length) daa) y r) with⟨h1,h2⟩|⟨j,h1,h2,h3,h4⟩
  ·by_cases hs:spU (H.getD x daa) (H.getD ((x+1) % H.length) daa) y
   ·refine .inr ⟨x,kq _,by omega,hs,?_⟩;rw[h1];unfold pstep;rw[if_pos hs]
   ·refine .inl ⟨?_,λj hj1 hj2=>?_⟩
    ·rw[h1];unfold pstep;rw[if_neg hs];split<;>rfl
    ·by_cases hjx:j=x
     ·subst hjx;exact hs
     ·exact h2 j (by omega) (by omega)
  ·exact .inr ⟨j,by omega,by omega,h3,h4⟩
theorem pS_dn (H:List qA) (y:Int):∀(m x:Nat) (r:Int×Int),((pS H y x m r).1=r.1/\∀j,x<=j->j<x+m->¬spD (H.getD j daa) (H.getD ((j+1) % H.length) daa) y)\/∃j,x<=j/\j<x+m/\spD (H.getD j daa) (H.getD ((j+1) % H.length) daa) y/\(pS H y x m r).1=dnB (H.getD j daa) (H.getD ((j+1) % H.length) daa) y
 |0,x,r=> .inl ⟨rfl,λj h1 h2=>by omega⟩
 |m+1,x,r=>by
  unfold pS;rcases pS_dn H y m (x+1) (pstep (H.getD x daa) (H.getD ((x+1) % H.length) daa) y r) with⟨h1,h2⟩|⟨j,h1,h2,h3,h4⟩
  ·by_cases hs:spD (H.getD x daa) (H.getD ((x+1) % H.length) daa) y
   ·refine .inr ⟨x,kq _,by omega,hs,?_⟩;rw[h1];unfold pstep;rw[if_neg (by omega),if_pos hs]
   ·refine .inl ⟨?_,λj hj1 hj2=>?_⟩
    ·rw[h1];unfold pstep;rw[if_neg hs];split<;>rfl
    ·by_cases hjx:j=x
     ·subst hjx;exact hs
     ·exact h2 j (by omega) (by omega)
  ·exact .inr ⟨j,by omega,by omega,h3,h4⟩
abbrev Ep (H:List qA) (j:Nat):qA:=H.getD j daa
abbrev Eq' (H:List qA) (j:Nat):qA:=H.getD ((j+1) % H.length) daa
def bad (p q:qA) (y:Int):Prop:=¬p.Y<q.Y/\¬q.Y<p.Y/\(q.X-p.X)*(y-p.Y)<0
theorem qTZ {a b X:Int}:X<=imin a b↔X<=a/\X<=b:=by unfold imin;split<;>omega
theorem qTS {a b X:Int}:imax a b<=X↔a<=X/\b<=X:=by unfold imax;split<;>omega
theorem rS_spec (H:List qA) (y:Int):∀(m x:Nat) (r:Int×Int),
  ((∃j,x<=j/\j<x+m/\bad (Ep H j) (Eq' H j) y)/\rS H y x m r= .inl (1,0))\/
  ((∀j,x<=j->j<x+m->¬bad (Ep H j) (Eq' H j) y)/\∃r',rS H y x m r= .inr r'/\(∀X,r'.1<=X↔r.1<=X/\∀j,x<=j->j<x+m->(Eq' H j).Y<(Ep H j).Y->dnB (Ep H j) (Eq' H j) y<=X)/\(∀X,X<=r'.2↔X<=r.2/\∀j,x<=j->j<x+m->(Ep H j).Y<(Eq' H j).Y->X<=upB (Ep H j) (Eq' H j) y))
 |0,x,r=> .inr ⟨λj h1 h2=>by omega,r,rfl,λX=>⟨λh=>⟨h,λj h1 h2=>by omega⟩,λh=>h.1⟩,λX=>⟨λh=>⟨h,λj h1 h2=>by omega⟩,λh=>h.1⟩⟩
 |m+1,x,r=>by
  have all:∀{P:Nat->Prop},(∀j,x<=j->j<x+(m+1)->P j)↔P x/\∀j,x+1<=j->j<x+1+m->P j:=fun{P}=>
   ⟨λh=>⟨h x (kq _) (by omega),λj h1 h2=>h j (by omega) (by omega)⟩,λh j h1 h2=>by
    by_cases hj:j=x
    ·subst hj;exact h.1
    ·exact h.2 j (by omega) (by omega)⟩
  unfold rS;by_cases h1:(Ep H x).Y<(Eq' H x).Y
  ·have e:qCS (Ep H x) (Eq' H x) y r=some (r.1,imin r.2 (upB (Ep H x) (Eq' H x) y)):=by unfold qCS;rw[if_pos h1]
   rw[e];rcases rS_spec H y m (x+1) (r.1,imin r.2 (upB (Ep H x) (Eq' H x) y)) with⟨⟨j,j1,j2,j3⟩,h⟩|⟨h,r',e',h2,h3⟩
   ·exact .inl ⟨⟨j,by omega,by omega,j3⟩,h⟩
   ·refine .inr ⟨all.2 ⟨λhb=>hb.1 h1,h⟩,r',e',λX=>?_,λX=>?_⟩
    ·rw[h2 X,all];exact⟨fun⟨a,b⟩=>⟨a,λhh=>by omega,b⟩,fun⟨a,_,b⟩=>⟨a,b⟩⟩
    ·rw[h3 X,all,qTZ];exact⟨fun⟨⟨a,a'⟩,b⟩=>⟨a,λ_=>a',b⟩,fun⟨a,a',b⟩=>⟨⟨a,a' h1⟩,b⟩⟩
  ·by_cases h2:(Eq' H x).Y<(Ep H x).Y
   ·have e:qCS (Ep H x) (Eq' H x) y r=some (imax r.1 (dnB (Ep H x) (Eq' H x) y),r.2):=by unfold qCS;rw[if_neg h1,if_pos h2]
    rw[e];rcases rS_spec H y m (x+1) (imax r.1 (dnB (Ep H x) (Eq' H x) y),r.2) with⟨⟨j,j1,j2,j3⟩,h⟩|⟨h,r',e',h3,h4⟩
    ·exact .inl ⟨⟨j,by omega,by omega,j3⟩,h⟩
    ·refine .inr ⟨all.2 ⟨λhb=>hb.2.1 h2,h⟩,r',e',λX=>?_,λX=>?_⟩
     ·rw[h3 X,all,qTS];exact⟨fun⟨⟨a,a'⟩,b⟩=>⟨a,λ_=>a',b⟩,fun⟨a,a',b⟩=>⟨⟨a,a' h2⟩,b⟩⟩
     ·rw[h4 X,all];exact⟨fun⟨a,b⟩=>⟨a,λhh=>absurd hh h1,b⟩,fun⟨a,_,b⟩=>⟨a,b⟩⟩
   ·by_cases h3:((Eq' H x).X-(Ep H x).X)*(y-(Ep H x).Y)<0
    ·have e:qCS (Ep H x) (Eq' H x) y r=none:=by unfold qCS;rw[if_neg h1,if_neg h2,if_pos h3]
     rw[e];exact .inl ⟨⟨x,kq _,by omega,h1,h2,h3⟩,rfl⟩
    ·have e:qCS (Ep H x) (Eq' H x) y r=some r:=by unfold qCS;rw[if_neg h1,if_neg h2,if_neg h3]
     rw[e];rcases rS_spec H y m (x+1) r with⟨⟨j,j1,j2,j3⟩,h⟩|⟨h,r',e',h4,h5⟩
     ·exact .inl ⟨⟨j,by omega,by omega,j3⟩,h⟩
     ·refine .inr ⟨all.2 ⟨λhb=>h3 hb.2.2,h⟩,r',e',λX=>?_,λX=>?_⟩
      ·rw[h4 X,all];exact⟨fun⟨a,b⟩=>⟨a,λhh=>absurd hh h2,b⟩,fun⟨a,_,b⟩=>⟨a,b⟩⟩
      ·rw[h5 X,all];exact⟨fun⟨a,b⟩=>⟨a,λhh=>absurd hh h1,b⟩,fun⟨a,_,b⟩=>⟨a,b⟩⟩
end Saw
end Go.SL

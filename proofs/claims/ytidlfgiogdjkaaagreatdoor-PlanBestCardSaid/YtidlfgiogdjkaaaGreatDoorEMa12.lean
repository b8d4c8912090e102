import Derived.Test.YtidlfgiogdjkaaaGreatDoorEMa11
import Derived.Test.YtidlfgiogdjkaaaGreatDoorEMa9
import Derived.Test.YtidlfgiogdjkaaaGreatDoorEMa10
set_option linter.unusedVariables false
set_option linter.unusedSimpArgs false
namespace Go.SL
namespace Saw
end Saw
end Go.SL
namespace Go.SL.Saw
variable {l :List qB} {ds:List Defect} {ps:List Product} {F:Rect} {w:Saw} {t:Rates}
end Go.SL.Saw
namespace Go.SL.Saw
theorem qK8 {axis kerf:Int} (hk:0<=kerf/\kerf<=20) {s:Span} (hs: -600<=s.A/\s.B<=600) {L:List Pt} (hL:L.length<=1000000):
  ∀(rest:List Pt) (i n:Nat) (e:Int) (nodes T:List Node),L.drop i=rest->i<=L.length->rest.length<n->-600<=e->e<=600->¬goodL kerf s.B e rest->(T.length<=127->nodes=T)->T.length+ndC rest<=1000000000->
  ∃er,er≠0/\zM axis kerf (L.map Prod.fst) (L.map Prod.snd) s n e false (i:Int) nodes (T.length:Int)=some (.inl ([],er))
 |[],i,n,e,nodes,T,hd,hi,hn,he1,he2,hg,hT,hb=>absurd trivial hg
 |x::r,i,n,e,nodes,T,hd,hi,hn,he1,he2,hg,hT,hb=>by
  obtain⟨n,rfl⟩:∃m,n=m+1:=⟨n-1,by omega⟩
  have hi':i<L.length:=by
   by_cases c:i<L.length
   ·exact c
   ·rw[List.drop_eq_nil_of_le (by omega)] at hd;cases hd
  have hx:L.getD i default=x:=by rw[XQ L i hi'] at hd;exact(List.cons.inj hd).1
  have hr:L.drop (i+1)=r:=by rw[XQ L i hi'] at hd;exact(List.cons.inj hd).2
  have hxa:(L.map Prod.fst).getD i default=x.1:=by rw[XR.getD_map'' Prod.fst hi',hx]
  have hxb:(L.map Prod.snd).getD i default=x.2:=by rw[XR.getD_map'' Prod.snd hi',hx]
  have hc:ndC (x::r)=3+x.2.length+ndC r:=by simp[ndC]
  rw[hc] at hb;rw[zM,List.length_map,decide_eq_true (by omega),qL (by omega) (by omega)];simp only[cond_true,cond_false,Int.toNat_natCast,hxa,WX];by_cases g1:x.1.A≥x.1.B
  ·rw[decide_eq_true g1];exact⟨19,by decide,rfl⟩
  rw[decide_eq_false g1,qF (n:=e+kerf) (by omega) (by omega),qF (n:=e+kerf+1) (by omega) (by omega)];simp only[cond_false];by_cases g2:x.1.A≠e/\x.1.A<e+kerf+1
  ·rw[show(x.1.A !=e)=true by rw[bne_iff_ne];exact g2.1,decide_eq_true g2.2];exact⟨11,by decide,rfl⟩
  have gA:∀{β:Type} (u v:β),(bif x.1.A !=e then(bif decide (x.1.A<e+kerf+1) then u else v) else(bif false then u else v))=v:=λu v=>by
   by_cases c:x.1.A=e
   ·rw[show(x.1.A !=e)=false by rw[bne_eq_false_iff_eq];exact c];rfl
   ·rw[show(x.1.A !=e)=true by rw[bne_iff_ne];exact c,decide_eq_false (show¬x.1.A<e+kerf+1 by omega)];rfl
  simp only[cond_false] at gA;rw[gA];by_cases g3:x.1.B>s.B
  ·rw[decide_eq_true g3];exact⟨20,by decide,rfl⟩
  rw[decide_eq_false g3];simp only[cond_false];have g4:¬(if x.1.B<s.B then goodL kerf s.B (imin (x.1.B+kerf) s.B) r else r=[]):=λh=>hg ⟨by omega,by omega,by omega,h⟩
  -- behind the first nodes
  have key:∀(T2 nodes2:List Node),(T2.length<=127->nodes2=T2)->T2.length+1+x.2.length+ndC r<=1000000000->∃er,er≠0/\WY axis kerf (L.map Prod.fst) (L.map Prod.snd) s e false (i:Int) (zM axis kerf (L.map Prod.fst) (L.map Prod.snd) s n) nodes2 (T2.length:Int)=some (.inl ([],er)):=by
   intro T2 nodes2 h2 hb2;unfold WY VB;simp only[Int.toNat_natCast,hxa,hxb,List.length_map,qP (show i<4611686018427387904 by omega)];rw[qL (show(0:Int)<=(i:Int) by omega) (show(i:Int)<((L.length:Nat):Int) by omega)];simp only[cond_true];by_cases c:x.1.B<s.B
   ·rw[decide_eq_true c];rw[if_pos c] at g4;simp only[cond_true];obtain⟨m1,q1,q2⟩:=EZ (l:=[(⟨axis,x.1.B⟩:Node)]) (nodes:=nodes2) (T:=T2) rfl h2 (by simp;omega);rw[q1];simp only[Option.bind_some];obtain⟨m2,r1,r2⟩:=EZ (l:=x.2) (nodes:=m1) (T:=T2++[(⟨axis,x.1.B⟩:Node)]) rfl q2 (by simp;omega);rw[r1];simp only[Option.bind_some];have mi:=imin_or (x.1.B+kerf) s.B;rw[qF (n:=x.1.B+kerf) (by omega) (by omega)];exact qK8 hk hs hL r (i+1) n (imin (x.1.B+kerf) s.B) m2 (T2++[(⟨axis,x.1.B⟩:Node)]++x.2) hr (by omega) (by simp at hn;omega) (by omega) (by omega) g4 r2 (by simp;omega)
   ·rw[decide_eq_false c];rw[if_neg c] at g4;simp only[cond_false];obtain⟨m2,r1,r2⟩:=EZ (l:=x.2) (nodes:=nodes2) (T:=T2) rfl h2 (by omega);rw[r1];simp only[Option.bind_some];have hn':r.length<n:=by simpa using hn
    obtain⟨n,rfl⟩:∃m,n=m+1:=⟨n-1,by omega⟩
    have hi2:i+1<L.length:=by
     by_cases c2:i+1<L.length
     ·exact c2
     ·rw[List.drop_eq_nil_of_le (by omega)] at hr;exact absurd hr.symm g4
    rw[zM,List.length_map,decide_eq_true (by omega),qL (by omega) (by omega)];simp only[cond_true,WX];cases decide (((L.map Prod.fst).getD ((i+1:Nat):Int).toNat default).A≥((L.map Prod.fst).getD ((i+1:Nat):Int).toNat default).B) with
    |true=>exact⟨19,by decide,rfl⟩
    |false=>exact⟨11,by decide,rfl⟩
  by_cases c:x.1.A>e
  ·rw[decide_eq_true c,qF (n:=x.1.A-kerf) (by omega) (by omega)];simp only[cond_true];obtain⟨m1,q1,q2⟩:=EZ (l:=[(⟨axis,x.1.A-kerf⟩:Node),⟨0,0⟩]) (nodes:=nodes) (T:=T) rfl hT (by simp;omega);rw[q1];simp only[Option.bind_some];exact key (T++[(⟨axis,x.1.A-kerf⟩:Node),⟨0,0⟩]) m1 q2 (by simp;omega)
  ·rw[decide_eq_false c];simp only[cond_false];exact key T nodes hT (by omega)
theorem qNM {r:Rect} (hr:VR r) (axis:Int): -600<=(axS r axis).A/\(axS r axis).B<=600/\(axS r axis).A<(axS r axis).B:=by
 unfold VR at hr;unfold axS;split<;>omega
def RowIs (axis kerf:Int) (s:Span) (L:List Pt) (q:List Node×Int):Prop:=q.2=0->goodL kerf s.B s.A L/\q.1=rowN axis kerf s L/\q.1.length<=127
theorem Row_is {r:Rect} (hr:VR r) {axis kerf:Int} (ha:axis=2\/axis=3) (hk:0<=kerf/\kerf<=20) {L:List Pt} (hL:L.length<=1000000) (hb:ndC L+1<=1000000000):
  ∃q,QF r axis kerf (L.map Prod.fst) (L.map Prod.snd)=some q/\RowIs axis kerf (axS r axis) L q:=by
 by_cases hg:goodL kerf (axS r axis).B (axS r axis).A L
 ·refine⟨_,qJs hr ha hk hL hg hb,λh=>?_⟩;unfold rowR at h⊢;by_cases c:(rowN axis kerf (axS r axis) L).length<=127
  ·rw[if_pos c];exact⟨hg,rfl,c⟩
  ·rw[if_neg c] at h;exact absurd h (by decide)
 ·have hs:=qNM hr axis;have e1:wD axis=some true:=by rcases ha with rfl|rfl<;>rfl
  have e2:QO r axis=some (axS r axis):=by rcases ha with rfl|rfl<;>rfl
  obtain⟨er,h0,k1⟩:=qK8 (axis:=axis) hk ⟨hs.1,hs.2.1⟩ hL L 0 FUEL (axS r axis).A [] [] (by simp) (by omega) (by rw[FUEL_eq];omega) hs.1 (by omega) hg (λ_=>rfl) (by simp;omega);rw[show((0:Nat):Int)=0 from rfl] at k1;rw[show(([]:List Node).length:Int)=0 from rfl] at k1;refine⟨([],er),?_,λh=>absurd h h0⟩;unfold QF TX VM;rw[e1,qN6 hr,e2];simp only[Option.bind_some,Bool.not_true,cond_false,List.length_map,bne_self_eq_false];rw[decide_eq_false (show¬kerf<0 by omega),decide_eq_false (show¬kerf>20 by omega)];simp only[cond_false];rw[k1];rfl
end Go.SL.Saw
namespace Go.SL.Saw
theorem qPL {a b:Int} {n:Nat} (h0:0<=a) (h1:a<=b) (h2:b<=(n:Int)):slOk a b n=true:=by unfold slOk;exact decide_eq_true ⟨h0,h1,h2⟩
theorem qPs (a b:Node):((a.Kind==b.Kind)&&((a.At==b.At)&&true))=true↔a=b:=by
 obtain⟨k,z⟩:=a;obtain⟨k2,z2⟩:=b;simp
theorem qUy {α:Type} [Inhabited α] {a b:List α} (hl:a.length=b.length) (h:∀i,i<a.length->a.getD i default=b.getD i default):a=b:=by
 apply List.ext_getElem hl;intro i h1 h2;have:=h i h1;rw[List.getD_eq_getElem?_getD,List.getElem?_eq_getElem h1,List.getD_eq_getElem?_getD,List.getElem?_eq_getElem h2] at this;simpa using this
theorem qP3 (L:Nat->Int->Option (Bool⊕Unit)) (a b:List Node) (hl:a.length=b.length) (ha:a.length<=1000000)
  (h0:∀n x,x<a.length->L (n+1) ((x:Nat):Int)=bif !(((a.getD x default).Kind==(b.getD x default).Kind)&&(((a.getD x default).At==(b.getD x default).At)&&true)) then some (.inl false) else L n ((x+1:Nat):Int))
  (h1:∀n,L (n+1) ((a.length:Nat):Int)=some (.inr ())):
  ∃u:Bool⊕Unit,L FUEL 0=some u/\(Sum.elim (λv=>v) (λ_=>true) u=true↔a=b):=by
 have key:∀(d i n:Nat),i+d=a.length->d<n->(∀j,j<i->a.getD j default=b.getD j default)->∃u:Bool⊕Unit,L n (i:Int)=some u/\(Sum.elim (λv=>v) (λ_=>true) u=true↔a=b):=by
  intro d
  induction d with
  |zero=>
   intro i n hi hn hj;obtain⟨n,rfl⟩:∃m,n=m+1:=⟨n-1,by omega⟩
   have:i=a.length:=by omega
   subst this;exact⟨_,h1 n,λ_=>qUy hl hj,λ_=>rfl⟩
  |succ d ih=>
   intro i n hi hn hj;obtain⟨n,rfl⟩:∃m,n=m+1:=⟨n-1,by omega⟩
   rw[h0 n i (by omega)];cases hb:((a.getD i default).Kind==(b.getD i default).Kind)&&(((a.getD i default).At==(b.getD i default).At)&&true) with
   |false=>
    refine⟨_,rfl,Iff.intro (λh=>by cases h) (λh=>?_)⟩;subst h;rw[(qPs _ _).2 rfl] at hb;cases hb
   |true=>
    have e:=(qPs _ _).1 hb;exact ih (i+1) n (by omega) (by omega) λj h=>by
     by_cases c:j=i
     ·subst c;exact e
     ·exact hj j (by omega)
 exact key a.length 0 FUEL (by omega) (by rw[FUEL_eq];omega) (λj h=>by omega)
theorem qOc (a b:List Node) (ha:a.length<=1000000):∃v,YD a b=some v/\(v=true↔a=b):=by
 unfold YD;by_cases hl:a.length=b.length
 ·rw[show(((a.length:Nat):Int) !=((b.length:Nat):Int))=false by rw[bne_eq_false_iff_eq];omega,cond_false];obtain⟨u,e,hu⟩:=qP3 (λn x=>jX a b n x) a b hl ha (λn x hx=>by
   rw[jX,decide_eq_true (by omega),qL (by omega) (by omega),qL (by omega) (by omega),qP (by omega)];rfl) (λn=>by rw[jX,decide_eq_false (by omega)];rfl)
  rw[e];cases u with
  |inl v=>exact⟨v,rfl,hu⟩
  |inr v=>exact⟨true,rfl,hu⟩
 ·rw[show(((a.length:Nat):Int) !=((b.length:Nat):Int))=true by rw[bne_iff_ne];omega];exact⟨false,rfl,Iff.intro (λh=>by cases h) (λh=>absurd (by rw[h]) hl)⟩
theorem qRR (l:List Node) (hl:l.length<=100000):∀(d i n o:Nat),i+d=l.length->d<n->1<=o->o<=i+1->∃u,jN l n (o:Int) (i:Int)=some u/\Sum.elim (λv=>v) (λ_=>((l.length:Nat):Int)) u=((i+trN (l.drop i) o:Nat):Int):=by
 intro d
 induction d with
 |zero=>
  intro i n o hi hn h1 h2;obtain⟨n,rfl⟩:∃m,n=m+1:=⟨n-1,by omega⟩
  have:i=l.length:=by omega
  subst this;refine⟨.inr (),?_,?_⟩
  ·rw[jN,decide_eq_false (by omega)];rfl
  ·rw[List.drop_length];rfl
 |succ d ih=>
  intro i n o hi hn h1 h2;obtain⟨n,rfl⟩:∃m,n=m+1:=⟨n-1,by omega⟩
  have hil:i<l.length:=by omega
  rw[jN,decide_eq_true (by omega),qL (by omega) (by omega),XQ l i hil];simp only[cond_true,Int.toNat_natCast];rw[trN];have k3:∀(b:Bool) (q:Nat),q<=i+2->(bif b then((o:Int)-1)+2 else(o:Int)-1)=(q:Int)->o-1+(bif b then 2 else 0)=q->
    ∃u,UI (o:Int) (i:Int) (jN l n) b=some u/\Sum.elim (λv=>v) (λ_=>((l.length:Nat):Int)) u=((i+(if o-1+(bif b then 2 else 0)=0 then 1 else 1+trN (l.drop (i+1)) (o-1+(bif b then 2 else 0))):Nat):Int):=by
   intro b q hq e1 e2;have ek:UI (o:Int) (i:Int) (jN l n) b=NH (i:Int) (jN l n) (q:Int):=by
    unfold UI;rw[qF (n:=(o:Int)-1) (by omega) (by omega),qF (n:=(o:Int)-1+2) (by omega) (by omega),<-e1];cases b<;>rfl
   rw[ek,e2];unfold NH;rw[qP (by omega)];by_cases c:q=0
   ·subst c;exact⟨_,rfl,by simp⟩
   ·rw[show((q:Int)==0)=false by rw[beq_eq_false_iff_ne];omega,cond_false,if_neg c];obtain⟨u,e,hu⟩:=ih (i+1) n q (by omega) (by omega) (by omega) (by omega);refine⟨u,e,?_⟩;rw[hu];omega
  have er:ripB (l.getD i default).Kind=((l.getD i default).Kind==2||(l.getD i default).Kind==3):=rfl;rw[er];cases hb:(l.getD i default).Kind==2 with
  |true=>
   rw[Bool.true_or,cond_true];exact k3 true (o+1) (by omega) (by simp;omega) (by simp;omega)
  |false=>
   rw[Bool.false_or,cond_false];cases hb2:(l.getD i default).Kind==3 with
   |true=>exact k3 true (o+1) (by omega) (by simp;omega) (by simp;omega)
   |false=>exact k3 false (o-1) (by omega) (by simp;omega) (by simp)
theorem tree_eq (l:List Node) (hl:l.length<=100000):qAm l=some ((trN l 1:Nat):Int):=by
 obtain⟨u,e,hu⟩:=qRR l hl l.length 0 FUEL 1 (by omega) (by rw[FUEL_eq];omega) (by omega) (by omega);rw[List.drop_zero,Nat.zero_add] at hu;unfold qAm;rw[show((1:Nat):Int)=1 from rfl,show((0:Nat):Int)=0 from rfl] at e;rw[e];cases u with
 |inl v=>simp only[Option.bind_some,Sum.elim_inl] at hu⊢;rw[hu]
 |inr v=>simp only[Option.bind_some,Sum.elim_inr] at hu⊢;rw[hu]
theorem qG6 (axis kerf B:Int):∀(n:Nat) (e:Int) (l:List Node),(prs axis kerf B n e l).1.length+(prs axis kerf B n e l).2.2.length<=l.length/\(∀x∈(prs axis kerf B n e l).1,x.2.length<=l.length)
 |0,e,l=>⟨by simp[prs],by simp[prs]⟩
 |n+1,e,[]=>⟨by simp[prs],by simp[prs]⟩
 |n+1,e,x::r=>by
  rw[prs];by_cases c:x.Kind=axis
  ·rw[if_pos c];by_cases c2:trN r 1=1/\(r.getD 0 default).Kind=0
   ·rw[if_pos c2];have ih:=qG6 axis kerf B n (w64 (x.At+kerf)) (r.drop (trN r 1));have hd:(r.drop (trN r 1)).length<=r.length:=by simp
    exact⟨by simp only[List.length_cons];omega,λy hy=>by have:=ih.2 y hy;simp only[List.length_cons];omega⟩
   ·rw[if_neg c2];have ih:=qG6 axis kerf B n (imin (w64 (x.At+kerf)) B) (r.drop (trN r 1));have hd:(r.drop (trN r 1)).length<=r.length:=by simp
    refine⟨by simp only[List.length_cons];omega,λy hy=>?_⟩;rcases List.mem_cons.1 hy with rfl|hy
    ·simp only[List.length_take,List.length_cons];omega
    ·have:=ih.2 y hy;simp only[List.length_cons];omega
  ·rw[if_neg c];exact⟨by simp,by simp⟩
theorem qFJ (axis kerf:Int) (s:Span):∀(k n:Nat) (e:Int) (l:List Node) (A:List Span) (P:List (List Node)),l.length<k->l.length<n->A.length+l.length<=1000->P.length=A.length->
  ZF axis kerf s n A P e l=some (A++(prs axis kerf s.B k e l).1.map Prod.fst,P++(prs axis kerf s.B k e l).1.map Prod.snd,(prs axis kerf s.B k e l).2.1,(prs axis kerf s.B k e l).2.2)
 |0,n,e,l,A,P,hk,_,_,_=>by omega
 |k+1,n,e,[],A,P,hk,hn,hA,hP=>by
  obtain⟨n,rfl⟩:∃m,n=m+1:=⟨n-1,by omega⟩
  rw[ZF];unfold HE;simp[prs]
 |k+1,n,e,x::r,A,P,hk,hn,hA,hP=>by
  obtain⟨n,rfl⟩:∃m,n=m+1:=⟨n-1,by omega⟩
  simp only[List.length_cons] at hk hn hA;have hi:inb 0 (x::r).length=true:=qL (by omega) (by simp only[List.length_cons];omega);rw[ZF,decide_eq_true (by simp only[List.length_cons];omega),hi];unfold HE;rw[hi];have e0:(x::r).getD (0:Int).toNat default=x:=rfl;have e1:(x::r).drop (1:Int).toNat=r:=rfl;rw[e0,prs];by_cases c:x.Kind=axis
  ·rw[if_pos c,show(x.Kind==axis)=true by rw[beq_iff_eq];exact c];have tl:=qSL r 1;have hd:(r.drop (trN r 1)).length<=r.length:=by simp
   rw[e1,qPL (by omega) (by simp only[List.length_cons];omega) (Int.le_refl _),tree_eq r (by omega)];simp only[cond_true,Option.bind_some];unfold CE CC;simp only[e0,e1,Int.toNat_natCast];rw[qPL (a:=((trN r 1:Nat):Int)) (by omega) (by omega) (Int.le_refl _),qPL (a:=0) (by omega) (by omega) (show((trN r 1:Nat):Int)<=_ by omega),qW (by omega) (by omega),qW (by omega) (by omega)];simp only[cond_true]
   have part:=qFJ axis kerf s k n (imin (w64 (x.At+kerf)) s.B) (r.drop (trN r 1)) (A++[(⟨e,x.At⟩:Span)]) (P++[r.take (trN r 1)]) (by omega) (by omega) (by simp only[List.length_append,List.length_cons,List.length_nil];omega) (by simp[hP]);have waste:=qFJ axis kerf s k n (w64 (x.At+kerf)) (r.drop (trN r 1)) A P (by omega) (by omega) (by omega) hP;by_cases c1:trN r 1=1
   ·rw[show(((trN r 1:Nat):Int)==1)=true by rw[beq_iff_eq];omega,qL (i:=0) (n:=r.length) (by omega) (by omega),cond_true,cond_true];by_cases c2:(r.getD 0 default).Kind=0
    ·rw[if_pos ⟨c1,c2⟩,show((r.getD (0:Int).toNat default).Kind==0)=true by rw[beq_iff_eq];exact c2,cond_true];exact waste
    ·rw[if_neg (λh=>c2 h.2),show((r.getD (0:Int).toNat default).Kind==0)=false by rw[beq_eq_false_iff_ne];exact c2,cond_false,part];simp
   ·rw[show(((trN r 1:Nat):Int)==1)=false by rw[beq_eq_false_iff_ne];omega,cond_false,cond_false,if_neg (λh=>c1 h.1),part];simp
  ·rw[if_neg c,show(x.Kind==axis)=false by rw[beq_eq_false_iff_ne];exact c];simp
end Go.SL.Saw

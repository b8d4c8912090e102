/- Poly's plain mathematics, part 5: the hull, as both compute it. -/
import Derived.Test.YthbamnkheinbgaaGreatDoorSMa4
import Derived.Test.YthbamnkheinbgaaGreatDoorSMa2
set_option linter.unusedVariables false
set_option linter.unusedSimpArgs false
namespace Go.SL
namespace Saw
def turnP (q:Nat) (p:qA):qA:=match q with
 |0=>p
 |1=>⟨-p.Y,p.X⟩
 |2=>⟨-p.X,-p.Y⟩
 |_=>⟨p.Y,-p.X⟩
def canT (p:qA):Bool:=!(p.X== -9223372036854775808)&&!(p.Y== -9223372036854775808)
def turns (a:List qA) (q:Nat):List qA:=bif a.all canT then a.map (turnP q) else[]
def popR :List qA->qA->List qA
 |t::s::r,c=>if cross s t c<=0 then popR (s::r) c else t::s::r
 |l,_=>l
theorem qGr (c:qA):∀st p,p∈popR st c->p∈st
 |[],_,h=>h
 |[_],_,h=>h
 |t::s::r,p,h=>by
  unfold popR at h;split at h
  ·exact kL _ (qGr c (s::r) p h)
  ·exact h
def qEY (st:List qA) (c:qA):List qA:=c::popR st c
def pos (x y:Int):Prop:=0<x\/(x=0/\0<y)
theorem qAe {ux uy vx vy wx wy:Int} (hu:pos ux uy) (hv:pos vx vy) (hw:pos wx wy) (h1:0<=ux*vy-vx*uy) (h2:0<=vx*wy-wx*vy):0<=ux*wy-wx*uy:=by
 unfold pos at*;have hux:0<=ux:=by omega
 have hwx:0<=wx:=by omega
 rcases hv with hv|⟨hv,hvy⟩
 ·have e:(ux*wy-wx*uy)*vx=(ux*vy-vx*uy)*wx+(vx*wy-wx*vy)*ux:=by grind
  have h3:0<=(ux*wy-wx*uy)*vx:=by rw[e];exact Int.add_nonneg (Int.mul_nonneg h1 hwx) (Int.mul_nonneg h2 hux)
  exact Int.nonneg_of_mul_nonneg_left h3 hv
 ·subst hv;have h4:0<=-(wx*vy):=by simpa using h2
  have hw0:wx=0:=by
   rcases Int.lt_or_eq_of_le hwx with h|h
   ·have:=Int.mul_pos h hvy;omega
   ·exact h.symm
  subst hw0;have hwy:0<wy:=by omega
  have:=Int.mul_nonneg hux (Int.le_of_lt hwy);simpa using this
theorem TL {p q:qA} (h:pLt p q):pos (q.X-p.X) (q.Y-p.Y):=by unfold pLt at h;unfold pos;omega
theorem CL (p q:qA):cross p q p=0:=by unfold cross;grind
theorem qGb (p q:qA):cross p q q=0:=by unfold cross;grind
theorem turn_b {s t c p:qA} (hst:pLt s t) (hsc:pLt s c) (hsp:pLt s p) (h1:cross s t c<=0) (h2:0<=cross s t p):0<=cross s c p:=by
 unfold cross at*;exact qAe (TL hsc) (TL hst) (TL hsp) (by omega) h2
theorem turn_c {s t c p:qA} (hst:pLt s t) (htc:pLt t c) (hpt:pLt p t) (h1:0<cross s t c) (h2:0<=cross s t p):0<=cross t c p:=by
 have h3:=qAe (ux:=t.X-p.X) (uy:=t.Y-p.Y) (vx:=t.X-s.X) (vy:=t.Y-s.Y) (wx:=c.X-t.X) (wy:=c.Y-t.Y) (TL hpt) (TL hst) (TL htc)
  (by unfold cross at h2;grind) (by unfold cross at h1;grind)
 unfold cross
 grind
def Left (pts:List qA):List qA->Prop
 |v::u::r=>(∀p∈pts,0<=cross u v p)/\Left pts (u::r)
 |_=>True
def qAt :List qA->Prop
 |c::t::s::r=>0<cross s t c/\qAt (t::s::r)
 |_=>True
theorem qFM (pts:List qA) (c:qA) (hc:∀p∈pts,pLt p c):∀(st:List qA),st.Pairwise (λa b=>pLt b a)->(∀p∈st,p∈pts)->Left pts st->qAt st->(∀t r,st=t::r->∀p∈pts,pLt t p->0<=cross t c p)->(∀t,st.getLast? =some t->∀p∈pts,p=t\/pLt t p)->
  Left pts (c::popR st c)/\qAt (c::popR st c)
 |[],_,_,_,_,_,_=>⟨trivial,trivial⟩
 |[t],_,hm,_,_,hq,hb=>by
  refine⟨⟨λp hp=>?_,trivial⟩,trivial⟩;rcases hb t rfl p hp with rfl|h
  ·rw[CL];exact gk _
  ·exact hq t [] rfl p hp h
 |t::s::r,hs,hm,hl,ht,hq,hb=>by
  obtain⟨s1,s2⟩:=uf.1 hs;have hst:pLt s t:=s1 s kO;obtain⟨l1,l2⟩:=hl;have htc:=hc t (hm t kO);unfold popR;by_cases hcr:cross s t c<=0
  ·rw[if_pos hcr];refine qFM pts c hc (s::r) s2 (λp hp=>hm p (kL _ hp)) l2 (by cases r with|nil=>trivial|cons u r=>exact ht.2) (λt' r' he p hp hsp=>?_) (λt' he p hp=>hb t' (by rw[List.getLast?_cons_cons];exact he) p hp);cases he;exact turn_b hst (hc s (hm s (by simp))) hsp hcr (l1 p hp)
  ·rw[if_neg hcr];refine⟨⟨λp hp=>?_,l1,l2⟩,by omega,ht⟩;rcases pLt_tri p t with h|h|h
   ·exact turn_c hst htc h (by omega) (l1 p hp)
   ·rw[h,CL];exact gk _
   ·exact hq t _ rfl p hp h
abbrev Desc (st:List qA):Prop:=st.Pairwise (λa b=>pLt b a)
structure Inv (pts st:List qA):Prop where
 desc:Desc st
 sub:∀p∈st,p∈pts
 left:Left pts st
 turns:qAt st
 top:∀t r,st=t::r->∀p∈pts,p=t\/pLt p t
 bot:∀t,st.getLast? =some t->∀p∈pts,p=t\/pLt t p
theorem CJ (c:qA):∀st,Desc st->Desc (popR st c)
 |[],h=>h
 |[_],h=>h
 |t::s::r,h=>by
  unfold popR;split
  ·exact CJ c (s::r) (uf.1 h).2
  ·exact h
theorem qAi (c:qA):∀st,(popR st c).getLast? =st.getLast?
 |[]=>rfl
 |[_]=>rfl
 |t::s::r=>by
  unfold popR;split
  ·rw[qAi c (s::r),List.getLast?_cons_cons]
  ·rfl
theorem qFk {a b:List qA}:∀{st:List qA},Left a st->Left b st->Left (a++b) st
 |[],_,_=>trivial
 |[_],_,_=>trivial
 |v::u::r,⟨h1,h2⟩,⟨h3,h4⟩=>⟨λp hp=>(uW.1 hp).elim (h1 p) (h3 p),qFk h2 h4⟩
theorem qGu (c:qA):∀st,Desc st->(∀p∈st,pLt p c)->qAt st->(∀v u r,st=v::u::r->0<=cross u v c)->Left [c] st
 |[],_,_,_,_=>trivial
 |[_],_,_,_,_=>trivial
 |v::u::r,hd,hc,ht,h0=>by
  have h1:=h0 v u r rfl;obtain⟨d1,d2⟩:=uf.1 hd;refine⟨λp hp=>by rw[gr.1 hp];exact h1,qGu c (u::r) d2 (λp hp=>hc p (kL _ hp)) (by cases r with|nil=>trivial|cons x r=>exact ht.2) (λv' u' r' he=>?_)⟩;cases he;obtain⟨t1,_⟩:=ht;have huv:pLt u v:=d1 u kO;have hxu:pLt u' u:=(uf.1 d2).1 u' kO;have huc:pLt u c:=hc u (by simp);have:=qAe (TL hxu) (TL huv) (TL huc) (by unfold cross at t1;grind) (by unfold cross at h1;grind);unfold cross
  grind
theorem Inv.push {pts st:List qA} (h:Inv pts st) {c:qA} (hc:∀p∈pts,pLt p c) (hne:pts≠[]->st≠[]):Inv (pts++[c]) (qEY st c):=by
 have hp:=qFM pts c hc st h.desc h.sub h.left h.turns (λt r he p hp htp=>by
  rcases h.top t r he p hp with rfl|h1
  ·exact absurd htp (qBW _)
  ·exact absurd htp (qIZ h1)) h.bot
 have hsub:∀p∈popR st c,p∈pts:=λp hp=>h.sub p (qGr c st p hp);have hlt:∀p∈popR st c,pLt p c:=λp hp=>hc p (hsub p hp);have hdesc:Desc (qEY st c):=uf.2 ⟨hlt,CJ c st h.desc⟩;refine⟨hdesc,λp hp'=>?_,qFk hp.1 ?_,hp.2,λt r he p hp'=>?_,λt he p hp'=>?_⟩
 ·rcases uo.1 hp' with rfl|hp'
  ·simp
  ·exact List.mem_append_left _ (hsub p hp')
 ·have hl:Left [c] (popR st c):=by
   refine qGu c _ (CJ c st h.desc) hlt ?_ (λv u r he=>?_)
   ·have:=hp.2;generalize popR st c=q at this
    match q,this with
    |[],_=>trivial
    |[_],_=>trivial
    |[_,_],_=>trivial
    |_::_::_::_,this=>exact this.2
   ·have:=hp.2;rw[he] at this;exact Int.le_of_lt this.1
  unfold qEY;generalize popR st c=q at hl
  match q,hl with
  |[],_=>trivial
  |t::r,hl=>exact⟨λp hp=>by rw[gr.1 hp,qGb];exact gk _,hl⟩
 ·cases he;rcases uW.1 hp' with h1|h1
  ·exact .inr (hc p h1)
  ·exact .inl (gr.1 h1)
 ·unfold qEY at he;by_cases hst:st=[]
  ·subst hst;have hpts:pts=[]:=Classical.byContradiction λhh=>hne hh rfl;subst hpts;simp[popR] at he;subst he;exact .inl (by simpa using hp')
  ·have hpe:popR st c≠[]:=λe=>by
    have:=qAi c st;rw[e] at this;exact hst (List.getLast?_eq_none_iff.1 this.symm)
   have he':st.getLast? =some t:=by
    obtain⟨x,q,hq⟩:=List.exists_cons_of_ne_nil hpe;rw[<-qAi c st,hq];rw[hq,List.getLast?_cons_cons] at he;exact he
   rcases uW.1 hp' with h1|h1
   ·exact h.bot t he' p h1
   ·rw[gr.1 h1];exact .inr (hc t (h.sub t (List.mem_of_getLast? he')))
structure Up (pts st:List qA):Prop where
 asc:qDx st
 sub:∀p∈st,p∈pts
 left:Left pts st
 turns:qAt st
 top:∀t r,st=t::r->∀p∈pts,p=t\/pLt t p
 bot:∀t,st.getLast? =some t->∀p∈pts,p=t\/pLt p t
def LeftF (pts:List qA):List qA->Prop
 |u::v::r=>(∀p∈pts,0<=cross u v p)/\LeftF pts (v::r)
 |_=>True
end Saw
end Go.SL

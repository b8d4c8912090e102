/- Plans: members. -/
import Derived.Test.YtidlfgiogdjkaaaGreatDoorEMa12
import Derived.Test.YtidlfgiogdjkaaaGreatDoorEMa9
set_option linter.unusedVariables false
set_option linter.unusedSimpArgs false
namespace Go.SL.Saw
variable {ps :List Product} {w:Saw} {t:Rates} {F r:Rect}
theorem qRL (axis kerf:Int) (s:Span) (l:List Node):(prsL axis kerf s l).length<=l.length/\ndC (prsL axis kerf s l)<=(3+l.length)*l.length:=by
 have h:=qFZ axis kerf s.B (l.length+1) s.A l;have hx:∀x∈prsL axis kerf s l,x.2.length<=l.length:=λx hx=>by
  unfold prsL at hx;rcases List.mem_append.1 hx with hx|hx
  ·exact h.2 x hx
  ·unfold qCk at hx;split at hx
   ·rw[List.mem_singleton] at hx;subst hx;simp only;omega
   ·cases hx
 have hn:(prsL axis kerf s l).length<=l.length:=by
  unfold prsL qCk;rw[List.length_append];split
  ·rename_i c;have:0<(prs axis kerf s.B (l.length+1) s.A l).2.2.length:=List.length_pos_iff.2 c.1;simp only[List.length_cons,List.length_nil];omega
  ·simp only[List.length_nil];omega
 refine⟨hn,?_⟩;have gen:∀L:List Pt,(∀x∈L,x.2.length<=l.length)->ndC L<=(3+l.length)*L.length:=by
  intro L
  induction L with
  |nil=>intro _;simp[ndC]
  |cons x L ih=>
   intro hh;have:=ih λy hy=>hh y (List.mem_cons_of_mem _ hy);have:=hh x List.mem_cons_self;have e:ndC (x::L)=3+x.2.length+ndC L:=by simp[ndC]
   rw[e,List.length_cons,Nat.mul_add];omega
 exact Nat.le_trans (gen _ hx) (Nat.mul_le_mul_left _ hn)
theorem qQZ (hr:VR r) {axis kerf:Int} (ha:axis=2\/axis=3) (hk:0<=kerf/\kerf<=20) (l:List Node):∃A P b,AF r axis kerf l=some (A,P,b)/\
  (b=true->∃L:List Pt,A=L.map Prod.fst/\P=L.map Prod.snd/\goodL kerf (axS r axis).B (axS r axis).A L/\l=rowN axis kerf (axS r axis) L/\l.length<=127)
  /\(∀L:List Pt,goodL kerf (axS r axis).B (axS r axis).A L->l=rowN axis kerf (axS r axis) L->l.length<=127->(∀x∈L,okPt axis x.2)->b=true/\A=L.map Prod.fst/\P=L.map Prod.snd):=by
 unfold AF;by_cases hl:l.length<=127
 ·rw[decide_eq_false (by omega)];have e0:(bif axis==3 then YS r axis kerf l r.Y else YS r axis kerf l r.X)=YS r axis kerf l (axS r axis):=by rcases ha with rfl|rfl<;>rfl
  rw[cond_false,e0];have hs:=qLH hr axis;generalize hL:prsL axis kerf (axS r axis) l=L;obtain⟨p1,p2⟩:=qRL axis kerf (axS r axis) l;rw[hL] at p1 p2;have p3:(3+l.length)*l.length<=130*127:=Nat.mul_le_mul (by omega) (by omega);have e1:YS r axis kerf l (axS r axis)=LA r axis kerf l (L.map Prod.fst) (L.map Prod.snd):=by
   unfold YS;rw[qFW axis kerf (axS r axis) (l.length+1) FUEL (axS r axis).A l [] [] (by omega) (by rw[FUEL_eq];omega) (by simp;omega) rfl];rw[<-hL];unfold prsL qCk;have pl:=(qFZ axis kerf (axS r axis).B (l.length+1) (axS r axis).A l).1;generalize prs axis kerf (axS r axis).B (l.length+1) (axS r axis).A l=q at pl⊢;obtain⟨q1,qe,q2⟩:=q;simp only[Option.bind_some,List.nil_append] at pl⊢;unfold II;cases q2 with
   |nil=>simp
   |cons y ys=>
    simp only[List.length_cons] at pl;rw[decide_eq_true (by simp only[List.length_cons];omega),qK (by omega) (by simp only[List.length_cons];omega)];simp only[cond_true];have ey:(y::ys).getD (0:Int).toNat default=y:=rfl;rw[ey];by_cases c:y.Kind=0
    ·rw[show(y.Kind !=0)=false by rw[bne_eq_false_iff_eq];exact c,if_neg (by simp[c])];simp
    ·rw[show(y.Kind !=0)=true by rw[bne_iff_ne];exact c,if_pos (by simp[c]),qV (by simp;omega) (by omega),qV (by simp;omega) (by omega)];simp
  rw[e1];obtain⟨q,hq,hi⟩:=Row_is hr ha hk (L:=L) (by omega) (by omega);have back:∀L':List Pt,goodL kerf (axS r axis).B (axS r axis).A L'->l=rowN axis kerf (axS r axis) L'->(∀x∈L',okPt axis x.2)->L'=L/\q=(l,0):=λL' g1 g2 g3=>by
   have:=qRy (s:=axS r axis) ha hk hs.1 (by omega) hs.2.1 g1 g3;rw[<-g2,hL] at this;subst this;rw[qJg hr ha hk (by omega) g1 (by omega),<-g2] at hq;unfold rowR at hq;rw[if_pos hl] at hq;exact⟨rfl,(Option.some.inj hq).symm⟩
  unfold LA;rw[hq];simp only[Option.bind_some];by_cases c:q.2=0
  ·obtain⟨i1,i2,i3⟩:=hi c;rw[show(q.2 !=0)=false by rw[bne_eq_false_iff_eq];exact c];obtain⟨v,ev,hv⟩:=qL9 l q.1 (by omega);rw[ev];simp only[cond_false,Option.bind_some];unfold zbQ;cases v with
   |true=>
    refine⟨_,_,true,rfl,λ_=>⟨L,rfl,rfl,i1,?_,hl⟩,λL' g1 g2 _ g3=>?_⟩
    ·rw[hv.1 rfl,i2]
    ·obtain⟨b1,_⟩:=back L' g1 g2 g3;rw[b1];exact⟨rfl,rfl,rfl⟩
   |false=>
    refine⟨_,_,false,rfl,(λh=>by cases h),λL' g1 g2 _ g3=>?_⟩;obtain⟨_,b2⟩:=back L' g1 g2 g3;rw[b2] at hv;have:=hv.2 rfl;cases this
  ·rw[show(q.2 !=0)=true by rw[bne_iff_ne];exact c];refine⟨_,_,false,rfl,(λh=>by cases h),λL' g1 g2 _ g3=>?_⟩;obtain⟨_,b2⟩:=back L' g1 g2 g3;rw[b2] at c;exact absurd rfl c
 ·rw[decide_eq_true (by omega)];exact⟨[],[],false,rfl,(λh=>by cases h),λL _ _ h _=>absurd h hl⟩
theorem qJq {kerf B:Int} (hk:0<=kerf/\kerf<=20):∀{L:List Pt} {e:Int},e<=B->goodL kerf B e L->∀x∈L,e<=x.1.A/\x.1.A<x.1.B/\x.1.B<=B
 |[],_,_,_,x,hx=>by cases hx
 |y::L,e,he,h,x,hx=>by
  obtain⟨h1,h2,h3,h4⟩:=h;rcases List.mem_cons.1 hx with rfl|hx
  ·exact⟨by omega,h1,h3⟩
  ·by_cases c:y.1.B<B
   ·rw[if_pos c] at h4;have mi:=imin_or (y.1.B+kerf) B;have:=qJq hk (by omega) h4 x hx;omega
   ·rw[if_neg c] at h4;subst h4;cases hx
def okBd (ps:List Product) (w:Saw) (r:Rect) (x:Pt):Prop:=(x.1.A-r.X.A) % w.Pitch=0/\∃k,k<(sizes ps (r.Y.B-r.Y.A)).1.length/\(sizes ps (r.Y.B-r.Y.A)).1.getD k default=x.1.B-x.1.A/\x.2=[⟨1,(sizes ps (r.Y.B-r.Y.A)).2.getD k default⟩]
def Strp (ps:List Product) (w:Saw) (r:Rect) (l:List Node):Prop:=l.length<=127/\∃L:List Pt,goodL w.Kerf r.X.B r.X.A L/\L≠[]/\l=rowN 2 w.Kerf r.X L/\∀x∈L,okBd ps w r x
theorem qOP {x:Pt} (h:okBd ps w r x):okPt 2 x.2:=by
 obtain⟨_,k,_,_,e⟩:=h;refine⟨.leaf ⟨1,_⟩,rfl,e,?_,?_⟩
 ·rw[e];exact(show(1:Int)≠0 by decide)
 ·rw[e];exact(show(1:Int)≠2 by decide)
theorem qML (p:Nat->Bool):∀(m x:Nat) (s:Bool),foldN (λk s=>s||p k) x m s=true↔s=true\/∃k,x<=k/\k<x+m/\p k=true
 |0,x,s=>by
  unfold foldN;exact⟨λh=> .inl h,λh=>h.elim id fun⟨k,h1,h2,_⟩=>by omega⟩
 |m+1,x,s=>by
  unfold foldN;rw[qML p m (x+1) _,Bool.or_eq_true];constructor
  ·rintro((h|h)|⟨k,h1,h2,h3⟩)
   ·exact .inl h
   ·exact .inr ⟨x,Nat.le_refl _,by omega,h⟩
   ·exact .inr ⟨k,by omega,by omega,h3⟩
  ·rintro(h|⟨k,h1,h2,h3⟩)
   ·exact .inl (.inl h)
   ·by_cases c:k=x
    ·subst c;exact .inl (.inr h3)
    ·exact .inr ⟨k,by omega,by omega,h3⟩
open Classical in
theorem qIu (hr:VR r) (hw:VW w t) (ps:List Product) (l:List Node):∃b,DE r ps w l=some b/\(b=true↔Strp ps w r l):=by
 obtain⟨A,P,b,e,i1,i2⟩:=qQZ hr (axis:=2) (.inl rfl) hw.kerf l;have hs:=qLH hr 2;have hp:=hw.pitch;have ea:axS r 2=r.X:=rfl;rw[ea] at i1 i2 hs;have hr':=hr;unfold VR at hr';unfold DE;rw[e];simp only[Option.bind_some];cases b with
 |false=>
  refine⟨false,rfl,Iff.intro (λh=>by cases h) λh=>?_⟩;obtain⟨h1,L,g,_,eL,hx⟩:=h;have:=(i2 L g eL h1 λx hx'=>qOP (hx x hx')).1;cases this
 |true=>
  obtain⟨L,eA,eP,g,eL,hl⟩:=i1 rfl;subst eA;subst eP;have hLb:=qJq hw.kerf (by omega) g;have uniq:Strp ps w r l↔L≠[]/\∀x∈L,okBd ps w r x:=by
   constructor
   ·rintro⟨h1,L',g',ne,eL',hx⟩;obtain⟨_,q1,q2⟩:=i2 L' g' eL' h1 λx hx'=>qOP (hx x hx');have:L=L':=by
     have z:∀M:List Pt,M=(M.map Prod.fst).zip (M.map Prod.snd):=λM=>by
      induction M with
      |nil=>rfl
      |cons a M ih=>simp only[List.map_cons,List.zip_cons_cons];rw[<-ih]
     rw[z L,z L',q1,q2]
    subst this;exact⟨ne,hx⟩
   ·rintro⟨ne,hx⟩;exact⟨hl,L,g,ne,eL,hx⟩
  rw[uniq];unfold GW;simp only[Bool.not_true,cond_false,List.length_map];by_cases c0:L=[]
  ·subst c0;exact⟨false,rfl,Iff.intro (λh=>by cases h) λh=>absurd rfl h.1⟩
  have c0':0<L.length:=List.length_pos_iff.2 c0;rw[show(((L.length:Nat):Int)==0)=false by rw[beq_eq_false_iff_ne];omega,cond_false,qF (n:=r.Y.B-r.Y.A) (by omega) (by omega),(qGW _ _).1];simp only[Option.bind_some];have sl:=qIU (ps:=ps) (r.Y.B-r.Y.A);have sl3:(sizes ps (r.Y.B-r.Y.A)).1.length<=1000:=by
   unfold sizes;split
   ·simp
   ·rename_i hc;have:=HD (l:=ps) (by simpa using hc);have:=(qJw (l:=ps) (by simpa using hc) (r.Y.B-r.Y.A)).le;unfold sizes at this;rw[if_neg hc] at this;omega
  have hLl:L.length<=100000:=by
   have:=rowB_ge L r.X.A (axis:=2) (kerf:=w.Kerf) (B:=r.X.B) g (λx hx=>?_)
   ·have e2:l.length=(rowN 2 w.Kerf r.X L).length:=by rw[<-eL]
    unfold rowN at e2;rw[List.length_append] at e2;omega
   ·trivial
  have hL4:∀(x:Pt) (i:Nat),i<L.length->L.getD i default=x->x.2.length=1->wU (L.map Prod.fst,L.map Prod.snd,true) (sizes ps (r.Y.B-r.Y.A)) (i:Int) FUEL false 0=some (foldN (λk s=>s||(((sizes ps (r.Y.B-r.Y.A)).1.getD k default==x.1.B-x.1.A)&&((sizes ps (r.Y.B-r.Y.A)).2.getD k default==(x.2.getD 0 default).At))) 0 (sizes ps (r.Y.B-r.Y.A)).1.length false):=by
   intro x i hi ex h1;have hxb:=hLb x (by rw[<-ex];exact wL hi);have hxa:(L.map Prod.fst).getD i default=x.1:=by rw[YQ.getD_map'' Prod.fst hi,ex]
   have hxc:(L.map Prod.snd).getD i default=x.2:=by rw[YQ.getD_map'' Prod.snd hi,ex]
   have k:=zR (sizes ps (r.Y.B-r.Y.A)).1.length (λn (s:Bool) y=>wU (L.map Prod.fst,L.map Prod.snd,true) (sizes ps (r.Y.B-r.Y.A)) (i:Int) n s y) (λk s=>s||(((sizes ps (r.Y.B-r.Y.A)).1.getD k default==x.1.B-x.1.A)&&((sizes ps (r.Y.B-r.Y.A)).2.getD k default==(x.2.getD 0 default).At))) (λs=>s) (λ_ _=>True) 0 (by omega) (by omega)
    (λn k s hk _=>by
     refine⟨?_,trivial⟩;rw[wU,decide_eq_true (by omega),qK (by omega) (by omega)];unfold KX;simp only[Int.toNat_natCast,hxa,hxc,List.length_map];rw[qF (n:=x.1.B-x.1.A) (by omega) (by omega),qK (i:=(k:Int)) (n:=(sizes ps (r.Y.B-r.Y.A)).2.length) (by omega) (by omega),qK (i:=(i:Int)) (n:=L.length) (by omega) (by omega),qK (i:=0) (n:=x.2.length) (by omega) (by omega),qP (by omega)];simp only[cond_true];have e00:x.2.getD (0:Int).toNat default=x.2.getD 0 default:=rfl;rw[e00];cases s<;>cases (sizes ps (r.Y.B-r.Y.A)).1.getD k default==x.1.B-x.1.A<;>simp)
    (λn s _=>by rw[wU];simp) false trivial
   exact k.1
  have lf:=KN L (λn x=>jN r w (L.map Prod.fst,L.map Prod.snd,true) (sizes ps (r.Y.B-r.Y.A)) n x) (λx=>if okBd ps w r x then none else some false) (by omega)
   (λn i hi=>by
    generalize ex:L.getD i default=x;have hxb:=hLb x (by rw[<-ex];exact wL hi);have hxa:(L.map Prod.fst).getD i default=x.1:=by rw[YQ.getD_map'' Prod.fst hi,ex]
    have hxc:(L.map Prod.snd).getD i default=x.2:=by rw[YQ.getD_map'' Prod.snd hi,ex]
    rw[jN];simp only[Int.toNat_natCast,hxa,hxc,List.length_map];unfold PP;rw[decide_eq_true (by omega),qK (i:=(i:Int)) (n:=L.length) (by omega) (by omega),nz_t (by omega),qF (n:=x.1.A-r.X.A) (by omega) (by omega),Int.tmod_eq_emod_of_nonneg (by omega),qP (by omega)];simp only[cond_true];by_cases c1:(x.1.A-r.X.A) % w.Pitch=0
    ·rw[show((x.1.A-r.X.A) % w.Pitch !=0)=false by rw[bne_eq_false_iff_eq];exact c1,cond_false];by_cases c2:x.2.length=1
     ·rw[show(((x.2.length:Nat):Int) !=1)=false by rw[bne_eq_false_iff_eq];omega,cond_false,qK (i:=0) (n:=x.2.length) (by omega) (by omega),cond_true,hL4 x i hi ex c2];have e00:x.2.getD (0:Int).toNat default=x.2.getD 0 default:=rfl;rw[e00];have e2:x.2=[x.2.getD 0 default]:=by
       match hm:x.2,c2 with
       |[a],_=>rfl
      by_cases c3:(x.2.getD 0 default).Kind=1
      ·rw[show((x.2.getD 0 default).Kind !=1)=false by rw[bne_eq_false_iff_eq];exact c3,cond_false];simp only[Option.bind_some];have fo:=qML (λk=>((sizes ps (r.Y.B-r.Y.A)).1.getD k default==x.1.B-x.1.A)&&((sizes ps (r.Y.B-r.Y.A)).2.getD k default==(x.2.getD 0 default).At)) (sizes ps (r.Y.B-r.Y.A)).1.length 0 false;have iff:foldN (λk s=>s||(((sizes ps (r.Y.B-r.Y.A)).1.getD k default==x.1.B-x.1.A)&&((sizes ps (r.Y.B-r.Y.A)).2.getD k default==(x.2.getD 0 default).At))) 0 (sizes ps (r.Y.B-r.Y.A)).1.length false=true↔okBd ps w r x:=by
        rw[fo];constructor
        ·rintro(h|⟨k,_,hk,h⟩)
         ·cases h
         ·rw[Bool.and_eq_true,beq_iff_eq,beq_iff_eq] at h;refine⟨c1,k,by omega,h.1,?_⟩;rw[e2,h.2]
          congr 1
          have:∀n:Node,n.Kind=1->n=⟨1,n.At⟩:=λn hn=>by obtain⟨a,b⟩:=n;simp only at hn;rw[hn]
          exact this _ c3
        ·rintro⟨_,k,hk,h1,h2⟩;refine .inr ⟨k,Nat.zero_le _,by omega,?_⟩;rw[Bool.and_eq_true,beq_iff_eq,beq_iff_eq];exact⟨h1,by rw[h2];rfl⟩
       by_cases c4:okBd ps w r x
       ·rw[iff.2 c4,if_pos c4];rfl
       ·have:foldN (λk s=>s||(((sizes ps (r.Y.B-r.Y.A)).1.getD k default==x.1.B-x.1.A)&&((sizes ps (r.Y.B-r.Y.A)).2.getD k default==(x.2.getD 0 default).At))) 0 (sizes ps (r.Y.B-r.Y.A)).1.length false=false:=by
         rw[<-Bool.not_eq_true];exact λh=>c4 (iff.1 h)
        rw[this,if_neg c4];rfl
      ·rw[show((x.2.getD 0 default).Kind !=1)=true by rw[bne_iff_ne];exact c3,cond_true,if_neg];rintro⟨_,k,_,_,h2⟩;rw[h2] at c3;exact c3 rfl
     ·rw[show(((x.2.length:Nat):Int) !=1)=true by rw[bne_iff_ne];omega,cond_true,if_neg];rintro⟨_,k,_,_,h2⟩;rw[h2] at c2;exact c2 rfl
    ·rw[show((x.1.A-r.X.A) % w.Pitch !=0)=true by rw[bne_iff_ne];exact c1,cond_true,if_neg];exact λh=>c1 h.1)
   (λn=>by rw[jN,List.length_map,decide_eq_false (by omega)];rfl)
  rw[lf];by_cases hall:∀x∈L,okBd ps w r x
  ·rw[UM.2 λx hx=>by rw[if_pos (hall x hx)]];exact⟨true,rfl,Iff.intro (λ_=>⟨c0,hall⟩) λ_=>rfl⟩
  ·have:findE (λx=>if okBd ps w r x then none else some false) L= .inl false:=by
    have gen:∀M:List Pt,¬(∀x∈M,okBd ps w r x)->findE (λx=>if okBd ps w r x then none else some false) M= .inl false:=by
     intro M
     induction M with
     |nil=>intro h;exact absurd (λx hx=>by cases hx) h
     |cons a M ih=>
      intro h;rw[findE];by_cases ca:okBd ps w r a
      ·rw[if_pos ca];exact ih λhh=>h λx hx=>(List.mem_cons.1 hx).elim (λe=>e▸ca) (hh x)
      ·rw[if_neg ca]
    exact gen L hall
   rw[this];exact⟨false,rfl,Iff.intro (λh=>by cases h) λh=>absurd h.2 hall⟩
where
 rowB_ge {axis kerf B:Int}:∀(L:List Pt) (e:Int),goodL kerf B e L->(∀x∈L,True)->L.length<=(rowB axis kerf B e L).1.length+1
  |[],_,_,_=>Nat.zero_le _
  |x::L,e,g,h=>by
   rw[TS];by_cases c:x.1.B<B
   ·have g4:=g.2.2.2;rw[if_pos c] at g4;rw[if_pos c];have:=rowB_ge (axis:=axis) L _ g4 λy hy=>trivial;simp only[List.length_cons,List.length_append];omega
   ·have g4:=g.2.2.2;rw[if_neg c] at g4;subst g4;simp only[List.length_cons,List.length_nil];omega
end Go.SL.Saw

namespace Go.SL.Saw
variable {l :List qA} {ds:List Defect} {ps:List Product} {w:Saw} {t:Rates} {F r:Rect}
theorem qId {axis kerf B:Int} (ha:ripB axis=true):∀(L:List Pq) (e:Int),(∀x∈L,BR x.2)->BR (rowT axis kerf B e L)
 |[],e,_=>rfl
 |x::L,e,h=>by
  have h1:=h x List.mem_cons_self;have h2:=qId (axis:=axis) (kerf:=kerf) (B:=B) ha L (imin (x.1.B+kerf) B) λy hy=>h y (List.mem_cons_of_mem _ hy);have inner:BR (if x.1.B<B then .rip ⟨axis,x.1.B⟩ x.2 (rowT axis kerf B (imin (x.1.B+kerf) B) L) else x.2):=by
   split
   ·exact⟨ha,h1,h2⟩
   ·exact h1
  unfold rowT;split
  ·exact⟨ha,rfl,inner⟩
  ·exact inner
def trB (L:List Pt):List Pq:=L.map λx=>(x.1,T.leaf (x.2.getD 0 default))
theorem trB_pt {L:List Pt} (h:∀x∈L,x.2.length=1):(trB L).map ptP=L:=by
 unfold trB;rw[List.map_map]
 conv=>rhs;rw[<-List.map_id L]
 apply List.map_congr_left;intro x hx;have hl:=h x hx;obtain⟨s,n⟩:=x;show(s,[n.getD 0 default])=(s,n)
 match n,hl with
 |[a],_=>rfl
theorem qSl {x:Pt} (h:okBd ps w r x):x.2.length=1:=by obtain⟨_,k,_,_,e⟩:=h;rw[e];rfl
theorem strp_pt {l:List Node} (h:Strp ps w r l):okPt 3 l:=by
 obtain⟨_,L,g,ne,e,hx⟩:=h;have e1:=trB_pt λx hx'=>qSl (hx x hx');have e2:=qAW 2 w.Kerf r.X.B (trB L) r.X.A (by rw[e1];exact g);rw[e1] at e2;have e3:l=zB (rowT 2 w.Kerf r.X.B r.X.A (trB L)):=by rw[e2,e];rfl
 have hd:(l.getD 0 default).Kind=2\/(l.getD 0 default).Kind=1:=by
  rw[e];unfold rowN
  match L,ne,hx with
  |x::L,_,hx=>
   obtain⟨_,k,_,_,ex⟩:=hx x List.mem_cons_self;rw[TS];by_cases c:x.1.B<r.X.B
   ·rw[if_pos c];by_cases c2:x.1.A>r.X.A
    ·rw[if_pos c2];exact .inl rfl
    ·rw[if_neg c2];exact .inl rfl
   ·rw[if_neg c];by_cases c2:x.1.A>r.X.A
    ·rw[if_pos c2];exact .inl rfl
    ·rw[if_neg c2,ex];exact .inr rfl
 refine⟨_,?_,e3,by omega,by omega⟩;apply qId rfl;intro y hy;unfold trB at hy;obtain⟨x,hx',rfl⟩:=List.mem_map.1 hy;obtain⟨_,k,_,_,ex⟩:=hx x hx';show ripB ((x.2.getD 0 default).Kind)=false;rw[ex];rfl
def okSt (ps:List Product) (w:Saw) (F:Rect) (x:Pt):Prop:=(x.1.A-F.Y.A) % w.Pitch=0/\x.1.B-x.1.A∈hts ps/\Strp ps w ⟨F.X,x.1⟩ x.2
def Mem (ps:List Product) (w:Saw) (F:Rect) (l:List Node):Prop:=l.length<=127/\∃L:List Pt,goodL w.Kerf F.Y.B F.Y.A L/\l=rowN 3 w.Kerf F.Y L/\∀x∈L,okSt ps w F x
theorem qOL {x:Pt} (h:okSt ps w F x):okPt 3 x.2:=strp_pt h.2.2
theorem qOo (l:List Int) (a:Int) (hl:l.length<=1000000):∃v,ZA l a=some v/\(v=true↔a∈l):=by
 unfold ZA RC;have key:∀(d i n:Nat),i+d=l.length->d<n->∃u,yF l a n (i:Int)=some u/\(Sum.elim (λv=>decide (v≥0)) (λ_=>false) u=true↔a∈l.drop i):=by
  intro d
  induction d with
  |zero=>
   intro i n hi hn;obtain⟨n,rfl⟩:∃m,n=m+1:=⟨n-1,by omega⟩
   refine⟨.inr (),?_,?_⟩
   ·rw[yF,decide_eq_false (by omega)];rfl
   ·rw[List.drop_eq_nil_of_le (by omega)];simp
  |succ d ih=>
   intro i n hi hn;obtain⟨n,rfl⟩:∃m,n=m+1:=⟨n-1,by omega⟩
   rw[yF,decide_eq_true (by omega),qK (by omega) (by omega),qP (by omega),YP l i (by omega)];simp only[cond_true,Int.toNat_natCast];by_cases c:a=l.getD i default
   ·rw[show(a==l.getD i default)=true by rw[beq_iff_eq];exact c];exact⟨.inl (i:Int),rfl,λ_=>by rw[c];exact List.mem_cons_self,λ_=>by simp⟩
   ·rw[show(a==l.getD i default)=false by rw[beq_eq_false_iff_ne];exact c];obtain⟨u,e,hu⟩:=ih (i+1) n (by omega) (by omega);exact⟨u,e,hu.trans (by rw[List.mem_cons];exact⟨.inr,λh=>h.resolve_left c⟩)⟩
 obtain⟨u,e,hu⟩:=key l.length 0 FUEL (by omega) (by rw[FUEL_eq];omega);rw[List.drop_zero] at hu;rw[show((0:Nat):Int)=0 from rfl] at e;rw[e];cases u with
 |inl v=>exact⟨decide (v≥0),rfl,hu⟩
 |inr v=>exact⟨false,rfl,hu⟩
theorem qQa {axis kerf B:Int} (L:List Pt) (e:Int) (g:goodL kerf B e L):L.length<=(rowB axis kerf B e L).1.length+1:=qIu.rowB_ge L e g λ_ _=>trivial
theorem qIo {r:Rect}:yO r=some 0↔VR r:=by
 rw[SY];unfold VR;constructor
 ·intro h;have h:=Option.some.inj h;split at h
  ·cases h
  ·split at h
   ·cases h
   ·omega
 ·intro h;rw[if_neg (by omega),if_neg (by omega)]
open Classical in
theorem qQg (p:Pattern) (ps:List Product) (w:Saw):∃b,WV p ps w=some b/\(b=true↔zJ ps=0/\VW w ⟨0,0,0⟩/\VR p.Frame/\Mem ps w p.Frame p.Nodes):=by
 unfold WV;rw[MC,qEb];simp only[Option.bind_some];by_cases c1:zJ ps=0
 ·rw[show(zJ ps !=0)=false by rw[bne_eq_false_iff_eq];exact c1,cond_false];by_cases c2:GI w ⟨0,0,0⟩=0
  ·rw[show(GI w ⟨0,0,0⟩ !=0)=false by rw[bne_eq_false_iff_eq];exact c2,cond_false];have hw:=(UF w ⟨0,0,0⟩).1 c2;by_cases c3:VR p.Frame
   ·rw[qIo.2 c3];simp only[Option.bind_some,bne_self_eq_false];unfold RY;obtain⟨A,P,b,e,i1,i2⟩:=qQZ c3 (axis:=3) (.inr rfl) hw.kerf p.Nodes;have hs:=qLH c3 3;have ea:axS p.Frame 3=p.Frame.Y:=rfl;rw[ea] at i1 i2 hs;have hp:=hw.pitch;have hr':=c3;unfold VR at hr';rw[cond_false,e];simp only[Option.bind_some];cases b with
    |false=>
     refine⟨false,rfl,Iff.intro (λh=>by cases h) λh=>?_⟩;obtain⟨_,_,_,h1,L,g,eL,hx⟩:=h;have:=(i2 L g eL h1 λx hx'=>qOL (hx x hx')).1;cases this
    |true=>
     obtain⟨L,eA,eP,g,eL,hl⟩:=i1 rfl;subst eA;subst eP;have hLb:=qJq hw.kerf (by omega) g;have uniq:(zJ ps=0/\VW w ⟨0,0,0⟩/\VR p.Frame/\Mem ps w p.Frame p.Nodes)↔∀x∈L,okSt ps w p.Frame x:=by
      constructor
      ·rintro⟨_,_,_,h1,L',g',eL',hx⟩;obtain⟨_,q1,q2⟩:=i2 L' g' eL' h1 λx hx'=>qOL (hx x hx');have:L=L':=by
        have z:∀M:List Pt,M=(M.map Prod.fst).zip (M.map Prod.snd):=λM=>by
         induction M with
         |nil=>rfl
         |cons a M ih=>simp only[List.map_cons,List.zip_cons_cons];rw[<-ih]
        rw[z L,z L',q1,q2]
       subst this;exact hx
      ·intro hx;exact⟨c1,hw,c3,hl,L,g,eL,hx⟩
     rw[uniq,qDU];simp only[Bool.not_true,cond_false,Option.bind_some];have hLl:L.length<=100000:=by
      have:=qQa (axis:=3) L _ g;have e2:p.Nodes.length=(rowN 3 w.Kerf p.Frame.Y L).length:=by rw[<-eL]
      unfold rowN at e2;rw[List.length_append] at e2;omega
     have hh:=qJM ps;have lf:=KN L (λn x=>QN p ps w (L.map Prod.fst,L.map Prod.snd,true) (hts ps) n x) (λx=>if okSt ps w p.Frame x then none else some false) (by omega)
      (λn i hi=>by
       generalize ex:L.getD i default=x;have hxb:=hLb x (by rw[<-ex];exact wL hi);have hxa:(L.map Prod.fst).getD i default=x.1:=by rw[YQ.getD_map'' Prod.fst hi,ex]
       have hxc:(L.map Prod.snd).getD i default=x.2:=by rw[YQ.getD_map'' Prod.snd hi,ex]
       rw[QN];simp only[Int.toNat_natCast,hxa,List.length_map];unfold NH;simp only[Int.toNat_natCast,hxa,hxc,List.length_map];rw[decide_eq_true (by omega),qK (i:=(i:Int)) (n:=L.length) (by omega) (by omega),nz_t (by omega),qF (n:=x.1.A-p.Frame.Y.A) (by omega) (by omega),qF (n:=x.1.B-x.1.A) (by omega) (by omega),Int.tmod_eq_emod_of_nonneg (by omega),qP (by omega)];simp only[cond_true];by_cases k1:(x.1.A-p.Frame.Y.A) % w.Pitch=0
       ·rw[show((x.1.A-p.Frame.Y.A) % w.Pitch !=0)=false by rw[bne_eq_false_iff_eq];exact k1,cond_false];obtain⟨v,ev,hv⟩:=qOo (hts ps) (x.1.B-x.1.A) (by omega);rw[ev];simp only[Option.bind_some];obtain⟨b,eb,hb⟩:=qIu (r:=⟨p.Frame.X,x.1⟩) (by unfold VR;simp only;omega) hw ps x.2;rw[eb];simp only[Option.bind_some];cases v with
        |false=>
         rw[Bool.not_false,cond_true,if_neg];rintro⟨_,h2,_⟩;have:=hv.2 h2;cases this
        |true=>
         rw[Bool.not_true,cond_false];cases b with
         |false=>
          rw[Bool.not_false,cond_true,if_neg];rintro⟨_,_,h3⟩;have:=hb.2 h3;cases this
         |true=>
          rw[Bool.not_true,cond_false,if_pos ⟨k1,hv.1 rfl,hb.1 rfl⟩]
       ·rw[show((x.1.A-p.Frame.Y.A) % w.Pitch !=0)=true by rw[bne_iff_ne];exact k1,cond_true,if_neg];exact λh=>k1 h.1)
      (λn=>by rw[QN,List.length_map,decide_eq_false (by omega)];rfl)
     rw[lf];by_cases hall:∀x∈L,okSt ps w p.Frame x
     ·rw[UM.2 λx hx=>by rw[if_pos (hall x hx)]];exact⟨true,rfl,Iff.intro (λ_=>hall) λ_=>rfl⟩
     ·have:findE (λx=>if okSt ps w p.Frame x then none else some false) L= .inl false:=by
       have gen:∀M:List Pt,¬(∀x∈M,okSt ps w p.Frame x)->findE (λx=>if okSt ps w p.Frame x then none else some false) M= .inl false:=by
        intro M
        induction M with
        |nil=>intro h;exact absurd (λx hx=>by cases hx) h
        |cons a M ih=>
         intro h;rw[findE];by_cases ca:okSt ps w p.Frame a
         ·rw[if_pos ca];exact ih λhh=>h λx hx=>(List.mem_cons.1 hx).elim (λe=>e▸ca) (hh x)
         ·rw[if_neg ca]
       exact gen L hall
      rw[this];exact⟨false,rfl,Iff.intro (λh=>by cases h) λh=>absurd h hall⟩
   ·obtain⟨n,en,hn⟩:∃n,yO p.Frame=some n/\n≠0:=by
     refine⟨_,SY p.Frame,λh=>c3 (qIo.1 ?_)⟩;rw[SY,h]
    rw[en];simp only[Option.bind_some];rw[show(n !=0)=true by rw[bne_iff_ne];exact hn];exact⟨false,rfl,Iff.intro (λh=>by cases h) λh=>absurd h.2.2.1 c3⟩
  ·rw[show(GI w ⟨0,0,0⟩ !=0)=true by rw[bne_iff_ne];exact c2];exact⟨false,rfl,Iff.intro (λh=>by cases h) λh=>absurd ((UF _ _).2 h.2.1) c2⟩
 ·rw[show(zJ ps !=0)=true by rw[bne_iff_ne];exact c1];exact⟨false,rfl,Iff.intro (λh=>by cases h) λh=>absurd h.1 c1⟩
theorem qQ6 (h:VE l ds ps r w t):∀x∈edgePts ps r (lineS l ds ps r w t),okBd ps w r x:=by
 have vl:=MN h;intro x hx;unfold edgePts wG at hx;obtain⟨y,hy,rfl⟩:=List.mem_map.1 hx;obtain⟨i,q,ey,hi,hq,hg⟩:=BP vl 3000 0 (by have:=vl.len;omega) y hy;subst ey;have hq2:(q:Int) % w.Pitch=0:=by
  have e:gnAt (lineS l ds ps r w t) i q=JE l ds (ps.getD ((sizes ps (r.Y.B-r.Y.A)).2.getD i default).toNat default) r w t (szAt (lineS l ds ps r w t) i) q:=by
   unfold gnAt;show((SZ l ds ps r w t (r.Y.B-r.Y.A)).getD i default).getD q default=_;unfold SZ;rw[zO _ (show i<(sizes ps (r.Y.B-r.Y.A)).1.length from hi)];unfold VJ;rw[zO _ (by unfold szAt at hq;simp only[lineS] at hq;omega)];rfl
  rw[e] at hg;unfold JE at hg;by_cases c:(q:Int) % w.Pitch=0
  ·exact c
  ·rw[if_neg c] at hg;exact absurd (show(-1:Int)<0 by omega) hg
 have hsz:(lineS l ds ps r w t).Sizes=(sizes ps (r.Y.B-r.Y.A)).1:=rfl;refine⟨?_,i,hi,?_,?_⟩
 ·show(r.X.A+(q:Int)-r.X.A) % w.Pitch=0;rw[show r.X.A+(q:Int)-r.X.A=q by omega];exact hq2
 ·show _=r.X.A+((q:Int)+(lineS l ds ps r w t).Sizes.getD ((i:Int)).toNat default)-(r.X.A+q);rw[hsz,Int.toNat_natCast];omega
 ·show[(⟨1,(sizes ps (r.Y.B-r.Y.A)).2.getD ((i:Int)).toNat default⟩:Node)]=_;rw[Int.toNat_natCast]
theorem qRt (h:VE l ds ps F w t) (hn:(XY l ds ps F w t).length<=127):Mem ps w F (XY l ds ps F w t):=by
 have vl:=ME h;have ln:=vl.len;refine⟨hn,WE l ds ps F w t,qFL h _,rfl,λx hx=>?_⟩;unfold WE at hx;obtain⟨y,hy,rfl⟩:=List.mem_map.1 hx;obtain⟨i,q,ey,hi,hq,hg⟩:=BP vl 3000 0 (by omega) y hy;subst ey;have hi':i<(hts ps).length:=hi;have hq':(q:Int)+(hts ps).getD i default<=hei F:=by
  have:szAt (qZ l ds ps F w t) i=(hts ps).getD i default:=rfl;have:(qZ l ds ps F w t).Len=hei F:=rfl;omega
 rw[qNj l ds ps F w t hi' hq'] at hg;obtain⟨ve,e0,_,e2,e3⟩:=qG0 h hi' hq' hg;have est:stR ps F ⟨(i:Int),(q:Int)⟩=⟨F.X,⟨F.Y.A+q,F.Y.A+(q+(hts ps).getD i default)⟩⟩:=by unfold stR strR;simp only[Int.toNat_natCast]
 have ep:ptOf (qZ l ds ps F w t) F.Y.A (stN l ds ps F w t) ⟨(i:Int),(q:Int)⟩=(⟨F.Y.A+q,F.Y.A+(q+(hts ps).getD i default)⟩,(stG l ds ps F w t ((hts ps).getD i default) q).2):=by
  unfold ptOf stN;simp only[Int.toNat_natCast];rfl
 rw[ep];refine⟨?_,?_,?_⟩
 ·show(F.Y.A+(q:Int)-F.Y.A) % w.Pitch=0;rw[show F.Y.A+(q:Int)-F.Y.A=q by omega];exact e3
 ·show F.Y.A+((q:Int)+(hts ps).getD i default)-(F.Y.A+q)∈hts ps;rw[show F.Y.A+((q:Int)+(hts ps).getD i default)-(F.Y.A+q)=(hts ps).getD i default by omega];exact wL hi'
 ·simp only;rw[<-est];have hle:=(stG_b l ds ps F w t ((hts ps).getD i default) q).2;have hrow:(stG l ds ps F w t ((hts ps).getD i default) q).2=rowN 2 w.Kerf (stR ps F ⟨(i:Int),(q:Int)⟩).X (edgePts ps (stR ps F ⟨(i:Int),(q:Int)⟩) (lineS l ds ps (stR ps F ⟨(i:Int),(q:Int)⟩) w t)):=by
   rw[e2,SD ve];rfl
  refine⟨hle,edgePts ps (stR ps F ⟨(i:Int),(q:Int)⟩) (lineS l ds ps (stR ps F ⟨(i:Int),(q:Int)⟩) w t),?_,?_,hrow,qQ6 ve⟩
  ·rw[<-qG3];exact qB0 ve
  ·intro hne;rw[hne] at hrow;have hb:hasB (stG l ds ps F w t ((hts ps).getD i default) q).2=true:=by
    have:=qRP hg;unfold stG at hg⊢;by_cases c:(q:Int) % w.Pitch=0
    ·rw[if_pos c] at hg⊢;by_cases c1:(wT l ds ps (strR F q (q+(hts ps).getD i default)) w t).2.2=0/\hasB (wT l ds ps (strR F q (q+(hts ps).getD i default)) w t).1=true
     ·rw[if_pos c1];exact c1.2
     ·rw[if_neg c1] at hg;simp at hg
    ·rw[if_neg c] at hg;simp at hg
   rw[hrow] at hb;cases hb
theorem qGA (a:Law24_Given):NA (some true) a=some true:=by
 unfold NA;obtain⟨b,e⟩:=qR1 a;rw[e];simp only[Option.bind_some];cases b with
 |false=>rfl
 |true=>
  simp only[Bool.not_true,cond_false];rw[qQJ];simp only[Option.bind_some];by_cases c:(PI a.Solid a.Defects a.Products a.Frame a.Saw a.Rates).2.2=0
  ·have c':((PI a.Solid a.Defects a.Products a.Frame a.Saw a.Rates).2.2 !=0)=false:=by simpa using c
   obtain⟨h,hn,er⟩:=qRN c;have vy:=plan_VY h hn;rw[c',cond_false,er];simp only[beq_self_eq_true,Bool.and_self,cond_true];rw[qGF,vy.pat];simp only[Option.bind_some,beq_self_eq_true,cond_true];obtain⟨b,eb,hb⟩:=qQg ⟨a.Frame,XY a.Solid a.Defects a.Products a.Frame a.Saw a.Rates⟩ a.Products a.Saw;rw[eb,hb.2 ⟨h.pr,⟨h.vw.kerf,h.vw.trim,h.vw.pitch,h.vw.step,by simp,by simp,by simp⟩,h.vr,qRt h hn⟩];rfl
  ·have c':((PI a.Solid a.Defects a.Products a.Frame a.Saw a.Rates).2.2 !=0)=true:=by simpa using c
   have hz:(PI a.Solid a.Defects a.Products a.Frame a.Saw a.Rates).1=⟨⟨⟨0,0⟩,⟨0,0⟩⟩,[]⟩/\(PI a.Solid a.Defects a.Products a.Frame a.Saw a.Rates).2.1=0:=by
    unfold PI at c⊢;split
    ·rename_i h1;rw[if_pos h1] at c;split
     ·rename_i h2;rw[if_pos h2] at c;exact absurd rfl c
     ·exact⟨rfl,rfl⟩
    ·exact⟨rfl,rfl⟩
   rw[c',hz.1,hz.2,cond_true];rfl
end Go.SL.Saw

namespace Go.SL.Saw
def gS :List qA:=[⟨3000,⟨-10,List.replicate 20 ⟨-100,100⟩⟩⟩]
def gP :List Product:=[⟨⟨#[112,108,97,110,107]⟩,40,100,50,0,[2000],[70]⟩]
def gW :Saw:=⟨4,5,5,500⟩
def g0 :Rates:=⟨0,0,0⟩
def gF (h:Int):Rect:=⟨⟨-100,10⟩,⟨0,h⟩⟩
def gN :List Node:=[⟨2,5⟩,⟨1,0⟩,⟨0,0⟩]
def LS :Line:=⟨110,4,1,[105],[[70000000,-1,-1,-1,-1,70000000]],List.replicate 110 0,List.replicate 110 0⟩
def LP (h n:Nat):Line:=⟨h,4,1,[42,105],[(List.range n).map (λp=>if p % 5=0 then 70000000 else-1),[]],List.replicate h 0,List.replicate h 0⟩
theorem gain_k :(List.range 12).all (λk=>decide (gainS gS [] (gP.getD 0 default) ⟨⟨-100,5⟩,⟨5*(k:Int),5*(k:Int)+42⟩⟩ gW g0=70000000)&&decide (gainS gS [] (gP.getD 0 default) ⟨⟨-95,10⟩,⟨5*(k:Int),5*(k:Int)+42⟩⟩ gW g0=70000000))=true:=by kernel_rfl
theorem qKe :sizes gP 42=([105],[0]):=by kernel_rfl
theorem qI0 :hts gP=[42,105]:=by kernel_rfl
theorem qOV :chkE gS [] gP (gF 97) gW g0=0:=by
 have e:UO gS [] gP (gF 97) gW g0=some 0:=by kernel_rfl
 rw[qBx] at e;exact Option.some.inj e
theorem qOW :chkE gS [] gP (gF 96) gW g0=0:=by
 have e:UO gS [] gP (gF 96) gW g0=some 0:=by kernel_rfl
 rw[qBx] at e;exact Option.some.inj e
end Go.SL.Saw

namespace Go.SL.Saw
theorem cut_S :ZG LS=some ([⟨0,0⟩],70000000,0):=by kernel_rfl
end Go.SL.Saw

namespace Go.SL.Saw
theorem cut_97 :ZG (LP 97 56)=some ([⟨0,0⟩,⟨0,55⟩],140000000,0):=by kernel_rfl
end Go.SL.Saw

namespace Go.SL.Saw
theorem cut_96 :ZG (LP 96 55)=some ([⟨0,0⟩],70000000,0):=by kernel_rfl
end Go.SL.Saw

namespace Go.SL.Saw
theorem strip_g (h:Int) (p:Nat):strR (gF h) (p:Int) ((p:Int)+42)=⟨⟨-100,10⟩,⟨(p:Int),(p:Int)+42⟩⟩:=by
 unfold strR gF;simp only[Int.zero_add]
theorem qRf {k:Nat} (hk:k<12):lineS gS [] gP ⟨⟨-100,10⟩,⟨((5*k:Nat):Int),((5*k:Nat):Int)+42⟩⟩ gW g0=LS:=by
 have hz:(((5*k:Nat):Int)+42)-((5*k:Nat):Int)=42:=by omega
 have gk:=List.all_eq_true.1 gain_k k (List.mem_range.2 hk);rw[Bool.and_eq_true,decide_eq_true_eq,decide_eq_true_eq] at gk;have ek:((5*k:Nat):Int)=5*(k:Int):=by omega
 unfold lineS;have hw:wid ⟨⟨-100,10⟩,⟨((5*k:Nat):Int),((5*k:Nat):Int)+42⟩⟩=110:=rfl;simp only[hz,qKe,hw];have hg:SZ gS [] gP ⟨⟨-100,10⟩,⟨((5*k:Nat):Int),((5*k:Nat):Int)+42⟩⟩ gW g0 42=[[70000000,-1,-1,-1,-1,70000000]]:=by
  unfold SZ;rw[qKe];show[VJ gS [] (gP.getD 0 default) ⟨⟨-100,10⟩,⟨((5*k:Nat):Int),((5*k:Nat):Int)+42⟩⟩ gW g0 105]=_;unfold VJ;rw[hw];show[[JE _ _ _ _ _ _ _ 0,JE _ _ _ _ _ _ _ 1,JE _ _ _ _ _ _ _ 2,JE _ _ _ _ _ _ _ 3,JE _ _ _ _ _ _ _ 4,JE _ _ _ _ _ _ _ 5]]=_;have a0:JE gS [] (gP.getD 0 default) ⟨⟨-100,10⟩,⟨((5*k:Nat):Int),((5*k:Nat):Int)+42⟩⟩ gW g0 105 0=70000000:=by
   rw[ek];exact gk.1
  have a5:JE gS [] (gP.getD 0 default) ⟨⟨-100,10⟩,⟨((5*k:Nat):Int),((5*k:Nat):Int)+42⟩⟩ gW g0 105 5=70000000:=by
   rw[ek];exact gk.2
  rw[a0,a5];rfl
 rw[hg];have hz2:∀f:Nat->Int,(List.range (110:Int).toNat).map (λx=>g0.Chip*f x)=List.replicate 110 0:=by
  intro f;have:(λx=>g0.Chip*f x)=λ_=>(0:Int):=by funext x;show 0*f x=0;rw[Int.zero_mul]
  rw[this,List.map_const'];rfl
 have hz3:∀f:Nat->Int,(List.range (110:Int).toNat).map (λx=>g0.Dust*f x)=List.replicate 110 0:=by
  intro f;have:(λx=>g0.Dust*f x)=λ_=>(0:Int):=by funext x;show 0*f x=0;rw[Int.zero_mul]
  rw[this,List.map_const'];rfl
 rw[hz2,hz3];rfl
theorem qJa :VE gS [] gP (gF 97) gW g0:=PK.1 qOV
theorem qNv :VE gS [] gP (gF 96) gW g0:=PK.1 qOW
theorem edge_g {h:Int} (hv:VE gS [] gP (gF h) gW g0) {k:Nat} (hk:k<12) (hh:5*(k:Int)+42<=h):wT gS [] gP (strR (gF h) ((5*k:Nat):Int) (((5*k:Nat):Int)+42)) gW g0=(gN,70000000,0):=by
 have ve:=qNC hv (p:=((5*k:Nat):Int)) (q:=((5*k:Nat):Int)+42) (by omega) (by omega) (by unfold hei gF;simp only;omega);rw[strip_g] at ve⊢;unfold wT;rw[if_pos (PK.2 ve),qRf hk];have vl:=MN ve;rw[qRf hk] at vl;have cb:=EC vl;rw[cut_S] at cb;have cb':=Prod.mk.inj (Option.some.inj cb);have c1:wG LS=[⟨0,0⟩]:=cb'.1.symm;have c2:(bst LS 0).value=70000000:=(Prod.mk.inj cb'.2).1.symm;unfold qF8 edgePts;simp only;have hz:(((5*k:Nat):Int)+42)-((5*k:Nat):Int)=42:=by omega
 rw[hz,c1,c2];have e:rowN 2 LS.Kerf ⟨-100,10⟩ (List.map (ptOf LS (-100) (bdN gP 42)) [⟨0,0⟩])=gN:=by
  unfold bdN;rw[qKe];rfl
 rw[e];rfl
theorem qLK {h:Int} (hv:VE gS [] gP (gF h) gW g0) {p:Nat} (hp:p<56) (hh:(p:Int)+42<=h):stG gS [] gP (gF h) gW g0 42 p=if p % 5=0 then(70000000,gN) else(-1,[]):=by
 unfold stG;by_cases c:p % 5=0
 ·obtain⟨k,rfl⟩:∃k,p=5*k:=⟨p/5,by omega⟩
  have c':((5*k:Nat):Int) % gW.Pitch=0:=by show((5*k:Nat):Int) % 5=0;omega
  rw[if_pos c',if_pos c,edge_g hv (by omega) (by omega)];rw[if_pos ⟨rfl,rfl⟩]
 ·have c':¬((p:Nat):Int) % gW.Pitch=0:=by show¬((p:Nat):Int) % 5=0;omega
  rw[if_neg c',if_neg c]
theorem qPf {h n:Nat} (hn:n+41=h) (hn2:n<=56) (h0:h<=104) (hv:VE gS [] gP (gF h) gW g0):qZ gS [] gP (gF h) gW g0=LP h n:=by
 have hh:hei (gF (h:Int))=(h:Int):=by unfold hei gF;simp
 unfold qZ LP;rw[hh,qI0];have r0:nRow (gF h) 42=n:=by unfold nRow;rw[hh];omega
 have r1:nRow (gF h) 105=0:=by unfold nRow;rw[hh];omega
 have hz2:∀f:Nat->Int,(List.range ((h:Int)).toNat).map (λx=>g0.Chip*f x)=List.replicate h 0:=by
  intro f;have:(λx=>g0.Chip*f x)=λ_=>(0:Int):=by funext x;show 0*f x=0;rw[Int.zero_mul]
  rw[this,List.map_const',Int.toNat_natCast,List.length_range]
 have hz3:∀f:Nat->Int,(List.range ((h:Int)).toNat).map (λx=>g0.Dust*f x)=List.replicate h 0:=by
  intro f;have:(λx=>g0.Dust*f x)=λ_=>(0:Int):=by funext x;show 0*f x=0;rw[Int.zero_mul]
  rw[this,List.map_const',Int.toNat_natCast,List.length_range]
 rw[hz2,hz3];have hg:(List.range ([42,105]:List Int).length).map (λj=>(List.range (nRow (gF h) (([42,105]:List Int).getD j default))).map (λp=>(stG gS [] gP (gF h) gW g0 (([42,105]:List Int).getD j default) p).1))=[(List.range n).map (λp=>if p % 5=0 then 70000000 else-1),[]]:=by
  show[(List.range (nRow (gF h) 42)).map (λp=>(stG gS [] gP (gF h) gW g0 42 p).1),(List.range (nRow (gF h) 105)).map (λp=>(stG gS [] gP (gF h) gW g0 105 p).1)]=_;rw[r0,r1]
  congr 1
  apply List.map_congr_left;intro p hp;have hp':=List.mem_range.1 hp;rw[qLK hv (by omega) (by omega)];split<;>rfl
 rw[hg];rfl
theorem qRR :TR gS [] gP (gF 97) gW g0=some (⟨gF 97,[⟨3,42⟩,⟨2,5⟩,⟨1,0⟩,⟨0,0⟩,⟨3,51⟩,⟨0,0⟩,⟨2,5⟩,⟨1,0⟩,⟨0,0⟩]⟩,140000000,0):=by
 have el:=qPf (h:=97) (n:=56) (by omega) (by omega) (by omega) qJa;have el':qZ gS [] gP (gF 97) gW g0=LP 97 56:=el;have vl:=ME qJa;rw[el'] at vl;have cb:=EC vl;rw[cut_97] at cb;have cb':=Prod.mk.inj (Option.some.inj cb);have c1:wG (LP 97 56)=[⟨0,0⟩,⟨0,55⟩]:=cb'.1.symm;have c2:(bst (LP 97 56) 0).value=140000000:=(Prod.mk.inj cb'.2).1.symm;have n0:stN gS [] gP (gF 97) gW g0 ⟨0,0⟩=gN:=by
  unfold stN;rw[qI0];show(stG gS [] gP (gF 97) gW g0 42 0).2=_;rw[qLK qJa (by omega) (by omega)];rfl
 have n1:stN gS [] gP (gF 97) gW g0 ⟨0,55⟩=gN:=by
  unfold stN;rw[qI0];show(stG gS [] gP (gF 97) gW g0 42 55).2=_;rw[qLK qJa (by omega) (by omega)];rfl
 rw[qCX];unfold PI;rw[if_pos qOV];have en:XY gS [] gP (gF 97) gW g0=[⟨3,42⟩,⟨2,5⟩,⟨1,0⟩,⟨0,0⟩,⟨3,51⟩,⟨0,0⟩,⟨2,5⟩,⟨1,0⟩,⟨0,0⟩]:=by
  unfold XY WE;rw[el',c1];simp only[List.map_cons,List.map_nil,ptOf,n0,n1];rfl
 rw[en,el',c2];have e0:g0.Chip*(volT gS-wholeR gS (gF 97))=0:=by show 0*_=(0:Int);rw[Int.zero_mul]
 rw[e0];rfl
theorem qSo :∃p,TR gS [] gP (gF 96) gW g0=some (p,70000000,0):=by
 have el:=qPf (h:=96) (n:=55) (by omega) (by omega) (by omega) qNv;have el':qZ gS [] gP (gF 96) gW g0=LP 96 55:=el;have vl:=ME qNv;rw[el'] at vl;have cb:=EC vl;rw[cut_96] at cb;have cb':=Prod.mk.inj (Option.some.inj cb);have c1:wG (LP 96 55)=[⟨0,0⟩]:=cb'.1.symm;have c2:(bst (LP 96 55) 0).value=70000000:=(Prod.mk.inj cb'.2).1.symm;have n0:stN gS [] gP (gF 96) gW g0 ⟨0,0⟩=gN:=by
  unfold stN;rw[qI0];show(stG gS [] gP (gF 96) gW g0 42 0).2=_;rw[qLK qNv (by omega) (by omega)];rfl
 rw[qCX];unfold PI;rw[if_pos qOW];have en:XY gS [] gP (gF 96) gW g0=[⟨3,42⟩,⟨2,5⟩,⟨1,0⟩,⟨0,0⟩,⟨0,0⟩]:=by
  unfold XY WE;rw[el',c1];simp only[List.map_cons,List.map_nil,ptOf,n0];rfl
 rw[en,el',c2];have e0:g0.Chip*(volT gS-wholeR gS (gF 96))=0:=by show 0*_=(0:Int);rw[Int.zero_mul]
 rw[e0];exact⟨_,rfl⟩
theorem qMM (h:Int):XV h=some ⟨gS,[],gP,gF h,gW,g0⟩:=by
 unfold XV;have e:GN FUEL 0 []=some (List.replicate 20 ⟨-100,100⟩):=by kernel_rfl
 rw[e];rfl
theorem mem_g :WV ⟨gF 97,[⟨3,42⟩,⟨2,5⟩,⟨1,0⟩,⟨0,0⟩,⟨3,51⟩,⟨0,0⟩,⟨2,5⟩,⟨1,0⟩,⟨0,0⟩]⟩ gP gW=some true:=by kernel_rfl
theorem frame_g :SV gS=some ⟨⟨-100,100⟩,⟨-100,100⟩⟩:=by kernel_rfl
theorem qOZ (g:Law24_Given) (r:Pattern×Int×Int) (h:TR g.Solid g.Defects g.Products g.Frame g.Saw g.Rates=some r):ZE g=some (⟨r.1.Frame,r.1.Nodes⟩,r.2.1,r.2.2):=by
 unfold ZE;rw[h];rfl
def awB (fs:Int->Option Law24_Given) (fb:Law24_Given->Option (Pattern×Int×Int)) (fh:List Product->Option (List Int)) (ff:List qA->Option Rect) (fm:Pattern->List Product->Saw->Option Bool):Option Bool:=
 (fs 97).bind λv1=>
 (fb (Law24_Given.mk v1.Solid v1.Defects v1.Products v1.Frame v1.Saw v1.Rates)).bind λv3=>
 (fs 96).bind λv5=>
 (fb (Law24_Given.mk v5.Solid v5.Defects v5.Products v5.Frame v5.Saw v5.Rates)).bind λv7=>
 (fh v1.Products).bind λv9=>
 (ff v1.Solid).bind λv11=>
 bif v3.2.2==0 then
  bif v3.2.1==140000000 then
   bif v7.2.2==0 then
    bif v7.2.1==70000000 then
     bif ((v9.length:Nat):Int)==2 then
      bif inb 0 v9.length then
       bif (v9.getD ((0:Int).toNat) default)==42 then
        bif inb 1 v9.length then
         bif (v9.getD ((1:Int).toNat) default)==105 then
          bif (((v11.X.A==(-100))&&((v11.X.B==100)&&true))&&(((v11.Y.A==(-100))&&((v11.Y.B==100)&&true))&&true)) then
           bif ((v3.1.Nodes.length:Nat):Int)==9 then
            bif inb 0 v3.1.Nodes.length then
             bif ((((v3.1.Nodes.getD ((0:Int).toNat) default).Kind)==3)&&((((v3.1.Nodes.getD ((0:Int).toNat) default).At)==42)&&true)) then
              (fm (Pattern.mk v3.1.Frame v3.1.Nodes) v1.Products v1.Saw).bind λv26=>
              qS v26
             else
              qS false
            else none
           else
            qS false
          else
           qS false
         else
          qS false
        else none
       else
        qS false
      else none
     else
      qS false
    else
     qS false
   else
    qS false
  else
   qS false
 else
  qS false
theorem qSh {fs:Int->Option Law24_Given} {fb:Law24_Given->Option (Pattern×Int×Int)} {fh:List Product->Option (List Int)} {ff:List qA->Option Rect} {fm:Pattern->List Product->Saw->Option Bool} (g g':Law24_Given) (p p':Pattern) (s1:fs 97=some g) (s2:fs 96=some g') (b1:fb g=some (p,140000000,0)) (b2:fb g'=some (p',70000000,0))
  (hh:fh g.Products=some [42,105]) (hf:ff g.Solid=some ⟨⟨-100,100⟩,⟨-100,100⟩⟩) (hm:fm p g.Products g.Saw=some true) (hl:p.Nodes.length=9) (hn:p.Nodes.getD 0 default=⟨3,42⟩):awB fs fb fh ff fm=some true:=by
 unfold awB;rw[s1];simp only[Option.bind_some];rw[show(Law24_Given.mk g.Solid g.Defects g.Products g.Frame g.Saw g.Rates)=g from rfl,b1];simp only[Option.bind_some];rw[s2];simp only[Option.bind_some];rw[show(Law24_Given.mk g'.Solid g'.Defects g'.Products g'.Frame g'.Saw g'.Rates)=g' from rfl,b2];simp only[Option.bind_some];rw[hh];simp only[Option.bind_some];rw[hf];simp only[Option.bind_some,hl];rw[show((0:Int).toNat)=0 from rfl,hn,show(Pattern.mk p.Frame p.Nodes)=p from rfl,hm];rfl
theorem awake_B :YT=awB XV ZE JD SV WV:=rfl
theorem qNq :YT=some true:=by
 obtain⟨p,e96⟩:=qSo;exact awake_B.trans (qSh _ _ ⟨gF 97,[⟨3,42⟩,⟨2,5⟩,⟨1,0⟩,⟨0,0⟩,⟨3,51⟩,⟨0,0⟩,⟨2,5⟩,⟨1,0⟩,⟨0,0⟩]⟩ ⟨p.Frame,p.Nodes⟩ (qMM 97) (qMM 96) (qOZ ⟨gS,[],gP,gF 97,gW,g0⟩ _ qRR) (qOZ ⟨gS,[],gP,gF 96,gW,g0⟩ _ e96) ((qDU gP).trans (congrArg some qI0)) frame_g mem_g rfl rfl)
end Go.SL.Saw

namespace Go.SL.Saw
theorem qHn (a:Law24_Given) {w:Prop} (_:w):RE a=some true:=by
 rw[qER,qNq];exact qGA a
end Go.SL.Saw

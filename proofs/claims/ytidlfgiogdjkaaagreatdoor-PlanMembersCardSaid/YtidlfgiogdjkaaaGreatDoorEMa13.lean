/- Plans: members. -/
import Derived.Test.YtidlfgiogdjkaaaGreatDoorEMa12
set_option linter.unusedVariables false
set_option linter.unusedSimpArgs false
namespace Go.SL.Saw
variable {ps :List Product} {w:Saw} {t:Rates} {F r:Rect}
theorem qT8 (axis kerf:Int) (s:Span) (l:List Node):(prsL axis kerf s l).length<=l.length/\ndC (prsL axis kerf s l)<=(3+l.length)*l.length:=by
 have h:=qHf axis kerf s.B (l.length+1) s.A l;have hx:∀x∈prsL axis kerf s l,x.2.length<=l.length:=λx hx=>by
  unfold prsL at hx;rcases List.mem_append.1 hx with hx|hx
  ·exact h.2 x hx
  ·unfold qDe at hx;split at hx
   ·rw[List.mem_singleton] at hx;subst hx;simp only;omega
   ·cases hx
 have hn:(prsL axis kerf s l).length<=l.length:=by
  unfold prsL qDe;rw[List.length_append];split
  ·rename_i c;have:0<(prs axis kerf s.B (l.length+1) s.A l).2.2.length:=List.length_pos_iff.2 c.1;simp only[List.length_cons,List.length_nil];omega
  ·simp only[List.length_nil];omega
 refine⟨hn,?_⟩;have gen:∀L:List Pt,(∀x∈L,x.2.length<=l.length)->ndC L<=(3+l.length)*L.length:=by
  intro L
  induction L with
  |nil=>intro _;simp[ndC]
  |cons x L ih=>
   intro hh;have:=ih λy hy=>hh y (List.mem_cons_of_mem _ hy);have:=hh x List.mem_cons_self;have e:ndC (x::L)=3+x.2.length+ndC L:=by simp[ndC]
   rw[e,List.length_cons,Nat.mul_add];omega
 exact Nat.le_trans (gen _ hx) (Nat.mul_le_mul_left _ hn)
theorem qSO (hr:VR r) {axis kerf:Int} (ha:axis=2\/axis=3) (hk:0<=kerf/\kerf<=20) (l:List Node):∃A P b,IP r axis kerf l=some (A,P,b)/\
  (b=true->∃L:List Pt,A=L.map Prod.fst/\P=L.map Prod.snd/\goodL kerf (axS r axis).B (axS r axis).A L/\l=rowN axis kerf (axS r axis) L/\l.length<=127)
  /\(∀L:List Pt,goodL kerf (axS r axis).B (axS r axis).A L->l=rowN axis kerf (axS r axis) L->l.length<=127->(∀x∈L,okPt axis x.2)->b=true/\A=L.map Prod.fst/\P=L.map Prod.snd):=by
 unfold IP;by_cases hl:l.length<=127
 ·rw[decide_eq_false (by omega)];have e0:(bif axis==3 then XP r axis kerf l r.Y else XP r axis kerf l r.X)=XP r axis kerf l (axS r axis):=by rcases ha with rfl|rfl<;>rfl
  rw[cond_false,e0];have hs:=qDa hr axis;generalize hL:prsL axis kerf (axS r axis) l=L;obtain⟨p1,p2⟩:=qT8 axis kerf (axS r axis) l;rw[hL] at p1 p2;have p3:(3+l.length)*l.length<=130*127:=Nat.mul_le_mul (by omega) (by omega);have e1:XP r axis kerf l (axS r axis)=HA r axis kerf l (L.map Prod.fst) (L.map Prod.snd):=by
   unfold XP;rw[qFP axis kerf (axS r axis) (l.length+1) FUEL (axS r axis).A l [] [] (by omega) (by rw[FUEL_eq];omega) (by simp;omega) rfl];rw[<-hL];unfold prsL qDe;have pl:=(qHf axis kerf (axS r axis).B (l.length+1) (axS r axis).A l).1;generalize prs axis kerf (axS r axis).B (l.length+1) (axS r axis).A l=q at pl⊢;obtain⟨q1,qe,q2⟩:=q;simp only[Option.bind_some,List.nil_append] at pl⊢;unfold CH;cases q2 with
   |nil=>simp
   |cons y ys=>
    simp only[List.length_cons] at pl;rw[decide_eq_true (by simp only[List.length_cons];omega),qG (by omega) (by simp only[List.length_cons];omega)];simp only[cond_true];have ey:(y::ys).getD (0:Int).toNat default=y:=rfl;rw[ey];by_cases c:y.Kind=0
    ·rw[show(y.Kind !=0)=false by rw[bne_eq_false_iff_eq];exact c,if_neg (by simp[c])];simp
    ·rw[show(y.Kind !=0)=true by rw[bne_iff_ne];exact c,if_pos (by simp[c]),qN (by simp;omega) (by omega),qN (by simp;omega) (by omega)];simp
  rw[e1];obtain⟨q,hq,hi⟩:=Row_is hr ha hk (L:=L) (by omega) (by omega);have back:∀L':List Pt,goodL kerf (axS r axis).B (axS r axis).A L'->l=rowN axis kerf (axS r axis) L'->(∀x∈L',okPt axis x.2)->L'=L/\q=(l,0):=λL' g1 g2 g3=>by
   have:=qUr (s:=axS r axis) ha hk hs.1 (by omega) hs.2.1 g1 g3;rw[<-g2,hL] at this;subst this;rw[qKF hr ha hk (by omega) g1 (by omega),<-g2] at hq;unfold rowR at hq;rw[if_pos hl] at hq;exact⟨rfl,(Option.some.inj hq).symm⟩
  unfold HA;rw[hq];simp only[Option.bind_some];by_cases c:q.2=0
  ·obtain⟨i1,i2,i3⟩:=hi c;rw[show(q.2 !=0)=false by rw[bne_eq_false_iff_eq];exact c];obtain⟨v,ev,hv⟩:=qOL l q.1 (by omega);rw[ev];simp only[cond_false,Option.bind_some];unfold CG;cases v with
   |true=>
    refine⟨_,_,true,rfl,λ_=>⟨L,rfl,rfl,i1,?_,hl⟩,λL' g1 g2 _ g3=>?_⟩
    ·rw[hv.1 rfl,i2]
    ·obtain⟨b1,_⟩:=back L' g1 g2 g3;rw[b1];exact⟨rfl,rfl,rfl⟩
   |false=>
    refine⟨_,_,false,rfl,(λh=>by cases h),λL' g1 g2 _ g3=>?_⟩;obtain⟨_,b2⟩:=back L' g1 g2 g3;rw[b2] at hv;have:=hv.2 rfl;cases this
  ·rw[show(q.2 !=0)=true by rw[bne_iff_ne];exact c];refine⟨_,_,false,rfl,(λh=>by cases h),λL' g1 g2 _ g3=>?_⟩;obtain⟨_,b2⟩:=back L' g1 g2 g3;rw[b2] at c;exact absurd rfl c
 ·rw[decide_eq_true (by omega)];exact⟨[],[],false,rfl,(λh=>by cases h),λL _ _ h _=>absurd h hl⟩
theorem qD5 {kerf B:Int} (hk:0<=kerf/\kerf<=20):∀{L:List Pt} {e:Int},e<=B->goodL kerf B e L->∀x∈L,e<=x.1.A/\x.1.A<x.1.B/\x.1.B<=B
 |[],_,_,_,x,hx=>by cases hx
 |y::L,e,he,h,x,hx=>by
  obtain⟨h1,h2,h3,h4⟩:=h;rcases List.mem_cons.1 hx with rfl|hx
  ·exact⟨by omega,h1,h3⟩
  ·by_cases c:y.1.B<B
   ·rw[if_pos c] at h4;have mi:=imin_or (y.1.B+kerf) B;have:=qD5 hk (by omega) h4 x hx;omega
   ·rw[if_neg c] at h4;subst h4;cases hx
def okBd (ps:List Product) (w:Saw) (r:Rect) (x:Pt):Prop:=(x.1.A-r.X.A) % w.Pitch=0/\∃k,k<(sizes ps (r.Y.B-r.Y.A)).1.length/\(sizes ps (r.Y.B-r.Y.A)).1.getD k default=x.1.B-x.1.A/\x.2=[⟨1,(sizes ps (r.Y.B-r.Y.A)).2.getD k default⟩]
def Strp (ps:List Product) (w:Saw) (r:Rect) (l:List Node):Prop:=l.length<=127/\∃L:List Pt,goodL w.Kerf r.X.B r.X.A L/\L≠[]/\l=rowN 2 w.Kerf r.X L/\∀x∈L,okBd ps w r x
theorem qL1 {x:Pt} (h:okBd ps w r x):okPt 2 x.2:=by
 obtain⟨_,k,_,_,e⟩:=h;refine⟨.leaf ⟨1,_⟩,rfl,e,?_,?_⟩
 ·rw[e];exact(show(1:Int)≠0 by decide)
 ·rw[e];exact(show(1:Int)≠2 by decide)
theorem qJK (p:Nat->Bool):∀(m x:Nat) (s:Bool),foldN (λk s=>s||p k) x m s=true↔s=true\/∃k,x<=k/\k<x+m/\p k=true
 |0,x,s=>by
  unfold foldN;exact⟨λh=> .inl h,λh=>h.elim id fun⟨k,h1,h2,_⟩=>by omega⟩
 |m+1,x,s=>by
  unfold foldN;rw[qJK p m (x+1) _,Bool.or_eq_true];constructor
  ·rintro((h|h)|⟨k,h1,h2,h3⟩)
   ·exact .inl h
   ·exact .inr ⟨x,Nat.le_refl _,by omega,h⟩
   ·exact .inr ⟨k,by omega,by omega,h3⟩
  ·rintro(h|⟨k,h1,h2,h3⟩)
   ·exact .inl (.inl h)
   ·by_cases c:k=x
    ·subst c;exact .inl (.inr h3)
    ·exact .inr ⟨k,by omega,by omega,h3⟩
open Classical in
theorem qKI (hr:VR r) (hw:VW w t) (ps:List Product) (l:List Node):∃b,NF r ps w l=some b/\(b=true↔Strp ps w r l):=by
 obtain⟨A,P,b,e,i1,i2⟩:=qSO hr (axis:=2) (.inl rfl) hw.kerf l;have hs:=qDa hr 2;have hp:=hw.pitch;have ea:axS r 2=r.X:=rfl;rw[ea] at i1 i2 hs;have hr':=hr;unfold VR at hr';unfold NF;rw[e];simp only[Option.bind_some];cases b with
 |false=>
  refine⟨false,rfl,Iff.intro (λh=>by cases h) λh=>?_⟩;obtain⟨h1,L,g,_,eL,hx⟩:=h;have:=(i2 L g eL h1 λx hx'=>qL1 (hx x hx')).1;cases this
 |true=>
  obtain⟨L,eA,eP,g,eL,hl⟩:=i1 rfl;subst eA;subst eP;have hLb:=qD5 hw.kerf (by omega) g;have uniq:Strp ps w r l↔L≠[]/\∀x∈L,okBd ps w r x:=by
   constructor
   ·rintro⟨h1,L',g',ne,eL',hx⟩;obtain⟨_,q1,q2⟩:=i2 L' g' eL' h1 λx hx'=>qL1 (hx x hx');have:L=L':=by
     have z:∀M:List Pt,M=(M.map Prod.fst).zip (M.map Prod.snd):=λM=>by
      induction M with
      |nil=>rfl
      |cons a M ih=>simp only[List.map_cons,List.zip_cons_cons];rw[<-ih]
     rw[z L,z L',q1,q2]
    subst this;exact⟨ne,hx⟩
   ·rintro⟨ne,hx⟩;exact⟨hl,L,g,ne,eL,hx⟩
  rw[uniq];unfold BG;simp only[Bool.not_true,cond_false,List.length_map];by_cases c0:L=[]
  ·subst c0;exact⟨false,rfl,Iff.intro (λh=>by cases h) λh=>absurd rfl h.1⟩
  have c0':0<L.length:=List.length_pos_iff.2 c0;rw[show(((L.length:Nat):Int)==0)=false by rw[beq_eq_false_iff_ne];omega,cond_false,qD (n:=r.Y.B-r.Y.A) (by omega) (by omega),(qEZ _ _).1];simp only[Option.bind_some];have sl:=qEM (ps:=ps) (r.Y.B-r.Y.A);have sl3:(sizes ps (r.Y.B-r.Y.A)).1.length<=1000:=by
   unfold sizes;split
   ·simp
   ·rename_i hc;have:=VA (l:=ps) (by simpa using hc);have:=(qHs (l:=ps) (by simpa using hc) (r.Y.B-r.Y.A)).le;unfold sizes at this;rw[if_neg hc] at this;omega
  have hLl:L.length<=100000:=by
   have:=rowB_ge L r.X.A (axis:=2) (kerf:=w.Kerf) (B:=r.X.B) g (λx hx=>?_)
   ·have e2:l.length=(rowN 2 w.Kerf r.X L).length:=by rw[<-eL]
    unfold rowN at e2;rw[List.length_append] at e2;omega
   ·trivial
  have hL4:∀(x:Pt) (i:Nat),i<L.length->L.getD i default=x->x.2.length=1->wW (L.map Prod.fst,L.map Prod.snd,true) (sizes ps (r.Y.B-r.Y.A)) (i:Int) FUEL false 0=some (foldN (λk s=>s||(((sizes ps (r.Y.B-r.Y.A)).1.getD k default==x.1.B-x.1.A)&&((sizes ps (r.Y.B-r.Y.A)).2.getD k default==(x.2.getD 0 default).At))) 0 (sizes ps (r.Y.B-r.Y.A)).1.length false):=by
   intro x i hi ex h1;have hxb:=hLb x (by rw[<-ex];exact wK hi);have hxa:(L.map Prod.fst).getD i default=x.1:=by rw[yN.getD_map'' Prod.fst hi,ex]
   have hxc:(L.map Prod.snd).getD i default=x.2:=by rw[yN.getD_map'' Prod.snd hi,ex]
   have k:=zS (sizes ps (r.Y.B-r.Y.A)).1.length (λn (s:Bool) y=>wW (L.map Prod.fst,L.map Prod.snd,true) (sizes ps (r.Y.B-r.Y.A)) (i:Int) n s y) (λk s=>s||(((sizes ps (r.Y.B-r.Y.A)).1.getD k default==x.1.B-x.1.A)&&((sizes ps (r.Y.B-r.Y.A)).2.getD k default==(x.2.getD 0 default).At))) (λs=>s) (λ_ _=>True) 0 (by omega) (by omega)
    (λn k s hk _=>by
     refine⟨?_,trivial⟩;rw[wW,decide_eq_true (by omega),qG (by omega) (by omega)];unfold RK;simp only[Int.toNat_natCast,hxa,hxc,List.length_map];rw[qD (n:=x.1.B-x.1.A) (by omega) (by omega),qG (i:=(k:Int)) (n:=(sizes ps (r.Y.B-r.Y.A)).2.length) (by omega) (by omega),qG (i:=(i:Int)) (n:=L.length) (by omega) (by omega),qG (i:=0) (n:=x.2.length) (by omega) (by omega),qO (by omega)];simp only[cond_true];have e00:x.2.getD (0:Int).toNat default=x.2.getD 0 default:=rfl;rw[e00];cases s<;>cases (sizes ps (r.Y.B-r.Y.A)).1.getD k default==x.1.B-x.1.A<;>simp)
    (λn s _=>by rw[wW];simp) false trivial
   exact k.1
  have lf:=WD L (λn x=>jR r w (L.map Prod.fst,L.map Prod.snd,true) (sizes ps (r.Y.B-r.Y.A)) n x) (λx=>if okBd ps w r x then none else some false) (by omega)
   (λn i hi=>by
    generalize ex:L.getD i default=x;have hxb:=hLb x (by rw[<-ex];exact wK hi);have hxa:(L.map Prod.fst).getD i default=x.1:=by rw[yN.getD_map'' Prod.fst hi,ex]
    have hxc:(L.map Prod.snd).getD i default=x.2:=by rw[yN.getD_map'' Prod.snd hi,ex]
    rw[jR];simp only[Int.toNat_natCast,hxa,hxc,List.length_map];unfold RG;rw[decide_eq_true (by omega),qG (i:=(i:Int)) (n:=L.length) (by omega) (by omega),nz_t (by omega),qD (n:=x.1.A-r.X.A) (by omega) (by omega),Int.tmod_eq_emod_of_nonneg (by omega),qO (by omega)];simp only[cond_true];by_cases c1:(x.1.A-r.X.A) % w.Pitch=0
    ·rw[show((x.1.A-r.X.A) % w.Pitch !=0)=false by rw[bne_eq_false_iff_eq];exact c1,cond_false];by_cases c2:x.2.length=1
     ·rw[show(((x.2.length:Nat):Int) !=1)=false by rw[bne_eq_false_iff_eq];omega,cond_false,qG (i:=0) (n:=x.2.length) (by omega) (by omega),cond_true,hL4 x i hi ex c2];have e00:x.2.getD (0:Int).toNat default=x.2.getD 0 default:=rfl;rw[e00];have e2:x.2=[x.2.getD 0 default]:=by
       match hm:x.2,c2 with
       |[a],_=>rfl
      by_cases c3:(x.2.getD 0 default).Kind=1
      ·rw[show((x.2.getD 0 default).Kind !=1)=false by rw[bne_eq_false_iff_eq];exact c3,cond_false];simp only[Option.bind_some];have fo:=qJK (λk=>((sizes ps (r.Y.B-r.Y.A)).1.getD k default==x.1.B-x.1.A)&&((sizes ps (r.Y.B-r.Y.A)).2.getD k default==(x.2.getD 0 default).At)) (sizes ps (r.Y.B-r.Y.A)).1.length 0 false;have iff:foldN (λk s=>s||(((sizes ps (r.Y.B-r.Y.A)).1.getD k default==x.1.B-x.1.A)&&((sizes ps (r.Y.B-r.Y.A)).2.getD k default==(x.2.getD 0 default).At))) 0 (sizes ps (r.Y.B-r.Y.A)).1.length false=true↔okBd ps w r x:=by
        rw[fo];constructor
        ·rintro(h|⟨k,_,hk,h⟩)
         ·cases h
         ·rw[Bool.and_eq_true,beq_iff_eq,beq_iff_eq] at h;refine⟨c1,k,by omega,h.1,?_⟩;rw[e2,h.2]
          congr 1
          have:∀n:Node,n.Kind=1->n=⟨1,n.At⟩:=λn hn=>by obtain⟨a,b⟩:=n;simp only at hn;rw[hn]
          exact this _ c3
        ·rintro⟨_,k,hk,h1,h2⟩;refine .inr ⟨k,Nat.zero_le _,by omega,?_⟩;rw[Bool.and_eq_true,beq_iff_eq,beq_iff_eq];exact⟨h1,by rw[h2];rfl⟩
       by_cases c4:okBd ps w r x
       ·rw[iff.2 c4,if_pos c4];rfl
       ·have:foldN (λk s=>s||(((sizes ps (r.Y.B-r.Y.A)).1.getD k default==x.1.B-x.1.A)&&((sizes ps (r.Y.B-r.Y.A)).2.getD k default==(x.2.getD 0 default).At))) 0 (sizes ps (r.Y.B-r.Y.A)).1.length false=false:=by
         rw[<-Bool.not_eq_true];exact λh=>c4 (iff.1 h)
        rw[this,if_neg c4];rfl
      ·rw[show((x.2.getD 0 default).Kind !=1)=true by rw[bne_iff_ne];exact c3,cond_true,if_neg];rintro⟨_,k,_,_,h2⟩;rw[h2] at c3;exact c3 rfl
     ·rw[show(((x.2.length:Nat):Int) !=1)=true by rw[bne_iff_ne];omega,cond_true,if_neg];rintro⟨_,k,_,_,h2⟩;rw[h2] at c2;exact c2 rfl
    ·rw[show((x.1.A-r.X.A) % w.Pitch !=0)=true by rw[bne_iff_ne];exact c1,cond_true,if_neg];exact λh=>c1 h.1)
   (λn=>by rw[jR,List.length_map,decide_eq_false (by omega)];rfl)
  rw[lf];by_cases hall:∀x∈L,okBd ps w r x
  ·rw[XM.2 λx hx=>by rw[if_pos (hall x hx)]];exact⟨true,rfl,Iff.intro (λ_=>⟨c0,hall⟩) λ_=>rfl⟩
  ·have:findE (λx=>if okBd ps w r x then none else some false) L= .inl false:=by
    have gen:∀M:List Pt,¬(∀x∈M,okBd ps w r x)->findE (λx=>if okBd ps w r x then none else some false) M= .inl false:=by
     intro M
     induction M with
     |nil=>intro h;exact absurd (λx hx=>by cases hx) h
     |cons a M ih=>
      intro h;rw[findE];by_cases ca:okBd ps w r a
      ·rw[if_pos ca];exact ih λhh=>h λx hx=>(List.mem_cons.1 hx).elim (λe=>e▸ca) (hh x)
      ·rw[if_neg ca]
    exact gen L hall
   rw[this];exact⟨false,rfl,Iff.intro (λh=>by cases h) λh=>absurd h.2 hall⟩
where
 rowB_ge {axis kerf B:Int}:∀(L:List Pt) (e:Int),goodL kerf B e L->(∀x∈L,True)->L.length<=(rowB axis kerf B e L).1.length+1
  |[],_,_,_=>Nat.zero_le _
  |x::L,e,g,h=>by
   rw[JU];by_cases c:x.1.B<B
   ·have g4:=g.2.2.2;rw[if_pos c] at g4;rw[if_pos c];have:=rowB_ge (axis:=axis) L _ g4 λy hy=>trivial;simp only[List.length_cons,List.length_append];omega
   ·have g4:=g.2.2.2;rw[if_neg c] at g4;subst g4;simp only[List.length_cons,List.length_nil];omega
end Go.SL.Saw

namespace Go.SL.Saw
variable {l :List qB} {ds:List Defect} {ps:List Product} {w:Saw} {t:Rates} {F r:Rect}
theorem qLu {axis kerf B:Int} (ha:ripB axis=true):∀(L:List Pq) (e:Int),(∀x∈L,UW x.2)->UW (rowT axis kerf B e L)
 |[],e,_=>rfl
 |x::L,e,h=>by
  have h1:=h x List.mem_cons_self;have h2:=qLu (axis:=axis) (kerf:=kerf) (B:=B) ha L (imin (x.1.B+kerf) B) λy hy=>h y (List.mem_cons_of_mem _ hy);have inner:UW (if x.1.B<B then .rip ⟨axis,x.1.B⟩ x.2 (rowT axis kerf B (imin (x.1.B+kerf) B) L) else x.2):=by
   split
   ·exact⟨ha,h1,h2⟩
   ·exact h1
  unfold rowT;split
  ·exact⟨ha,rfl,inner⟩
  ·exact inner
def trB (L:List Pt):List Pq:=L.map λx=>(x.1,T.leaf (x.2.getD 0 default))
theorem trB_pt {L:List Pt} (h:∀x∈L,x.2.length=1):(trB L).map ptP=L:=by
 unfold trB;rw[List.map_map]
 conv=>rhs;rw[<-List.map_id L]
 apply List.map_congr_left;intro x hx;have hl:=h x hx;obtain⟨s,n⟩:=x;show(s,[n.getD 0 default])=(s,n)
 match n,hl with
 |[a],_=>rfl
theorem qUV {x:Pt} (h:okBd ps w r x):x.2.length=1:=by obtain⟨_,k,_,_,e⟩:=h;rw[e];rfl
theorem strp_pt {l:List Node} (h:Strp ps w r l):okPt 3 l:=by
 obtain⟨_,L,g,ne,e,hx⟩:=h;have e1:=trB_pt λx hx'=>qUV (hx x hx');have e2:=qER 2 w.Kerf r.X.B (trB L) r.X.A (by rw[e1];exact g);rw[e1] at e2;have e3:l=qQ (rowT 2 w.Kerf r.X.B r.X.A (trB L)):=by rw[e2,e];rfl
 have hd:(l.getD 0 default).Kind=2\/(l.getD 0 default).Kind=1:=by
  rw[e];unfold rowN
  match L,ne,hx with
  |x::L,_,hx=>
   obtain⟨_,k,_,_,ex⟩:=hx x List.mem_cons_self;rw[JU];by_cases c:x.1.B<r.X.B
   ·rw[if_pos c];by_cases c2:x.1.A>r.X.A
    ·rw[if_pos c2];exact .inl rfl
    ·rw[if_neg c2];exact .inl rfl
   ·rw[if_neg c];by_cases c2:x.1.A>r.X.A
    ·rw[if_pos c2];exact .inl rfl
    ·rw[if_neg c2,ex];exact .inr rfl
 refine⟨_,?_,e3,by omega,by omega⟩;apply qLu rfl;intro y hy;unfold trB at hy;obtain⟨x,hx',rfl⟩:=List.mem_map.1 hy;obtain⟨_,k,_,_,ex⟩:=hx x hx';show ripB ((x.2.getD 0 default).Kind)=false;rw[ex];rfl
def okSt (ps:List Product) (w:Saw) (F:Rect) (x:Pt):Prop:=(x.1.A-F.Y.A) % w.Pitch=0/\x.1.B-x.1.A∈hts ps/\Strp ps w ⟨F.X,x.1⟩ x.2
def Mem (ps:List Product) (w:Saw) (F:Rect) (l:List Node):Prop:=l.length<=127/\∃L:List Pt,goodL w.Kerf F.Y.B F.Y.A L/\l=rowN 3 w.Kerf F.Y L/\∀x∈L,okSt ps w F x
theorem qMi {x:Pt} (h:okSt ps w F x):okPt 3 x.2:=strp_pt h.2.2
theorem qQB (l:List Int) (a:Int) (hl:l.length<=1000000):∃v,ZB l a=some v/\(v=true↔a∈l):=by
 unfold ZB TS;have key:∀(d i n:Nat),i+d=l.length->d<n->∃u,yJ l a n (i:Int)=some u/\(Sum.elim (λv=>decide (v≥0)) (λ_=>false) u=true↔a∈l.drop i):=by
  intro d
  induction d with
  |zero=>
   intro i n hi hn;obtain⟨n,rfl⟩:∃m,n=m+1:=⟨n-1,by omega⟩
   refine⟨.inr (),?_,?_⟩
   ·rw[yJ,decide_eq_false (by omega)];rfl
   ·rw[List.drop_eq_nil_of_le (by omega)];simp
  |succ d ih=>
   intro i n hi hn;obtain⟨n,rfl⟩:∃m,n=m+1:=⟨n-1,by omega⟩
   rw[yJ,decide_eq_true (by omega),qG (by omega) (by omega),qO (by omega),jP l i (by omega)];simp only[cond_true,Int.toNat_natCast];by_cases c:a=l.getD i default
   ·rw[show(a==l.getD i default)=true by rw[beq_iff_eq];exact c];exact⟨.inl (i:Int),rfl,λ_=>by rw[c];exact List.mem_cons_self,λ_=>by simp⟩
   ·rw[show(a==l.getD i default)=false by rw[beq_eq_false_iff_ne];exact c];obtain⟨u,e,hu⟩:=ih (i+1) n (by omega) (by omega);exact⟨u,e,hu.trans (by rw[List.mem_cons];exact⟨.inr,λh=>h.resolve_left c⟩)⟩
 obtain⟨u,e,hu⟩:=key l.length 0 FUEL (by omega) (by rw[FUEL_eq];omega);rw[List.drop_zero] at hu;rw[show((0:Nat):Int)=0 from rfl] at e;rw[e];cases u with
 |inl v=>exact⟨decide (v≥0),rfl,hu⟩
 |inr v=>exact⟨false,rfl,hu⟩
theorem qTH {axis kerf B:Int} (L:List Pt) (e:Int) (g:goodL kerf B e L):L.length<=(rowB axis kerf B e L).1.length+1:=qKI.rowB_ge L e g λ_ _=>trivial
theorem qJ1 {r:Rect}:yO r=some 0↔VR r:=by
 rw[AE];unfold VR;constructor
 ·intro h;have h:=Option.some.inj h;split at h
  ·cases h
  ·split at h
   ·cases h
   ·omega
 ·intro h;rw[if_neg (by omega),if_neg (by omega)]
open Classical in
theorem qSP (p:Pattern) (ps:List Product) (w:Saw):∃b,JK p ps w=some b/\(b=true↔qY ps=0/\VW w ⟨0,0,0⟩/\VR p.Frame/\Mem ps w p.Frame p.Nodes):=by
 unfold JK;rw[SE,qE8];simp only[Option.bind_some];by_cases c1:qY ps=0
 ·rw[show(qY ps !=0)=false by rw[bne_eq_false_iff_eq];exact c1,cond_false];by_cases c2:YQ w ⟨0,0,0⟩=0
  ·rw[show(YQ w ⟨0,0,0⟩ !=0)=false by rw[bne_eq_false_iff_eq];exact c2,cond_false];have hw:=(JL w ⟨0,0,0⟩).1 c2;by_cases c3:VR p.Frame
   ·rw[qJ1.2 c3];simp only[Option.bind_some,bne_self_eq_false];unfold UX;obtain⟨A,P,b,e,i1,i2⟩:=qSO c3 (axis:=3) (.inr rfl) hw.kerf p.Nodes;have hs:=qDa c3 3;have ea:axS p.Frame 3=p.Frame.Y:=rfl;rw[ea] at i1 i2 hs;have hp:=hw.pitch;have hr':=c3;unfold VR at hr';rw[cond_false,e];simp only[Option.bind_some];cases b with
    |false=>
     refine⟨false,rfl,Iff.intro (λh=>by cases h) λh=>?_⟩;obtain⟨_,_,_,h1,L,g,eL,hx⟩:=h;have:=(i2 L g eL h1 λx hx'=>qMi (hx x hx')).1;cases this
    |true=>
     obtain⟨L,eA,eP,g,eL,hl⟩:=i1 rfl;subst eA;subst eP;have hLb:=qD5 hw.kerf (by omega) g;have uniq:(qY ps=0/\VW w ⟨0,0,0⟩/\VR p.Frame/\Mem ps w p.Frame p.Nodes)↔∀x∈L,okSt ps w p.Frame x:=by
      constructor
      ·rintro⟨_,_,_,h1,L',g',eL',hx⟩;obtain⟨_,q1,q2⟩:=i2 L' g' eL' h1 λx hx'=>qMi (hx x hx');have:L=L':=by
        have z:∀M:List Pt,M=(M.map Prod.fst).zip (M.map Prod.snd):=λM=>by
         induction M with
         |nil=>rfl
         |cons a M ih=>simp only[List.map_cons,List.zip_cons_cons];rw[<-ih]
        rw[z L,z L',q1,q2]
       subst this;exact hx
      ·intro hx;exact⟨c1,hw,c3,hl,L,g,eL,hx⟩
     rw[uniq,qE9];simp only[Bool.not_true,cond_false,Option.bind_some];have hLl:L.length<=100000:=by
      have:=qTH (axis:=3) L _ g;have e2:p.Nodes.length=(rowN 3 w.Kerf p.Frame.Y L).length:=by rw[<-eL]
      unfold rowN at e2;rw[List.length_append] at e2;omega
     have hh:=qHt ps;have lf:=WD L (λn x=>QT p ps w (L.map Prod.fst,L.map Prod.snd,true) (hts ps) n x) (λx=>if okSt ps w p.Frame x then none else some false) (by omega)
      (λn i hi=>by
       generalize ex:L.getD i default=x;have hxb:=hLb x (by rw[<-ex];exact wK hi);have hxa:(L.map Prod.fst).getD i default=x.1:=by rw[yN.getD_map'' Prod.fst hi,ex]
       have hxc:(L.map Prod.snd).getD i default=x.2:=by rw[yN.getD_map'' Prod.snd hi,ex]
       rw[QT];simp only[Int.toNat_natCast,hxa,List.length_map];unfold LI;simp only[Int.toNat_natCast,hxa,hxc,List.length_map];rw[decide_eq_true (by omega),qG (i:=(i:Int)) (n:=L.length) (by omega) (by omega),nz_t (by omega),qD (n:=x.1.A-p.Frame.Y.A) (by omega) (by omega),qD (n:=x.1.B-x.1.A) (by omega) (by omega),Int.tmod_eq_emod_of_nonneg (by omega),qO (by omega)];simp only[cond_true];by_cases k1:(x.1.A-p.Frame.Y.A) % w.Pitch=0
       ·rw[show((x.1.A-p.Frame.Y.A) % w.Pitch !=0)=false by rw[bne_eq_false_iff_eq];exact k1,cond_false];obtain⟨v,ev,hv⟩:=qQB (hts ps) (x.1.B-x.1.A) (by omega);rw[ev];simp only[Option.bind_some];obtain⟨b,eb,hb⟩:=qKI (r:=⟨p.Frame.X,x.1⟩) (by unfold VR;simp only;omega) hw ps x.2;rw[eb];simp only[Option.bind_some];cases v with
        |false=>
         rw[Bool.not_false,cond_true,if_neg];rintro⟨_,h2,_⟩;have:=hv.2 h2;cases this
        |true=>
         rw[Bool.not_true,cond_false];cases b with
         |false=>
          rw[Bool.not_false,cond_true,if_neg];rintro⟨_,_,h3⟩;have:=hb.2 h3;cases this
         |true=>
          rw[Bool.not_true,cond_false,if_pos ⟨k1,hv.1 rfl,hb.1 rfl⟩]
       ·rw[show((x.1.A-p.Frame.Y.A) % w.Pitch !=0)=true by rw[bne_iff_ne];exact k1,cond_true,if_neg];exact λh=>k1 h.1)
      (λn=>by rw[QT,List.length_map,decide_eq_false (by omega)];rfl)
     rw[lf];by_cases hall:∀x∈L,okSt ps w p.Frame x
     ·rw[XM.2 λx hx=>by rw[if_pos (hall x hx)]];exact⟨true,rfl,Iff.intro (λ_=>hall) λ_=>rfl⟩
     ·have:findE (λx=>if okSt ps w p.Frame x then none else some false) L= .inl false:=by
       have gen:∀M:List Pt,¬(∀x∈M,okSt ps w p.Frame x)->findE (λx=>if okSt ps w p.Frame x then none else some false) M= .inl false:=by
        intro M
        induction M with
        |nil=>intro h;exact absurd (λx hx=>by cases hx) h
        |cons a M ih=>
         intro h;rw[findE];by_cases ca:okSt ps w p.Frame a
         ·rw[if_pos ca];exact ih λhh=>h λx hx=>(List.mem_cons.1 hx).elim (λe=>e▸ca) (hh x)
         ·rw[if_neg ca]
       exact gen L hall
      rw[this];exact⟨false,rfl,Iff.intro (λh=>by cases h) λh=>absurd h hall⟩
   ·obtain⟨n,en,hn⟩:∃n,yO p.Frame=some n/\n≠0:=by
     refine⟨_,AE p.Frame,λh=>c3 (qJ1.1 ?_)⟩;rw[AE,h]
    rw[en];simp only[Option.bind_some];rw[show(n !=0)=true by rw[bne_iff_ne];exact hn];exact⟨false,rfl,Iff.intro (λh=>by cases h) λh=>absurd h.2.2.1 c3⟩
  ·rw[show(YQ w ⟨0,0,0⟩ !=0)=true by rw[bne_iff_ne];exact c2];exact⟨false,rfl,Iff.intro (λh=>by cases h) λh=>absurd ((JL _ _).2 h.2.1) c2⟩
 ·rw[show(qY ps !=0)=true by rw[bne_iff_ne];exact c1];exact⟨false,rfl,Iff.intro (λh=>by cases h) λh=>absurd h.1 c1⟩
end Go.SL.Saw

namespace Go.SL.Saw
variable {ps :List Product} {w:Saw} {t:Rates} {F r:Rect}
theorem FR (n:Node):HG n=some (n.Kind==0):=rfl
theorem qFa (l:List Node) {n at_ o:Nat} (ho:1<=o) (h1:at_<l.length) (hl:l.length<=1000) (h2:o<=100000):zP l (n+1) (at_:Int) (o:Int)=zP l n ((at_+1:Nat):Int) ((o-1+(bif ripB (l.getD at_ default).Kind then 2 else 0):Nat):Int):=by
 rw[zP,decide_eq_true (by omega),decide_eq_false (by omega),qG (by omega) (by omega)];simp only[cond_true,cond_false,Int.toNat_natCast];unfold HS HX;rw[qO (by omega),qD (n:=(o:Int)+1) (by omega) (by omega),qD (n:=(o:Int)-1) (by omega) (by omega)];have er:ripB (l.getD at_ default).Kind=((l.getD at_ default).Kind==2||(l.getD at_ default).Kind==3):=rfl;rw[er];cases (l.getD at_ default).Kind==2<;>cases (l.getD at_ default).Kind==3<;>simp only[cond_true,cond_false,Bool.true_or,Bool.or_true,Bool.false_or]<;>congr 1<;>omega
theorem qUg (l:List Node) (hl:l.length<=1000):∀(d at_ n o:Nat),at_+d=l.length->d<n->o<=at_+1->∃u:Int⊕Int,zP l n (at_:Int) (o:Int)=some u/\((∃m:Nat,Sum.elim (λv=>v) (λv=>v) u=(m:Int)/\at_<=m/\m<=l.length/\(1<=o->at_<m))\/Sum.elim (λv=>v) (λv=>v) u= -1):=by
 intro d
 induction d with
 |zero=>
  intro at_ n o h1 h2 h3;obtain⟨n,rfl⟩:∃m,n=m+1:=⟨n-1,by omega⟩
  rw[zP];by_cases c:o=0
  ·rw[decide_eq_false (by omega)];exact⟨.inr (at_:Int),rfl,.inl ⟨at_,rfl,Nat.le_refl _,by omega,λh=>by omega⟩⟩
  ·rw[decide_eq_true (by omega),decide_eq_true (by omega)];exact⟨.inl (-1),rfl,.inr rfl⟩
 |succ d ih=>
  intro at_ n o h1 h2 h3;obtain⟨n,rfl⟩:∃m,n=m+1:=⟨n-1,by omega⟩
  by_cases c:o=0
  ·rw[zP,decide_eq_false (by omega)];exact⟨.inr (at_:Int),rfl,.inl ⟨at_,rfl,Nat.le_refl _,by omega,λh=>by omega⟩⟩
  ·rw[qFa l (by omega) (by omega) hl (by omega)];obtain⟨u,e,hu⟩:=ih (at_+1) n (o-1+(bif ripB (l.getD at_ default).Kind then 2 else 0)) (by omega) (by omega) (by cases ripB (l.getD at_ default).Kind<;>simp<;>omega);refine⟨u,e,?_⟩;rcases hu with⟨m,a,b,c,_⟩|h
   ·exact .inl ⟨m,a,by omega,c,λ_=>by omega⟩
   ·exact .inr h
theorem qO0 (l:List Node) (hl:l.length<=1000) {at_:Nat} (ha:at_<=l.length):∃v,RH l (at_:Int)=some v/\((∃m:Nat,v=(m:Int)/\at_<m/\m<=l.length)\/v= -1):=by
 obtain⟨u,e,hu⟩:=qUg l hl (l.length-at_) at_ FUEL 1 (by omega) (by rw[FUEL_eq];omega) (by omega);unfold RH;rw[show((1:Nat):Int)=1 from rfl] at e;rw[e];refine⟨Sum.elim (λv=>v) (λv=>v) u,by cases u<;>rfl,?_⟩;rcases hu with⟨m,a,b,c,d⟩|h
 ·exact .inl ⟨m,a,d (by omega),c⟩
 ·exact .inr h
theorem PT {l rest:List Node} {x:Node} {i:Nat} (h:l.drop i=x::rest):i<l.length/\l.getD i default=x/\l.drop (i+1)=rest:=by
 have hi:i<l.length:=by
  by_cases c:i<l.length
  ·exact c
  ·rw[List.drop_eq_nil_of_le (by omega)] at h;cases h
 rw[jP l i hi] at h;exact⟨hi,(List.cons.inj h).1,(List.cons.inj h).2⟩
theorem qLT (l:List Node) (hl:l.length<=1000):∀(T:T) (at_ o n:Nat) (rest:List Node),UW T->l.drop at_=qQ T++rest->o<=1000-l.length+at_->zP l (n+(qQ T).length) (at_:Int) ((o+1:Nat):Int)=zP l n ((at_+(qQ T).length:Nat):Int) (o:Int)
 | .leaf x,at_,o,n,rest,hs,hd,ho=>by
  obtain⟨h1,h2,h3⟩:=PT (x:=x) (rest:=rest) hd;show zP l (n+1) _ _=_;rw[qFa l (by omega) h1 hl (by omega),h2,show ripB x.Kind=false from hs];rfl
 | .rip x a b,at_,o,n,rest,hs,hd,ho=>by
  have hd':l.drop at_=x::(qQ a++(qQ b++rest)):=by rw[hd];simp[qQ]
  obtain⟨h1,h2,h3⟩:=PT hd';have ea:(qQ (.rip x a b)).length=1+(qQ a).length+(qQ b).length:=by simp[qQ];omega
  have hb:l.drop (at_+1+(qQ a).length)=qQ b++rest:=by
   rw[<-List.drop_drop,h3,List.drop_left' rfl]
  have i1:=qLT l hl a (at_+1) (o+1) (n+(qQ b).length) _ hs.2.1 h3 (by omega);have i2:=qLT l hl b (at_+1+(qQ a).length) o n _ hs.2.2 hb (by omega);rw[ea,show n+(1+(qQ a).length+(qQ b).length)=(n+(qQ b).length+(qQ a).length)+1 by omega,qFa l (by omega) h1 hl (by omega),h2,hs.1,cond_true];rw[show o+1-1+2=o+1+1 by omega,i1,i2,show at_+1+(qQ a).length+(qQ b).length=at_+(1+(qQ a).length+(qQ b).length) by omega]
theorem qOO (l:List Node) (hl:l.length<=1000) {T:T} {at_:Nat} {rest:List Node} (hs:UW T) (hd:l.drop at_=qQ T++rest):RH l (at_:Int)=some ((at_+(qQ T).length:Nat):Int):=by
 have hlen:(qQ T).length<=l.length:=by
  have:(l.drop at_).length=(qQ T++rest).length:=by rw[hd]
  rw[List.length_drop,List.length_append] at this;omega
 obtain⟨n,hn⟩:∃n,FUEL=(n+1)+(qQ T).length:=⟨FUEL-(qQ T).length-1,by rw[FUEL_eq];omega⟩
 have h:=qLT l hl T at_ 0 (n+1) rest hs hd (by omega);unfold RH;rw[hn];rw[show((0+1:Nat):Int)=1 from rfl] at h;rw[h,zP,show((0:Nat):Int)=0 from rfl];simp
def PI (l:List Node) (U:List Ref24_part):Prop:=U.length<=l.length/\∀u∈U,∃f g:Nat,u.from_=(f:Int)/\u.to=(g:Int)/\f<g/\g<=l.length
theorem qRX {l:List Node} {U:List Ref24_part} {s:Span} {f g:Nat} (h:PI l U) (hl:U.length<l.length) (h1:f<g) (h2:g<=l.length):PI l (U++[⟨s,(f:Int),(g:Int)⟩]):=by
 refine⟨by simp;omega,λu hu=>?_⟩;rcases List.mem_append.1 hu with hu|hu
 ·exact h.2 u hu
 ·rw[List.mem_singleton] at hu;subst hu;exact⟨f,g,rfl,rfl,h1,h2⟩
theorem qUY {l:List Node} (hl:l.length<=127) (s:Span) (axis kerf:Int):∀(d n at_:Nat) (U:List Ref24_part) (e:Int) (due:Bool),at_+d=l.length->d<n->PI l U->U.length<=at_->
  ∃u,zN l s axis kerf n U (at_:Int) e due=some u/\(∀V,u= .inl (V,true)->PI l V):=by
 intro d
 induction d using Nat.strongRecOn with
 |_ d ih=>
  intro n at_ U e due h1 h2 h3 h4;obtain⟨n,rfl⟩:∃m,n=m+1:=⟨n-1,by omega⟩
  rw[zN];by_cases c0:d=0
  ·rw[decide_eq_false (by omega)];exact⟨.inr (),rfl,λV h=>by cases h⟩
  ·have hlt:at_<l.length:=by omega
   rw[decide_eq_true (by omega),qG (by omega) (by omega),FR];simp only[cond_true,Int.toNat_natCast,Option.bind_some];cases (l.getD at_ default).Kind==0 with
   |true=>
    unfold TY;cases due with
    |true=>exact⟨_,rfl,λV h=>by cases h⟩
    |false=>exact⟨_,rfl,λV h=>by injection h with h;injection h with h _;subst h;exact h3⟩
   |false=>
    simp only[cond_false];cases (l.getD at_ default).Kind !=axis with
    |true=>
     obtain⟨v,ev,hv⟩:=qO0 l (by omega) (at_:=at_) (by omega);rw[ev,qN (by omega) (by omega)];simp only[cond_true,Option.bind_some];refine⟨_,rfl,λV h=>?_⟩;injection h with h;injection h with h hb;subst h;rcases hv with⟨m,rfl,m1,m2⟩|rfl
     ·exact qRX h3 (by omega) m1 m2
     ·rw[beq_iff_eq] at hb;omega
    |false=>
     simp only[cond_false];have k3:∀b,(b=false->at_+1<l.length)->∃u,QN l s kerf U (at_:Int) e due (zN l s axis kerf n) b=some u/\(∀V,u= .inl (V,true)->PI l V):=by
      intro b hb;unfold QN;cases b with
      |true=>exact⟨_,rfl,λV h=>by cases h⟩
      |false=>
       have hb':=hb rfl;rw[qO (by omega),qD (n:=(at_:Int)+2) (by omega) (by omega),qG (by omega) (by omega),FR];simp only[cond_true,cond_false,Option.bind_some];cases (l.getD ((at_+1:Nat):Int).toNat default).Kind==0 with
       |true=>
        cases due with
        |true=>exact⟨_,rfl,λV h=>by cases h⟩
        |false=>
         simp only[cond_true,cond_false];exact ih (d-2) (by omega) n (at_+2) U _ true (by omega) (by omega) h3 (by omega)
       |false=>
        obtain⟨v,ev,hv⟩:=qO0 l (by omega) (at_:=at_+1) (by omega);rw[ev];simp only[cond_false,Option.bind_some];rcases hv with⟨m,rfl,m1,m2⟩|rfl
        ·rw[decide_eq_false (by omega),qN (by omega) (by omega)];simp only[cond_true,cond_false];exact ih (l.length-m) (by omega) n m _ _ false (by omega) (by omega) (qRX h3 (by omega) m1 m2) (by simp;omega)
        ·exact⟨_,rfl,λV h=>by cases h⟩
     by_cases c1:(l.getD at_ default).At<=e
     ·rw[decide_eq_true c1];exact k3 true (λh=>by cases h)
     ·rw[decide_eq_false c1,cond_false];by_cases c2:(l.getD at_ default).At≥s.B
      ·rw[decide_eq_true c2];exact k3 true (λh=>by cases h)
      ·rw[decide_eq_false c2,cond_false,qO (by omega)];by_cases c3:at_+1<l.length
       ·rw[decide_eq_false (by omega)];exact k3 false λ_=>c3
       ·rw[decide_eq_true (by omega)];exact k3 true (λh=>by cases h)
def ptsF (kerf B:Int):Nat->Int->List Pt->List Ref24_part
 |_,_,[]=>[]
 | at_,e,x::r=>if x.1.B<B then⟨x.1,(((if x.1.A>e then at_+2 else at_)+1:Nat):Int),(((if x.1.A>e then at_+2 else at_)+1+x.2.length:Nat):Int)⟩::ptsF kerf B ((if x.1.A>e then at_+2 else at_)+1+x.2.length) (imin (x.1.B+kerf) B) r
   else[⟨x.1,(((if x.1.A>e then at_+2 else at_):Nat):Int),(((if x.1.A>e then at_+2 else at_)+x.2.length:Nat):Int)⟩]
def ptU (l:List Node) (u:Ref24_part):Pt:=(u.at_,(l.drop u.from_.toNat).take (u.to.toNat-u.from_.toNat))
def tlW (b:Bool):List Node:=if b then[] else[⟨0,0⟩]
theorem qSh (axis kerf B e:Int) (x:Pt) (r:List Pt):(rowB axis kerf B e (x::r)).1++tlW (rowB axis kerf B e (x::r)).2=(if x.1.A>e then[⟨axis,x.1.A-kerf⟩,⟨0,0⟩] else[])++(if x.1.B<B then⟨axis,x.1.B⟩::x.2++((rowB axis kerf B (imin (x.1.B+kerf) B) r).1++tlW (rowB axis kerf B (imin (x.1.B+kerf) B) r).2) else x.2):=by
 unfold tlW;rw[JU];by_cases c:x.1.B<B
 ·rw[if_pos c,if_pos c];simp only[List.append_assoc]
 ·rw[if_neg c,if_neg c];simp
theorem qMM {l:List Node} (hl:l.length<=127) {s:Span} {axis kerf:Int} (ha:axis=2\/axis=3) (hk:0<=kerf/\kerf<=20) (hB:s.B<=600):∀(L:List Pt) (e:Int) (n at_:Nat) (U:List Ref24_part),-600<=e->e<=s.B->goodL kerf s.B e L->(∀x∈L,okPt axis x.2)->l.drop at_=(rowB axis kerf s.B e L).1++tlW (rowB axis kerf s.B e L).2->l.length-at_<n->U.length<=at_->
  zN l s axis kerf n U (at_:Int) e false=some (.inl (U++ptsF kerf s.B at_ e L,true))/\(ptsF kerf s.B at_ e L).map (ptU l)=L
 |[],e,n,at_,U,he,heB,h,hx,hd,hn,hU=>by
  obtain⟨n,rfl⟩:∃m,n=m+1:=⟨n-1,by omega⟩
  have hd':l.drop at_=[⟨0,0⟩]:=by rw[hd];rfl
  obtain⟨h1,h2,h3⟩:=PT hd';have h4:at_+1=l.length:=by have:=List.drop_eq_nil_iff.1 h3;omega
  refine⟨?_,rfl⟩;rw[zN,decide_eq_true (by omega),qG (by omega) (by omega),FR];simp only[cond_true,Int.toNat_natCast,Option.bind_some,h2,Bool.not_false,beq_self_eq_true];unfold TY;rw[qD (n:=((l.length:Nat):Int)-1) (by omega) (by omega),show((at_:Int)==((l.length:Nat):Int)-1)=true by rw[beq_iff_eq];omega];simp[ptsF]
 |x::r,e,n,at_,U,he,heB,h,hx,hd,hn,hU=>by
  obtain⟨g1,g2,g3,g4⟩:=h;obtain⟨y,ys,ey,k1,k2⟩:=qRd (hx x List.mem_cons_self);obtain⟨T,sT,eT,_,_⟩:=hx x List.mem_cons_self;rw[qSh] at hd
  -- behind the waste
  have inner:∀(a:Nat) (m:Nat) (due:Bool),l.drop a=(if x.1.B<s.B then⟨axis,x.1.B⟩::x.2++((rowB axis kerf s.B (imin (x.1.B+kerf) s.B) r).1++tlW (rowB axis kerf s.B (imin (x.1.B+kerf) s.B) r).2) else x.2)->l.length-a<m->U.length<=a->
    zN l s axis kerf m U (a:Int) x.1.A due=some (.inl (U++(if x.1.B<s.B then⟨x.1,((a+1:Nat):Int),((a+1+x.2.length:Nat):Int)⟩::ptsF kerf s.B (a+1+x.2.length) (imin (x.1.B+kerf) s.B) r else[⟨x.1,(a:Int),((a+x.2.length:Nat):Int)⟩]),true))
    /\((if x.1.B<s.B then⟨x.1,((a+1:Nat):Int),((a+1+x.2.length:Nat):Int)⟩::ptsF kerf s.B (a+1+x.2.length) (imin (x.1.B+kerf) s.B) r else[⟨x.1,(a:Int),((a+x.2.length:Nat):Int)⟩]):List Ref24_part).map (ptU l)=x::r:=by
   intro a m due hda hm hUa;obtain⟨m,rfl⟩:∃k,m=k+1:=⟨m-1,by omega⟩
   by_cases c:x.1.B<s.B
   ·rw[if_pos c] at hda g4;simp only[if_pos c];rw[List.cons_append] at hda;obtain⟨q1,q2,q3⟩:=PT hda;have q4:=q3;rw[ey,List.cons_append] at q4;obtain⟨p1,p2,p3⟩:=PT q4;have mi:=imin_or (x.1.B+kerf) s.B;have et:=qOO l (by omega) (at_:=a+1) sT (rest:=(rowB axis kerf s.B (imin (x.1.B+kerf) s.B) r).1++tlW (rowB axis kerf s.B (imin (x.1.B+kerf) s.B) r).2) (by rw[<-eT];exact q3);rw[<-eT] at et;have hdn:l.drop (a+1+x.2.length)=(rowB axis kerf s.B (imin (x.1.B+kerf) s.B) r).1++tlW (rowB axis kerf s.B (imin (x.1.B+kerf) s.B) r).2:=by rw[<-List.drop_drop,q3,List.drop_left' rfl]
    have xl:0<x.2.length:=by rw[ey];simp
    obtain⟨i1,i2⟩:=qMM hl ha hk hB r (imin (x.1.B+kerf) s.B) m (a+1+x.2.length) (U++[⟨x.1,((a+1:Nat):Int),((a+1+x.2.length:Nat):Int)⟩]) (by omega) (by omega) g4 (λz hz=>hx z (List.mem_cons_of_mem _ hz)) hdn (by omega) (by simp;omega);refine⟨?_,?_⟩
    ·rw[zN,decide_eq_true (by omega),qG (by omega) (by omega),FR];simp only[cond_true,Int.toNat_natCast,Option.bind_some,q2];rw[show(axis==0)=false by rw[beq_eq_false_iff_ne];omega,bne_self_eq_false,decide_eq_false (show¬x.1.B<=x.1.A by omega),decide_eq_false (show¬x.1.B≥s.B by omega),qO (by omega),decide_eq_false (by omega)];simp only[cond_false];unfold QN;rw[qO (by omega),qG (by omega) (by omega),FR];simp only[cond_false,cond_true,Int.toNat_natCast,Option.bind_some,p2,q2];rw[show(y.Kind==0)=false by rw[beq_eq_false_iff_ne];exact k1,et,qN (by omega) (by omega)]
     simp only[cond_false,Option.bind_some];rw[decide_eq_false (by omega),qD (n:=x.1.B+kerf) (by omega) (by omega)];simp only[cond_true,cond_false];rw[i1];simp
    ·rw[List.map_cons,i2]
     congr 1
     unfold ptU;simp only[Int.toNat_natCast];rw[q3,show a+1+x.2.length-(a+1)=x.2.length by omega,List.take_left' rfl]
   ·rw[if_neg c] at hda g4;subst g4;simp only[if_neg c];have hda':=hda;rw[ey] at hda';obtain⟨q1,q2,q3⟩:=PT hda';have et:=qOO l (by omega) (at_:=a) sT (rest:=[]) (by rw[<-eT,List.append_nil];exact hda);rw[<-eT] at et;have hlen:a+x.2.length=l.length:=by
     have:(l.drop a).length=x.2.length:=by rw[hda]
     rw[List.length_drop] at this;omega
    have:x.1.B=s.B:=by omega
    refine⟨?_,?_⟩
    ·rw[zN,decide_eq_true (by omega),qG (by omega) (by omega),FR];simp only[cond_true,Int.toNat_natCast,Option.bind_some,q2];rw[show(y.Kind==0)=false by rw[beq_eq_false_iff_ne];exact k1,show(y.Kind !=axis)=true by rw[bne_iff_ne];exact k2,et,qN (by omega) (by omega)];simp only[cond_true,cond_false,Option.bind_some];rw[show(((a+x.2.length:Nat):Int)==((l.length:Nat):Int))=true by rw[beq_iff_eq];omega,<-this]
    ·rw[List.map_cons,List.map_nil]
     congr 1
     unfold ptU;simp only[Int.toNat_natCast];rw[hda,show a+x.2.length-a=x.2.length by omega,List.take_length]
  have ept:ptsF kerf s.B at_ e (x::r)=(if x.1.B<s.B then⟨x.1,(((if x.1.A>e then at_+2 else at_)+1:Nat):Int),(((if x.1.A>e then at_+2 else at_)+1+x.2.length:Nat):Int)⟩::ptsF kerf s.B ((if x.1.A>e then at_+2 else at_)+1+x.2.length) (imin (x.1.B+kerf) s.B) r
   else[⟨x.1,(((if x.1.A>e then at_+2 else at_):Nat):Int),(((if x.1.A>e then at_+2 else at_)+x.2.length:Nat):Int)⟩]):=rfl
  rw[ept];by_cases ca:x.1.A>e
  ·rw[if_pos ca] at hd;simp only[if_pos ca];obtain⟨n,rfl⟩:∃m,n=m+1:=⟨n-1,by omega⟩
   simp only[List.cons_append,List.nil_append] at hd;obtain⟨q1,q2,q3⟩:=PT hd;obtain⟨p1,p2,p3⟩:=PT q3;have hin:=inner (at_+2) n true p3 (by omega) (by omega);refine⟨?_,hin.2⟩;rw[zN,decide_eq_true (by omega),qG (by omega) (by omega),FR];simp only[cond_true,Int.toNat_natCast,Option.bind_some,q2];rw[show(axis==0)=false by rw[beq_eq_false_iff_ne];omega,bne_self_eq_false,decide_eq_false (show¬x.1.A-kerf<=e by omega),decide_eq_false (show¬x.1.A-kerf≥s.B by omega),qO (by omega),decide_eq_false (by omega)];simp only[cond_false];unfold QN
   rw[qO (by omega),qG (by omega) (by omega),FR,qD (n:=(at_:Int)+2) (by omega) (by omega)];simp only[cond_false,cond_true,Int.toNat_natCast,Option.bind_some,p2,q2,beq_self_eq_true];have mi:=imin_or (x.1.A-kerf+kerf) s.B;rw[qD (n:=x.1.A-kerf+kerf) (by omega) (by omega),show imin (x.1.A-kerf+kerf) s.B=x.1.A by omega];exact hin.1
  ·rw[if_neg ca] at hd;simp only[if_neg ca];rw[List.nil_append] at hd;have:x.1.A=e:=by omega
   rw[<-this];exact inner at_ n false hd hn hU
end Go.SL.Saw

import Derived.Test.YtidlfgiogdjkaaaGreatDoorEMa12
import Derived.Test.YtidlfgiogdjkaaaGreatDoorEMa10
import Derived.Test.YtidlfgiogdjkaaaGreatDoorEMa9
set_option linter.unusedVariables false
set_option linter.unusedSimpArgs false
namespace Go.SL.Saw
variable {ps :List Product} {w:Saw} {t:Rates} {F r:Rect}
theorem qTY (axis kerf:Int) (s:Span) (l:List Node):(prsL axis kerf s l).length<=l.length/\ndC (prsL axis kerf s l)<=(3+l.length)*l.length:=by
 have h:=qG6 axis kerf s.B (l.length+1) s.A l;have hx:∀x∈prsL axis kerf s l,x.2.length<=l.length:=λx hx=>by
  unfold prsL at hx;rcases List.mem_append.1 hx with hx|hx
  ·exact h.2 x hx
  ·unfold qCV at hx;split at hx
   ·rw[List.mem_singleton] at hx;subst hx;simp only;omega
   ·cases hx
 have hn:(prsL axis kerf s l).length<=l.length:=by
  unfold prsL qCV;rw[List.length_append];split
  ·rename_i c;have:0<(prs axis kerf s.B (l.length+1) s.A l).2.2.length:=List.length_pos_iff.2 c.1;simp only[List.length_cons,List.length_nil];omega
  ·simp only[List.length_nil];omega
 refine⟨hn,?_⟩;have gen:∀L:List Pt,(∀x∈L,x.2.length<=l.length)->ndC L<=(3+l.length)*L.length:=by
  intro L
  induction L with
  |nil=>intro _;simp[ndC]
  |cons x L ih=>
   intro hh;have:=ih λy hy=>hh y (List.mem_cons_of_mem _ hy);have:=hh x List.mem_cons_self;have e:ndC (x::L)=3+x.2.length+ndC L:=by simp[ndC]
   rw[e,List.length_cons,Nat.mul_add];omega
 exact Nat.le_trans (gen _ hx) (Nat.mul_le_mul_left _ hn)
theorem qSB (hr:VR r) {axis kerf:Int} (ha:axis=2\/axis=3) (hk:0<=kerf/\kerf<=20) (l:List Node):∃A P b,IW r axis kerf l=some (A,P,b)/\
  (b=true->∃L:List Pt,A=L.map Prod.fst/\P=L.map Prod.snd/\goodL kerf (axS r axis).B (axS r axis).A L/\l=rowN axis kerf (axS r axis) L/\l.length<=127)
  /\(∀L:List Pt,goodL kerf (axS r axis).B (axS r axis).A L->l=rowN axis kerf (axS r axis) L->l.length<=127->(∀x∈L,okPt axis x.2)->b=true/\A=L.map Prod.fst/\P=L.map Prod.snd):=by
 unfold IW;by_cases hl:l.length<=127
 ·rw[decide_eq_false (by omega)];have e0:(bif axis==3 then XP r axis kerf l r.Y else XP r axis kerf l r.X)=XP r axis kerf l (axS r axis):=by rcases ha with rfl|rfl<;>rfl
  rw[cond_false,e0];have hs:=qNM hr axis;generalize hL:prsL axis kerf (axS r axis) l=L;obtain⟨p1,p2⟩:=qTY axis kerf (axS r axis) l;rw[hL] at p1 p2;have p3:(3+l.length)*l.length<=130*127:=Nat.mul_le_mul (by omega) (by omega);have e1:XP r axis kerf l (axS r axis)=HK r axis kerf l (L.map Prod.fst) (L.map Prod.snd):=by
   unfold XP;rw[qFJ axis kerf (axS r axis) (l.length+1) FUEL (axS r axis).A l [] [] (by omega) (by rw[FUEL_eq];omega) (by simp;omega) rfl];rw[<-hL];unfold prsL qCV;have pl:=(qG6 axis kerf (axS r axis).B (l.length+1) (axS r axis).A l).1;generalize prs axis kerf (axS r axis).B (l.length+1) (axS r axis).A l=q at pl⊢;obtain⟨q1,qe,q2⟩:=q;simp only[Option.bind_some,List.nil_append] at pl⊢;unfold CT;cases q2 with
   |nil=>simp
   |cons y ys=>
    simp only[List.length_cons] at pl;rw[decide_eq_true (by simp only[List.length_cons];omega),qL (by omega) (by simp only[List.length_cons];omega)];simp only[cond_true];have ey:(y::ys).getD (0:Int).toNat default=y:=rfl;rw[ey];by_cases c:y.Kind=0
    ·rw[show(y.Kind !=0)=false by rw[bne_eq_false_iff_eq];exact c,if_neg (by simp[c])];simp
    ·rw[show(y.Kind !=0)=true by rw[bne_iff_ne];exact c,if_pos (by simp[c]),qW (by simp;omega) (by omega),qW (by simp;omega) (by omega)];simp
  rw[e1];obtain⟨q,hq,hi⟩:=Row_is hr ha hk (L:=L) (by omega) (by omega);have back:∀L':List Pt,goodL kerf (axS r axis).B (axS r axis).A L'->l=rowN axis kerf (axS r axis) L'->(∀x∈L',okPt axis x.2)->L'=L/\q=(l,0):=λL' g1 g2 g3=>by
   have:=qUE (s:=axS r axis) ha hk hs.1 (by omega) hs.2.1 g1 g3;rw[<-g2,hL] at this;subst this;rw[qJs hr ha hk (by omega) g1 (by omega),<-g2] at hq;unfold rowR at hq;rw[if_pos hl] at hq;exact⟨rfl,(Option.some.inj hq).symm⟩
  unfold HK;rw[hq];simp only[Option.bind_some];by_cases c:q.2=0
  ·obtain⟨i1,i2,i3⟩:=hi c;rw[show(q.2 !=0)=false by rw[bne_eq_false_iff_eq];exact c];obtain⟨v,ev,hv⟩:=qOc l q.1 (by omega);rw[ev];simp only[cond_false,Option.bind_some];unfold CJ;cases v with
   |true=>
    refine⟨_,_,true,rfl,λ_=>⟨L,rfl,rfl,i1,?_,hl⟩,λL' g1 g2 _ g3=>?_⟩
    ·rw[hv.1 rfl,i2]
    ·obtain⟨b1,_⟩:=back L' g1 g2 g3;rw[b1];exact⟨rfl,rfl,rfl⟩
   |false=>
    refine⟨_,_,false,rfl,(λh=>by cases h),λL' g1 g2 _ g3=>?_⟩;obtain⟨_,b2⟩:=back L' g1 g2 g3;rw[b2] at hv;have:=hv.2 rfl;cases this
  ·rw[show(q.2 !=0)=true by rw[bne_iff_ne];exact c];refine⟨_,_,false,rfl,(λh=>by cases h),λL' g1 g2 _ g3=>?_⟩;obtain⟨_,b2⟩:=back L' g1 g2 g3;rw[b2] at c;exact absurd rfl c
 ·rw[decide_eq_true (by omega)];exact⟨[],[],false,rfl,(λh=>by cases h),λL _ _ h _=>absurd h hl⟩
theorem qDK {kerf B:Int} (hk:0<=kerf/\kerf<=20):∀{L:List Pt} {e:Int},e<=B->goodL kerf B e L->∀x∈L,e<=x.1.A/\x.1.A<x.1.B/\x.1.B<=B
 |[],_,_,_,x,hx=>by cases hx
 |y::L,e,he,h,x,hx=>by
  obtain⟨h1,h2,h3,h4⟩:=h;rcases List.mem_cons.1 hx with rfl|hx
  ·exact⟨by omega,h1,h3⟩
  ·by_cases c:y.1.B<B
   ·rw[if_pos c] at h4;have mi:=imin_or (y.1.B+kerf) B;have:=qDK hk (by omega) h4 x hx;omega
   ·rw[if_neg c] at h4;subst h4;cases hx
def okBd (ps:List Product) (w:Saw) (r:Rect) (x:Pt):Prop:=(x.1.A-r.X.A) % w.Pitch=0/\∃k,k<(sizes ps (r.Y.B-r.Y.A)).1.length/\(sizes ps (r.Y.B-r.Y.A)).1.getD k default=x.1.B-x.1.A/\x.2=[⟨1,(sizes ps (r.Y.B-r.Y.A)).2.getD k default⟩]
def Strp (ps:List Product) (w:Saw) (r:Rect) (l:List Node):Prop:=l.length<=127/\∃L:List Pt,goodL w.Kerf r.X.B r.X.A L/\L≠[]/\l=rowN 2 w.Kerf r.X L/\∀x∈L,okBd ps w r x
theorem qQM {x:Pt} (h:okBd ps w r x):okPt 2 x.2:=by
 obtain⟨_,k,_,_,e⟩:=h;refine⟨.leaf ⟨1,_⟩,rfl,e,?_,?_⟩
 ·rw[e];exact(show(1:Int)≠0 by decide)
 ·rw[e];exact(show(1:Int)≠2 by decide)
theorem qN9 (p:Nat->Bool):∀(m x:Nat) (s:Bool),foldN (λk s=>s||p k) x m s=true↔s=true\/∃k,x<=k/\k<x+m/\p k=true
 |0,x,s=>by
  unfold foldN;exact⟨λh=> .inl h,λh=>h.elim id fun⟨k,h1,h2,_⟩=>by omega⟩
 |m+1,x,s=>by
  unfold foldN;rw[qN9 p m (x+1) _,Bool.or_eq_true];constructor
  ·rintro((h|h)|⟨k,h1,h2,h3⟩)
   ·exact .inl h
   ·exact .inr ⟨x,Nat.le_refl _,by omega,h⟩
   ·exact .inr ⟨k,by omega,by omega,h3⟩
  ·rintro(h|⟨k,h1,h2,h3⟩)
   ·exact .inl (.inl h)
   ·by_cases c:k=x
    ·subst c;exact .inl (.inr h3)
    ·exact .inr ⟨k,by omega,by omega,h3⟩
open Classical in
theorem qK3 (hr:VR r) (hw:VW w t) (ps:List Product) (l:List Node):∃b,NQ r ps w l=some b/\(b=true↔Strp ps w r l):=by
 obtain⟨A,P,b,e,i1,i2⟩:=qSB hr (axis:=2) (.inl rfl) hw.kerf l;have hs:=qNM hr 2;have hp:=hw.pitch;have ea:axS r 2=r.X:=rfl;rw[ea] at i1 i2 hs;have hr':=hr;unfold VR at hr';unfold NQ;rw[e];simp only[Option.bind_some];cases b with
 |false=>
  refine⟨false,rfl,Iff.intro (λh=>by cases h) λh=>?_⟩;obtain⟨h1,L,g,_,eL,hx⟩:=h;have:=(i2 L g eL h1 λx hx'=>qQM (hx x hx')).1;cases this
 |true=>
  obtain⟨L,eA,eP,g,eL,hl⟩:=i1 rfl;subst eA;subst eP;have hLb:=qDK hw.kerf (by omega) g;have uniq:Strp ps w r l↔L≠[]/\∀x∈L,okBd ps w r x:=by
   constructor
   ·rintro⟨h1,L',g',ne,eL',hx⟩;obtain⟨_,q1,q2⟩:=i2 L' g' eL' h1 λx hx'=>qQM (hx x hx');have:L=L':=by
     have z:∀M:List Pt,M=(M.map Prod.fst).zip (M.map Prod.snd):=λM=>by
      induction M with
      |nil=>rfl
      |cons a M ih=>simp only[List.map_cons,List.zip_cons_cons];rw[<-ih]
     rw[z L,z L',q1,q2]
    subst this;exact⟨ne,hx⟩
   ·rintro⟨ne,hx⟩;exact⟨hl,L,g,ne,eL,hx⟩
  rw[uniq];unfold BN;simp only[Bool.not_true,cond_false,List.length_map];by_cases c0:L=[]
  ·subst c0;exact⟨false,rfl,Iff.intro (λh=>by cases h) λh=>absurd rfl h.1⟩
  have c0':0<L.length:=List.length_pos_iff.2 c0;rw[show(((L.length:Nat):Int)==0)=false by rw[beq_eq_false_iff_ne];omega,cond_false,qF (n:=r.Y.B-r.Y.A) (by omega) (by omega),(qIF _ _).1];simp only[Option.bind_some];have sl:=qKo (ps:=ps) (r.Y.B-r.Y.A);have sl3:(sizes ps (r.Y.B-r.Y.A)).1.length<=1000:=by
   unfold sizes;split
   ·simp
   ·rename_i hc;have:=EG (l:=ps) (by simpa using hc);have:=(qDO (l:=ps) (by simpa using hc) (r.Y.B-r.Y.A)).le;unfold sizes at this;rw[if_neg hc] at this;omega
  have hLl:L.length<=100000:=by
   have:=rowB_ge L r.X.A (axis:=2) (kerf:=w.Kerf) (B:=r.X.B) g (λx hx=>?_)
   ·have e2:l.length=(rowN 2 w.Kerf r.X L).length:=by rw[<-eL]
    unfold rowN at e2;rw[List.length_append] at e2;omega
   ·trivial
  have hL4:∀(x:Pt) (i:Nat),i<L.length->L.getD i default=x->x.2.length=1->wZ (L.map Prod.fst,L.map Prod.snd,true) (sizes ps (r.Y.B-r.Y.A)) (i:Int) FUEL false 0=some (foldN (λk s=>s||(((sizes ps (r.Y.B-r.Y.A)).1.getD k default==x.1.B-x.1.A)&&((sizes ps (r.Y.B-r.Y.A)).2.getD k default==(x.2.getD 0 default).At))) 0 (sizes ps (r.Y.B-r.Y.A)).1.length false):=by
   intro x i hi ex h1;have hxb:=hLb x (by rw[<-ex];exact jS hi);have hxa:(L.map Prod.fst).getD i default=x.1:=by rw[XR.getD_map'' Prod.fst hi,ex]
   have hxc:(L.map Prod.snd).getD i default=x.2:=by rw[XR.getD_map'' Prod.snd hi,ex]
   have k:=zX (sizes ps (r.Y.B-r.Y.A)).1.length (λn (s:Bool) y=>wZ (L.map Prod.fst,L.map Prod.snd,true) (sizes ps (r.Y.B-r.Y.A)) (i:Int) n s y) (λk s=>s||(((sizes ps (r.Y.B-r.Y.A)).1.getD k default==x.1.B-x.1.A)&&((sizes ps (r.Y.B-r.Y.A)).2.getD k default==(x.2.getD 0 default).At))) (λs=>s) (λ_ _=>True) 0 (by omega) (by omega)
    (λn k s hk _=>by
     refine⟨?_,trivial⟩;rw[wZ,decide_eq_true (by omega),qL (by omega) (by omega)];unfold RE;simp only[Int.toNat_natCast,hxa,hxc,List.length_map];rw[qF (n:=x.1.B-x.1.A) (by omega) (by omega),qL (i:=(k:Int)) (n:=(sizes ps (r.Y.B-r.Y.A)).2.length) (by omega) (by omega),qL (i:=(i:Int)) (n:=L.length) (by omega) (by omega),qL (i:=0) (n:=x.2.length) (by omega) (by omega),qP (by omega)];simp only[cond_true];have e00:x.2.getD (0:Int).toNat default=x.2.getD 0 default:=rfl;rw[e00];cases s<;>cases (sizes ps (r.Y.B-r.Y.A)).1.getD k default==x.1.B-x.1.A<;>simp)
    (λn s _=>by rw[wZ];simp) false trivial
   exact k.1
  have lf:=RH L (λn x=>jV r w (L.map Prod.fst,L.map Prod.snd,true) (sizes ps (r.Y.B-r.Y.A)) n x) (λx=>if okBd ps w r x then none else some false) (by omega)
   (λn i hi=>by
    generalize ex:L.getD i default=x;have hxb:=hLb x (by rw[<-ex];exact jS hi);have hxa:(L.map Prod.fst).getD i default=x.1:=by rw[XR.getD_map'' Prod.fst hi,ex]
    have hxc:(L.map Prod.snd).getD i default=x.2:=by rw[XR.getD_map'' Prod.snd hi,ex]
    rw[jV];simp only[Int.toNat_natCast,hxa,hxc,List.length_map];unfold RD;rw[decide_eq_true (by omega),qL (i:=(i:Int)) (n:=L.length) (by omega) (by omega),nz_t (by omega),qF (n:=x.1.A-r.X.A) (by omega) (by omega),Int.tmod_eq_emod_of_nonneg (by omega),qP (by omega)];simp only[cond_true];by_cases c1:(x.1.A-r.X.A) % w.Pitch=0
    ·rw[show((x.1.A-r.X.A) % w.Pitch !=0)=false by rw[bne_eq_false_iff_eq];exact c1,cond_false];by_cases c2:x.2.length=1
     ·rw[show(((x.2.length:Nat):Int) !=1)=false by rw[bne_eq_false_iff_eq];omega,cond_false,qL (i:=0) (n:=x.2.length) (by omega) (by omega),cond_true,hL4 x i hi ex c2];have e00:x.2.getD (0:Int).toNat default=x.2.getD 0 default:=rfl;rw[e00];have e2:x.2=[x.2.getD 0 default]:=by
       match hm:x.2,c2 with
       |[a],_=>rfl
      by_cases c3:(x.2.getD 0 default).Kind=1
      ·rw[show((x.2.getD 0 default).Kind !=1)=false by rw[bne_eq_false_iff_eq];exact c3,cond_false];simp only[Option.bind_some];have fo:=qN9 (λk=>((sizes ps (r.Y.B-r.Y.A)).1.getD k default==x.1.B-x.1.A)&&((sizes ps (r.Y.B-r.Y.A)).2.getD k default==(x.2.getD 0 default).At)) (sizes ps (r.Y.B-r.Y.A)).1.length 0 false;have iff:foldN (λk s=>s||(((sizes ps (r.Y.B-r.Y.A)).1.getD k default==x.1.B-x.1.A)&&((sizes ps (r.Y.B-r.Y.A)).2.getD k default==(x.2.getD 0 default).At))) 0 (sizes ps (r.Y.B-r.Y.A)).1.length false=true↔okBd ps w r x:=by
        rw[fo];constructor
        ·rintro(h|⟨k,_,hk,h⟩)
         ·cases h
         ·rw[Bool.and_eq_true,beq_iff_eq,beq_iff_eq] at h;refine⟨c1,k,by omega,h.1,?_⟩;rw[e2,h.2]
          congr 1
          have:∀n:Node,n.Kind=1->n=⟨1,n.At⟩:=λn hn=>by obtain⟨a,b⟩:=n;simp only at hn;rw[hn]
          exact this _ c3
        ·rintro⟨_,k,hk,h1,h2⟩;refine .inr ⟨k,Nat.zero_le _,by omega,?_⟩;rw[Bool.and_eq_true,beq_iff_eq,beq_iff_eq];exact⟨h1,by rw[h2];rfl⟩
       by_cases c4:okBd ps w r x
       ·rw[iff.2 c4,if_pos c4];rfl
       ·have:foldN (λk s=>s||(((sizes ps (r.Y.B-r.Y.A)).1.getD k default==x.1.B-x.1.A)&&((sizes ps (r.Y.B-r.Y.A)).2.getD k default==(x.2.getD 0 default).At))) 0 (sizes ps (r.Y.B-r.Y.A)).1.length false=false:=by
         rw[<-Bool.not_eq_true];exact λh=>c4 (iff.1 h)
        rw[this,if_neg c4];rfl
      ·rw[show((x.2.getD 0 default).Kind !=1)=true by rw[bne_iff_ne];exact c3,cond_true,if_neg];rintro⟨_,k,_,_,h2⟩;rw[h2] at c3;exact c3 rfl
     ·rw[show(((x.2.length:Nat):Int) !=1)=true by rw[bne_iff_ne];omega,cond_true,if_neg];rintro⟨_,k,_,_,h2⟩;rw[h2] at c2;exact c2 rfl
    ·rw[show((x.1.A-r.X.A) % w.Pitch !=0)=true by rw[bne_iff_ne];exact c1,cond_true,if_neg];exact λh=>c1 h.1)
   (λn=>by rw[jV,List.length_map,decide_eq_false (by omega)];rfl)
  rw[lf];by_cases hall:∀x∈L,okBd ps w r x
  ·rw[GW.2 λx hx=>by rw[if_pos (hall x hx)]];exact⟨true,rfl,Iff.intro (λ_=>⟨c0,hall⟩) λ_=>rfl⟩
  ·have:findE (λx=>if okBd ps w r x then none else some false) L= .inl false:=by
    have gen:∀M:List Pt,¬(∀x∈M,okBd ps w r x)->findE (λx=>if okBd ps w r x then none else some false) M= .inl false:=by
     intro M
     induction M with
     |nil=>intro h;exact absurd (λx hx=>by cases hx) h
     |cons a M ih=>
      intro h;rw[findE];by_cases ca:okBd ps w r a
      ·rw[if_pos ca];exact ih λhh=>h λx hx=>(List.mem_cons.1 hx).elim (λe=>e▸ca) (hh x)
      ·rw[if_neg ca]
    exact gen L hall
   rw[this];exact⟨false,rfl,Iff.intro (λh=>by cases h) λh=>absurd h.2 hall⟩
where
 rowB_ge {axis kerf B:Int}:∀(L:List Pt) (e:Int),goodL kerf B e L->(∀x∈L,True)->L.length<=(rowB axis kerf B e L).1.length+1
  |[],_,_,_=>Nat.zero_le _
  |x::L,e,g,h=>by
   rw[PU];by_cases c:x.1.B<B
   ·have g4:=g.2.2.2;rw[if_pos c] at g4;rw[if_pos c];have:=rowB_ge (axis:=axis) L _ g4 λy hy=>trivial;simp only[List.length_cons,List.length_append];omega
   ·have g4:=g.2.2.2;rw[if_neg c] at g4;subst g4;simp only[List.length_cons,List.length_nil];omega
end Go.SL.Saw
namespace Go.SL.Saw
variable {l :List qB} {ds:List Defect} {ps:List Product} {w:Saw} {t:Rates} {F r:Rect}
theorem qJS {axis kerf B:Int} (ha:ripB axis=true):∀(L:List Pq) (e:Int),(∀x∈L,FY x.2)->FY (rowT axis kerf B e L)
 |[],e,_=>rfl
 |x::L,e,h=>by
  have h1:=h x List.mem_cons_self;have h2:=qJS (axis:=axis) (kerf:=kerf) (B:=B) ha L (imin (x.1.B+kerf) B) λy hy=>h y (List.mem_cons_of_mem _ hy);have inner:FY (if x.1.B<B then .rip ⟨axis,x.1.B⟩ x.2 (rowT axis kerf B (imin (x.1.B+kerf) B) L) else x.2):=by
   split
   ·exact⟨ha,h1,h2⟩
   ·exact h1
  unfold rowT;split
  ·exact⟨ha,rfl,inner⟩
  ·exact inner
def trB (L:List Pt):List Pq:=L.map λx=>(x.1,T.leaf (x.2.getD 0 default))
theorem qTn {L:List Pt} (h:∀x∈L,x.2.length=1):(trB L).map ptP=L:=by
 unfold trB;rw[List.map_map]
 conv=>rhs;rw[<-List.map_id L]
 apply List.map_congr_left;intro x hx;have hl:=h x hx;obtain⟨s,n⟩:=x;show(s,[n.getD 0 default])=(s,n)
 match n,hl with
 |[a],_=>rfl
theorem qPJ {x:Pt} (h:okBd ps w r x):x.2.length=1:=by obtain⟨_,k,_,_,e⟩:=h;rw[e];rfl
theorem strp_pt {l:List Node} (h:Strp ps w r l):okPt 3 l:=by
 obtain⟨_,L,g,ne,e,hx⟩:=h;have e1:=qTn λx hx'=>qPJ (hx x hx');have e2:=ER 2 w.Kerf r.X.B (trB L) r.X.A (by rw[e1];exact g);rw[e1] at e2;have e3:l=qX (rowT 2 w.Kerf r.X.B r.X.A (trB L)):=by rw[e2,e];rfl
 have hd:(l.getD 0 default).Kind=2\/(l.getD 0 default).Kind=1:=by
  rw[e];unfold rowN
  match L,ne,hx with
  |x::L,_,hx=>
   obtain⟨_,k,_,_,ex⟩:=hx x List.mem_cons_self;rw[PU];by_cases c:x.1.B<r.X.B
   ·rw[if_pos c];by_cases c2:x.1.A>r.X.A
    ·rw[if_pos c2];exact .inl rfl
    ·rw[if_neg c2];exact .inl rfl
   ·rw[if_neg c];by_cases c2:x.1.A>r.X.A
    ·rw[if_pos c2];exact .inl rfl
    ·rw[if_neg c2,ex];exact .inr rfl
 refine⟨_,?_,e3,by omega,by omega⟩;apply qJS rfl;intro y hy;unfold trB at hy;obtain⟨x,hx',rfl⟩:=List.mem_map.1 hy;obtain⟨_,k,_,_,ex⟩:=hx x hx';show ripB ((x.2.getD 0 default).Kind)=false;rw[ex];rfl
def okSt (ps:List Product) (w:Saw) (F:Rect) (x:Pt):Prop:=(x.1.A-F.Y.A) % w.Pitch=0/\x.1.B-x.1.A∈hts ps/\Strp ps w ⟨F.X,x.1⟩ x.2
def Mem (ps:List Product) (w:Saw) (F:Rect) (l:List Node):Prop:=l.length<=127/\∃L:List Pt,goodL w.Kerf F.Y.B F.Y.A L/\l=rowN 3 w.Kerf F.Y L/\∀x∈L,okSt ps w F x
theorem qRs {x:Pt} (h:okSt ps w F x):okPt 3 x.2:=strp_pt h.2.2
theorem qQD (l:List Int) (a:Int) (hl:l.length<=1000000):∃v,ZQ l a=some v/\(v=true↔a∈l):=by
 unfold ZQ TO;have key:∀(d i n:Nat),i+d=l.length->d<n->∃u,yS l a n (i:Int)=some u/\(Sum.elim (λv=>decide (v≥0)) (λ_=>false) u=true↔a∈l.drop i):=by
  intro d
  induction d with
  |zero=>
   intro i n hi hn;obtain⟨n,rfl⟩:∃m,n=m+1:=⟨n-1,by omega⟩
   refine⟨.inr (),?_,?_⟩
   ·rw[yS,decide_eq_false (by omega)];rfl
   ·rw[List.drop_eq_nil_of_le (by omega)];simp
  |succ d ih=>
   intro i n hi hn;obtain⟨n,rfl⟩:∃m,n=m+1:=⟨n-1,by omega⟩
   rw[yS,decide_eq_true (by omega),qL (by omega) (by omega),qP (by omega),XQ l i (by omega)];simp only[cond_true,Int.toNat_natCast];by_cases c:a=l.getD i default
   ·rw[show(a==l.getD i default)=true by rw[beq_iff_eq];exact c];exact⟨.inl (i:Int),rfl,λ_=>by rw[c];exact List.mem_cons_self,λ_=>by simp⟩
   ·rw[show(a==l.getD i default)=false by rw[beq_eq_false_iff_ne];exact c];obtain⟨u,e,hu⟩:=ih (i+1) n (by omega) (by omega);exact⟨u,e,hu.trans (by rw[List.mem_cons];exact⟨.inr,λh=>h.resolve_left c⟩)⟩
 obtain⟨u,e,hu⟩:=key l.length 0 FUEL (by omega) (by rw[FUEL_eq];omega);rw[List.drop_zero] at hu;rw[show((0:Nat):Int)=0 from rfl] at e;rw[e];cases u with
 |inl v=>exact⟨decide (v≥0),rfl,hu⟩
 |inr v=>exact⟨false,rfl,hu⟩
theorem qSq {axis kerf B:Int} (L:List Pt) (e:Int) (g:goodL kerf B e L):L.length<=(rowB axis kerf B e L).1.length+1:=qK3.rowB_ge L e g λ_ _=>trivial
theorem qKV {r:Rect}:yZ r=some 0↔VR r:=by
 rw[EL];unfold VR;constructor
 ·intro h;have h:=Option.some.inj h;split at h
  ·cases h
  ·split at h
   ·cases h
   ·omega
 ·intro h;rw[if_neg (by omega),if_neg (by omega)]
open Classical in
theorem qS6 (p:Pattern) (ps:List Product) (w:Saw):∃b,JL p ps w=some b/\(b=true↔zO ps=0/\VW w ⟨0,0,0⟩/\VR p.Frame/\Mem ps w p.Frame p.Nodes):=by
 unfold JL;rw[SE,qEw];simp only[Option.bind_some];by_cases c1:zO ps=0
 ·rw[show(zO ps !=0)=false by rw[bne_eq_false_iff_eq];exact c1,cond_false];by_cases c2:BK w ⟨0,0,0⟩=0
  ·rw[show(BK w ⟨0,0,0⟩ !=0)=false by rw[bne_eq_false_iff_eq];exact c2,cond_false];have hw:=(DF w ⟨0,0,0⟩).1 c2;by_cases c3:VR p.Frame
   ·rw[qKV.2 c3];simp only[Option.bind_some,bne_self_eq_false];unfold VC;obtain⟨A,P,b,e,i1,i2⟩:=qSB c3 (axis:=3) (.inr rfl) hw.kerf p.Nodes;have hs:=qNM c3 3;have ea:axS p.Frame 3=p.Frame.Y:=rfl;rw[ea] at i1 i2 hs;have hp:=hw.pitch;have hr':=c3;unfold VR at hr';rw[cond_false,e];simp only[Option.bind_some];cases b with
    |false=>
     refine⟨false,rfl,Iff.intro (λh=>by cases h) λh=>?_⟩;obtain⟨_,_,_,h1,L,g,eL,hx⟩:=h;have:=(i2 L g eL h1 λx hx'=>qRs (hx x hx')).1;cases this
    |true=>
     obtain⟨L,eA,eP,g,eL,hl⟩:=i1 rfl;subst eA;subst eP;have hLb:=qDK hw.kerf (by omega) g;have uniq:(zO ps=0/\VW w ⟨0,0,0⟩/\VR p.Frame/\Mem ps w p.Frame p.Nodes)↔∀x∈L,okSt ps w p.Frame x:=by
      constructor
      ·rintro⟨_,_,_,h1,L',g',eL',hx⟩;obtain⟨_,q1,q2⟩:=i2 L' g' eL' h1 λx hx'=>qRs (hx x hx');have:L=L':=by
        have z:∀M:List Pt,M=(M.map Prod.fst).zip (M.map Prod.snd):=λM=>by
         induction M with
         |nil=>rfl
         |cons a M ih=>simp only[List.map_cons,List.zip_cons_cons];rw[<-ih]
        rw[z L,z L',q1,q2]
       subst this;exact hx
      ·intro hx;exact⟨c1,hw,c3,hl,L,g,eL,hx⟩
     rw[uniq,qER];simp only[Bool.not_true,cond_false,Option.bind_some];have hLl:L.length<=100000:=by
      have:=qSq (axis:=3) L _ g;have e2:p.Nodes.length=(rowN 3 w.Kerf p.Frame.Y L).length:=by rw[<-eL]
      unfold rowN at e2;rw[List.length_append] at e2;omega
     have hh:=qLq ps;have lf:=RH L (λn x=>QV p ps w (L.map Prod.fst,L.map Prod.snd,true) (hts ps) n x) (λx=>if okSt ps w p.Frame x then none else some false) (by omega)
      (λn i hi=>by
       generalize ex:L.getD i default=x;have hxb:=hLb x (by rw[<-ex];exact jS hi);have hxa:(L.map Prod.fst).getD i default=x.1:=by rw[XR.getD_map'' Prod.fst hi,ex]
       have hxc:(L.map Prod.snd).getD i default=x.2:=by rw[XR.getD_map'' Prod.snd hi,ex]
       rw[QV];simp only[Int.toNat_natCast,hxa,List.length_map];unfold LD;simp only[Int.toNat_natCast,hxa,hxc,List.length_map];rw[decide_eq_true (by omega),qL (i:=(i:Int)) (n:=L.length) (by omega) (by omega),nz_t (by omega),qF (n:=x.1.A-p.Frame.Y.A) (by omega) (by omega),qF (n:=x.1.B-x.1.A) (by omega) (by omega),Int.tmod_eq_emod_of_nonneg (by omega),qP (by omega)];simp only[cond_true];by_cases k1:(x.1.A-p.Frame.Y.A) % w.Pitch=0
       ·rw[show((x.1.A-p.Frame.Y.A) % w.Pitch !=0)=false by rw[bne_eq_false_iff_eq];exact k1,cond_false];obtain⟨v,ev,hv⟩:=qQD (hts ps) (x.1.B-x.1.A) (by omega);rw[ev];simp only[Option.bind_some];obtain⟨b,eb,hb⟩:=qK3 (r:=⟨p.Frame.X,x.1⟩) (by unfold VR;simp only;omega) hw ps x.2;rw[eb];simp only[Option.bind_some];cases v with
        |false=>
         rw[Bool.not_false,cond_true,if_neg];rintro⟨_,h2,_⟩;have:=hv.2 h2;cases this
        |true=>
         rw[Bool.not_true,cond_false];cases b with
         |false=>
          rw[Bool.not_false,cond_true,if_neg];rintro⟨_,_,h3⟩;have:=hb.2 h3;cases this
         |true=>
          rw[Bool.not_true,cond_false,if_pos ⟨k1,hv.1 rfl,hb.1 rfl⟩]
       ·rw[show((x.1.A-p.Frame.Y.A) % w.Pitch !=0)=true by rw[bne_iff_ne];exact k1,cond_true,if_neg];exact λh=>k1 h.1)
      (λn=>by rw[QV,List.length_map,decide_eq_false (by omega)];rfl)
     rw[lf];by_cases hall:∀x∈L,okSt ps w p.Frame x
     ·rw[GW.2 λx hx=>by rw[if_pos (hall x hx)]];exact⟨true,rfl,Iff.intro (λ_=>hall) λ_=>rfl⟩
     ·have:findE (λx=>if okSt ps w p.Frame x then none else some false) L= .inl false:=by
       have gen:∀M:List Pt,¬(∀x∈M,okSt ps w p.Frame x)->findE (λx=>if okSt ps w p.Frame x then none else some false) M= .inl false:=by
        intro M
        induction M with
        |nil=>intro h;exact absurd (λx hx=>by cases hx) h
        |cons a M ih=>
         intro h;rw[findE];by_cases ca:okSt ps w p.Frame a
         ·rw[if_pos ca];exact ih λhh=>h λx hx=>(List.mem_cons.1 hx).elim (λe=>e▸ca) (hh x)
         ·rw[if_neg ca]
       exact gen L hall
      rw[this];exact⟨false,rfl,Iff.intro (λh=>by cases h) λh=>absurd h hall⟩
   ·obtain⟨n,en,hn⟩:∃n,yZ p.Frame=some n/\n≠0:=by
     refine⟨_,EL p.Frame,λh=>c3 (qKV.1 ?_)⟩;rw[EL,h]
    rw[en];simp only[Option.bind_some];rw[show(n !=0)=true by rw[bne_iff_ne];exact hn];exact⟨false,rfl,Iff.intro (λh=>by cases h) λh=>absurd h.2.2.1 c3⟩
  ·rw[show(BK w ⟨0,0,0⟩ !=0)=true by rw[bne_iff_ne];exact c2];exact⟨false,rfl,Iff.intro (λh=>by cases h) λh=>absurd ((DF _ _).2 h.2.1) c2⟩
 ·rw[show(zO ps !=0)=true by rw[bne_iff_ne];exact c1];exact⟨false,rfl,Iff.intro (λh=>by cases h) λh=>absurd h.1 c1⟩
end Go.SL.Saw
namespace Go.SL.Saw
variable {l :List qB} {ds:List Defect} {ps:List Product} {w:Saw} {t:Rates} {F r:Rect}
abbrev Ent3 :=Nat×Nat×Int
def seqV (a:Line):Nat->List Ent3->Int
 |p,[]=>pre a.Chip a.Len.toNat-pre a.Chip p
 |p,x::r=>(if x.1=p then 0 else restV a p x.1)+x.2.2+(if(x.2.1:Int)=a.Len then 0 else(pre a.Dust (nxtN a x.2.1)-pre a.Dust x.2.1)+seqV a (nxtN a x.2.1) r)
def qNX (a:Line) (D:Prop) (x:Ent3):Prop:=(∃i,i<a.Sizes.length/\szAt a i=(x.2.1:Int)-x.1/\¬gnAt a i x.1<0/\x.2.2<=gnAt a i x.1)\/(D/\x.2.2<=pre a.Chip x.2.1-pre a.Chip x.1)
def qJM (a:Line) (D:Prop):Nat->List Ent3->Prop
 |_,[]=>True
 |p,x::r=>(x.1=p\/p+a.Kerf.toNat+1<=x.1)/\x.1<x.2.1/\(x.2.1:Int)<=a.Len/\qNX a D x/\(if(x.2.1:Int)<a.Len then qJM a D (nxtN a x.2.1) r else r=[])
theorem stt_ge {a:Line} (h:VL a) {i q:Nat} (hi:i<a.Sizes.length) (hq:¬((q:Int)+szAt a i>a.Len)) (hg:¬gnAt a i q<0):isNo (stt a q)=false/\candV a (bst a) q i<=(stt a q).value:=by
 have sz:=h.sz i hi;have sz':1<=szAt a i:=sz.1;rw[qKS h (by omega)];exact qTf hi hq hg
theorem qGm {a:Line} (h:VL a) (h1:a.Pitch=1) {p q:Nat} (hq:q=p\/p+a.Kerf.toNat+1<=q) (hl:(q:Int)<=a.Len) (hn:isNo (stt a q)=false):(stt a q).value+(if q=p then 0 else restV a p q)<=(bst a p).value:=by
 have kf:=h.kerf;rw[bst_eq h (show(p:Int)<=a.Len by omega)];obtain⟨_,g2,g3⟩:=qIw a (stt a) p;rcases hq with rfl|hq
 ·rw[if_pos rfl];have:=g2 hn;omega
 ·rw[if_neg (by omega)];have e:placeN a p (q-p-a.Kerf.toNat-1)=q:=by unfold placeN;rw[h1,show(1:Int).toNat=1 from rfl];omega
  have:=g3 (q-p-a.Kerf.toNat-1) ((places_lt h).2 (by rw[e];exact hl));rw[e] at this;exact this hn
theorem qLv {a:Line} (h:VL a) {p:Nat} (hp:(p:Int)<=a.Len):pre a.Chip a.Len.toNat-pre a.Chip p<=(bst a p).value:=by
 rw[bst_eq h hp];exact(qIw a (stt a) p).1
theorem skip_le {a:Line} (h:VL a) (h1:a.Pitch=1) (hD:∀i j:Nat,i<=j->(j:Int)<=a.Len->pre a.Dust j-pre a.Dust i<=pre a.Chip j-pre a.Chip i) {p e:Nat} (hpe:p<e) (he:(e:Int)<a.Len):
  pre a.Chip e-pre a.Chip p+(pre a.Dust (nxtN a e)-pre a.Dust e)+(bst a (nxtN a e)).value<=(bst a p).value:=by
 have kf:=h.kerf;have mi:=imin_or ((e:Int)+a.Kerf) a.Len;have en:(nxtN a e:Int)=imin ((e:Int)+a.Kerf) a.Len:=by unfold nxtN;omega
 have hd:=hD e (nxtN a e) (by omega) (by omega);have cl:=qLv h (p:=p) (by omega);have start:∀q:Nat,(q:Int)<=a.Len->isNo (stt a q)=false->(q:Int)<a.Len:=λq hq hn=>by
  rw[qKS h hq] at hn;rcases startS_is a (bst a) q with e|⟨i,h1,h2,h3,e⟩
  ·rw[e] at hn;cases hn
  ·have:=(h.sz i h1).1;have:1<=szAt a i:=this;omega
 rcases(show IsBs a (stt a) (nxtN a e) (bst a (nxtN a e)) by rw[bst_eq h (by omega)];exact bestS_is a (stt a) (nxtN a e)) with q|⟨hn,q⟩|⟨k,hk,hn,q⟩
 ·rw[q];show _+(pre a.Chip a.Len.toNat-pre a.Chip (nxtN a e))<=_;omega
 ·rw[q];have hlt:=start _ (by omega) hn;have g:=qGm h h1 (p:=p) (q:=nxtN a e) (.inr (by omega)) (by omega) hn;rw[if_neg (by omega)] at g;unfold restV at g;rw[show nxtN a e-a.Kerf.toNat=e by omega] at g;omega
 ·rw[q];have hlo:=SI h (nxtN a e) k;have hpl:=(places_lt h).1 hk;have g:=qGm h h1 (p:=p) (q:=placeN a (nxtN a e) k) (.inr (by omega)) hpl hn;rw[if_neg (by omega)] at g;show _+((stt a (placeN a (nxtN a e) k)).value+restV a (nxtN a e) (placeN a (nxtN a e) k))<=_;unfold restV at g⊢;omega
theorem qOX {a:Line} (h:VL a) (h1:a.Pitch=1) {D:Prop} (hD:D->∀i j:Nat,i<=j->(j:Int)<=a.Len->pre a.Dust j-pre a.Dust i<=pre a.Chip j-pre a.Chip i):∀(L:List Ent3) (p:Nat),(p:Int)<=a.Len->qJM a D p L->seqV a p L<=(bst a p).value
 |[],p,hp,_=>qLv h hp
 |x::r,p,hp,ok=>by
  obtain⟨o1,o2,o3,o4,o5⟩:=ok;have kf:=h.kerf;have mi:=imin_or ((x.2.1:Int)+a.Kerf) a.Len;have en:(nxtN a x.2.1:Int)=imin ((x.2.1:Int)+a.Kerf) a.Len:=by unfold nxtN;omega
  have tail:(x.2.1:Int)<a.Len->seqV a (nxtN a x.2.1) r<=(bst a (nxtN a x.2.1)).value:=λc=>by
   rw[if_pos c] at o5;exact qOX h h1 hD r _ (by omega) o5
  unfold seqV;rcases o4 with⟨i,hi,hsz,hg,hv⟩|⟨d,hv⟩
  ·have ee:endN a x.1 i=x.2.1:=by unfold endN;omega
   obtain⟨sn,sv⟩:=stt_ge h hi (q:=x.1) (by omega) hg;have g:=qGm h h1 o1 (by omega) sn;unfold candV at sv;rw[ee] at sv;by_cases c:(x.2.1:Int)=a.Len
   ·rw[if_pos c] at sv⊢;omega
   ·rw[if_neg c] at sv⊢;have:=tail (by omega);omega
  ·have hD':=hD d;have gap:(if x.1=p then 0 else restV a p x.1)<=pre a.Chip x.1-pre a.Chip p:=by
    by_cases c:x.1=p
    ·rw[if_pos c,c];omega
    ·rw[if_neg c];unfold restV;have:=hD' (x.1-a.Kerf.toNat) x.1 (by omega) (by omega);omega
   by_cases c:(x.2.1:Int)=a.Len
   ·rw[if_pos c];have:=qLv h (p:=p) hp;rw[show a.Len.toNat=x.2.1 by omega] at this;omega
   ·rw[if_neg c];have:=tail (by omega);have:=skip_le h h1 hD' (p:=p) (e:=x.2.1) (by omega) (by omega);omega
def entQ (φ:Leaf->Int) (κ:Rect->Int) (axis kerf:Int) (R:Rect) (A:Int) (x:Pq):Ent3:=((x.1.A-A).toNat,(x.1.B-A).toNat,tv φ κ kerf x.2 (wiP R axis x.1))
theorem qLi {a:Line} (h:VL a) {φ:Leaf->Int} {κ:Rect->Int} {axis:Int} {R:Rect} {A:Int}
  (hC:∀i j:Nat,i<=j->(j:Int)<=a.Len->pre a.Chip j-pre a.Chip i=φ ⟨wiP R axis ⟨A+i,A+j⟩,-1⟩)
  (hD:∀i j:Nat,i<=j->(j:Int)<=a.Len->pre a.Dust j-pre a.Dust i=κ (wiP R axis ⟨A+i,A+j⟩)) (D:Prop):∀(L:List Pq) (p:Nat),(p:Int)<=a.Len->goodL a.Kerf (A+a.Len) (A+p) (L.map ptP)->(∀x∈L,qNX a D (entQ φ κ axis a.Kerf R A x))->
  rowV φ κ axis a.Kerf R (A+a.Len) (A+p) L=seqV a p (L.map (entQ φ κ axis a.Kerf R A))/\qJM a D p (L.map (entQ φ κ axis a.Kerf R A))
 |[],p,hp,_,_=>by
  have ln:=h.len;refine⟨?_,trivial⟩;show φ ⟨wiP R axis ⟨A+p,A+a.Len⟩,-1⟩=pre a.Chip a.Len.toNat-pre a.Chip p;rw[hC p a.Len.toNat (by omega) (by omega),show((a.Len.toNat:Nat):Int)=a.Len by omega]
 |x::r,p,hp,hg,hx=>by
  have kf:=h.kerf;obtain⟨g1,g2,g3,g4⟩:=hg;have g1':x.1.A<x.1.B:=g1;have g2':x.1.A=A+p\/A+p+a.Kerf+1<=x.1.A:=g2;have g3':x.1.B<=A+a.Len:=g3;have mi:=imin_or (((x.1.B-A).toNat:Int)+a.Kerf) a.Len;have mi2:=imin_or (x.1.B+a.Kerf) (A+a.Len);have en:(nxtN a (x.1.B-A).toNat:Int)=imin (((x.1.B-A).toNat:Int)+a.Kerf) a.Len:=by unfold nxtN;omega
  have em:imin (x.1.B+a.Kerf) (A+a.Len)=A+(nxtN a (x.1.B-A).toNat:Int):=by omega
  have ih:x.1.B<A+a.Len->rowV φ κ axis a.Kerf R (A+a.Len) (A+(nxtN a (x.1.B-A).toNat:Nat)) r=seqV a (nxtN a (x.1.B-A).toNat) (r.map (entQ φ κ axis a.Kerf R A))/\qJM a D (nxtN a (x.1.B-A).toNat) (r.map (entQ φ κ axis a.Kerf R A)):=λc=>by
   have g5:goodL a.Kerf (A+a.Len) (imin (x.1.B+a.Kerf) (A+a.Len)) (r.map ptP):=by
    rw[if_pos (show(ptP x).1.B<A+a.Len from c)] at g4;exact g4
   rw[em] at g5;exact qLi h hC hD D r _ (by omega) g5 λy hy=>hx y (List.mem_cons_of_mem _ hy)
  have e1:(((x.1.A-A).toNat:Nat):Int)=x.1.A-A:=by omega
  have e2:(((x.1.B-A).toNat:Nat):Int)=x.1.B-A:=by omega
  refine⟨?_,?_⟩
  ·unfold rowV;rw[List.map_cons];unfold seqV;have gap:(if x.1.A>A+p then φ ⟨wiP R axis ⟨A+p,x.1.A-a.Kerf⟩,-1⟩+κ (wiP R axis ⟨x.1.A-a.Kerf,x.1.A⟩) else 0)=(if(x.1.A-A).toNat=p then 0 else restV a p (x.1.A-A).toNat):=by
    by_cases c:x.1.A>A+p
    ·rw[if_pos c,if_neg (by omega)];unfold restV;have k1:=hC p ((x.1.A-A).toNat-a.Kerf.toNat) (by omega) (by omega);have k2:=hD ((x.1.A-A).toNat-a.Kerf.toNat) (x.1.A-A).toNat (by omega) (by omega);rw[show A+(((x.1.A-A).toNat-a.Kerf.toNat:Nat):Int)=x.1.A-a.Kerf by omega] at k1 k2;rw[show A+(((x.1.A-A).toNat:Nat):Int)=x.1.A by omega] at k2;rw[<-k1,<-k2];omega
    ·rw[if_neg c,if_pos (by omega)]
   have tl:(if x.1.B<A+a.Len then κ (wiP R axis ⟨x.1.B,imin (x.1.B+a.Kerf) (A+a.Len)⟩)+rowV φ κ axis a.Kerf R (A+a.Len) (imin (x.1.B+a.Kerf) (A+a.Len)) r else 0)
     =(if(((x.1.B-A).toNat:Nat):Int)=a.Len then 0 else(pre a.Dust (nxtN a (x.1.B-A).toNat)-pre a.Dust (x.1.B-A).toNat)+seqV a (nxtN a (x.1.B-A).toNat) (r.map (entQ φ κ axis a.Kerf R A))):=by
    by_cases c:x.1.B<A+a.Len
    ·rw[if_pos c,if_neg (by omega),em,(ih c).1,hD _ _ (by omega) (by omega),show A+(((x.1.B-A).toNat:Nat):Int)=x.1.B by omega]
    ·rw[if_neg c,if_pos (by omega)]
   rw[gap,tl];rfl
  ·rw[List.map_cons];refine⟨?_,?_,?_,hx x List.mem_cons_self,?_⟩
   ·show(x.1.A-A).toNat=p\/p+a.Kerf.toNat+1<=(x.1.A-A).toNat;omega
   ·show(x.1.A-A).toNat<(x.1.B-A).toNat;omega
   ·show(((x.1.B-A).toNat:Nat):Int)<=a.Len;omega
   ·show(if(((x.1.B-A).toNat:Nat):Int)<a.Len then qJM a D (nxtN a (x.1.B-A).toNat) (r.map (entQ φ κ axis a.Kerf R A)) else r.map (entQ φ κ axis a.Kerf R A)=[]);by_cases c:x.1.B<A+a.Len
    ·rw[if_pos (by omega)];exact(ih c).2
    ·rw[if_neg (by omega)];have g5:r.map ptP=[]:=by
      rw[if_neg (show¬(ptP x).1.B<A+a.Len from c)] at g4;exact g4
     have:r=[]:=by simpa using g5
     rw[this];rfl
theorem qLB {kerf axis B:Int} {R:Rect} (ha:axis=2\/axis=3) (hk:0<=kerf/\kerf<=20) (hB:B<=600):∀(L:List Pq) (e:Int),-600<=e->e<=B->goodL kerf B e (L.map ptP)->∀x∈L,∀y∈lvT kerf x.2 ⟨wiP R axis x.1,1⟩,y∈lvT kerf (rowT axis kerf B e L) ⟨wiP R axis ⟨e,B⟩,1⟩
 |[],e,_,_,_,x,hx=>by cases hx
 |x::r,e,he,heB,h,z,hz=>by
  obtain⟨h1,h2,h3,h4⟩:=h;have h1':x.1.A<x.1.B:=h1;have h2':x.1.A=e\/e+kerf+1<=x.1.A:=h2;have h3':x.1.B<=B:=h3;have hr:ripB axis=true:=ripB_iff.2 ha;have inner:∀y∈lvT kerf z.2 ⟨wiP R axis z.1,1⟩,y∈lvT kerf (if x.1.B<B then .rip ⟨axis,x.1.B⟩ x.2 (rowT axis kerf B (imin (x.1.B+kerf) B) r) else x.2) ⟨wiP R axis ⟨x.1.A,B⟩,1⟩:=by
   intro y hy;by_cases c:x.1.B<B
   ·rw[if_pos c];rw[if_pos (show(ptP x).1.B<B from c)] at h4;have mm:=imin_or (x.1.B+kerf) B;rw[(qBN (n:=⟨axis,x.1.B⟩) hr).1];simp only;rw[qNO,qHd R axis x.1.B kerf ⟨x.1.A,B⟩ (by omega) hk,(EU kerf x.2 _ (1+1) 1).1,(EU kerf (rowT axis kerf B (imin (x.1.B+kerf) B) r) _ (1+1) 1).1];rcases List.mem_cons.1 hz with rfl|hz
    ·exact List.mem_append.2 (.inl hy)
    ·exact List.mem_append.2 (.inr (qLB ha hk hB r (imin (x.1.B+kerf) B) (by omega) (by omega) h4 z hz y hy))
   ·rw[if_neg c];rw[if_neg (show¬(ptP x).1.B<B from c)] at h4;have hr0:r=[]:=by simpa using h4
    subst hr0;have:x.1.B=B:=by omega
    have e2:(⟨x.1.A,B⟩:Span)=x.1:=by rw[<-this]
    rw[e2];rw[List.mem_singleton] at hz;subst hz;exact hy
  unfold rowT;intro y hy;by_cases ca:x.1.A>e
  ·rw[if_pos ca];have mm:=imin_or (x.1.A-kerf+kerf) B;rw[(qBN (n:=⟨axis,x.1.A-kerf⟩) hr).1];simp only;rw[qHd R axis (x.1.A-kerf) kerf ⟨e,B⟩ (by omega) hk,(EU kerf (if x.1.B<B then .rip ⟨axis,x.1.B⟩ x.2 (rowT axis kerf B (imin (x.1.B+kerf) B) r) else x.2) _ (1+1) 1).1];simp only;rw[show imin (x.1.A-kerf+kerf) B=x.1.A by omega];exact List.mem_append.2 (.inr (inner y hy))
  ·rw[if_neg ca];have:x.1.A=e:=by omega
   rw[<-this];exact inner y hy
end Go.SL.Saw
namespace Go.SL.Saw
theorem qMY :∀(l:List Node) (x:Nat) (s:Int),foldi (λ_ (n:Node) (c:Int)=>bif n.Kind==1 then c+1 else c) x l s=s+((l.filter (λn=>n.Kind==1)).length:Int)
 |[],_,s=>by simp[foldi]
 |n::l,x,s=>by
  show foldi _ (x+1) l (bif n.Kind==1 then s+1 else s)=_;rw[qMY l (x+1) _];by_cases h:n.Kind=1
  ·have h':(n.Kind==1)=true:=by simpa using h
   simp[h'];omega
  ·have h':(n.Kind==1)=false:=by simpa using h
   simp[h']
end Go.SL.Saw

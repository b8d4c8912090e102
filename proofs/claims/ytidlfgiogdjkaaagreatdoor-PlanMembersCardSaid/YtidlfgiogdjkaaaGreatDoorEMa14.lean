/- PlanMembers. -/
import Derived.Test.YtidlfgiogdjkaaaGreatDoorEMa13
import Derived.Test.YtidlfgiogdjkaaaGreatDoorEMa9
set_option linter.unusedVariables false
set_option linter.unusedSimpArgs false
namespace Go.SL.Saw
variable {ps :List Product} {w:Saw} {t:Rates} {F r:Rect}
theorem qN1 (a b:List Node) (ha:a.length<=1000000):∃v,RT a b=some v/\(v=true↔a=b):=by
 unfold RT;by_cases hl:a.length=b.length
 ·rw[show(((a.length:Nat):Int) !=((b.length:Nat):Int))=false by rw[bne_eq_false_iff_eq];omega,cond_false];obtain⟨u,e,hu⟩:=qIm (λn x=>QR a b n x) a b hl ha (λn x hx=>by
   rw[QR,decide_eq_true (by omega),qG (by omega) (by omega),qG (by omega) (by omega),qO (by omega)];rfl) (λn=>by rw[QR,decide_eq_false (by omega)];rfl)
  rw[e];cases u with
  |inl v=>exact⟨v,rfl,hu⟩
  |inr v=>exact⟨true,rfl,hu⟩
 ·rw[show(((a.length:Nat):Int) !=((b.length:Nat):Int))=true by rw[bne_iff_ne];omega];exact⟨false,rfl,Iff.intro (λh=>by cases h) (λh=>absurd (by rw[h]) hl)⟩
theorem qRs (hr:VR r) {axis kerf:Int} (ha:axis=2\/axis=3) (hk:0<=kerf/\kerf<=20) {l:List Node} (hl:l.length<=127) {U:List Ref24_part} (hU:PI l U):
  ∃v,LM l r axis kerf U=some v/\(v=true↔goodL kerf (axS r axis).B (axS r axis).A (U.map (ptU l))/\l=rowN axis kerf (axS r axis) (U.map (ptU l))):=by
 have hn:=hU.1;have k1:=JR U (λn (s:List (List Node)) x=>PP l U n s x) (λx=>(x:Int)) (λ_ u s=>s++[(ptU l u).2]) (λs=>s) (λx s=>s.length=x) (by omega)
  (λn x s hx hs=>by
   obtain⟨f,g,e1,e2,h1,h2⟩:=hU.2 _ (wK hx);refine⟨?_,by simp[hs]⟩;rw[PP,decide_eq_true (by omega),qG (by omega) (by omega),qO (by omega)];simp only[cond_true,Int.toNat_natCast];rw[qG0 (by rw[e1];omega) (by rw[e1,e2];omega) (by rw[e2];omega),qN (by omega) (by omega)];rfl)
  (λn s _=>by rw[PP];simp) (i:=0) rfl [] rfl
 have k2:=JR U (λn (s:List Span) x=>KB U n s x) (λx=>(x:Int)) (λ_ u s=>s++[(ptU l u).1]) (λs=>s) (λx s=>s.length=x) (by omega)
  (λn x s hx hs=>by
   refine⟨?_,by simp[hs]⟩;rw[KB,decide_eq_true (by omega),qG (by omega) (by omega),qO (by omega),qN (by omega) (by omega)];rfl)
  (λn s _=>by rw[KB];simp) (i:=0) rfl [] rfl
 have f1:∀(M:List Ref24_part) (x:Nat) (s:List (List Node)),foldi (λ_ u s=>s++[(ptU l u).2]) x M s=s++(M.map (ptU l)).map Prod.snd:=by
  intro M
  induction M with
  |nil=>intro x s;simp[foldi]
  |cons a M ih=>intro x s;show foldi _ (x+1) M _=_;rw[ih];simp
 have f2:∀(M:List Ref24_part) (x:Nat) (s:List Span),foldi (λ_ u s=>s++[(ptU l u).1]) x M s=s++(M.map (ptU l)).map Prod.fst:=by
  intro M
  induction M with
  |nil=>intro x s;simp[foldi]
  |cons a M ih=>intro x s;show foldi _ (x+1) M _=_;rw[ih];simp
 rw[f1,List.nil_append] at k1;rw[f2,List.nil_append] at k2;unfold LM CL;rw[k1.1,k2.1];simp only[Option.bind_some];have hnd:ndC (U.map (ptU l))+1<=1000000:=by
  have gen:∀M:List Ref24_part,ndC (M.map (ptU l))<=130*M.length:=by
   intro M
   induction M with
   |nil=>simp[ndC]
   |cons a M ih=>
    have e:ndC ((a::M).map (ptU l))=3+(ptU l a).2.length+ndC (M.map (ptU l)):=by simp[ndC]
    have:(ptU l a).2.length<=127:=by
     unfold ptU;simp only[List.length_take,List.length_drop];omega
    rw[e,List.length_cons,Nat.mul_add];omega
  have:=gen U;omega
 have hml:(U.map (ptU l)).length<=100000:=by rw[List.length_map];omega
 obtain⟨q,hq,hi⟩:=rRow_is hr ha hk hml hnd;rw[hq];simp only[Option.bind_some];unfold HY;by_cases c:q.2=0
 ·obtain⟨i1,i2,i3⟩:=hi c;rw[show(q.2==0)=true by rw[beq_iff_eq];exact c];obtain⟨v,ev,hv⟩:=qN1 l q.1 (by omega);simp only[cond_true];rw[ev];exact⟨v,rfl,hv.trans ⟨λh=>⟨i1,h.trans i2⟩,λh=>h.2.trans i2.symm⟩⟩
 ·rw[show(q.2==0)=false by rw[beq_eq_false_iff_ne];exact c];refine⟨false,rfl,Iff.intro (λh=>by cases h) λh=>?_⟩;rw[qRV hr ha hk hml h.1 hnd,<-h.2] at hq;unfold rowR at hq;rw[if_pos hl] at hq;have:=Option.some.inj hq;rw[<-this] at c;exact absurd rfl c
theorem qP4 (hr:VR r) {axis kerf:Int} (ha:axis=2\/axis=3) (hk:0<=kerf/\kerf<=20) {l:List Node} (hl:l.length<=127):
  ∃U b,DN l (axS r axis) axis kerf=some (U,b)/\(b=true->PI l U)
  /\(∀L:List Pt,goodL kerf (axS r axis).B (axS r axis).A L->l=rowN axis kerf (axS r axis) L->(∀x∈L,okPt axis x.2)->b=true/\U.map (ptU l)=L):=by
 have hs:=qDa hr axis;obtain⟨u,e,hu⟩:=qUY hl (axS r axis) axis kerf l.length FUEL 0 [] (axS r axis).A false (by omega) (by rw[FUEL_eq];omega) ⟨Nat.zero_le _,λu hu=>by cases hu⟩ (Nat.le_refl _);rw[show((0:Nat):Int)=0 from rfl] at e;have back:∀L:List Pt,goodL kerf (axS r axis).B (axS r axis).A L->l=rowN axis kerf (axS r axis) L->(∀x∈L,okPt axis x.2)->∃V,u= .inl (V,true)/\V.map (ptU l)=L:=λL g1 g2 g3=>by
  have:=qMM hl (s:=axS r axis) ha hk hs.2.1 L (axS r axis).A FUEL 0 [] hs.1 (by omega) g1 g3 (by rw[List.drop_zero,g2];rfl) (by rw[FUEL_eq];omega) (Nat.le_refl _);rw[show((0:Nat):Int)=0 from rfl,e] at this;exact⟨_,Option.some.inj this.1,this.2⟩
 unfold DN;rw[e];simp only[Option.bind_some];cases u with
 |inl v=>
  obtain⟨U,b⟩:=v;refine⟨U,b,rfl,λhb=>by subst hb;exact hu U rfl,λL g1 g2 g3=>?_⟩;obtain⟨V,e1,e2⟩:=back L g1 g2 g3;injection e1 with e1;injection e1 with e1 e3;rw[e1,e3];exact⟨rfl,e2⟩
 |inr v=>
  refine⟨[],false,rfl,(λh=>by cases h),λL g1 g2 g3=>?_⟩;obtain⟨V,e1,_⟩:=back L g1 g2 g3;cases e1
theorem qTD {l:List Node} {u:Ref24_part} {f g:Nat} (e1:u.from_=(f:Int)) (e2:u.to=(g:Int)) (h1:f<g) (h2:g<=l.length):(ptU l u).2.length=g-f/\(ptU l u).2.getD 0 default=l.getD f default:=by
 unfold ptU;rw[e1,e2];simp only[Int.toNat_natCast];refine⟨by simp;omega,?_⟩;rw[jP l f (by omega)];obtain⟨k,hk⟩:∃k,g-f=k+1:=⟨g-f-1,by omega⟩
 rw[hk,List.take_succ_cons];rfl
open Classical in
theorem qGg {α:Type} (p:α->Prop):∀M:List α,¬(∀x∈M,p x)->findE (λx=>if p x then none else some false) M= .inl false
 |[],h=>absurd (λx hx=>by cases hx) h
 |a::M,h=>by
  rw[findE];by_cases ca:p a
  ·rw[if_pos ca];exact qGg p M λhh=>h λx hx=>(List.mem_cons.1 hx).elim (λe=>e▸ca) (hh x)
  ·rw[if_neg ca]
open Classical in
theorem qQH (hr:VR r) (hw:VW w t) (ps:List Product) {l:List Node} (hl:l.length<=127):∃b,PJ l r ps w=some b/\(b=true↔Strp ps w r l):=by
 obtain⟨U,b,e,i1,i2⟩:=qP4 hr (axis:=2) (.inl rfl) hw.kerf hl;have hs:=qDa hr 2;have hp:=hw.pitch;have ea:axS r 2=r.X:=rfl;rw[ea] at e i2 hs;have hr':=hr;unfold VR at hr';unfold PJ;rw[e];simp only[Option.bind_some];have strp_L:Strp ps w r l->b=true/\U.map (ptU l)≠[]/\(∀x∈U.map (ptU l),okBd ps w r x)/\goodL w.Kerf r.X.B r.X.A (U.map (ptU l))/\l=rowN 2 w.Kerf r.X (U.map (ptU l)):=by
  rintro⟨_,L,g,ne,eL,hx⟩;obtain⟨h1,h2⟩:=i2 L g eL λx hx'=>qL1 (hx x hx');rw[h2];exact⟨h1,ne,hx,g,eL⟩
 cases b with
 |false=>
  refine⟨false,rfl,Iff.intro (λh=>by cases h) λh=>?_⟩;have:=(strp_L h).1;cases this
 |true=>
  have hU:=i1 rfl;have hUl:=hU.1;simp only[Bool.not_true,cond_false];by_cases c0:U=[]
  ·subst c0;exact⟨false,rfl,Iff.intro (λh=>by cases h) λh=>absurd rfl (strp_L h).2.1⟩
  have c0':0<U.length:=List.length_pos_iff.2 c0;rw[show(((U.length:Nat):Int)==0)=false by rw[beq_eq_false_iff_ne];omega,cond_false];obtain⟨v,ev,hv⟩:=qRs hr (axis:=2) (.inl rfl) hw.kerf hl hU;rw[ea] at hv;rw[ev];simp only[Option.bind_some];unfold KL;cases v with
  |false=>
   refine⟨false,rfl,Iff.intro (λh=>by cases h) λh=>?_⟩;obtain⟨_,_,_,h4,h5⟩:=strp_L h;have:=hv.2 ⟨h4,h5⟩;cases this
  |true=>
   obtain⟨g,eL⟩:=hv.1 rfl;have hLb:=qD5 hw.kerf (by omega) g;have uniq:Strp ps w r l↔∀u∈U,okBd ps w r (ptU l u):=by
    constructor
    ·intro h;exact λu hu=>(strp_L h).2.2.1 _ (List.mem_map_of_mem hu)
    ·intro hx;refine⟨hl,U.map (ptU l),g,λh=>c0 (by simpa using h),eL,λx hx'=>?_⟩;obtain⟨u,hu,rfl⟩:=List.mem_map.1 hx';exact hx u hu
   rw[uniq];simp only[Bool.not_true,cond_false];rw[qD (n:=r.Y.B-r.Y.A) (by omega) (by omega),(qEZ _ _).2];simp only[Option.bind_some];have sl:=qEM (ps:=ps) (r.Y.B-r.Y.A);have sl3:(sizes ps (r.Y.B-r.Y.A)).1.length<=1000:=by
    unfold sizes;split
    ·simp
    ·rename_i hc;have:=VA (l:=ps) (by simpa using hc);have:=(qHs (l:=ps) (by simpa using hc) (r.Y.B-r.Y.A)).le;unfold sizes at this;rw[if_neg hc] at this;omega
   have hL4:∀(u:Ref24_part) (i f g:Nat),i<U.length->U.getD i default=u->u.from_=(f:Int)->u.to=(g:Int)->f<g->g<=l.length->wP l (U,true) (sizes ps (r.Y.B-r.Y.A)) (i:Int) FUEL false 0=some (foldN (λk s=>s||(((sizes ps (r.Y.B-r.Y.A)).1.getD k default==u.at_.B-u.at_.A)&&((sizes ps (r.Y.B-r.Y.A)).2.getD k default==(l.getD f default).At))) 0 (sizes ps (r.Y.B-r.Y.A)).1.length false):=by
    intro u i f g hi eu e1 e2 h1 h2;have hxb:=hLb (ptU l u) (List.mem_map_of_mem (by rw[<-eu];exact wK hi));have ex:(ptU l u).1=u.at_:=rfl;rw[ex] at hxb;have k:=zS (sizes ps (r.Y.B-r.Y.A)).1.length (λn (s:Bool) y=>wP l (U,true) (sizes ps (r.Y.B-r.Y.A)) (i:Int) n s y) (λk s=>s||(((sizes ps (r.Y.B-r.Y.A)).1.getD k default==u.at_.B-u.at_.A)&&((sizes ps (r.Y.B-r.Y.A)).2.getD k default==(l.getD f default).At))) (λs=>s) (λ_ _=>True) 0 (by omega) (by omega)
     (λn k s hk _=>by
      refine⟨?_,trivial⟩;rw[wP,decide_eq_true (by omega)];unfold KJ;simp only[Int.toNat_natCast,eu,e1];rw[qD (n:=u.at_.B-u.at_.A) (by omega) (by omega),qG (i:=(k:Int)) (n:=(sizes ps (r.Y.B-r.Y.A)).1.length) (by omega) (by omega),qG (i:=(k:Int)) (n:=(sizes ps (r.Y.B-r.Y.A)).2.length) (by omega) (by omega),qG (i:=(i:Int)) (n:=U.length) (by omega) (by omega),qO (by omega)];simp only[cond_true];cases s<;>cases (sizes ps (r.Y.B-r.Y.A)).1.getD k default==u.at_.B-u.at_.A<;>simp)
     (λn s _=>by rw[wP];simp) false trivial
    exact k.1
   have lf:=WD U (λn x=>jB l r w (U,true) (sizes ps (r.Y.B-r.Y.A)) n x) (λu=>if okBd ps w r (ptU l u) then none else some false) (by omega)
    (λn i hi=>by
     generalize eu:U.getD i default=u;have hmem:u∈U:=by rw[<-eu];exact wK hi
     obtain⟨f,g',e1,e2,h1,h2⟩:=hU.2 u hmem;obtain⟨p1,p2⟩:=qTD (l:=l) e1 e2 h1 h2;have hxb:=hLb (ptU l u) (List.mem_map_of_mem hmem);have ex:(ptU l u).1=u.at_:=rfl;rw[ex] at hxb;rw[jB];simp only[Int.toNat_natCast,eu,e1,e2];unfold KW;rw[decide_eq_true (by omega),qG (i:=(i:Int)) (n:=U.length) (by omega) (by omega),qG (i:=(f:Int)) (n:=l.length) (by omega) (by omega),nz_t (by omega),qD (n:=u.at_.A-r.X.A) (by omega) (by omega),qD (n:=(f:Int)+1) (by omega) (by omega),Int.tmod_eq_emod_of_nonneg (by omega),qO (by omega),hL4 u i f g' hi eu e1 e2 h1 h2];simp only[cond_true];by_cases c2:g'=f+1
     ·rw[show((g':Int) !=(f:Int)+1)=false by rw[bne_eq_false_iff_eq];omega,cond_false];have q2:(ptU l u).2=[l.getD f default]:=by
       have hl1:(ptU l u).2.length=1:=by omega
       rw[<-p2]
       match hm:(ptU l u).2,hl1 with
       |[a],_=>rfl
      by_cases c3:(l.getD f default).Kind=1
      ·rw[show((l.getD f default).Kind !=1)=false by rw[bne_eq_false_iff_eq];exact c3,cond_false];by_cases c1:(u.at_.A-r.X.A) % w.Pitch=0
       ·rw[show((u.at_.A-r.X.A) % w.Pitch !=0)=false by rw[bne_eq_false_iff_eq];exact c1,cond_false];simp only[Option.bind_some];have fo:=qJK (λk=>((sizes ps (r.Y.B-r.Y.A)).1.getD k default==u.at_.B-u.at_.A)&&((sizes ps (r.Y.B-r.Y.A)).2.getD k default==(l.getD f default).At)) (sizes ps (r.Y.B-r.Y.A)).1.length 0 false;have iff:foldN (λk s=>s||(((sizes ps (r.Y.B-r.Y.A)).1.getD k default==u.at_.B-u.at_.A)&&((sizes ps (r.Y.B-r.Y.A)).2.getD k default==(l.getD f default).At))) 0 (sizes ps (r.Y.B-r.Y.A)).1.length false=true↔okBd ps w r (ptU l u):=by
         rw[fo];constructor
         ·rintro(h|⟨k,_,hk,h⟩)
          ·cases h
          ·rw[Bool.and_eq_true,beq_iff_eq,beq_iff_eq] at h;refine⟨c1,k,by omega,h.1,?_⟩;rw[q2,h.2]
           congr 1
           have:∀n:Node,n.Kind=1->n=⟨1,n.At⟩:=λn hn=>by obtain⟨a,b⟩:=n;simp only at hn;rw[hn]
           exact this _ c3
         ·rintro⟨_,k,hk,h1,h2⟩;refine .inr ⟨k,Nat.zero_le _,by omega,?_⟩;rw[Bool.and_eq_true,beq_iff_eq,beq_iff_eq];rw[q2] at h2;exact⟨h1,by injection h2 with h2 _;rw[h2]⟩
        by_cases c4:okBd ps w r (ptU l u)
        ·rw[iff.2 c4,if_pos c4];rfl
        ·have:foldN (λk s=>s||(((sizes ps (r.Y.B-r.Y.A)).1.getD k default==u.at_.B-u.at_.A)&&((sizes ps (r.Y.B-r.Y.A)).2.getD k default==(l.getD f default).At))) 0 (sizes ps (r.Y.B-r.Y.A)).1.length false=false:=by
          rw[<-Bool.not_eq_true];exact λh=>c4 (iff.1 h)
         rw[this,if_neg c4];rfl
       ·rw[show((u.at_.A-r.X.A) % w.Pitch !=0)=true by rw[bne_iff_ne];exact c1,cond_true,if_neg];exact λh=>c1 h.1
      ·rw[show((l.getD f default).Kind !=1)=true by rw[bne_iff_ne];exact c3,cond_true,if_neg];rintro⟨_,k,_,_,h2⟩;rw[q2] at h2;injection h2 with h2 _;rw[h2] at c3;exact c3 rfl
     ·rw[show((g':Int) !=(f:Int)+1)=true by rw[bne_iff_ne];omega,cond_true,if_neg];rintro⟨_,k,_,_,h2⟩;rw[h2] at p1;simp only[List.length_cons,List.length_nil] at p1;omega)
    (λn=>by rw[jB,decide_eq_false (by simp only;omega)];rfl)
   rw[lf];by_cases hall:∀u∈U,okBd ps w r (ptU l u)
   ·rw[XM.2 λx hx=>by rw[if_pos (hall x hx)]];exact⟨true,rfl,Iff.intro (λ_=>hall) λ_=>rfl⟩
   ·rw[qGg (λu=>okBd ps w r (ptU l u)) U hall];exact⟨false,rfl,Iff.intro (λh=>by cases h) λh=>absurd h hall⟩
theorem rIn_is (l:List Int) (a:Int) (hl:l.length<=1000000):∃v,qBZ l a=some v/\(v=true↔a∈l):=by
 unfold qBZ;have:=WD l (λm x=>DL l a m x) (λb=>if b==a then some true else none) hl
  (λm x hx=>by
   rw[DL,decide_eq_true (by omega),qG (by omega) (by omega),qO (by omega)];simp only[cond_true,Int.toNat_natCast];cases l.getD x default==a<;>rfl)
  (λm=>by rw[DL];simp)
 rw[this];clear this hl
 induction l with
 |nil=>exact⟨false,rfl,by simp⟩
 |cons b l ih=>
  rw[findE];by_cases c:b=a
  ·rw[show(b==a)=true by rw[beq_iff_eq];exact c];exact⟨true,rfl,λ_=>by rw[c];exact List.mem_cons_self,λ_=>rfl⟩
  ·rw[show(b==a)=false by rw[beq_eq_false_iff_ne];exact c];obtain⟨v,e,hv⟩:=ih;refine⟨v,e,hv.trans ?_⟩;rw[List.mem_cons];exact⟨.inr,λh=>h.resolve_left λh=>c h.symm⟩
theorem qT3 (r:Rect):JY r=some (decide (VR r)):=by
 by_cases h:VR r
 ·rw[qFc h,decide_eq_true h]
 ·rw[decide_eq_false h];unfold VR at h;unfold JY;have k:∀(b1 b2 b3 b4 b5 b6:Bool),(b1&&(b2&&(b3&&(b4&&(b5&&b6)))))=false->True:=λ_ _ _ _ _ _ _=>trivial;by_cases h1:r.X.A<r.X.B<;>by_cases h2:r.Y.A<r.Y.B<;>by_cases h3:r.X.A≥-600<;>by_cases h4:r.X.B<=600<;>by_cases h5:r.Y.A≥-600<;>by_cases h6:r.Y.B<=600<;>first
   |(exfalso;omega)
   |(simp only[h1,h2,h3,h4,h5,h6,decide_true,decide_false];rfl)
end Go.SL.Saw

namespace Go.SL.Saw
open Classical in
theorem qSo (p:Pattern) (ps:List Product) (w:Saw):∃b,UK p ps w=some b/\(b=true↔qY ps=0/\VW w ⟨0,0,0⟩/\VR p.Frame/\Mem ps w p.Frame p.Nodes):=by
 unfold UK;rw[qBX,qTG,qT3];simp only[Option.bind_some];have no:∀{q:Prop},¬q->∃b,ZJ p ps w true=some b/\(b=true↔q):=λh=>⟨false,rfl,Iff.intro (λh=>by cases h) λhq=>absurd hq h⟩
 by_cases c1:qY ps=0
 ·rw[show(qY ps !=0)=false by rw[bne_eq_false_iff_eq];exact c1,cond_false];by_cases c2:YQ w ⟨0,0,0⟩=0
  ·rw[show(YQ w ⟨0,0,0⟩ !=0)=false by rw[bne_eq_false_iff_eq];exact c2,cond_false];have hw:=(JL w ⟨0,0,0⟩).1 c2;by_cases c3:VR p.Frame
   ·rw[decide_eq_true c3,Bool.not_true,cond_false];by_cases hl:p.Nodes.length<=127
    ·rw[decide_eq_false (by omega)];unfold ZJ;obtain⟨U,b,e,i1,i2⟩:=qP4 c3 (axis:=3) (.inr rfl) hw.kerf hl;have hs:=qDa c3 3;have ea:axS p.Frame 3=p.Frame.Y:=rfl;rw[ea] at e i2 hs;have hp:=hw.pitch;have hr':=c3;unfold VR at hr';rw[cond_false,e];simp only[Option.bind_some];have mem_L:Mem ps w p.Frame p.Nodes->b=true/\(∀x∈U.map (ptU p.Nodes),okSt ps w p.Frame x)/\goodL w.Kerf p.Frame.Y.B p.Frame.Y.A (U.map (ptU p.Nodes))/\p.Nodes=rowN 3 w.Kerf p.Frame.Y (U.map (ptU p.Nodes)):=by
      rintro⟨_,L,g,eL,hx⟩;obtain⟨h1,h2⟩:=i2 L g eL λx hx'=>qMi (hx x hx');rw[h2];exact⟨h1,hx,g,eL⟩
     cases b with
     |false=>
      refine⟨false,rfl,Iff.intro (λh=>by cases h) λh=>?_⟩;have:=(mem_L h.2.2.2).1;cases this
     |true=>
      have hU:=i1 rfl;have hUl:=hU.1;simp only[Bool.not_true,cond_false];obtain⟨v,ev,hv⟩:=qRs c3 (axis:=3) (.inr rfl) hw.kerf hl hU;rw[ea] at hv;rw[ev];simp only[Option.bind_some];unfold BQ;cases v with
      |false=>
       refine⟨false,rfl,Iff.intro (λh=>by cases h) λh=>?_⟩;obtain⟨_,_,h4,h5⟩:=mem_L h.2.2.2;have:=hv.2 ⟨h4,h5⟩;cases this
      |true=>
       obtain⟨g,eL⟩:=hv.1 rfl;have hLb:=qD5 hw.kerf (by omega) g;have uniq:(qY ps=0/\VW w ⟨0,0,0⟩/\VR p.Frame/\Mem ps w p.Frame p.Nodes)↔∀u∈U,okSt ps w p.Frame (ptU p.Nodes u):=by
        constructor
        ·rintro⟨_,_,_,h⟩;exact λu hu=>(mem_L h).2.1 _ (List.mem_map_of_mem hu)
        ·intro hx;refine⟨c1,hw,c3,hl,U.map (ptU p.Nodes),g,eL,λx hx'=>?_⟩;obtain⟨u,hu,rfl⟩:=List.mem_map.1 hx';exact hx u hu
       rw[uniq];simp only[Bool.not_true,cond_false];have hh:=qHt ps;have lf:=WD U (λn x=>jS p ps w (U,true) n x) (λu=>if okSt ps w p.Frame (ptU p.Nodes u) then none else some false) (by omega)
        (λn i hi=>by
         generalize eu:U.getD i default=u;have hmem:u∈U:=by rw[<-eu];exact wK hi
         obtain⟨f,g',e1,e2,h1,h2⟩:=hU.2 u hmem;obtain⟨p1,p2⟩:=qTD (l:=p.Nodes) e1 e2 h1 h2;have hxb:=hLb (ptU p.Nodes u) (List.mem_map_of_mem hmem);have ex:(ptU p.Nodes u).1=u.at_:=rfl;rw[ex] at hxb;rw[jS];simp only[Int.toNat_natCast,eu];unfold RV;rw[decide_eq_true (by omega),qG (i:=(i:Int)) (n:=U.length) (by omega) (by omega),nz_t (by omega),qD (n:=u.at_.A-p.Frame.Y.A) (by omega) (by omega),qD (n:=u.at_.B-u.at_.A) (by omega) (by omega),Int.tmod_eq_emod_of_nonneg (by omega),qO (by omega),qQG];simp only[cond_true,Option.bind_some];by_cases k1:(u.at_.A-p.Frame.Y.A) % w.Pitch=0
         ·rw[show((u.at_.A-p.Frame.Y.A) % w.Pitch !=0)=false by rw[bne_eq_false_iff_eq];exact k1,cond_false];obtain⟨v,ev,hv⟩:=rIn_is (hts ps) (u.at_.B-u.at_.A) (by omega);rw[ev];simp only[Option.bind_some];cases v with
          |false=>
           rw[Bool.not_false,cond_true,if_neg];rintro⟨_,h2,_⟩;have:=hv.2 h2;cases this
          |true=>
           rw[Bool.not_true,cond_false,qG0 (by rw[e1];omega) (by rw[e1,e2];omega) (by rw[e2];omega),cond_true];obtain⟨b,eb,hb⟩:=qQH (r:=⟨p.Frame.X,u.at_⟩) (by unfold VR;simp only;omega) hw ps (l:=(ptU p.Nodes u).2) (by omega);have eb':PJ ((p.Nodes.drop u.from_.toNat).take (u.to.toNat-u.from_.toNat)) ⟨p.Frame.X,u.at_⟩ ps w=some b:=eb;rw[eb'];simp only[Option.bind_some];cases b with
           |false=>
            rw[Bool.not_false,cond_true,if_neg];rintro⟨_,_,h3⟩;have:=hb.2 h3;cases this
           |true=>
            rw[Bool.not_true,cond_false,if_pos ⟨k1,hv.1 rfl,hb.1 rfl⟩]
         ·rw[show((u.at_.A-p.Frame.Y.A) % w.Pitch !=0)=true by rw[bne_iff_ne];exact k1,cond_true,if_neg];exact λh=>k1 h.1)
        (λn=>by rw[jS,decide_eq_false (by simp only;omega)];rfl)
       rw[lf];by_cases hall:∀u∈U,okSt ps w p.Frame (ptU p.Nodes u)
       ·rw[XM.2 λx hx=>by rw[if_pos (hall x hx)]];exact⟨true,rfl,Iff.intro (λ_=>hall) λ_=>rfl⟩
       ·rw[qGg (λu=>okSt ps w p.Frame (ptU p.Nodes u)) U hall];exact⟨false,rfl,Iff.intro (λh=>by cases h) λh=>absurd h hall⟩
    ·rw[decide_eq_true (by omega)];exact no λh=>hl h.2.2.2.1
   ·rw[decide_eq_false c3,Bool.not_false,cond_true];exact no λh=>c3 h.2.2.1
  ·rw[show(YQ w ⟨0,0,0⟩ !=0)=true by rw[bne_iff_ne];exact c2,cond_true];exact no λh=>c2 ((JL _ _).2 h.2.1)
 ·rw[show(qY ps !=0)=true by rw[bne_iff_ne];exact c1,cond_true];exact no λh=>c1 h.1
theorem qIb (p:Pattern) (ps:List Product) (w:Saw):FA (some true) p ps w=some true:=by
 unfold FA;have k:∀b,YE (some true) p ps w b=some true:=λb=>by
  unfold YE;cases b with
  |true=>rfl
  |false=>
   obtain⟨b1,e1,h1⟩:=qSP p ps w;obtain⟨b2,e2,h2⟩:=qSo p ps w;have:b1=b2:=by
    cases b1<;>cases b2
    ·rfl
    ·exact absurd (h1.2 (h2.1 rfl)) (by simp)
    ·exact absurd (h2.2 (h1.1 rfl)) (by simp)
    ·rfl
   rw[cond_false,e1,e2,this];simp only[Option.bind_some,beq_self_eq_true,cond_true];rfl
 cases decide (((p.Nodes.length:Nat):Int)>140) with
 |true=>exact k true
 |false=>
  obtain⟨b,e⟩:=few_ex ps;rw[cond_false,e];exact k _
end Go.SL.Saw

namespace Go.SL.Saw
def gS :List qB:=[⟨3000,⟨-10,List.replicate 20 ⟨-100,100⟩⟩⟩]
def gP :List Product:=[⟨⟨#[112,108,97,110,107]⟩,40,100,50,0,[2000],[70]⟩]
def gW :Saw:=⟨4,5,5,500⟩
def g0 :Rates:=⟨0,0,0⟩
def gF (h:Int):Rect:=⟨⟨-100,10⟩,⟨0,h⟩⟩
def gN :List Node:=[⟨2,5⟩,⟨1,0⟩,⟨0,0⟩]
def LS :Line:=⟨110,4,1,[105],[[70000000,-1,-1,-1,-1,70000000]],List.replicate 110 0,List.replicate 110 0⟩
def LP (h n:Nat):Line:=⟨h,4,1,[42,105],[(List.range n).map (λp=>if p % 5=0 then 70000000 else-1),[]],List.replicate h 0,List.replicate h 0⟩
theorem gain_k :(List.range 12).all (λk=>decide (gainS gS [] (gP.getD 0 default) ⟨⟨-100,5⟩,⟨5*(k:Int),5*(k:Int)+42⟩⟩ gW g0=70000000)&&decide (gainS gS [] (gP.getD 0 default) ⟨⟨-95,10⟩,⟨5*(k:Int),5*(k:Int)+42⟩⟩ gW g0=70000000))=true:=by kernel_rfl
theorem qMp :sizes gP 42=([105],[0]):=by kernel_rfl
theorem qJ2 :hts gP=[42,105]:=by kernel_rfl
theorem qRj :chkE gS [] gP (gF 97) gW g0=0:=by
 have e:VN gS [] gP (gF 97) gW g0=some 0:=by kernel_rfl
 rw[qBS] at e;exact Option.some.inj e
theorem qRR :chkE gS [] gP (gF 96) gW g0=0:=by
 have e:VN gS [] gP (gF 96) gW g0=some 0:=by kernel_rfl
 rw[qBS] at e;exact Option.some.inj e
end Go.SL.Saw

namespace Go.SL.Saw
theorem cut_S :ZH LS=some ([⟨0,0⟩],70000000,0):=by kernel_rfl
end Go.SL.Saw

namespace Go.SL.Saw
theorem cut_97 :ZH (LP 97 56)=some ([⟨0,0⟩,⟨0,55⟩],140000000,0):=by kernel_rfl
end Go.SL.Saw

namespace Go.SL.Saw
theorem cut_96 :ZH (LP 96 55)=some ([⟨0,0⟩],70000000,0):=by kernel_rfl
end Go.SL.Saw

namespace Go.SL.Saw
theorem strip_g (h:Int) (p:Nat):strR (gF h) (p:Int) ((p:Int)+42)=⟨⟨-100,10⟩,⟨(p:Int),(p:Int)+42⟩⟩:=by
 unfold strR gF;simp only[Int.zero_add]
theorem qTM {k:Nat} (hk:k<12):lineS gS [] gP ⟨⟨-100,10⟩,⟨((5*k:Nat):Int),((5*k:Nat):Int)+42⟩⟩ gW g0=LS:=by
 have hz:(((5*k:Nat):Int)+42)-((5*k:Nat):Int)=42:=by omega
 have gk:=List.all_eq_true.1 gain_k k (List.mem_range.2 hk);rw[Bool.and_eq_true,decide_eq_true_eq,decide_eq_true_eq] at gk;have ek:((5*k:Nat):Int)=5*(k:Int):=by omega
 unfold lineS;have hw:wid ⟨⟨-100,10⟩,⟨((5*k:Nat):Int),((5*k:Nat):Int)+42⟩⟩=110:=rfl;simp only[hz,qMp,hw];have hg:qBx gS [] gP ⟨⟨-100,10⟩,⟨((5*k:Nat):Int),((5*k:Nat):Int)+42⟩⟩ gW g0 42=[[70000000,-1,-1,-1,-1,70000000]]:=by
  unfold qBx;rw[qMp];show[LD gS [] (gP.getD 0 default) ⟨⟨-100,10⟩,⟨((5*k:Nat):Int),((5*k:Nat):Int)+42⟩⟩ gW g0 105]=_;unfold LD;rw[hw];show[[KI _ _ _ _ _ _ _ 0,KI _ _ _ _ _ _ _ 1,KI _ _ _ _ _ _ _ 2,KI _ _ _ _ _ _ _ 3,KI _ _ _ _ _ _ _ 4,KI _ _ _ _ _ _ _ 5]]=_;have a0:KI gS [] (gP.getD 0 default) ⟨⟨-100,10⟩,⟨((5*k:Nat):Int),((5*k:Nat):Int)+42⟩⟩ gW g0 105 0=70000000:=by
   rw[ek];exact gk.1
  have a5:KI gS [] (gP.getD 0 default) ⟨⟨-100,10⟩,⟨((5*k:Nat):Int),((5*k:Nat):Int)+42⟩⟩ gW g0 105 5=70000000:=by
   rw[ek];exact gk.2
  rw[a0,a5];rfl
 rw[hg];have hz2:∀f:Nat->Int,(List.range (110:Int).toNat).map (λx=>g0.Chip*f x)=List.replicate 110 0:=by
  intro f;have:(λx=>g0.Chip*f x)=λ_=>(0:Int):=by funext x;show 0*f x=0;rw[Int.zero_mul]
  rw[this,List.map_const'];rfl
 have hz3:∀f:Nat->Int,(List.range (110:Int).toNat).map (λx=>g0.Dust*f x)=List.replicate 110 0:=by
  intro f;have:(λx=>g0.Dust*f x)=λ_=>(0:Int):=by funext x;show 0*f x=0;rw[Int.zero_mul]
  rw[this,List.map_const'];rfl
 rw[hz2,hz3];rfl
theorem qKX :VE gS [] gP (gF 97) gW g0:=VB.1 qRj
theorem qO4 :VE gS [] gP (gF 96) gW g0:=VB.1 qRR
theorem edge_g {h:Int} (hv:VE gS [] gP (gF h) gW g0) {k:Nat} (hk:k<12) (hh:5*(k:Int)+42<=h):QW gS [] gP (strR (gF h) ((5*k:Nat):Int) (((5*k:Nat):Int)+42)) gW g0=(gN,70000000,0):=by
 have ve:=qT7 hv (p:=((5*k:Nat):Int)) (q:=((5*k:Nat):Int)+42) (by omega) (by omega) (by unfold hei gF;simp only;omega);rw[strip_g] at ve⊢;unfold QW;rw[if_pos (VB.2 ve),qTM hk];have vl:=IZ ve;rw[qTM hk] at vl;have cb:=EP vl;rw[cut_S] at cb;have cb':=Prod.mk.inj (Option.some.inj cb);have c1:jD LS=[⟨0,0⟩]:=cb'.1.symm;have c2:(bst LS 0).value=70000000:=(Prod.mk.inj cb'.2).1.symm;unfold qHe zT;simp only;have hz:(((5*k:Nat):Int)+42)-((5*k:Nat):Int)=42:=by omega
 rw[hz,c1,c2];have e:rowN 2 LS.Kerf ⟨-100,10⟩ (List.map (ptOf LS (-100) (bdN gP 42)) [⟨0,0⟩])=gN:=by
  unfold bdN;rw[qMp];rfl
 rw[e];rfl
theorem qOo {h:Int} (hv:VE gS [] gP (gF h) gW g0) {p:Nat} (hp:p<56) (hh:(p:Int)+42<=h):stG gS [] gP (gF h) gW g0 42 p=if p % 5=0 then(70000000,gN) else(-1,[]):=by
 unfold stG;by_cases c:p % 5=0
 ·obtain⟨k,rfl⟩:∃k,p=5*k:=⟨p/5,by omega⟩
  have c':((5*k:Nat):Int) % gW.Pitch=0:=by show((5*k:Nat):Int) % 5=0;omega
  rw[if_pos c',if_pos c,edge_g hv (by omega) (by omega)];rw[if_pos ⟨rfl,rfl⟩]
 ·have c':¬((p:Nat):Int) % gW.Pitch=0:=by show¬((p:Nat):Int) % 5=0;omega
  rw[if_neg c',if_neg c]
theorem qRS {h n:Nat} (hn:n+41=h) (hn2:n<=56) (h0:h<=104) (hv:VE gS [] gP (gF h) gW g0):zZ gS [] gP (gF h) gW g0=LP h n:=by
 have hh:hei (gF (h:Int))=(h:Int):=by unfold hei gF;simp
 unfold zZ LP;rw[hh,qJ2];have r0:nRow (gF h) 42=n:=by unfold nRow;rw[hh];omega
 have r1:nRow (gF h) 105=0:=by unfold nRow;rw[hh];omega
 have hz2:∀f:Nat->Int,(List.range ((h:Int)).toNat).map (λx=>g0.Chip*f x)=List.replicate h 0:=by
  intro f;have:(λx=>g0.Chip*f x)=λ_=>(0:Int):=by funext x;show 0*f x=0;rw[Int.zero_mul]
  rw[this,List.map_const',Int.toNat_natCast,List.length_range]
 have hz3:∀f:Nat->Int,(List.range ((h:Int)).toNat).map (λx=>g0.Dust*f x)=List.replicate h 0:=by
  intro f;have:(λx=>g0.Dust*f x)=λ_=>(0:Int):=by funext x;show 0*f x=0;rw[Int.zero_mul]
  rw[this,List.map_const',Int.toNat_natCast,List.length_range]
 rw[hz2,hz3];have hg:(List.range ([42,105]:List Int).length).map (λj=>(List.range (nRow (gF h) (([42,105]:List Int).getD j default))).map (λp=>(stG gS [] gP (gF h) gW g0 (([42,105]:List Int).getD j default) p).1))=[(List.range n).map (λp=>if p % 5=0 then 70000000 else-1),[]]:=by
  show[(List.range (nRow (gF h) 42)).map (λp=>(stG gS [] gP (gF h) gW g0 42 p).1),(List.range (nRow (gF h) 105)).map (λp=>(stG gS [] gP (gF h) gW g0 105 p).1)]=_;rw[r0,r1]
  congr 1
  apply List.map_congr_left;intro p hp;have hp':=List.mem_range.1 hp;rw[qOo hv (by omega) (by omega)];split<;>rfl
 rw[hg];rfl
theorem qVa :UZ gS [] gP (gF 97) gW g0=some (⟨gF 97,[⟨3,42⟩,⟨2,5⟩,⟨1,0⟩,⟨0,0⟩,⟨3,51⟩,⟨0,0⟩,⟨2,5⟩,⟨1,0⟩,⟨0,0⟩]⟩,140000000,0):=by
 have el:=qRS (h:=97) (n:=56) (by omega) (by omega) (by omega) qKX;have el':zZ gS [] gP (gF 97) gW g0=LP 97 56:=el;have vl:=qEQ qKX;rw[el'] at vl;have cb:=EP vl;rw[cut_97] at cb;have cb':=Prod.mk.inj (Option.some.inj cb);have c1:jD (LP 97 56)=[⟨0,0⟩,⟨0,55⟩]:=cb'.1.symm;have c2:(bst (LP 97 56) 0).value=140000000:=(Prod.mk.inj cb'.2).1.symm;have n0:stN gS [] gP (gF 97) gW g0 ⟨0,0⟩=gN:=by
  unfold stN;rw[qJ2];show(stG gS [] gP (gF 97) gW g0 42 0).2=_;rw[qOo qKX (by omega) (by omega)];rfl
 have n1:stN gS [] gP (gF 97) gW g0 ⟨0,55⟩=gN:=by
  unfold stN;rw[qJ2];show(stG gS [] gP (gF 97) gW g0 42 55).2=_;rw[qOo qKX (by omega) (by omega)];rfl
 rw[qIw];unfold qOk;rw[if_pos qRj];have en:qCS gS [] gP (gF 97) gW g0=[⟨3,42⟩,⟨2,5⟩,⟨1,0⟩,⟨0,0⟩,⟨3,51⟩,⟨0,0⟩,⟨2,5⟩,⟨1,0⟩,⟨0,0⟩]:=by
  unfold qCS US;rw[el',c1];simp only[List.map_cons,List.map_nil,ptOf,n0,n1];rfl
 rw[en,el',c2];have e0:g0.Chip*(volT gS-wholeR gS (gF 97))=0:=by show 0*_=(0:Int);rw[Int.zero_mul]
 rw[e0];rfl
theorem qUR :∃p,UZ gS [] gP (gF 96) gW g0=some (p,70000000,0):=by
 have el:=qRS (h:=96) (n:=55) (by omega) (by omega) (by omega) qO4;have el':zZ gS [] gP (gF 96) gW g0=LP 96 55:=el;have vl:=qEQ qO4;rw[el'] at vl;have cb:=EP vl;rw[cut_96] at cb;have cb':=Prod.mk.inj (Option.some.inj cb);have c1:jD (LP 96 55)=[⟨0,0⟩]:=cb'.1.symm;have c2:(bst (LP 96 55) 0).value=70000000:=(Prod.mk.inj cb'.2).1.symm;have n0:stN gS [] gP (gF 96) gW g0 ⟨0,0⟩=gN:=by
  unfold stN;rw[qJ2];show(stG gS [] gP (gF 96) gW g0 42 0).2=_;rw[qOo qO4 (by omega) (by omega)];rfl
 rw[qIw];unfold qOk;rw[if_pos qRR];have en:qCS gS [] gP (gF 96) gW g0=[⟨3,42⟩,⟨2,5⟩,⟨1,0⟩,⟨0,0⟩,⟨0,0⟩]:=by
  unfold qCS US;rw[el',c1];simp only[List.map_cons,List.map_nil,ptOf,n0];rfl
 rw[en,el',c2];have e0:g0.Chip*(volT gS-wholeR gS (gF 96))=0:=by show 0*_=(0:Int);rw[Int.zero_mul]
 rw[e0];exact⟨_,rfl⟩
theorem qQj (h:Int):KK h=some ⟨gS,[],gP,gF h,gW,g0⟩:=by
 unfold KK;have e:BR FUEL 0 []=some (List.replicate 20 ⟨-100,100⟩):=by kernel_rfl
 rw[e];rfl
theorem mem_g :JK ⟨gF 97,[⟨3,42⟩,⟨2,5⟩,⟨1,0⟩,⟨0,0⟩,⟨3,51⟩,⟨0,0⟩,⟨2,5⟩,⟨1,0⟩,⟨0,0⟩]⟩ gP gW=some true:=by kernel_rfl
theorem frame_g :AI gS=some ⟨⟨-100,100⟩,⟨-100,100⟩⟩:=by kernel_rfl
theorem qR0 (g:Law24_Given) (r:Pattern×Int×Int) (h:UZ g.Solid g.Defects g.Products g.Frame g.Saw g.Rates=some r):GN g=some (⟨r.1.Frame,r.1.Nodes⟩,r.2.1,r.2.2):=by
 unfold GN;rw[h];rfl
def awB (fs:Int->Option Law24_Given) (fb:Law24_Given->Option (Pattern×Int×Int)) (fh:List Product->Option (List Int)) (ff:List qB->Option Rect) (fm:Pattern->List Product->Saw->Option Bool):Option Bool:=
 (fs 97).bind λv1=>
 (fb (Law24_Given.mk v1.Solid v1.Defects v1.Products v1.Frame v1.Saw v1.Rates)).bind λv3=>
 (fs 96).bind λv5=>
 (fb (Law24_Given.mk v5.Solid v5.Defects v5.Products v5.Frame v5.Saw v5.Rates)).bind λv7=>
 (fh v1.Products).bind λv9=>
 (ff v1.Solid).bind λv11=>
 bif v3.2.2==0 then
  bif v3.2.1==140000000 then
   bif v7.2.2==0 then
    bif v7.2.1==70000000 then
     bif ((v9.length:Nat):Int)==2 then
      bif inb 0 v9.length then
       bif (v9.getD ((0:Int).toNat) default)==42 then
        bif inb 1 v9.length then
         bif (v9.getD ((1:Int).toNat) default)==105 then
          bif (((v11.X.A==(-100))&&((v11.X.B==100)&&true))&&(((v11.Y.A==(-100))&&((v11.Y.B==100)&&true))&&true)) then
           bif ((v3.1.Nodes.length:Nat):Int)==9 then
            bif inb 0 v3.1.Nodes.length then
             bif ((((v3.1.Nodes.getD ((0:Int).toNat) default).Kind)==3)&&((((v3.1.Nodes.getD ((0:Int).toNat) default).At)==42)&&true)) then
              (fm (Pattern.mk v3.1.Frame v3.1.Nodes) v1.Products v1.Saw).bind λv26=>
              qW v26
             else
              qW false
            else none
           else
            qW false
          else
           qW false
         else
          qW false
        else none
       else
        qW false
      else none
     else
      qW false
    else
     qW false
   else
    qW false
  else
   qW false
 else
  qW false
theorem qUB {fs:Int->Option Law24_Given} {fb:Law24_Given->Option (Pattern×Int×Int)} {fh:List Product->Option (List Int)} {ff:List qB->Option Rect} {fm:Pattern->List Product->Saw->Option Bool} (g g':Law24_Given) (p p':Pattern) (s1:fs 97=some g) (s2:fs 96=some g') (b1:fb g=some (p,140000000,0)) (b2:fb g'=some (p',70000000,0))
  (hh:fh g.Products=some [42,105]) (hf:ff g.Solid=some ⟨⟨-100,100⟩,⟨-100,100⟩⟩) (hm:fm p g.Products g.Saw=some true) (hl:p.Nodes.length=9) (hn:p.Nodes.getD 0 default=⟨3,42⟩):awB fs fb fh ff fm=some true:=by
 unfold awB;rw[s1];simp only[Option.bind_some];rw[show(Law24_Given.mk g.Solid g.Defects g.Products g.Frame g.Saw g.Rates)=g from rfl,b1];simp only[Option.bind_some];rw[s2];simp only[Option.bind_some];rw[show(Law24_Given.mk g'.Solid g'.Defects g'.Products g'.Frame g'.Saw g'.Rates)=g' from rfl,b2];simp only[Option.bind_some];rw[hh];simp only[Option.bind_some];rw[hf];simp only[Option.bind_some,hl];rw[show((0:Int).toNat)=0 from rfl,hn,show(Pattern.mk p.Frame p.Nodes)=p from rfl,hm];rfl
theorem awake_B :TC=awB KK GN JZ AI JK:=rfl
theorem qPm :TC=some true:=by
 obtain⟨p,e96⟩:=qUR;exact awake_B.trans (qUB _ _ ⟨gF 97,[⟨3,42⟩,⟨2,5⟩,⟨1,0⟩,⟨0,0⟩,⟨3,51⟩,⟨0,0⟩,⟨2,5⟩,⟨1,0⟩,⟨0,0⟩]⟩ ⟨p.Frame,p.Nodes⟩ (qQj 97) (qQj 96) (qR0 ⟨gS,[],gP,gF 97,gW,g0⟩ _ qVa) (qR0 ⟨gS,[],gP,gF 96,gW,g0⟩ _ e96) ((qE9 gP).trans (congrArg some qJ2)) frame_g mem_g rfl rfl)
end Go.SL.Saw

namespace Go.SL.Saw
theorem qJk (p:Pattern) (c:List Product) (s:Saw) {w w' w'':Prop} (_:w) (_:w') (_:w''):TN p c s=some true:=by
 rw[qFG,qPm];exact qIb p c s
end Go.SL.Saw

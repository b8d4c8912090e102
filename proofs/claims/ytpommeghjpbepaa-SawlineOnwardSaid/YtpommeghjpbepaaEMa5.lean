/- Patterns: the checks, the leaves and the cuts are those of the trees. -/
import Derived.Test.YtpommeghjpbepaaEMa1
import Derived.Test.YtpommeghjpbepaaEMa4
set_option linter.unusedVariables false
set_option linter.unusedSimpArgs false
namespace Go.SL.Saw
def UG (_:Rect) (a:Int):Int:=if a<0\/16<=a then 8 else 0
def ZM (l:List Product) (r:Rect) (a:Int):Int:=if a<0\/(l.length:Int)<=a then 8 else bif dimOk r (l.getD a.toNat du) then 0 else 20
theorem any_eq (r:Rect) (a:Int):KE r a=some (UG r a):=by
 unfold KE KH UG;by_cases h1:a<0
 ·rw[ka h1,if_pos (.inl h1)];rfl
 ·by_cases h2:16<=a
  ·rw[kd h1,ka (show a≥16 from h2),if_pos (.inr h2)];rfl
  ·rw[kd h1,kd (show¬a≥16 from h2),if_neg (by omega)];rfl
theorem qLU {s:Span} (h:WS s):lenS s=s.B-s.A:=by
 unfold lenS empS;obtain⟨h1,h2,h3⟩:=h;by_cases e:s.B<=s.A
 ·rw[ka e];simp;omega
 ·rw[kd e];simp
theorem cat_eq {r:Rect} (hw:WR r) (a:Int) (l:List Product):PJ r a l=some (ZM l r a):=by
 unfold PJ ZM;have k:∀b,ZG r a l b=bif b then some 8 else ZG r a l false:=λb=>by cases b<;>rfl
 by_cases h1:a<0
 ·rw[ka h1,if_pos (.inl h1)];rfl
 ·rw[kd h1,kp];by_cases h2:(l.length:Int)<=a
  ·rw[ka (show a≥_ from h2),if_pos (.inr h2)];rfl
  ·rw[kd (show¬a≥_ from h2),if_neg (by omega)];unfold ZG;rw[kp,zH (by omega),ki,(qEp _).1,NM (by have:=hw.1;unfold WS at this;omega),NM (by have:=hw.2;unfold WS at this;omega),qLU hw.1,qLU hw.2];simp only[kg];unfold dimOk yV;simp only[bne];generalize (yJ (l.getD a.toNat du)).1=g1;generalize (yJ (l.getD a.toNat du)).2=g2;generalize r.X.B-r.X.A=x;generalize r.Y.B-r.Y.A=y;cases x==g1<;>cases x==g2<;>cases y==g1<;>cases y==g2<;>rfl
theorem qCu (n:Node) (x:qB):WE n x=some (chkN (λ_ _=>0) n x):=by
 have k:∀b,jX n x b=some (if b=true then 10 else if 64<x.level then 28 else if ripB n.Kind=true/\(n.At<=(alP x.rect n.Kind).A\/(alP x.rect n.Kind).B<=n.At) then 20 else 0):=by
  intro b;unfold jX;cases b with
  |true=>rfl
  |false=>
   simp only[kp,qIV,qJd,kg,ur,if_false];by_cases h2:x.level>64
   ·rw[ka h2,if_pos (show 64<x.level from h2)];rfl
   ·rw[kd h2,if_neg (show¬64<x.level from h2),kp];cases hr:ripB n.Kind with
    |false=>simp[WA]
    |true=>
     simp only[ki,true_and];unfold YZ WA;by_cases h3:n.At<=(alP x.rect n.Kind).A
     ·rw[ka h3,if_pos (.inl h3)];rfl
     ·by_cases h4:(alP x.rect n.Kind).B<=n.At
      ·rw[kd h3,ka (show n.At≥_ from h4),if_pos (.inr h4)];rfl
      ·rw[kd h3,kd (show¬n.At≥_ from h4),if_neg (by omega)];rfl
 unfold WE chkN;simp only[k];have e0:∀b:Bool,(if n.Kind=1 then(0:Int) else 0)=0:=λ_=>by split<;>rfl
 rw[e0 true];by_cases h1:n.Kind<0
 ·rw[ka h1,if_pos (c:=n.Kind<0\/3<n.Kind\/(n.Kind=0/\n.At≠0)) (.inl h1)];rfl
 ·by_cases h2:n.Kind>3
  ·rw[kd h1,ka h2,if_pos (c:=n.Kind<0\/3<n.Kind\/(n.Kind=0/\n.At≠0)) (.inr (.inl h2))];rfl
  ·rw[kd h1,kd h2,kp,kp];by_cases h3:n.Kind=0
   ·have e3:(n.Kind==0)=true:=by simpa using h3
    rw[e3,ki];by_cases h4:n.At=0
    ·have e4:(n.At !=0)=false:=by simpa using h4
     rw[e4,if_neg (c:=n.Kind<0\/3<n.Kind\/(n.Kind=0/\n.At≠0)) (by omega)];rfl
    ·have e4:(n.At !=0)=true:=by simpa using h4
     rw[e4,if_pos (c:=n.Kind<0\/3<n.Kind\/(n.Kind=0/\n.At≠0)) (by omega)];rfl
   ·have e3:(n.Kind==0)=false:=by simpa using h3
    rw[e3,kp,if_neg (c:=n.Kind<0\/3<n.Kind\/(n.Kind=0/\n.At≠0)) (by omega)];rfl
theorem qKl (bd:Rect->Int->Int) (n:Node) (x:qB):chkN bd n x=if chkN (λ_ _=>0) n x≠0 then chkN (λ_ _=>0) n x else if n.Kind=1 then bd x.rect n.At else 0:=by
 unfold chkN;split
 ·rfl
 ·split
  ·rfl
  ·split
   ·rfl
   ·split<;>simp
abbrev RdC :=Int->qB->Int×Int->Option (Nat×Int×Int)
def qIb (f:RdC) (bd:Rect->Int->Int) (nodes:List Node):Prop:=
 ∀(i:Nat) (x:qB) (s:Int×Int),WR x.rect->i<1000000->
  f (i:Int) x s=some (if nodes.length<=i then(1,3,s.2) else if chkN bd (nodes.getD i du) x≠0 then(1,chkN bd (nodes.getD i du) x,s.2) else(0,s.1,(i:Int)+1))
def finC (nodes:List Node) (v:Nat×Int×Int):Option Int:=bif Nat.beq v.1 0 then(bif decide (v.2.2<(nodes.length:Int)) then some 4 else some 0) else bif Nat.beq v.1 1 then some v.2.1 else none
theorem qJ8 {f:RdC} {bd:Rect->Int->Int} {nodes:List Node} (hf:qIb f bd nodes) {kerf:Int} (hk:0<=kerf/\kerf<=20) (hn:nodes.length<=1000):
  ∀(ns:List Node) (i:Nat) (st:List qB) (r:Int),nodes.drop i=ns->i<=nodes.length->(∀x∈st,WR x.rect)->
   ∃v,runP f kerf ns (i:Int) st (r,(i:Int))=some v/\finC nodes v=some (chkP bd kerf ns st)
 |[],i,[],r,hd,hi,_=>by
  have hil:nodes.length<=i:=by have:=congrArg List.length hd;simp at this;omega
  refine⟨(0,r,(i:Int)),rfl,?_⟩;unfold finC;rw[kd (by simp;omega)];rfl
 |n::ns,i,[],r,hd,hi,_=>by
  have hil:i<nodes.length:=by
   rcases Nat.lt_or_ge i nodes.length with h|h
   ·exact h
   ·rw[uo h] at hd;cases hd
  refine⟨(0,r,(i:Int)),rfl,?_⟩;unfold finC;rw[ka (by simp;omega)];rfl
 |[],i,x::st,r,hd,hi,hw=>by
  have hil:nodes.length<=i:=by have:=congrArg List.length hd;simp at this;omega
  refine⟨(1,3,(i:Int)),?_,rfl⟩;show f (i:Int) x (r,(i:Int))=_;rw[hf i x _ (hw x kO) (by omega),if_pos hil]
 |n::ns,i,x::st,r,hd,hi,hw=>by
  have hil:i<nodes.length:=by
   rcases Nat.lt_or_ge i nodes.length with h|h
   ·exact h
   ·rw[uo h] at hd;cases hd
  have hg:nodes.getD i du=n:=by
   have h0:=congrArg (λl=>l.getD 0 du) hd;simpa[ke] using h0
  have hd2:nodes.drop (i+1)=ns:=by
   have h0:=congrArg List.tail hd;simpa using h0
  show∃v,((f (i:Int) x (r,(i:Int))).bind λv=>bif Nat.beq v.1 0 then runP f kerf ns ((i:Int)+1) (pushP kerf n x st) v.2 else some v)=some v/\finC nodes v=some (if chkN bd n x≠0 then chkN bd n x else chkP bd kerf ns (pushP kerf n x st));rw[hf i x _ (hw x kO) (by omega),if_neg (by omega),hg];by_cases c:chkN bd n x=0
  ·rw[if_neg (by simpa using c),if_neg (by simpa using c)];have hp:∀y∈pushP kerf n x st,WR y.rect:=by
    intro y hy;unfold pushP at hy;cases hr:ripB n.Kind with
    |false=>rw[hr,kp] at hy;exact hw y (kL _ hy)
    |true=>
     rw[hr,ki] at hy;have c3:=(cut3 hr (hw x kO) (qC9 hr c) hk).1;rcases ui.1 hy with rfl|hy
     ·exact c3.wf
     ·rcases ui.1 hy with rfl|hy
      ·exact c3.ws
      ·exact hw y (kL _ hy)
   exact qJ8 hf hk hn ns (i+1) (pushP kerf n x st) r hd2 hil hp
  ·rw[if_pos c,if_pos c];exact⟨_,rfl,rfl⟩
theorem VR_WR {r:Rect} (h:VR r):WR r:=⟨⟨h.1.1,by have:=h.1.2;omega,h.1.2.2⟩,h.2.1,by have:=h.2.2;omega,h.2.2.2⟩
def TD (bd:Rect->Int->Int) (p:Pattern) (kerf:Int):Int:=
 if¬VR p.Frame then 19 else if kerf<0\/20<kerf then 9 else if 127<p.Nodes.length then 4 else chkP bd kerf p.Nodes [⟨p.Frame,1⟩]
theorem qKd {f:RdC} {bd:Rect->Int->Int} {p:Pattern} (hf:qIb f bd p.Nodes) {kerf:Int} (hv:VR p.Frame) (hk:0<=kerf/\kerf<=20) (hn:p.Nodes.length<=127):
  (runP f kerf p.Nodes 0 [⟨p.Frame,1⟩] (0,0)).bind (finC p.Nodes)=some (chkP bd kerf p.Nodes [⟨p.Frame,1⟩]):=by
 obtain⟨v,e1,e2⟩:=qJ8 hf hk (by omega) p.Nodes 0 [⟨p.Frame,1⟩] 0 rfl (ue _) (λx hx=>by simp at hx;subst hx;exact VR_WR hv);have e1':runP f kerf p.Nodes 0 [⟨p.Frame,1⟩] (0,0)=some v:=e1;rw[e1'];exact e2
theorem qLp (p:Pattern) (l:List Product):qIb (λi x s=>yL i x p l s.1 s.2) (ZM l) p.Nodes:=by
 intro i x s hw hi;simp only;unfold yL JL JU;by_cases h:p.Nodes.length<=i
 ·rw[ka (by simp;omega),if_pos h];rfl
 ·rw[kd (by simp;omega),if_neg h,kp,zH (by omega),ki,ks,qCu,qKl (ZM l)];simp only[kg,cat_eq hw];by_cases c:chkN (λ_ _=>0) (p.Nodes.getD i du) x=0
  ·rw[c];simp only[ne_eq,not_true_eq_false,if_false,beq_self_eq_true,ki];by_cases c1:(p.Nodes.getD i du).Kind=1
   ·have e1:((p.Nodes.getD i du).Kind==1)=true:=by simpa using c1
    rw[e1,ki,if_pos c1];by_cases c2:ZM l x.rect (p.Nodes.getD i du).At=0
    ·rw[c2];simp[qY (n:=(i:Int)+1) (by omega)]
    ·have e2:(ZM l x.rect (p.Nodes.getD i du).At !=0)=true:=by simpa using c2
     rw[e2,if_pos c2];rfl
   ·have e1:((p.Nodes.getD i du).Kind==1)=false:=by simpa using c1
    rw[e1,kp,if_neg c1];simp[qY (n:=(i:Int)+1) (by omega)]
  ·have e1:(chkN (λ_ _=>0) (p.Nodes.getD i du) x==0)=false:=by simpa using c
   have e2:(chkN (λ_ _=>0) (p.Nodes.getD i du) x !=0)=true:=by simpa using c
   rw[e1,kp,kp,e2,ki,if_pos c,if_pos c]
theorem qMo (p:Pattern):qIb (λi x s=>wZ i x p s.1 s.2) UG p.Nodes:=by
 intro i x s hw hi;simp only;unfold wZ ZR ZQ;by_cases h:p.Nodes.length<=i
 ·rw[ka (by simp;omega),if_pos h];rfl
 ·rw[kd (by simp;omega),if_neg h,kp,zH (by omega),ki,ks,qCu,qKl UG];simp only[kg,any_eq];by_cases c:chkN (λ_ _=>0) (p.Nodes.getD i du) x=0
  ·rw[c];simp only[ne_eq,not_true_eq_false,if_false,beq_self_eq_true,ki];by_cases c1:(p.Nodes.getD i du).Kind=1
   ·have e1:((p.Nodes.getD i du).Kind==1)=true:=by simpa using c1
    rw[e1,ki,if_pos c1];by_cases c2:UG x.rect (p.Nodes.getD i du).At=0
    ·rw[c2];simp[qY (n:=(i:Int)+1) (by omega)]
    ·have e2:(UG x.rect (p.Nodes.getD i du).At !=0)=true:=by simpa using c2
     rw[e2,if_pos c2];rfl
   ·have e1:((p.Nodes.getD i du).Kind==1)=false:=by simpa using c1
    rw[e1,kp,if_neg c1];simp[qY (n:=(i:Int)+1) (by omega)]
  ·have e1:(chkN (λ_ _=>0) (p.Nodes.getD i du) x==0)=false:=by simpa using c
   have e2:(chkN (λ_ _=>0) (p.Nodes.getD i du) x !=0)=true:=by simpa using c
   rw[e1,kp,kp,e2,ki,if_pos c,if_pos c]
theorem qJY (p:Pattern) (l:List Product) (kerf:Int):PD p l kerf=some (TD (ZM l) p kerf):=by
 have k:∀b,JA p kerf l b=bif b then some 9 else JA p kerf l false:=λb=>by cases b<;>rfl
 unfold PD NZ TD;rw[qEP];simp only[kg];by_cases hv:VR p.Frame
 ·rw[ka hv,if_neg (by simpa using hv)];simp only[kT,kp];by_cases h1:kerf<0
  ·rw[ka h1,if_pos (.inl h1)];rfl
  ·by_cases h2:kerf>20
   ·rw[kd h1,ka h2,if_pos (.inr h2)];rfl
   ·rw[kd h1,kd h2,if_neg (by omega),kp];unfold JA ZE;rw[kp];by_cases h3:127<p.Nodes.length
    ·rw[ka (show(p.Nodes.length:Int)>127 by omega),if_pos h3];rfl
    ·rw[kd (show¬(p.Nodes.length:Int)>127 by omega),if_neg h3,kp];simp only[kg];rw[qK4 _ _ _ _ _ _ (by omega)];have:=qKd (qLp p l) hv (kerf:=kerf) (by omega) (by omega);unfold finC at this;rw[this];rfl
 ·rw[kd hv,if_pos (by simpa using hv)];rfl
theorem qMd (p:Pattern) (kerf:Int):KD p kerf=some (TD UG p kerf):=by
 unfold KD TD;rw[qEP];simp only[kg];by_cases hv:VR p.Frame
 ·rw[ka hv,if_neg (by simpa using hv)];simp only[kT,kp];by_cases h1:kerf<0
  ·rw[ka h1,if_pos (.inl h1)];rfl
  ·by_cases h2:kerf>20
   ·rw[kd h1,ka h2,if_pos (.inr h2)];rfl
   ·rw[kd h1,kd h2,if_neg (by omega),kp];unfold KO ZE;rw[kp];by_cases h3:127<p.Nodes.length
    ·rw[ka (show(p.Nodes.length:Int)>127 by omega),if_pos h3];rfl
    ·rw[kd (show¬(p.Nodes.length:Int)>127 by omega),if_neg h3,kp];simp only[kg];rw[qLg _ _ _ _ _ (by omega)];have:=qKd (qMo p) hv (kerf:=kerf) (by omega) (by omega);unfold finC at this;rw[this]
 ·rw[kd hv,if_pos (by simpa using hv)];rfl
theorem qKv {α:Type} {g:Node->qB->List α} (hg1:∀n x,(g n x).length<=1) {bd:Rect->Int->Int} {nodes:List Node} {f:Int->qB->List α->Option (Nat×List α)} {kerf:Int} (hn:nodes.length<=1000)
  (hf:∀(i:Nat) (x:qB) (s:List α),i<nodes.length->s.length<=1000->f (i:Int) x s=some (0,s++g (nodes.getD i du) x)):
  ∀(ns:List Node) (i:Nat) (st:List qB) (s:List α),nodes.drop i=ns->i<=nodes.length->s.length<=i->chkP bd kerf ns st=0->runP f kerf ns (i:Int) st s=some (0,s++allP g kerf ns st)
 |[],i,[],s,_,_,_,_=>by simp[runP,allP]
 |n::ns,i,[],s,_,_,_,h=>by simp[chkP] at h
 |[],i,x::st,s,_,_,_,h=>by simp[chkP] at h
 |n::ns,i,x::st,s,hd,hi,hs,h=>by
  have hil:i<nodes.length:=by
   rcases Nat.lt_or_ge i nodes.length with h|h
   ·exact h
   ·rw[uo h] at hd;cases hd
  have hgn:nodes.getD i du=n:=by
   have h0:=congrArg (λl=>l.getD 0 du) hd;simpa[ke] using h0
  have hd2:nodes.drop (i+1)=ns:=by
   have h0:=congrArg List.tail hd;simpa using h0
  have h':chkP bd kerf ns (pushP kerf n x st)=0:=by
   unfold chkP at h;split at h
   ·rename_i c;exact(c h).elim
   ·exact h
  show((f (i:Int) x s).bind λv=>bif Nat.beq v.1 0 then runP f kerf ns ((i:Int)+1) (pushP kerf n x st) v.2 else some v)=_;rw[hf i x s hil (by omega),hgn];have e:=qKv hg1 (bd:=bd) hn hf ns (i+1) (pushP kerf n x st) (s++g n x) hd2 hil (by have:=hg1 n x;simp;omega) h';show runP f kerf ns ((i:Int)+1) (pushP kerf n x st) (s++g n x)=_;rw[show((i:Int)+1)=((i+1:Nat):Int) by omega,e,kM];rfl
theorem leafG1 (n:Node) (x:qB):(EE n x).length<=1:=by unfold EE;split<;>(try split)<;>simp
theorem NK {bd:Rect->Int->Int} {p:Pattern} {kerf:Int}:TD bd p kerf=0↔VR p.Frame/\(0<=kerf/\kerf<=20)/\p.Nodes.length<=127/\chkP bd kerf p.Nodes [⟨p.Frame,1⟩]=0:=by
 unfold TD;by_cases hv:VR p.Frame
 ·rw[if_neg (by simpa using hv)];by_cases h1:kerf<0\/20<kerf
  ·rw[if_pos h1];constructor
   ·intro h;cases h
   ·rintro⟨_,h,_⟩;omega
  ·rw[if_neg h1];by_cases h3:127<p.Nodes.length
   ·rw[if_pos h3];constructor
    ·intro h;cases h
    ·rintro⟨_,_,h,_⟩;omega
   ·rw[if_neg h3];constructor
    ·intro h;exact⟨hv,by omega,by omega,h⟩
    ·rintro⟨_,_,_,h⟩;exact h
 ·rw[if_pos (by simpa using hv)];constructor
  ·intro h;cases h
  ·rintro⟨h,_⟩;exact(hv h).elim
def lvP (p:Pattern) (kerf:Int):List Leaf:=allP EE kerf p.Nodes [⟨p.Frame,1⟩]
def ctP (p:Pattern) (kerf:Int):List Rect:=allP (cutG kerf) kerf p.Nodes [⟨p.Frame,1⟩]
theorem qL4 (p:Pattern) (kerf:Int):TL p kerf=some (if TD UG p kerf=0 then(lvP p kerf,0) else([],TD UG p kerf)):=by
 unfold TL;rw[qMd];simp only[kg];by_cases h:TD UG p kerf=0
 ·have hz:=NK.1 h;rw[if_pos h,h];unfold ZE;simp only[uM,kp,kg];rw[qK3 _ _ _ _ (by omega)];have e:=qKv leafG1 (bd:=UG) (kerf:=kerf) (nodes:=p.Nodes) (f:=λi x (s:List Leaf)=>jY i x p s) (by omega) (by
   intro i x s hi hs;unfold jY EE;rw[zH (by omega),ki,ks,YR (by omega)];by_cases c0:(p.Nodes.getD i du).Kind=0
   ·have e0:((p.Nodes.getD i du).Kind==0)=true:=by simpa using c0
    rw[e0,if_pos c0];rfl
   ·have e0:((p.Nodes.getD i du).Kind==0)=false:=by simpa using c0
    rw[e0,if_neg c0,kp];by_cases c1:(p.Nodes.getD i du).Kind=1
    ·have e1:((p.Nodes.getD i du).Kind==1)=true:=by simpa using c1
     rw[e1,if_pos c1];rfl
    ·have e1:((p.Nodes.getD i du).Kind==1)=false:=by simpa using c1
     rw[e1,if_neg c1,kp,kX]) p.Nodes 0 [⟨p.Frame,1⟩] [] rfl (ue _) (ue _) hz.2.2.2
  rw[show(0:Int)=((0:Nat):Int) from rfl,e];rfl
 ·have h':(TD UG p kerf !=0)=true:=by simpa using h
  rw[if_neg h,h'];rfl
end Go.SL.Saw

namespace Go.SL.Saw
theorem qLJ (s:qP) {A m B:Int} (y:Span) (h1:A<=m) (h2:m<=B):wI s ⟨A,m⟩ y+wI s ⟨m,B⟩ y=wI s ⟨A,B⟩ y:=by
 unfold wI;rw[<-qI5];refine qFz (λr _ _=>?_);rw[<-qJt (row s r) h1 h2,uz]
theorem qLV (s:qP) {A m B:Int} (x:Span) (h1:A<=m) (h2:m<=B):wI s x ⟨A,m⟩+wI s x ⟨m,B⟩=wI s x ⟨A,B⟩:=by
 unfold wI;rw[<-qI5];refine qFz (λr _ _=>?_);rw[<-qJt (hgt r) h1 h2,uA]
theorem qJs (l:List qG) {A m B:Int} (y z:Span) (h1:A<=m) (h2:m<=B):volS l ⟨A,m⟩ y z+volS l ⟨m,B⟩ y z=volS l ⟨A,B⟩ y z:=by
 unfold volS;rw[<-qBj];refine UL (λi _=>?_);rw[<-qLJ _ y h1 h2,uA]
theorem qIQ (l:List qG) {A m B:Int} (x z:Span) (h1:A<=m) (h2:m<=B):volS l x ⟨A,m⟩ z+volS l x ⟨m,B⟩ z=volS l x ⟨A,B⟩ z:=by
 unfold volS;rw[<-qBj];refine UL (λi _=>?_);rw[<-qLV _ x h1 h2,uA]
theorem qFa (l:List qG) {A m B:Int} (x y:Span) (h1:A<=m) (h2:m<=B):volS l x y ⟨A,m⟩+volS l x y ⟨m,B⟩=volS l x y ⟨A,B⟩:=by
 unfold volS;rw[<-qBj];refine UL (λi _=>?_);rw[<-qJt (ext l i) h1 h2,uz]
theorem DK (l:List qG) (x y z:Span):0<=volS l x y z:=by
 unfold volS;have:=qGA (n:=l.length) (f:=λ_=>0) (g:=λi=>ml (ext l i) z*wI (l.getD i du).Sec x y) (λi _=>kP (qBb _ _) (OT _ _ _));rw[HZ (λ_ _=>rfl)] at this;exact this
theorem qMU (l:List qG) (x y:Span) {A B:Int} (h:B<=A):volS l x y ⟨A,B⟩=0:=by
 unfold volS;refine HZ (λi _=>?_);have:ml (ext l i) ⟨A,B⟩=0:=by
  rw[qJH];have a1:=imin_or (ext l i).B B;have a2:=VB (ext l i).A A;simp only;split<;>omega
 rw[this,Int.zero_mul]
theorem qMR (l:List qG) (x y:Span) {A B C D:Int} (h1:C<=A) (h2:B<=D):volS l x y ⟨A,B⟩<=volS l x y ⟨C,D⟩:=by
 by_cases h:A<=B
 ·have e1:=qFa l x y h1 h;have e2:=qFa l x y (show C<=B by omega) h2;have:=DK l x y ⟨C,A⟩;have:=DK l x y ⟨B,D⟩;omega
 ·rw[qMU l x y (by omega)];exact DK _ _ _ _
def QM (l:List qG) (r:Rect):Int:=volS l r.X r.Y ⟨0,qZ l⟩
theorem qLo (l:List qG):AddR (QM l):=⟨λy h1 h2=>qJs l y _ h1 h2,λx h1 h2=>qIQ l x _ h1 h2⟩
theorem qEH (l:List qG) (r:Rect):0<=QM l r:=DK _ _ _ _
def volT (l:List qG):Int:=sumN l.length (λi=>(l.getD i du).Len*BH (l.getD i du).Sec)
theorem qMK {l:List qG} (h:VSol l) (r:Rect):QM l r<=volT l:=by
 unfold QM volS volT;refine qGA (λi hi=>?_);have hlen:=qKi h hi;have h1:=qH6 (ext l i) ⟨0,qZ l⟩;rw[hlen] at h1;have h2:=qB3 (l.getD i du).Sec r.X r.Y;have h3:=OT (l.getD i du).Sec r.X r.Y;have h4:=qBb (ext l i) ⟨0,qZ l⟩;have h5:=(h.at hi).2.2.1;exact gf h1 h2 h3 (by omega)
theorem Area_eq (s:qP):GO s=some (BH (HI s)):=by
 have h:=qJa s;unfold GO;rw[qJm s];simp only[kg];generalize HI s=t at*;have b:=h.len;have k1:=FU t.Rows (λn (a:Int) x=>YE t n a x) (λx=>(x:Int)) (λ_ a s=>s+lenS a) (λs=>s) (λx s=>0<=s/\s<=1200*(x:Int)) (by omega)
  (λn x a hx hi=>by
   have l:=h.len_b hx;refine⟨?_,by omega⟩;rw[YE,ka (show(x:Int)<_ by omega),zH (by omega),zM (by omega)];simp only[ki,ks];rw[NM (by omega)];simp only[kg];rw[qY (by omega)])
  (λn a _=>by rw[YE];simp) (i:=0) rfl 0 (by omega)
 rw[OK (λ_ a=>lenS a)] at k1;have e:=qIm h (λ_ a=>lenS a) (λ_=>rfl);rw[e,uZ] at k1;rw[k1.1];simp only[kg];unfold BH;have:=k1.2;rw[qY (by omega)]
theorem OI {l:List qG} (h:VSol l):∀{k:Nat},k<=l.length->0<=sumN k (λi=>(l.getD i du).Len*BH (l.getD i du).Sec)/\sumN k (λi=>(l.getD i du).Len*BH (l.getD i du).Sec)<=1440000*wB l k
 |0,_=>by simp[sumN,wB]
 |k+1,hk=>by
  have ih:=OI h (k:=k) (by omega);have a:=qJA (h.at (i:=k) (by omega)).1;have b:=(h.at (i:=k) (by omega)).2.2.1;have c:=uL a.2 (show 0<=(l.getD k du).Len by omega);have d:=kP (show 0<=(l.getD k du).Len by omega) a.1;rw[wY];show 0<=sumN k _+_/\sumN k _+_<=_;simp only at ih⊢;rw[uA];constructor<;>omega
theorem volT_b {l:List qG} (h:VSol l):0<=volT l/\volT l<=28800000000:=by
 have:=OI h (ko _);have b:=(h.bd (ko _)).2;unfold volT;have:(1440000:Int)*wB l l.length<=1440000*20000:=uL b (by omega);omega
theorem qL0 {l:List qG} (h:VSol l):GK l=some (volT l):=by
 have hl:=h.len;unfold GK;rw[qGa,qAz h];simp only[kg];have k1:=FU l (λn (a:Int) x=>YD l n a x) (λx=>(x:Int)) (λ_ a s=>s+a.Len*BH a.Sec) (λs=>s) (λx s=>s=sumN x (λi=>(l.getD i du).Len*BH (l.getD i du).Sec)) (by omega)
  (λn x a hx hi=>by
   have p:=OI h (k:=x) (by omega);have p':=OI h (k:=x+1) (by omega);have b1:=(h.bd (i:=x) (by omega)).2;have b2:=(h.bd (i:=x+1) (by omega)).2;have vs:=(h.at hx).1;have ar:=qJA vs;have ln:=(h.at hx).2.2.1;have l2:(l.getD x du).Len<=20000:=by have:=wY l x;have:=(h.bd (i:=x) (by omega)).1;omega
   have pr:=gf l2 ar.2 ar.1 (by omega);have pn:=kP (show 0<=(l.getD x du).Len by omega) ar.1;refine⟨?_,by rw[hi];rfl⟩;rw[YD,ka (show(x:Int)<_ by omega),zH (by omega),zM (by omega)];simp only[ki,ks,Area_eq,kg];rw[qED vs];rw[qY (n:=(l.getD x du).Len*BH (l.getD x du).Sec) (by omega),qY (by omega)])
  (λn a _=>by rw[YD];simp) (i:=0) rfl 0 rfl
 rw[k1.1,OK (λ_ (a:qG)=>a.Len*BH a.Sec),uZ];simp only[kg,kv];rfl
end Go.SL.Saw

namespace Go.SL.Saw
theorem qK2 {p:Product} (h:VP p):5<=(yJ p).1/\(yJ p).1<=721/\5<=(yJ p).2/\(yJ p).2<=600:=by
 have b:=qMQ p;have g:=h.gr;have t:=h.th;have w:=h.wd;have a:=h.al;have e:okG p=true:=qGc.2 ⟨by omega,by omega,a⟩;have g1:=EV (n:=p.Thick) (a:=p.Allow) (by omega) (by omega) a.1 a.2;have g2:=EV (n:=p.Width) (a:=p.Allow) (by omega) (by omega) a.1 a.2;have eg:yJ p=(OL p.Thick p.Allow,OL p.Width p.Allow):=by unfold yJ;rw[e];rfl
 rw[eg] at b g⊢;simp only at b g⊢;omega
noncomputable def chkY (s:List qG) (d:List qH) (p:List Product) (pt:Pattern) (w:Saw) (t:Rates):Int:=
 if FC s≠0 then FC s else if LA d≠0 then LA d else if WK p≠0 then WK p else if qBi w t≠0 then qBi w t else TD (ZM p) pt w.Kerf
structure VY (s:List qG) (d:List qH) (p:List Product) (pt:Pattern) (w:Saw) (t:Rates):Prop where
 sol:VSol s
 df:LA d=0
 pr:WK p=0
 vw:VW w t
 pat:TD (ZM p) pt w.Kerf=0
theorem qLi (s:List qG) (d:List qH) (p:List Product) (pt:Pattern) (w:Saw) (t:Rates):qDG s d p pt w t=some (chkY s d p pt w t):=by
 unfold qDG chkY;simp only[(qBz s).1,qJe,qJF,qMB,qJY,kg];have k:∀(n:Int) (a b:Option Int),(bif n !=0 then a else b)=if n≠0 then a else b:=by
  intro n a b;by_cases h:n=0
  ·rw[h];rfl
  ·have:(n !=0)=true:=by simpa using h
   rw[this,if_pos h];rfl
 simp only[k];split
 ·rfl
 ·split
  ·rfl
  ·split
   ·rfl
   ·split<;>rfl
theorem qG3 {s:List qG} {d:List qH} {p:List Product} {pt:Pattern} {w:Saw} {t:Rates}:chkY s d p pt w t=0↔VY s d p pt w t:=by
 unfold chkY;constructor
 ·intro h;split at h
  ·rename_i c;exact(c h).elim
  ·rename_i c1;split at h
   ·rename_i c;exact(c h).elim
   ·rename_i c2;split at h
    ·rename_i c;exact(c h).elim
    ·rename_i c3;split at h
     ·rename_i c;exact(c h).elim
     ·rename_i c4;exact⟨(FZ s).1 (by simpa using c1),by simpa using c2,by simpa using c3,(qBq w t).1 (by simpa using c4),h⟩
 ·rintro⟨h1,h2,h3,h4,h5⟩;rw[if_neg (by simpa using(FZ s).2 h1),if_neg (by simpa using h2),if_neg (by simpa using h3),if_neg (by simpa using(qBq w t).2 h4),h5]
variable {s :List qG} {d:List qH} {p:List Product} {pt:Pattern} {w:Saw} {t:Rates}
theorem bd_any {p:List Product} (h:WK p=0) (r:Rect) (a:Int) (hb:ZM p r a=0):UG r a=0:=by
 have hl:=qHv (l:=p) (by simpa using h);unfold ZM at hb;unfold UG;split at hb
 ·cases hb
 ·rw[if_neg (by omega)]
theorem VY.any (h:VY s d p pt w t):TD UG pt w.Kerf=0:=by
 have hz:=NK.1 h.pat;obtain⟨T,e1,e2⟩:=qJh hz.2.2.2;rw[NK];refine⟨hz.1,hz.2.1,hz.2.2.1,?_⟩;rw[e1];exact chkP_of (qD7 (bd_any h.pr) e2)
theorem VY.tree (h:VY s d p pt w t):∃T,pt.Nodes=jJ T/\okT (ZM p) w.Kerf T ⟨pt.Frame,1⟩/\lvP pt w.Kerf=lvT w.Kerf T ⟨pt.Frame,1⟩/\ctP pt w.Kerf=ctT w.Kerf T ⟨pt.Frame,1⟩:=by
 have hz:=NK.1 h.pat;obtain⟨T,e1,e2⟩:=qJh hz.2.2.2;refine⟨T,e1,e2,?_,?_⟩
 ·unfold lvP lvT;rw[e1,qJg EE w.Kerf _ (CB e2)]
 ·unfold ctP ctT;rw[e1,qJg (cutG w.Kerf) w.Kerf _ (CB e2)]
def bdOf (s:List qG) (d:List qH) (p:List Product) (step fine:Int) (i:Nat) (x:Leaf):List qL:=
 if x.Product= -1 then[] else
  bif (LT s d (p.getD x.Product.toNat du) x.Rect step fine).2.1 then[⟨(i:Int),x.Product,⟨x.Rect.X,x.Rect.Y,(LT s d (p.getD x.Product.toNat du) x.Rect step fine).2.2⟩,(LT s d (p.getD x.Product.toNat du) x.Rect step fine).1⟩] else[]
def qKj (s:List qG) (d:List qH) (p:List Product) (step fine:Int):Nat->List Leaf->List qL
 |_,[]=>[]
 |i,x::l=>bdOf s d p step fine i x++qKj s d p step fine (i+1) l
structure GoodL (p:List Product) (x:Leaf):Prop where
 w:WR x.Rect
 b:x.Product= -1\/ZM p x.Rect x.Product=0
theorem qKa {x:Leaf} (hp:WK p=0) (h:GoodL p x) (hx:x.Product≠-1):0<=x.Product/\x.Product<(p.length:Int)/\VP (p.getD x.Product.toNat du)/\WK [p.getD x.Product.toNat du]=0/\VR x.Rect/\dimOk x.Rect (p.getD x.Product.toNat du)=true:=by
 have hb:=h.b.resolve_left hx;unfold ZM at hb;split at hb
 ·cases hb
 ·rename_i c;have hd:dimOk x.Rect (p.getD x.Product.toNat du)=true:=by
   cases hh:dimOk x.Rect (p.getD x.Product.toNat du) with
   |true=>rfl
   |false=>rw[hh] at hb;cases hb
  have hi:x.Product.toNat<p.length:=by omega
  have hv:=qIr hp hi;refine⟨by omega,by omega,hv,qLM hp hi,?_,hd⟩;have g:=qK2 hv;obtain⟨⟨x1,x2,x3⟩,y1,y2,y3⟩:=h.w;unfold dimOk at hd;simp only[uW,kn,beq_iff_eq] at hd;refine⟨⟨x1,?_,x3⟩,y1,?_,y3⟩<;>omega
def bds (s:List qG) (d:List qH) (p:List Product) (pt:Pattern) (w:Saw) (fine:Int):List qL:=qKj s d p w.Step fine 0 (lvP pt w.Kerf)
end Go.SL.Saw

namespace Go.SL.Saw
variable {s :List qG} {d:List qH} {p:List Product} {pt:Pattern} {w:Saw} {t:Rates}
def qAC (z:Span) (trim:Int):Span:=⟨imax 0 (z.A-trim),z.A⟩
def qC2 (z:Span) (trim len:Int):Span:=⟨z.B,imin (z.B+trim) len⟩
def brdV (s:List qG) (c:qL):Int:=volS s c.Box.X c.Box.Y c.Box.Z
def trmV (s:List qG) (trim:Int) (c:qL):Int:=volS s c.Box.X c.Box.Y (qAC c.Box.Z trim)+volS s c.Box.X c.Box.Y (qC2 c.Box.Z trim (qZ s))
structure OR (s:List qG) (c:qL):Prop where
 z:0<=c.Box.Z.A/\c.Box.Z.A<c.Box.Z.B/\c.Box.Z.B<=qZ s
 wth:0<=c.Worth/\c.Worth<=1000000
def wC (s:List qG) (ct:List Rect):Int:=sumL (QM s) ct
theorem qBC {α:Type} (F:α->Int):∀(l:List α) (x:Nat) (s:Int),VJ (λ_ a s=>s+F a) x l s=s+sumL F l
 |[],_,s=>by simp[VJ,sumL]
 |a::l,x,s=>by
  show VJ _ (x+1) l (s+F a)=_;rw[qBC F l (x+1) (s+F a),wV];omega
theorem qHc {α:Type} (F G H:α->Int):∀(l:List α) (x:Nat) (s:Int×Int×Int),VJ (λ_ a s=>(s.1+F a,s.2.1+G a,s.2.2+H a)) x l s=(s.1+sumL F l,s.2.1+sumL G l,s.2.2+sumL H l)
 |[],_,s=>by simp[VJ,sumL]
 |a::l,x,s=>by
  show VJ _ (x+1) l (s.1+F a,s.2.1+G a,s.2.2+H a)=_;rw[qHc F G H l (x+1) _,wV,wV,wV];simp only[Int.add_assoc]
theorem qKg (h:VSol s) (r:Rect):0<=QM s r/\QM s r<=28800000000:=qIg h _ _ _
def yB (s:List qG) (d:List qH) (p:List Product) (pt:Pattern) (w:Saw) (fine:Int):Int:=sumL (brdV s) (bds s d p pt w fine)
def yD (s:List qG) (d:List qH) (p:List Product) (pt:Pattern) (w:Saw) (fine:Int):Int:=wC s (ctP pt w.Kerf)+sumL (trmV s w.Trim) (bds s d p pt w fine)
def yW (s:List qG) (d:List qH) (p:List Product) (pt:Pattern) (w:Saw) (fine:Int):Int:=sumL (λc:qL=>1000000*c.Worth) (bds s d p pt w fine)
structure YBnd (s:List qG) (d:List qH) (p:List Product) (pt:Pattern) (w:Saw) (fine:Int):Prop where
 nB:0<=yB s d p pt w fine/\yB s d p pt w fine<=28800000000*127
 nD:0<=yD s d p pt w fine/\yD s d p pt w fine<=28800000000*127+57600000000*127
 nW:0<=yW s d p pt w fine/\yW s d p pt w fine<=1000000000000*127
end Go.SL.Saw

namespace Go.SL.Saw
theorem qC7 {σ β:Type} (N:Nat) (L:Nat->σ->Int->Option β) (hN:N<=1000000000)
  (h0:∀n i s,i<N->(∃b,L (n+1) s (i:Int)=some b)\/∃s',L (n+1) s (i:Int)=L n s' ((i+1:Nat):Int))
  (h1:∀n s,∃b,L (n+1) s (N:Int)=some b) (s:σ):∃b,L FUEL s 0=some b:=by
 have key:∀(k i n:Nat) (s:σ),i+k=N->k<n->∃b,L n s (i:Int)=some b:=by
  intro k
  induction k with
  |zero=>
   intro i n s hi hn;obtain⟨n,rfl⟩:∃m,n=m+1:=⟨n-1,by omega⟩
   have:i=N:=by omega
   subst this;exact h1 n s
  |succ k ih=>
   intro i n s hi hn;obtain⟨n,rfl⟩:∃m,n=m+1:=⟨n-1,by omega⟩
   rcases h0 n i s (by omega) with h|⟨s',h⟩
   ·exact h
   ·rw[h];exact ih (i+1) n s' (by omega) (by omega)
 exact key N 0 FUEL s (by omega) (by rw[yT];omega)
theorem qKh (a:qQ) (h1:a.Solid.length<=1000000) (h2:a.Products.length<=1000000):∃b,BB a=some b:=by
 obtain⟨u1,e1⟩:=qC7 (min a.Solid.length 30) (λn (s:Int) x=>WI a n s x) (by omega) (λn i s hi=>by
   right;refine⟨imin 20000 (w64 (s+(imax 0 (imin 20000 ((a.Solid.getD i du).Len))))),?_⟩;rw[WI,ka (by omega),ka (by omega)];unfold UU;rw[zH (by omega),zM (by omega)];rfl) (λn s=>by
   refine⟨s,?_⟩;rw[WI];unfold UU;by_cases c:a.Solid.length<=30
   ·rw[kd (by omega)];rfl
   ·rw[ka (by omega),kd (by omega)];rfl) 0
 obtain⟨u2,e2⟩:=qC7 a.Products.length (λn (s:Int) x=>KX a n s x) (by omega) (λn i s hi=>by
   right;refine⟨imax s (imin 10 ((((a.Products.getD i du).Lengths).length:Nat):Int)),?_⟩;rw[KX,ka (by omega),zH (by omega),zM (by omega)];rfl) (λn s=>by
   refine⟨s,?_⟩;rw[KX,kd (by omega)];rfl) 1
 unfold BB NU;rw[e1,e2];simp only[kg];by_cases c:a.Saw.Step>0
 ·rw[ka c,nz_t (by omega)];exact⟨_,rfl⟩
 ·rw[kd c];exact⟨_,rfl⟩
theorem qKY (a:qQ):∃b,NR a=some b/\(b=true->a.Solid.length<=30/\a.Defects.length<=70/\a.Products.length<=20/\a.Pattern.Nodes.length<=140):=by
 have kt:QE a true=some false:=rfl;unfold NR;by_cases h1:(a.Solid.length:Int)>30
 ·rw[ka h1];exact⟨false,rfl,λh=>by cases h⟩
 rw[kd h1];by_cases h2:(a.Defects.length:Int)>70
 ·rw[ka h2];exact⟨false,rfl,λh=>by cases h⟩
 rw[kd h2];by_cases h3:(a.Products.length:Int)>20
 ·rw[ka h3];exact⟨false,rfl,λh=>by cases h⟩
 rw[kd h3];by_cases h4:(a.Pattern.Nodes.length:Int)>140
 ·rw[ka h4];exact⟨false,rfl,λh=>by cases h⟩
 rw[kd h4];obtain⟨wk,ew⟩:=qKh a (by omega) (by omega);simp only[kp,ew,kg];have hl:a.Solid.length<=30/\a.Defects.length<=70/\a.Products.length<=20/\a.Pattern.Nodes.length<=140:=by omega
 suffices h:∀x,∃b,QE a x=some b by
  obtain⟨b,e⟩:=h (decide (wk>200000));exact⟨b,e,λ_=>hl⟩
 intro x;unfold QE;cases x with
 |true=>exact⟨false,rfl⟩
 |false=>
  obtain⟨u1,e1⟩:=qC7 a.Solid.length (λn (_:Unit) x=>XL a n x) (by omega) (λn i s hi=>by
   rw[XL,ka (by omega),zH (by omega),zM (by omega)];simp only[ki];cases decide ((((((a.Solid.getD ((i:Int)).toNat du).Sec).Rows).length:Nat):Int)>130)
   ·exact .inr ⟨(),rfl⟩
   ·exact .inl ⟨_,rfl⟩) (λn s=>by
   refine⟨.inr (),?_⟩;rw[XL,kd (by omega)];rfl) ()
  obtain⟨u2,e2⟩:=qC7 a.Products.length (λn (_:Unit) x=>QH a n x) (by omega) (λn i s hi=>by
   rw[QH,ka (by omega),zH (by omega)];unfold TI;rw[zM (by omega)];simp only[ki,ks];cases decide (((((a.Products.getD i du).Lengths).length:Nat):Int)>10)
   ·cases decide (((((a.Products.getD i du).Prices).length:Nat):Int)>10)
    ·cases decide (((((a.Products.getD i du).Name).size:Nat):Int)>100)
     ·exact .inr ⟨(),rfl⟩
     ·exact .inl ⟨_,rfl⟩
    ·exact .inl ⟨_,rfl⟩
   ·exact .inl ⟨_,rfl⟩) (λn s=>by
   refine⟨.inr (),?_⟩;rw[QH,kd (by omega)];rfl) ()
  rw[e1];simp only[kp,kg];cases u1 with
  |inl v=>exact⟨v,rfl⟩
  |inr v=>
   rw[Sum.elim_inr,e2];simp only[kg];cases u2 with
   |inl v=>exact⟨v,rfl⟩
   |inr v=>exact⟨true,rfl⟩
end Go.SL.Saw

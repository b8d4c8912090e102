/- Patterns: the checks, the leaves and the cuts are those of the trees. -/
import Derived.Test.YtpommeghjpbepaaEMa1
import Derived.Test.YtpommeghjpbepaaEMa4
set_option linter.unusedVariables false
set_option linter.unusedSimpArgs false
namespace Go.SL.Saw
def TY (_:Rect) (a:Int):Int:=if a<0\/16<=a then 8 else 0
def ZI (l:List Product) (r:Rect) (a:Int):Int:=if a<0\/(l.length:Int)<=a then 8 else bif dimOk r (l.getD a.toNat du) then 0 else 20
theorem any_eq (r:Rect) (a:Int):XX r a=some (TY r a):=by
 unfold XX KL TY;by_cases h1:a<0
 ·rw[ka h1,if_pos (.inl h1)];rfl
 ·by_cases h2:16<=a
  ·rw[kd h1,ka (show a≥16 from h2),if_pos (.inr h2)];rfl
  ·rw[kd h1,kd (show¬a≥16 from h2),if_neg (by omega)];rfl
theorem qLi {s:Span} (h:WS s):lenS s=s.B-s.A:=by
 unfold lenS empS;obtain⟨h1,h2,h3⟩:=h;by_cases e:s.B<=s.A
 ·rw[ka e];simp;omega
 ·rw[kd e];simp
theorem cat_eq {r:Rect} (hw:WR r) (a:Int) (l:List Product):PP r a l=some (ZI l r a):=by
 unfold PP ZI;have k:∀b,QZ r a l b=bif b then some 8 else QZ r a l false:=λb=>by cases b<;>rfl
 by_cases h1:a<0
 ·rw[ka h1,if_pos (.inl h1)];rfl
 ·rw[kd h1,kp];by_cases h2:(l.length:Int)<=a
  ·rw[ka (show a≥_ from h2),if_pos (.inr h2)];rfl
  ·rw[kd (show¬a≥_ from h2),if_neg (by omega)];unfold QZ;rw[kp,zF (by omega),ki,(qEh _).1,NK (by have:=hw.1;unfold WS at this;omega),NK (by have:=hw.2;unfold WS at this;omega),qLi hw.1,qLi hw.2];simp only[kg];unfold dimOk yQ;simp only[bne];generalize (yC (l.getD a.toNat du)).1=g1;generalize (yC (l.getD a.toNat du)).2=g2;generalize r.X.B-r.X.A=x;generalize r.Y.B-r.Y.A=y;cases x==g1<;>cases x==g2<;>cases y==g1<;>cases y==g2<;>rfl
theorem qCk (n:Node) (x:qB):ZZ n x=some (chkN (λ_ _=>0) n x):=by
 have k:∀b,jV n x b=some (if b=true then 10 else if 64<x.level then 28 else if ripB n.Kind=true/\(n.At<=(alP x.rect n.Kind).A\/(alP x.rect n.Kind).B<=n.At) then 20 else 0):=by
  intro b;unfold jV;cases b with
  |true=>rfl
  |false=>
   simp only[kp,qIp,qIc,kg,uq,if_false];by_cases h2:x.level>64
   ·rw[ka h2,if_pos (show 64<x.level from h2)];rfl
   ·rw[kd h2,if_neg (show¬64<x.level from h2),kp];cases hr:ripB n.Kind with
    |false=>simp[ZL]
    |true=>
     simp only[ki,true_and];unfold YW ZL;by_cases h3:n.At<=(alP x.rect n.Kind).A
     ·rw[ka h3,if_pos (.inl h3)];rfl
     ·by_cases h4:(alP x.rect n.Kind).B<=n.At
      ·rw[kd h3,ka (show n.At≥_ from h4),if_pos (.inr h4)];rfl
      ·rw[kd h3,kd (show¬n.At≥_ from h4),if_neg (by omega)];rfl
 unfold ZZ chkN;simp only[k];have e0:∀b:Bool,(if n.Kind=1 then(0:Int) else 0)=0:=λ_=>by split<;>rfl
 rw[e0 true];by_cases h1:n.Kind<0
 ·rw[ka h1,if_pos (c:=n.Kind<0\/3<n.Kind\/(n.Kind=0/\n.At≠0)) (.inl h1)];rfl
 ·by_cases h2:n.Kind>3
  ·rw[kd h1,ka h2,if_pos (c:=n.Kind<0\/3<n.Kind\/(n.Kind=0/\n.At≠0)) (.inr (.inl h2))];rfl
  ·rw[kd h1,kd h2,kp,kp];by_cases h3:n.Kind=0
   ·have e3:(n.Kind==0)=true:=by simpa using h3
    rw[e3,ki];by_cases h4:n.At=0
    ·have e4:(n.At !=0)=false:=by simpa using h4
     rw[e4,if_neg (c:=n.Kind<0\/3<n.Kind\/(n.Kind=0/\n.At≠0)) (by omega)];rfl
    ·have e4:(n.At !=0)=true:=by simpa using h4
     rw[e4,if_pos (c:=n.Kind<0\/3<n.Kind\/(n.Kind=0/\n.At≠0)) (by omega)];rfl
   ·have e3:(n.Kind==0)=false:=by simpa using h3
    rw[e3,kp,if_neg (c:=n.Kind<0\/3<n.Kind\/(n.Kind=0/\n.At≠0)) (by omega)];rfl
theorem qKp (bd:Rect->Int->Int) (n:Node) (x:qB):chkN bd n x=if chkN (λ_ _=>0) n x≠0 then chkN (λ_ _=>0) n x else if n.Kind=1 then bd x.rect n.At else 0:=by
 unfold chkN;split
 ·rfl
 ·split
  ·rfl
  ·split
   ·rfl
   ·split<;>simp
abbrev RdC :=Int->qB->Int×Int->Option (Nat×Int×Int)
def qH8 (f:RdC) (bd:Rect->Int->Int) (nodes:List Node):Prop:=
 ∀(i:Nat) (x:qB) (s:Int×Int),WR x.rect->i<1000000->
  f (i:Int) x s=some (if nodes.length<=i then(1,3,s.2) else if chkN bd (nodes.getD i du) x≠0 then(1,chkN bd (nodes.getD i du) x,s.2) else(0,s.1,(i:Int)+1))
def finC (nodes:List Node) (v:Nat×Int×Int):Option Int:=bif Nat.beq v.1 0 then(bif decide (v.2.2<(nodes.length:Int)) then some 4 else some 0) else bif Nat.beq v.1 1 then some v.2.1 else none
theorem qKg {f:RdC} {bd:Rect->Int->Int} {nodes:List Node} (hf:qH8 f bd nodes) {kerf:Int} (hk:0<=kerf/\kerf<=20) (hn:nodes.length<=1000):
  ∀(ns:List Node) (i:Nat) (st:List qB) (r:Int),nodes.drop i=ns->i<=nodes.length->(∀x∈st,WR x.rect)->
   ∃v,runP f kerf ns (i:Int) st (r,(i:Int))=some v/\finC nodes v=some (chkP bd kerf ns st)
 |[],i,[],r,hd,hi,_=>by
  have hil:nodes.length<=i:=by have:=congrArg List.length hd;simp at this;omega
  refine⟨(0,r,(i:Int)),rfl,?_⟩;unfold finC;rw[kd (by simp;omega)];rfl
 |n::ns,i,[],r,hd,hi,_=>by
  have hil:i<nodes.length:=by
   rcases Nat.lt_or_ge i nodes.length with h|h
   ·exact h
   ·rw[uu h] at hd;cases hd
  refine⟨(0,r,(i:Int)),rfl,?_⟩;unfold finC;rw[ka (by simp;omega)];rfl
 |[],i,x::st,r,hd,hi,hw=>by
  have hil:nodes.length<=i:=by have:=congrArg List.length hd;simp at this;omega
  refine⟨(1,3,(i:Int)),?_,rfl⟩;show f (i:Int) x (r,(i:Int))=_;rw[hf i x _ (hw x kN) (by omega),if_pos hil]
 |n::ns,i,x::st,r,hd,hi,hw=>by
  have hil:i<nodes.length:=by
   rcases Nat.lt_or_ge i nodes.length with h|h
   ·exact h
   ·rw[uu h] at hd;cases hd
  have hg:nodes.getD i du=n:=by
   have h0:=congrArg (λl=>l.getD 0 du) hd;simpa[ke] using h0
  have hd2:nodes.drop (i+1)=ns:=by
   have h0:=congrArg List.tail hd;simpa using h0
  show∃v,((f (i:Int) x (r,(i:Int))).bind λv=>bif Nat.beq v.1 0 then runP f kerf ns ((i:Int)+1) (pushP kerf n x st) v.2 else some v)=some v/\finC nodes v=some (if chkN bd n x≠0 then chkN bd n x else chkP bd kerf ns (pushP kerf n x st));rw[hf i x _ (hw x kN) (by omega),if_neg (by omega),hg];by_cases c:chkN bd n x=0
  ·rw[if_neg (by simpa using c),if_neg (by simpa using c)];have hp:∀y∈pushP kerf n x st,WR y.rect:=by
    intro y hy;unfold pushP at hy;cases hr:ripB n.Kind with
    |false=>rw[hr,kp] at hy;exact hw y (kK _ hy)
    |true=>
     rw[hr,ki] at hy;have c3:=(cut3 hr (hw x kN) (qC1 hr c) hk).1;rcases uh.1 hy with rfl|hy
     ·exact c3.wf
     ·rcases uh.1 hy with rfl|hy
      ·exact c3.ws
      ·exact hw y (kK _ hy)
   exact qKg hf hk hn ns (i+1) (pushP kerf n x st) r hd2 hil hp
  ·rw[if_pos c,if_pos c];exact⟨_,rfl,rfl⟩
theorem VR_WR {r:Rect} (h:VR r):WR r:=⟨⟨h.1.1,by have:=h.1.2;omega,h.1.2.2⟩,h.2.1,by have:=h.2.2;omega,h.2.2.2⟩
def TA (bd:Rect->Int->Int) (p:Pattern) (kerf:Int):Int:=
 if¬VR p.Frame then 19 else if kerf<0\/20<kerf then 9 else if 127<p.Nodes.length then 4 else chkP bd kerf p.Nodes [⟨p.Frame,1⟩]
theorem qKt {f:RdC} {bd:Rect->Int->Int} {p:Pattern} (hf:qH8 f bd p.Nodes) {kerf:Int} (hv:VR p.Frame) (hk:0<=kerf/\kerf<=20) (hn:p.Nodes.length<=127):
  (runP f kerf p.Nodes 0 [⟨p.Frame,1⟩] (0,0)).bind (finC p.Nodes)=some (chkP bd kerf p.Nodes [⟨p.Frame,1⟩]):=by
 obtain⟨v,e1,e2⟩:=qKg hf hk (by omega) p.Nodes 0 [⟨p.Frame,1⟩] 0 rfl (ud _) (λx hx=>by simp at hx;subst hx;exact VR_WR hv);have e1':runP f kerf p.Nodes 0 [⟨p.Frame,1⟩] (0,0)=some v:=e1;rw[e1'];exact e2
theorem qLQ (p:Pattern) (l:List Product):qH8 (λi x s=>yF i x p l s.1 s.2) (ZI l) p.Nodes:=by
 intro i x s hw hi;simp only;unfold yF JI JD;by_cases h:p.Nodes.length<=i
 ·rw[ka (by simp;omega),if_pos h];rfl
 ·rw[kd (by simp;omega),if_neg h,kp,zF (by omega),ki,ks,qCk,qKp (ZI l)];simp only[kg,cat_eq hw];by_cases c:chkN (λ_ _=>0) (p.Nodes.getD i du) x=0
  ·rw[c];simp only[ne_eq,not_true_eq_false,if_false,beq_self_eq_true,ki];by_cases c1:(p.Nodes.getD i du).Kind=1
   ·have e1:((p.Nodes.getD i du).Kind==1)=true:=by simpa using c1
    rw[e1,ki,if_pos c1];by_cases c2:ZI l x.rect (p.Nodes.getD i du).At=0
    ·rw[c2];simp[qX (n:=(i:Int)+1) (by omega)]
    ·have e2:(ZI l x.rect (p.Nodes.getD i du).At !=0)=true:=by simpa using c2
     rw[e2,if_pos c2];rfl
   ·have e1:((p.Nodes.getD i du).Kind==1)=false:=by simpa using c1
    rw[e1,kp,if_neg c1];simp[qX (n:=(i:Int)+1) (by omega)]
  ·have e1:(chkN (λ_ _=>0) (p.Nodes.getD i du) x==0)=false:=by simpa using c
   have e2:(chkN (λ_ _=>0) (p.Nodes.getD i du) x !=0)=true:=by simpa using c
   rw[e1,kp,kp,e2,ki,if_pos c,if_pos c]
theorem qL5 (p:Pattern):qH8 (λi x s=>wR i x p s.1 s.2) TY p.Nodes:=by
 intro i x s hw hi;simp only;unfold wR ZJ ZF;by_cases h:p.Nodes.length<=i
 ·rw[ka (by simp;omega),if_pos h];rfl
 ·rw[kd (by simp;omega),if_neg h,kp,zF (by omega),ki,ks,qCk,qKp TY];simp only[kg,any_eq];by_cases c:chkN (λ_ _=>0) (p.Nodes.getD i du) x=0
  ·rw[c];simp only[ne_eq,not_true_eq_false,if_false,beq_self_eq_true,ki];by_cases c1:(p.Nodes.getD i du).Kind=1
   ·have e1:((p.Nodes.getD i du).Kind==1)=true:=by simpa using c1
    rw[e1,ki,if_pos c1];by_cases c2:TY x.rect (p.Nodes.getD i du).At=0
    ·rw[c2];simp[qX (n:=(i:Int)+1) (by omega)]
    ·have e2:(TY x.rect (p.Nodes.getD i du).At !=0)=true:=by simpa using c2
     rw[e2,if_pos c2];rfl
   ·have e1:((p.Nodes.getD i du).Kind==1)=false:=by simpa using c1
    rw[e1,kp,if_neg c1];simp[qX (n:=(i:Int)+1) (by omega)]
  ·have e1:(chkN (λ_ _=>0) (p.Nodes.getD i du) x==0)=false:=by simpa using c
   have e2:(chkN (λ_ _=>0) (p.Nodes.getD i du) x !=0)=true:=by simpa using c
   rw[e1,kp,kp,e2,ki,if_pos c,if_pos c]
theorem qJV (p:Pattern) (l:List Product) (kerf:Int):KX p l kerf=some (TA (ZI l) p kerf):=by
 have k:∀b,WY p kerf l b=bif b then some 9 else WY p kerf l false:=λb=>by cases b<;>rfl
 unfold KX NU TA;rw[qE7];simp only[kg];by_cases hv:VR p.Frame
 ·rw[ka hv,if_neg (by simpa using hv)];simp only[kS,kp];by_cases h1:kerf<0
  ·rw[ka h1,if_pos (.inl h1)];rfl
  ·by_cases h2:kerf>20
   ·rw[kd h1,ka h2,if_pos (.inr h2)];rfl
   ·rw[kd h1,kd h2,if_neg (by omega),kp];unfold WY ZB;rw[kp];by_cases h3:127<p.Nodes.length
    ·rw[ka (show(p.Nodes.length:Int)>127 by omega),if_pos h3];rfl
    ·rw[kd (show¬(p.Nodes.length:Int)>127 by omega),if_neg h3,kp];simp only[kg];rw[qKF _ _ _ _ _ _ (by omega)];have:=qKt (qLQ p l) hv (kerf:=kerf) (by omega) (by omega);unfold finC at this;rw[this];rfl
 ·rw[kd hv,if_pos (by simpa using hv)];rfl
theorem qLm (p:Pattern) (kerf:Int):XT p kerf=some (TA TY p kerf):=by
 unfold XT TA;rw[qE7];simp only[kg];by_cases hv:VR p.Frame
 ·rw[ka hv,if_neg (by simpa using hv)];simp only[kS,kp];by_cases h1:kerf<0
  ·rw[ka h1,if_pos (.inl h1)];rfl
  ·by_cases h2:kerf>20
   ·rw[kd h1,ka h2,if_pos (.inr h2)];rfl
   ·rw[kd h1,kd h2,if_neg (by omega),kp];unfold KF ZB;rw[kp];by_cases h3:127<p.Nodes.length
    ·rw[ka (show(p.Nodes.length:Int)>127 by omega),if_pos h3];rfl
    ·rw[kd (show¬(p.Nodes.length:Int)>127 by omega),if_neg h3,kp];simp only[kg];rw[qK1 _ _ _ _ _ (by omega)];have:=qKt (qL5 p) hv (kerf:=kerf) (by omega) (by omega);unfold finC at this;rw[this]
 ·rw[kd hv,if_pos (by simpa using hv)];rfl
theorem qKy {α:Type} {g:Node->qB->List α} (hg1:∀n x,(g n x).length<=1) {bd:Rect->Int->Int} {nodes:List Node} {f:Int->qB->List α->Option (Nat×List α)} {kerf:Int} (hn:nodes.length<=1000)
  (hf:∀(i:Nat) (x:qB) (s:List α),i<nodes.length->s.length<=1000->f (i:Int) x s=some (0,s++g (nodes.getD i du) x)):
  ∀(ns:List Node) (i:Nat) (st:List qB) (s:List α),nodes.drop i=ns->i<=nodes.length->s.length<=i->chkP bd kerf ns st=0->runP f kerf ns (i:Int) st s=some (0,s++allP g kerf ns st)
 |[],i,[],s,_,_,_,_=>by simp[runP,allP]
 |n::ns,i,[],s,_,_,_,h=>by simp[chkP] at h
 |[],i,x::st,s,_,_,_,h=>by simp[chkP] at h
 |n::ns,i,x::st,s,hd,hi,hs,h=>by
  have hil:i<nodes.length:=by
   rcases Nat.lt_or_ge i nodes.length with h|h
   ·exact h
   ·rw[uu h] at hd;cases hd
  have hgn:nodes.getD i du=n:=by
   have h0:=congrArg (λl=>l.getD 0 du) hd;simpa[ke] using h0
  have hd2:nodes.drop (i+1)=ns:=by
   have h0:=congrArg List.tail hd;simpa using h0
  have h':chkP bd kerf ns (pushP kerf n x st)=0:=by
   unfold chkP at h;split at h
   ·rename_i c;exact(c h).elim
   ·exact h
  show((f (i:Int) x s).bind λv=>bif Nat.beq v.1 0 then runP f kerf ns ((i:Int)+1) (pushP kerf n x st) v.2 else some v)=_;rw[hf i x s hil (by omega),hgn];have e:=qKy hg1 (bd:=bd) hn hf ns (i+1) (pushP kerf n x st) (s++g n x) hd2 hil (by have:=hg1 n x;simp;omega) h';show runP f kerf ns ((i:Int)+1) (pushP kerf n x st) (s++g n x)=_;rw[show((i:Int)+1)=((i+1:Nat):Int) by omega,e,kL];rfl
theorem leafG1 (n:Node) (x:qB):(EA n x).length<=1:=by unfold EA;split<;>(try split)<;>simp
theorem NO {bd:Rect->Int->Int} {p:Pattern} {kerf:Int}:TA bd p kerf=0↔VR p.Frame/\(0<=kerf/\kerf<=20)/\p.Nodes.length<=127/\chkP bd kerf p.Nodes [⟨p.Frame,1⟩]=0:=by
 unfold TA;by_cases hv:VR p.Frame
 ·rw[if_neg (by simpa using hv)];by_cases h1:kerf<0\/20<kerf
  ·rw[if_pos h1];constructor
   ·intro h;cases h
   ·rintro⟨_,h,_⟩;omega
  ·rw[if_neg h1];by_cases h3:127<p.Nodes.length
   ·rw[if_pos h3];constructor
    ·intro h;cases h
    ·rintro⟨_,_,h,_⟩;omega
   ·rw[if_neg h3];constructor
    ·intro h;exact⟨hv,by omega,by omega,h⟩
    ·rintro⟨_,_,_,h⟩;exact h
 ·rw[if_pos (by simpa using hv)];constructor
  ·intro h;cases h
  ·rintro⟨h,_⟩;exact(hv h).elim
def lvP (p:Pattern) (kerf:Int):List Leaf:=allP EA kerf p.Nodes [⟨p.Frame,1⟩]
def ctP (p:Pattern) (kerf:Int):List Rect:=allP (cutG kerf) kerf p.Nodes [⟨p.Frame,1⟩]
theorem qL3 (p:Pattern) (kerf:Int):TC p kerf=some (if TA TY p kerf=0 then(lvP p kerf,0) else([],TA TY p kerf)):=by
 unfold TC;rw[qLm];simp only[kg];by_cases h:TA TY p kerf=0
 ·have hz:=NO.1 h;rw[if_pos h,h];unfold ZB;simp only[bne_self_eq_false,kp,kg];rw[qKY _ _ _ _ (by omega)];have e:=qKy leafG1 (bd:=TY) (kerf:=kerf) (nodes:=p.Nodes) (f:=λi x (s:List Leaf)=>jW i x p s) (by omega) (by
   intro i x s hi hs;unfold jW EA;rw[zF (by omega),ki,ks,YO (by omega)];by_cases c0:(p.Nodes.getD i du).Kind=0
   ·have e0:((p.Nodes.getD i du).Kind==0)=true:=by simpa using c0
    rw[e0,if_pos c0];rfl
   ·have e0:((p.Nodes.getD i du).Kind==0)=false:=by simpa using c0
    rw[e0,if_neg c0,kp];by_cases c1:(p.Nodes.getD i du).Kind=1
    ·have e1:((p.Nodes.getD i du).Kind==1)=true:=by simpa using c1
     rw[e1,if_pos c1];rfl
    ·have e1:((p.Nodes.getD i du).Kind==1)=false:=by simpa using c1
     rw[e1,if_neg c1,kp,kX]) p.Nodes 0 [⟨p.Frame,1⟩] [] rfl (ud _) (ud _) hz.2.2.2
  rw[show(0:Int)=((0:Nat):Int) from rfl,e];rfl
 ·have h':(TA TY p kerf !=0)=true:=by simpa using h
  rw[if_neg h,h'];rfl
end Go.SL.Saw

namespace Go.SL.Saw
theorem qLY (s:qQ) {A m B:Int} (y:Span) (h1:A<=m) (h2:m<=B):zZ s ⟨A,m⟩ y+zZ s ⟨m,B⟩ y=zZ s ⟨A,B⟩ y:=by
 unfold zZ;rw[<-qJo];refine qE1 (λr _ _=>?_);rw[<-qIg (row s r) h1 h2,uz]
theorem qLX (s:qQ) {A m B:Int} (x:Span) (h1:A<=m) (h2:m<=B):zZ s x ⟨A,m⟩+zZ s x ⟨m,B⟩=zZ s x ⟨A,B⟩:=by
 unfold zZ;rw[<-qJo];refine qE1 (λr _ _=>?_);rw[<-qIg (hgt r) h1 h2,uA]
theorem qJp (l:List qF) {A m B:Int} (y z:Span) (h1:A<=m) (h2:m<=B):volS l ⟨A,m⟩ y z+volS l ⟨m,B⟩ y z=volS l ⟨A,B⟩ y z:=by
 unfold volS;rw[<-qAZ];refine TX (λi _=>?_);rw[<-qLY _ y h1 h2,uA]
theorem qJt (l:List qF) {A m B:Int} (x z:Span) (h1:A<=m) (h2:m<=B):volS l x ⟨A,m⟩ z+volS l x ⟨m,B⟩ z=volS l x ⟨A,B⟩ z:=by
 unfold volS;rw[<-qAZ];refine TX (λi _=>?_);rw[<-qLX _ x h1 h2,uA]
theorem qFT (l:List qF) {A m B:Int} (x y:Span) (h1:A<=m) (h2:m<=B):volS l x y ⟨A,m⟩+volS l x y ⟨m,B⟩=volS l x y ⟨A,B⟩:=by
 unfold volS;rw[<-qAZ];refine TX (λi _=>?_);rw[<-qIg (ext l i) h1 h2,uz]
theorem GR (l:List qF) (x y z:Span):0<=volS l x y z:=by
 unfold volS;have:=qGO (n:=l.length) (f:=λ_=>0) (g:=λi=>ml (ext l i) z*zZ (l.getD i du).Sec x y) (λi _=>kO (qAN _ _) (IP _ _ _));rw[SB (λ_ _=>rfl)] at this;exact this
theorem qMS (l:List qF) (x y:Span) {A B:Int} (h:B<=A):volS l x y ⟨A,B⟩=0:=by
 unfold volS;refine SB (λi _=>?_);have:ml (ext l i) ⟨A,B⟩=0:=by
  rw[qIS];have a1:=imin_or (ext l i).B B;have a2:=UW (ext l i).A A;simp only;split<;>omega
 rw[this,Int.zero_mul]
theorem qM6 (l:List qF) (x y:Span) {A B C D:Int} (h1:C<=A) (h2:B<=D):volS l x y ⟨A,B⟩<=volS l x y ⟨C,D⟩:=by
 by_cases h:A<=B
 ·have e1:=qFT l x y h1 h;have e2:=qFT l x y (show C<=B by omega) h2;have:=GR l x y ⟨C,A⟩;have:=GR l x y ⟨B,D⟩;omega
 ·rw[qMS l x y (by omega)];exact GR _ _ _ _
def QP (l:List qF) (r:Rect):Int:=volS l r.X r.Y ⟨0,qZ l⟩
theorem qMa (l:List qF):AddR (QP l):=⟨λy h1 h2=>qJp l y _ h1 h2,λx h1 h2=>qJt l x _ h1 h2⟩
theorem qJw (l:List qF) (r:Rect):0<=QP l r:=GR _ _ _ _
def volT (l:List qF):Int:=sumN l.length (λi=>(l.getD i du).Len*BH (l.getD i du).Sec)
theorem qM4 {l:List qF} (h:VSol l) (r:Rect):QP l r<=volT l:=by
 unfold QP volS volT;refine qGO (λi hi=>?_);have hlen:=qJY h hi;have h1:=qH2 (ext l i) ⟨0,qZ l⟩;rw[hlen] at h1;have h2:=qB6 (l.getD i du).Sec r.X r.Y;have h3:=IP (l.getD i du).Sec r.X r.Y;have h4:=qAN (ext l i) ⟨0,qZ l⟩;have h5:=(h.at hi).2.2.1;exact ge h1 h2 h3 (by omega)
theorem Area_eq (s:qQ):GC s=some (BH (HC s)):=by
 have h:=qIj s;unfold GC;rw[qI9 s];simp only[kg];generalize HC s=t at*;have b:=h.len;have k1:=GM t.Rows (λn (a:Int) x=>YA t n a x) (λx=>(x:Int)) (λ_ a s=>s+lenS a) (λs=>s) (λx s=>0<=s/\s<=1200*(x:Int)) (by omega)
  (λn x a hx hi=>by
   have l:=h.len_b hx;refine⟨?_,by omega⟩;rw[YA,ka (show(x:Int)<_ by omega),zF (by omega),zL (by omega)];simp only[ki,ks];rw[NK (by omega)];simp only[kg];rw[qX (by omega)])
  (λn a _=>by rw[YA];simp) (i:=0) rfl 0 (by omega)
 rw[OB (λ_ a=>lenS a)] at k1;have e:=qIG h (λ_ a=>lenS a) (λ_=>rfl);rw[e,uO] at k1;rw[k1.1];simp only[kg];unfold BH;have:=k1.2;rw[qX (by omega)]
theorem OM {l:List qF} (h:VSol l):∀{k:Nat},k<=l.length->0<=sumN k (λi=>(l.getD i du).Len*BH (l.getD i du).Sec)/\sumN k (λi=>(l.getD i du).Len*BH (l.getD i du).Sec)<=1440000*zV l k
 |0,_=>by simp[sumN,zV]
 |k+1,hk=>by
  have ih:=OM h (k:=k) (by omega);have a:=qIr (h.at (i:=k) (by omega)).1;have b:=(h.at (i:=k) (by omega)).2.2.1;have c:=uK a.2 (show 0<=(l.getD k du).Len by omega);have d:=kO (show 0<=(l.getD k du).Len by omega) a.1;rw[wQ];show 0<=sumN k _+_/\sumN k _+_<=_;simp only at ih⊢;rw[uA];constructor<;>omega
theorem qLS {l:List qF} (h:VSol l):0<=volT l/\volT l<=28800000000:=by
 have:=OM h (ko _);have b:=(h.bd (ko _)).2;unfold volT;have:(1440000:Int)*zV l l.length<=1440000*20000:=uK b (by omega);omega
theorem qGQ {l:List qF} (h:VSol l):RO l=some (volT l):=by
 have hl:=h.len;unfold RO;rw[qGM,qAx h];simp only[kg];have k1:=GM l (λn (a:Int) x=>JY l n a x) (λx=>(x:Int)) (λ_ a s=>s+a.Len*BH a.Sec) (λs=>s) (λx s=>s=sumN x (λi=>(l.getD i du).Len*BH (l.getD i du).Sec)) (by omega)
  (λn x a hx hi=>by
   have p:=OM h (k:=x) (by omega);have p':=OM h (k:=x+1) (by omega);have b1:=(h.bd (i:=x) (by omega)).2;have b2:=(h.bd (i:=x+1) (by omega)).2;have vs:=(h.at hx).1;have ar:=qIr vs;have ln:=(h.at hx).2.2.1;have l2:(l.getD x du).Len<=20000:=by have:=wQ l x;have:=(h.bd (i:=x) (by omega)).1;omega
   have pr:=ge l2 ar.2 ar.1 (by omega);have pn:=kO (show 0<=(l.getD x du).Len by omega) ar.1;refine⟨?_,by rw[hi];rfl⟩;rw[JY,ka (show(x:Int)<_ by omega),zF (by omega),zL (by omega)];simp only[ki,ks,Area_eq,kg];rw[qEd vs];rw[qX (n:=(l.getD x du).Len*BH (l.getD x du).Sec) (by omega),qX (by omega)])
  (λn a _=>by rw[JY];simp) (i:=0) rfl 0 rfl
 rw[k1.1,OB (λ_ (a:qF)=>a.Len*BH a.Sec),uO];simp only[kg,kv];rfl
end Go.SL.Saw

namespace Go.SL.Saw
theorem qKU {p:Product} (h:VP p):5<=(yC p).1/\(yC p).1<=721/\5<=(yC p).2/\(yC p).2<=600:=by
 have b:=qNg p;have g:=h.gr;have t:=h.th;have w:=h.wd;have a:=h.al;have e:okG p=true:=qGp.2 ⟨by omega,by omega,a⟩;have g1:=EQ (n:=p.Thick) (a:=p.Allow) (by omega) (by omega) a.1 a.2;have g2:=EQ (n:=p.Width) (a:=p.Allow) (by omega) (by omega) a.1 a.2;have eg:yC p=(OY p.Thick p.Allow,OY p.Width p.Allow):=by unfold yC;rw[e];rfl
 rw[eg] at b g⊢;simp only at b g⊢;omega
noncomputable def chkY (s:List qF) (d:List qH) (p:List Product) (pt:Pattern) (w:Saw) (t:Rates):Int:=
 if NZ s≠0 then NZ s else if LS d≠0 then LS d else if WF p≠0 then WF p else if qBj w t≠0 then qBj w t else TA (ZI p) pt w.Kerf
structure VY (s:List qF) (d:List qH) (p:List Product) (pt:Pattern) (w:Saw) (t:Rates):Prop where
 sol:VSol s
 df:LS d=0
 pr:WF p=0
 vw:VW w t
 pat:TA (ZI p) pt w.Kerf=0
theorem qL9 (s:List qF) (d:List qH) (p:List Product) (pt:Pattern) (w:Saw) (t:Rates):qDC s d p pt w t=some (chkY s d p pt w t):=by
 unfold qDC chkY;simp only[(qA8 s).1,qIs,qIA,qM1,qJV,kg];have k:∀(n:Int) (a b:Option Int),(bif n !=0 then a else b)=if n≠0 then a else b:=by
  intro n a b;by_cases h:n=0
  ·rw[h];rfl
  ·have:(n !=0)=true:=by simpa using h
   rw[this,if_pos h];rfl
 simp only[k];split
 ·rfl
 ·split
  ·rfl
  ·split
   ·rfl
   ·split<;>rfl
theorem qHo {s:List qF} {d:List qH} {p:List Product} {pt:Pattern} {w:Saw} {t:Rates}:chkY s d p pt w t=0↔VY s d p pt w t:=by
 unfold chkY;constructor
 ·intro h;split at h
  ·rename_i c;exact(c h).elim
  ·rename_i c1;split at h
   ·rename_i c;exact(c h).elim
   ·rename_i c2;split at h
    ·rename_i c;exact(c h).elim
    ·rename_i c3;split at h
     ·rename_i c;exact(c h).elim
     ·rename_i c4;exact⟨(LK s).1 (by simpa using c1),by simpa using c2,by simpa using c3,(qA4 w t).1 (by simpa using c4),h⟩
 ·rintro⟨h1,h2,h3,h4,h5⟩;rw[if_neg (by simpa using(LK s).2 h1),if_neg (by simpa using h2),if_neg (by simpa using h3),if_neg (by simpa using(qA4 w t).2 h4),h5]
variable {s :List qF} {d:List qH} {p:List Product} {pt:Pattern} {w:Saw} {t:Rates}
theorem bd_any {p:List Product} (h:WF p=0) (r:Rect) (a:Int) (hb:ZI p r a=0):TY r a=0:=by
 have hl:=qHb (l:=p) (by simpa using h);unfold ZI at hb;unfold TY;split at hb
 ·cases hb
 ·rw[if_neg (by omega)]
theorem VY.any (h:VY s d p pt w t):TA TY pt w.Kerf=0:=by
 have hz:=NO.1 h.pat;obtain⟨T,e1,e2⟩:=qJh hz.2.2.2;rw[NO];refine⟨hz.1,hz.2.1,hz.2.2.1,?_⟩;rw[e1];exact chkP_of (qEx (bd_any h.pr) e2)
theorem VY.tree (h:VY s d p pt w t):∃T,pt.Nodes=jF T/\okT (ZI p) w.Kerf T ⟨pt.Frame,1⟩/\lvP pt w.Kerf=lvT w.Kerf T ⟨pt.Frame,1⟩/\ctP pt w.Kerf=ctT w.Kerf T ⟨pt.Frame,1⟩:=by
 have hz:=NO.1 h.pat;obtain⟨T,e1,e2⟩:=qJh hz.2.2.2;refine⟨T,e1,e2,?_,?_⟩
 ·unfold lvP lvT;rw[e1,qIU EA w.Kerf _ (CC e2)]
 ·unfold ctP ctT;rw[e1,qIU (cutG w.Kerf) w.Kerf _ (CC e2)]
def bdOf (s:List qF) (d:List qH) (p:List Product) (step fine:Int) (i:Nat) (x:Leaf):List qM:=
 if x.Product= -1 then[] else
  bif (LO s d (p.getD x.Product.toNat du) x.Rect step fine).2.1 then[⟨(i:Int),x.Product,⟨x.Rect.X,x.Rect.Y,(LO s d (p.getD x.Product.toNat du) x.Rect step fine).2.2⟩,(LO s d (p.getD x.Product.toNat du) x.Rect step fine).1⟩] else[]
def qKz (s:List qF) (d:List qH) (p:List Product) (step fine:Int):Nat->List Leaf->List qM
 |_,[]=>[]
 |i,x::l=>bdOf s d p step fine i x++qKz s d p step fine (i+1) l
structure GoodL (p:List Product) (x:Leaf):Prop where
 w:WR x.Rect
 b:x.Product= -1\/ZI p x.Rect x.Product=0
theorem qKd {x:Leaf} (hp:WF p=0) (h:GoodL p x) (hx:x.Product≠-1):0<=x.Product/\x.Product<(p.length:Int)/\VP (p.getD x.Product.toNat du)/\WF [p.getD x.Product.toNat du]=0/\VR x.Rect/\dimOk x.Rect (p.getD x.Product.toNat du)=true:=by
 have hb:=h.b.resolve_left hx;unfold ZI at hb;split at hb
 ·cases hb
 ·rename_i c;have hd:dimOk x.Rect (p.getD x.Product.toNat du)=true:=by
   cases hh:dimOk x.Rect (p.getD x.Product.toNat du) with
   |true=>rfl
   |false=>rw[hh] at hb;cases hb
  have hi:x.Product.toNat<p.length:=by omega
  have hv:=qI0 hp hi;refine⟨by omega,by omega,hv,qLH hp hi,?_,hd⟩;have g:=qKU hv;obtain⟨⟨x1,x2,x3⟩,y1,y2,y3⟩:=h.w;unfold dimOk at hd;simp only[uW,kn,beq_iff_eq] at hd;refine⟨⟨x1,?_,x3⟩,y1,?_,y3⟩<;>omega
def bds (s:List qF) (d:List qH) (p:List Product) (pt:Pattern) (w:Saw) (fine:Int):List qM:=qKz s d p w.Step fine 0 (lvP pt w.Kerf)
end Go.SL.Saw

namespace Go.SL.Saw
variable {s :List qF} {d:List qH} {p:List Product} {pt:Pattern} {w:Saw} {t:Rates}
def qAz (z:Span) (trim:Int):Span:=⟨imax 0 (z.A-trim),z.A⟩
def qCZ (z:Span) (trim len:Int):Span:=⟨z.B,imin (z.B+trim) len⟩
def brdV (s:List qF) (c:qM):Int:=volS s c.Box.X c.Box.Y c.Box.Z
def trmV (s:List qF) (trim:Int) (c:qM):Int:=volS s c.Box.X c.Box.Y (qAz c.Box.Z trim)+volS s c.Box.X c.Box.Y (qCZ c.Box.Z trim (qZ s))
structure IX (s:List qF) (c:qM):Prop where
 z:0<=c.Box.Z.A/\c.Box.Z.A<c.Box.Z.B/\c.Box.Z.B<=qZ s
 wth:0<=c.Worth/\c.Worth<=1000000
def wA (s:List qF) (ct:List Rect):Int:=sumL (QP s) ct
theorem EC {α:Type} (F:α->Int):∀(l:List α) (x:Nat) (s:Int),VO (λ_ a s=>s+F a) x l s=s+sumL F l
 |[],_,s=>by simp[VO,sumL]
 |a::l,x,s=>by
  show VO _ (x+1) l (s+F a)=_;rw[EC F l (x+1) (s+F a),yP];omega
theorem qHe {α:Type} (F G H:α->Int):∀(l:List α) (x:Nat) (s:Int×Int×Int),VO (λ_ a s=>(s.1+F a,s.2.1+G a,s.2.2+H a)) x l s=(s.1+sumL F l,s.2.1+sumL G l,s.2.2+sumL H l)
 |[],_,s=>by simp[VO,sumL]
 |a::l,x,s=>by
  show VO _ (x+1) l (s.1+F a,s.2.1+G a,s.2.2+H a)=_;rw[qHe F G H l (x+1) _,yP,yP,yP];simp only[Int.add_assoc]
theorem qKh (h:VSol s) (r:Rect):0<=QP s r/\QP s r<=28800000000:=qFW h _ _ _
def yB (s:List qF) (d:List qH) (p:List Product) (pt:Pattern) (w:Saw) (fine:Int):Int:=sumL (brdV s) (bds s d p pt w fine)
def yD (s:List qF) (d:List qH) (p:List Product) (pt:Pattern) (w:Saw) (fine:Int):Int:=wA s (ctP pt w.Kerf)+sumL (trmV s w.Trim) (bds s d p pt w fine)
def yW (s:List qF) (d:List qH) (p:List Product) (pt:Pattern) (w:Saw) (fine:Int):Int:=sumL (λc:qM=>1000000*c.Worth) (bds s d p pt w fine)
structure YBnd (s:List qF) (d:List qH) (p:List Product) (pt:Pattern) (w:Saw) (fine:Int):Prop where
 nB:0<=yB s d p pt w fine/\yB s d p pt w fine<=28800000000*127
 nD:0<=yD s d p pt w fine/\yD s d p pt w fine<=28800000000*127+57600000000*127
 nW:0<=yW s d p pt w fine/\yW s d p pt w fine<=1000000000000*127
end Go.SL.Saw

namespace Go.SL.Saw
theorem qC0 {σ β:Type} (N:Nat) (L:Nat->σ->Int->Option β) (hN:N<=1000000000)
  (h0:∀n i s,i<N->(∃b,L (n+1) s (i:Int)=some b)\/∃s',L (n+1) s (i:Int)=L n s' ((i+1:Nat):Int))
  (h1:∀n s,∃b,L (n+1) s (N:Int)=some b) (s:σ):∃b,L FUEL s 0=some b:=by
 have key:∀(k i n:Nat) (s:σ),i+k=N->k<n->∃b,L n s (i:Int)=some b:=by
  intro k
  induction k with
  |zero=>
   intro i n s hi hn;obtain⟨n,rfl⟩:∃m,n=m+1:=⟨n-1,by omega⟩
   have:i=N:=by omega
   subst this;exact h1 n s
  |succ k ih=>
   intro i n s hi hn;obtain⟨n,rfl⟩:∃m,n=m+1:=⟨n-1,by omega⟩
   rcases h0 n i s (by omega) with h|⟨s',h⟩
   ·exact h
   ·rw[h];exact ih (i+1) n s' (by omega) (by omega)
 exact key N 0 FUEL s (by omega) (by rw[QN];omega)
theorem qKj (a:qN) (h1:a.Solid.length<=1000000) (h2:a.Products.length<=1000000):∃b,DX a=some b:=by
 obtain⟨u1,e1⟩:=qC0 (min a.Solid.length 30) (λn (s:Int) x=>WB a n s x) (by omega) (λn i s hi=>by
   right;refine⟨imin 20000 (w64 (s+(imax 0 (imin 20000 ((a.Solid.getD i du).Len))))),?_⟩;rw[WB,ka (by omega),ka (by omega)];unfold UP;rw[zF (by omega),zL (by omega)];rfl) (λn s=>by
   refine⟨s,?_⟩;rw[WB];unfold UP;by_cases c:a.Solid.length<=30
   ·rw[kd (by omega)];rfl
   ·rw[ka (by omega),kd (by omega)];rfl) 0
 obtain⟨u2,e2⟩:=qC0 a.Products.length (λn (s:Int) x=>KT a n s x) (by omega) (λn i s hi=>by
   right;refine⟨imax s (imin 10 ((((a.Products.getD i du).Lengths).length:Nat):Int)),?_⟩;rw[KT,ka (by omega),zF (by omega),zL (by omega)];rfl) (λn s=>by
   refine⟨s,?_⟩;rw[KT,kd (by omega)];rfl) 1
 unfold DX NS;rw[e1,e2];simp only[kg];by_cases c:a.Saw.Step>0
 ·rw[ka c,nz_t (by omega)];exact⟨_,rfl⟩
 ·rw[kd c];exact⟨_,rfl⟩
theorem qKO (a:qN):∃b,NL a=some b/\(b=true->a.Solid.length<=30/\a.Defects.length<=70/\a.Products.length<=20/\a.Pattern.Nodes.length<=140):=by
 have kt:QE a true=some false:=rfl;unfold NL;by_cases h1:(a.Solid.length:Int)>30
 ·rw[ka h1];exact⟨false,rfl,λh=>by cases h⟩
 rw[kd h1];by_cases h2:(a.Defects.length:Int)>70
 ·rw[ka h2];exact⟨false,rfl,λh=>by cases h⟩
 rw[kd h2];by_cases h3:(a.Products.length:Int)>20
 ·rw[ka h3];exact⟨false,rfl,λh=>by cases h⟩
 rw[kd h3];by_cases h4:(a.Pattern.Nodes.length:Int)>140
 ·rw[ka h4];exact⟨false,rfl,λh=>by cases h⟩
 rw[kd h4];obtain⟨wk,ew⟩:=qKj a (by omega) (by omega);simp only[kp,ew,kg];have hl:a.Solid.length<=30/\a.Defects.length<=70/\a.Products.length<=20/\a.Pattern.Nodes.length<=140:=by omega
 suffices h:∀x,∃b,QE a x=some b by
  obtain⟨b,e⟩:=h (decide (wk>200000));exact⟨b,e,λ_=>hl⟩
 intro x;unfold QE;cases x with
 |true=>exact⟨false,rfl⟩
 |false=>
  obtain⟨u1,e1⟩:=qC0 a.Solid.length (λn (_:Unit) x=>XJ a n x) (by omega) (λn i s hi=>by
   rw[XJ,ka (by omega),zF (by omega),zL (by omega)];simp only[ki];cases decide ((((((a.Solid.getD ((i:Int)).toNat du).Sec).Rows).length:Nat):Int)>130)
   ·exact .inr ⟨(),rfl⟩
   ·exact .inl ⟨_,rfl⟩) (λn s=>by
   refine⟨.inr (),?_⟩;rw[XJ,kd (by omega)];rfl) ()
  obtain⟨u2,e2⟩:=qC0 a.Products.length (λn (_:Unit) x=>yV a n x) (by omega) (λn i s hi=>by
   rw[yV,ka (by omega),zF (by omega)];unfold RM;rw[zL (by omega)];simp only[ki,ks];cases decide (((((a.Products.getD i du).Lengths).length:Nat):Int)>10)
   ·cases decide (((((a.Products.getD i du).Prices).length:Nat):Int)>10)
    ·cases decide (((((a.Products.getD i du).Name).size:Nat):Int)>100)
     ·exact .inr ⟨(),rfl⟩
     ·exact .inl ⟨_,rfl⟩
    ·exact .inl ⟨_,rfl⟩
   ·exact .inl ⟨_,rfl⟩) (λn s=>by
   refine⟨.inr (),?_⟩;rw[yV,kd (by omega)];rfl) ()
  rw[e1];simp only[kp,kg];cases u1 with
  |inl v=>exact⟨v,rfl⟩
  |inr v=>
   rw[Sum.elim_inr,e2];simp only[kg];cases u2 with
   |inl v=>exact⟨v,rfl⟩
   |inr v=>exact⟨true,rfl⟩
end Go.SL.Saw

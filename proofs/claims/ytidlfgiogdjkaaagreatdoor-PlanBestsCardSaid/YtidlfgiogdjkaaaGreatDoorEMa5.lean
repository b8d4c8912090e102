/- Patterns: the checks, the leaves and the cuts are those of the trees. -/
import Derived.Test.YtidlfgiogdjkaaaGreatDoorEMa4
import Derived.Test.YtidlfgiogdjkaaaGreatDoorEMa3
set_option linter.unusedVariables false
set_option linter.unusedSimpArgs false
namespace Go.SL.Saw
def KG (_:Rect) (a:Int):Int:=if a<0\/16<=a then 8 else 0
def PH (l:List Product) (r:Rect) (a:Int):Int:=if a<0\/(l.length:Int)<=a then 8 else bif dimOk r (l.getD a.toNat du) then 0 else 20
theorem any_eq (r:Rect) (a:Int):qAk r a=some (KG r a):=by
 unfold qAk LI KG;by_cases h1:a<0
 ·rw[kd h1,if_pos (.inl h1)];rfl
 ·by_cases h2:16<=a
  ·rw[ka h1,kd (show a≥16 from h2),if_pos (.inr h2)];rfl
  ·rw[ka h1,ka (show¬a≥16 from h2),if_neg (by omega)];rfl
theorem q0Q {s:Span} (h:WS s):lenS s=s.B-s.A:=by
 unfold lenS empS;obtain⟨h1,h2,h3⟩:=h;by_cases e:s.B<=s.A
 ·rw[kd e];simp;omega
 ·rw[ka e];simp
theorem cat_eq {r:Rect} (hw:WR r) (a:Int) (l:List Product):qBI r a l=some (PH l r a):=by
 unfold qBI PH;have k:∀b,XI r a l b=bif b then some 8 else XI r a l false:=λb=>by cases b<;>rfl
 by_cases h1:a<0
 ·rw[kd h1,if_pos (.inl h1)];rfl
 ·rw[ka h1,kp];by_cases h2:(l.length:Int)<=a
  ·rw[kd (show a≥_ from h2),if_pos (.inr h2)];rfl
  ·rw[ka (show¬a≥_ from h2),if_neg (by omega)];unfold XI;rw[kp,qU (by omega),kn,(NU _).1,OK (by have:=hw.1;unfold WS at this;omega),OK (by have:=hw.2;unfold WS at this;omega),q0Q hw.1,q0Q hw.2];simp only[ke];unfold dimOk WE;simp only[bne];generalize (qZ (l.getD a.toNat du)).1=g1;generalize (qZ (l.getD a.toNat du)).2=g2;generalize r.X.B-r.X.A=x;generalize r.Y.B-r.Y.A=y;cases x==g1<;>cases x==g2<;>cases y==g1<;>cases y==g2<;>rfl
theorem qK6 (n:Node) (x:qJ):GP n x=some (chkN (λ_ _=>0) n x):=by
 have k:∀b,QR n x b=some (if b=true then 10 else if 64<x.level then 28 else if ripB n.Kind=true/\(n.At<=(alP x.rect n.Kind).A\/(alP x.rect n.Kind).B<=n.At) then 20 else 0):=by
  intro b;unfold QR;cases b with
  |true=>rfl
  |false=>
   simp only[kp,qMV,qV3,ke,ub,if_false];by_cases h2:x.level>64
   ·rw[kd h2,if_pos (show 64<x.level from h2)];rfl
   ·rw[ka h2,if_neg (show¬64<x.level from h2),kp];cases hr:ripB n.Kind with
    |false=>simp[PN]
    |true=>
     simp only[kn,true_and];unfold NL PN;by_cases h3:n.At<=(alP x.rect n.Kind).A
     ·rw[kd h3,if_pos (.inl h3)];rfl
     ·by_cases h4:(alP x.rect n.Kind).B<=n.At
      ·rw[ka h3,kd (show n.At≥_ from h4),if_pos (.inr h4)];rfl
      ·rw[ka h3,ka (show¬n.At≥_ from h4),if_neg (by omega)];rfl
 unfold GP chkN;simp only[k];have e0:∀b:Bool,(if n.Kind=1 then(0:Int) else 0)=0:=λ_=>by split<;>rfl
 rw[e0 true];by_cases h1:n.Kind<0
 ·rw[kd h1,if_pos (c:=n.Kind<0\/3<n.Kind\/(n.Kind=0/\n.At≠0)) (.inl h1)];rfl
 ·by_cases h2:n.Kind>3
  ·rw[ka h1,kd h2,if_pos (c:=n.Kind<0\/3<n.Kind\/(n.Kind=0/\n.At≠0)) (.inr (.inl h2))];rfl
  ·rw[ka h1,ka h2,kp,kp];by_cases h3:n.Kind=0
   ·have e3:(n.Kind==0)=true:=by simpa using h3
    rw[e3,kn];by_cases h4:n.At=0
    ·have e4:(n.At !=0)=false:=by simpa using h4
     rw[e4,if_neg (c:=n.Kind<0\/3<n.Kind\/(n.Kind=0/\n.At≠0)) (by omega)];rfl
    ·have e4:(n.At !=0)=true:=by simpa using h4
     rw[e4,if_pos (c:=n.Kind<0\/3<n.Kind\/(n.Kind=0/\n.At≠0)) (by omega)];rfl
   ·have e3:(n.Kind==0)=false:=by simpa using h3
    rw[e3,kp,if_neg (c:=n.Kind<0\/3<n.Kind\/(n.Kind=0/\n.At≠0)) (by omega)];rfl
theorem qYi (bd:Rect->Int->Int) (n:Node) (x:qJ):chkN bd n x=if chkN (λ_ _=>0) n x≠0 then chkN (λ_ _=>0) n x else if n.Kind=1 then bd x.rect n.At else 0:=by
 unfold chkN;split
 ·rfl
 ·split
  ·rfl
  ·split
   ·rfl
   ·split<;>simp
abbrev RdC :=Int->qJ->Int×Int->Option (Nat×Int×Int)
def qUL (f:RdC) (bd:Rect->Int->Int) (nodes:List Node):Prop:=
 ∀(i:Nat) (x:qJ) (s:Int×Int),WR x.rect->i<1000000->
  f (i:Int) x s=some (if nodes.length<=i then(1,3,s.2) else if chkN bd (nodes.getD i du) x≠0 then(1,chkN bd (nodes.getD i du) x,s.2) else(0,s.1,(i:Int)+1))
def finC (nodes:List Node) (v:Nat×Int×Int):Option Int:=bif Nat.beq v.1 0 then(bif decide (v.2.2<(nodes.length:Int)) then some 4 else some 0) else bif Nat.beq v.1 1 then some v.2.1 else none
theorem qXR {f:RdC} {bd:Rect->Int->Int} {nodes:List Node} (hf:qUL f bd nodes) {kerf:Int} (hk:0<=kerf/\kerf<=20) (hn:nodes.length<=1000):
  ∀(ns:List Node) (i:Nat) (st:List qJ) (r:Int),nodes.drop i=ns->i<=nodes.length->(∀x∈st,WR x.rect)->
   ∃v,runP f kerf ns (i:Int) st (r,(i:Int))=some v/\finC nodes v=some (chkP bd kerf ns st)
 |[],i,[],r,hd,hi,_=>by
  have hil:nodes.length<=i:=by have:=congrArg List.length hd;simp at this;omega
  refine⟨(0,r,(i:Int)),rfl,?_⟩;unfold finC;rw[ka (by simp;omega)];rfl
 |n::ns,i,[],r,hd,hi,_=>by
  have hil:i<nodes.length:=by
   rcases Nat.lt_or_ge i nodes.length with h|h
   ·exact h
   ·rw[ug h] at hd;cases hd
  refine⟨(0,r,(i:Int)),rfl,?_⟩;unfold finC;rw[kd (by simp;omega)];rfl
 |[],i,x::st,r,hd,hi,hw=>by
  have hil:nodes.length<=i:=by have:=congrArg List.length hd;simp at this;omega
  refine⟨(1,3,(i:Int)),?_,rfl⟩;show f (i:Int) x (r,(i:Int))=_;rw[hf i x _ (hw x kK) (by omega),if_pos hil]
 |n::ns,i,x::st,r,hd,hi,hw=>by
  have hil:i<nodes.length:=by
   rcases Nat.lt_or_ge i nodes.length with h|h
   ·exact h
   ·rw[ug h] at hd;cases hd
  have hg:nodes.getD i du=n:=by
   have h0:=congrArg (λl=>l.getD 0 du) hd;simpa[kg] using h0
  have hd2:nodes.drop (i+1)=ns:=by
   have h0:=congrArg List.tail hd;simpa using h0
  show∃v,((f (i:Int) x (r,(i:Int))).bind λv=>bif Nat.beq v.1 0 then runP f kerf ns ((i:Int)+1) (pushP kerf n x st) v.2 else some v)=some v/\finC nodes v=some (if chkN bd n x≠0 then chkN bd n x else chkP bd kerf ns (pushP kerf n x st));rw[hf i x _ (hw x kK) (by omega),if_neg (by omega),hg];by_cases c:chkN bd n x=0
  ·rw[if_neg (by simpa using c),if_neg (by simpa using c)];have hp:∀y∈pushP kerf n x st,WR y.rect:=by
    intro y hy;unfold pushP at hy;cases hr:ripB n.Kind with
    |false=>rw[hr,kp] at hy;exact hw y (kM _ hy)
    |true=>
     rw[hr,kn] at hy;have c3:=(cut3 hr (hw x kK) (qYy hr c) hk).1;rcases kO.1 hy with rfl|hy
     ·exact c3.wf
     ·rcases kO.1 hy with rfl|hy
      ·exact c3.ws
      ·exact hw y (kM _ hy)
   exact qXR hf hk hn ns (i+1) (pushP kerf n x st) r hd2 hil hp
  ·rw[if_pos c,if_pos c];exact⟨_,rfl,rfl⟩
theorem VR_WR {r:Rect} (h:VR r):WR r:=⟨⟨h.1.1,by have:=h.1.2;omega,h.1.2.2⟩,h.2.1,by have:=h.2.2;omega,h.2.2.2⟩
def XO (bd:Rect->Int->Int) (p:qN) (kerf:Int):Int:=
 if¬VR p.Frame then 19 else if kerf<0\/20<kerf then 9 else if 127<p.Nodes.length then 4 else chkP bd kerf p.Nodes [⟨p.Frame,1⟩]
theorem qYC {f:RdC} {bd:Rect->Int->Int} {p:qN} (hf:qUL f bd p.Nodes) {kerf:Int} (hv:VR p.Frame) (hk:0<=kerf/\kerf<=20) (hn:p.Nodes.length<=127):
  (runP f kerf p.Nodes 0 [⟨p.Frame,1⟩] (0,0)).bind (finC p.Nodes)=some (chkP bd kerf p.Nodes [⟨p.Frame,1⟩]):=by
 obtain⟨v,e1,e2⟩:=qXR hf hk (by omega) p.Nodes 0 [⟨p.Frame,1⟩] 0 rfl (ud _) (λx hx=>by simp at hx;subst hx;exact VR_WR hv);have e1':runP f kerf p.Nodes 0 [⟨p.Frame,1⟩] (0,0)=some v:=e1;rw[e1'];exact e2
theorem qZ4 (p:qN) (l:List Product):qUL (λi x s=>YH i x p l s.1 s.2) (PH l) p.Nodes:=by
 intro i x s hw hi;simp only;unfold YH VU GD;by_cases h:p.Nodes.length<=i
 ·rw[kd (by simp;omega),if_pos h];rfl
 ·rw[ka (by simp;omega),if_neg h,kp,qU (by omega),kn,ko,qK6,qYi (PH l)];simp only[ke,cat_eq hw];by_cases c:chkN (λ_ _=>0) (p.Nodes.getD i du) x=0
  ·rw[c];simp only[ne_eq,not_true_eq_false,if_false,ut,kn];by_cases c1:(p.Nodes.getD i du).Kind=1
   ·have e1:((p.Nodes.getD i du).Kind==1)=true:=by simpa using c1
    rw[e1,kn,if_pos c1];by_cases c2:PH l x.rect (p.Nodes.getD i du).At=0
    ·rw[c2];simp[qK (n:=(i:Int)+1) (by omega)]
    ·have e2:(PH l x.rect (p.Nodes.getD i du).At !=0)=true:=by simpa using c2
     rw[e2,if_pos c2];rfl
   ·have e1:((p.Nodes.getD i du).Kind==1)=false:=by simpa using c1
    rw[e1,kp,if_neg c1];simp[qK (n:=(i:Int)+1) (by omega)]
  ·have e1:(chkN (λ_ _=>0) (p.Nodes.getD i du) x==0)=false:=by simpa using c
   have e2:(chkN (λ_ _=>0) (p.Nodes.getD i du) x !=0)=true:=by simpa using c
   rw[e1,kp,kp,e2,kn,if_pos c,if_pos c]
theorem q0n (p:qN):qUL (λi x s=>ZJ i x p s.1 s.2) KG p.Nodes:=by
 intro i x s hw hi;simp only;unfold ZJ PG PK;by_cases h:p.Nodes.length<=i
 ·rw[kd (by simp;omega),if_pos h];rfl
 ·rw[ka (by simp;omega),if_neg h,kp,qU (by omega),kn,ko,qK6,qYi KG];simp only[ke,any_eq];by_cases c:chkN (λ_ _=>0) (p.Nodes.getD i du) x=0
  ·rw[c];simp only[ne_eq,not_true_eq_false,if_false,ut,kn];by_cases c1:(p.Nodes.getD i du).Kind=1
   ·have e1:((p.Nodes.getD i du).Kind==1)=true:=by simpa using c1
    rw[e1,kn,if_pos c1];by_cases c2:KG x.rect (p.Nodes.getD i du).At=0
    ·rw[c2];simp[qK (n:=(i:Int)+1) (by omega)]
    ·have e2:(KG x.rect (p.Nodes.getD i du).At !=0)=true:=by simpa using c2
     rw[e2,if_pos c2];rfl
   ·have e1:((p.Nodes.getD i du).Kind==1)=false:=by simpa using c1
    rw[e1,kp,if_neg c1];simp[qK (n:=(i:Int)+1) (by omega)]
  ·have e1:(chkN (λ_ _=>0) (p.Nodes.getD i du) x==0)=false:=by simpa using c
   have e2:(chkN (λ_ _=>0) (p.Nodes.getD i du) x !=0)=true:=by simpa using c
   rw[e1,kp,kp,e2,kn,if_pos c,if_pos c]
theorem qXo (p:qN) (l:List Product) (kerf:Int):qDM p l kerf=some (XO (PH l) p kerf):=by
 have k:∀b,TA p kerf l b=bif b then some 9 else TA p kerf l false:=λb=>by cases b<;>rfl
 unfold qDM qJb XO;rw[qPU];simp only[ke];by_cases hv:VR p.Frame
 ·rw[kd hv,if_neg (by simpa using hv)];simp only[ky,kp];by_cases h1:kerf<0
  ·rw[kd h1,if_pos (.inl h1)];rfl
  ·by_cases h2:kerf>20
   ·rw[ka h1,kd h2,if_pos (.inr h2)];rfl
   ·rw[ka h1,ka h2,if_neg (by omega),kp];unfold TA WG;rw[kp];by_cases h3:127<p.Nodes.length
    ·rw[kd (show(p.Nodes.length:Int)>127 by omega),if_pos h3];rfl
    ·rw[ka (show¬(p.Nodes.length:Int)>127 by omega),if_neg h3,kp];simp only[ke];rw[qYX _ _ _ _ _ _ (by omega)];have:=qYC (qZ4 p l) hv (kerf:=kerf) (by omega) (by omega);unfold finC at this;rw[this];rfl
 ·rw[ka hv,if_pos (by simpa using hv)];rfl
theorem qTn (p:qN) (kerf:Int):BO p kerf=some (XO KG p kerf):=by
 unfold BO XO;rw[qPU];simp only[ke];by_cases hv:VR p.Frame
 ·rw[kd hv,if_neg (by simpa using hv)];simp only[ky,kp];by_cases h1:kerf<0
  ·rw[kd h1,if_pos (.inl h1)];rfl
  ·by_cases h2:kerf>20
   ·rw[ka h1,kd h2,if_pos (.inr h2)];rfl
   ·rw[ka h1,ka h2,if_neg (by omega),kp];unfold LJ WG;rw[kp];by_cases h3:127<p.Nodes.length
    ·rw[kd (show(p.Nodes.length:Int)>127 by omega),if_pos h3];rfl
    ·rw[ka (show¬(p.Nodes.length:Int)>127 by omega),if_neg h3,kp];simp only[ke];rw[qZn _ _ _ _ _ (by omega)];have:=qYC (q0n p) hv (kerf:=kerf) (by omega) (by omega);unfold finC at this;rw[this]
 ·rw[ka hv,if_pos (by simpa using hv)];rfl
theorem qR2 {α:Type} {g:Node->qJ->List α} (hg1:∀n x,(g n x).length<=1) {bd:Rect->Int->Int} {nodes:List Node} {f:Int->qJ->List α->Option (Nat×List α)} {kerf:Int} (hn:nodes.length<=1000)
  (hf:∀(i:Nat) (x:qJ) (s:List α),i<nodes.length->s.length<=1000->f (i:Int) x s=some (0,s++g (nodes.getD i du) x)):
  ∀(ns:List Node) (i:Nat) (st:List qJ) (s:List α),nodes.drop i=ns->i<=nodes.length->s.length<=i->chkP bd kerf ns st=0->runP f kerf ns (i:Int) st s=some (0,s++allP g kerf ns st)
 |[],i,[],s,_,_,_,_=>by simp[runP,allP]
 |n::ns,i,[],s,_,_,_,h=>by simp[chkP] at h
 |[],i,x::st,s,_,_,_,h=>by simp[chkP] at h
 |n::ns,i,x::st,s,hd,hi,hs,h=>by
  have hil:i<nodes.length:=by
   rcases Nat.lt_or_ge i nodes.length with h|h
   ·exact h
   ·rw[ug h] at hd;cases hd
  have hgn:nodes.getD i du=n:=by
   have h0:=congrArg (λl=>l.getD 0 du) hd;simpa[kg] using h0
  have hd2:nodes.drop (i+1)=ns:=by
   have h0:=congrArg List.tail hd;simpa using h0
  have h':chkP bd kerf ns (pushP kerf n x st)=0:=by
   unfold chkP at h;split at h
   ·rename_i c;exact(c h).elim
   ·exact h
  show((f (i:Int) x s).bind λv=>bif Nat.beq v.1 0 then runP f kerf ns ((i:Int)+1) (pushP kerf n x st) v.2 else some v)=_;rw[hf i x s hil (by omega),hgn];have e:=qR2 hg1 (bd:=bd) hn hf ns (i+1) (pushP kerf n x st) (s++g n x) hd2 hil (by have:=hg1 n x;simp;omega) h';show runP f kerf ns ((i:Int)+1) (pushP kerf n x st) (s++g n x)=_;rw[show((i:Int)+1)=((i+1:Nat):Int) by omega,e,kX];rfl
theorem leafG1 (n:Node) (x:qJ):(CT n x).length<=1:=by unfold CT;split<;>(try split)<;>simp
theorem cutG1 (kerf:Int) (n:Node) (x:qJ):(cutG kerf n x).length<=1:=by unfold cutG;split<;>simp
theorem GH {bd:Rect->Int->Int} {p:qN} {kerf:Int}:XO bd p kerf=0↔VR p.Frame/\(0<=kerf/\kerf<=20)/\p.Nodes.length<=127/\chkP bd kerf p.Nodes [⟨p.Frame,1⟩]=0:=by
 unfold XO;by_cases hv:VR p.Frame
 ·rw[if_neg (by simpa using hv)];by_cases h1:kerf<0\/20<kerf
  ·rw[if_pos h1];constructor
   ·intro h;cases h
   ·rintro⟨_,h,_⟩;omega
  ·rw[if_neg h1];by_cases h3:127<p.Nodes.length
   ·rw[if_pos h3];constructor
    ·intro h;cases h
    ·rintro⟨_,_,h,_⟩;omega
   ·rw[if_neg h3];constructor
    ·intro h;exact⟨hv,by omega,by omega,h⟩
    ·rintro⟨_,_,_,h⟩;exact h
 ·rw[if_pos (by simpa using hv)];constructor
  ·intro h;cases h
  ·rintro⟨h,_⟩;exact(hv h).elim
def lvP (p:qN) (kerf:Int):List Leaf:=allP CT kerf p.Nodes [⟨p.Frame,1⟩]
def ctP (p:qN) (kerf:Int):List Rect:=allP (cutG kerf) kerf p.Nodes [⟨p.Frame,1⟩]
theorem q0z (p:qN) (kerf:Int):qCw p kerf=some (if XO KG p kerf=0 then(lvP p kerf,0) else([],XO KG p kerf)):=by
 unfold qCw;rw[qTn];simp only[ke];by_cases h:XO KG p kerf=0
 ·have hz:=GH.1 h;rw[if_pos h,h];unfold WG;simp only[kv,kp,ke];rw[qZg _ _ _ _ (by omega)];have e:=qR2 leafG1 (bd:=KG) (kerf:=kerf) (nodes:=p.Nodes) (f:=λi x (s:List Leaf)=>WV i x p s) (by omega) (by
   intro i x s hi hs;unfold WV CT;rw[qU (by omega),kn,ko,wO (by omega)];by_cases c0:(p.Nodes.getD i du).Kind=0
   ·have e0:((p.Nodes.getD i du).Kind==0)=true:=by simpa using c0
    rw[e0,if_pos c0];rfl
   ·have e0:((p.Nodes.getD i du).Kind==0)=false:=by simpa using c0
    rw[e0,if_neg c0,kp];by_cases c1:(p.Nodes.getD i du).Kind=1
    ·have e1:((p.Nodes.getD i du).Kind==1)=true:=by simpa using c1
     rw[e1,if_pos c1];rfl
    ·have e1:((p.Nodes.getD i du).Kind==1)=false:=by simpa using c1
     rw[e1,if_neg c1,kp,uw]) p.Nodes 0 [⟨p.Frame,1⟩] [] rfl (ud _) (ud _) hz.2.2.2
  rw[show(0:Int)=((0:Nat):Int) from rfl,e];rfl
 ·have h':(XO KG p kerf !=0)=true:=by simpa using h
  rw[if_neg h,h'];rfl
theorem Cuts_eq (p:qN) (kerf:Int):qEM p kerf=some (if XO KG p kerf=0 then(ctP p kerf,0) else([],XO KG p kerf)):=by
 unfold qEM;rw[qTn];simp only[ke];by_cases h:XO KG p kerf=0
 ·have hz:=GH.1 h;rw[if_pos h,h];unfold WG;simp only[kv,kp,ke];rw[qZy _ _ _ _ _ (by omega)];have e:=qR2 (cutG1 kerf) (bd:=KG) (kerf:=kerf) (nodes:=p.Nodes) (f:=λi x (s:List Rect)=>XP i x p kerf s) (by omega) (by
   intro i x s hi hs;unfold XP cutG;rw[qU (by omega),kn,ko,qMV,wO (by omega)];simp only[ke,qWj];cases c0:ripB (p.Nodes.getD i du).Kind
   ·simp
   ·simp) p.Nodes 0 [⟨p.Frame,1⟩] [] rfl (ud _) (ud _) hz.2.2.2
  rw[show(0:Int)=((0:Nat):Int) from rfl,e];rfl
 ·have h':(XO KG p kerf !=0)=true:=by simpa using h
  rw[if_neg h,h'];rfl
end Go.SL.Saw

namespace Go.SL
namespace Saw
def wid (r:Rect):Int:=r.X.B-r.X.A
def YI (l:List qC) (ds:List qF) (p:Product) (r:Rect) (w:Saw) (t:Rates) (sz:Int) (x:Nat):Int:=
 if(x:Int) % w.Pitch=0 then AR l ds p (GN r x (x+sz)) w t else-1
def BC (l:List qC) (ds:List qF) (p:Product) (r:Rect) (w:Saw) (t:Rates) (sz:Int):List Int:=(List.range (wid r-sz+1).toNat).map (YI l ds p r w t sz)
theorem qZm {l:List qC} {ds:List qF} {ps:List Product} {r:Rect} {w:Saw} {t:Rates} (h:VE l ds ps r w t) (z:Int) {j:Nat} (hj:j<(zH ps z).1.length):
  JL l ds ps r w t (zH ps z) (j:Int) FUEL [] 0=some (BC l ds (ps.getD ((zH ps z).2.getD j du).toNat du) r w t ((zH ps z).1.getD j du)):=by
 obtain⟨s1,s2,i,hi,ei,vp,c1⟩:=qIJ h.pr z hj;have hsl:=(qQ1 h.pr z).len;have hr:=h.vr;have hr':=hr;unfold VR at hr';have hw:=h.vw;have hp:=hw.pitch;have hd:WK ds=0:=(PO ds).2 ⟨h.dl,h.dd⟩;rw[ei,ko];generalize hsz:(zH ps z).1.getD j du=sz at*;have k:=zR (wid r-sz+1).toNat (λn (s:List Int) x=>JL l ds ps r w t (zH ps z) (j:Int) n s x) (λx s=>s++[YI l ds (ps.getD i du) r w t sz x]) (λs=>s)
  (λx s=>s=(List.range x).map (YI l ds (ps.getD i du) r w t sz)) 0 (by omega) (by unfold wid;omega)
  (λn x s hx hs=>by
   unfold wid at hx;have hlen:s.length=x:=by rw[hs];simp
   refine⟨?_,by rw[hs,kW,kH];rfl⟩;rw[JL];simp only[ko,hsz,ei];rw[qK (n:=(x:Int)+sz) (by omega),qK (n:=r.X.B-r.X.A) (by omega),kd (by omega),nz_t (by omega),qU (by omega),qU (by omega),qRX hr (by omega) (by omega)];simp only[kn,ke,qA0,qY (show x<4611686018427387904 by omega)];rw[wO (by omega),(qYu h.sol hd c1 vp (qQY hr (a:=(x:Int)) (b:=(x:Int)+sz) (by omega) (by omega) (by omega)) hw).1];simp only[kn,ke,YI];have em:Int.tmod (x:Int) w.Pitch=(x:Int) % w.Pitch:=uM (by omega);rw[em];by_cases c:(x:Int) % w.Pitch=0
   ·rw[if_pos c,c];rfl
   ·rw[if_neg c,show((x:Int) % w.Pitch==0)=false by rw[kL];exact c];rfl)
  (λn s _=>by
   rw[JL];simp only[ko,hsz];unfold wid;rw[qK (n:=(((r.X.B-r.X.A-sz+1).toNat:Nat):Int)+sz) (by omega),qK (n:=r.X.B-r.X.A) (by omega),ka (by omega)];rfl) [] rfl
 rw[show((0:Nat):Int)=0 from rfl,kF] at k;rw[k.1,k.2];rfl
def sliv (l:List qC) (r:Rect) (x:Nat):Int:=volS l (GN r x (x+1)).X r.Y ⟨0,solLen l⟩
def qCQ (l:List qC) (ds:List qF) (ps:List Product) (r:Rect) (w:Saw) (t:Rates) (z:Int):List (List Int):=
 (List.range (zH ps z).1.length).map (λj=>BC l ds (ps.getD ((zH ps z).2.getD j du).toNat du) r w t ((zH ps z).1.getD j du))
def lineS (l:List qC) (ds:List qF) (ps:List Product) (r:Rect) (w:Saw) (t:Rates):Line:=
 ⟨wid r,w.Kerf,1,(zH ps (r.Y.B-r.Y.A)).1,qCQ l ds ps r w t (r.Y.B-r.Y.A),(List.range (wid r).toNat).map (λx=>t.Chip*sliv l r x),(List.range (wid r).toNat).map (λx=>t.Dust*sliv l r x)⟩
theorem q2d {l:List qC} {ds:List qF} {ps:List Product} {r:Rect} {w:Saw} {t:Rates} (h:VE l ds ps r w t) (z:Int):RX l ds ps r w t (zH ps z) FUEL 0 []=some (qCQ l ds ps r w t z):=by
 have hl:=(qCZ ps z).1
 let g:Nat->List Int:=λj=>BC l ds (ps.getD ((zH ps z).2.getD j du).toNat du) r w t ((zH ps z).1.getD j du)
 have k:=zR (zH ps z).1.length (λn (s:List (List Int)) x=>RX l ds ps r w t (zH ps z) n x s) (λj s=>s++[g j]) (λs=>s) (λj s=>s=(List.range j).map g) 0 (by omega) (by omega)
  (λn j s hj hs=>by
   have hlen:s.length=j:=by rw[hs];simp
   refine⟨?_,by rw[hs,kW,kH];rfl⟩;rw[RX,kd (by omega),qU (by omega),qZm h z hj,wO (by omega),qY (by omega)];rfl)
  (λn s _=>by rw[RX,ka (by omega)];rfl) [] rfl
 rw[show((0:Nat):Int)=0 from rfl,kF] at k;rw[k.1,k.2];rfl
theorem qQl {l:List qC} (h:VSol l) (r:Rect) (x:Nat):0<=sliv l r x/\sliv l r x<=28800000000:=EI h _ _ _
theorem q2a {l:List qC} {ds:List qF} {ps:List Product} {r:Rect} {w:Saw} {t:Rates} (h:VE l ds ps r w t):RQ l r t (solLen l) FUEL 0 [] []=some ((List.range (wid r).toNat).map (λx=>t.Chip*sliv l r x),(List.range (wid r).toNat).map (λx=>t.Dust*sliv l r x)):=by
 have hr:=h.vr;unfold VR at hr;have hw:=h.vw;have k:=zR (wid r).toNat (λn (s:List Int×List Int) x=>RQ l r t (solLen l) n x s.1 s.2) (λx s=>(s.1++[t.Chip*sliv l r x],s.2++[t.Dust*sliv l r x])) (λs=>s)
  (λx s=>s=((List.range x).map (λx=>t.Chip*sliv l r x),(List.range x).map (λx=>t.Dust*sliv l r x))) 0 (by omega) (by unfold wid;omega)
  (λn x s hx hs=>by
   unfold wid at hx;subst hs;have sb:=qQl h.sol r x;have m1:=jL (a:=t.Chip) (b:=sliv l r x) (m:=1000) (n:=28800000000) (by have:=hw.chip;omega) (by have:=hw.chip;omega) (by omega) (by omega) (by omega) (by omega);have m2:=jL (a:=t.Dust) (b:=sliv l r x) (m:=1000) (n:=28800000000) (by have:=hw.dust;omega) (by have:=hw.dust;omega) (by omega) (by omega) (by omega) (by omega);refine⟨?_,by simp only[kW,kH];rfl⟩;simp only;rw[RQ,qK (n:=r.X.B-r.X.A) (by omega),kd (by omega),qK (n:=(x:Int)+1) (by omega),qRX h.vr (by omega) (by omega)];simp only[kn,ke,qZD h.sol,kN,uf];rw[wO (by omega)];simp only[kn]
   rw[show volS l (GN r (x:Int) ((x:Int)+1)).X (GN r (x:Int) ((x:Int)+1)).Y ⟨0,solLen l⟩=sliv l r x from rfl,qK (n:=t.Chip*sliv l r x) (by omega),qK (n:=t.Dust*sliv l r x) (by omega),show(x:Int)+1=((x+1:Nat):Int) by omega])
  (λn s _=>by
   try simp only
   unfold wid;rw[RQ,qK (n:=r.X.B-r.X.A) (by omega),ka (by omega)];rfl) ([],[]) rfl
 rw[show((0:Nat):Int)=0 from rfl,kF] at k;rw[k.1,k.2]
def noLine :Line:=⟨0,0,0,[],[],[],[]⟩
open Classical in
noncomputable def qK9 (l:List qC) (ds:List qF) (ps:List Product) (r:Rect) (w:Saw) (t:Rates):Line×Int:=if chkE l ds ps r w t=0 then(lineS l ds ps r w t,0) else(noLine,chkE l ds ps r w t)
theorem Line_eq (l:List qC) (ds:List qF) (ps:List Product) (r:Rect) (w:Saw) (t:Rates):qC6 l ds ps r w t=some (qK9 l ds ps r w t):=by
 unfold qC6 qK9;rw[chkE_eq];simp only[ke];by_cases c:chkE l ds ps r w t=0
 ·have h:=JW.1 c;have hr:=h.vr;unfold VR at hr;rw[if_pos c,c,qK (n:=r.Y.B-r.Y.A) (by omega),(qIY ps _).1,(YA l).1,KF h.sol,qK (n:=r.X.B-r.X.A) (by omega)];simp only[kv,kp,ke,q2d h,q2a h];rfl
 ·rw[if_neg c,show(chkE l ds ps r w t !=0)=true by rw[ua];exact c];rfl
def okN (n:Int):Prop:= -1125899906842624<=n/\n<=1125899906842624
structure VL (a:Line):Prop where
 len:0<=a.Len/\a.Len<=2000
 kerf:0<=a.Kerf/\a.Kerf<=20
 pitch:1<=a.Pitch/\a.Pitch<=2000
 szl:a.Sizes.length<=32
 sz:∀i,i<a.Sizes.length->1<=a.Sizes.getD i du/\a.Sizes.getD i du<=2000
 gl:a.Gain.length=a.Sizes.length
 cl:(a.Chip.length:Int)=a.Len
 dl:(a.Dust.length:Int)=a.Len
 gr:∀i,i<a.Sizes.length->(a.Gain.getD i du).length=(a.Len-a.Sizes.getD i du+1).toNat
 gb:∀i,i<a.Sizes.length->∀j,j<(a.Gain.getD i du).length->okN ((a.Gain.getD i du).getD j du)
 cb:∀j,j<a.Chip.length->okN (a.Chip.getD j du)
 db:∀j,j<a.Dust.length->okN (a.Dust.getD j du)
theorem CW {l:List qC} {ds:List qF} {ps:List Product} {r:Rect} {w:Saw} {t:Rates} (h:VE l ds ps r w t):VL (lineS l ds ps r w t):=by
 have hr:=h.vr;unfold VR at hr;have hw:=h.vw;have sl:=qCZ ps (r.Y.B-r.Y.A);have hd:WK ds=0:=(PO ds).2 ⟨h.dl,h.dd⟩;have gl:(lineS l ds ps r w t).Gain.length=(zH ps (r.Y.B-r.Y.A)).1.length:=by unfold lineS qCQ;simp
 have ga:∀i,i<(zH ps (r.Y.B-r.Y.A)).1.length->(lineS l ds ps r w t).Gain.getD i du=BC l ds (ps.getD ((zH ps (r.Y.B-r.Y.A)).2.getD i du).toNat du) r w t ((zH ps (r.Y.B-r.Y.A)).1.getD i du):=λi hi=>by
  unfold lineS qCQ;simp only;rw[wT _ hi]
 have wb:wid r=r.X.B-r.X.A:=rfl;refine⟨by show 0<=wid r/\wid r<=2000;omega,hw.kerf,⟨show(1:Int)<=1 by decide,show(1:Int)<=2000 by decide⟩,by show(zH ps (r.Y.B-r.Y.A)).1.length<=32;omega,λi hi=>?_,gl,?_,?_,λi hi=>?_,λi hi j hj=>?_,λj hj=>?_,λj hj=>?_⟩
 ·have:=qIJ h.pr (r.Y.B-r.Y.A) hi;show 1<=(zH ps (r.Y.B-r.Y.A)).1.getD i du/\(zH ps (r.Y.B-r.Y.A)).1.getD i du<=2000;omega
 ·show(((List.range (wid r).toNat).map _).length:Int)=wid r;simp;omega
 ·show(((List.range (wid r).toNat).map _).length:Int)=wid r;simp;omega
 ·rw[ga i hi];unfold BC;simp;rfl
 ·have hi':i<(zH ps (r.Y.B-r.Y.A)).1.length:=hi;rw[ga i hi'] at hj⊢;obtain⟨s1,s2,k,hk,ek,vp,c1⟩:=qIJ h.pr (r.Y.B-r.Y.A) hi';unfold BC at hj⊢;simp only[kN,uf] at hj;rw[wT _ hj,ek,ko];unfold YI;split
  ·exact(qYu h.sol hd c1 vp (qQY h.vr (by omega) (by omega) (by omega)) hw).2
  ·exact⟨by decide,by decide⟩
 ·have hj':j<(wid r).toNat:=by simpa[lineS] using hj
  show okN (((List.range (wid r).toNat).map (λx=>t.Chip*sliv l r x)).getD j du);rw[wT _ hj'];have sb:=qQl h.sol r j;have m1:=jL (a:=t.Chip) (b:=sliv l r j) (m:=1000) (n:=28800000000) (by have:=hw.chip;omega) (by have:=hw.chip;omega) (by omega) (by omega) (by omega) (by omega);unfold okN;omega
 ·have hj':j<(wid r).toNat:=by simpa[lineS] using hj
  show okN (((List.range (wid r).toNat).map (λx=>t.Dust*sliv l r x)).getD j du);rw[wT _ hj'];have sb:=qQl h.sol r j;have m1:=jL (a:=t.Dust) (b:=sliv l r j) (m:=1000) (n:=28800000000) (by have:=hw.dust;omega) (by have:=hw.dust;omega) (by omega) (by omega) (by omega) (by omega);unfold okN;omega
theorem BI {ε:Type} (N:Nat) (L:Nat->Int->Option (ε⊕Unit)) (hN:N<=1000000000) (h0:∀n i,i<N->L (n+1) (i:Int)=L n ((i+1:Nat):Int)) (h1:∀n,L (n+1) (N:Int)=some (.inr ())):L FUEL 0=some (.inr ()):=by
 have k:=QN N L (λ_=>none) 0 (by omega) hN (λn i _ hi=>h0 n i hi) h1;rw[UV.2 (λ_ _ _=>rfl)] at k;exact k
theorem qV9 {g:List (List Int)} (hl:g.length<=1000000) (h:∀i,i<g.length->(g.getD i du).length<=1000000/\∀j,j<(g.getD i du).length->okN ((g.getD i du).getD j du)):TO g=some true:=by
 unfold TO;rw[BI g.length (YV g) (by omega) (λn i hi=>?_) (λn=>?_)]
 ·rfl
 ·obtain⟨a,b⟩:=h i hi;rw[YV,kd (by omega),qU (by omega),BI (g.getD i du).length (QD g (i:Int)) (by omega) (λn j hj=>?_) (λn=>?_)]
  ·simp only[kn,ke,Sum.elim_inr,qY (show i<4611686018427387904 by omega)]
  ·have o:=b j hj;unfold okN at o;rw[QD];simp only[ko,NX];rw[kd (by omega),qU (by omega),ka (show¬(g.getD i du).getD j du< -1125899906842624 by omega),ka (show¬(g.getD i du).getD j du>1125899906842624 by omega),qY (by omega)];rfl
  ·rw[QD];simp only[ko];rw[ka (by omega)];rfl
 ·rw[YV,ka (by omega)];rfl
theorem qXE {a:Line} (h:VL a):FL a=some 0:=by
 have h1:=h.len;have h2:=h.kerf;have h3:=h.pitch;have h4:=h.szl;have h5:=h.gl;have h6:=h.cl;have h7:=h.dl;have M:RU a=some 0:=by
  unfold RU jP;rw[ka (show¬a.Len<0 by omega),ka (show¬a.Len>2000 by omega),ka (show¬a.Kerf<0 by omega),ka (show¬a.Kerf>20 by omega),ka (show¬a.Pitch<1 by omega),ka (show¬a.Pitch>2000 by omega),ka (show¬(a.Sizes.length:Int)>32 by omega)];simp only[kp];rw[BI a.Sizes.length (jQ a) (by omega) (λn i hi=>?_) (λn=>?_)]
  ·rfl
  ·have:=h.sz i hi;rw[jQ,kd (by omega),qU (by omega)];simp only[kn,ko,TG,qY (show i<4611686018427387904 by omega)];rw[ka (show¬a.Sizes.getD i du<1 by omega),ka (show¬a.Sizes.getD i du>2000 by omega)];rfl
  ·rw[jQ,ka (by omega)];rfl
 unfold FL RV NT;rw[M];simp only[ke,kv,kp];rw[show((a.Gain.length:Int) !=(a.Sizes.length:Int))=false by rw[kG];omega,show((a.Chip.length:Int) !=a.Len)=false by rw[kG];omega,show((a.Dust.length:Int) !=a.Len)=false by rw[kG];omega];simp only[kp];rw[BI a.Gain.length (YO a) (by omega) (λn i hi=>?_) (λn=>?_),qV9 (by omega) (λi hi=>⟨?_,λj hj=>h.gb i (by omega) j hj⟩),qV9 (by simp) (λi hi=>?_)]
 ·rfl
 ·match i,hi with
  |0,_=>exact⟨by show a.Chip.length<=1000000;omega,h.cb⟩
  |1,_=>exact⟨by show a.Dust.length<=1000000;omega,h.db⟩
  |i+2,hi=>simp at hi;omega
 ·rw[h.gr i (by omega)];have:=h.sz i (by omega);omega
 ·have s:=h.sz i (by omega);have g:=h.gr i (by omega);rw[YO,kd (by omega),qU (by omega),qU (by omega)];simp only[kn,ko,qY (show i<4611686018427387904 by omega),EG,ke];rw[qK (n:=a.Len-a.Sizes.getD i du) (by omega),qK (by omega),g];have m:=jN 0 (a.Len-a.Sizes.getD i du+1);rw[show((((a.Len-a.Sizes.getD i du+1).toNat:Nat):Int) !=imax 0 (a.Len-a.Sizes.getD i du+1))=false by rw[kG];omega];rfl
 ·rw[YO,ka (by omega)];rfl
def pre (c:List Int) (k:Nat):Int:=sumN k (λi=>c.getD i du)
theorem qCm (c:List Int) (k:Nat):pre c (k+1)=pre c k+c.getD k du:=rfl
theorem qAQ {c:List Int} (h:∀j,j<c.length->okN (c.getD j du)):∀{k:Nat},k<=c.length->-(1125899906842624*(k:Int))<=pre c k/\pre c k<=1125899906842624*(k:Int)
 |0,_=>by simp[pre,sumN]
 |k+1,hk=>by
  have a:=qAQ h (k:=k) (by omega);have b:=h k (by omega);unfold okN at b;rw[qCm];omega
def sums (c:List Int):List Int:=(List.range (c.length+1)).map (pre c)
theorem qXY {c:List Int} (hl:c.length<=2000) (h:∀j,j<c.length->okN (c.getD j du)):GU c=some (sums c):=by
 unfold GU;rw[qK (n:=(c.length:Int)+1) (by omega),show(c.length:Int)+1=((c.length+1:Nat):Int) by omega,qKr (by omega) (by omega),ko];simp only[kn];have k:=zR c.length (λn (s:List Int) i=>XV c n s i) (λi s=>s.set (i+1) (pre c (i+1))) (λs=>s) (λi s=>s.length=c.length+1/\∀j,j<=i->s.getD j du=pre c j) 0 (by omega) (by omega)
  (λn i s hi hs=>by
   obtain⟨e1,e2⟩:=hs;have p:=qAQ h (k:=i) (by omega);have q:=qAQ h (k:=i+1) (by omega);rw[qCm] at q;refine⟨?_,by simpa using e1,λj hj=>?_⟩
   ·rw[XV,kd (by omega),qY (by omega),qU (by omega),qU (by omega),qU (by omega)];simp only[kn,ko];rw[e2 i (ki _),qK (by omega),qCm]
   ·by_cases c1:j=i+1
    ·subst c1;rw[OV _ (by omega)]
    ·rw[LB _ (λe=>c1 e.symm),e2 j (by omega)])
  (λn s _=>by rw[XV,ka (by omega)];rfl) (List.replicate (c.length+1) 0) ⟨by simp,λj hj=>by
   rw[show j=0 by omega];simp[pre,sumN,kg]⟩
 rw[show((0:Nat):Int)=0 from rfl,kF] at k;rw[k.1];simp only[ke]
 congr 1
 unfold sums;refine qVI (by simp[k.2.1]) (λj hj=>?_);rw[k.2.1] at hj;rw[k.2.2 j (by omega),wT _ hj]
abbrev Ch :=qD
def noCh (v:Int):Ch:=⟨⟨-1,-1⟩,v⟩
def isNo (c:Ch):Bool:=(c.piece.Size== -1)&&(c.piece.At== -1)
def szAt (a:Line) (i:Nat):Int:=a.Sizes.getD i du
def gnAt (a:Line) (i:Nat) (p:Nat):Int:=(a.Gain.getD i du).getD p du
def nxtN (a:Line) (q:Nat):Nat:=(imin ((q:Int)+a.Kerf) a.Len).toNat
def endN (a:Line) (p i:Nat):Nat:=(p+szAt a i).toNat
def candV (a:Line) (best:Nat->Ch) (p i:Nat):Int:=
 gnAt a i p+(if(endN a p i:Int)=a.Len then 0 else(pre a.Dust (nxtN a (endN a p i))-pre a.Dust (endN a p i))+(best (nxtN a (endN a p i))).value)
def PX (a:Line) (best:Nat->Ch) (p i:Nat) (c:Ch):Ch:=
 if(p:Int)+szAt a i>a.Len\/gnAt a i p<0 then c
 else bif isNo c||decide (candV a best p i>c.value) then⟨⟨(i:Int),(p:Int)⟩,candV a best p i⟩ else c
def YF (a:Line) (best:Nat->Ch) (p:Nat):Ch:=foldN (PX a best p) 0 a.Sizes.length (noCh 0)
def KX (a:Line) (st:Nat->Ch) (p:Nat) (x:Nat) (c:Ch):Ch:=
 bif !isNo (st x)&&decide ((st x).value+(pre a.Chip (x-a.Kerf.toNat)-pre a.Chip p+pre a.Dust x-pre a.Dust (x-a.Kerf.toNat))>c.value) then⟨(st x).piece,(st x).value+(pre a.Chip (x-a.Kerf.toNat)-pre a.Chip p+pre a.Dust x-pre a.Dust (x-a.Kerf.toNat))⟩ else c
def placeN (a:Line) (p k:Nat):Nat:=p+a.Kerf.toNat+(k+1)*a.Pitch.toNat
def qEF (a:Line) (st:Nat->Ch) (p:Nat):Ch:=
 bif !isNo (st p)&&decide ((st p).value>pre a.Chip a.Len.toNat-pre a.Chip p) then st p else noCh (pre a.Chip a.Len.toNat-pre a.Chip p)
def yU (a:Line) (p:Nat):Nat:=((a.Len.toNat-(p+a.Kerf.toNat))/a.Pitch.toNat)
def AD (a:Line) (st:Nat->Ch) (p:Nat):Ch:=foldN (λk c=>KX a st p (placeN a p k) c) 0 (yU a p) (qEF a st p)
def tab (a:Line):Nat->Nat->Ch×Ch
 |0=>λ_=>(⟨⟨0,0⟩,0⟩,⟨⟨0,0⟩,0⟩)
 |k+1=>λj=>
  if j=a.Len.toNat-k then
   (AD a (λx=>if x=a.Len.toNat-k then YF a (λy=>(tab a k y).1) (a.Len.toNat-k) else(tab a k x).2) (a.Len.toNat-k),YF a (λy=>(tab a k y).1) (a.Len.toNat-k))
  else tab a k j
def BV (a:Line) (p:Nat) (v:Int):Prop:= -(2251799813685248*(a.Len-p))<=v/\v<=2251799813685248*(a.Len-p)
theorem JO {c:List Int} {k:Nat} (h:k<=c.length):(sums c).getD k du=pre c k:=by unfold sums;rw[wT _ (by omega)]
theorem VO (c:List Int):(sums c).length=c.length+1:=by unfold sums;simp
theorem RY {c:List Int} (h:∀j,j<c.length->okN (c.getD j du)) {i:Nat}:∀{k:Nat},i+k<=c.length->-(1125899906842624*(k:Int))<=pre c (i+k)-pre c i/\pre c (i+k)-pre c i<=1125899906842624*(k:Int)
 |0,_=>by simp
 |k+1,hk=>by
  have a:=RY h (i:=i) (k:=k) (by omega);have b:=h (i+k) (by omega);unfold okN at b;rw[show i+(k+1)=(i+k)+1 from rfl,qCm];omega
theorem qQh {a:Line} (h:VL a) {p i:Nat} (hi:i<a.Sizes.length) (hq:(p:Int)+szAt a i<=a.Len) {best:Nat->Ch} (hb:∀x,p<x->(x:Int)<=a.Len->BV a x (best x).value):BV a p (candV a best p i):=by
 have s:=h.sz i hi;have g:okN (gnAt a i p):=h.gb i hi p (by have:=h.gr i hi;unfold szAt at hq;omega);have kf:=h.kerf;have dl:=h.dl;unfold candV;have e:(endN a p i:Int)=p+szAt a i:=by unfold endN;unfold szAt at*;omega
 unfold okN at g;by_cases c:(endN a p i:Int)=a.Len
 ·rw[if_pos c];unfold BV;unfold szAt at*;omega
 ·rw[if_neg c];have m:=imin_or ((endN a p i:Int)+a.Kerf) a.Len;have en:(nxtN a (endN a p i):Int)=imin ((endN a p i:Int)+a.Kerf) a.Len:=by unfold nxtN;omega
  have bb:=hb (nxtN a (endN a p i)) (by unfold szAt at*;omega) (by omega);have pd:=RY h.db (i:=endN a p i) (k:=nxtN a (endN a p i)-endN a p i) (by omega);rw[show endN a p i+(nxtN a (endN a p i)-endN a p i)=nxtN a (endN a p i) by omega] at pd;unfold BV at*;unfold szAt at*;omega
theorem qIK (c:Ch):((c.piece.Size== -1)&&((c.piece.At== -1)&&true))=isNo c:=by unfold isNo;rw[Bool.and_true]
theorem q1V {a:Line} (h:VL a) {p:Nat} (hp:(p:Int)<=a.Len) {b4:List Ch} (hl:(b4.length:Int)=a.Len+1) (hb:∀x,p<x->(x:Int)<=a.Len->BV a x (b4.getD x du).value):
  FG a (p:Int) (sums a.Dust) b4=some (YF a (λx=>b4.getD x du) p):=by
 have szl:=h.szl;have kf:=h.kerf;have ln:=h.len;have dl:=h.dl;have gl:=h.gl;unfold FG;have k:=zR a.Sizes.length (λn (c:Ch) i=>jD a (p:Int) (sums a.Dust) b4 n i c) (PX a (λx=>b4.getD x du) p) (λc=>c) (λ_ _=>True) 0 (by omega) (by omega)
  (λn i c hi _=>⟨by
   have s:=h.sz i hi;have gr:=h.gr i hi;unfold PX szAt;rw[jD,kd (by omega),qU (by omega)];simp only[kn,ko,BX,NQ,BZ,RP,qY (show i<4611686018427387904 by omega),qIK];simp only[qK (n:=(p:Int)+a.Sizes.getD i du) (by omega)];by_cases c1:(p:Int)+a.Sizes.getD i du>a.Len
   ·rw[kd c1,if_pos (.inl c1)];rfl
   rw[ka c1,ZQ (show(0:Int)<=(i:Int) by omega) (show(i:Int)<(a.Gain.length:Int) by omega),ZQ (show(0:Int)<=(p:Int) by omega) (show(p:Int)<((a.Gain.getD i du).length:Int) by omega)];simp only[kn,kp];by_cases c2:(a.Gain.getD i du).getD p du<0
   ·rw[kd c2,if_pos (.inr c2)];rfl
   rw[ka c2,if_neg (by unfold gnAt;omega)];simp only[kp];have cb:=qQh h hi (show(p:Int)+szAt a i<=a.Len by unfold szAt;omega) hb;have gb:=h.gb i hi p (by omega);unfold okN at gb;have e:(endN a p i:Int)=p+a.Sizes.getD i du:=by unfold endN szAt;omega
   unfold RA;by_cases c3:(p:Int)+a.Sizes.getD i du=a.Len
   ·have ev:candV a (λx=>b4.getD x du) p i=(a.Gain.getD i du).getD p du:=by
     unfold candV gnAt;rw[if_pos (by omega)];omega
    rw[ev,show((p:Int)+a.Sizes.getD i du==a.Len)=true by rw[uG];exact c3];simp only[kn,ke];rw[show decide ((-1:Int)≥0)=false from rfl];simp only[kp];cases isNo c<;>cases decide ((a.Gain.getD i du).getD p du>c.value)<;>rfl
   ·have m:=imin_or ((p:Int)+a.Sizes.getD i du+a.Kerf) a.Len;have en:imin ((p:Int)+a.Sizes.getD i du+a.Kerf) a.Len=(nxtN a (endN a p i):Int):=by unfold nxtN;rw[e];omega
    rw[show((p:Int)+a.Sizes.getD i du==a.Len)=false by rw[kL];exact c3];simp only[kp,ke,qK (n:=(p:Int)+a.Sizes.getD i du+a.Kerf) (by omega),en];rw[kd (show(nxtN a (endN a p i):Int)≥0 by omega),<-e]
    simp only[VO,ZQ (show(0:Int)<=(nxtN a (endN a p i):Int) by omega) (show(nxtN a (endN a p i):Int)<((a.Dust.length+1:Nat):Int) by omega),ZQ (show(0:Int)<=(endN a p i:Int) by omega) (show(endN a p i:Int)<((a.Dust.length+1:Nat):Int) by omega),ZQ (show(0:Int)<=(nxtN a (endN a p i):Int) by omega) (show(nxtN a (endN a p i):Int)<(b4.length:Int) by omega),kn,ko,JO (c:=a.Dust) (show nxtN a (endN a p i)<=a.Dust.length by omega),JO (c:=a.Dust) (show endN a p i<=a.Dust.length by omega)];have bb:=hb (nxtN a (endN a p i)) (by omega) (by omega)
    have pd:=RY h.db (i:=endN a p i) (k:=nxtN a (endN a p i)-endN a p i) (by omega);rw[show endN a p i+(nxtN a (endN a p i)-endN a p i)=nxtN a (endN a p i) by omega] at pd;have ev:candV a (λx=>b4.getD x du) p i=(a.Gain.getD i du).getD p du+(pre a.Dust (nxtN a (endN a p i))-pre a.Dust (endN a p i)+(b4.getD (nxtN a (endN a p i)) du).value):=by
     unfold candV gnAt;rw[if_neg (by omega)]
    unfold BV at bb cb;simp only[qK (n:=pre a.Dust (nxtN a (endN a p i))-pre a.Dust (endN a p i)) (by omega),qK (n:=pre a.Dust (nxtN a (endN a p i))-pre a.Dust (endN a p i)+(b4.getD (nxtN a (endN a p i)) du).value) (by omega)];rw[ev] at cb;simp only[qIc (n:=(a.Gain.getD i du).getD p du+(pre a.Dust (nxtN a (endN a p i))-pre a.Dust (endN a p i)+(b4.getD (nxtN a (endN a p i)) du).value)) (by omega) (by omega),ev];cases isNo c<;>cases decide ((a.Gain.getD i du).getD p du+(pre a.Dust (nxtN a (endN a p i))-pre a.Dust (endN a p i)+(b4.getD (nxtN a (endN a p i)) du).value)>c.value)<;>rfl,trivial⟩)
  (λn c _=>by rw[jD,ka (by omega)];rfl) (noCh 0) trivial
 rw[show((0:Nat):Int)=0 from rfl,kF] at k;exact congrArg (λo=>Option.bind o some) k.1
theorem BJ {a:Line} (h:VL a) {p k:Nat}:k<yU a p↔(placeN a p k:Int)<=a.Len:=by
 have hp:=h.pitch;have hl:=h.len;have hk:=h.kerf;unfold yU placeN;have e:k<(a.Len.toNat-(p+a.Kerf.toNat))/a.Pitch.toNat↔(k+1)*a.Pitch.toNat<=a.Len.toNat-(p+a.Kerf.toNat):=by
  rw[<-Nat.le_div_iff_mul_le (by omega)];omega
 rw[e];have:1<=(k+1)*a.Pitch.toNat:=Nat.mul_pos (by omega) (by omega);omega
theorem qWD {a:Line} (h:VL a) {p i:Nat} (hi:i<a.Sizes.length) {best:Nat->Ch} (hb:∀x,p<x->(x:Int)<=a.Len->BV a x (best x).value) {c:Ch} (hc:BV a p c.value):BV a p (PX a best p i c).value:=by
 unfold PX;split
 ·exact hc
 ·cases isNo c||decide (candV a best p i>c.value) with
  |true=>exact qQh h hi (by omega) hb
  |false=>exact hc
theorem q0p {a:Line} (h:VL a) {p:Nat} (hp:(p:Int)<=a.Len) {best:Nat->Ch} (hb:∀x,p<x->(x:Int)<=a.Len->BV a x (best x).value):BV a p (YF a best p).value:=by
 unfold YF;exact HN (P:=fun(c:Ch)=>BV a p c.value) (by unfold noCh BV;simp only;omega) (λi c _ hi hc=>qWD h (by omega) hb hc)
theorem qZ7 {a:Line} (h:VL a) {p x:Nat} (hx:(x:Int)<=a.Len) (hpx:(p:Int)+a.Kerf<=x) {v:Int} (hv:BV a x v):
  BV a p (v+(pre a.Chip (x-a.Kerf.toNat)-pre a.Chip p+pre a.Dust x-pre a.Dust (x-a.Kerf.toNat))):=by
 have cl:=h.cl;have dl:=h.dl;have kf:=h.kerf;have p1:=RY h.cb (i:=p) (k:=x-a.Kerf.toNat-p) (by omega);have p2:=RY h.db (i:=x-a.Kerf.toNat) (k:=a.Kerf.toNat) (by omega);rw[show p+(x-a.Kerf.toNat-p)=x-a.Kerf.toNat by omega] at p1;rw[show x-a.Kerf.toNat+a.Kerf.toNat=x by omega] at p2;unfold BV at*;omega
theorem qTU {a:Line} (h:VL a) {p:Nat} (hp:(p:Int)<=a.Len) {l8:List Ch} (hl:(l8.length:Int)=a.Len+1) (v11:Ch) (hb:∀x,p<x->(x:Int)<=a.Len->BV a x ((l8.set p v11).getD x du).value) (c0:Ch):
  jA a (sums a.Chip) (sums a.Dust) l8 (p:Int) v11 FUEL ((placeN a p 0:Nat):Int) c0=some (foldN (λk c=>KX a (λx=>(l8.set p v11).getD x du) p (placeN a p k) c) 0 (yU a p) c0):=by
 have ln:=h.len;have kf:=h.kerf;have pt:=h.pitch;have cl:=h.cl;have dl:=h.dl;have hN:yU a p<=1000000000:=by
  unfold yU;have:=Nat.div_le_self (a.Len.toNat-(p+a.Kerf.toNat)) a.Pitch.toNat;omega
 refine(qI3 (yU a p) (λn (c:Ch) (x:Int)=>jA a (sums a.Chip) (sums a.Dust) l8 (p:Int) v11 n x c) (λk=>((placeN a p k:Nat):Int)) (λk c=>KX a (λx=>(l8.set p v11).getD x du) p (placeN a p k) c) (λc=>c) (λ_ _=>True) hN (λn k c hk _=>⟨?_,trivial⟩) (λn c _=>?_) c0 trivial).1
 ·have hx:=(BJ h).1 hk;have nx:((placeN a p k:Nat):Int)+a.Pitch=((placeN a p (k+1):Nat):Int):=by
   unfold placeN;rw[show(k+1+1)*a.Pitch.toNat=(k+1)*a.Pitch.toNat+a.Pitch.toNat from Nat.succ_mul _ _];omega
  have lo:p+a.Kerf.toNat+1<=placeN a p k:=by
   unfold placeN;have:1<=(k+1)*a.Pitch.toNat:=Nat.mul_pos (by omega) (by omega);omega
  generalize placeN a p k=x at*;have xk:((x:Int)-a.Kerf)=((x-a.Kerf.toNat:Nat):Int):=by omega
  have bx:=hb x (by omega) hx;have bs:=qZ7 h hx (p:=p) (by omega) bx;have b1:=qAQ h.cb (k:=x-a.Kerf.toNat) (by omega);have b2:=qAQ h.cb (k:=p) (by omega);have b3:=qAQ h.db (k:=x) (by omega);have b4:=qAQ h.db (k:=x-a.Kerf.toNat) (by omega);have p1:=RY h.cb (i:=p) (k:=x-a.Kerf.toNat-p) (by omega);rw[show p+(x-a.Kerf.toNat-p)=x-a.Kerf.toNat by omega] at p1;have p2:=RY h.db (i:=x-a.Kerf.toNat) (k:=a.Kerf.toNat) (by omega);rw[show x-a.Kerf.toNat+a.Kerf.toNat=x by omega] at p2;unfold BV at bx bs;rw[jA]
  simp only[show w64 ((x:Int)-a.Kerf)=((x-a.Kerf.toNat:Nat):Int) by rw[qK (by omega),xk],ko,VO,ZQ (show(0:Int)<=(x:Int) by omega) (show(x:Int)<(l8.length:Int) by omega),ZQ (show(0:Int)<=((x-a.Kerf.toNat:Nat):Int) by omega) (show((x-a.Kerf.toNat:Nat):Int)<((a.Chip.length+1:Nat):Int) by omega),ZQ (show(0:Int)<=(p:Int) by omega) (show(p:Int)<((a.Chip.length+1:Nat):Int) by omega),ZQ (show(0:Int)<=(x:Int) by omega) (show(x:Int)<((a.Dust.length+1:Nat):Int) by omega),ZQ (show(0:Int)<=((x-a.Kerf.toNat:Nat):Int) by omega) (show((x-a.Kerf.toNat:Nat):Int)<((a.Dust.length+1:Nat):Int) by omega),kn,JO (c:=a.Chip) (show x-a.Kerf.toNat<=a.Chip.length by omega),JO (c:=a.Chip) (show p<=a.Chip.length by omega),JO (c:=a.Dust) (show x<=a.Dust.length by omega),JO (c:=a.Dust) (show x-a.Kerf.toNat<=a.Dust.length by omega),qIK,UZ,UT]
  rw[kd hx];simp only[kn,show w64 ((x:Int)+a.Pitch)=((placeN a p (k+1):Nat):Int) by rw[qK (by omega),nx],qK (n:=pre a.Chip (x-a.Kerf.toNat)-pre a.Chip p) (by omega),qK (n:=pre a.Chip (x-a.Kerf.toNat)-pre a.Chip p+pre a.Dust x) (by omega),qK (n:=pre a.Chip (x-a.Kerf.toNat)-pre a.Chip p+pre a.Dust x-pre a.Dust (x-a.Kerf.toNat)) (by omega),qK (n:=((l8.set p v11).getD x du).value+(pre a.Chip (x-a.Kerf.toNat)-pre a.Chip p+pre a.Dust x-pre a.Dust (x-a.Kerf.toNat))) (by omega),KX]
  cases isNo ((l8.set p v11).getD x du)<;>cases decide (((l8.set p v11).getD x du).value+(pre a.Chip (x-a.Kerf.toNat)-pre a.Chip p+pre a.Dust x-pre a.Dust (x-a.Kerf.toNat))>c.value)<;>rfl
 ·have hx:¬((placeN a p (yU a p):Nat):Int)<=a.Len:=λq=>by have:=(BJ h).2 q;omega
  rw[jA,ka hx];rfl
end Saw
end Go.SL

import Derived.Test.YtidlfgiogdjkaaaGreatDoorEMa4
import Derived.Test.YtidlfgiogdjkaaaGreatDoorEMa3
set_option linter.unusedVariables false
set_option linter.unusedSimpArgs false
namespace Go.SL.Saw
def bdAny (_:Rect) (a:Int):Int:=if a<0\/16<=a then 8 else 0
def bdCat (l:List Product) (r:Rect) (a:Int):Int:=if a<0\/(l.length:Int)<=a then 8 else bif dimOk r (l.getD a.toNat default) then 0 else 20
theorem any_eq (r:Rect) (a:Int):PB r a=some (bdAny r a):=by
 unfold PB PD bdAny;by_cases h1:a<0
 ·rw[decide_eq_true h1,if_pos (.inl h1)];rfl
 ·by_cases h2:16<=a
  ·rw[decide_eq_false h1,decide_eq_true (show a≥16 from h2),if_pos (.inr h2)];rfl
  ·rw[decide_eq_false h1,decide_eq_false (show¬a≥16 from h2),if_neg (by omega)];rfl
theorem qTp {s:Span} (h:WS s):lenS s=s.B-s.A:=by
 unfold lenS empS;obtain⟨h1,h2,h3⟩:=h;by_cases e:s.B<=s.A
 ·rw[decide_eq_true e];simp;omega
 ·rw[decide_eq_false e];simp
theorem cat_eq {r:Rect} (hw:WR r) (a:Int) (l:List Product):RC r a l=some (bdCat l r a):=by
 unfold RC bdCat;have k:∀b,QY r a l b=bif b then some 8 else QY r a l false:=λb=>by cases b<;>rfl
 by_cases h1:a<0
 ·rw[decide_eq_true h1,if_pos (.inl h1)];rfl
 ·rw[decide_eq_false h1,cond_false];by_cases h2:(l.length:Int)<=a
  ·rw[decide_eq_true (show a≥_ from h2),if_pos (.inr h2)];rfl
  ·rw[decide_eq_false (show¬a≥_ from h2),if_neg (by omega)];unfold QY;rw[cond_false,qL (by omega) (by omega),cond_true,(SJ _).1,HF (by have:=hw.1;unfold WS at this;omega),HF (by have:=hw.2;unfold WS at this;omega),qTp hw.1,qTp hw.2];simp only[Option.bind_some];unfold dimOk yF;simp only[bne];generalize (qN (l.getD a.toNat default)).1=g1;generalize (qN (l.getD a.toNat default)).2=g2;generalize r.X.B-r.X.A=x;generalize r.Y.B-r.Y.A=y;cases x==g1<;>cases x==g2<;>cases y==g1<;>cases y==g2<;>rfl
theorem qFO (n:Node) (x:Pattern_place):WA n x=some (chkN (λ_ _=>0) n x):=by
 have k:∀b,jG n x b=some (if b=true then 10 else if 64<x.level then 28 else if ripB n.Kind=true/\(n.At<=(alP x.rect n.Kind).A\/(alP x.rect n.Kind).B<=n.At) then 20 else 0):=by
  intro b;unfold jG;cases b with
  |true=>rfl
  |false=>
   simp only[cond_false,qIr,qPY,Option.bind_some,Bool.false_eq_true,if_false];by_cases h2:x.level>64
   ·rw[decide_eq_true h2,if_pos (show 64<x.level from h2)];rfl
   ·rw[decide_eq_false h2,if_neg (show¬64<x.level from h2),cond_false];cases hr:ripB n.Kind with
    |false=>simp[ZT]
    |true=>
     simp only[cond_true,true_and];unfold XI ZT;by_cases h3:n.At<=(alP x.rect n.Kind).A
     ·rw[decide_eq_true h3,if_pos (.inl h3)];rfl
     ·by_cases h4:(alP x.rect n.Kind).B<=n.At
      ·rw[decide_eq_false h3,decide_eq_true (show n.At≥_ from h4),if_pos (.inr h4)];rfl
      ·rw[decide_eq_false h3,decide_eq_false (show¬n.At≥_ from h4),if_neg (by omega)];rfl
 unfold WA chkN;simp only[k];have e0:∀b:Bool,(if n.Kind=1 then(0:Int) else 0)=0:=λ_=>by split<;>rfl
 rw[e0 true];by_cases h1:n.Kind<0
 ·rw[decide_eq_true h1,if_pos (c:=n.Kind<0\/3<n.Kind\/(n.Kind=0/\n.At≠0)) (.inl h1)];rfl
 ·by_cases h2:n.Kind>3
  ·rw[decide_eq_false h1,decide_eq_true h2,if_pos (c:=n.Kind<0\/3<n.Kind\/(n.Kind=0/\n.At≠0)) (.inr (.inl h2))];rfl
  ·rw[decide_eq_false h1,decide_eq_false h2,cond_false,cond_false];by_cases h3:n.Kind=0
   ·have e3:(n.Kind==0)=true:=by simpa using h3
    rw[e3,cond_true];by_cases h4:n.At=0
    ·have e4:(n.At !=0)=false:=by simpa using h4
     rw[e4,if_neg (c:=n.Kind<0\/3<n.Kind\/(n.Kind=0/\n.At≠0)) (by omega)];rfl
    ·have e4:(n.At !=0)=true:=by simpa using h4
     rw[e4,if_pos (c:=n.Kind<0\/3<n.Kind\/(n.Kind=0/\n.At≠0)) (by omega)];rfl
   ·have e3:(n.Kind==0)=false:=by simpa using h3
    rw[e3,cond_false,if_neg (c:=n.Kind<0\/3<n.Kind\/(n.Kind=0/\n.At≠0)) (by omega)];rfl
theorem qQ8 (bd:Rect->Int->Int) (n:Node) (x:Pattern_place):chkN bd n x=if chkN (λ_ _=>0) n x≠0 then chkN (λ_ _=>0) n x else if n.Kind=1 then bd x.rect n.At else 0:=by
 unfold chkN;split
 ·rfl
 ·split
  ·rfl
  ·split
   ·rfl
   ·split<;>simp
abbrev RdC :=Int->Pattern_place->Int×Int->Option (Nat×Int×Int)
def qNN (f:RdC) (bd:Rect->Int->Int) (nodes:List Node):Prop:=
 ∀(i:Nat) (x:Pattern_place) (s:Int×Int),WR x.rect->i<1000000->
  f (i:Int) x s=some (if nodes.length<=i then(1,3,s.2) else if chkN bd (nodes.getD i default) x≠0 then(1,chkN bd (nodes.getD i default) x,s.2) else(0,s.1,(i:Int)+1))
def finC (nodes:List Node) (v:Nat×Int×Int):Option Int:=bif Nat.beq v.1 0 then(bif decide (v.2.2<((nodes.length:Nat):Int)) then some 4 else some 0) else bif Nat.beq v.1 1 then some v.2.1 else none
theorem qQR {f:RdC} {bd:Rect->Int->Int} {nodes:List Node} (hf:qNN f bd nodes) {kerf:Int} (hk:0<=kerf/\kerf<=20) (hn:nodes.length<=1000):
  ∀(ns:List Node) (i:Nat) (st:List Pattern_place) (r:Int),nodes.drop i=ns->i<=nodes.length->(∀x∈st,WR x.rect)->
   ∃v,runP f kerf ns (i:Int) st (r,(i:Int))=some v/\finC nodes v=some (chkP bd kerf ns st)
 |[],i,[],r,hd,hi,_=>by
  have hil:nodes.length<=i:=by have:=congrArg List.length hd;simp at this;omega
  refine⟨(0,r,(i:Int)),rfl,?_⟩;unfold finC;rw[decide_eq_false (by simp;omega)];rfl
 |n::ns,i,[],r,hd,hi,_=>by
  have hil:i<nodes.length:=by
   rcases Nat.lt_or_ge i nodes.length with h|h
   ·exact h
   ·rw[List.drop_eq_nil_of_le h] at hd;cases hd
  refine⟨(0,r,(i:Int)),rfl,?_⟩;unfold finC;rw[decide_eq_true (by simp;omega)];rfl
 |[],i,x::st,r,hd,hi,hw=>by
  have hil:nodes.length<=i:=by have:=congrArg List.length hd;simp at this;omega
  refine⟨(1,3,(i:Int)),?_,rfl⟩;show f (i:Int) x (r,(i:Int))=_;rw[hf i x _ (hw x List.mem_cons_self) (by omega),if_pos hil]
 |n::ns,i,x::st,r,hd,hi,hw=>by
  have hil:i<nodes.length:=by
   rcases Nat.lt_or_ge i nodes.length with h|h
   ·exact h
   ·rw[List.drop_eq_nil_of_le h] at hd;cases hd
  have hg:nodes.getD i default=n:=by
   have h0:=congrArg (λl=>l.getD 0 default) hd;simpa[List.getD_eq_getElem?_getD] using h0
  have hd2:nodes.drop (i+1)=ns:=by
   have h0:=congrArg List.tail hd;simpa using h0
  show∃v,((f (i:Int) x (r,(i:Int))).bind λv=>bif Nat.beq v.1 0 then runP f kerf ns ((i:Int)+1) (pushP kerf n x st) v.2 else some v)=some v/\finC nodes v=some (if chkN bd n x≠0 then chkN bd n x else chkP bd kerf ns (pushP kerf n x st));rw[hf i x _ (hw x List.mem_cons_self) (by omega),if_neg (by omega),hg];by_cases c:chkN bd n x=0
  ·rw[if_neg (by simpa using c),if_neg (by simpa using c)];have hp:∀y∈pushP kerf n x st,WR y.rect:=by
    intro y hy;unfold pushP at hy;cases hr:ripB n.Kind with
    |false=>rw[hr,cond_false] at hy;exact hw y (List.mem_cons_of_mem _ hy)
    |true=>
     rw[hr,cond_true] at hy;have c3:=(cut3 hr (hw x List.mem_cons_self) (qRb hr c) hk).1;rcases List.mem_cons.1 hy with rfl|hy
     ·exact c3.wf
     ·rcases List.mem_cons.1 hy with rfl|hy
      ·exact c3.ws
      ·exact hw y (List.mem_cons_of_mem _ hy)
   exact qQR hf hk hn ns (i+1) (pushP kerf n x st) r hd2 hil hp
  ·rw[if_pos c,if_pos c];exact⟨_,rfl,rfl⟩
theorem VR_WR {r:Rect} (h:VR r):WR r:=⟨⟨h.1.1,by have:=h.1.2;omega,h.1.2.2⟩,h.2.1,by have:=h.2.2;omega,h.2.2.2⟩
def YB (bd:Rect->Int->Int) (p:Pattern) (kerf:Int):Int:=
 if¬VR p.Frame then 19 else if kerf<0\/20<kerf then 9 else if 127<p.Nodes.length then 4 else chkP bd kerf p.Nodes [⟨p.Frame,1⟩]
theorem qRl {f:RdC} {bd:Rect->Int->Int} {p:Pattern} (hf:qNN f bd p.Nodes) {kerf:Int} (hv:VR p.Frame) (hk:0<=kerf/\kerf<=20) (hn:p.Nodes.length<=127):
  (runP f kerf p.Nodes 0 [⟨p.Frame,1⟩] (0,0)).bind (finC p.Nodes)=some (chkP bd kerf p.Nodes [⟨p.Frame,1⟩]):=by
 obtain⟨v,e1,e2⟩:=qQR hf hk (by omega) p.Nodes 0 [⟨p.Frame,1⟩] 0 rfl (Nat.zero_le _) (λx hx=>by simp at hx;subst hx;exact VR_WR hv);have e1':runP f kerf p.Nodes 0 [⟨p.Frame,1⟩] (0,0)=some v:=e1;rw[e1'];exact e2
theorem qSt (p:Pattern) (l:List Product):qNN (λi x s=>jU i x p l s.1 s.2) (bdCat l) p.Nodes:=by
 intro i x s hw hi;simp only;unfold jU JN JY;by_cases h:p.Nodes.length<=i
 ·rw[decide_eq_true (by simp;omega),if_pos h];rfl
 ·rw[decide_eq_false (by simp;omega),if_neg h,cond_false,qL (by omega) (by omega),cond_true,Int.toNat_natCast,qFO,qQ8 (bdCat l)];simp only[Option.bind_some,cat_eq hw];by_cases c:chkN (λ_ _=>0) (p.Nodes.getD i default) x=0
  ·rw[c];simp only[ne_eq,not_true_eq_false,if_false,beq_self_eq_true,cond_true];by_cases c1:(p.Nodes.getD i default).Kind=1
   ·have e1:((p.Nodes.getD i default).Kind==1)=true:=by simpa using c1
    rw[e1,cond_true,if_pos c1];by_cases c2:bdCat l x.rect (p.Nodes.getD i default).At=0
    ·rw[c2];simp[qF (n:=(i:Int)+1) (by omega) (by omega)]
    ·have e2:(bdCat l x.rect (p.Nodes.getD i default).At !=0)=true:=by simpa using c2
     rw[e2,if_pos c2];rfl
   ·have e1:((p.Nodes.getD i default).Kind==1)=false:=by simpa using c1
    rw[e1,cond_false,if_neg c1];simp[qF (n:=(i:Int)+1) (by omega) (by omega)]
  ·have e1:(chkN (λ_ _=>0) (p.Nodes.getD i default) x==0)=false:=by simpa using c
   have e2:(chkN (λ_ _=>0) (p.Nodes.getD i default) x !=0)=true:=by simpa using c
   rw[e1,cond_false,cond_false,e2,cond_true,if_pos c,if_pos c]
theorem qSl (p:Pattern):qNN (λi x s=>wM i x p s.1 s.2) bdAny p.Nodes:=by
 intro i x s hw hi;simp only;unfold wM ZC ZE;by_cases h:p.Nodes.length<=i
 ·rw[decide_eq_true (by simp;omega),if_pos h];rfl
 ·rw[decide_eq_false (by simp;omega),if_neg h,cond_false,qL (by omega) (by omega),cond_true,Int.toNat_natCast,qFO,qQ8 bdAny];simp only[Option.bind_some,any_eq];by_cases c:chkN (λ_ _=>0) (p.Nodes.getD i default) x=0
  ·rw[c];simp only[ne_eq,not_true_eq_false,if_false,beq_self_eq_true,cond_true];by_cases c1:(p.Nodes.getD i default).Kind=1
   ·have e1:((p.Nodes.getD i default).Kind==1)=true:=by simpa using c1
    rw[e1,cond_true,if_pos c1];by_cases c2:bdAny x.rect (p.Nodes.getD i default).At=0
    ·rw[c2];simp[qF (n:=(i:Int)+1) (by omega) (by omega)]
    ·have e2:(bdAny x.rect (p.Nodes.getD i default).At !=0)=true:=by simpa using c2
     rw[e2,if_pos c2];rfl
   ·have e1:((p.Nodes.getD i default).Kind==1)=false:=by simpa using c1
    rw[e1,cond_false,if_neg c1];simp[qF (n:=(i:Int)+1) (by omega) (by omega)]
  ·have e1:(chkN (λ_ _=>0) (p.Nodes.getD i default) x==0)=false:=by simpa using c
   have e2:(chkN (λ_ _=>0) (p.Nodes.getD i default) x !=0)=true:=by simpa using c
   rw[e1,cond_false,cond_false,e2,cond_true,if_pos c,if_pos c]
theorem qQB (p:Pattern) (l:List Product) (kerf:Int):DJ p l kerf=some (YB (bdCat l) p kerf):=by
 have k:∀b,JF p kerf l b=bif b then some 9 else JF p kerf l false:=λb=>by cases b<;>rfl
 unfold DJ HR YB;rw[isFrame_eq];simp only[Option.bind_some];by_cases hv:VR p.Frame
 ·rw[decide_eq_true hv,if_neg (by simpa using hv)];simp only[Bool.not_true,cond_false];by_cases h1:kerf<0
  ·rw[decide_eq_true h1,if_pos (.inl h1)];rfl
  ·by_cases h2:kerf>20
   ·rw[decide_eq_false h1,decide_eq_true h2,if_pos (.inr h2)];rfl
   ·rw[decide_eq_false h1,decide_eq_false h2,if_neg (by omega),cond_false];unfold JF jP;rw[cond_false];by_cases h3:127<p.Nodes.length
    ·rw[decide_eq_true (show((p.Nodes.length:Nat):Int)>127 by omega),if_pos h3];rfl
    ·rw[decide_eq_false (show¬((p.Nodes.length:Nat):Int)>127 by omega),if_neg h3,cond_false];simp only[Option.bind_some];rw[qRO _ _ _ _ _ _ (by omega)];have:=qRl (qSt p l) hv (kerf:=kerf) (by omega) (by omega);unfold finC at this;rw[this];rfl
 ·rw[decide_eq_false hv,if_pos (by simpa using hv)];rfl
theorem qML (p:Pattern) (kerf:Int):WZ p kerf=some (YB bdAny p kerf):=by
 unfold WZ YB;rw[isFrame_eq];simp only[Option.bind_some];by_cases hv:VR p.Frame
 ·rw[decide_eq_true hv,if_neg (by simpa using hv)];simp only[Bool.not_true,cond_false];by_cases h1:kerf<0
  ·rw[decide_eq_true h1,if_pos (.inl h1)];rfl
  ·by_cases h2:kerf>20
   ·rw[decide_eq_false h1,decide_eq_true h2,if_pos (.inr h2)];rfl
   ·rw[decide_eq_false h1,decide_eq_false h2,if_neg (by omega),cond_false];unfold PK jP;rw[cond_false];by_cases h3:127<p.Nodes.length
    ·rw[decide_eq_true (show((p.Nodes.length:Nat):Int)>127 by omega),if_pos h3];rfl
    ·rw[decide_eq_false (show¬((p.Nodes.length:Nat):Int)>127 by omega),if_neg h3,cond_false];simp only[Option.bind_some];rw[qRV _ _ _ _ _ (by omega)];have:=qRl (qSl p) hv (kerf:=kerf) (by omega) (by omega);unfold finC at this;rw[this]
 ·rw[decide_eq_false hv,if_pos (by simpa using hv)];rfl
theorem qL7 {α:Type} {g:Node->Pattern_place->List α} (hg1:∀n x,(g n x).length<=1) {bd:Rect->Int->Int} {nodes:List Node} {f:Int->Pattern_place->List α->Option (Nat×List α)} {kerf:Int} (hn:nodes.length<=1000)
  (hf:∀(i:Nat) (x:Pattern_place) (s:List α),i<nodes.length->s.length<=1000->f (i:Int) x s=some (0,s++g (nodes.getD i default) x)):
  ∀(ns:List Node) (i:Nat) (st:List Pattern_place) (s:List α),nodes.drop i=ns->i<=nodes.length->s.length<=i->chkP bd kerf ns st=0->runP f kerf ns (i:Int) st s=some (0,s++allP g kerf ns st)
 |[],i,[],s,_,_,_,_=>by simp[runP,allP]
 |n::ns,i,[],s,_,_,_,h=>by simp[chkP] at h
 |[],i,x::st,s,_,_,_,h=>by simp[chkP] at h
 |n::ns,i,x::st,s,hd,hi,hs,h=>by
  have hil:i<nodes.length:=by
   rcases Nat.lt_or_ge i nodes.length with h|h
   ·exact h
   ·rw[List.drop_eq_nil_of_le h] at hd;cases hd
  have hgn:nodes.getD i default=n:=by
   have h0:=congrArg (λl=>l.getD 0 default) hd;simpa[List.getD_eq_getElem?_getD] using h0
  have hd2:nodes.drop (i+1)=ns:=by
   have h0:=congrArg List.tail hd;simpa using h0
  have h':chkP bd kerf ns (pushP kerf n x st)=0:=by
   unfold chkP at h;split at h
   ·rename_i c;exact(c h).elim
   ·exact h
  show((f (i:Int) x s).bind λv=>bif Nat.beq v.1 0 then runP f kerf ns ((i:Int)+1) (pushP kerf n x st) v.2 else some v)=_;rw[hf i x s hil (by omega),hgn];have e:=qL7 hg1 (bd:=bd) hn hf ns (i+1) (pushP kerf n x st) (s++g n x) hd2 hil (by have:=hg1 n x;simp;omega) h';show runP f kerf ns ((i:Int)+1) (pushP kerf n x st) (s++g n x)=_;rw[show((i:Int)+1)=((i+1:Nat):Int) by omega,e,List.append_assoc];rfl
theorem leafG1 (n:Node) (x:Pattern_place):(TR n x).length<=1:=by unfold TR;split<;>(try split)<;>simp
theorem cutG1 (kerf:Int) (n:Node) (x:Pattern_place):(cutG kerf n x).length<=1:=by unfold cutG;split<;>simp
theorem XM {bd:Rect->Int->Int} {p:Pattern} {kerf:Int}:YB bd p kerf=0↔VR p.Frame/\(0<=kerf/\kerf<=20)/\p.Nodes.length<=127/\chkP bd kerf p.Nodes [⟨p.Frame,1⟩]=0:=by
 unfold YB;by_cases hv:VR p.Frame
 ·rw[if_neg (by simpa using hv)];by_cases h1:kerf<0\/20<kerf
  ·rw[if_pos h1];constructor
   ·intro h;cases h
   ·rintro⟨_,h,_⟩;omega
  ·rw[if_neg h1];by_cases h3:127<p.Nodes.length
   ·rw[if_pos h3];constructor
    ·intro h;cases h
    ·rintro⟨_,_,h,_⟩;omega
   ·rw[if_neg h3];constructor
    ·intro h;exact⟨hv,by omega,by omega,h⟩
    ·rintro⟨_,_,_,h⟩;exact h
 ·rw[if_pos (by simpa using hv)];constructor
  ·intro h;cases h
  ·rintro⟨h,_⟩;exact(hv h).elim
def lvP (p:Pattern) (kerf:Int):List Leaf:=allP TR kerf p.Nodes [⟨p.Frame,1⟩]
def ctP (p:Pattern) (kerf:Int):List Rect:=allP (cutG kerf) kerf p.Nodes [⟨p.Frame,1⟩]
theorem qTh (p:Pattern) (kerf:Int):UL p kerf=some (if YB bdAny p kerf=0 then(lvP p kerf,0) else([],YB bdAny p kerf)):=by
 unfold UL;rw[qML];simp only[Option.bind_some];by_cases h:YB bdAny p kerf=0
 ·have hz:=XM.1 h;rw[if_pos h,h];unfold jP;simp only[bne_self_eq_false,cond_false,Option.bind_some];rw[qSd _ _ _ _ (by omega)];have e:=qL7 leafG1 (bd:=bdAny) (kerf:=kerf) (nodes:=p.Nodes) (f:=λi x (s:List Leaf)=>jE i x p s) (by omega) (by
   intro i x s hi hs;unfold jE TR;rw[qL (by omega) (by omega),cond_true,Int.toNat_natCast,qW (by omega) (by omega)];by_cases c0:(p.Nodes.getD i default).Kind=0
   ·have e0:((p.Nodes.getD i default).Kind==0)=true:=by simpa using c0
    rw[e0,if_pos c0];rfl
   ·have e0:((p.Nodes.getD i default).Kind==0)=false:=by simpa using c0
    rw[e0,if_neg c0,cond_false];by_cases c1:(p.Nodes.getD i default).Kind=1
    ·have e1:((p.Nodes.getD i default).Kind==1)=true:=by simpa using c1
     rw[e1,if_pos c1];rfl
    ·have e1:((p.Nodes.getD i default).Kind==1)=false:=by simpa using c1
     rw[e1,if_neg c1,cond_false,List.append_nil]) p.Nodes 0 [⟨p.Frame,1⟩] [] rfl (Nat.zero_le _) (Nat.zero_le _) hz.2.2.2
  rw[show(0:Int)=((0:Nat):Int) from rfl,e];rfl
 ·have h':(YB bdAny p kerf !=0)=true:=by simpa using h
  rw[if_neg h,h'];rfl
theorem Cuts_eq (p:Pattern) (kerf:Int):NE p kerf=some (if YB bdAny p kerf=0 then(ctP p kerf,0) else([],YB bdAny p kerf)):=by
 unfold NE;rw[qML];simp only[Option.bind_some];by_cases h:YB bdAny p kerf=0
 ·have hz:=XM.1 h;rw[if_pos h,h];unfold jP;simp only[bne_self_eq_false,cond_false,Option.bind_some];rw[qRH _ _ _ _ _ (by omega)];have e:=qL7 (cutG1 kerf) (bd:=bdAny) (kerf:=kerf) (nodes:=p.Nodes) (f:=λi x (s:List Rect)=>yG i x p kerf s) (by omega) (by
   intro i x s hi hs;unfold yG cutG;rw[qL (by omega) (by omega),cond_true,Int.toNat_natCast,qIr,qW (by omega) (by omega)];simp only[Option.bind_some,qPC];cases c0:ripB (p.Nodes.getD i default).Kind
   ·simp
   ·simp) p.Nodes 0 [⟨p.Frame,1⟩] [] rfl (Nat.zero_le _) (Nat.zero_le _) hz.2.2.2
  rw[show(0:Int)=((0:Nat):Int) from rfl,e];rfl
 ·have h':(YB bdAny p kerf !=0)=true:=by simpa using h
  rw[if_neg h,h'];rfl
end Go.SL.Saw
namespace Go.SL
namespace Saw
def wid (r:Rect):Int:=r.X.B-r.X.A
def WN (l:List qB) (ds:List Defect) (p:Product) (r:Rect) (w:Saw) (t:Rates) (sz:Int) (x:Nat):Int:=
 if(x:Int) % w.Pitch=0 then gainS l ds p (LV r x (x+sz)) w t else-1
def VF (l:List qB) (ds:List Defect) (p:Product) (r:Rect) (w:Saw) (t:Rates) (sz:Int):List Int:=(List.range (wid r-sz+1).toNat).map (WN l ds p r w t sz)
theorem qR6 {l:List qB} {ds:List Defect} {ps:List Product} {r:Rect} {w:Saw} {t:Rates} (h:VE l ds ps r w t) (z:Int) {j:Nat} (hj:j<(sizes ps z).1.length):
  ZO l ds ps r w t (sizes ps z) (j:Int) FUEL [] 0=some (VF l ds (ps.getD ((sizes ps z).2.getD j default).toNat default) r w t ((sizes ps z).1.getD j default)):=by
 obtain⟨s1,s2,i,hi,ei,vp,c1⟩:=qIY h.pr z hj;have hsl:=(qRt h.pr z).len;have hr:=h.vr;have hr':=hr;unfold VR at hr';have hw:=h.vw;have hp:=hw.pitch;have hd:PT ds=0:=(TA ds).2 ⟨h.dl,h.dd⟩;rw[ei,Int.toNat_natCast];generalize hsz:(sizes ps z).1.getD j default=sz at*;have k:=zX (wid r-sz+1).toNat (λn (s:List Int) x=>ZO l ds ps r w t (sizes ps z) (j:Int) n s x) (λx s=>s++[WN l ds (ps.getD i default) r w t sz x]) (λs=>s)
  (λx s=>s=(List.range x).map (WN l ds (ps.getD i default) r w t sz)) 0 (by omega) (by unfold wid;omega)
  (λn x s hx hs=>by
   unfold wid at hx;have hlen:s.length=x:=by rw[hs];simp
   refine⟨?_,by rw[hs,List.range_succ,List.map_append];rfl⟩;rw[ZO];simp only[Int.toNat_natCast,hsz,ei];rw[qF (n:=(x:Int)+sz) (by omega) (by omega),qF (n:=r.X.B-r.X.A) (by omega) (by omega),decide_eq_true (by omega),nz_t (by omega),qL (by omega) (by omega),qL (by omega) (by omega),qLG hr (by omega) (by omega)];simp only[cond_true,Option.bind_some,IC,qP (show x<4611686018427387904 by omega)];rw[qW (by omega) (by omega),(qRu h.sol hd c1 vp (qQQ hr (a:=(x:Int)) (b:=(x:Int)+sz) (by omega) (by omega) (by omega)) hw).1];simp only[cond_true,Option.bind_some,WN]
   have em:Int.tmod (x:Int) w.Pitch=(x:Int) % w.Pitch:=Int.tmod_eq_emod_of_nonneg (by omega);rw[em];by_cases c:(x:Int) % w.Pitch=0
   ·rw[if_pos c,c];rfl
   ·rw[if_neg c,show((x:Int) % w.Pitch==0)=false by rw[beq_eq_false_iff_ne];exact c];rfl)
  (λn s _=>by
   rw[ZO];simp only[Int.toNat_natCast,hsz];unfold wid;rw[qF (n:=(((r.X.B-r.X.A-sz+1).toNat:Nat):Int)+sz) (by omega) (by omega),qF (n:=r.X.B-r.X.A) (by omega) (by omega),decide_eq_false (by omega)];rfl) [] rfl
 rw[show((0:Nat):Int)=0 from rfl,Nat.sub_zero] at k;rw[k.1,k.2];rfl
def sliv (l:List qB) (r:Rect) (x:Nat):Int:=volS l (LV r x (x+1)).X r.Y ⟨0,solLen l⟩
def LU (l:List qB) (ds:List Defect) (ps:List Product) (r:Rect) (w:Saw) (t:Rates) (z:Int):List (List Int):=
 (List.range (sizes ps z).1.length).map (λj=>VF l ds (ps.getD ((sizes ps z).2.getD j default).toNat default) r w t ((sizes ps z).1.getD j default))
def lineS (l:List qB) (ds:List Defect) (ps:List Product) (r:Rect) (w:Saw) (t:Rates):Line:=
 ⟨wid r,w.Kerf,1,(sizes ps (r.Y.B-r.Y.A)).1,LU l ds ps r w t (r.Y.B-r.Y.A),(List.range (wid r).toNat).map (λx=>t.Chip*sliv l r x),(List.range (wid r).toNat).map (λx=>t.Dust*sliv l r x)⟩
theorem qT0 {l:List qB} {ds:List Defect} {ps:List Product} {r:Rect} {w:Saw} {t:Rates} (h:VE l ds ps r w t) (z:Int):PC l ds ps r w t (sizes ps z) FUEL 0 []=some (LU l ds ps r w t z):=by
 have hl:=(qGc ps z).1
 let g:Nat->List Int:=λj=>VF l ds (ps.getD ((sizes ps z).2.getD j default).toNat default) r w t ((sizes ps z).1.getD j default)
 have k:=zX (sizes ps z).1.length (λn (s:List (List Int)) x=>PC l ds ps r w t (sizes ps z) n x s) (λj s=>s++[g j]) (λs=>s) (λj s=>s=(List.range j).map g) 0 (by omega) (by omega)
  (λn j s hj hs=>by
   have hlen:s.length=j:=by rw[hs];simp
   refine⟨?_,by rw[hs,List.range_succ,List.map_append];rfl⟩;rw[PC,decide_eq_true (by omega),qL (by omega) (by omega),qR6 h z hj,qW (by omega) (by omega),qP (by omega)];rfl)
  (λn s _=>by rw[PC,decide_eq_false (by omega)];rfl) [] rfl
 rw[show((0:Nat):Int)=0 from rfl,Nat.sub_zero] at k;rw[k.1,k.2];rfl
theorem qPS {l:List qB} (h:VSol l) (r:Rect) (x:Nat):0<=sliv l r x/\sliv l r x<=28800000000:=ET h _ _ _
theorem qUs {l:List qB} {ds:List Defect} {ps:List Product} {r:Rect} {w:Saw} {t:Rates} (h:VE l ds ps r w t):KW l r t (solLen l) FUEL 0 [] []=some ((List.range (wid r).toNat).map (λx=>t.Chip*sliv l r x),(List.range (wid r).toNat).map (λx=>t.Dust*sliv l r x)):=by
 have hr:=h.vr;unfold VR at hr;have hw:=h.vw;have k:=zX (wid r).toNat (λn (s:List Int×List Int) x=>KW l r t (solLen l) n x s.1 s.2) (λx s=>(s.1++[t.Chip*sliv l r x],s.2++[t.Dust*sliv l r x])) (λs=>s)
  (λx s=>s=((List.range x).map (λx=>t.Chip*sliv l r x),(List.range x).map (λx=>t.Dust*sliv l r x))) 0 (by omega) (by unfold wid;omega)
  (λn x s hx hs=>by
   unfold wid at hx;subst hs;have sb:=qPS h.sol r x;have m1:=WC (a:=t.Chip) (b:=sliv l r x) (m:=1000) (n:=28800000000) (by have:=hw.chip;omega) (by have:=hw.chip;omega) (by omega) (by omega) (by omega) (by omega);have m2:=WC (a:=t.Dust) (b:=sliv l r x) (m:=1000) (n:=28800000000) (by have:=hw.dust;omega) (by have:=hw.dust;omega) (by omega) (by omega) (by omega) (by omega);refine⟨?_,by simp only[List.range_succ,List.map_append];rfl⟩;simp only;rw[KW,qF (n:=r.X.B-r.X.A) (by omega) (by omega),decide_eq_true (by omega),qF (n:=(x:Int)+1) (by omega) (by omega),qLG h.vr (by omega) (by omega)]
   simp only[cond_true,Option.bind_some,qSu h.sol,List.length_map,List.length_range];rw[qW (by omega) (by omega)];simp only[cond_true];rw[show volS l (LV r (x:Int) ((x:Int)+1)).X (LV r (x:Int) ((x:Int)+1)).Y ⟨0,solLen l⟩=sliv l r x from rfl,qF (n:=t.Chip*sliv l r x) (by omega) (by omega),qF (n:=t.Dust*sliv l r x) (by omega) (by omega),show(x:Int)+1=((x+1:Nat):Int) by omega])
  (λn s _=>by
   try simp only
   unfold wid;rw[KW,qF (n:=r.X.B-r.X.A) (by omega) (by omega),decide_eq_false (by omega)];rfl) ([],[]) rfl
 rw[show((0:Nat):Int)=0 from rfl,Nat.sub_zero] at k;rw[k.1,k.2]
def noLine :Line:=⟨0,0,0,[],[],[],[]⟩
open Classical in
noncomputable def lineR (l:List qB) (ds:List Defect) (ps:List Product) (r:Rect) (w:Saw) (t:Rates):Line×Int:=if chkE l ds ps r w t=0 then(lineS l ds ps r w t,0) else(noLine,chkE l ds ps r w t)
theorem Line_eq (l:List qB) (ds:List Defect) (ps:List Product) (r:Rect) (w:Saw) (t:Rates):qAB l ds ps r w t=some (lineR l ds ps r w t):=by
 unfold qAB lineR;rw[chkE_eq];simp only[Option.bind_some];by_cases c:chkE l ds ps r w t=0
 ·have h:=XU.1 c;have hr:=h.vr;unfold VR at hr;rw[if_pos c,c,qF (n:=r.Y.B-r.Y.A) (by omega) (by omega),(qIF ps _).1,(EB l).1,ED h.sol,qF (n:=r.X.B-r.X.A) (by omega) (by omega)];simp only[bne_self_eq_false,cond_false,Option.bind_some,qT0 h,qUs h];rfl
 ·rw[if_neg c,show(chkE l ds ps r w t !=0)=true by rw[bne_iff_ne];exact c];rfl
def okN (n:Int):Prop:= -1125899906842624<=n/\n<=1125899906842624
structure VL (a:Line):Prop where
 len:0<=a.Len/\a.Len<=2000
 kerf:0<=a.Kerf/\a.Kerf<=20
 pitch:1<=a.Pitch/\a.Pitch<=2000
 szl:a.Sizes.length<=32
 sz:∀i,i<a.Sizes.length->1<=a.Sizes.getD i default/\a.Sizes.getD i default<=2000
 gl:a.Gain.length=a.Sizes.length
 cl:(a.Chip.length:Int)=a.Len
 dl:(a.Dust.length:Int)=a.Len
 gr:∀i,i<a.Sizes.length->(a.Gain.getD i default).length=(a.Len-a.Sizes.getD i default+1).toNat
 gb:∀i,i<a.Sizes.length->∀j,j<(a.Gain.getD i default).length->okN ((a.Gain.getD i default).getD j default)
 cb:∀j,j<a.Chip.length->okN (a.Chip.getD j default)
 db:∀j,j<a.Dust.length->okN (a.Dust.getD j default)
theorem KY {l:List qB} {ds:List Defect} {ps:List Product} {r:Rect} {w:Saw} {t:Rates} (h:VE l ds ps r w t):VL (lineS l ds ps r w t):=by
 have hr:=h.vr;unfold VR at hr;have hw:=h.vw;have sl:=qGc ps (r.Y.B-r.Y.A);have hd:PT ds=0:=(TA ds).2 ⟨h.dl,h.dd⟩;have gl:(lineS l ds ps r w t).Gain.length=(sizes ps (r.Y.B-r.Y.A)).1.length:=by unfold lineS LU;simp
 have ga:∀i,i<(sizes ps (r.Y.B-r.Y.A)).1.length->(lineS l ds ps r w t).Gain.getD i default=VF l ds (ps.getD ((sizes ps (r.Y.B-r.Y.A)).2.getD i default).toNat default) r w t ((sizes ps (r.Y.B-r.Y.A)).1.getD i default):=λi hi=>by
  unfold lineS LU;simp only;rw[zE _ hi]
 have wb:wid r=r.X.B-r.X.A:=rfl;refine⟨by show 0<=wid r/\wid r<=2000;omega,hw.kerf,⟨show(1:Int)<=1 by decide,show(1:Int)<=2000 by decide⟩,by show(sizes ps (r.Y.B-r.Y.A)).1.length<=32;omega,λi hi=>?_,gl,?_,?_,λi hi=>?_,λi hi j hj=>?_,λj hj=>?_,λj hj=>?_⟩
 ·have:=qIY h.pr (r.Y.B-r.Y.A) hi;show 1<=(sizes ps (r.Y.B-r.Y.A)).1.getD i default/\(sizes ps (r.Y.B-r.Y.A)).1.getD i default<=2000;omega
 ·show(((List.range (wid r).toNat).map _).length:Int)=wid r;simp;omega
 ·show(((List.range (wid r).toNat).map _).length:Int)=wid r;simp;omega
 ·rw[ga i hi];unfold VF;simp;rfl
 ·have hi':i<(sizes ps (r.Y.B-r.Y.A)).1.length:=hi;rw[ga i hi'] at hj⊢;obtain⟨s1,s2,k,hk,ek,vp,c1⟩:=qIY h.pr (r.Y.B-r.Y.A) hi';unfold VF at hj⊢;simp only[List.length_map,List.length_range] at hj;rw[zE _ hj,ek,Int.toNat_natCast];unfold WN;split
  ·exact(qRu h.sol hd c1 vp (qQQ h.vr (by omega) (by omega) (by omega)) hw).2
  ·exact⟨by decide,by decide⟩
 ·have hj':j<(wid r).toNat:=by simpa[lineS] using hj
  show okN (((List.range (wid r).toNat).map (λx=>t.Chip*sliv l r x)).getD j default);rw[zE _ hj'];have sb:=qPS h.sol r j;have m1:=WC (a:=t.Chip) (b:=sliv l r j) (m:=1000) (n:=28800000000) (by have:=hw.chip;omega) (by have:=hw.chip;omega) (by omega) (by omega) (by omega) (by omega);unfold okN;omega
 ·have hj':j<(wid r).toNat:=by simpa[lineS] using hj
  show okN (((List.range (wid r).toNat).map (λx=>t.Dust*sliv l r x)).getD j default);rw[zE _ hj'];have sb:=qPS h.sol r j;have m1:=WC (a:=t.Dust) (b:=sliv l r j) (m:=1000) (n:=28800000000) (by have:=hw.dust;omega) (by have:=hw.dust;omega) (by omega) (by omega) (by omega) (by omega);unfold okN;omega
theorem qAe {ε:Type} (N:Nat) (L:Nat->Int->Option (ε⊕Unit)) (hN:N<=1000000000) (h0:∀n i,i<N->L (n+1) (i:Int)=L n ((i+1:Nat):Int)) (h1:∀n,L (n+1) (N:Int)=some (.inr ())):L FUEL 0=some (.inr ()):=by
 have k:=ZW N L (λ_=>none) 0 (by omega) hN (λn i _ hi=>h0 n i hi) h1;rw[RK.2 (λ_ _ _=>rfl)] at k;exact k
theorem qPc {g:List (List Int)} (hl:g.length<=1000000) (h:∀i,i<g.length->(g.getD i default).length<=1000000/\∀j,j<(g.getD i default).length->okN ((g.getD i default).getD j default)):PR g=some true:=by
 unfold PR;rw[qAe g.length (JB g) (by omega) (λn i hi=>?_) (λn=>?_)]
 ·rfl
 ·obtain⟨a,b⟩:=h i hi;rw[JB,decide_eq_true (by omega),qL (by omega) (by omega),qAe (g.getD i default).length (jY g (i:Int)) (by omega) (λn j hj=>?_) (λn=>?_)]
  ·simp only[cond_true,Option.bind_some,Sum.elim_inr,qP (show i<4611686018427387904 by omega)]
  ·have o:=b j hj;unfold okN at o;rw[jY];simp only[Int.toNat_natCast,DG];rw[decide_eq_true (by omega),qL (by omega) (by omega),decide_eq_false (show¬(g.getD i default).getD j default< -1125899906842624 by omega),decide_eq_false (show¬(g.getD i default).getD j default>1125899906842624 by omega),qP (by omega)];rfl
  ·rw[jY];simp only[Int.toNat_natCast];rw[decide_eq_false (by omega)];rfl
 ·rw[JB,decide_eq_false (by omega)];rfl
theorem qQa {a:Line} (h:VL a):DL a=some 0:=by
 have h1:=h.len;have h2:=h.kerf;have h3:=h.pitch;have h4:=h.szl;have h5:=h.gl;have h6:=h.cl;have h7:=h.dl;have M:KT a=some 0:=by
  unfold KT wU;rw[decide_eq_false (show¬a.Len<0 by omega),decide_eq_false (show¬a.Len>2000 by omega),decide_eq_false (show¬a.Kerf<0 by omega),decide_eq_false (show¬a.Kerf>20 by omega),decide_eq_false (show¬a.Pitch<1 by omega),decide_eq_false (show¬a.Pitch>2000 by omega),decide_eq_false (show¬((a.Sizes.length:Nat):Int)>32 by omega)];simp only[cond_false];rw[qAe a.Sizes.length (wT a) (by omega) (λn i hi=>?_) (λn=>?_)]
  ·rfl
  ·have:=h.sz i hi;rw[wT,decide_eq_true (by omega),qL (by omega) (by omega)];simp only[cond_true,Int.toNat_natCast,PF,qP (show i<4611686018427387904 by omega)];rw[decide_eq_false (show¬a.Sizes.getD i default<1 by omega),decide_eq_false (show¬a.Sizes.getD i default>2000 by omega)];rfl
  ·rw[wT,decide_eq_false (by omega)];rfl
 unfold DL KP GM;rw[M];simp only[Option.bind_some,bne_self_eq_false,cond_false];rw[show(((a.Gain.length:Nat):Int) !=((a.Sizes.length:Nat):Int))=false by rw[bne_eq_false_iff_eq];omega,show(((a.Chip.length:Nat):Int) !=a.Len)=false by rw[bne_eq_false_iff_eq];omega,show(((a.Dust.length:Nat):Int) !=a.Len)=false by rw[bne_eq_false_iff_eq];omega];simp only[cond_false];rw[qAe a.Gain.length (WV a) (by omega) (λn i hi=>?_) (λn=>?_),qPc (by omega) (λi hi=>⟨?_,λj hj=>h.gb i (by omega) j hj⟩),qPc (by simp) (λi hi=>?_)]
 ·rfl
 ·match i,hi with
  |0,_=>exact⟨by show a.Chip.length<=1000000;omega,h.cb⟩
  |1,_=>exact⟨by show a.Dust.length<=1000000;omega,h.db⟩
  |i+2,hi=>simp at hi;omega
 ·rw[h.gr i (by omega)];have:=h.sz i (by omega);omega
 ·have s:=h.sz i (by omega);have g:=h.gr i (by omega);rw[WV,decide_eq_true (by omega),qL (by omega) (by omega),qL (by omega) (by omega)];simp only[cond_true,Int.toNat_natCast,qP (show i<4611686018427387904 by omega),LO,Option.bind_some];rw[qF (n:=a.Len-a.Sizes.getD i default) (by omega) (by omega),qF (by omega) (by omega),g];have m:=JA 0 (a.Len-a.Sizes.getD i default+1);rw[show((((a.Len-a.Sizes.getD i default+1).toNat:Nat):Int) !=imax 0 (a.Len-a.Sizes.getD i default+1))=false by rw[bne_eq_false_iff_eq];omega];rfl
 ·rw[WV,decide_eq_false (by omega)];rfl
def pre (c:List Int) (k:Nat):Int:=sumN k (λi=>c.getD i default)
theorem qEn (c:List Int) (k:Nat):pre c (k+1)=pre c k+c.getD k default:=rfl
theorem qEK {c:List Int} (h:∀j,j<c.length->okN (c.getD j default)):∀{k:Nat},k<=c.length->-(1125899906842624*(k:Int))<=pre c k/\pre c k<=1125899906842624*(k:Int)
 |0,_=>by simp[pre,sumN]
 |k+1,hk=>by
  have a:=qEK h (k:=k) (by omega);have b:=h k (by omega);unfold okN at b;rw[qEn];omega
def sums (c:List Int):List Int:=(List.range (c.length+1)).map (pre c)
theorem qRv {c:List Int} (hl:c.length<=2000) (h:∀j,j<c.length->okN (c.getD j default)):UW c=some (sums c):=by
 unfold UW;rw[qF (n:=((c.length:Nat):Int)+1) (by omega) (by omega),show((c.length:Nat):Int)+1=((c.length+1:Nat):Int) by omega,qKe (by omega) (by omega),Int.toNat_natCast];simp only[cond_true];have k:=zX c.length (λn (s:List Int) i=>YW c n s i) (λi s=>s.set (i+1) (pre c (i+1))) (λs=>s) (λi s=>s.length=c.length+1/\∀j,j<=i->s.getD j default=pre c j) 0 (by omega) (by omega)
  (λn i s hi hs=>by
   obtain⟨e1,e2⟩:=hs;have p:=qEK h (k:=i) (by omega);have q:=qEK h (k:=i+1) (by omega);rw[qEn] at q;refine⟨?_,by simpa using e1,λj hj=>?_⟩
   ·rw[YW,decide_eq_true (by omega),qP (by omega),qL (by omega) (by omega),qL (by omega) (by omega),qL (by omega) (by omega)];simp only[cond_true,Int.toNat_natCast];rw[e2 i (Nat.le_refl _),qF (by omega) (by omega),qEn]
   ·by_cases c1:j=i+1
    ·subst c1;rw[CO _ (by omega)]
    ·rw[HO _ (λe=>c1 e.symm),e2 j (by omega)])
  (λn s _=>by rw[YW,decide_eq_false (by omega)];rfl) (List.replicate (c.length+1) 0) ⟨by simp,λj hj=>by
   rw[show j=0 by omega];simp[pre,sumN,List.getD_eq_getElem?_getD]⟩
 rw[show((0:Nat):Int)=0 from rfl,Nat.sub_zero] at k;rw[k.1];simp only[Option.bind_some]
 congr 1
 unfold sums;refine qO1 (by simp[k.2.1]) (λj hj=>?_);rw[k.2.1] at hj;rw[k.2.2 j (by omega),zE _ hj]
abbrev Ch :=Cutting_choice
def noCh (v:Int):Ch:=⟨⟨-1,-1⟩,v⟩
def isNo (c:Ch):Bool:=(c.piece.Size== -1)&&(c.piece.At== -1)
def szAt (a:Line) (i:Nat):Int:=a.Sizes.getD i default
def gnAt (a:Line) (i:Nat) (p:Nat):Int:=(a.Gain.getD i default).getD p default
def nxtN (a:Line) (q:Nat):Nat:=(imin ((q:Int)+a.Kerf) a.Len).toNat
def endN (a:Line) (p i:Nat):Nat:=(p+szAt a i).toNat
def candV (a:Line) (best:Nat->Ch) (p i:Nat):Int:=
 gnAt a i p+(if(endN a p i:Int)=a.Len then 0 else(pre a.Dust (nxtN a (endN a p i))-pre a.Dust (endN a p i))+(best (nxtN a (endN a p i))).value)
def QB (a:Line) (best:Nat->Ch) (p i:Nat) (c:Ch):Ch:=
 if(p:Int)+szAt a i>a.Len\/gnAt a i p<0 then c
 else bif isNo c||decide (candV a best p i>c.value) then⟨⟨(i:Int),(p:Int)⟩,candV a best p i⟩ else c
def startS (a:Line) (best:Nat->Ch) (p:Nat):Ch:=foldN (QB a best p) 0 a.Sizes.length (noCh 0)
def TF (a:Line) (st:Nat->Ch) (p:Nat) (x:Nat) (c:Ch):Ch:=
 bif !isNo (st x)&&decide ((st x).value+(pre a.Chip (x-a.Kerf.toNat)-pre a.Chip p+pre a.Dust x-pre a.Dust (x-a.Kerf.toNat))>c.value) then⟨(st x).piece,(st x).value+(pre a.Chip (x-a.Kerf.toNat)-pre a.Chip p+pre a.Dust x-pre a.Dust (x-a.Kerf.toNat))⟩ else c
def placeN (a:Line) (p k:Nat):Nat:=p+a.Kerf.toNat+(k+1)*a.Pitch.toNat
def CK (a:Line) (st:Nat->Ch) (p:Nat):Ch:=
 bif !isNo (st p)&&decide ((st p).value>pre a.Chip a.Len.toNat-pre a.Chip p) then st p else noCh (pre a.Chip a.Len.toNat-pre a.Chip p)
def ZZ (a:Line) (p:Nat):Nat:=((a.Len.toNat-(p+a.Kerf.toNat))/a.Pitch.toNat)
def bestS (a:Line) (st:Nat->Ch) (p:Nat):Ch:=foldN (λk c=>TF a st p (placeN a p k) c) 0 (ZZ a p) (CK a st p)
def tab (a:Line):Nat->Nat->Ch×Ch
 |0=>λ_=>(⟨⟨0,0⟩,0⟩,⟨⟨0,0⟩,0⟩)
 |k+1=>λj=>
  if j=a.Len.toNat-k then
   (bestS a (λx=>if x=a.Len.toNat-k then startS a (λy=>(tab a k y).1) (a.Len.toNat-k) else(tab a k x).2) (a.Len.toNat-k),startS a (λy=>(tab a k y).1) (a.Len.toNat-k))
  else tab a k j
def BV (a:Line) (p:Nat) (v:Int):Prop:= -(2251799813685248*(a.Len-p))<=v/\v<=2251799813685248*(a.Len-p)
theorem SW {c:List Int} {k:Nat} (h:k<=c.length):(sums c).getD k default=pre c k:=by unfold sums;rw[zE _ (by omega)]
theorem CL (c:List Int):(sums c).length=c.length+1:=by unfold sums;simp
theorem FA {c:List Int} (h:∀j,j<c.length->okN (c.getD j default)) {i:Nat}:∀{k:Nat},i+k<=c.length->-(1125899906842624*(k:Int))<=pre c (i+k)-pre c i/\pre c (i+k)-pre c i<=1125899906842624*(k:Int)
 |0,_=>by simp
 |k+1,hk=>by
  have a:=FA h (i:=i) (k:=k) (by omega);have b:=h (i+k) (by omega);unfold okN at b;rw[show i+(k+1)=(i+k)+1 from rfl,qEn];omega
theorem qTd {a:Line} (h:VL a) {p i:Nat} (hi:i<a.Sizes.length) (hq:(p:Int)+szAt a i<=a.Len) {best:Nat->Ch} (hb:∀x,p<x->(x:Int)<=a.Len->BV a x (best x).value):BV a p (candV a best p i):=by
 have s:=h.sz i hi;have g:okN (gnAt a i p):=h.gb i hi p (by have:=h.gr i hi;unfold szAt at hq;omega);have kf:=h.kerf;have dl:=h.dl;unfold candV;have e:(endN a p i:Int)=p+szAt a i:=by unfold endN;unfold szAt at*;omega
 unfold okN at g;by_cases c:(endN a p i:Int)=a.Len
 ·rw[if_pos c];unfold BV;unfold szAt at*;omega
 ·rw[if_neg c];have m:=imin_or ((endN a p i:Int)+a.Kerf) a.Len;have en:(nxtN a (endN a p i):Int)=imin ((endN a p i:Int)+a.Kerf) a.Len:=by unfold nxtN;omega
  have bb:=hb (nxtN a (endN a p i)) (by unfold szAt at*;omega) (by omega);have pd:=FA h.db (i:=endN a p i) (k:=nxtN a (endN a p i)-endN a p i) (by omega);rw[show endN a p i+(nxtN a (endN a p i)-endN a p i)=nxtN a (endN a p i) by omega] at pd;unfold BV at*;unfold szAt at*;omega
theorem qET (c:Ch):((c.piece.Size== -1)&&((c.piece.At== -1)&&true))=isNo c:=by unfold isNo;rw[Bool.and_true]
theorem qUq {a:Line} (h:VL a) {p:Nat} (hp:(p:Int)<=a.Len) {b4:List Ch} (hl:(b4.length:Int)=a.Len+1) (hb:∀x,p<x->(x:Int)<=a.Len->BV a x (b4.getD x default).value):
  DM a (p:Int) (sums a.Dust) b4=some (startS a (λx=>b4.getD x default) p):=by
 have szl:=h.szl;have kf:=h.kerf;have ln:=h.len;have dl:=h.dl;have gl:=h.gl;unfold DM;have k:=zX a.Sizes.length (λn (c:Ch) i=>wE a (p:Int) (sums a.Dust) b4 n i c) (QB a (λx=>b4.getD x default) p) (λc=>c) (λ_ _=>True) 0 (by omega) (by omega)
  (λn i c hi _=>⟨by
   have s:=h.sz i hi;have gr:=h.gr i hi;unfold QB szAt;rw[wE,decide_eq_true (by omega),qL (by omega) (by omega)];simp only[cond_true,Int.toNat_natCast,GE,GY,GK,KR,qP (show i<4611686018427387904 by omega),qET];simp only[qF (n:=(p:Int)+a.Sizes.getD i default) (by omega) (by omega)];by_cases c1:(p:Int)+a.Sizes.getD i default>a.Len
   ·rw[decide_eq_true c1,if_pos (.inl c1)];rfl
   rw[decide_eq_false c1,qL (show(0:Int)<=(i:Int) by omega) (show(i:Int)<((a.Gain.length:Nat):Int) by omega),qL (show(0:Int)<=(p:Int) by omega) (show(p:Int)<(((a.Gain.getD i default).length:Nat):Int) by omega)];simp only[cond_true,cond_false];by_cases c2:(a.Gain.getD i default).getD p default<0
   ·rw[decide_eq_true c2,if_pos (.inr c2)];rfl
   rw[decide_eq_false c2,if_neg (by unfold gnAt;omega)];simp only[cond_false];have cb:=qTd h hi (show(p:Int)+szAt a i<=a.Len by unfold szAt;omega) hb;have gb:=h.gb i hi p (by omega);unfold okN at gb;have e:(endN a p i:Int)=p+a.Sizes.getD i default:=by unfold endN szAt;omega
   unfold KE;by_cases c3:(p:Int)+a.Sizes.getD i default=a.Len
   ·have ev:candV a (λx=>b4.getD x default) p i=(a.Gain.getD i default).getD p default:=by
     unfold candV gnAt;rw[if_pos (by omega)];omega
    rw[ev,show((p:Int)+a.Sizes.getD i default==a.Len)=true by rw[beq_iff_eq];exact c3];simp only[cond_true,Option.bind_some];rw[show decide ((-1:Int)≥0)=false from rfl];simp only[cond_false];cases isNo c<;>cases decide ((a.Gain.getD i default).getD p default>c.value)<;>rfl
   ·have m:=imin_or ((p:Int)+a.Sizes.getD i default+a.Kerf) a.Len;have en:imin ((p:Int)+a.Sizes.getD i default+a.Kerf) a.Len=(nxtN a (endN a p i):Int):=by unfold nxtN;rw[e];omega
    rw[show((p:Int)+a.Sizes.getD i default==a.Len)=false by rw[beq_eq_false_iff_ne];exact c3];simp only[cond_false,Option.bind_some,qF (n:=(p:Int)+a.Sizes.getD i default+a.Kerf) (by omega) (by omega),en];rw[decide_eq_true (show(nxtN a (endN a p i):Int)≥0 by omega),<-e]
    simp only[CL,qL (show(0:Int)<=(nxtN a (endN a p i):Int) by omega) (show(nxtN a (endN a p i):Int)<((a.Dust.length+1:Nat):Int) by omega),qL (show(0:Int)<=(endN a p i:Int) by omega) (show(endN a p i:Int)<((a.Dust.length+1:Nat):Int) by omega),qL (show(0:Int)<=(nxtN a (endN a p i):Int) by omega) (show(nxtN a (endN a p i):Int)<((b4.length:Nat):Int) by omega),cond_true,Int.toNat_natCast,SW (c:=a.Dust) (show nxtN a (endN a p i)<=a.Dust.length by omega),SW (c:=a.Dust) (show endN a p i<=a.Dust.length by omega)];have bb:=hb (nxtN a (endN a p i)) (by omega) (by omega)
    have pd:=FA h.db (i:=endN a p i) (k:=nxtN a (endN a p i)-endN a p i) (by omega);rw[show endN a p i+(nxtN a (endN a p i)-endN a p i)=nxtN a (endN a p i) by omega] at pd;have ev:candV a (λx=>b4.getD x default) p i=(a.Gain.getD i default).getD p default+(pre a.Dust (nxtN a (endN a p i))-pre a.Dust (endN a p i)+(b4.getD (nxtN a (endN a p i)) default).value):=by
     unfold candV gnAt;rw[if_neg (by omega)]
    unfold BV at bb cb;simp only[qF (n:=pre a.Dust (nxtN a (endN a p i))-pre a.Dust (endN a p i)) (by omega) (by omega),qF (n:=pre a.Dust (nxtN a (endN a p i))-pre a.Dust (endN a p i)+(b4.getD (nxtN a (endN a p i)) default).value) (by omega) (by omega)];rw[ev] at cb;simp only[qF (n:=(a.Gain.getD i default).getD p default+(pre a.Dust (nxtN a (endN a p i))-pre a.Dust (endN a p i)+(b4.getD (nxtN a (endN a p i)) default).value)) (by omega) (by omega),ev]
    cases isNo c<;>cases decide ((a.Gain.getD i default).getD p default+(pre a.Dust (nxtN a (endN a p i))-pre a.Dust (endN a p i)+(b4.getD (nxtN a (endN a p i)) default).value)>c.value)<;>rfl,trivial⟩)
  (λn c _=>by rw[wE,decide_eq_false (by omega)];rfl) (noCh 0) trivial
 rw[show((0:Nat):Int)=0 from rfl,Nat.sub_zero] at k;exact congrArg (λo=>Option.bind o some) k.1
theorem places_lt {a:Line} (h:VL a) {p k:Nat}:k<ZZ a p↔(placeN a p k:Int)<=a.Len:=by
 have hp:=h.pitch;have hl:=h.len;have hk:=h.kerf;unfold ZZ placeN;have e:k<(a.Len.toNat-(p+a.Kerf.toNat))/a.Pitch.toNat↔(k+1)*a.Pitch.toNat<=a.Len.toNat-(p+a.Kerf.toNat):=by
  rw[<-Nat.le_div_iff_mul_le (by omega)];omega
 rw[e];have:1<=(k+1)*a.Pitch.toNat:=Nat.mul_pos (by omega) (by omega);omega
theorem qPm {a:Line} (h:VL a) {p i:Nat} (hi:i<a.Sizes.length) {best:Nat->Ch} (hb:∀x,p<x->(x:Int)<=a.Len->BV a x (best x).value) {c:Ch} (hc:BV a p c.value):BV a p (QB a best p i c).value:=by
 unfold QB;split
 ·exact hc
 ·cases isNo c||decide (candV a best p i>c.value) with
  |true=>exact qTd h hi (by omega) hb
  |false=>exact hc
theorem qSo {a:Line} (h:VL a) {p:Nat} (hp:(p:Int)<=a.Len) {best:Nat->Ch} (hb:∀x,p<x->(x:Int)<=a.Len->BV a x (best x).value):BV a p (startS a best p).value:=by
 unfold startS;exact NW (P:=fun(c:Ch)=>BV a p c.value) (by unfold noCh BV;simp only;omega) (λi c _ hi hc=>qPm h (by omega) hb hc)
theorem qSK {a:Line} (h:VL a) {p x:Nat} (hx:(x:Int)<=a.Len) (hpx:(p:Int)+a.Kerf<=x) {v:Int} (hv:BV a x v):
  BV a p (v+(pre a.Chip (x-a.Kerf.toNat)-pre a.Chip p+pre a.Dust x-pre a.Dust (x-a.Kerf.toNat))):=by
 have cl:=h.cl;have dl:=h.dl;have kf:=h.kerf;have p1:=FA h.cb (i:=p) (k:=x-a.Kerf.toNat-p) (by omega);have p2:=FA h.db (i:=x-a.Kerf.toNat) (k:=a.Kerf.toNat) (by omega);rw[show p+(x-a.Kerf.toNat-p)=x-a.Kerf.toNat by omega] at p1;rw[show x-a.Kerf.toNat+a.Kerf.toNat=x by omega] at p2;unfold BV at*;omega
theorem qNb {a:Line} (h:VL a) {p:Nat} (hp:(p:Int)<=a.Len) {l8:List Ch} (hl:(l8.length:Int)=a.Len+1) (v11:Ch) (hb:∀x,p<x->(x:Int)<=a.Len->BV a x ((l8.set p v11).getD x default).value) (c0:Ch):
  zZ a (sums a.Chip) (sums a.Dust) l8 (p:Int) v11 FUEL ((placeN a p 0:Nat):Int) c0=some (foldN (λk c=>TF a (λx=>(l8.set p v11).getD x default) p (placeN a p k) c) 0 (ZZ a p) c0):=by
 have ln:=h.len;have kf:=h.kerf;have pt:=h.pitch;have cl:=h.cl;have dl:=h.dl;have hN:ZZ a p<=1000000000:=by
  unfold ZZ;have:=Nat.div_le_self (a.Len.toNat-(p+a.Kerf.toNat)) a.Pitch.toNat;omega
 refine(qKR (ZZ a p) (λn (c:Ch) (x:Int)=>zZ a (sums a.Chip) (sums a.Dust) l8 (p:Int) v11 n x c) (λk=>((placeN a p k:Nat):Int)) (λk c=>TF a (λx=>(l8.set p v11).getD x default) p (placeN a p k) c) (λc=>c) (λ_ _=>True) hN (λn k c hk _=>⟨?_,trivial⟩) (λn c _=>?_) c0 trivial).1
 ·have hx:=(places_lt h).1 hk;have nx:((placeN a p k:Nat):Int)+a.Pitch=((placeN a p (k+1):Nat):Int):=by
   unfold placeN;rw[show(k+1+1)*a.Pitch.toNat=(k+1)*a.Pitch.toNat+a.Pitch.toNat from Nat.succ_mul _ _];omega
  have lo:p+a.Kerf.toNat+1<=placeN a p k:=by
   unfold placeN;have:1<=(k+1)*a.Pitch.toNat:=Nat.mul_pos (by omega) (by omega);omega
  generalize placeN a p k=x at*;have xk:((x:Int)-a.Kerf)=((x-a.Kerf.toNat:Nat):Int):=by omega
  have bx:=hb x (by omega) hx;have bs:=qSK h hx (p:=p) (by omega) bx;have b1:=qEK h.cb (k:=x-a.Kerf.toNat) (by omega);have b2:=qEK h.cb (k:=p) (by omega);have b3:=qEK h.db (k:=x) (by omega);have b4:=qEK h.db (k:=x-a.Kerf.toNat) (by omega);have p1:=FA h.cb (i:=p) (k:=x-a.Kerf.toNat-p) (by omega);rw[show p+(x-a.Kerf.toNat-p)=x-a.Kerf.toNat by omega] at p1;have p2:=FA h.db (i:=x-a.Kerf.toNat) (k:=a.Kerf.toNat) (by omega);rw[show x-a.Kerf.toNat+a.Kerf.toNat=x by omega] at p2;unfold BV at bx bs;rw[zZ]
  simp only[show w64 ((x:Int)-a.Kerf)=((x-a.Kerf.toNat:Nat):Int) by rw[qF (by omega) (by omega),xk],Int.toNat_natCast,CL,qL (show(0:Int)<=(x:Int) by omega) (show(x:Int)<((l8.length:Nat):Int) by omega),qL (show(0:Int)<=((x-a.Kerf.toNat:Nat):Int) by omega) (show((x-a.Kerf.toNat:Nat):Int)<((a.Chip.length+1:Nat):Int) by omega),qL (show(0:Int)<=(p:Int) by omega) (show(p:Int)<((a.Chip.length+1:Nat):Int) by omega),qL (show(0:Int)<=(x:Int) by omega) (show(x:Int)<((a.Dust.length+1:Nat):Int) by omega),qL (show(0:Int)<=((x-a.Kerf.toNat:Nat):Int) by omega) (show((x-a.Kerf.toNat:Nat):Int)<((a.Dust.length+1:Nat):Int) by omega),cond_true,SW (c:=a.Chip) (show x-a.Kerf.toNat<=a.Chip.length by omega),SW (c:=a.Chip) (show p<=a.Chip.length by omega),SW (c:=a.Dust) (show x<=a.Dust.length by omega),SW (c:=a.Dust) (show x-a.Kerf.toNat<=a.Dust.length by omega),qET,RQ,RW]
  rw[decide_eq_true hx];simp only[cond_true,show w64 ((x:Int)+a.Pitch)=((placeN a p (k+1):Nat):Int) by rw[qF (by omega) (by omega),nx],qF (n:=pre a.Chip (x-a.Kerf.toNat)-pre a.Chip p) (by omega) (by omega),qF (n:=pre a.Chip (x-a.Kerf.toNat)-pre a.Chip p+pre a.Dust x) (by omega) (by omega),qF (n:=pre a.Chip (x-a.Kerf.toNat)-pre a.Chip p+pre a.Dust x-pre a.Dust (x-a.Kerf.toNat)) (by omega) (by omega),qF (n:=((l8.set p v11).getD x default).value+(pre a.Chip (x-a.Kerf.toNat)-pre a.Chip p+pre a.Dust x-pre a.Dust (x-a.Kerf.toNat))) (by omega) (by omega),TF]
  cases isNo ((l8.set p v11).getD x default)<;>cases decide (((l8.set p v11).getD x default).value+(pre a.Chip (x-a.Kerf.toNat)-pre a.Chip p+pre a.Dust x-pre a.Dust (x-a.Kerf.toNat))>c.value)<;>rfl
 ·have hx:¬((placeN a p (ZZ a p):Nat):Int)<=a.Len:=λq=>by have:=(places_lt h).2 q;omega
  rw[zZ,decide_eq_false hx];rfl
end Saw
end Go.SL

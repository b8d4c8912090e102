/- Patterns: the checks, the leaves and the cuts are those of the trees. -/
import Derived.Test.YtpommeghjpbepaaEMa1
import Derived.Test.YtpommeghjpbepaaEMa4
set_option linter.unusedVariables false
set_option linter.unusedSimpArgs false
namespace Go.SL.Saw
def XD (_:Rect) (a:Int):Int:=if a<0\/16<=a then 8 else 0
def QQ (l:List Product) (r:Rect) (a:Int):Int:=if a<0\/(l.length:Int)<=a then 8 else bif dimOk r (l.getD a.toNat du) then 0 else 20
theorem any_eq (r:Rect) (a:Int):KW r a=some (XD r a):=by
 unfold KW PI XD;by_cases h1:a<0
 ·rw[ka h1,if_pos (.inl h1)];rfl
 ·by_cases h2:16<=a
  ·rw[ke h1,ka (show a≥16 from h2),if_pos (.inr h2)];rfl
  ·rw[ke h1,ke (show¬a≥16 from h2),if_neg (by omega)];rfl
theorem qM6 {s:Span} (h:WS s):lenS s=s.B-s.A:=by
 unfold lenS empS;obtain⟨h1,h2,h3⟩:=h;by_cases e:s.B<=s.A
 ·rw[ka e];simp;omega
 ·rw[ke e];simp
theorem cat_eq {r:Rect} (hw:WR r) (a:Int) (l:List Product):RF r a l=some (QQ l r a):=by
 unfold RF QQ;have k:∀b,ZV r a l b=bif b then some 8 else ZV r a l false:=λb=>by cases b<;>rfl
 by_cases h1:a<0
 ·rw[ka h1,if_pos (.inl h1)];rfl
 ·rw[ke h1,kp];by_cases h2:(l.length:Int)<=a
  ·rw[ka (show a≥_ from h2),if_pos (.inr h2)];rfl
  ·rw[ke (show¬a≥_ from h2),if_neg (by omega)];unfold ZV;rw[kp,zJ (by omega),kn,(qFq _).1,FY (by have:=hw.1;unfold WS at this;omega),FY (by have:=hw.2;unfold WS at this;omega),qM6 hw.1,qM6 hw.2];simp only[kg];unfold dimOk QJ;simp only[bne];generalize (yS (l.getD a.toNat du)).1=g1;generalize (yS (l.getD a.toNat du)).2=g2;generalize r.X.B-r.X.A=x;generalize r.Y.B-r.Y.A=y;cases x==g1<;>cases x==g2<;>cases y==g1<;>cases y==g2<;>rfl
theorem qDr (n:Node) (x:qB):WU n x=some (chkN (λ_ _=>0) n x):=by
 have k:∀b,yK n x b=some (if b=true then 10 else if 64<x.level then 28 else if ripB n.Kind=true/\(n.At<=(alP x.rect n.Kind).A\/(alP x.rect n.Kind).B<=n.At) then 20 else 0):=by
  intro b;unfold yK;cases b with
  |true=>rfl
  |false=>
   simp only[kp,qFd,qKJ,kg,uu,if_false];by_cases h2:x.level>64
   ·rw[ka h2,if_pos (show 64<x.level from h2)];rfl
   ·rw[ke h2,if_neg (show¬64<x.level from h2),kp];cases hr:ripB n.Kind with
    |false=>simp[WJ]
    |true=>
     simp only[kn,true_and];unfold XZ WJ;by_cases h3:n.At<=(alP x.rect n.Kind).A
     ·rw[ka h3,if_pos (.inl h3)];rfl
     ·by_cases h4:(alP x.rect n.Kind).B<=n.At
      ·rw[ke h3,ka (show n.At≥_ from h4),if_pos (.inr h4)];rfl
      ·rw[ke h3,ke (show¬n.At≥_ from h4),if_neg (by omega)];rfl
 unfold WU chkN;simp only[k];have e0:∀b:Bool,(if n.Kind=1 then(0:Int) else 0)=0:=λ_=>by split<;>rfl
 rw[e0 true];by_cases h1:n.Kind<0
 ·rw[ka h1,if_pos (c:=n.Kind<0\/3<n.Kind\/(n.Kind=0/\n.At≠0)) (.inl h1)];rfl
 ·by_cases h2:n.Kind>3
  ·rw[ke h1,ka h2,if_pos (c:=n.Kind<0\/3<n.Kind\/(n.Kind=0/\n.At≠0)) (.inr (.inl h2))];rfl
  ·rw[ke h1,ke h2,kp,kp];by_cases h3:n.Kind=0
   ·have e3:(n.Kind==0)=true:=by simpa using h3
    rw[e3,kn];by_cases h4:n.At=0
    ·have e4:(n.At !=0)=false:=by simpa using h4
     rw[e4,if_neg (c:=n.Kind<0\/3<n.Kind\/(n.Kind=0/\n.At≠0)) (by omega)];rfl
    ·have e4:(n.At !=0)=true:=by simpa using h4
     rw[e4,if_pos (c:=n.Kind<0\/3<n.Kind\/(n.Kind=0/\n.At≠0)) (by omega)];rfl
   ·have e3:(n.Kind==0)=false:=by simpa using h3
    rw[e3,kp,if_neg (c:=n.Kind<0\/3<n.Kind\/(n.Kind=0/\n.At≠0)) (by omega)];rfl
theorem qLp (bd:Rect->Int->Int) (n:Node) (x:qB):chkN bd n x=if chkN (λ_ _=>0) n x≠0 then chkN (λ_ _=>0) n x else if n.Kind=1 then bd x.rect n.At else 0:=by
 unfold chkN;split
 ·rfl
 ·split
  ·rfl
  ·split
   ·rfl
   ·split<;>simp
abbrev RdC :=Int->qB->Int×Int->Option (Nat×Int×Int)
def qJv (f:RdC) (bd:Rect->Int->Int) (nodes:List Node):Prop:=
 ∀(i:Nat) (x:qB) (s:Int×Int),WR x.rect->i<1000000->
  f (i:Int) x s=some (if nodes.length<=i then(1,3,s.2) else if chkN bd (nodes.getD i du) x≠0 then(1,chkN bd (nodes.getD i du) x,s.2) else(0,s.1,(i:Int)+1))
def finC (nodes:List Node) (v:Nat×Int×Int):Option Int:=bif Nat.beq v.1 0 then(bif decide (v.2.2<(nodes.length:Int)) then some 4 else some 0) else bif Nat.beq v.1 1 then some v.2.1 else none
theorem qLz {f:RdC} {bd:Rect->Int->Int} {nodes:List Node} (hf:qJv f bd nodes) {kerf:Int} (hk:0<=kerf/\kerf<=20) (hn:nodes.length<=1000):
  ∀(ns:List Node) (i:Nat) (st:List qB) (r:Int),nodes.drop i=ns->i<=nodes.length->(∀x∈st,WR x.rect)->
   ∃v,runP f kerf ns (i:Int) st (r,(i:Int))=some v/\finC nodes v=some (chkP bd kerf ns st)
 |[],i,[],r,hd,hi,_=>by
  have hil:nodes.length<=i:=by have:=congrArg List.length hd;simp at this;omega
  refine⟨(0,r,(i:Int)),rfl,?_⟩;unfold finC;rw[ke (by simp;omega)];rfl
 |n::ns,i,[],r,hd,hi,_=>by
  have hil:i<nodes.length:=by
   rcases Nat.lt_or_ge i nodes.length with h|h
   ·exact h
   ·rw[uo h] at hd;cases hd
  refine⟨(0,r,(i:Int)),rfl,?_⟩;unfold finC;rw[ka (by simp;omega)];rfl
 |[],i,x::st,r,hd,hi,hw=>by
  have hil:nodes.length<=i:=by have:=congrArg List.length hd;simp at this;omega
  refine⟨(1,3,(i:Int)),?_,rfl⟩;show f (i:Int) x (r,(i:Int))=_;rw[hf i x _ (hw x kI) (by omega),if_pos hil]
 |n::ns,i,x::st,r,hd,hi,hw=>by
  have hil:i<nodes.length:=by
   rcases Nat.lt_or_ge i nodes.length with h|h
   ·exact h
   ·rw[uo h] at hd;cases hd
  have hg:nodes.getD i du=n:=by
   have h0:=congrArg (λl=>l.getD 0 du) hd;simpa[kd] using h0
  have hd2:nodes.drop (i+1)=ns:=by
   have h0:=congrArg List.tail hd;simpa using h0
  show∃v,((f (i:Int) x (r,(i:Int))).bind λv=>bif Nat.beq v.1 0 then runP f kerf ns ((i:Int)+1) (pushP kerf n x st) v.2 else some v)=some v/\finC nodes v=some (if chkN bd n x≠0 then chkN bd n x else chkP bd kerf ns (pushP kerf n x st));rw[hf i x _ (hw x kI) (by omega),if_neg (by omega),hg];by_cases c:chkN bd n x=0
  ·rw[if_neg (by simpa using c),if_neg (by simpa using c)];have hp:∀y∈pushP kerf n x st,WR y.rect:=by
    intro y hy;unfold pushP at hy;cases hr:ripB n.Kind with
    |false=>rw[hr,kp] at hy;exact hw y (kH _ hy)
    |true=>
     rw[hr,kn] at hy;have c3:=(cut3 hr (hw x kI) (qBP hr c) hk).1;rcases ud.1 hy with rfl|hy
     ·exact c3.wf
     ·rcases ud.1 hy with rfl|hy
      ·exact c3.ws
      ·exact hw y (kH _ hy)
   exact qLz hf hk hn ns (i+1) (pushP kerf n x st) r hd2 hil hp
  ·rw[if_pos c,if_pos c];exact⟨_,rfl,rfl⟩
theorem VR_WR {r:Rect} (h:VR r):WR r:=⟨⟨h.1.1,by have:=h.1.2;omega,h.1.2.2⟩,h.2.1,by have:=h.2.2;omega,h.2.2.2⟩
def YN (bd:Rect->Int->Int) (p:Pattern) (kerf:Int):Int:=
 if¬VR p.Frame then 19 else if kerf<0\/20<kerf then 9 else if 127<p.Nodes.length then 4 else chkP bd kerf p.Nodes [⟨p.Frame,1⟩]
theorem qLW {f:RdC} {bd:Rect->Int->Int} {p:Pattern} (hf:qJv f bd p.Nodes) {kerf:Int} (hv:VR p.Frame) (hk:0<=kerf/\kerf<=20) (hn:p.Nodes.length<=127):
  (runP f kerf p.Nodes 0 [⟨p.Frame,1⟩] (0,0)).bind (finC p.Nodes)=some (chkP bd kerf p.Nodes [⟨p.Frame,1⟩]):=by
 obtain⟨v,e1,e2⟩:=qLz hf hk (by omega) p.Nodes 0 [⟨p.Frame,1⟩] 0 rfl (ua _) (λx hx=>by simp at hx;subst hx;exact VR_WR hv);have e1':runP f kerf p.Nodes 0 [⟨p.Frame,1⟩] (0,0)=some v:=e1;rw[e1'];exact e2
theorem qMY (p:Pattern) (l:List Product):qJv (λi x s=>yY i x p l s.1 s.2) (QQ l) p.Nodes:=by
 intro i x s hw hi;simp only;unfold yY YJ YM;by_cases h:p.Nodes.length<=i
 ·rw[ka (by simp;omega),if_pos h];rfl
 ·rw[ke (by simp;omega),if_neg h,kp,zJ (by omega),kn,ks,qDr,qLp (QQ l)];simp only[kg,cat_eq hw];by_cases c:chkN (λ_ _=>0) (p.Nodes.getD i du) x=0
  ·rw[c];simp only[ne_eq,not_true_eq_false,if_false,beq_self_eq_true,kn];by_cases c1:(p.Nodes.getD i du).Kind=1
   ·have e1:((p.Nodes.getD i du).Kind==1)=true:=by simpa using c1
    rw[e1,kn,if_pos c1];by_cases c2:QQ l x.rect (p.Nodes.getD i du).At=0
    ·rw[c2];simp[qU (n:=(i:Int)+1) (by omega)]
    ·have e2:(QQ l x.rect (p.Nodes.getD i du).At !=0)=true:=by simpa using c2
     rw[e2,if_pos c2];rfl
   ·have e1:((p.Nodes.getD i du).Kind==1)=false:=by simpa using c1
    rw[e1,kp,if_neg c1];simp[qU (n:=(i:Int)+1) (by omega)]
  ·have e1:(chkN (λ_ _=>0) (p.Nodes.getD i du) x==0)=false:=by simpa using c
   have e2:(chkN (λ_ _=>0) (p.Nodes.getD i du) x !=0)=true:=by simpa using c
   rw[e1,kp,kp,e2,kn,if_pos c,if_pos c]
theorem qMS (p:Pattern):qJv (λi x s=>jH i x p s.1 s.2) XD p.Nodes:=by
 intro i x s hw hi;simp only;unfold jH ZY ZX;by_cases h:p.Nodes.length<=i
 ·rw[ka (by simp;omega),if_pos h];rfl
 ·rw[ke (by simp;omega),if_neg h,kp,zJ (by omega),kn,ks,qDr,qLp XD];simp only[kg,any_eq];by_cases c:chkN (λ_ _=>0) (p.Nodes.getD i du) x=0
  ·rw[c];simp only[ne_eq,not_true_eq_false,if_false,beq_self_eq_true,kn];by_cases c1:(p.Nodes.getD i du).Kind=1
   ·have e1:((p.Nodes.getD i du).Kind==1)=true:=by simpa using c1
    rw[e1,kn,if_pos c1];by_cases c2:XD x.rect (p.Nodes.getD i du).At=0
    ·rw[c2];simp[qU (n:=(i:Int)+1) (by omega)]
    ·have e2:(XD x.rect (p.Nodes.getD i du).At !=0)=true:=by simpa using c2
     rw[e2,if_pos c2];rfl
   ·have e1:((p.Nodes.getD i du).Kind==1)=false:=by simpa using c1
    rw[e1,kp,if_neg c1];simp[qU (n:=(i:Int)+1) (by omega)]
  ·have e1:(chkN (λ_ _=>0) (p.Nodes.getD i du) x==0)=false:=by simpa using c
   have e2:(chkN (λ_ _=>0) (p.Nodes.getD i du) x !=0)=true:=by simpa using c
   rw[e1,kp,kp,e2,kn,if_pos c,if_pos c]
theorem qLg (p:Pattern) (l:List Product) (kerf:Int):PW p l kerf=some (YN (QQ l) p kerf):=by
 have k:∀b,JU p kerf l b=bif b then some 9 else JU p kerf l false:=λb=>by cases b<;>rfl
 unfold PW LL YN;rw[qG5];simp only[kg];by_cases hv:VR p.Frame
 ·rw[ka hv,if_neg (by simpa using hv)];simp only[kV,kp];by_cases h1:kerf<0
  ·rw[ka h1,if_pos (.inl h1)];rfl
  ·by_cases h2:kerf>20
   ·rw[ke h1,ka h2,if_pos (.inr h2)];rfl
   ·rw[ke h1,ke h2,if_neg (by omega),kp];unfold JU yT;rw[kp];by_cases h3:127<p.Nodes.length
    ·rw[ka (show(p.Nodes.length:Int)>127 by omega),if_pos h3];rfl
    ·rw[ke (show¬(p.Nodes.length:Int)>127 by omega),if_neg h3,kp];simp only[kg];rw[qMv _ _ _ _ _ _ (by omega)];have:=qLW (qMY p l) hv (kerf:=kerf) (by omega) (by omega);unfold finC at this;rw[this];rfl
 ·rw[ke hv,if_pos (by simpa using hv)];rfl
theorem qIH (p:Pattern) (kerf:Int):YB p kerf=some (YN XD p kerf):=by
 unfold YB YN;rw[qG5];simp only[kg];by_cases hv:VR p.Frame
 ·rw[ka hv,if_neg (by simpa using hv)];simp only[kV,kp];by_cases h1:kerf<0
  ·rw[ka h1,if_pos (.inl h1)];rfl
  ·by_cases h2:kerf>20
   ·rw[ke h1,ka h2,if_pos (.inr h2)];rfl
   ·rw[ke h1,ke h2,if_neg (by omega),kp];unfold PG yT;rw[kp];by_cases h3:127<p.Nodes.length
    ·rw[ka (show(p.Nodes.length:Int)>127 by omega),if_pos h3];rfl
    ·rw[ke (show¬(p.Nodes.length:Int)>127 by omega),if_neg h3,kp];simp only[kg];rw[qMo _ _ _ _ _ (by omega)];have:=qLW (qMS p) hv (kerf:=kerf) (by omega) (by omega);unfold finC at this;rw[this]
 ·rw[ke hv,if_pos (by simpa using hv)];rfl
theorem qHV {α:Type} {g:Node->qB->List α} (hg1:∀n x,(g n x).length<=1) {bd:Rect->Int->Int} {nodes:List Node} {f:Int->qB->List α->Option (Nat×List α)} {kerf:Int} (hn:nodes.length<=1000)
  (hf:∀(i:Nat) (x:qB) (s:List α),i<nodes.length->s.length<=1000->f (i:Int) x s=some (0,s++g (nodes.getD i du) x)):
  ∀(ns:List Node) (i:Nat) (st:List qB) (s:List α),nodes.drop i=ns->i<=nodes.length->s.length<=i->chkP bd kerf ns st=0->runP f kerf ns (i:Int) st s=some (0,s++allP g kerf ns st)
 |[],i,[],s,_,_,_,_=>by simp[runP,allP]
 |n::ns,i,[],s,_,_,_,h=>by simp[chkP] at h
 |[],i,x::st,s,_,_,_,h=>by simp[chkP] at h
 |n::ns,i,x::st,s,hd,hi,hs,h=>by
  have hil:i<nodes.length:=by
   rcases Nat.lt_or_ge i nodes.length with h|h
   ·exact h
   ·rw[uo h] at hd;cases hd
  have hgn:nodes.getD i du=n:=by
   have h0:=congrArg (λl=>l.getD 0 du) hd;simpa[kd] using h0
  have hd2:nodes.drop (i+1)=ns:=by
   have h0:=congrArg List.tail hd;simpa using h0
  have h':chkP bd kerf ns (pushP kerf n x st)=0:=by
   unfold chkP at h;split at h
   ·rename_i c;exact(c h).elim
   ·exact h
  show((f (i:Int) x s).bind λv=>bif Nat.beq v.1 0 then runP f kerf ns ((i:Int)+1) (pushP kerf n x st) v.2 else some v)=_;rw[hf i x s hil (by omega),hgn];have e:=qHV hg1 (bd:=bd) hn hf ns (i+1) (pushP kerf n x st) (s++g n x) hd2 hil (by have:=hg1 n x;simp;omega) h';show runP f kerf ns ((i:Int)+1) (pushP kerf n x st) (s++g n x)=_;rw[show((i:Int)+1)=((i+1:Nat):Int) by omega,e,kJ];rfl
theorem leafG1 (n:Node) (x:qB):(HH n x).length<=1:=by unfold HH;split<;>(try split)<;>simp
theorem cutG1 (kerf:Int) (n:Node) (x:qB):(cutG kerf n x).length<=1:=by unfold cutG;split<;>simp
theorem TI {bd:Rect->Int->Int} {p:Pattern} {kerf:Int}:YN bd p kerf=0↔VR p.Frame/\(0<=kerf/\kerf<=20)/\p.Nodes.length<=127/\chkP bd kerf p.Nodes [⟨p.Frame,1⟩]=0:=by
 unfold YN;by_cases hv:VR p.Frame
 ·rw[if_neg (by simpa using hv)];by_cases h1:kerf<0\/20<kerf
  ·rw[if_pos h1];constructor
   ·intro h;cases h
   ·rintro⟨_,h,_⟩;omega
  ·rw[if_neg h1];by_cases h3:127<p.Nodes.length
   ·rw[if_pos h3];constructor
    ·intro h;cases h
    ·rintro⟨_,_,h,_⟩;omega
   ·rw[if_neg h3];constructor
    ·intro h;exact⟨hv,by omega,by omega,h⟩
    ·rintro⟨_,_,_,h⟩;exact h
 ·rw[if_pos (by simpa using hv)];constructor
  ·intro h;cases h
  ·rintro⟨h,_⟩;exact(hv h).elim
def lvP (p:Pattern) (kerf:Int):List Leaf:=allP HH kerf p.Nodes [⟨p.Frame,1⟩]
def ctP (p:Pattern) (kerf:Int):List Rect:=allP (cutG kerf) kerf p.Nodes [⟨p.Frame,1⟩]
theorem qIr (p:Pattern) (kerf:Int):KK p kerf=some (if YN XD p kerf=0 then(lvP p kerf,0) else([],YN XD p kerf)):=by
 unfold KK;rw[qIH];simp only[kg];by_cases h:YN XD p kerf=0
 ·have hz:=TI.1 h;rw[if_pos h,h];unfold yT;simp only[ul,kp,kg];rw[qMw _ _ _ _ (by omega)];have e:=qHV leafG1 (bd:=XD) (kerf:=kerf) (nodes:=p.Nodes) (f:=λi x (s:List Leaf)=>yJ i x p s) (by omega) (by
   intro i x s hi hs;unfold yJ HH;rw[zJ (by omega),kn,ks,WI (by omega)];by_cases c0:(p.Nodes.getD i du).Kind=0
   ·have e0:((p.Nodes.getD i du).Kind==0)=true:=by simpa using c0
    rw[e0,if_pos c0];rfl
   ·have e0:((p.Nodes.getD i du).Kind==0)=false:=by simpa using c0
    rw[e0,if_neg c0,kp];by_cases c1:(p.Nodes.getD i du).Kind=1
    ·have e1:((p.Nodes.getD i du).Kind==1)=true:=by simpa using c1
     rw[e1,if_pos c1];rfl
    ·have e1:((p.Nodes.getD i du).Kind==1)=false:=by simpa using c1
     rw[e1,if_neg c1,kp,kU]) p.Nodes 0 [⟨p.Frame,1⟩] [] rfl (ua _) (ua _) hz.2.2.2
  rw[show(0:Int)=((0:Nat):Int) from rfl,e];rfl
 ·have h':(YN XD p kerf !=0)=true:=by simpa using h
  rw[if_neg h,h'];rfl
theorem Cuts_eq (p:Pattern) (kerf:Int):BI p kerf=some (if YN XD p kerf=0 then(ctP p kerf,0) else([],YN XD p kerf)):=by
 unfold BI;rw[qIH];simp only[kg];by_cases h:YN XD p kerf=0
 ·have hz:=TI.1 h;rw[if_pos h,h];unfold yT;simp only[ul,kp,kg];rw[qMF _ _ _ _ _ (by omega)];have e:=qHV (cutG1 kerf) (bd:=XD) (kerf:=kerf) (nodes:=p.Nodes) (f:=λi x (s:List Rect)=>QG i x p kerf s) (by omega) (by
   intro i x s hi hs;unfold QG cutG;rw[zJ (by omega),kn,ks,qFd,WI (by omega)];simp only[kg,qJO];cases c0:ripB (p.Nodes.getD i du).Kind
   ·simp
   ·simp) p.Nodes 0 [⟨p.Frame,1⟩] [] rfl (ua _) (ua _) hz.2.2.2
  rw[show(0:Int)=((0:Nat):Int) from rfl,e];rfl
 ·have h':(YN XD p kerf !=0)=true:=by simpa using h
  rw[if_neg h,h'];rfl
end Go.SL.Saw

namespace Go.SL.Saw
theorem qNH (s:qR) {A m B:Int} (y:Span) (h1:A<=m) (h2:m<=B):wP s ⟨A,m⟩ y+wP s ⟨m,B⟩ y=wP s ⟨A,B⟩ y:=by
 unfold wP;rw[<-qKT];refine qGi (λr _ _=>?_);rw[<-qJK (row s r) h1 h2,uC]
theorem qNB (s:qR) {A m B:Int} (x:Span) (h1:A<=m) (h2:m<=B):wP s x ⟨A,m⟩+wP s x ⟨m,B⟩=wP s x ⟨A,B⟩:=by
 unfold wP;rw[<-qKT];refine qGi (λr _ _=>?_);rw[<-qJK (hgt r) h1 h2,uD]
theorem qKI (l:List qG) {A m B:Int} (y z:Span) (h1:A<=m) (h2:m<=B):volS l ⟨A,m⟩ y z+volS l ⟨m,B⟩ y z=volS l ⟨A,B⟩ y z:=by
 unfold volS;rw[<-qCl];refine GB (λi _=>?_);rw[<-qNH _ y h1 h2,uD]
theorem qJD (l:List qG) {A m B:Int} (x z:Span) (h1:A<=m) (h2:m<=B):volS l x ⟨A,m⟩ z+volS l x ⟨m,B⟩ z=volS l x ⟨A,B⟩ z:=by
 unfold volS;rw[<-qCl];refine GB (λi _=>?_);rw[<-qNB _ x h1 h2,uD]
theorem qGe (l:List qG) {A m B:Int} (x y:Span) (h1:A<=m) (h2:m<=B):volS l x y ⟨A,m⟩+volS l x y ⟨m,B⟩=volS l x y ⟨A,B⟩:=by
 unfold volS;rw[<-qCl];refine GB (λi _=>?_);rw[<-qJK (ext l i) h1 h2,uC]
theorem EK (l:List qG) (x y z:Span):0<=volS l x y z:=by
 unfold volS;have:=qHO (n:=l.length) (f:=λ_=>0) (g:=λi=>ml (ext l i) z*wP (l.getD i du).Sec x y) (λi _=>kO (qB9 _ _) (qAz _ _ _));rw[AC (λ_ _=>rfl)] at this;exact this
theorem qOh (l:List qG) (x y:Span) {A B:Int} (h:B<=A):volS l x y ⟨A,B⟩=0:=by
 unfold volS;refine AC (λi _=>?_);have:ml (ext l i) ⟨A,B⟩=0:=by
  rw[qJC];have a1:=imin_or (ext l i).B B;have a2:=GR (ext l i).A A;simp only;split<;>omega
 rw[this,Int.zero_mul]
theorem qOs (l:List qG) (x y:Span) {A B C D:Int} (h1:C<=A) (h2:B<=D):volS l x y ⟨A,B⟩<=volS l x y ⟨C,D⟩:=by
 by_cases h:A<=B
 ·have e1:=qGe l x y h1 h;have e2:=qGe l x y (show C<=B by omega) h2;have:=EK l x y ⟨C,A⟩;have:=EK l x y ⟨B,D⟩;omega
 ·rw[qOh l x y (by omega)];exact EK _ _ _ _
def yZ (l:List qG) (r:Rect):Int:=volS l r.X r.Y ⟨0,qY l⟩
theorem qND (l:List qG):AddR (yZ l):=⟨λy h1 h2=>qKI l y _ h1 h2,λx h1 h2=>qJD l x _ h1 h2⟩
theorem qKs (l:List qG) (r:Rect):0<=yZ l r:=EK _ _ _ _
def volT (l:List qG):Int:=sumN l.length (λi=>(l.getD i du).Len*NG (l.getD i du).Sec)
theorem qOz {l:List qG} (h:VSol l) (r:Rect):yZ l r<=volT l:=by
 unfold yZ volS volT;refine qHO (λi hi=>?_);have hlen:=qLx h hi;have h1:=qJp (ext l i) ⟨0,qY l⟩;rw[hlen] at h1;have h2:=qC5 (l.getD i du).Sec r.X r.Y;have h3:=qAz (l.getD i du).Sec r.X r.Y;have h4:=qB9 (ext l i) ⟨0,qY l⟩;have h5:=(h.at hi).2.2.1;exact gh h1 h2 h3 (by omega)
theorem Area_eq (s:qR):BQ s=some (NG (SZ s)):=by
 have h:=qJ3 s;unfold BQ;rw[qKf s];simp only[kg];generalize SZ s=t at*;have b:=h.len;have k1:=VB t.Rows (λn (a:Int) x=>YY t n a x) (λx=>(x:Int)) (λ_ a s=>s+lenS a) (λs=>s) (λx s=>0<=s/\s<=1200*(x:Int)) (by omega)
  (λn x a hx hi=>by
   have l:=h.len_b hx;refine⟨?_,by omega⟩;rw[YY,ka (show(x:Int)<_ by omega),zJ (by omega),zN (by omega)];simp only[kn,ks];rw[FY (by omega)];simp only[kg];rw[qU (by omega)])
  (λn a _=>by rw[YY];simp) (i:=0) rfl 0 (by omega)
 rw[qAP (λ_ a=>lenS a)] at k1;have e:=qJU h (λ_ a=>lenS a) (λ_=>rfl);rw[e,uI] at k1;rw[k1.1];simp only[kg];unfold NG;have:=k1.2;rw[qU (by omega)]
theorem qAh {l:List qG} (h:VSol l):∀{k:Nat},k<=l.length->0<=sumN k (λi=>(l.getD i du).Len*NG (l.getD i du).Sec)/\sumN k (λi=>(l.getD i du).Len*NG (l.getD i du).Sec)<=1440000*wD l k
 |0,_=>by simp[sumN,wD]
 |k+1,hk=>by
  have ih:=qAh h (k:=k) (by omega);have a:=qKa (h.at (i:=k) (by omega)).1;have b:=(h.at (i:=k) (by omega)).2.2.1;have c:=uP a.2 (show 0<=(l.getD k du).Len by omega);have d:=kO (show 0<=(l.getD k du).Len by omega) a.1;rw[jD];show 0<=sumN k _+_/\sumN k _+_<=_;simp only at ih⊢;rw[uD];constructor<;>omega
theorem qNA {l:List qG} (h:VSol l):0<=volT l/\volT l<=28800000000:=by
 have:=qAh h (kf _);have b:=(h.bd (kf _)).2;unfold volT;have:(1440000:Int)*wD l l.length<=1440000*20000:=uP b (by omega);omega
theorem qIh {l:List qG} (h:VSol l):TU l=some (volT l):=by
 have hl:=h.len;unfold TU;rw[qHG,OB h];simp only[kg];have k1:=VB l (λn (a:Int) x=>YZ l n a x) (λx=>(x:Int)) (λ_ a s=>s+a.Len*NG a.Sec) (λs=>s) (λx s=>s=sumN x (λi=>(l.getD i du).Len*NG (l.getD i du).Sec)) (by omega)
  (λn x a hx hi=>by
   have p:=qAh h (k:=x) (by omega);have p':=qAh h (k:=x+1) (by omega);have b1:=(h.bd (i:=x) (by omega)).2;have b2:=(h.bd (i:=x+1) (by omega)).2;have vs:=(h.at hx).1;have ar:=qKa vs;have ln:=(h.at hx).2.2.1;have l2:(l.getD x du).Len<=20000:=by have:=jD l x;have:=(h.bd (i:=x) (by omega)).1;omega
   have pr:=gh l2 ar.2 ar.1 (by omega);have pn:=kO (show 0<=(l.getD x du).Len by omega) ar.1;refine⟨?_,by rw[hi];rfl⟩;rw[YZ,ka (show(x:Int)<_ by omega),zJ (by omega),zN (by omega)];simp only[kn,ks,Area_eq,kg];rw[qFx vs];rw[qU (n:=(l.getD x du).Len*NG (l.getD x du).Sec) (by omega),qU (by omega)])
  (λn a _=>by rw[YZ];simp) (i:=0) rfl 0 rfl
 rw[k1.1,qAP (λ_ (a:qG)=>a.Len*NG a.Sec),uI];simp only[kg,kv];rfl
end Go.SL.Saw

namespace Go.SL.Saw
theorem qMf {p:Product} (h:VP p):5<=(yS p).1/\(yS p).1<=721/\5<=(yS p).2/\(yS p).2<=600:=by
 have b:=qN5 p;have g:=h.gr;have t:=h.th;have w:=h.wd;have a:=h.al;have e:okG p=true:=qHZ.2 ⟨by omega,by omega,a⟩;have g1:=OA (n:=p.Thick) (a:=p.Allow) (by omega) (by omega) a.1 a.2;have g2:=OA (n:=p.Width) (a:=p.Allow) (by omega) (by omega) a.1 a.2;have eg:yS p=(qAr p.Thick p.Allow,qAr p.Width p.Allow):=by unfold yS;rw[e];rfl
 rw[eg] at b g⊢;simp only at b g⊢;omega
noncomputable def chkY (s:List qG) (d:List qJ) (p:List Product) (pt:Pattern) (w:Saw) (t:Rates):Int:=
 if LG s≠0 then LG s else if LK d≠0 then LK d else if ZL p≠0 then ZL p else if qCw w t≠0 then qCw w t else YN (QQ p) pt w.Kerf
structure VY (s:List qG) (d:List qJ) (p:List Product) (pt:Pattern) (w:Saw) (t:Rates):Prop where
 sol:VSol s
 df:LK d=0
 pr:ZL p=0
 vw:VW w t
 pat:YN (QQ p) pt w.Kerf=0
theorem qAx (s:List qG) (d:List qJ) (p:List Product) (pt:Pattern) (w:Saw) (t:Rates):GQ s d p pt w t=some (chkY s d p pt w t):=by
 unfold GQ chkY;simp only[(qCe s).1,qJ4,qJY,qOg,qLg,kg];have k:∀(n:Int) (a b:Option Int),(bif n !=0 then a else b)=if n≠0 then a else b:=by
  intro n a b;by_cases h:n=0
  ·rw[h];rfl
  ·have:(n !=0)=true:=by simpa using h
   rw[this,if_pos h];rfl
 simp only[k];split
 ·rfl
 ·split
  ·rfl
  ·split
   ·rfl
   ·split<;>rfl
theorem EF {s:List qG} {d:List qJ} {p:List Product} {pt:Pattern} {w:Saw} {t:Rates}:chkY s d p pt w t=0↔VY s d p pt w t:=by
 unfold chkY;constructor
 ·intro h;split at h
  ·rename_i c;exact(c h).elim
  ·rename_i c1;split at h
   ·rename_i c;exact(c h).elim
   ·rename_i c2;split at h
    ·rename_i c;exact(c h).elim
    ·rename_i c3;split at h
     ·rename_i c;exact(c h).elim
     ·rename_i c4;exact⟨(HG s).1 (by simpa using c1),by simpa using c2,by simpa using c3,(qCA w t).1 (by simpa using c4),h⟩
 ·rintro⟨h1,h2,h3,h4,h5⟩;rw[if_neg (by simpa using(HG s).2 h1),if_neg (by simpa using h2),if_neg (by simpa using h3),if_neg (by simpa using(qCA w t).2 h4),h5]
variable {s :List qG} {d:List qJ} {p:List Product} {pt:Pattern} {w:Saw} {t:Rates}
theorem bd_any {p:List Product} (h:ZL p=0) (r:Rect) (a:Int) (hb:QQ p r a=0):XD r a=0:=by
 have hl:=qIm (l:=p) (by simpa using h);unfold QQ at hb;unfold XD;split at hb
 ·cases hb
 ·rw[if_neg (by omega)]
theorem VY.any (h:VY s d p pt w t):YN XD pt w.Kerf=0:=by
 have hz:=TI.1 h.pat;obtain⟨T,e1,e2⟩:=qKZ hz.2.2.2;rw[TI];refine⟨hz.1,hz.2.1,hz.2.2.1,?_⟩;rw[e1];exact chkP_of (qFy (bd_any h.pr) e2)
theorem VY.tree (h:VY s d p pt w t):∃T,pt.Nodes=wO T/\okT (QQ p) w.Kerf T ⟨pt.Frame,1⟩/\lvP pt w.Kerf=lvT w.Kerf T ⟨pt.Frame,1⟩/\ctP pt w.Kerf=ctT w.Kerf T ⟨pt.Frame,1⟩:=by
 have hz:=TI.1 h.pat;obtain⟨T,e1,e2⟩:=qKZ hz.2.2.2;refine⟨T,e1,e2,?_,?_⟩
 ·unfold lvP lvT;rw[e1,qKq HH w.Kerf _ (qAq e2)]
 ·unfold ctP ctT;rw[e1,qKq (cutG w.Kerf) w.Kerf _ (qAq e2)]
theorem VY.parts (h:VY s d p pt w t):Parts (QQ p) pt.Frame (lvP pt w.Kerf) (ctP pt w.Kerf) 127:=by
 have hz:=TI.1 h.pat;obtain⟨T,e1,e2,e3,e4⟩:=h.tree;have q:=qHm hz.2.1 T _ e2 (VR_WR hz.1);rw[e3,e4];have hl:(wO T).length<=127:=by rw[<-e1];exact hz.2.2.1
 exact⟨q.wl,q.wc,q.ap,by have:=q.ll;omega,by have:=q.lc;omega,q.sum⟩
def bdOf (s:List qG) (d:List qJ) (p:List Product) (step fine:Int) (i:Nat) (x:Leaf):List qI:=
 if x.Product= -1 then[] else
  bif (bestR s d (p.getD x.Product.toNat du) x.Rect step fine).2.1 then[⟨(i:Int),x.Product,⟨x.Rect.X,x.Rect.Y,(bestR s d (p.getD x.Product.toNat du) x.Rect step fine).2.2⟩,(bestR s d (p.getD x.Product.toNat du) x.Rect step fine).1⟩] else[]
def bdsFrom (s:List qG) (d:List qJ) (p:List Product) (step fine:Int):Nat->List Leaf->List qI
 |_,[]=>[]
 |i,x::l=>bdOf s d p step fine i x++bdsFrom s d p step fine (i+1) l
theorem qOt (step fine:Int) (i:Nat) (x:Leaf):(bdOf s d p step fine i x).length<=1:=by
 unfold bdOf;split
 ·simp
 ·cases (bestR s d (p.getD x.Product.toNat du) x.Rect step fine).2.1<;>simp
theorem qEO (step fine:Int):∀(l:List Leaf) (i:Nat),(bdsFrom s d p step fine i l).length<=l.length
 |[],_=>kf _
 |x::l,i=>by
  have:=qEO step fine l (i+1);have:=qOt (s:=s) (d:=d) (p:=p) step fine i x;simp[bdsFrom];omega
structure qD3 (p:List Product) (x:Leaf):Prop where
 w:WR x.Rect
 b:x.Product= -1\/QQ p x.Rect x.Product=0
theorem qEd {x:Leaf} (hp:ZL p=0) (h:qD3 p x) (hx:x.Product≠-1):0<=x.Product/\x.Product<(p.length:Int)/\VP (p.getD x.Product.toNat du)/\ZL [p.getD x.Product.toNat du]=0/\VR x.Rect/\dimOk x.Rect (p.getD x.Product.toNat du)=true:=by
 have hb:=h.b.resolve_left hx;unfold QQ at hb;split at hb
 ·cases hb
 ·rename_i c;have hd:dimOk x.Rect (p.getD x.Product.toNat du)=true:=by
   cases hh:dimOk x.Rect (p.getD x.Product.toNat du) with
   |true=>rfl
   |false=>rw[hh] at hb;cases hb
  have hi:x.Product.toNat<p.length:=by omega
  have hv:=qJA hp hi;refine⟨by omega,by omega,hv,qML hp hi,?_,hd⟩;have g:=qMf hv;obtain⟨⟨x1,x2,x3⟩,y1,y2,y3⟩:=h.w;unfold dimOk at hd;simp only[gb,ko,beq_iff_eq] at hd;refine⟨⟨x1,?_,x3⟩,y1,?_,y3⟩<;>omega
theorem qMK (hs:VSol s) (hd:LK d=0) (hp:ZL p=0) (hw:1<=w.Step/\w.Step<=20000) {fine:Int} (hf:0<=fine/\fine<=1000000) {lv:List Leaf} (hl:lv.length<=1000) (hg:∀x∈lv,qD3 p x):
  JL s d p w fine lv []=some (0,bdsFrom s d p w.Step fine 0 lv):=by
 have key:∀(k i n:Nat) (acc:List qI),i+k=lv.length->k<n->acc.length<=i->zX s d p w fine lv n (i:Int) acc=some (.inr (acc++bdsFrom s d p w.Step fine i (lv.drop i))):=by
  intro k
  induction k with
  |zero=>
   intro i n acc hi hn _;obtain⟨n,rfl⟩:∃m,n=m+1:=⟨n-1,by omega⟩
   unfold zX;rw[ke (by omega),uo (by omega)];simp[bdsFrom]
  |succ k ih=>
   intro i n acc hi hn ha;obtain⟨n,rfl⟩:∃m,n=m+1:=⟨n-1,by omega⟩
   have hil:i<lv.length:=by omega
   unfold zX;rw[ka (by omega),zJ (by omega),qAK lv i hil];have hx:=hg _ (KD hil);unfold YL;rw[zN (by omega)];simp only[kn,ks,bdsFrom];unfold bdOf;by_cases c:(lv.getD i du).Product= -1
   ·have e:((lv.getD i du).Product != -1)=false:=by simpa using c
    rw[e,if_pos c,kp,ih (i+1) n acc (by omega) (by omega) (by omega)];rfl
   ·have e:((lv.getD i du).Product != -1)=true:=by simpa using c
    obtain⟨g1,g2,g3,g4,g5,_⟩:=qEd hp hx c;rw[e,if_neg c,kn];unfold TA RM;rw[qGd g1 g2,kn,qKR hs hd g4 g3 g5 hw hf];simp only[kg];rw[WI (by omega)];cases hb:(bestR s d (p.getD (lv.getD i du).Product.toNat du) (lv.getD i du).Rect w.Step fine).2.1 with
    |false=>
     simp only[kp,kg];show zX s d p w fine lv n ((i+1:Nat):Int) acc=_;rw[ih (i+1) n acc (by omega) (by omega) (by omega)];rfl
    |true=>
     simp only[kn,kg];show zX s d p w fine lv n ((i+1:Nat):Int) _=_;rw[ih (i+1) n _ (by omega) (by omega) (by simp;omega)];simp
 unfold JL;have e:=key lv.length 0 FUEL [] (by omega) (by rw[yU];omega) (kf _);rw[show(0:Int)=((0:Nat):Int) from rfl,e];simp
def bds (s:List qG) (d:List qJ) (p:List Product) (pt:Pattern) (w:Saw) (fine:Int):List qI:=bdsFrom s d p w.Step fine 0 (lvP pt w.Kerf)
theorem VW.fine0 (h:VW w t):VW w ⟨0,0,t.Fine⟩:=⟨h.kerf,h.trim,h.pitch,h.step,by simp,by simp,h.fine⟩
theorem qLT (h:VY s d p pt w t):∀x∈lvP pt w.Kerf,qD3 p x:=λx hx=>⟨(h.parts.wl x hx).1,(h.parts.wl x hx).2.2⟩
theorem qIn (h:VY s d p pt w t):UQ s d p pt w t.Fine=some (bds s d p pt w t.Fine,0):=by
 have hv:VY s d p pt w ⟨0,0,t.Fine⟩:=⟨h.sol,h.df,h.pr,h.vw.fine0,h.pat⟩
 unfold UQ;rw[qAx,EF.2 hv,qIr,if_pos h.any];simp only[kg,ul,kp];unfold TS;simp only[kg];rw[qMK h.sol h.df h.pr h.vw.step h.vw.fine (by have:=h.parts.ll;omega) (qLT h)];rfl
end Go.SL.Saw

namespace Go.SL.Saw
variable {s :List qG} {d:List qJ} {p:List Product} {pt:Pattern} {w:Saw} {t:Rates}
def ES (z:Span) (trim:Int):Span:=⟨imax 0 (z.A-trim),z.A⟩
def qAB (z:Span) (trim len:Int):Span:=⟨z.B,imin (z.B+trim) len⟩
def brdV (s:List qG) (c:qI):Int:=volS s c.Box.X c.Box.Y c.Box.Z
def trmV (s:List qG) (trim:Int) (c:qI):Int:=volS s c.Box.X c.Box.Y (ES c.Box.Z trim)+volS s c.Box.X c.Box.Y (qAB c.Box.Z trim (qY s))
structure LH (s:List qG) (c:qI):Prop where
 z:0<=c.Box.Z.A/\c.Box.Z.A<c.Box.Z.B/\c.Box.Z.B<=qY s
 wth:0<=c.Worth/\c.Worth<=1000000
theorem qNP (hp:ZL p=0) {step fine:Int} (hf:0<=fine) {i:Nat} {x:Leaf} (hx:qD3 p x) {c:qI} (h:c∈bdOf s d p step fine i x):LH s c/\c.Leaf=(i:Int)/\c.Box.X=x.Rect.X/\c.Box.Y=x.Rect.Y/\c.Product=x.Product/\x.Product≠-1:=by
 unfold bdOf at h;split at h
 ·exact(ut h).elim
 ·rename_i c0;obtain⟨_,_,g3,_,_,_⟩:=qEd hp hx c0;have bi:=qJ0 (l:=s) (ds:=d) (p:=p.getD x.Product.toNat du) (r:=x.Rect) (step:=step) (fine:=fine) hf g3;cases hb:(bestR s d (p.getD x.Product.toNat du) x.Rect step fine).2.1 with
  |false=>rw[hb,kp] at h;exact(ut h).elim
  |true=>
   rw[hb,kn] at h;simp at h;subst h;exact⟨⟨bi.2.2 hb,bi.1,bi.2.1⟩,rfl,rfl,rfl,rfl,c0⟩
theorem qLN (hp:ZL p=0) {step fine:Int} (hf:0<=fine):∀{lv:List Leaf} {i:Nat},(∀x∈lv,qD3 p x)->∀c∈bdsFrom s d p step fine i lv,LH s c/\(i:Int)<=c.Leaf/\∃x∈lv,c.Box.X=x.Rect.X/\c.Box.Y=x.Rect.Y/\c.Product=x.Product/\x.Product≠-1
 |[],_,_,c,hc=>(ut hc).elim
 |x::l,i,hg,c,hc=>by
  rcases uy.1 hc with hc|hc
  ·obtain⟨a,b,e⟩:=qNP hp hf (hg x kI) hc;exact⟨a,by omega,x,kI,e⟩
  ·obtain⟨a,b,y,hy,e⟩:=qLN hp hf (λy hy=>hg y (kH _ hy)) c hc;exact⟨a,by omega,y,kH _ hy,e⟩
def wE (s:List qG) (ct:List Rect):Int:=sumL (yZ s) ct
theorem IF {α:Type} (F:α->Int):∀(l:List α) (x:Nat) (s:Int),DB (λ_ a s=>s+F a) x l s=s+sumL F l
 |[],_,s=>by simp[DB,sumL]
 |a::l,x,s=>by
  show DB _ (x+1) l (s+F a)=_;rw[IF F l (x+1) (s+F a),yV];omega
theorem qDQ {α:Type} (F G H:α->Int):∀(l:List α) (x:Nat) (s:Int×Int×Int),DB (λ_ a s=>(s.1+F a,s.2.1+G a,s.2.2+H a)) x l s=(s.1+sumL F l,s.2.1+sumL G l,s.2.2+sumL H l)
 |[],_,s=>by simp[DB,sumL]
 |a::l,x,s=>by
  show DB _ (x+1) l (s.1+F a,s.2.1+G a,s.2.2+H a)=_;rw[qDQ F G H l (x+1) _,yV,yV,yV];simp only[Int.add_assoc]
theorem qHW (h:VSol s) (r:Rect):0<=yZ s r/\yZ s r<=28800000000:=qCy h _ _ _
theorem qOk (hs:VSol s) {ct:List Rect} (hl:ct.length<=1000) (e v:Int):TN s (ct,e) (qY s) v FUEL 0 0=some ⟨v,0,0,wE s ct,0⟩/\0<=wE s ct/\wE s ct<=28800000000*ct.length:=by
 have k1:=VB ct (λn (a:Int) x=>TN s (ct,e) (qY s) v n x a) (λx=>(x:Int)) (λ_ a s'=>s'+yZ s a) (λq=>(⟨v,0,0,q,0⟩:zM)) (λx q=>0<=q/\q<=28800000000*(x:Int)) (by omega)
  (λn x a hx hi=>by
   have b:=qHW hs (ct.getD x du);refine⟨?_,by omega⟩;rw[TN,ka (show(x:Int)<_ by simp only;omega),qGd (by omega) (by simp only;omega),zN (by omega)];unfold RM;simp only[kn,ks,kg,OW hs];unfold yZ at*;rw[qU (by omega)])
  (λn a _=>by rw[TN];simp) (i:=0) rfl 0 (by omega)
 rw[IF (yZ s),uI] at k1;exact⟨k1.1,k1.2⟩
theorem qOl (hs:VSol s) (ht:0<=w.Trim/\w.Trim<=20) {b:List qI} (hl:b.length<=1000) (hg:∀c∈b,LH s c) (e v dd:Int) (hd:0<=dd/\dd<=28800000000*1000):
  TH s w (b,e) (qY s) ⟨v,0,0,dd,0⟩ FUEL 0 0 dd 0=some ⟨v,sumL (brdV s) b,0,dd+sumL (trmV s w.Trim) b,sumL (λc=>1000000*c.Worth) b⟩
   /\(0<=sumL (brdV s) b/\sumL (brdV s) b<=28800000000*b.length)/\(0<=sumL (trmV s w.Trim) b/\sumL (trmV s w.Trim) b<=57600000000*b.length)/\(0<=sumL (λc:qI=>1000000*c.Worth) b/\sumL (λc:qI=>1000000*c.Worth) b<=1000000000000*b.length):=by
 have sl:=qFf hs;have k1:=VB b (λn (q:Int×Int×Int) x=>TH s w (b,e) (qY s) ⟨v,0,0,dd,0⟩ n x q.1 q.2.1 q.2.2) (λx=>(x:Int)) (λ_ a q=>(q.1+brdV s a,q.2.1+trmV s w.Trim a,q.2.2+1000000*a.Worth)) (λq=>(⟨v,q.1,0,q.2.1,q.2.2⟩:zM))
  (λx q=>(0<=q.1/\q.1<=28800000000*(x:Int))/\(dd<=q.2.1/\q.2.1<=dd+57600000000*(x:Int))/\(0<=q.2.2/\q.2.2<=1000000000000*(x:Int))) (by omega)
  (λn x q hx hi=>by
   have b1:=qCy hs (b.getD x du).Box.X (b.getD x du).Box.Y (b.getD x du).Box.Z;have b2:=qCy hs (b.getD x du).Box.X (b.getD x du).Box.Y (ES (b.getD x du).Box.Z w.Trim);have b3:=qCy hs (b.getD x du).Box.X (b.getD x du).Box.Y (qAB (b.getD x du).Box.Z w.Trim (qY s));have g:=hg _ (KD hx);obtain⟨z1,z2,z3⟩:=g.z;have gw:=g.wth;have eb:brdV s (b.getD x du)=volS s (b.getD x du).Box.X (b.getD x du).Box.Y (b.getD x du).Box.Z:=rfl
   have et:trmV s w.Trim (b.getD x du)=volS s (b.getD x du).Box.X (b.getD x du).Box.Y (ES (b.getD x du).Box.Z w.Trim)+volS s (b.getD x du).Box.X (b.getD x du).Box.Y (qAB (b.getD x du).Box.Z w.Trim (qY s)):=rfl;refine⟨?_,by simp only;rw[eb,et];omega⟩;simp only;rw[TH,ka (show(x:Int)<_ by simp only;omega),qGd (by omega) (by simp only;omega),zN (by omega)];unfold RM;simp only[kn,ks,kg,OW hs];rw[qU (n:=(b.getD x du).Box.Z.A-w.Trim) (by omega),qU (n:=(b.getD x du).Box.Z.B+w.Trim) (by omega)];rw[eb,et];unfold ES qAB at*
   rw[qU (n:=1000000*(b.getD x du).Worth) (by omega),qU (n:=q.1+_) (by omega),qU (n:=q.2.1+_) (by omega),qU (n:=q.2.1+_+_) (by omega),qU (n:=q.2.2+_) (by omega),Int.add_assoc])
  (λn q _=>by rw[TH];simp) (i:=0) rfl (0,dd,0) (by simp only;omega)
 rw[qDQ (brdV s) (trmV s w.Trim) (λc=>1000000*c.Worth)] at k1;simp only[uI] at k1;exact⟨k1.1,k1.2.1,by have:=k1.2.2.1;omega,k1.2.2.2⟩
def yB (s:List qG) (d:List qJ) (p:List Product) (pt:Pattern) (w:Saw) (fine:Int):Int:=sumL (brdV s) (bds s d p pt w fine)
def yD (s:List qG) (d:List qJ) (p:List Product) (pt:Pattern) (w:Saw) (fine:Int):Int:=wE s (ctP pt w.Kerf)+sumL (trmV s w.Trim) (bds s d p pt w fine)
def yW (s:List qG) (d:List qJ) (p:List Product) (pt:Pattern) (w:Saw) (fine:Int):Int:=sumL (λc:qI=>1000000*c.Worth) (bds s d p pt w fine)
def yC (s:List qG) (d:List qJ) (p:List Product) (pt:Pattern) (w:Saw) (fine:Int):Int:=volT s-yB s d p pt w fine-yD s d p pt w fine
def qKA (s:List qG) (d:List qJ) (p:List Product) (pt:Pattern) (w:Saw) (t:Rates):zM:=
 ⟨volT s,yB s d p pt w t.Fine,yC s d p pt w t.Fine,yD s d p pt w t.Fine,yW s d p pt w t.Fine+(t.Chip*yC s d p pt w t.Fine+t.Dust*yD s d p pt w t.Fine)⟩
theorem bds_len (h:VY s d p pt w t) (fine:Int):(bds s d p pt w fine).length<=127:=by
 have:=qEO (s:=s) (d:=d) (p:=p) w.Step fine (lvP pt w.Kerf) 0;have:=h.parts.ll;unfold bds;omega
theorem qNN (h:VY s d p pt w t):∀c∈bds s d p pt w t.Fine,LH s c:=λc hc=>(qLN h.pr h.vw.fine.1 (qLT h) c hc).1
structure YBnd (s:List qG) (d:List qJ) (p:List Product) (pt:Pattern) (w:Saw) (fine:Int):Prop where
 nB:0<=yB s d p pt w fine/\yB s d p pt w fine<=28800000000*127
 nD:0<=yD s d p pt w fine/\yD s d p pt w fine<=28800000000*127+57600000000*127
 nW:0<=yW s d p pt w fine/\yW s d p pt w fine<=1000000000000*127
theorem Of_ok (h:VY s d p pt w t):BN s d p pt w t=some (qKA s d p pt w t,0)/\YBnd s d p pt w t.Fine:=by
 have lb:=bds_len h t.Fine;have lc:=h.parts.lc;have ev:valL s=s:=OB h.sol;obtain⟨e1,c1,c2⟩:=qOk h.sol (ct:=ctP pt w.Kerf) (by omega) 0 (volT s);obtain⟨e2,b1,b2,b3⟩:=qOl (w:=w) h.sol h.vw.trim (b:=bds s d p pt w t.Fine) (by omega) (qNN h) 0 (volT s) (wE s (ctP pt w.Kerf)) (by omega);have bd:YBnd s d p pt w t.Fine:=⟨by unfold yB;omega,by unfold yD;omega,by unfold yW;omega⟩
 refine⟨?_,bd⟩;unfold BN;rw[qAx,EF.2 h,qIn h,Cuts_eq,if_pos h.any,(qDz s).1,ev,qIh h.sol];simp only[kg,ul,kp,e1,e2];have bv:=qNA h.sol;have bb:=bd.nB;have b4:=bd.nD;have b5:=bd.nW;have eC:w64 (w64 (volT s-sumL (brdV s) (bds s d p pt w t.Fine))-(wE s (ctP pt w.Kerf)+sumL (trmV s w.Trim) (bds s d p pt w t.Fine)))=yC s d p pt w t.Fine:=by
  unfold yC yB yD at*;rw[qU (n:=volT s-_) (by omega),qU (by omega)]
 rw[eC];have hC: -28800000000*1000<=yC s d p pt w t.Fine/\yC s d p pt w t.Fine<=28800000000*1000:=by unfold yC;omega
 have m1:=MG (a:=t.Chip) (b:=yC s d p pt w t.Fine) (m:=1000) (n:=28800000000*1000) (by have:=h.vw.chip;omega) (by have:=h.vw.chip;omega) (by omega) hC.2 (by omega) (by omega);have m2:=MG (a:=t.Dust) (b:=yD s d p pt w t.Fine) (m:=1000) (n:=28800000000*1000) (by have:=h.vw.dust;omega) (by have:=h.vw.dust;omega) (by omega) (by omega) (by omega) (by omega);show some ((⟨volT s,yB s d p pt w t.Fine,_,yD s d p pt w t.Fine,w64 (yW s d p pt w t.Fine+w64 (w64 (t.Chip*yC s d p pt w t.Fine)+w64 (t.Dust*yD s d p pt w t.Fine)))⟩:zM),(0:Int))=_
 rw[qU (n:=t.Chip*_) (by omega),qU (n:=t.Dust*_) (by omega),qU (n:=t.Chip*_+_) (by omega),qU (by omega)];rfl
theorem Of_err (h:¬VY s d p pt w t):BN s d p pt w t=some (⟨0,0,0,0,0⟩,chkY s d p pt w t)/\chkY s d p pt w t≠0:=by
 have hc:¬chkY s d p pt w t=0:=λe=>h (EF.1 e);refine⟨?_,hc⟩;unfold BN;rw[qAx];have:(chkY s d p pt w t !=0)=true:=by simpa using hc
 simp only[kg,this,kn]
end Go.SL.Saw

namespace Go.SL.Saw
theorem qD4 {σ β:Type} (N:Nat) (L:Nat->σ->Int->Option β) (hN:N<=1000000000)
  (h0:∀n i s,i<N->(∃b,L (n+1) s (i:Int)=some b)\/∃s',L (n+1) s (i:Int)=L n s' ((i+1:Nat):Int))
  (h1:∀n s,∃b,L (n+1) s (N:Int)=some b) (s:σ):∃b,L FUEL s 0=some b:=by
 have key:∀(k i n:Nat) (s:σ),i+k=N->k<n->∃b,L n s (i:Int)=some b:=by
  intro k
  induction k with
  |zero=>
   intro i n s hi hn;obtain⟨n,rfl⟩:∃m,n=m+1:=⟨n-1,by omega⟩
   have:i=N:=by omega
   subst this;exact h1 n s
  |succ k ih=>
   intro i n s hi hn;obtain⟨n,rfl⟩:∃m,n=m+1:=⟨n-1,by omega⟩
   rcases h0 n i s (by omega) with h|⟨s',h⟩
   ·exact h
   ·rw[h];exact ih (i+1) n s' (by omega) (by omega)
 exact key N 0 FUEL s (by omega) (by rw[yU];omega)
theorem qLo (a:qQ) (h1:a.Solid.length<=1000000) (h2:a.Products.length<=1000000):∃b,NH a=some b:=by
 obtain⟨u1,e1⟩:=qD4 (min a.Solid.length 30) (λn (s:Int) x=>WX a n s x) (by omega) (λn i s hi=>by
   right;refine⟨imin 20000 (w64 (s+(imax 0 (imin 20000 ((a.Solid.getD i du).Len))))),?_⟩;rw[WX,ka (by omega),ka (by omega)];unfold GJ;rw[zJ (by omega),zN (by omega)];rfl) (λn s=>by
   refine⟨s,?_⟩;rw[WX];unfold GJ;by_cases c:a.Solid.length<=30
   ·rw[ke (by omega)];rfl
   ·rw[ka (by omega),ke (by omega)];rfl) 0
 obtain⟨u2,e2⟩:=qD4 a.Products.length (λn (s:Int) x=>RB a n s x) (by omega) (λn i s hi=>by
   right;refine⟨imax s (imin 10 ((((a.Products.getD i du).Lengths).length:Nat):Int)),?_⟩;rw[RB,ka (by omega),zJ (by omega),zN (by omega)];rfl) (λn s=>by
   refine⟨s,?_⟩;rw[RB,ke (by omega)];rfl) 1
 unfold NH LN;rw[e1,e2];simp only[kg];by_cases c:a.Saw.Step>0
 ·rw[ka c,nz_t (by omega)];exact⟨_,rfl⟩
 ·rw[ke c];exact⟨_,rfl⟩
theorem qL1 (a:qQ):∃b,LD a=some b/\(b=true->a.Solid.length<=30/\a.Defects.length<=70/\a.Products.length<=20/\a.Pattern.Nodes.length<=140):=by
 have kt:QU a true=some false:=rfl;unfold LD;by_cases h1:(a.Solid.length:Int)>30
 ·rw[ka h1];exact⟨false,rfl,λh=>by cases h⟩
 rw[ke h1];by_cases h2:(a.Defects.length:Int)>70
 ·rw[ka h2];exact⟨false,rfl,λh=>by cases h⟩
 rw[ke h2];by_cases h3:(a.Products.length:Int)>20
 ·rw[ka h3];exact⟨false,rfl,λh=>by cases h⟩
 rw[ke h3];by_cases h4:(a.Pattern.Nodes.length:Int)>140
 ·rw[ka h4];exact⟨false,rfl,λh=>by cases h⟩
 rw[ke h4];obtain⟨wk,ew⟩:=qLo a (by omega) (by omega);simp only[kp,ew,kg];have hl:a.Solid.length<=30/\a.Defects.length<=70/\a.Products.length<=20/\a.Pattern.Nodes.length<=140:=by omega
 suffices h:∀x,∃b,QU a x=some b by
  obtain⟨b,e⟩:=h (decide (wk>200000));exact⟨b,e,λ_=>hl⟩
 intro x;unfold QU;cases x with
 |true=>exact⟨false,rfl⟩
 |false=>
  obtain⟨u1,e1⟩:=qD4 a.Solid.length (λn (_:Unit) x=>KG a n x) (by omega) (λn i s hi=>by
   rw[KG,ka (by omega),zJ (by omega),zN (by omega)];simp only[kn];cases decide ((((((a.Solid.getD ((i:Int)).toNat du).Sec).Rows).length:Nat):Int)>130)
   ·exact .inr ⟨(),rfl⟩
   ·exact .inl ⟨_,rfl⟩) (λn s=>by
   refine⟨.inr (),?_⟩;rw[KG,ke (by omega)];rfl) ()
  obtain⟨u2,e2⟩:=qD4 a.Products.length (λn (_:Unit) x=>QT a n x) (by omega) (λn i s hi=>by
   rw[QT,ka (by omega),zJ (by omega)];unfold UN;rw[zN (by omega)];simp only[kn,ks];cases decide (((((a.Products.getD i du).Lengths).length:Nat):Int)>10)
   ·cases decide (((((a.Products.getD i du).Prices).length:Nat):Int)>10)
    ·cases decide (((((a.Products.getD i du).Name).size:Nat):Int)>100)
     ·exact .inr ⟨(),rfl⟩
     ·exact .inl ⟨_,rfl⟩
    ·exact .inl ⟨_,rfl⟩
   ·exact .inl ⟨_,rfl⟩) (λn s=>by
   refine⟨.inr (),?_⟩;rw[QT,ke (by omega)];rfl) ()
  rw[e1];simp only[kp,kg];cases u1 with
  |inl v=>exact⟨v,rfl⟩
  |inr v=>
   rw[Sum.elim_inr,e2];simp only[kg];cases u2 with
   |inl v=>exact⟨v,rfl⟩
   |inr v=>exact⟨true,rfl⟩
end Go.SL.Saw

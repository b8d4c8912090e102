/- The saw line: the cut. -/
import Derived.Test.YtpommeghjpbepaaEMa6
import Derived.Test.YtpommeghjpbepaaEMod
set_option linter.unusedVariables false
set_option linter.unusedSimpArgs false
namespace Go.SL.Saw
variable {g :G29} {N:List qA}
theorem qBm {t:T} {x:qB} {i l:Nat} (hk:okT (ZI g.p) g.kerf t x) (hl:Lay g.kerf N t i l x) (hx:WR x.rect):qH1 g.p (nAt N i):=by
 cases t with
 |leaf n=>exact qDT hk hl hx
 |rip n a b=>exact λc=>absurd c (qKe hk hl)
theorem XF {i k:Nat} (f:qA->qA) (h:k≠i):nAt (updL N i f) k=nAt N k:=qJ9 f h
theorem LB {i:Nat} (f:qA->qA) (h:i<N.length):nAt (updL N i f) i=f (nAt N i):=qAL f h
def cutN (g:G29) (N:List qA) (j:Nat) (n:Node) (a:T) (rj:Rect) (c:Int):List qA:=
 updL (updL N (j+1) (g.stN (fiP rj ⟨n.Kind,c⟩))) (j+1+szT a) (g.stN (seP rj ⟨n.Kind,c⟩ g.kerf))
theorem qJe (j:Nat) (n:Node) (a:T) (rj:Rect) (c:Int):(cutN g N j n a rj c).length=N.length:=by unfold cutN;rw[wF,wF]
theorem qLh (j:Nat) (n:Node) (a:T) (rj:Rect) (c:Int) (h1:j+1<N.length) (h2:j+1+szT a<N.length) (k:Nat):HB (nAt N k) (nAt (cutN g N j n a rj c) k):=by
 have pa:=JR a;unfold cutN;by_cases e2:k=j+1+szT a
 ·subst e2;rw[LB _ (by rw[wF];exact h2),XF _ (by omega)];exact qBr g _ _
 ·rw[XF _ e2];by_cases e1:k=j+1
  ·subst e1;rw[LB _ h1];exact qBr g _ _
  ·rw[XF _ e1];exact HB.rfl' _
theorem qMJ (ok:Ok29 g) {t:T} {i:Nat} {r:Rect} {S O:List Rect} {B:List qM} {j:Nat} {n:Node} {a b:T} {l':Nat} {x':qB} {rj:Rect} (Q:qLB g N t i r S O B j n a b l' x' rj) (trim e2 chip dust len:Int) (tl:List Nat) (sh:Int) (hS:S.length<=200) (ht:tl.length<=200) (hN:N.length<=200):
  wT sh g.s g.d g.p g.kerf trim e2 g.step chip dust g.fine len (zs29 (j::tl)) N S=
   if sh<=(alP rj n.Kind).A-n.At\/(alP rj n.Kind).B-n.At<=sh then some (9,zs29 (j::tl),N,S) else some (0,zs29 tl,cutN g N j n a rj (n.At+sh),S++[cuP rj ⟨n.Kind,n.At+sh⟩ g.kerf]):=by
 have hlt:=Q.lay.lt;rw[wD] at hlt;have pa:=JR a;have pb:=JR b;obtain⟨l1,l2,l3,l4,l5,l6,l7⟩:=Q.lay;have hin:=qC1 Q.ok.1 Q.ok.2.1;have hxr:=Q.wx;have hwr:=Q.wr;obtain⟨wf,ws⟩:=qGv ok.hk Q.ok Q.wx;have g1:=qBm Q.ok.2.2.1 l6 wf;have g2:=qBm Q.ok.2.2.2 l7 ws;have hat: -600<=n.At/\n.At<=600:=by
  obtain⟨⟨a1,a2,a3⟩,a4,a5,a6⟩:=hxr;rcases ripB_iff.1 Q.ok.1 with e|e
  ·have:alP x'.rect n.Kind=x'.rect.X:=by unfold alP;rw[e];rfl
   rw[this] at hin;omega
  ·have:alP x'.rect n.Kind=x'.rect.Y:=by unfold alP;rw[e];rfl
   rw[this] at hin;omega
 have ez:(zs29 (j::tl)).getD (0:Int).toNat du=(j:Int):=rfl;have ek:N.getD j du=nAt N j:=rfl;have el:(zs29 (j::tl)).length=tl.length+1:=by rw[qAQ];rfl
 have hkf:=ok.hk;unfold wT;rw[el,ez];have e0:(((tl.length+1:Nat):Int)==0)=false:=by
  rw[ua];omega
 rw[e0,kp,zF (by omega),ki,zF (by omega),ki,ks,ek,l2,l3,Q.rc];obtain⟨⟨x1,x2,x3⟩,y1,y2,y3⟩:=hwr;have c3:∀c,(alP rj n.Kind).A<c/\c<(alP rj n.Kind).B->Cut3 rj (fiP rj ⟨n.Kind,c⟩) (cuP rj ⟨n.Kind,c⟩ g.kerf) (seP rj ⟨n.Kind,c⟩ g.kerf):=λc hc=>(qE5 (kerf:=g.kerf) Q.ok.1 Q.wr hc ok.hk).1;have hdrop:(zs29 (j::tl)).drop ((1:Int).toNat)=zs29 tl:=rfl;have st1:∀(c:Int),(alP rj n.Kind).A<c/\c<(alP rj n.Kind).B->∀(ri:List Int) (sw:List Rect),zT ((j+1:Nat):Int) (fiP rj ⟨n.Kind,c⟩) g.s g.d g.p g.kerf trim e2 g.step chip dust g.fine len ri N sw=some (updL N (j+1) (g.stN (fiP rj ⟨n.Kind,c⟩))):=λc hc ri sw=>
  (qAR (j+1) _ N g.kerf trim e2 g.step chip dust g.fine len ri sw (by omega) ok.hs ok.hd ok.hp ok.hst ok.hf (c3 c hc).wf g1).2
 have st2:∀(c:Int),(alP rj n.Kind).A<c/\c<(alP rj n.Kind).B->∀(ri:List Int) (sw:List Rect),zT ((j+1+szT a:Nat):Int) (seP rj ⟨n.Kind,c⟩ g.kerf) g.s g.d g.p g.kerf trim e2 g.step chip dust g.fine len ri (updL N (j+1) (g.stN (fiP rj ⟨n.Kind,c⟩))) sw=some (cutN g N j n a rj c):=λc hc ri sw=>
  (qAR (j+1+szT a) _ (updL N (j+1) (g.stN (fiP rj ⟨n.Kind,c⟩))) g.kerf trim e2 g.step chip dust g.fine len ri sw (by rw[wF];omega) ok.hs ok.hd ok.hp ok.hst ok.hf (c3 c hc).ws (by
   rw[show(updL N (j+1) (g.stN (fiP rj ⟨n.Kind,c⟩))).getD (j+1+szT a) du=nAt N (j+1+szT a) from qJ9 _ (by omega)];exact g2)).2
 rcases ripB_iff.1 Q.ok.1 with e|e
 ·have ea:alP rj n.Kind=rj.X:=by unfold alP;rw[e];rfl
  rw[ea] at c3 st1 st2⊢;rw[show(n.Kind==3)=false by rw[e];rfl,kp,qX (n:=rj.X.A-n.At) (by omega),qX (n:=rj.X.B-n.At) (by omega)];unfold KE;by_cases c1:sh<=rj.X.A-n.At
  ·rw[ka c1,ki,ki,if_pos (.inl c1)]
  ·rw[kd c1,kp];by_cases c2:rj.X.B-n.At<=sh
   ·rw[ka (show sh≥rj.X.B-n.At from c2),ki,if_pos (.inr c2)]
   ·have hc:rj.X.A<n.At+sh/\n.At+sh<rj.X.B:=by omega
    rw[kd (show¬sh≥rj.X.B-n.At from c2),kp,if_neg (by omega),ez,el,hdrop,ks,ek,l3,l4,l5,Q.rc];rw[show slOk 1 ((tl.length+1:Nat):Int) (tl.length+1)=true by unfold slOk;exact ka (by omega),ki,YO (by omega),ki,qX (n:=n.At+sh) (by omega)];have ew:∀sp,wiP rj n.Kind sp=⟨sp,rj.Y⟩:=λsp=>by unfold wiP;rw[e];rfl
    have h1:=st1 (n.At+sh) hc;have h2:=st2 (n.At+sh) hc;unfold fiP at h1 h2;unfold seP at h2;unfold cuP;unfold enP at h2⊢;simp only[ew,ea] at h1 h2⊢;rw[h1];simp only[kg];rw[h2];rfl
 ·have ea:alP rj n.Kind=rj.Y:=by unfold alP;rw[e];rfl
  rw[ea] at c3 st1 st2⊢;rw[show(n.Kind==3)=true by rw[e];rfl,ki,qX (n:=rj.Y.A-n.At) (by omega),qX (n:=rj.Y.B-n.At) (by omega)];unfold KJ;by_cases c1:sh<=rj.Y.A-n.At
  ·rw[ka c1,ki,ki,if_pos (.inl c1)]
  ·rw[kd c1,kp];by_cases c2:rj.Y.B-n.At<=sh
   ·rw[ka (show sh≥rj.Y.B-n.At from c2),ki,if_pos (.inr c2)]
   ·have hc:rj.Y.A<n.At+sh/\n.At+sh<rj.Y.B:=by omega
    rw[kd (show¬sh≥rj.Y.B-n.At from c2),kp,if_neg (by omega),ez,el,hdrop,ks,ek,l3,l4,l5,Q.rc];rw[show slOk 1 ((tl.length+1:Nat):Int) (tl.length+1)=true by unfold slOk;exact ka (by omega),ki,YO (by omega),ki,qX (n:=n.At+sh) (by omega)];have ew:∀sp,wiP rj n.Kind sp=⟨rj.X,sp⟩:=λsp=>by unfold wiP;rw[e];rfl
    have h1:=st1 (n.At+sh) hc;have h2:=st2 (n.At+sh) hc;unfold fiP at h1 h2;unfold seP at h2;unfold cuP;unfold enP at h2⊢;simp only[ew,ea] at h1 h2⊢;rw[h1];simp only[kg];rw[h2];rfl
end Go.SL.Saw

namespace Go.SL.Saw
def r00 :Rect:=⟨⟨0,0⟩,⟨0,0⟩⟩
def c00 :qM:=⟨0,0,⟨⟨0,0⟩,⟨0,0⟩,⟨0,0⟩⟩,0⟩
def mkT (kerf:Int):T->Nat->qB->List qA
 | .leaf n,l,x=>[⟨n.Kind,n.At,0,0,false,r00,(l:Int),x.rect,false,c00⟩]
 | .rip n a b,l,x=>⟨n.Kind,n.At,0,0,false,r00,0,r00,false,c00⟩::(mkT kerf a l ⟨fiP x.rect n,x.level+1⟩++mkT kerf b (l+(lvT kerf a ⟨fiP x.rect n,x.level+1⟩).length) ⟨seP x.rect n kerf,x.level+1⟩)
theorem qAI (kerf:Int):∀(t:T) (l:Nat) (x:qB),(mkT kerf t l x).length=szT t
 | .leaf n,l,x=>rfl
 | .rip n a b,l,x=>by
  unfold mkT;rw[wD,uD,kE,qAI,qAI];omega
theorem qIB (kerf:Int):∀(t:T) (l:Nat) (x:qB),∀y∈mkT kerf t l x,y.stands=false/\y.gives=false
 | .leaf n,l,x,y,hy=>by
  unfold mkT at hy;rw[List.mem_singleton] at hy;subst hy;exact⟨rfl,rfl⟩
 | .rip n a b,l,x,y,hy=>by
  unfold mkT at hy;rcases uh.1 hy with rfl|hy
  ·exact⟨rfl,rfl⟩
  ·rcases List.mem_append.1 hy with hy|hy
   ·exact qIB kerf a _ _ y hy
   ·exact qIB kerf b _ _ y hy
theorem qLn {bd:Rect->Int->Int} {kerf:Int} {n:Node} {x:qB} (h:okT bd kerf (.leaf n) x):(lvT kerf (.leaf n) x).length=1/\((lvT kerf (.leaf n) x).getD 0 du).Rect=x.rect:=by
 rcases(lv_leaf h).1 with e|⟨e,_⟩<;>rw[e]<;>exact⟨rfl,rfl⟩
theorem qGZ {α:Type} [Inhabited α] {a b:List α} {k:Nat} (h:k<a.length):(a++b).getD k du=a.getD k du:=by
 rw[ke,kz h,ke]
theorem CB {α:Type} [Inhabited α] {a b:List α} {k:Nat}:(a++b).getD (a.length+k) du=b.getD k du:=by
 rw[ke,ky (by omega),ke,Nat.add_sub_cancel_left]
theorem qIV {bd:Rect->Int->Int} {kerf:Int}:∀(t:T) (x:qB),okT bd kerf t x->(lvT kerf t x).length<=szT t
 | .leaf n,x,h=>by rw[(qLn h).1];exact JR _
 | .rip n a b,x,h=>by
  rw[(qMm h.1).1,kE,wD];have:=qIV a _ h.2.2.1;have:=qIV b _ h.2.2.2;omega
theorem qAt :∀(t:T) (i:Nat),(ZO t i).length<=szT t
 | .leaf n,i=>ud _
 | .rip n a b,i=>by
  show(ZO a (i+1)++ZO b (i+1+szT a)).length+1<=_;rw[kE,wD];have:=qAt a (i+1);have:=qAt b (i+1+szT a);omega
theorem qAM {bd:Rect->Int->Int} (pt:Pattern) (LV:List Leaf) (e kerf:Int) (hp:pt.Nodes.length<=1000):∀(t:T) (x:qB) (i l m:Nat) (acc:List qA) (ra:List Int),okT bd kerf t x->i+szT t<=pt.Nodes.length->(∀k,k<szT t->pt.Nodes.getD (i+k) du=(jF t).getD k du)->
  l+(lvT kerf t x).length<=LV.length->(∀k,k<(lvT kerf t x).length->LV.getD (l+k) du=(lvT kerf t x).getD k du)->l<=i->acc.length=i->ra.length<=i->
  zR pt (LV,e) (m+szT t) (l:Int) (i:Int) acc ra=zR pt (LV,e) m ((l+(lvT kerf t x).length:Nat):Int) ((i+szT t:Nat):Int) (acc++mkT kerf t l x) (ra++zs29 (ZO t i))
 | .leaf n,x,i,l,m,acc,ra,hk,hi,hn,hl,hv,hli,ha,hr=>by
  obtain⟨v1,v2⟩:=qLn hk;have hnr:=hk.1;have e2:(n.Kind==2)=false:=by
   rw[ua];intro c;rw[ripB_iff.2 (.inl c)] at hnr;cases hnr
  have e3:(n.Kind==3)=false:=by
   rw[ua];intro c;rw[ripB_iff.2 (.inr c)] at hnr;cases hnr
  rw[XY] at hi hn⊢;have h0:pt.Nodes.getD i du=n:=hn 0 (by omega);have h1:(LV.getD l du).Rect=x.rect:=by rw[<-v2];exact congrArg Leaf.Rect (hv 0 (by omega))
  rw[v1] at hl⊢;show zR pt (LV,e) (m+1) _ _ _ _=_;rw[zR,ka (by omega),zF (by omega)];simp only[ki,ks,h0,e2,e3,kp];unfold RT RX;rw[kp,inb_t (by omega) (by simp only;omega),ki,YO (by omega),ki,zL (by omega),zL (by omega),ks,ks,h0,h1];show _=zR pt (LV,e) m _ _ _ (ra++[]);rw[kX];rfl
 | .rip n a b,x,i,l,m,acc,ra,hk,hi,hn,hl,hv,hli,ha,hr=>by
  have lr:=(qMm (kerf:=kerf) (n:=n) (a:=a) (b:=b) (x:=x) hk.1).1;rw[lr] at hl hv⊢;rw[kE] at hl hv⊢;rw[wD] at hi hn⊢;have h0:pt.Nodes.getD i du=n:=hn 0 (by omega);rw[show m+(1+szT a+szT b)=(m+szT b+szT a)+1 by omega];have step:zR pt (LV,e) ((m+szT b+szT a)+1) (l:Int) (i:Int) acc ra=zR pt (LV,e) (m+szT b+szT a) (l:Int) ((i+1:Nat):Int) (acc++[⟨n.Kind,n.At,0,0,false,r00,0,r00,false,c00⟩]) (ra++[(i:Int)]):=by
   rw[zR,ka (by omega),zF (by omega)];unfold RT RX;simp only[ki,ks,h0];rw[YO (by omega),YO (by omega),zL (by omega)];rcases ripB_iff.1 hk.1 with q|q
   ·rw[show(n.Kind==2)=true by rw[q];rfl];rfl
   ·rw[show(n.Kind==2)=false by rw[q];rfl,show(n.Kind==3)=true by rw[q];rfl];rfl
  have la:(lvT kerf a ⟨fiP x.rect n,x.level+1⟩).length<=szT a:=qIV a ⟨fiP x.rect n,x.level+1⟩ hk.2.2.1;have na:∀k,k<szT a->pt.Nodes.getD (i+1+k) du=(jF a).getD k du:=λk hkk=>by
   have:=hn (1+k) (by omega);rw[show i+(1+k)=i+1+k by omega] at this;rw[this,show 1+k=k+1 by omega];show(jF a++jF b).getD k du=_;exact qGZ hkk
  have nb:∀k,k<szT b->pt.Nodes.getD (i+1+szT a+k) du=(jF b).getD k du:=λk hkk=>by
   have:=hn (1+szT a+k) (by omega);rw[show i+(1+szT a+k)=i+1+szT a+k by omega] at this;rw[this,show 1+szT a+k=(szT a+k)+1 by omega];show(jF a++jF b).getD (szT a+k) du=_;exact CB
  have va:∀k,k<(lvT kerf a ⟨fiP x.rect n,x.level+1⟩).length->LV.getD (l+k) du=(lvT kerf a ⟨fiP x.rect n,x.level+1⟩).getD k du:=λk hkk=>by
   rw[hv k (by omega)];exact qGZ hkk
  have vb:∀k,k<(lvT kerf b ⟨seP x.rect n kerf,x.level+1⟩).length->LV.getD (l+(lvT kerf a ⟨fiP x.rect n,x.level+1⟩).length+k) du=(lvT kerf b ⟨seP x.rect n kerf,x.level+1⟩).getD k du:=λk hkk=>by
   have:=hv ((lvT kerf a ⟨fiP x.rect n,x.level+1⟩).length+k) (by omega);rw[show l+((lvT kerf a ⟨fiP x.rect n,x.level+1⟩).length+k)=l+(lvT kerf a ⟨fiP x.rect n,x.level+1⟩).length+k by omega] at this;rw[this];exact CB
  have ra1:=qAt a (i+1);rw[step,qAM pt LV e kerf hp a ⟨fiP x.rect n,x.level+1⟩ (i+1) l (m+szT b) _ _ hk.2.2.1 (by omega) na (by omega) va (by omega) (by simp;omega) (by simp;omega)];rw[qAM pt LV e kerf hp b ⟨seP x.rect n kerf,x.level+1⟩ (i+1+szT a) (l+(lvT kerf a ⟨fiP x.rect n,x.level+1⟩).length) m _ _ hk.2.2.2 (by omega) nb (by omega) vb (by omega) (by simp[qAI];omega) (by simp[qAQ];omega)]
  congr 1
  ·omega
  ·omega
  ·show _=acc++(_::(_++_));simp
  ·show _=ra++zs29 (i::(ZO a (i+1)++ZO b (i+1+szT a)));simp[zs29]
end Go.SL.Saw

namespace Go.SL.Saw
structure PC (y z:qA):Prop where
 k:z.kind=y.kind
 a:z.at_=y.at_
 l:z.leaf=y.leaf
 p:z.planned=y.planned
 s:z.stands=y.stands
 g:z.gives=y.gives
theorem PC.rfl' (y:qA):PC y y:=⟨rfl,rfl,rfl,rfl,rfl,rfl⟩
theorem PC.trans {x y z:qA} (h:PC x y) (q:PC y z):PC x z:=⟨q.k.trans h.k,q.a.trans h.a,q.l.trans h.l,q.p.trans h.p,q.s.trans h.s,q.g.trans h.g⟩
def setF (z:Int) (x:qA):qA:=⟨x.kind,x.at_,z,x.second,x.stands,x.rect,x.leaf,x.planned,x.gives,x.board⟩
def setS (z:Int) (x:qA):qA:=⟨x.kind,x.at_,x.first,z,x.stands,x.rect,x.leaf,x.planned,x.gives,x.board⟩
def wH :T->Nat->List qA->List qA
 | .leaf _,_,N=>N
 | .rip _ a b,i,N=>wH b (i+1+szT a) (updL (wH a (i+1) (updL N i (setF ((i+1:Nat):Int)))) i (setS ((i+1+szT a:Nat):Int)))
theorem TN :∀(t:T) (i:Nat) (N:List qA),(wH t i N).length=N.length
 | .leaf _,_,_=>rfl
 | .rip _ a b,i,N=>by unfold wH;rw[TN b,wF,TN a,wF]
theorem HT :∀(t:T) (i:Nat) (N:List qA) (k:Nat),k<i\/i+szT t<=k->nAt (wH t i N) k=nAt N k
 | .leaf _,_,_,_,_=>rfl
 | .rip _ a b,i,N,k,h=>by
  rw[wD] at h;unfold wH;rw[HT b _ _ k (by omega),XF _ (by omega),HT a _ _ k (by omega),XF _ (by omega)]
theorem MW {N:List qA} {i:Nat} {f:qA->qA} (hf:∀y,PC y (f y)) (hi:i<N.length) (k:Nat):PC (nAt N k) (nAt (updL N i f) k):=by
 by_cases e:k=i
 ·subst e;rw[LB _ hi];exact hf _
 ·rw[XF _ e];exact PC.rfl' _
theorem FY :∀(t:T) (i:Nat) (N:List qA) (k:Nat),i+szT t<=N.length->PC (nAt N k) (nAt (wH t i N) k)
 | .leaf _,_,_,_,_=>PC.rfl' _
 | .rip _ a b,i,N,k,h=>by
  rw[wD] at h;unfold wH;refine((MW (f:=setF ((i+1:Nat):Int)) (λy=>⟨rfl,rfl,rfl,rfl,rfl,rfl⟩) (by omega) k).trans (FY a (i+1) _ k (by rw[wF];omega))).trans ((MW (f:=setS ((i+1+szT a:Nat):Int)) (λy=>⟨rfl,rfl,rfl,rfl,rfl,rfl⟩) (by rw[TN,wF];omega) k).trans (FY b _ _ k (by rw[wF,TN,wF];omega)))
def VN (N:List qA):T->Nat->Prop
 | .leaf n,i=>i<N.length/\(nAt N i).kind=n.Kind/\ripB n.Kind=false
 | .rip n a b,i=>i<N.length/\(nAt N i).kind=n.Kind/\ripB n.Kind=true/\VN N a (i+1)/\VN N b (i+1+szT a)
theorem VN.to {N N':List qA} (hl:N'.length=N.length) (h:∀k,PC (nAt N k) (nAt N' k)):∀{t:T} {i:Nat},VN N t i->VN N' t i
 | .leaf _,i,q=>⟨by have:=q.1;omega,by rw[(h i).k];exact q.2.1,q.2.2⟩
 | .rip _ _ _,i,q=>⟨by have:=q.1;omega,by rw[(h i).k];exact q.2.1,q.2.2.1,VN.to hl h q.2.2.2.1,VN.to hl h q.2.2.2.2⟩
theorem VN.lt {N:List qA}:∀{t:T} {i:Nat},VN N t i->i+szT t<=N.length
 | .leaf n,i,q=>by rw[XY];have:=q.1;omega
 | .rip n a b,i,q=>by rw[wD];have:=VN.lt q.2.2.2.2;omega
theorem qGH (s:List qF) (d:List qH) (p:List Product) (e1 e2 e3 e4 e5 e6 e7 e8:Int) (ri:List Int):∀(t:T) (i m:Nat) (N:List qA),VN N t i->szT t<=m->N.length<=1000->
  zP m (i:Int) s d p e1 e2 e3 e4 e5 e6 e7 e8 ri N=some (((i+szT t:Nat):Int),wH t i N)
 | .leaf n,i,m,N,hk,hm,hN=>by
  rw[XY] at*;obtain⟨m,rfl⟩:∃q,m=q+1:=⟨m-1,by omega⟩
  obtain⟨h1,h2,h3⟩:=hk;have e2':((nAt N i).kind !=2)=true:=by
   rw[uo,h2];intro c;rw[ripB_iff.2 (.inl c)] at h3;cases h3
  have e3':((nAt N i).kind !=3)=true:=by
   rw[uo,h2];intro c;rw[ripB_iff.2 (.inr c)] at h3;cases h3
  unfold zP jS;rw[zF (by omega),ki,ks];show(bif (nAt N i).kind !=2 then bif (nAt N i).kind !=3 then _ else _ else _)=_;rw[e2',e3',ki,ki,zL (by omega)];rfl
 | .rip n a b,i,m,N,hk,hm,hN=>by
  rw[wD] at*;obtain⟨m,rfl⟩:∃q,m=q+1:=⟨m-1,by omega⟩
  have hlt:=hk.lt;rw[wD] at hlt;obtain⟨h1,h2,h3,h4,h5⟩:=hk;have eN:∀f:qA->qA,(updL N i f).getD i du=f (nAt N i):=λf=>qAL f h1;have s1:∀k,PC (nAt N k) (nAt (updL N i (setF ((i+1:Nat):Int))) k):=MW (λy=>⟨rfl,rfl,rfl,rfl,rfl,rfl⟩) h1;have k1:VN (updL N i (setF ((i+1:Nat):Int))) a (i+1):=h4.to (wF _ _ _) s1;have r1:=qGH s d p e1 e2 e3 e4 e5 e6 e7 e8 ri a (i+1) m _ k1 (by omega) (by rw[wF];exact hN);have hlen:(wH a (i+1) (updL N i (setF ((i+1:Nat):Int)))).length=N.length:=by rw[TN,wF]
  have s2:∀k,PC (nAt N k) (nAt (updL (wH a (i+1) (updL N i (setF ((i+1:Nat):Int)))) i (setS ((i+1+szT a:Nat):Int))) k):=λk=>
   ((s1 k).trans (FY a (i+1) _ k (by rw[wF];omega))).trans (MW (f:=setS ((i+1+szT a:Nat):Int)) (λy=>⟨rfl,rfl,rfl,rfl,rfl,rfl⟩) (by omega) k)
  have k2:VN (updL (wH a (i+1) (updL N i (setF ((i+1:Nat):Int)))) i (setS ((i+1+szT a:Nat):Int))) b (i+1+szT a):=h5.to (by rw[wF,hlen]) s2;have r2:=qGH s d p e1 e2 e3 e4 e5 e6 e7 e8 ri b (i+1+szT a) m _ k2 (by omega) (by rw[wF,hlen];exact hN);have eb:∀f:qA->qA,(updL (wH a (i+1) (updL N i (setF ((i+1:Nat):Int)))) i f).getD i du=f (nAt (wH a (i+1) (updL N i (setF ((i+1:Nat):Int)))) i):=λf=>qAL f (by omega);have body:jS (i:Int) s d p e1 e2 e3 e4 e5 e6 e7 e8 ri N (zP m) false=some (((i+(1+szT a+szT b):Nat):Int),wH (.rip n a b) i N):=by
   unfold jS;rw[kp,zL (by omega),ks];have f1:(updL N i (λx=>(qA.mk x.kind x.at_ ((i+1:Nat):Int) x.second x.stands x.rect x.leaf x.planned x.gives x.board)))=updL N i (setF ((i+1:Nat):Int)):=rfl;rw[f1,eN];show Option.bind (zP m ((i+1:Nat):Int) s d p e1 e2 e3 e4 e5 e6 e7 e8 ri _) _=_;rw[r1];simp only[kg];rw[hlen,show Nat.ble (i+1) N.length=true from Nat.ble_eq_true_of_le (by omega),ki]
   have f2:(updL (wH a (i+1) (updL N i (setF ((i+1:Nat):Int)))) i (λx=>(qA.mk x.kind x.at_ x.first ((i+1+szT a:Nat):Int) x.stands x.rect x.leaf x.planned x.gives x.board)))=updL (wH a (i+1) (updL N i (setF ((i+1:Nat):Int)))) i (setS ((i+1+szT a:Nat):Int)):=rfl;rw[f2,eb];show Option.bind (zP m ((i+1+szT a:Nat):Int) s d p e1 e2 e3 e4 e5 e6 e7 e8 ri _) _=_;rw[r2];show some (((i+1+szT a+szT b:Nat):Int),wH (.rip n a b) i N)=_;rw[show i+1+szT a+szT b=i+(1+szT a+szT b) by omega]
  unfold zP;rw[zF (by omega),ki,ks];show(bif (nAt N i).kind !=2 then jS _ _ _ _ _ _ _ _ _ _ _ _ _ _ _ ((nAt N i).kind !=3) else _)=_;rcases ripB_iff.1 h3 with e|e
  ·rw[show((nAt N i).kind !=2)=false by rw[h2,e];rfl,kp];exact body
  ·rw[show((nAt N i).kind !=2)=true by rw[h2,e];rfl,ki,show((nAt N i).kind !=3)=false by rw[h2,e];rfl];exact body
end Go.SL.Saw

namespace Go.SL.Saw
theorem qDN {α:Type} [Inhabited α] {l:List α} {i:Nat} (h:i<l.length):l.set i (l.getD i du)=l:=by
 rw[ke,ku h];exact List.set_getElem_self h
theorem qHN {s:List qF} (h:VSol s):JO s=some s:=by
 have hl:=h.len;have key:∀(k i n:Nat),i+k=s.length->k<n->yN s n s (i:Int)=some s:=by
  intro k
  induction k with
  |zero=>
   intro i n hi hn;obtain⟨n,rfl⟩:∃m,n=m+1:=⟨n-1,by omega⟩
   rw[yN,kd (by omega)];rfl
  |succ k ih=>
   intro i n hi hn;obtain⟨n,rfl⟩:∃m,n=m+1:=⟨n-1,by omega⟩
   have hr:=(h.at (i:=i) (by omega)).1.len;rw[yN,ka (by omega),zF (by omega),zL (by omega)];unfold PO;rw[ks,YO (by omega)];simp only[ki,kg];have e:qF.mk (s.getD i du).Len ⟨(s.getD i du).Sec.Low,(s.getD i du).Sec.Rows⟩=s.getD i du:=rfl;rw[e,qDN (by omega)];exact ih (i+1) n (by omega) (by omega)
 unfold JO KG;rw[YO (by omega)];have e:=key s.length 0 FUEL (by omega) (by rw[QN];omega);simp only[ki,kg];rw[show(0:Int)=((0:Nat):Int) from rfl,e];rfl
theorem qFq {p:List Product} (h:WF p=0) (hl:p.length<=16):ZS p=some p:=by
 have key:∀(k i n:Nat),i+k=p.length->k<n->jP p n p (i:Int)=some p:=by
  intro k
  induction k with
  |zero=>
   intro i n hi hn;obtain⟨n,rfl⟩:∃m,n=m+1:=⟨n-1,by omega⟩
   rw[jP,kd (by omega)];rfl
  |succ k ih=>
   intro i n hi hn;obtain⟨n,rfl⟩:∃m,n=m+1:=⟨n-1,by omega⟩
   have hv:=qI0 h (show i<p.length by omega);have h1:=hv.ll;have h2:=hv.pl;rw[jP,ka (by omega),zF (by omega),zL (by omega)];unfold YP;rw[ks,YO (by omega)];simp only[ki,kg];have e:Product.mk (p.getD i du).Name (p.getD i du).Thick (p.getD i du).Width (p.getD i du).Allow (p.getD i du).Wane (p.getD i du).Lengths (p.getD i du).Prices=p.getD i du:=rfl;rw[e,qDN (by omega),YO (by omega)];simp only[ki,kg];rw[e,qDN (by omega)];exact ih (i+1) n (by omega) (by omega)
 unfold ZS YE;rw[YO (by omega)];have e:=key p.length 0 FUEL (by omega) (by rw[QN];omega);simp only[ki,kg];rw[show(0:Int)=((0:Nat):Int) from rfl,e];rfl
def Lay0 (kerf:Int) (N:List qA):T->Nat->Nat->qB->Prop
 | .leaf n,i,l,x=>i<N.length/\(nAt N i).kind=n.Kind/\(nAt N i).at_=n.At/\(nAt N i).leaf=(l:Int)/\(nAt N i).planned=x.rect
 | .rip n a b,i,l,x=>i<N.length/\(nAt N i).kind=n.Kind/\(nAt N i).at_=n.At/\
   Lay0 kerf N a (i+1) l ⟨fiP x.rect n,x.level+1⟩/\Lay0 kerf N b (i+1+szT a) (l+(lvT kerf a ⟨fiP x.rect n,x.level+1⟩).length) ⟨seP x.rect n kerf,x.level+1⟩
theorem Lay0.to {kerf:Int} {N N':List qA} (hl:N'.length=N.length) (h:∀k,PC (nAt N k) (nAt N' k)):∀{t:T} {i l:Nat} {x:qB},Lay0 kerf N t i l x->Lay0 kerf N' t i l x
 | .leaf n,i,l,x,⟨h1,h2,h3,h4,h5⟩=>⟨by omega,by rw[(h i).k,h2],by rw[(h i).a,h3],by rw[(h i).l,h4],by rw[(h i).p,h5]⟩
 | .rip n a b,i,l,x,⟨h1,h2,h3,h4,h5⟩=>⟨by omega,by rw[(h i).k,h2],by rw[(h i).a,h3],Lay0.to hl h h4,Lay0.to hl h h5⟩
theorem Lay.toR {kerf:Int} {N N':List qA} (hl:N'.length=N.length):∀{t:T} {i l:Nat} {x:qB},(∀k,i<=k->k<i+szT t->nAt N' k=nAt N k)->Lay kerf N t i l x->Lay kerf N' t i l x
 | .leaf n,i,l,x,h,⟨h1,h2,h3,h4,h5⟩=>by
  have e:=h i (ko _) (by rw[XY];omega);exact⟨by omega,by rw[e,h2],by rw[e,h3],by rw[e,h4],by rw[e,h5]⟩
 | .rip n a b,i,l,x,h,⟨h1,h2,h3,h4,h5,h6,h7⟩=>by
  rw[wD] at h;have e:=h i (ko _) (by omega);exact⟨by omega,by rw[e,h2],by rw[e,h3],by rw[e,h4],by rw[e,h5],Lay.toR hl (λk k1 k2=>h k (by omega) (by omega)) h6,Lay.toR hl (λk k1 k2=>h k (by omega) (by omega)) h7⟩
theorem Lay0.lt {kerf:Int} {N:List qA}:∀{t:T} {i l:Nat} {x:qB},Lay0 kerf N t i l x->i+szT t<=N.length
 | .leaf n,i,l,x,h=>by rw[XY];have:=h.1;omega
 | .rip n a b,i,l,x,h=>by rw[wD];have:=Lay0.lt h.2.2.2.2;omega
theorem Lay0.kind {kerf:Int} {bd:Rect->Int->Int} {N:List qA}:∀{t:T} {i l:Nat} {x:qB},Lay0 kerf N t i l x->okT bd kerf t x->VN N t i
 | .leaf n,i,l,x,h,k=>⟨h.1,h.2.1,k.1⟩
 | .rip n a b,i,l,x,h,k=>⟨h.1,h.2.1,k.1,Lay0.kind h.2.2.2.1 k.2.2.1,Lay0.kind h.2.2.2.2 k.2.2.2⟩
theorem Lay0.link {kerf:Int}:∀{t:T} {i l:Nat} {x:qB} {N:List qA},Lay0 kerf N t i l x->Lay kerf (wH t i N) t i l x
 | .leaf n,i,l,x,N,h=>h
 | .rip n a b,i,l,x,N,h=>by
  have hlt:=h.lt;rw[wD] at hlt;obtain⟨h1,h2,h3,h4,h5⟩:=h;have s1:∀k,PC (nAt N k) (nAt (updL N i (setF ((i+1:Nat):Int))) k):=MW (λy=>⟨rfl,rfl,rfl,rfl,rfl,rfl⟩) h1;have la:Lay kerf (wH a (i+1) (updL N i (setF ((i+1:Nat):Int)))) a (i+1) l ⟨fiP x.rect n,x.level+1⟩:=Lay0.link (h4.to (wF _ _ _) s1);have hlen:(wH a (i+1) (updL N i (setF ((i+1:Nat):Int)))).length=N.length:=by rw[TN,wF]
  have s2:∀k,PC (nAt N k) (nAt (updL (wH a (i+1) (updL N i (setF ((i+1:Nat):Int)))) i (setS ((i+1+szT a:Nat):Int))) k):=λk=>
   ((s1 k).trans (FY a (i+1) _ k (by rw[wF];omega))).trans (MW (f:=setS ((i+1+szT a:Nat):Int)) (λy=>⟨rfl,rfl,rfl,rfl,rfl,rfl⟩) (by omega) k)
  have lb:Lay kerf (wH (.rip n a b) i N) b (i+1+szT a) (l+(lvT kerf a ⟨fiP x.rect n,x.level+1⟩).length) ⟨seP x.rect n kerf,x.level+1⟩:=Lay0.link (h5.to (by rw[wF,hlen]) s2);have hl2:(wH (.rip n a b) i N).length=N.length:=TN _ _ _;have ei:nAt (wH (.rip n a b) i N) i=setS ((i+1+szT a:Nat):Int) (setF ((i+1:Nat):Int) (nAt N i)):=by
   unfold wH;rw[HT b _ _ i (by omega),LB _ (by omega),HT a _ _ i (by omega),LB _ h1]
  refine⟨by omega,by rw[ei];exact h2,by rw[ei];exact h3,by rw[ei];rfl,by rw[ei];rfl,Lay.toR (hl2.trans hlen.symm) (λk k1 k2=>?_) la,lb⟩;show nAt (wH b (i+1+szT a) (updL (wH a (i+1) (updL N i (setF ((i+1:Nat):Int)))) i (setS ((i+1+szT a:Nat):Int)))) k=_;rw[HT b _ _ k (by omega),XF _ (by omega)]
theorem qGu (kerf:Int):∀(t:T) (l:Nat) (x:qB) (A C:List qA),Lay0 kerf (A++(mkT kerf t l x++C)) t A.length l x
 | .leaf n,l,x,A,C=>by
  have e:nAt (A++(mkT kerf (.leaf n) l x++C)) A.length=⟨n.Kind,n.At,0,0,false,r00,(l:Int),x.rect,false,c00⟩:=CB (k:=0);refine⟨by simp[mkT],?_,?_,?_,?_⟩<;>rw[e]
 | .rip n a b,l,x,A,C=>by
  have e:nAt (A++(mkT kerf (.rip n a b) l x++C)) A.length=⟨n.Kind,n.At,0,0,false,r00,0,r00,false,c00⟩:=CB (k:=0);have ia:=qGu kerf a l ⟨fiP x.rect n,x.level+1⟩ (A++[⟨n.Kind,n.At,0,0,false,r00,0,r00,false,c00⟩]) (mkT kerf b (l+(lvT kerf a ⟨fiP x.rect n,x.level+1⟩).length) ⟨seP x.rect n kerf,x.level+1⟩++C);have ib:=qGu kerf b (l+(lvT kerf a ⟨fiP x.rect n,x.level+1⟩).length) ⟨seP x.rect n kerf,x.level+1⟩ (A++[⟨n.Kind,n.At,0,0,false,r00,0,r00,false,c00⟩]++mkT kerf a l ⟨fiP x.rect n,x.level+1⟩) C
  have ea:A++[⟨n.Kind,n.At,0,0,false,r00,0,r00,false,c00⟩]++(mkT kerf a l ⟨fiP x.rect n,x.level+1⟩++(mkT kerf b (l+(lvT kerf a ⟨fiP x.rect n,x.level+1⟩).length) ⟨seP x.rect n kerf,x.level+1⟩++C))=A++(mkT kerf (.rip n a b) l x++C):=by simp[mkT]
  have eb:A++[⟨n.Kind,n.At,0,0,false,r00,0,r00,false,c00⟩]++mkT kerf a l ⟨fiP x.rect n,x.level+1⟩++(mkT kerf b (l+(lvT kerf a ⟨fiP x.rect n,x.level+1⟩).length) ⟨seP x.rect n kerf,x.level+1⟩++C)=A++(mkT kerf (.rip n a b) l x++C):=by simp[mkT]
  rw[ea] at ia;rw[eb] at ib;rw[kE] at ia;rw[kE,kE,qAI] at ib;refine⟨by simp[mkT],by rw[e],by rw[e],ia,ib⟩
structure LW (g:G29) (t:T) (fr:Rect) (N:List qA) (h:Nat) (S:List Rect):Prop where
 len:N.length=szT t
 le:szT t<=127
 ok:okT (ZI g.p) g.kerf t ⟨fr,1⟩
 wf:WR fr
 lay:Lay g.kerf N t 0 0 ⟨fr,1⟩
 st:∃O B,St29 g N h t 0 fr S O B
theorem qG6 (s:List qF) (d:List qH) (p:List Product) (pt:Pattern) (w:Saw) (t:Rates):NX s d p pt w t=some (chkY s d p pt w t):=qL9 s d p pt w t
def gOf (b:Bool) (s:List qF) (d:List qH) (p:List Product) (w:Saw) (t:Rates):G29:=⟨s,d,p,w.Step,t.Fine,w.Kerf,w.Trim,b⟩
variable {pl :Bool} {s:List qF} {d:List qH} {p:List Product} {pt:Pattern} {w:Saw} {t:Rates}
theorem VY.ok29 (h:VY s d p pt w t):Ok29 (gOf pl s d p w t):=⟨h.sol,h.df,h.pr,h.vw.step,h.vw.fine,h.vw.kerf,h.vw.trim⟩
theorem qMM (h:VY s d p pt w t) (hpl:p.length<=16):∃(u:T) (N:List qA),pt.Nodes=jF u/\LW (gOf pl s d p w t) u pt.Frame N 0 []/\(lvP pt w.Kerf=lvT w.Kerf u ⟨pt.Frame,1⟩/\ctP pt w.Kerf=ctT w.Kerf u ⟨pt.Frame,1⟩)/\
  RA s d p pt w t=some (.inr (⟨s,d,p,w,t,qZ s,N,zs29 (ZO u 0),[]⟩,0)):=by
 obtain⟨u,hn,hk,hlv,hct⟩:=h.tree;have hz:=NO.1 h.pat;have hsz:szT u<=127:=by have:=hz.2.2.1;rw[hn] at this;exact this
 have hwf:WR pt.Frame:=VR_WR hz.1;have hok:=h.ok29 (pl:=pl);have hdl:d.length<=64:=((qBf d).1 h.df).1;have hsol:=h.sol.len
 -- the nodes
 have hL0:Lay0 w.Kerf (mkT w.Kerf u 0 ⟨pt.Frame,1⟩) u 0 0 ⟨pt.Frame,1⟩:=by
  have:=qGu w.Kerf u 0 ⟨pt.Frame,1⟩ [] [];rw[kX,ul] at this;exact this
 have hmk:=qAI w.Kerf u 0 ⟨pt.Frame,1⟩;have hlinkL:=hL0.link;have hkind:=hL0.kind hk;have hll:(wH u 0 (mkT w.Kerf u 0 ⟨pt.Frame,1⟩)).length=szT u:=by rw[TN,hmk]
 have hpos:=JR u;have hun:Un (wH u 0 (mkT w.Kerf u 0 ⟨pt.Frame,1⟩)) 0 (szT u):=λj _ hj=>by
  have hs:=FY u 0 (mkT w.Kerf u 0 ⟨pt.Frame,1⟩) j (by omega);have hm:=qIB w.Kerf u 0 ⟨pt.Frame,1⟩ _ (TO (x:=j) (by omega));exact⟨by rw[hs.s];exact hm.1,by rw[hs.g];exact hm.2⟩
 refine⟨u,updL (wH u 0 (mkT w.Kerf u 0 ⟨pt.Frame,1⟩)) 0 ((gOf pl s d p w t).stN pt.Frame),hn,?_,⟨hlv,hct⟩,?_⟩
 ·refine⟨by rw[wF,hll],hsz,hk,hwf,Lay.to (wF _ _ _) (λk=>?_) hlinkL,?_⟩
  ·by_cases e:k=0
   ·subst e;rw[LB _ (by omega)];exact qBr _ _ _
   ·rw[XF _ e];exact HB.rfl' _
  ·obtain⟨O,B,q,_⟩:=St29.fresh (g:=gOf pl s d p w t) (N:=wH u 0 (mkT w.Kerf u 0 ⟨pt.Frame,1⟩)) hok (N':=updL (wH u 0 (mkT w.Kerf u 0 ⟨pt.Frame,1⟩)) 0 ((gOf pl s d p w t).stN pt.Frame)) (h:=0) hwf hk hwf hlinkL hun (ko _) (λk k1 _=>XF _ (by omega)) (LB _ (by omega));exact⟨O,B,q⟩
 ·unfold RA;rw[qG6,qHo.2 h,qL3,if_pos h.any,qHN h.sol,qFq h.pr hpl,(qG7 s).1,qAx h.sol];unfold YS;rw[YO (by omega)];simp only[kg,bne_self_eq_false,kp,ki];have hlen:pt.Nodes.length=szT u:=by rw[hn];rfl
  have e1:=qAM (bd:=ZI p) pt (lvP pt w.Kerf) 0 w.Kerf (by omega) u ⟨pt.Frame,1⟩ 0 0 (FUEL-szT u) [] [] hk (by omega) (λk _=>by rw[kv,hn]) (by rw[hlv];omega) (λk _=>by rw[kv,hlv]) (ko _) rfl (ko _);have hfu:FUEL-szT u+szT u=FUEL:=by rw[QN];omega
  obtain⟨m,hm⟩:∃m,FUEL-szT u=m+1:=⟨FUEL-szT u-1,by rw[QN];omega⟩
  rw[hfu,hm,zR,kd (by omega)] at e1;simp only[kp,ul] at e1;have e1':zR pt (lvP pt w.Kerf,0) FUEL 0 0 [] []=some (mkT w.Kerf u 0 ⟨pt.Frame,1⟩,zs29 (ZO u 0)):=e1;rw[e1'];simp only[kg];unfold BZ;have e2:zP FUEL 0 s d p w.Kerf w.Trim w.Pitch w.Step t.Chip t.Dust t.Fine (qZ s) (zs29 (ZO u 0)) (mkT w.Kerf u 0 ⟨pt.Frame,1⟩)=some (((0+szT u:Nat):Int),wH u 0 (mkT w.Kerf u 0 ⟨pt.Frame,1⟩)):=qGH s d p _ _ _ _ _ _ _ _ _ u 0 FUEL _ hkind (by rw[QN];omega) (by omega);rw[e2];simp only[kg]
  have e3:=(qAR 0 pt.Frame (wH u 0 (mkT w.Kerf u 0 ⟨pt.Frame,1⟩)) w.Kerf w.Trim w.Pitch w.Step t.Chip t.Dust t.Fine (qZ s) (zs29 (ZO u 0)) [] (by omega) h.sol h.df h.pr h.vw.step h.vw.fine hwf (qBm (g:=gOf pl s d p w t) hk hlinkL hwf)).1;have e3':ZA 0 pt.Frame s d p w.Kerf w.Trim w.Pitch w.Step t.Chip t.Dust t.Fine (qZ s) (zs29 (ZO u 0)) (wH u 0 (mkT w.Kerf u 0 ⟨pt.Frame,1⟩))=some (updL (wH u 0 (mkT w.Kerf u 0 ⟨pt.Frame,1⟩)) 0 (stN s d p w.Step t.Fine pt.Frame)):=e3;rw[e3'];rfl
theorem qLN (h:¬VY s d p pt w t):RA s d p pt w t=some (.inl (chkY s d p pt w t))/\chkY s d p pt w t≠0:=by
 have hc:¬chkY s d p pt w t=0:=λe=>h (qHo.1 e);refine⟨?_,hc⟩;unfold RA;rw[qG6];have:(chkY s d p pt w t !=0)=true:=by simpa using hc
 simp only[kg,this,ki]
end Go.SL.Saw

namespace Go.SL.Saw
set_option maxRecDepth 100000
theorem AU :PX=some true:=by kernel_rfl
end Go.SL.Saw

namespace Go.SL.Saw
structure LM (g:G29) (t:T) (fr:Rect) (N:List qA) (ri:List Int) (S:List Rect):Prop where
 ex:∃h,LW g t fr N h S/\(ri=zs29 (restT h t 0)\/ri=zs29 [])
variable {pl :Bool} {s:List qF} {d:List qH} {p:List Product} {pt:Pattern} {w:Saw} {t:Rates} {u:T} {N:List qA} {ri:List Int} {S:List Rect}
abbrev cutL (s:List qF) (d:List qH) (p:List Product) (w:Saw) (t:Rates) (sh:Int) (ri:List Int) (N:List qA) (S:List Rect):=wT sh s d p w.Kerf w.Trim w.Pitch w.Step t.Chip t.Dust t.Fine (qZ s) ri N S
structure qCR (s:List qF) (d:List qH) (p:List Product) (w:Saw) (t:Rates) (N:List qA) (ri:List Int) (S O:List Rect) (B:List qM):Prop where
 yl:wM s d p w.Kerf w.Trim w.Pitch w.Step t.Chip t.Dust t.Fine (qZ s) ri N S=some (qH9 s w.Trim t.Chip t.Dust S O B,wA s O)
 bd:wI s d p w.Kerf w.Trim w.Pitch w.Step t.Chip t.Dust t.Fine (qZ s) ri N S=some B
 rc:yR s d p w.Kerf w.Trim w.Pitch w.Step t.Chip t.Dust t.Fine (qZ s) ri N S=some O
 gd:∀c∈B,IX s c
 bl:B.length<=127
 us:wA s S+wA s O+(sumL (brdV s) B+sumL (trmV s w.Trim) B)<=volT s
theorem usedE (g:G29) (S O:List Rect) (B:List qM):g.used S O B=wA g.s S+wA g.s O+(sumL (brdV g.s) B+sumL (trmV g.s g.trim) B):=by
 unfold G29.used wA;have:sumL g.bt B=sumL (brdV g.s) B+sumL (trmV g.s g.trim) B:=qJs (brdV g.s) (trmV g.s g.trim) B;rw[this];rfl
theorem qGN (s:List qF) (l:List Rect):0<=wA s l:=qGw λr _=>qJw s r
theorem brds_nn (s:List qF) (l:List qM):0<=sumL (brdV s) l:=qGw λc _=>GR _ _ _ _
theorem trms_nn (s:List qF) (trim:Int) (l:List qM):0<=sumL (trmV s trim) l:=qGw λc _=>by
 unfold trmV;have:=GR s c.Box.X c.Box.Y (qAz c.Box.Z trim);have:=GR s c.Box.X c.Box.Y (qCZ c.Box.Z trim (qZ s));omega
theorem LW.shows (h:VY s d p pt w t) {hh:Nat} (L:LW (gOf pl s d p w t) u pt.Frame N hh S):∃O B,St29 (gOf pl s d p w t) N hh u 0 pt.Frame S O B/\qCR s d p w t N (zs29 (restT hh u 0)) S O B/\qCR s d p w t N (zs29 []) S [] B:=by
 obtain⟨O,B,q⟩:=L.st;have hok:=h.ok29 (pl:=pl);obtain⟨b1,b2,b3,b4,b5⟩:=q.bound hok L.ok L.wf L.lay L.wf;have hN:=L.len;have hle:=L.le;have eB:bl29 N 0 N.length=B:=by rw[hN];exact q.bl
 have eO:=q.rl;have hrl:(restT hh u 0).length<=127:=by
  have:(restT hh u 0).length<=(ZO u 0).length:=List.length_filter_le _ _;have:=qAt u 0;omega
 have hrm:∀k∈restT hh u 0,k<N.length:=λk hk=>by have:=qAU hk;omega
 have hv:=qM4 h.sol pt.Frame;rw[usedE] at b1;have b1':wA s S+wA s O+(sumL (brdV s) B+sumL (trmV s w.Trim) B)<=volT s:=uZ b1 hv;have hgd:∀c∈bl29 N 0 N.length,IX s c:=by rw[eB];exact b2
 have nO:=qGN s O;refine⟨O,B,q,⟨?_,?_,?_,b2,by omega,b1'⟩,⟨?_,?_,?_,b2,by omega,?_⟩⟩
 ·have:=qFy h.sol d p w.Kerf w.Trim w.Pitch w.Step t.Chip t.Dust t.Fine S (restT hh u 0) N h.vw.trim h.vw.chip h.vw.dust (by omega) (by omega) (by omega) hrm hgd (by rw[eB];omega) (by rw[eO];omega);rw[eB,eO] at this;exact this
 ·have:=CM s d p w.Kerf w.Trim w.Pitch w.Step t.Chip t.Dust t.Fine (qZ s) S (zs29 (restT hh u 0)) N (by omega);rw[eB] at this;exact this
 ·have:=qBg s d p w.Kerf w.Trim w.Pitch w.Step t.Chip t.Dust t.Fine (qZ s) S (restT hh u 0) N (by omega) hrm;rw[eO] at this;exact this
 ·have:=qFy h.sol d p w.Kerf w.Trim w.Pitch w.Step t.Chip t.Dust t.Fine S [] N h.vw.trim h.vw.chip h.vw.dust (by omega) (by omega) (by simp) (λk hk=>by cases hk) hgd (by rw[eB];omega) (by simp);rw[eB] at this;exact this
 ·have:=CM s d p w.Kerf w.Trim w.Pitch w.Step t.Chip t.Dust t.Fine (qZ s) S (zs29 []) N (by omega);rw[eB] at this;exact this
 ·exact qBg s d p w.Kerf w.Trim w.Pitch w.Step t.Chip t.Dust t.Fine (qZ s) S [] N (by simp) (λk hk=>by cases hk)
 ·have e0:wA s []=0:=rfl;rw[e0];omega
theorem LW.cut (h:VY s d p pt w t) {hh j:Nat} {tl:List Nat} (L:LW (gOf pl s d p w t) u pt.Frame N hh S) (e:restT hh u 0=j::tl) {O:List Rect} {B:List qM} (q:St29 (gOf pl s d p w t) N hh u 0 pt.Frame S O B) (sh:Int) (hsh:pl=true->sh=0):
  (cutL s d p w t sh (zs29 (j::tl)) N S=some (9,zs29 (j::tl),N,S)/\pl=false)\/
  ∃(N':List qA) (c:Rect) (O':List Rect) (B':List qM),cutL s d p w t sh (zs29 (j::tl)) N S=some (0,zs29 tl,N',S++[c])/\LW (gOf pl s d p w t) u pt.Frame N' (j+1) (S++[c])/\restT (j+1) u 0=tl/\St29 (gOf pl s d p w t) N' (j+1) u 0 pt.Frame (S++[c]) O' B'/\B.Sublist B'/\wA s O'<=wA s O/\(gOf pl s d p w t).used (S++[c]) O' B'<=(gOf pl s d p w t).used S O B:=by
 have hok:=h.ok29 (pl:=pl);obtain⟨n,a,b,l',x',rj,Q⟩:=qI6 hok L.ok L.wf L.lay L.wf q e (λ_=>rfl);obtain⟨b1,b2,b3,b4,b5⟩:=q.bound hok L.ok L.wf L.lay L.wf;have hN:=L.len;have hle:=L.le;have htl:tl.length<=127:=by
  have h1:(restT hh u 0).length<=(ZO u 0).length:=List.length_filter_le _ _;have:=qAt u 0;rw[e] at h1;simp at h1;omega
 have ec:=qMJ hok Q w.Trim w.Pitch t.Chip t.Dust (qZ s) tl sh (by omega) (by omega) (by omega);by_cases c:sh<=(alP rj n.Kind).A-n.At\/(alP rj n.Kind).B-n.At<=sh
 ·rw[if_pos c] at ec;refine .inl ⟨ec,?_⟩;cases hp:pl with
  |false=>rfl
  |true=>
   subst hp;have h1:=Q.pr rfl;have h2:=qC1 Q.ok.1 Q.ok.2.1;rw[<-h1] at h2;have:=hsh rfl;omega
 ·rw[if_neg c] at ec;right;have hlt:=Q.hi;rw[wD] at hlt;have pa:=JR a;have pb:=JR b;have f0:∀k,k≠j+1->k≠j+1+szT a->nAt (cutN (gOf pl s d p w t) N j n a rj (n.At+sh)) k=nAt N k:=λk k1 k2=>by unfold cutN;rw[XF _ k2,XF _ k1]
  have f1:nAt (cutN (gOf pl s d p w t) N j n a rj (n.At+sh)) (j+1)=(gOf pl s d p w t).stN (fiP rj ⟨n.Kind,n.At+sh⟩) (nAt N (j+1)):=by
   unfold cutN;rw[XF _ (by omega),LB _ (by omega)]
  have f2:nAt (cutN (gOf pl s d p w t) N j n a rj (n.At+sh)) (j+1+szT a)=(gOf pl s d p w t).stN (seP rj ⟨n.Kind,n.At+sh⟩ (gOf pl s d p w t).kerf) (nAt N (j+1+szT a)):=by
   unfold cutN;rw[LB _ (by rw[wF];omega),XF _ (by omega)]
  obtain⟨O',B',s',bs,os,us⟩:=Q.cut (n.At+sh) _ ⟨by omega,λq=>by rw[hsh q,Int.add_zero]⟩ f0 f1 f2;exact⟨_,_,O',B',ec,⟨by rw[qJe,hN],hle,L.ok,L.wf,L.lay.to (qJe _ _ _ _ _) (qLh _ _ _ _ _ (by omega) (by omega)),O',B',s'⟩,qMl e,s',bs,os,us⟩
end Go.SL.Saw

namespace Go.SL.Saw
variable {s :List qF} {d:List qH} {p:List Product} {pt:Pattern} {w:Saw} {t:Rates} {u:T} {N:List qA} {ri:List Int} {S:List Rect}
theorem qKB (a:qN):∃b,NI a=some b:=by
 unfold NI DM;obtain⟨b,hb,hs⟩:=qKO a;rw[hb];simp only[kg];cases b with
 |false=>exact⟨_,rfl⟩
 |true=>
  obtain⟨h1,h2,h3,h4⟩:=hs rfl;obtain⟨n,hn⟩:=qKj a (by omega) (by omega);rw[ki,hn];exact⟨_,rfl⟩
theorem VY.pl (h:VY s d p pt w t):p.length<=16:=qHb (by rw[h.pr];simp)
theorem qCR.nn {O:List Rect} {B:List qM} (h:VY s d p pt w t) (q:qCR s d p w t N ri S O B):0<=sumL (brdV s) B/\0<=wA s S/\0<=sumL (trmV s w.Trim) B/\0<=wA s O/\volT s<=28800000000:=
 ⟨brds_nn _ _,qGN _ _,trms_nn _ _ _,qGN _ _,(qLS h.sol).2⟩
theorem LM.shows (h:VY s d p pt w t) (C:LM (gOf false s d p w t) u pt.Frame N ri S):∃O B,qCR s d p w t N ri S O B:=by
 obtain⟨hh,L,e⟩:=C.ex;obtain⟨O,B,_,q1,q2⟩:=L.shows h;rcases e with rfl|rfl
 ·exact⟨O,B,q1⟩
 ·exact⟨[],B,q2⟩
theorem LM.abandon (C:LM (gOf false s d p w t) u pt.Frame N ri S) (e1 e2 e3 e4 e5 e6 e7 e8:Int) (s':List qF) (d':List qH) (p':List Product):∃e ri',yY s' d' p' e1 e2 e3 e4 e5 e6 e7 e8 ri N S=some (e,ri')/\LM (gOf false s d p w t) u pt.Frame N ri' S/\(e=0->ri'=zs29 []/\ri≠[])/\(e≠0->ri'=ri):=by
 obtain⟨hh,L,e⟩:=C.ex;unfold yY;cases ri with
 |nil=>exact⟨18,[],rfl,⟨hh,L,.inr rfl⟩,λc=>absurd c (by decide),λ_=>rfl⟩
 |cons z l=>
  have:((((z::l).length:Nat):Int)==0)=false:=by rw[ua];simp;omega
  rw[this];exact⟨0,[],rfl,⟨hh,L,.inr rfl⟩,λ_=>⟨rfl,by simp⟩,λc=>absurd rfl c⟩
theorem LM.cut (h:VY s d p pt w t) (C:LM (gOf false s d p w t) u pt.Frame N ri S) (sh:Int):∃e ri' N' S',cutL s d p w t sh ri N S=some (e,ri',N',S')/\LM (gOf false s d p w t) u pt.Frame N' ri' S':=by
 obtain⟨hh,L,e⟩:=C.ex;have hnil:∀hh,LW (gOf false s d p w t) u pt.Frame N hh S->∃e ri' N' S',cutL s d p w t sh (zs29 []) N S=some (e,ri',N',S')/\LM (gOf false s d p w t) u pt.Frame N' ri' S':=λhh L=>⟨18,zs29 [],N,S,rfl,⟨hh,L,.inr rfl⟩⟩
 rcases e with e|rfl
 ·cases hr:restT hh u 0 with
  |nil=>rw[e,hr];exact hnil hh L
  |cons j tl=>
   obtain⟨O,B,q⟩:=L.st;rw[e,hr];rcases L.cut h hr q sh (λc=>by cases c) with⟨ec,_⟩|⟨N',c,O',B',ec,L',hr',_⟩
   ·exact⟨9,_,N,S,ec,⟨hh,L,.inl (by rw[hr])⟩⟩
   ·exact⟨0,_,N',_,ec,⟨j+1,L',.inl (by rw[hr'])⟩⟩
 ·exact hnil hh L
theorem vol_L9 (a:qN) (hs:VSol a.Solid) {B:List qM} (hl:B.length<=1000):wS a B FUEL 0 0=some (sumL (brdV a.Solid) B):=by
 have k1:=GM B (λn (q:Int) x=>wS a B n q x) (λx=>(x:Int)) (λ_ c q=>q+brdV a.Solid c) (λq=>q) (λx q=>0<=q/\q<=28800000000*(x:Int)) (by omega)
  (λn x q hx hi=>by
   have b:=qFW hs (B.getD x du).Box.X (B.getD x du).Box.Y (B.getD x du).Box.Z;have eb:brdV a.Solid (B.getD x du)=volS a.Solid (B.getD x du).Box.X (B.getD x du).Box.Y (B.getD x du).Box.Z:=rfl;refine⟨?_,by rw[eb];omega⟩;rw[wS,ka (by omega),zF (by omega),zL (by omega)];simp only[ki,ks,kg,qBV hs];rw[qX (by omega),eb])
  (λn q _=>by rw[wS];simp) (i:=0) rfl 0 (by omega)
 rw[EC (brdV a.Solid),uO] at k1;exact k1.1
theorem qLo (a:qN) (h:VY a.Solid a.Defects a.Products a.Pattern a.Saw a.Rates) (C:LM (gOf false a.Solid a.Defects a.Products a.Saw a.Rates) u a.Pattern.Frame N ri S) (N0:List qA) (ri0:List Int) (x:Nat) (hx:x<1000) (rec:Int->List qA->List Int->List Rect->Option (Bool⊕Unit)):
  QS a ((⟨a.Solid,a.Defects,a.Products,a.Saw,a.Rates,qZ a.Solid,N0,ri0,[]⟩:qS),(0:Int)) (x:Int) rec N ri S=rec ((x+1:Nat):Int) N ri S:=by
 obtain⟨O,B,q⟩:=C.shows h;obtain⟨n1,n2,n3,n4,n5⟩:=q.nn h;have us:=q.us;unfold QS wC;simp only;rw[q.yl,qGQ h.sol,q.bd];simp only[kg];rw[vol_L9 a h.sol (by have:=q.bl;omega)];have eC:w64 (w64 (w64 (volT a.Solid-sumL (brdV a.Solid) B)-(volT a.Solid-sumL (brdV a.Solid) B-(wA a.Solid S+sumL (trmV a.Solid a.Saw.Trim) B)-wA a.Solid O))-(wA a.Solid S+sumL (trmV a.Solid a.Saw.Trim) B))=wA a.Solid O:=by
  rw[qX (n:=volT a.Solid-sumL (brdV a.Solid) B) (by omega),qX (n:=volT a.Solid-sumL (brdV a.Solid) B-_) (by omega),qX (by omega)];omega
 unfold qH9;simp only;rw[eC,kd (show¬sumL (brdV a.Solid) B<0 by omega),kd (show¬volT a.Solid-sumL (brdV a.Solid) B-(wA a.Solid S+sumL (trmV a.Solid a.Saw.Trim) B)-wA a.Solid O<0 by omega),kd (show¬wA a.Solid S+sumL (trmV a.Solid a.Saw.Trim) B<0 by omega),kd (show¬wA a.Solid O<0 by omega),zL (by omega)];simp
theorem qJv (a:qN) (l:List zH) (h:VY a.Solid a.Defects a.Products a.Pattern a.Saw a.Rates) (N0:List qA) (ri0:List Int):∀(k i n:Nat) (N:List qA) (ri:List Int) (S:List Rect),i+k=24->k<n->LM (gOf false a.Solid a.Defects a.Products a.Saw a.Rates) u a.Pattern.Frame N ri S->
  zQ a l ((⟨a.Solid,a.Defects,a.Products,a.Saw,a.Rates,qZ a.Solid,N0,ri0,[]⟩:qS),(0:Int)) n (i:Int) N ri S=some (.inr ())
 |0,i,n,N,ri,S,hi,hn,C=>by
  obtain⟨n,rfl⟩:∃m,n=m+1:=⟨n-1,by omega⟩
  rw[zQ,kd (show¬(i:Int)<24 by omega)];unfold QT;cases decide ((i:Int)<(l.length:Int))<;>rfl
 |k+1,i,n,N,ri,S,hi,hn,C=>by
  obtain⟨n,rfl⟩:∃m,n=m+1:=⟨n-1,by omega⟩
  rw[zQ];unfold QT;by_cases c:i<l.length
  ·rw[ka (show(i:Int)<(l.length:Int) by omega),ka (show(i:Int)<24 by omega),zF (by omega)];simp only[ki];cases (l.getD (i:Int).toNat du).Stop with
   |true=>
    obtain⟨e,ri',ea,C',_⟩:=C.abandon a.Saw.Kerf a.Saw.Trim a.Saw.Pitch a.Saw.Step a.Rates.Chip a.Rates.Dust a.Rates.Fine (qZ a.Solid) a.Solid a.Defects a.Products;rw[ki,ea];simp only[kg];rw[qLo a h C' N0 ri0 i (by omega)];exact qJv a l h N0 ri0 k (i+1) n N ri' S (by omega) (by omega) C'
   |false=>
    obtain⟨e,ri',N',S',ea,C'⟩:=C.cut h (l.getD (i:Int).toNat du).Shift;unfold cutL at ea;rw[kp,ea];simp only[kg];rw[qLo a h C' N0 ri0 i (by omega)];exact qJv a l h N0 ri0 k (i+1) n N' ri' S' (by omega) (by omega) C'
  ·rw[kd (show¬(i:Int)<(l.length:Int) by omega)];rfl
theorem qMb (pl:Bool) (a:qN) (h:VY a.Solid a.Defects a.Products a.Pattern a.Saw a.Rates):∃(u:T) (N:List qA),a.Pattern.Nodes=jF u/\LW (gOf pl a.Solid a.Defects a.Products a.Saw a.Rates) u a.Pattern.Frame N 0 []/\(lvP a.Pattern a.Saw.Kerf=lvT a.Saw.Kerf u ⟨a.Pattern.Frame,1⟩/\ctP a.Pattern a.Saw.Kerf=ctT a.Saw.Kerf u ⟨a.Pattern.Frame,1⟩)/\
  JL a=some (.inr (⟨a.Solid,a.Defects,a.Products,a.Saw,a.Rates,qZ a.Solid,N,zs29 (ZO u 0),[]⟩,0)):=by
 obtain⟨u,N,hn,L,hl,e⟩:=qMM (pl:=pl) h h.pl;refine⟨u,N,hn,L,hl,?_⟩;unfold JL;rw[e];rfl
theorem qKI (a:qN) (h:¬VY a.Solid a.Defects a.Products a.Pattern a.Saw a.Rates):∃e,e≠0/\JL a=some (.inl e)/\e=chkY a.Solid a.Defects a.Products a.Pattern a.Saw a.Rates:=by
 obtain⟨e,hc⟩:=qLN h;refine⟨_,hc,?_,rfl⟩;unfold JL;rw[e];rfl
theorem qCH (a:qN) (l:List zH) {P Q:Prop} (_:P) (_:Q):KK a l=some true:=by
 unfold KK;obtain⟨b,hb⟩:=qKB a;rw[hb];simp only[kg];cases b with
 |false=>rw[show(!false)=true from rfl,ki,AU];rfl
 |true=>
  rw[show(!true)=false from rfl,kp];by_cases h:VY a.Solid a.Defects a.Products a.Pattern a.Saw a.Rates
  ·obtain⟨u,N,hn,L,hl,e⟩:=qMb false a h;rw[e];simp only[kg,Sum.elim_inr,bne_self_eq_false,kp];unfold JG;simp only[kp];have e5:=qJv a l h N (zs29 (ZO u 0)) 24 0 FUEL N (zs29 (restT 0 u 0)) [] rfl (by rw[QN];omega) ⟨0,L,.inl rfl⟩;rw[rest_lo (ko 0)] at e5;rw[show(0:Int)=((0:Nat):Int) from rfl] at e5⊢;rw[e5];simp only[kg,Sum.elim_inr,AU]
  ·obtain⟨e,hc,he,_⟩:=qKI a h;rw[he];simp only[kg,Sum.elim_inl];have e1:(e !=0)=true:=by simpa using hc
   have e2:(e==0)=false:=by simpa using hc
   unfold JM JK;rw[e1,e2];simp[AU]
end Go.SL.Saw

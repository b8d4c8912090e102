/- The saw line: the cut. -/
import Derived.Test.YtpommeghjpbepaaEMa6
import Derived.Test.YtpommeghjpbepaaEMod
set_option linter.unusedVariables false
set_option linter.unusedSimpArgs false
namespace Go.SL.Saw
variable {g :G29} {N:List qA}
theorem qAV {t:T} {x:qB} {i l:Nat} (hk:okT (ZM g.p) g.kerf t x) (hl:Lay g.kerf N t i l x) (hx:WR x.rect):qIc g.p (nAt N i):=by
 cases t with
 |leaf n=>exact qEr hk hl hx
 |rip n a b=>exact λc=>absurd c (qKc hk hl)
theorem XH {i k:Nat} (f:qA->qA) (h:k≠i):nAt (updL N i f) k=nAt N k:=qJ1 f h
theorem LB {i:Nat} (f:qA->qA) (h:i<N.length):nAt (updL N i f) i=f (nAt N i):=qAj f h
def cutN (g:G29) (N:List qA) (j:Nat) (n:Node) (a:T) (rj:Rect) (c:Int):List qA:=
 updL (updL N (j+1) (g.stN (fiP rj ⟨n.Kind,c⟩))) (j+1+szT a) (g.stN (seP rj ⟨n.Kind,c⟩ g.kerf))
theorem qIy (j:Nat) (n:Node) (a:T) (rj:Rect) (c:Int):(cutN g N j n a rj c).length=N.length:=by unfold cutN;rw[wN,wN]
theorem qLC (j:Nat) (n:Node) (a:T) (rj:Rect) (c:Int) (h1:j+1<N.length) (h2:j+1+szT a<N.length) (k:Nat):HD (nAt N k) (nAt (cutN g N j n a rj c) k):=by
 have pa:=YG a;unfold cutN;by_cases e2:k=j+1+szT a
 ·subst e2;rw[LB _ (by rw[wN];exact h2),XH _ (by omega)];exact qBA g _ _
 ·rw[XH _ e2];by_cases e1:k=j+1
  ·subst e1;rw[LB _ h1];exact qBA g _ _
  ·rw[XH _ e1];exact HD.rfl' _
theorem qMv (ok:Ok29 g) {t:T} {i:Nat} {r:Rect} {S O:List Rect} {B:List qL} {j:Nat} {n:Node} {a b:T} {l':Nat} {x':qB} {rj:Rect} (Q:qMn g N t i r S O B j n a b l' x' rj) (trim e2 chip dust len:Int) (tl:List Nat) (sh:Int) (hS:S.length<=200) (ht:tl.length<=200) (hN:N.length<=200):
  jC sh g.s g.d g.p g.kerf trim e2 g.step chip dust g.fine len (zs29 (j::tl)) N S=
   if sh<=(alP rj n.Kind).A-n.At\/(alP rj n.Kind).B-n.At<=sh then some (9,zs29 (j::tl),N,S) else some (0,zs29 tl,cutN g N j n a rj (n.At+sh),S++[cuP rj ⟨n.Kind,n.At+sh⟩ g.kerf]):=by
 have hlt:=Q.lay.lt;rw[wL] at hlt;have pa:=YG a;have pb:=YG b;obtain⟨l1,l2,l3,l4,l5,l6,l7⟩:=Q.lay;have hin:=qC9 Q.ok.1 Q.ok.2.1;have hxr:=Q.wx;have hwr:=Q.wr;obtain⟨wf,ws⟩:=qGb ok.hk Q.ok Q.wx;have g1:=qAV Q.ok.2.2.1 l6 wf;have g2:=qAV Q.ok.2.2.2 l7 ws;have hat: -600<=n.At/\n.At<=600:=by
  obtain⟨⟨a1,a2,a3⟩,a4,a5,a6⟩:=hxr;rcases ripB_iff.1 Q.ok.1 with e|e
  ·have:alP x'.rect n.Kind=x'.rect.X:=by unfold alP;rw[e];rfl
   rw[this] at hin;omega
  ·have:alP x'.rect n.Kind=x'.rect.Y:=by unfold alP;rw[e];rfl
   rw[this] at hin;omega
 have ez:(zs29 (j::tl)).getD (0:Int).toNat du=(j:Int):=rfl;have ek:N.getD j du=nAt N j:=rfl;have el:(zs29 (j::tl)).length=tl.length+1:=by rw[FD];rfl
 have hkf:=ok.hk;unfold jC;rw[el,ez];have e0:(((tl.length+1:Nat):Int)==0)=false:=by
  rw[ua];omega
 rw[e0,kp,zH (by omega),ki,zH (by omega),ki,ks,ek,l2,l3,Q.rc];obtain⟨⟨x1,x2,x3⟩,y1,y2,y3⟩:=hwr;have c3:∀c,(alP rj n.Kind).A<c/\c<(alP rj n.Kind).B->Cut3 rj (fiP rj ⟨n.Kind,c⟩) (cuP rj ⟨n.Kind,c⟩ g.kerf) (seP rj ⟨n.Kind,c⟩ g.kerf):=λc hc=>(qFP (kerf:=g.kerf) Q.ok.1 Q.wr hc ok.hk).1;have hdrop:(zs29 (j::tl)).drop ((1:Int).toNat)=zs29 tl:=rfl;have st1:∀(c:Int),(alP rj n.Kind).A<c/\c<(alP rj n.Kind).B->∀(ri:List Int) (sw:List Rect),zY ((j+1:Nat):Int) (fiP rj ⟨n.Kind,c⟩) g.s g.d g.p g.kerf trim e2 g.step chip dust g.fine len ri N sw=some (updL N (j+1) (g.stN (fiP rj ⟨n.Kind,c⟩))):=λc hc ri sw=>
  (qA4 (j+1) _ N g.kerf trim e2 g.step chip dust g.fine len ri sw (by omega) ok.hs ok.hd ok.hp ok.hst ok.hf (c3 c hc).wf g1).2
 have st2:∀(c:Int),(alP rj n.Kind).A<c/\c<(alP rj n.Kind).B->∀(ri:List Int) (sw:List Rect),zY ((j+1+szT a:Nat):Int) (seP rj ⟨n.Kind,c⟩ g.kerf) g.s g.d g.p g.kerf trim e2 g.step chip dust g.fine len ri (updL N (j+1) (g.stN (fiP rj ⟨n.Kind,c⟩))) sw=some (cutN g N j n a rj c):=λc hc ri sw=>
  (qA4 (j+1+szT a) _ (updL N (j+1) (g.stN (fiP rj ⟨n.Kind,c⟩))) g.kerf trim e2 g.step chip dust g.fine len ri sw (by rw[wN];omega) ok.hs ok.hd ok.hp ok.hst ok.hf (c3 c hc).ws (by
   rw[show(updL N (j+1) (g.stN (fiP rj ⟨n.Kind,c⟩))).getD (j+1+szT a) du=nAt N (j+1+szT a) from qJ1 _ (by omega)];exact g2)).2
 rcases ripB_iff.1 Q.ok.1 with e|e
 ·have ea:alP rj n.Kind=rj.X:=by unfold alP;rw[e];rfl
  rw[ea] at c3 st1 st2⊢;rw[show(n.Kind==3)=false by rw[e];rfl,kp,qY (n:=rj.X.A-n.At) (by omega),qY (n:=rj.X.B-n.At) (by omega)];unfold KI;by_cases c1:sh<=rj.X.A-n.At
  ·rw[ka c1,ki,ki,if_pos (.inl c1)]
  ·rw[kd c1,kp];by_cases c2:rj.X.B-n.At<=sh
   ·rw[ka (show sh≥rj.X.B-n.At from c2),ki,if_pos (.inr c2)]
   ·have hc:rj.X.A<n.At+sh/\n.At+sh<rj.X.B:=by omega
    rw[kd (show¬sh≥rj.X.B-n.At from c2),kp,if_neg (by omega),ez,el,hdrop,ks,ek,l3,l4,l5,Q.rc];rw[show slOk 1 ((tl.length+1:Nat):Int) (tl.length+1)=true by unfold slOk;exact ka (by omega),ki,YR (by omega),ki,qY (n:=n.At+sh) (by omega)];have ew:∀sp,wiP rj n.Kind sp=⟨sp,rj.Y⟩:=λsp=>by unfold wiP;rw[e];rfl
    have h1:=st1 (n.At+sh) hc;have h2:=st2 (n.At+sh) hc;unfold fiP at h1 h2;unfold seP at h2;unfold cuP;unfold enP at h2⊢;simp only[ew,ea] at h1 h2⊢;rw[h1];simp only[kg];rw[h2];rfl
 ·have ea:alP rj n.Kind=rj.Y:=by unfold alP;rw[e];rfl
  rw[ea] at c3 st1 st2⊢;rw[show(n.Kind==3)=true by rw[e];rfl,ki,qY (n:=rj.Y.A-n.At) (by omega),qY (n:=rj.Y.B-n.At) (by omega)];unfold KP;by_cases c1:sh<=rj.Y.A-n.At
  ·rw[ka c1,ki,ki,if_pos (.inl c1)]
  ·rw[kd c1,kp];by_cases c2:rj.Y.B-n.At<=sh
   ·rw[ka (show sh≥rj.Y.B-n.At from c2),ki,if_pos (.inr c2)]
   ·have hc:rj.Y.A<n.At+sh/\n.At+sh<rj.Y.B:=by omega
    rw[kd (show¬sh≥rj.Y.B-n.At from c2),kp,if_neg (by omega),ez,el,hdrop,ks,ek,l3,l4,l5,Q.rc];rw[show slOk 1 ((tl.length+1:Nat):Int) (tl.length+1)=true by unfold slOk;exact ka (by omega),ki,YR (by omega),ki,qY (n:=n.At+sh) (by omega)];have ew:∀sp,wiP rj n.Kind sp=⟨rj.X,sp⟩:=λsp=>by unfold wiP;rw[e];rfl
    have h1:=st1 (n.At+sh) hc;have h2:=st2 (n.At+sh) hc;unfold fiP at h1 h2;unfold seP at h2;unfold cuP;unfold enP at h2⊢;simp only[ew,ea] at h1 h2⊢;rw[h1];simp only[kg];rw[h2];rfl
end Go.SL.Saw

namespace Go.SL.Saw
def r00 :Rect:=⟨⟨0,0⟩,⟨0,0⟩⟩
def c00 :qL:=⟨0,0,⟨⟨0,0⟩,⟨0,0⟩,⟨0,0⟩⟩,0⟩
def mkT (kerf:Int):T->Nat->qB->List qA
 | .leaf n,l,x=>[⟨n.Kind,n.At,0,0,false,r00,(l:Int),x.rect,false,c00⟩]
 | .rip n a b,l,x=>⟨n.Kind,n.At,0,0,false,r00,0,r00,false,c00⟩::(mkT kerf a l ⟨fiP x.rect n,x.level+1⟩++mkT kerf b (l+(lvT kerf a ⟨fiP x.rect n,x.level+1⟩).length) ⟨seP x.rect n kerf,x.level+1⟩)
theorem qAl (kerf:Int):∀(t:T) (l:Nat) (x:qB),(mkT kerf t l x).length=szT t
 | .leaf n,l,x=>rfl
 | .rip n a b,l,x=>by
  unfold mkT;rw[wL,uE,kE,qAl,qAl];omega
theorem qJB (kerf:Int):∀(t:T) (l:Nat) (x:qB),∀y∈mkT kerf t l x,y.stands=false/\y.gives=false
 | .leaf n,l,x,y,hy=>by
  unfold mkT at hy;rw[List.mem_singleton] at hy;subst hy;exact⟨rfl,rfl⟩
 | .rip n a b,l,x,y,hy=>by
  unfold mkT at hy;rcases ui.1 hy with rfl|hy
  ·exact⟨rfl,rfl⟩
  ·rcases List.mem_append.1 hy with hy|hy
   ·exact qJB kerf a _ _ y hy
   ·exact qJB kerf b _ _ y hy
theorem qL1 {bd:Rect->Int->Int} {kerf:Int} {n:Node} {x:qB} (h:okT bd kerf (.leaf n) x):(lvT kerf (.leaf n) x).length=1/\((lvT kerf (.leaf n) x).getD 0 du).Rect=x.rect:=by
 rcases(lv_leaf h).1 with e|⟨e,_⟩<;>rw[e]<;>exact⟨rfl,rfl⟩
theorem qGW {α:Type} [Inhabited α] {a b:List α} {k:Nat} (h:k<a.length):(a++b).getD k du=a.getD k du:=by
 rw[ke,kz h,ke]
theorem CE {α:Type} [Inhabited α] {a b:List α} {k:Nat}:(a++b).getD (a.length+k) du=b.getD k du:=by
 rw[ke,ky (by omega),ke,Nat.add_sub_cancel_left]
theorem qIq {bd:Rect->Int->Int} {kerf:Int}:∀(t:T) (x:qB),okT bd kerf t x->(lvT kerf t x).length<=szT t
 | .leaf n,x,h=>by rw[(qL1 h).1];exact YG _
 | .rip n a b,x,h=>by
  rw[(qLA h.1).1,kE,wL];have:=qIq a _ h.2.2.1;have:=qIq b _ h.2.2.2;omega
theorem qAt :∀(t:T) (i:Nat),(ZU t i).length<=szT t
 | .leaf n,i=>ue _
 | .rip n a b,i=>by
  show(ZU a (i+1)++ZU b (i+1+szT a)).length+1<=_;rw[kE,wL];have:=qAt a (i+1);have:=qAt b (i+1+szT a);omega
theorem qBa {bd:Rect->Int->Int} (pt:Pattern) (LV:List Leaf) (e kerf:Int) (hp:pt.Nodes.length<=1000):∀(t:T) (x:qB) (i l m:Nat) (acc:List qA) (ra:List Int),okT bd kerf t x->i+szT t<=pt.Nodes.length->(∀k,k<szT t->pt.Nodes.getD (i+k) du=(jJ t).getD k du)->
  l+(lvT kerf t x).length<=LV.length->(∀k,k<(lvT kerf t x).length->LV.getD (l+k) du=(lvT kerf t x).getD k du)->l<=i->acc.length=i->ra.length<=i->
  zW pt (LV,e) (m+szT t) (l:Int) (i:Int) acc ra=zW pt (LV,e) m ((l+(lvT kerf t x).length:Nat):Int) ((i+szT t:Nat):Int) (acc++mkT kerf t l x) (ra++zs29 (ZU t i))
 | .leaf n,x,i,l,m,acc,ra,hk,hi,hn,hl,hv,hli,ha,hr=>by
  obtain⟨v1,v2⟩:=qL1 hk;have hnr:=hk.1;have e2:(n.Kind==2)=false:=by
   rw[ua];intro c;rw[ripB_iff.2 (.inl c)] at hnr;cases hnr
  have e3:(n.Kind==3)=false:=by
   rw[ua];intro c;rw[ripB_iff.2 (.inr c)] at hnr;cases hnr
  rw[KA] at hi hn⊢;have h0:pt.Nodes.getD i du=n:=hn 0 (by omega);have h1:(LV.getD l du).Rect=x.rect:=by rw[<-v2];exact congrArg Leaf.Rect (hv 0 (by omega))
  rw[v1] at hl⊢;show zW pt (LV,e) (m+1) _ _ _ _=_;rw[zW,ka (by omega),zH (by omega)];simp only[ki,ks,h0,e2,e3,kp];unfold TN TG;rw[kp,inb_t (by omega) (by simp only;omega),ki,YR (by omega),ki,zM (by omega),zM (by omega),ks,ks,h0,h1];show _=zW pt (LV,e) m _ _ _ (ra++[]);rw[kX];rfl
 | .rip n a b,x,i,l,m,acc,ra,hk,hi,hn,hl,hv,hli,ha,hr=>by
  have lr:=(qLA (kerf:=kerf) (n:=n) (a:=a) (b:=b) (x:=x) hk.1).1;rw[lr] at hl hv⊢;rw[kE] at hl hv⊢;rw[wL] at hi hn⊢;have h0:pt.Nodes.getD i du=n:=hn 0 (by omega);rw[show m+(1+szT a+szT b)=(m+szT b+szT a)+1 by omega];have step:zW pt (LV,e) ((m+szT b+szT a)+1) (l:Int) (i:Int) acc ra=zW pt (LV,e) (m+szT b+szT a) (l:Int) ((i+1:Nat):Int) (acc++[⟨n.Kind,n.At,0,0,false,r00,0,r00,false,c00⟩]) (ra++[(i:Int)]):=by
   rw[zW,ka (by omega),zH (by omega)];unfold TN TG;simp only[ki,ks,h0];rw[YR (by omega),YR (by omega),zM (by omega)];rcases ripB_iff.1 hk.1 with q|q
   ·rw[show(n.Kind==2)=true by rw[q];rfl];rfl
   ·rw[show(n.Kind==2)=false by rw[q];rfl,show(n.Kind==3)=true by rw[q];rfl];rfl
  have la:(lvT kerf a ⟨fiP x.rect n,x.level+1⟩).length<=szT a:=qIq a ⟨fiP x.rect n,x.level+1⟩ hk.2.2.1;have na:∀k,k<szT a->pt.Nodes.getD (i+1+k) du=(jJ a).getD k du:=λk hkk=>by
   have:=hn (1+k) (by omega);rw[show i+(1+k)=i+1+k by omega] at this;rw[this,show 1+k=k+1 by omega];show(jJ a++jJ b).getD k du=_;exact qGW hkk
  have nb:∀k,k<szT b->pt.Nodes.getD (i+1+szT a+k) du=(jJ b).getD k du:=λk hkk=>by
   have:=hn (1+szT a+k) (by omega);rw[show i+(1+szT a+k)=i+1+szT a+k by omega] at this;rw[this,show 1+szT a+k=(szT a+k)+1 by omega];show(jJ a++jJ b).getD (szT a+k) du=_;exact CE
  have va:∀k,k<(lvT kerf a ⟨fiP x.rect n,x.level+1⟩).length->LV.getD (l+k) du=(lvT kerf a ⟨fiP x.rect n,x.level+1⟩).getD k du:=λk hkk=>by
   rw[hv k (by omega)];exact qGW hkk
  have vb:∀k,k<(lvT kerf b ⟨seP x.rect n kerf,x.level+1⟩).length->LV.getD (l+(lvT kerf a ⟨fiP x.rect n,x.level+1⟩).length+k) du=(lvT kerf b ⟨seP x.rect n kerf,x.level+1⟩).getD k du:=λk hkk=>by
   have:=hv ((lvT kerf a ⟨fiP x.rect n,x.level+1⟩).length+k) (by omega);rw[show l+((lvT kerf a ⟨fiP x.rect n,x.level+1⟩).length+k)=l+(lvT kerf a ⟨fiP x.rect n,x.level+1⟩).length+k by omega] at this;rw[this];exact CE
  have ra1:=qAt a (i+1);rw[step,qBa pt LV e kerf hp a ⟨fiP x.rect n,x.level+1⟩ (i+1) l (m+szT b) _ _ hk.2.2.1 (by omega) na (by omega) va (by omega) (by simp;omega) (by simp;omega)];rw[qBa pt LV e kerf hp b ⟨seP x.rect n kerf,x.level+1⟩ (i+1+szT a) (l+(lvT kerf a ⟨fiP x.rect n,x.level+1⟩).length) m _ _ hk.2.2.2 (by omega) nb (by omega) vb (by omega) (by simp[qAl];omega) (by simp[FD];omega)]
  congr 1
  ·omega
  ·omega
  ·show _=acc++(_::(_++_));simp
  ·show _=ra++zs29 (i::(ZU a (i+1)++ZU b (i+1+szT a)));simp[zs29]
end Go.SL.Saw

namespace Go.SL.Saw
structure PI (y z:qA):Prop where
 k:z.kind=y.kind
 a:z.at_=y.at_
 l:z.leaf=y.leaf
 p:z.planned=y.planned
 s:z.stands=y.stands
 g:z.gives=y.gives
theorem PI.rfl' (y:qA):PI y y:=⟨rfl,rfl,rfl,rfl,rfl,rfl⟩
theorem PI.trans {x y z:qA} (h:PI x y) (q:PI y z):PI x z:=⟨q.k.trans h.k,q.a.trans h.a,q.l.trans h.l,q.p.trans h.p,q.s.trans h.s,q.g.trans h.g⟩
def setF (z:Int) (x:qA):qA:=⟨x.kind,x.at_,z,x.second,x.stands,x.rect,x.leaf,x.planned,x.gives,x.board⟩
def setS (z:Int) (x:qA):qA:=⟨x.kind,x.at_,x.first,z,x.stands,x.rect,x.leaf,x.planned,x.gives,x.board⟩
def wO :T->Nat->List qA->List qA
 | .leaf _,_,N=>N
 | .rip _ a b,i,N=>wO b (i+1+szT a) (updL (wO a (i+1) (updL N i (setF ((i+1:Nat):Int)))) i (setS ((i+1+szT a:Nat):Int)))
theorem TQ :∀(t:T) (i:Nat) (N:List qA),(wO t i N).length=N.length
 | .leaf _,_,_=>rfl
 | .rip _ a b,i,N=>by unfold wO;rw[TQ b,wN,TQ a,wN]
theorem HX :∀(t:T) (i:Nat) (N:List qA) (k:Nat),k<i\/i+szT t<=k->nAt (wO t i N) k=nAt N k
 | .leaf _,_,_,_,_=>rfl
 | .rip _ a b,i,N,k,h=>by
  rw[wL] at h;unfold wO;rw[HX b _ _ k (by omega),XH _ (by omega),HX a _ _ k (by omega),XH _ (by omega)]
theorem HB {N:List qA} {i:Nat} {f:qA->qA} (hf:∀y,PI y (f y)) (hi:i<N.length) (k:Nat):PI (nAt N k) (nAt (updL N i f) k):=by
 by_cases e:k=i
 ·subst e;rw[LB _ hi];exact hf _
 ·rw[XH _ e];exact PI.rfl' _
theorem LH :∀(t:T) (i:Nat) (N:List qA) (k:Nat),i+szT t<=N.length->PI (nAt N k) (nAt (wO t i N) k)
 | .leaf _,_,_,_,_=>PI.rfl' _
 | .rip _ a b,i,N,k,h=>by
  rw[wL] at h;unfold wO;refine((HB (f:=setF ((i+1:Nat):Int)) (λy=>⟨rfl,rfl,rfl,rfl,rfl,rfl⟩) (by omega) k).trans (LH a (i+1) _ k (by rw[wN];omega))).trans ((HB (f:=setS ((i+1+szT a:Nat):Int)) (λy=>⟨rfl,rfl,rfl,rfl,rfl,rfl⟩) (by rw[TQ,wN];omega) k).trans (LH b _ _ k (by rw[wN,TQ,wN];omega)))
def VN (N:List qA):T->Nat->Prop
 | .leaf n,i=>i<N.length/\(nAt N i).kind=n.Kind/\ripB n.Kind=false
 | .rip n a b,i=>i<N.length/\(nAt N i).kind=n.Kind/\ripB n.Kind=true/\VN N a (i+1)/\VN N b (i+1+szT a)
theorem VN.to {N N':List qA} (hl:N'.length=N.length) (h:∀k,PI (nAt N k) (nAt N' k)):∀{t:T} {i:Nat},VN N t i->VN N' t i
 | .leaf _,i,q=>⟨by have:=q.1;omega,by rw[(h i).k];exact q.2.1,q.2.2⟩
 | .rip _ _ _,i,q=>⟨by have:=q.1;omega,by rw[(h i).k];exact q.2.1,q.2.2.1,VN.to hl h q.2.2.2.1,VN.to hl h q.2.2.2.2⟩
theorem VN.lt {N:List qA}:∀{t:T} {i:Nat},VN N t i->i+szT t<=N.length
 | .leaf n,i,q=>by rw[KA];have:=q.1;omega
 | .rip n a b,i,q=>by rw[wL];have:=VN.lt q.2.2.2.2;omega
theorem qGo (s:List qG) (d:List qH) (p:List Product) (e1 e2 e3 e4 e5 e6 e7 e8:Int) (ri:List Int):∀(t:T) (i m:Nat) (N:List qA),VN N t i->szT t<=m->N.length<=1000->
  zS m (i:Int) s d p e1 e2 e3 e4 e5 e6 e7 e8 ri N=some (((i+szT t:Nat):Int),wO t i N)
 | .leaf n,i,m,N,hk,hm,hN=>by
  rw[KA] at*;obtain⟨m,rfl⟩:∃q,m=q+1:=⟨m-1,by omega⟩
  obtain⟨h1,h2,h3⟩:=hk;have e2':((nAt N i).kind !=2)=true:=by
   rw[uq,h2];intro c;rw[ripB_iff.2 (.inl c)] at h3;cases h3
  have e3':((nAt N i).kind !=3)=true:=by
   rw[uq,h2];intro c;rw[ripB_iff.2 (.inr c)] at h3;cases h3
  unfold zS yC;rw[zH (by omega),ki,ks];show(bif (nAt N i).kind !=2 then bif (nAt N i).kind !=3 then _ else _ else _)=_;rw[e2',e3',ki,ki,zM (by omega)];rfl
 | .rip n a b,i,m,N,hk,hm,hN=>by
  rw[wL] at*;obtain⟨m,rfl⟩:∃q,m=q+1:=⟨m-1,by omega⟩
  have hlt:=hk.lt;rw[wL] at hlt;obtain⟨h1,h2,h3,h4,h5⟩:=hk;have eN:∀f:qA->qA,(updL N i f).getD i du=f (nAt N i):=λf=>qAj f h1;have s1:∀k,PI (nAt N k) (nAt (updL N i (setF ((i+1:Nat):Int))) k):=HB (λy=>⟨rfl,rfl,rfl,rfl,rfl,rfl⟩) h1;have k1:VN (updL N i (setF ((i+1:Nat):Int))) a (i+1):=h4.to (wN _ _ _) s1;have r1:=qGo s d p e1 e2 e3 e4 e5 e6 e7 e8 ri a (i+1) m _ k1 (by omega) (by rw[wN];exact hN);have hlen:(wO a (i+1) (updL N i (setF ((i+1:Nat):Int)))).length=N.length:=by rw[TQ,wN]
  have s2:∀k,PI (nAt N k) (nAt (updL (wO a (i+1) (updL N i (setF ((i+1:Nat):Int)))) i (setS ((i+1+szT a:Nat):Int))) k):=λk=>
   ((s1 k).trans (LH a (i+1) _ k (by rw[wN];omega))).trans (HB (f:=setS ((i+1+szT a:Nat):Int)) (λy=>⟨rfl,rfl,rfl,rfl,rfl,rfl⟩) (by omega) k)
  have k2:VN (updL (wO a (i+1) (updL N i (setF ((i+1:Nat):Int)))) i (setS ((i+1+szT a:Nat):Int))) b (i+1+szT a):=h5.to (by rw[wN,hlen]) s2;have r2:=qGo s d p e1 e2 e3 e4 e5 e6 e7 e8 ri b (i+1+szT a) m _ k2 (by omega) (by rw[wN,hlen];exact hN);have eb:∀f:qA->qA,(updL (wO a (i+1) (updL N i (setF ((i+1:Nat):Int)))) i f).getD i du=f (nAt (wO a (i+1) (updL N i (setF ((i+1:Nat):Int)))) i):=λf=>qAj f (by omega);have body:yC (i:Int) s d p e1 e2 e3 e4 e5 e6 e7 e8 ri N (zS m) false=some (((i+(1+szT a+szT b):Nat):Int),wO (.rip n a b) i N):=by
   unfold yC;rw[kp,zM (by omega),ks];have f1:(updL N i (λx=>(qA.mk x.kind x.at_ ((i+1:Nat):Int) x.second x.stands x.rect x.leaf x.planned x.gives x.board)))=updL N i (setF ((i+1:Nat):Int)):=rfl;rw[f1,eN];show Option.bind (zS m ((i+1:Nat):Int) s d p e1 e2 e3 e4 e5 e6 e7 e8 ri _) _=_;rw[r1];simp only[kg];rw[hlen,show Nat.ble (i+1) N.length=true from Nat.ble_eq_true_of_le (by omega),ki]
   have f2:(updL (wO a (i+1) (updL N i (setF ((i+1:Nat):Int)))) i (λx=>(qA.mk x.kind x.at_ x.first ((i+1+szT a:Nat):Int) x.stands x.rect x.leaf x.planned x.gives x.board)))=updL (wO a (i+1) (updL N i (setF ((i+1:Nat):Int)))) i (setS ((i+1+szT a:Nat):Int)):=rfl;rw[f2,eb];show Option.bind (zS m ((i+1+szT a:Nat):Int) s d p e1 e2 e3 e4 e5 e6 e7 e8 ri _) _=_;rw[r2];show some (((i+1+szT a+szT b:Nat):Int),wO (.rip n a b) i N)=_;rw[show i+1+szT a+szT b=i+(1+szT a+szT b) by omega]
  unfold zS;rw[zH (by omega),ki,ks];show(bif (nAt N i).kind !=2 then yC _ _ _ _ _ _ _ _ _ _ _ _ _ _ _ ((nAt N i).kind !=3) else _)=_;rcases ripB_iff.1 h3 with e|e
  ·rw[show((nAt N i).kind !=2)=false by rw[h2,e];rfl,kp];exact body
  ·rw[show((nAt N i).kind !=2)=true by rw[h2,e];rfl,ki,show((nAt N i).kind !=3)=false by rw[h2,e];rfl];exact body
end Go.SL.Saw

namespace Go.SL.Saw
theorem qDU {α:Type} [Inhabited α] {l:List α} {i:Nat} (h:i<l.length):l.set i (l.getD i du)=l:=by
 rw[ke,ku h];exact List.set_getElem_self h
theorem qHX {s:List qG} (h:VSol s):JW s=some s:=by
 have hl:=h.len;have key:∀(k i n:Nat),i+k=s.length->k<n->yU s n s (i:Int)=some s:=by
  intro k
  induction k with
  |zero=>
   intro i n hi hn;obtain⟨n,rfl⟩:∃m,n=m+1:=⟨n-1,by omega⟩
   rw[yU,kd (by omega)];rfl
  |succ k ih=>
   intro i n hi hn;obtain⟨n,rfl⟩:∃m,n=m+1:=⟨n-1,by omega⟩
   have hr:=(h.at (i:=i) (by omega)).1.len;rw[yU,ka (by omega),zH (by omega),zM (by omega)];unfold PL;rw[ks,YR (by omega)];simp only[ki,kg];have e:qG.mk (s.getD i du).Len ⟨(s.getD i du).Sec.Low,(s.getD i du).Sec.Rows⟩=s.getD i du:=rfl;rw[e,qDU (by omega)];exact ih (i+1) n (by omega) (by omega)
 unfold JW KG;rw[YR (by omega)];have e:=key s.length 0 FUEL (by omega) (by rw[yT];omega);simp only[ki,kg];rw[show(0:Int)=((0:Nat):Int) from rfl,e];rfl
theorem qER {p:List Product} (h:WK p=0) (hl:p.length<=16):WC p=some p:=by
 have key:∀(k i n:Nat),i+k=p.length->k<n->jU p n p (i:Int)=some p:=by
  intro k
  induction k with
  |zero=>
   intro i n hi hn;obtain⟨n,rfl⟩:∃m,n=m+1:=⟨n-1,by omega⟩
   rw[jU,kd (by omega)];rfl
  |succ k ih=>
   intro i n hi hn;obtain⟨n,rfl⟩:∃m,n=m+1:=⟨n-1,by omega⟩
   have hv:=qIr h (show i<p.length by omega);have h1:=hv.ll;have h2:=hv.pl;rw[jU,ka (by omega),zH (by omega),zM (by omega)];unfold YS;rw[ks,YR (by omega)];simp only[ki,kg];have e:Product.mk (p.getD i du).Name (p.getD i du).Thick (p.getD i du).Width (p.getD i du).Allow (p.getD i du).Wane (p.getD i du).Lengths (p.getD i du).Prices=p.getD i du:=rfl;rw[e,qDU (by omega),YR (by omega)];simp only[ki,kg];rw[e,qDU (by omega)];exact ih (i+1) n (by omega) (by omega)
 unfold WC JY;rw[YR (by omega)];have e:=key p.length 0 FUEL (by omega) (by rw[yT];omega);simp only[ki,kg];rw[show(0:Int)=((0:Nat):Int) from rfl,e];rfl
def Lay0 (kerf:Int) (N:List qA):T->Nat->Nat->qB->Prop
 | .leaf n,i,l,x=>i<N.length/\(nAt N i).kind=n.Kind/\(nAt N i).at_=n.At/\(nAt N i).leaf=(l:Int)/\(nAt N i).planned=x.rect
 | .rip n a b,i,l,x=>i<N.length/\(nAt N i).kind=n.Kind/\(nAt N i).at_=n.At/\
   Lay0 kerf N a (i+1) l ⟨fiP x.rect n,x.level+1⟩/\Lay0 kerf N b (i+1+szT a) (l+(lvT kerf a ⟨fiP x.rect n,x.level+1⟩).length) ⟨seP x.rect n kerf,x.level+1⟩
theorem Lay0.to {kerf:Int} {N N':List qA} (hl:N'.length=N.length) (h:∀k,PI (nAt N k) (nAt N' k)):∀{t:T} {i l:Nat} {x:qB},Lay0 kerf N t i l x->Lay0 kerf N' t i l x
 | .leaf n,i,l,x,⟨h1,h2,h3,h4,h5⟩=>⟨by omega,by rw[(h i).k,h2],by rw[(h i).a,h3],by rw[(h i).l,h4],by rw[(h i).p,h5]⟩
 | .rip n a b,i,l,x,⟨h1,h2,h3,h4,h5⟩=>⟨by omega,by rw[(h i).k,h2],by rw[(h i).a,h3],Lay0.to hl h h4,Lay0.to hl h h5⟩
theorem Lay.toR {kerf:Int} {N N':List qA} (hl:N'.length=N.length):∀{t:T} {i l:Nat} {x:qB},(∀k,i<=k->k<i+szT t->nAt N' k=nAt N k)->Lay kerf N t i l x->Lay kerf N' t i l x
 | .leaf n,i,l,x,h,⟨h1,h2,h3,h4,h5⟩=>by
  have e:=h i (ko _) (by rw[KA];omega);exact⟨by omega,by rw[e,h2],by rw[e,h3],by rw[e,h4],by rw[e,h5]⟩
 | .rip n a b,i,l,x,h,⟨h1,h2,h3,h4,h5,h6,h7⟩=>by
  rw[wL] at h;have e:=h i (ko _) (by omega);exact⟨by omega,by rw[e,h2],by rw[e,h3],by rw[e,h4],by rw[e,h5],Lay.toR hl (λk k1 k2=>h k (by omega) (by omega)) h6,Lay.toR hl (λk k1 k2=>h k (by omega) (by omega)) h7⟩
theorem Lay0.lt {kerf:Int} {N:List qA}:∀{t:T} {i l:Nat} {x:qB},Lay0 kerf N t i l x->i+szT t<=N.length
 | .leaf n,i,l,x,h=>by rw[KA];have:=h.1;omega
 | .rip n a b,i,l,x,h=>by rw[wL];have:=Lay0.lt h.2.2.2.2;omega
theorem Lay0.kind {kerf:Int} {bd:Rect->Int->Int} {N:List qA}:∀{t:T} {i l:Nat} {x:qB},Lay0 kerf N t i l x->okT bd kerf t x->VN N t i
 | .leaf n,i,l,x,h,k=>⟨h.1,h.2.1,k.1⟩
 | .rip n a b,i,l,x,h,k=>⟨h.1,h.2.1,k.1,Lay0.kind h.2.2.2.1 k.2.2.1,Lay0.kind h.2.2.2.2 k.2.2.2⟩
theorem Lay0.link {kerf:Int}:∀{t:T} {i l:Nat} {x:qB} {N:List qA},Lay0 kerf N t i l x->Lay kerf (wO t i N) t i l x
 | .leaf n,i,l,x,N,h=>h
 | .rip n a b,i,l,x,N,h=>by
  have hlt:=h.lt;rw[wL] at hlt;obtain⟨h1,h2,h3,h4,h5⟩:=h;have s1:∀k,PI (nAt N k) (nAt (updL N i (setF ((i+1:Nat):Int))) k):=HB (λy=>⟨rfl,rfl,rfl,rfl,rfl,rfl⟩) h1;have la:Lay kerf (wO a (i+1) (updL N i (setF ((i+1:Nat):Int)))) a (i+1) l ⟨fiP x.rect n,x.level+1⟩:=Lay0.link (h4.to (wN _ _ _) s1);have hlen:(wO a (i+1) (updL N i (setF ((i+1:Nat):Int)))).length=N.length:=by rw[TQ,wN]
  have s2:∀k,PI (nAt N k) (nAt (updL (wO a (i+1) (updL N i (setF ((i+1:Nat):Int)))) i (setS ((i+1+szT a:Nat):Int))) k):=λk=>
   ((s1 k).trans (LH a (i+1) _ k (by rw[wN];omega))).trans (HB (f:=setS ((i+1+szT a:Nat):Int)) (λy=>⟨rfl,rfl,rfl,rfl,rfl,rfl⟩) (by omega) k)
  have lb:Lay kerf (wO (.rip n a b) i N) b (i+1+szT a) (l+(lvT kerf a ⟨fiP x.rect n,x.level+1⟩).length) ⟨seP x.rect n kerf,x.level+1⟩:=Lay0.link (h5.to (by rw[wN,hlen]) s2);have hl2:(wO (.rip n a b) i N).length=N.length:=TQ _ _ _;have ei:nAt (wO (.rip n a b) i N) i=setS ((i+1+szT a:Nat):Int) (setF ((i+1:Nat):Int) (nAt N i)):=by
   unfold wO;rw[HX b _ _ i (by omega),LB _ (by omega),HX a _ _ i (by omega),LB _ h1]
  refine⟨by omega,by rw[ei];exact h2,by rw[ei];exact h3,by rw[ei];rfl,by rw[ei];rfl,Lay.toR (hl2.trans hlen.symm) (λk k1 k2=>?_) la,lb⟩;show nAt (wO b (i+1+szT a) (updL (wO a (i+1) (updL N i (setF ((i+1:Nat):Int)))) i (setS ((i+1+szT a:Nat):Int)))) k=_;rw[HX b _ _ k (by omega),XH _ (by omega)]
theorem qF9 (kerf:Int):∀(t:T) (l:Nat) (x:qB) (A C:List qA),Lay0 kerf (A++(mkT kerf t l x++C)) t A.length l x
 | .leaf n,l,x,A,C=>by
  have e:nAt (A++(mkT kerf (.leaf n) l x++C)) A.length=⟨n.Kind,n.At,0,0,false,r00,(l:Int),x.rect,false,c00⟩:=CE (k:=0);refine⟨by simp[mkT],?_,?_,?_,?_⟩<;>rw[e]
 | .rip n a b,l,x,A,C=>by
  have e:nAt (A++(mkT kerf (.rip n a b) l x++C)) A.length=⟨n.Kind,n.At,0,0,false,r00,0,r00,false,c00⟩:=CE (k:=0);have ia:=qF9 kerf a l ⟨fiP x.rect n,x.level+1⟩ (A++[⟨n.Kind,n.At,0,0,false,r00,0,r00,false,c00⟩]) (mkT kerf b (l+(lvT kerf a ⟨fiP x.rect n,x.level+1⟩).length) ⟨seP x.rect n kerf,x.level+1⟩++C);have ib:=qF9 kerf b (l+(lvT kerf a ⟨fiP x.rect n,x.level+1⟩).length) ⟨seP x.rect n kerf,x.level+1⟩ (A++[⟨n.Kind,n.At,0,0,false,r00,0,r00,false,c00⟩]++mkT kerf a l ⟨fiP x.rect n,x.level+1⟩) C
  have ea:A++[⟨n.Kind,n.At,0,0,false,r00,0,r00,false,c00⟩]++(mkT kerf a l ⟨fiP x.rect n,x.level+1⟩++(mkT kerf b (l+(lvT kerf a ⟨fiP x.rect n,x.level+1⟩).length) ⟨seP x.rect n kerf,x.level+1⟩++C))=A++(mkT kerf (.rip n a b) l x++C):=by simp[mkT]
  have eb:A++[⟨n.Kind,n.At,0,0,false,r00,0,r00,false,c00⟩]++mkT kerf a l ⟨fiP x.rect n,x.level+1⟩++(mkT kerf b (l+(lvT kerf a ⟨fiP x.rect n,x.level+1⟩).length) ⟨seP x.rect n kerf,x.level+1⟩++C)=A++(mkT kerf (.rip n a b) l x++C):=by simp[mkT]
  rw[ea] at ia;rw[eb] at ib;rw[kE] at ia;rw[kE,kE,qAl] at ib;refine⟨by simp[mkT],by rw[e],by rw[e],ia,ib⟩
structure LF (g:G29) (t:T) (fr:Rect) (N:List qA) (h:Nat) (S:List Rect):Prop where
 len:N.length=szT t
 le:szT t<=127
 ok:okT (ZM g.p) g.kerf t ⟨fr,1⟩
 wf:WR fr
 lay:Lay g.kerf N t 0 0 ⟨fr,1⟩
 st:∃O B,St29 g N h t 0 fr S O B
theorem qHa (s:List qG) (d:List qH) (p:List Product) (pt:Pattern) (w:Saw) (t:Rates):FB s d p pt w t=some (chkY s d p pt w t):=qLi s d p pt w t
def gOf (b:Bool) (s:List qG) (d:List qH) (p:List Product) (w:Saw) (t:Rates):G29:=⟨s,d,p,w.Step,t.Fine,w.Kerf,w.Trim,b⟩
variable {pl :Bool} {s:List qG} {d:List qH} {p:List Product} {pt:Pattern} {w:Saw} {t:Rates}
theorem VY.ok29 (h:VY s d p pt w t):Ok29 (gOf pl s d p w t):=⟨h.sol,h.df,h.pr,h.vw.step,h.vw.fine,h.vw.kerf,h.vw.trim⟩
theorem qMZ (h:VY s d p pt w t) (hpl:p.length<=16):∃(u:T) (N:List qA),pt.Nodes=jJ u/\LF (gOf pl s d p w t) u pt.Frame N 0 []/\(lvP pt w.Kerf=lvT w.Kerf u ⟨pt.Frame,1⟩/\ctP pt w.Kerf=ctT w.Kerf u ⟨pt.Frame,1⟩)/\
  RB s d p pt w t=some (.inr (⟨s,d,p,w,t,qZ s,N,zs29 (ZU u 0),[]⟩,0)):=by
 obtain⟨u,hn,hk,hlv,hct⟩:=h.tree;have hz:=NK.1 h.pat;have hsz:szT u<=127:=by have:=hz.2.2.1;rw[hn] at this;exact this
 have hwf:WR pt.Frame:=VR_WR hz.1;have hok:=h.ok29 (pl:=pl);have hdl:d.length<=64:=((qBn d).1 h.df).1;have hsol:=h.sol.len
 -- the nodes
 have hL0:Lay0 w.Kerf (mkT w.Kerf u 0 ⟨pt.Frame,1⟩) u 0 0 ⟨pt.Frame,1⟩:=by
  have:=qF9 w.Kerf u 0 ⟨pt.Frame,1⟩ [] [];rw[kX,um] at this;exact this
 have hmk:=qAl w.Kerf u 0 ⟨pt.Frame,1⟩;have hlinkL:=hL0.link;have hkind:=hL0.kind hk;have hll:(wO u 0 (mkT w.Kerf u 0 ⟨pt.Frame,1⟩)).length=szT u:=by rw[TQ,hmk]
 have hpos:=YG u;have hun:Un (wO u 0 (mkT w.Kerf u 0 ⟨pt.Frame,1⟩)) 0 (szT u):=λj _ hj=>by
  have hs:=LH u 0 (mkT w.Kerf u 0 ⟨pt.Frame,1⟩) j (by omega);have hm:=qJB w.Kerf u 0 ⟨pt.Frame,1⟩ _ (PH (x:=j) (by omega));exact⟨by rw[hs.s];exact hm.1,by rw[hs.g];exact hm.2⟩
 refine⟨u,updL (wO u 0 (mkT w.Kerf u 0 ⟨pt.Frame,1⟩)) 0 ((gOf pl s d p w t).stN pt.Frame),hn,?_,⟨hlv,hct⟩,?_⟩
 ·refine⟨by rw[wN,hll],hsz,hk,hwf,Lay.to (wN _ _ _) (λk=>?_) hlinkL,?_⟩
  ·by_cases e:k=0
   ·subst e;rw[LB _ (by omega)];exact qBA _ _ _
   ·rw[XH _ e];exact HD.rfl' _
  ·obtain⟨O,B,q,_⟩:=St29.fresh (g:=gOf pl s d p w t) (N:=wO u 0 (mkT w.Kerf u 0 ⟨pt.Frame,1⟩)) hok (N':=updL (wO u 0 (mkT w.Kerf u 0 ⟨pt.Frame,1⟩)) 0 ((gOf pl s d p w t).stN pt.Frame)) (h:=0) hwf hk hwf hlinkL hun (ko _) (λk k1 _=>XH _ (by omega)) (LB _ (by omega));exact⟨O,B,q⟩
 ·unfold RB;rw[qHa,qG3.2 h,qL4,if_pos h.any,qHX h.sol,qER h.pr hpl,(qHD s).1,qAz h.sol];unfold YV;rw[YR (by omega)];simp only[kg,uM,kp,ki];have hlen:pt.Nodes.length=szT u:=by rw[hn];rfl
  have e1:=qBa (bd:=ZM p) pt (lvP pt w.Kerf) 0 w.Kerf (by omega) u ⟨pt.Frame,1⟩ 0 0 (FUEL-szT u) [] [] hk (by omega) (λk _=>by rw[kv,hn]) (by rw[hlv];omega) (λk _=>by rw[kv,hlv]) (ko _) rfl (ko _);have hfu:FUEL-szT u+szT u=FUEL:=by rw[yT];omega
  obtain⟨m,hm⟩:∃m,FUEL-szT u=m+1:=⟨FUEL-szT u-1,by rw[yT];omega⟩
  rw[hfu,hm,zW,kd (by omega)] at e1;simp only[kp,um] at e1;have e1':zW pt (lvP pt w.Kerf,0) FUEL 0 0 [] []=some (mkT w.Kerf u 0 ⟨pt.Frame,1⟩,zs29 (ZU u 0)):=e1;rw[e1'];simp only[kg];unfold NF;have e2:zS FUEL 0 s d p w.Kerf w.Trim w.Pitch w.Step t.Chip t.Dust t.Fine (qZ s) (zs29 (ZU u 0)) (mkT w.Kerf u 0 ⟨pt.Frame,1⟩)=some (((0+szT u:Nat):Int),wO u 0 (mkT w.Kerf u 0 ⟨pt.Frame,1⟩)):=qGo s d p _ _ _ _ _ _ _ _ _ u 0 FUEL _ hkind (by rw[yT];omega) (by omega);rw[e2];simp only[kg]
  have e3:=(qA4 0 pt.Frame (wO u 0 (mkT w.Kerf u 0 ⟨pt.Frame,1⟩)) w.Kerf w.Trim w.Pitch w.Step t.Chip t.Dust t.Fine (qZ s) (zs29 (ZU u 0)) [] (by omega) h.sol h.df h.pr h.vw.step h.vw.fine hwf (qAV (g:=gOf pl s d p w t) hk hlinkL hwf)).1;have e3':ZL 0 pt.Frame s d p w.Kerf w.Trim w.Pitch w.Step t.Chip t.Dust t.Fine (qZ s) (zs29 (ZU u 0)) (wO u 0 (mkT w.Kerf u 0 ⟨pt.Frame,1⟩))=some (updL (wO u 0 (mkT w.Kerf u 0 ⟨pt.Frame,1⟩)) 0 (stN s d p w.Step t.Fine pt.Frame)):=e3;rw[e3'];rfl
theorem qLq (h:¬VY s d p pt w t):RB s d p pt w t=some (.inl (chkY s d p pt w t))/\chkY s d p pt w t≠0:=by
 have hc:¬chkY s d p pt w t=0:=λe=>h (qG3.1 e);refine⟨?_,hc⟩;unfold RB;rw[qHa];have:(chkY s d p pt w t !=0)=true:=by simpa using hc
 simp only[kg,this,ki]
end Go.SL.Saw

namespace Go.SL.Saw
set_option maxRecDepth 100000
theorem IB :RA=some true:=by kernel_rfl
end Go.SL.Saw

namespace Go.SL.Saw
structure NW (g:G29) (t:T) (fr:Rect) (N:List qA) (ri:List Int) (S:List Rect):Prop where
 ex:∃h,LF g t fr N h S/\(ri=zs29 (restT h t 0)\/ri=zs29 [])
variable {pl :Bool} {s:List qG} {d:List qH} {p:List Product} {pt:Pattern} {w:Saw} {t:Rates} {u:T} {N:List qA} {ri:List Int} {S:List Rect}
abbrev cutL (s:List qG) (d:List qH) (p:List Product) (w:Saw) (t:Rates) (sh:Int) (ri:List Int) (N:List qA) (S:List Rect):=jC sh s d p w.Kerf w.Trim w.Pitch w.Step t.Chip t.Dust t.Fine (qZ s) ri N S
structure IG (s:List qG) (d:List qH) (p:List Product) (w:Saw) (t:Rates) (N:List qA) (ri:List Int) (S O:List Rect) (B:List qL):Prop where
 yl:wJ s d p w.Kerf w.Trim w.Pitch w.Step t.Chip t.Dust t.Fine (qZ s) ri N S=some (DV s w.Trim t.Chip t.Dust S O B,wC s O)
 bd:wG s d p w.Kerf w.Trim w.Pitch w.Step t.Chip t.Dust t.Fine (qZ s) ri N S=some B
 rc:yY s d p w.Kerf w.Trim w.Pitch w.Step t.Chip t.Dust t.Fine (qZ s) ri N S=some O
 gd:∀c∈B,OR s c
 bl:B.length<=127
 us:wC s S+wC s O+(sumL (brdV s) B+sumL (trmV s w.Trim) B)<=volT s
theorem usedE (g:G29) (S O:List Rect) (B:List qL):g.used S O B=wC g.s S+wC g.s O+(sumL (brdV g.s) B+sumL (trmV g.s g.trim) B):=by
 unfold G29.used wC;have:sumL g.bt B=sumL (brdV g.s) B+sumL (trmV g.s g.trim) B:=qIx (brdV g.s) (trmV g.s g.trim) B;rw[this];rfl
theorem qGO (s:List qG) (l:List Rect):0<=wC s l:=sumL_nn λr _=>qEH s r
theorem LF.shows (h:VY s d p pt w t) {hh:Nat} (L:LF (gOf pl s d p w t) u pt.Frame N hh S):∃O B,St29 (gOf pl s d p w t) N hh u 0 pt.Frame S O B/\IG s d p w t N (zs29 (restT hh u 0)) S O B/\IG s d p w t N (zs29 []) S [] B:=by
 obtain⟨O,B,q⟩:=L.st;have hok:=h.ok29 (pl:=pl);obtain⟨b1,b2,b3,b4,b5⟩:=q.bound hok L.ok L.wf L.lay L.wf;have hN:=L.len;have hle:=L.le;have eB:bl29 N 0 N.length=B:=by rw[hN];exact q.bl
 have eO:=q.rl;have hrl:(restT hh u 0).length<=127:=by
  have:(restT hh u 0).length<=(ZU u 0).length:=List.length_filter_le _ _;have:=qAt u 0;omega
 have hrm:∀k∈restT hh u 0,k<N.length:=λk hk=>by have:=qAS hk;omega
 have hv:=qMK h.sol pt.Frame;rw[usedE] at b1;have b1':wC s S+wC s O+(sumL (brdV s) B+sumL (trmV s w.Trim) B)<=volT s:=gb b1 hv;have hgd:∀c∈bl29 N 0 N.length,OR s c:=by rw[eB];exact b2
 have nO:=qGO s O;refine⟨O,B,q,⟨?_,?_,?_,b2,by omega,b1'⟩,⟨?_,?_,?_,b2,by omega,?_⟩⟩
 ·have:=qET h.sol d p w.Kerf w.Trim w.Pitch w.Step t.Chip t.Dust t.Fine S (restT hh u 0) N h.vw.trim h.vw.chip h.vw.dust (by omega) (by omega) (by omega) hrm hgd (by rw[eB];omega) (by rw[eO];omega);rw[eB,eO] at this;exact this
 ·have:=qAc s d p w.Kerf w.Trim w.Pitch w.Step t.Chip t.Dust t.Fine (qZ s) S (zs29 (restT hh u 0)) N (by omega);rw[eB] at this;exact this
 ·have:=qBf s d p w.Kerf w.Trim w.Pitch w.Step t.Chip t.Dust t.Fine (qZ s) S (restT hh u 0) N (by omega) hrm;rw[eO] at this;exact this
 ·have:=qET h.sol d p w.Kerf w.Trim w.Pitch w.Step t.Chip t.Dust t.Fine S [] N h.vw.trim h.vw.chip h.vw.dust (by omega) (by omega) (by simp) (λk hk=>by cases hk) hgd (by rw[eB];omega) (by simp);rw[eB] at this;exact this
 ·have:=qAc s d p w.Kerf w.Trim w.Pitch w.Step t.Chip t.Dust t.Fine (qZ s) S (zs29 []) N (by omega);rw[eB] at this;exact this
 ·exact qBf s d p w.Kerf w.Trim w.Pitch w.Step t.Chip t.Dust t.Fine (qZ s) S [] N (by simp) (λk hk=>by cases hk)
 ·have e0:wC s []=0:=rfl;rw[e0];omega
theorem LF.cut (h:VY s d p pt w t) {hh j:Nat} {tl:List Nat} (L:LF (gOf pl s d p w t) u pt.Frame N hh S) (e:restT hh u 0=j::tl) {O:List Rect} {B:List qL} (q:St29 (gOf pl s d p w t) N hh u 0 pt.Frame S O B) (sh:Int) (hsh:pl=true->sh=0):
  (cutL s d p w t sh (zs29 (j::tl)) N S=some (9,zs29 (j::tl),N,S)/\pl=false)\/
  ∃(N':List qA) (c:Rect) (O':List Rect) (B':List qL),cutL s d p w t sh (zs29 (j::tl)) N S=some (0,zs29 tl,N',S++[c])/\LF (gOf pl s d p w t) u pt.Frame N' (j+1) (S++[c])/\restT (j+1) u 0=tl/\St29 (gOf pl s d p w t) N' (j+1) u 0 pt.Frame (S++[c]) O' B'/\B.Sublist B'/\wC s O'<=wC s O/\(gOf pl s d p w t).used (S++[c]) O' B'<=(gOf pl s d p w t).used S O B:=by
 have hok:=h.ok29 (pl:=pl);obtain⟨n,a,b,l',x',rj,Q⟩:=qIi hok L.ok L.wf L.lay L.wf q e (λ_=>rfl);obtain⟨b1,b2,b3,b4,b5⟩:=q.bound hok L.ok L.wf L.lay L.wf;have hN:=L.len;have hle:=L.le;have htl:tl.length<=127:=by
  have h1:(restT hh u 0).length<=(ZU u 0).length:=List.length_filter_le _ _;have:=qAt u 0;rw[e] at h1;simp at h1;omega
 have ec:=qMv hok Q w.Trim w.Pitch t.Chip t.Dust (qZ s) tl sh (by omega) (by omega) (by omega);by_cases c:sh<=(alP rj n.Kind).A-n.At\/(alP rj n.Kind).B-n.At<=sh
 ·rw[if_pos c] at ec;refine .inl ⟨ec,?_⟩;cases hp:pl with
  |false=>rfl
  |true=>
   subst hp;have h1:=Q.pr rfl;have h2:=qC9 Q.ok.1 Q.ok.2.1;rw[<-h1] at h2;have:=hsh rfl;omega
 ·rw[if_neg c] at ec;right;have hlt:=Q.hi;rw[wL] at hlt;have pa:=YG a;have pb:=YG b;have f0:∀k,k≠j+1->k≠j+1+szT a->nAt (cutN (gOf pl s d p w t) N j n a rj (n.At+sh)) k=nAt N k:=λk k1 k2=>by unfold cutN;rw[XH _ k2,XH _ k1]
  have f1:nAt (cutN (gOf pl s d p w t) N j n a rj (n.At+sh)) (j+1)=(gOf pl s d p w t).stN (fiP rj ⟨n.Kind,n.At+sh⟩) (nAt N (j+1)):=by
   unfold cutN;rw[XH _ (by omega),LB _ (by omega)]
  have f2:nAt (cutN (gOf pl s d p w t) N j n a rj (n.At+sh)) (j+1+szT a)=(gOf pl s d p w t).stN (seP rj ⟨n.Kind,n.At+sh⟩ (gOf pl s d p w t).kerf) (nAt N (j+1+szT a)):=by
   unfold cutN;rw[LB _ (by rw[wN];omega),XH _ (by omega)]
  obtain⟨O',B',s',bs,os,us⟩:=Q.cut (n.At+sh) _ ⟨by omega,λq=>by rw[hsh q,Int.add_zero]⟩ f0 f1 f2;exact⟨_,_,O',B',ec,⟨by rw[qIy,hN],hle,L.ok,L.wf,L.lay.to (qIy _ _ _ _ _) (qLC _ _ _ _ _ (by omega) (by omega)),O',B',s'⟩,qLj e,s',bs,os,us⟩
end Go.SL.Saw

namespace Go.SL.Saw
variable {s :List qG} {d:List qH} {p:List Product} {pt:Pattern} {w:Saw} {t:Rates} {u:T} {N:List qA} {ri:List Int} {S:List Rect}
theorem qK6 (a:qQ):∃b,NL a=some b:=by
 unfold NL BE;obtain⟨b,hb,hs⟩:=qKY a;rw[hb];simp only[kg];cases b with
 |false=>exact⟨_,rfl⟩
 |true=>
  obtain⟨h1,h2,h3,h4⟩:=hs rfl;obtain⟨n,hn⟩:=qKh a (by omega) (by omega);rw[ki,hn];exact⟨_,rfl⟩
theorem VY.pl (h:VY s d p pt w t):p.length<=16:=qHv (by rw[h.pr];simp)
theorem NW.shows (h:VY s d p pt w t) (C:NW (gOf false s d p w t) u pt.Frame N ri S):∃O B,IG s d p w t N ri S O B:=by
 obtain⟨hh,L,e⟩:=C.ex;obtain⟨O,B,_,q1,q2⟩:=L.shows h;rcases e with rfl|rfl
 ·exact⟨O,B,q1⟩
 ·exact⟨[],B,q2⟩
theorem NW.cut (h:VY s d p pt w t) (C:NW (gOf false s d p w t) u pt.Frame N ri S) (sh:Int):∃e ri' N' S',cutL s d p w t sh ri N S=some (e,ri',N',S')/\NW (gOf false s d p w t) u pt.Frame N' ri' S':=by
 obtain⟨hh,L,e⟩:=C.ex;have hnil:∀hh,LF (gOf false s d p w t) u pt.Frame N hh S->∃e ri' N' S',cutL s d p w t sh (zs29 []) N S=some (e,ri',N',S')/\NW (gOf false s d p w t) u pt.Frame N' ri' S':=λhh L=>⟨18,zs29 [],N,S,rfl,⟨hh,L,.inr rfl⟩⟩
 rcases e with e|rfl
 ·cases hr:restT hh u 0 with
  |nil=>rw[e,hr];exact hnil hh L
  |cons j tl=>
   obtain⟨O,B,q⟩:=L.st;rw[e,hr];rcases L.cut h hr q sh (λc=>by cases c) with⟨ec,_⟩|⟨N',c,O',B',ec,L',hr',_⟩
   ·exact⟨9,_,N,S,ec,⟨hh,L,.inl (by rw[hr])⟩⟩
   ·exact⟨0,_,N',_,ec,⟨j+1,L',.inl (by rw[hr'])⟩⟩
 ·exact hnil hh L
theorem qLR (pl:Bool) (a:qQ) (h:VY a.Solid a.Defects a.Products a.Pattern a.Saw a.Rates):∃(u:T) (N:List qA),a.Pattern.Nodes=jJ u/\LF (gOf pl a.Solid a.Defects a.Products a.Saw a.Rates) u a.Pattern.Frame N 0 []/\(lvP a.Pattern a.Saw.Kerf=lvT a.Saw.Kerf u ⟨a.Pattern.Frame,1⟩/\ctP a.Pattern a.Saw.Kerf=ctT a.Saw.Kerf u ⟨a.Pattern.Frame,1⟩)/\
  JN a=some (.inr (⟨a.Solid,a.Defects,a.Products,a.Saw,a.Rates,qZ a.Solid,N,zs29 (ZU u 0),[]⟩,0)):=by
 obtain⟨u,N,hn,L,hl,e⟩:=qMZ (pl:=pl) h h.pl;refine⟨u,N,hn,L,hl,?_⟩;unfold JN;rw[e];rfl
theorem qLc (a:qQ) (h:¬VY a.Solid a.Defects a.Products a.Pattern a.Saw a.Rates):∃e,e≠0/\JN a=some (.inl e)/\e=chkY a.Solid a.Defects a.Products a.Pattern a.Saw a.Rates:=by
 obtain⟨e,hc⟩:=qLq h;refine⟨_,hc,?_,rfl⟩;unfold JN;rw[e];rfl
end Go.SL.Saw

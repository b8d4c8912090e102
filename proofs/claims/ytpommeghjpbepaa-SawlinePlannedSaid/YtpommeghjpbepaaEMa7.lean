/- The saw line: the cut. -/
import Derived.Test.YtpommeghjpbepaaEMa6
import Derived.Test.YtpommeghjpbepaaEMod
set_option linter.unusedVariables false
set_option linter.unusedSimpArgs false
namespace Go.SL.Saw
variable {g :G29} {N:List qA}
theorem qCp {t:T} {x:qB} {i l:Nat} (hk:okT (QQ g.p) g.kerf t x) (hl:Lay g.kerf N t i l x) (hx:WR x.rect):qJs g.p (nAt N i):=by
 cases t with
 |leaf n=>exact qFw hk hl hx
 |rip n a b=>exact λc=>absurd c (qLD hk hl)
theorem KO {i k:Nat} (f:qA->qA) (h:k≠i):nAt (updL N i f) k=nAt N k:=qLV f h
theorem MO {i:Nat} (f:qA->qA) (h:i<N.length):nAt (updL N i f) i=f (nAt N i):=qBL f h
def cutN (g:G29) (N:List qA) (j:Nat) (n:Node) (a:T) (rj:Rect) (c:Int):List qA:=
 updL (updL N (j+1) (g.stN (fiP rj ⟨n.Kind,c⟩))) (j+1+szT a) (g.stN (seP rj ⟨n.Kind,c⟩ g.kerf))
theorem qJI (j:Nat) (n:Node) (a:T) (rj:Rect) (c:Int):(cutN g N j n a rj c).length=N.length:=by unfold cutN;rw[wV,wV]
theorem qMH (j:Nat) (n:Node) (a:T) (rj:Rect) (c:Int) (h1:j+1<N.length) (h2:j+1+szT a<N.length) (k:Nat):EE (nAt N k) (nAt (cutN g N j n a rj c) k):=by
 have pa:=YW a;unfold cutN;by_cases e2:k=j+1+szT a
 ·subst e2;rw[MO _ (by rw[wV];exact h2),KO _ (by omega)];exact qCm g _ _
 ·rw[KO _ e2];by_cases e1:k=j+1
  ·subst e1;rw[MO _ h1];exact qCm g _ _
  ·rw[KO _ e1];exact EE.rfl' _
theorem qOH (ok:Ok29 g) {t:T} {i:Nat} {r:Rect} {S O:List Rect} {B:List qI} {j:Nat} {n:Node} {a b:T} {l':Nat} {x':qB} {rj:Rect} (Q:qNr g N t i r S O B j n a b l' x' rj) (trim e2 chip dust len:Int) (tl:List Nat) (sh:Int) (hS:S.length<=200) (ht:tl.length<=200) (hN:N.length<=200):
  wL sh g.s g.d g.p g.kerf trim e2 g.step chip dust g.fine len (zs29 (j::tl)) N S=
   if sh<=(alP rj n.Kind).A-n.At\/(alP rj n.Kind).B-n.At<=sh then some (9,zs29 (j::tl),N,S) else some (0,zs29 tl,cutN g N j n a rj (n.At+sh),S++[cuP rj ⟨n.Kind,n.At+sh⟩ g.kerf]):=by
 have hlt:=Q.lay.lt;rw[wQ] at hlt;have pa:=YW a;have pb:=YW b;obtain⟨l1,l2,l3,l4,l5,l6,l7⟩:=Q.lay;have hin:=qBP Q.ok.1 Q.ok.2.1;have hxr:=Q.wx;have hwr:=Q.wr;obtain⟨wf,ws⟩:=qHx ok.hk Q.ok Q.wx;have g1:=qCp Q.ok.2.2.1 l6 wf;have g2:=qCp Q.ok.2.2.2 l7 ws;have hat: -600<=n.At/\n.At<=600:=by
  obtain⟨⟨a1,a2,a3⟩,a4,a5,a6⟩:=hxr;rcases ripB_iff.1 Q.ok.1 with e|e
  ·have:alP x'.rect n.Kind=x'.rect.X:=by unfold alP;rw[e];rfl
   rw[this] at hin;omega
  ·have:alP x'.rect n.Kind=x'.rect.Y:=by unfold alP;rw[e];rfl
   rw[this] at hin;omega
 have ez:(zs29 (j::tl)).getD (0:Int).toNat du=(j:Int):=rfl;have ek:N.getD j du=nAt N j:=rfl;have el:(zs29 (j::tl)).length=tl.length+1:=by rw[OH];rfl
 have hkf:=ok.hk;unfold wL;rw[el,ez];have e0:(((tl.length+1:Nat):Int)==0)=false:=by
  rw[uf];omega
 rw[e0,kp,zJ (by omega),kn,zJ (by omega),kn,ks,ek,l2,l3,Q.rc];obtain⟨⟨x1,x2,x3⟩,y1,y2,y3⟩:=hwr;have c3:∀c,(alP rj n.Kind).A<c/\c<(alP rj n.Kind).B->Cut3 rj (fiP rj ⟨n.Kind,c⟩) (cuP rj ⟨n.Kind,c⟩ g.kerf) (seP rj ⟨n.Kind,c⟩ g.kerf):=λc hc=>(qGZ (kerf:=g.kerf) Q.ok.1 Q.wr hc ok.hk).1;have hdrop:(zs29 (j::tl)).drop ((1:Int).toNat)=zs29 tl:=rfl;have st1:∀(c:Int),(alP rj n.Kind).A<c/\c<(alP rj n.Kind).B->∀(ri:List Int) (sw:List Rect),wA ((j+1:Nat):Int) (fiP rj ⟨n.Kind,c⟩) g.s g.d g.p g.kerf trim e2 g.step chip dust g.fine len ri N sw=some (updL N (j+1) (g.stN (fiP rj ⟨n.Kind,c⟩))):=λc hc ri sw=>
  (qCa (j+1) _ N g.kerf trim e2 g.step chip dust g.fine len ri sw (by omega) ok.hs ok.hd ok.hp ok.hst ok.hf (c3 c hc).wf g1).2
 have st2:∀(c:Int),(alP rj n.Kind).A<c/\c<(alP rj n.Kind).B->∀(ri:List Int) (sw:List Rect),wA ((j+1+szT a:Nat):Int) (seP rj ⟨n.Kind,c⟩ g.kerf) g.s g.d g.p g.kerf trim e2 g.step chip dust g.fine len ri (updL N (j+1) (g.stN (fiP rj ⟨n.Kind,c⟩))) sw=some (cutN g N j n a rj c):=λc hc ri sw=>
  (qCa (j+1+szT a) _ (updL N (j+1) (g.stN (fiP rj ⟨n.Kind,c⟩))) g.kerf trim e2 g.step chip dust g.fine len ri sw (by rw[wV];omega) ok.hs ok.hd ok.hp ok.hst ok.hf (c3 c hc).ws (by
   rw[show(updL N (j+1) (g.stN (fiP rj ⟨n.Kind,c⟩))).getD (j+1+szT a) du=nAt N (j+1+szT a) from qLV _ (by omega)];exact g2)).2
 rcases ripB_iff.1 Q.ok.1 with e|e
 ·have ea:alP rj n.Kind=rj.X:=by unfold alP;rw[e];rfl
  rw[ea] at c3 st1 st2⊢;rw[show(n.Kind==3)=false by rw[e];rfl,kp,qU (n:=rj.X.A-n.At) (by omega),qU (n:=rj.X.B-n.At) (by omega)];unfold PO;by_cases c1:sh<=rj.X.A-n.At
  ·rw[ka c1,kn,kn,if_pos (.inl c1)]
  ·rw[ke c1,kp];by_cases c2:rj.X.B-n.At<=sh
   ·rw[ka (show sh≥rj.X.B-n.At from c2),kn,if_pos (.inr c2)]
   ·have hc:rj.X.A<n.At+sh/\n.At+sh<rj.X.B:=by omega
    rw[ke (show¬sh≥rj.X.B-n.At from c2),kp,if_neg (by omega),ez,el,hdrop,ks,ek,l3,l4,l5,Q.rc];rw[show slOk 1 ((tl.length+1:Nat):Int) (tl.length+1)=true by unfold slOk;exact ka (by omega),kn,WI (by omega),kn,qU (n:=n.At+sh) (by omega)];have ew:∀sp,wiP rj n.Kind sp=⟨sp,rj.Y⟩:=λsp=>by unfold wiP;rw[e];rfl
    have h1:=st1 (n.At+sh) hc;have h2:=st2 (n.At+sh) hc;unfold fiP at h1 h2;unfold seP at h2;unfold cuP;unfold enP at h2⊢;simp only[ew,ea] at h1 h2⊢;rw[h1];simp only[kg];rw[h2];rfl
 ·have ea:alP rj n.Kind=rj.Y:=by unfold alP;rw[e];rfl
  rw[ea] at c3 st1 st2⊢;rw[show(n.Kind==3)=true by rw[e];rfl,kn,qU (n:=rj.Y.A-n.At) (by omega),qU (n:=rj.Y.B-n.At) (by omega)];unfold PM;by_cases c1:sh<=rj.Y.A-n.At
  ·rw[ka c1,kn,kn,if_pos (.inl c1)]
  ·rw[ke c1,kp];by_cases c2:rj.Y.B-n.At<=sh
   ·rw[ka (show sh≥rj.Y.B-n.At from c2),kn,if_pos (.inr c2)]
   ·have hc:rj.Y.A<n.At+sh/\n.At+sh<rj.Y.B:=by omega
    rw[ke (show¬sh≥rj.Y.B-n.At from c2),kp,if_neg (by omega),ez,el,hdrop,ks,ek,l3,l4,l5,Q.rc];rw[show slOk 1 ((tl.length+1:Nat):Int) (tl.length+1)=true by unfold slOk;exact ka (by omega),kn,WI (by omega),kn,qU (n:=n.At+sh) (by omega)];have ew:∀sp,wiP rj n.Kind sp=⟨rj.X,sp⟩:=λsp=>by unfold wiP;rw[e];rfl
    have h1:=st1 (n.At+sh) hc;have h2:=st2 (n.At+sh) hc;unfold fiP at h1 h2;unfold seP at h2;unfold cuP;unfold enP at h2⊢;simp only[ew,ea] at h1 h2⊢;rw[h1];simp only[kg];rw[h2];rfl
end Go.SL.Saw

namespace Go.SL.Saw
def r00 :Rect:=⟨⟨0,0⟩,⟨0,0⟩⟩
def c00 :qI:=⟨0,0,⟨⟨0,0⟩,⟨0,0⟩,⟨0,0⟩⟩,0⟩
def mkT (kerf:Int):T->Nat->qB->List qA
 | .leaf n,l,x=>[⟨n.Kind,n.At,0,0,false,r00,(l:Int),x.rect,false,c00⟩]
 | .rip n a b,l,x=>⟨n.Kind,n.At,0,0,false,r00,0,r00,false,c00⟩::(mkT kerf a l ⟨fiP x.rect n,x.level+1⟩++mkT kerf b (l+(lvT kerf a ⟨fiP x.rect n,x.level+1⟩).length) ⟨seP x.rect n kerf,x.level+1⟩)
theorem qBC (kerf:Int):∀(t:T) (l:Nat) (x:qB),(mkT kerf t l x).length=szT t
 | .leaf n,l,x=>rfl
 | .rip n a b,l,x=>by
  unfold mkT;rw[wQ,uG,kD,qBC,qBC];omega
theorem qKk (kerf:Int):∀(t:T) (l:Nat) (x:qB),∀y∈mkT kerf t l x,y.stands=false/\y.gives=false
 | .leaf n,l,x,y,hy=>by
  unfold mkT at hy;rw[List.mem_singleton] at hy;subst hy;exact⟨rfl,rfl⟩
 | .rip n a b,l,x,y,hy=>by
  unfold mkT at hy;rcases ud.1 hy with rfl|hy
  ·exact⟨rfl,rfl⟩
  ·rcases uy.1 hy with hy|hy
   ·exact qKk kerf a _ _ y hy
   ·exact qKk kerf b _ _ y hy
theorem qNe {bd:Rect->Int->Int} {kerf:Int} {n:Node} {x:qB} (h:okT bd kerf (.leaf n) x):(lvT kerf (.leaf n) x).length=1/\((lvT kerf (.leaf n) x).getD 0 du).Rect=x.rect:=by
 rcases(lv_leaf h).1 with e|⟨e,_⟩<;>rw[e]<;>exact⟨rfl,rfl⟩
theorem qIA {α:Type} [Inhabited α] {a b:List α} {k:Nat} (h:k<a.length):(a++b).getD k du=a.getD k du:=by
 rw[kd,kz h,kd]
theorem qAd {α:Type} [Inhabited α] {a b:List α} {k:Nat}:(a++b).getD (a.length+k) du=b.getD k du:=by
 rw[kd,ky (by omega),kd,Nat.add_sub_cancel_left]
theorem qKO {bd:Rect->Int->Int} {kerf:Int}:∀(t:T) (x:qB),okT bd kerf t x->(lvT kerf t x).length<=szT t
 | .leaf n,x,h=>by rw[(qNe h).1];exact YW _
 | .rip n a b,x,h=>by
  rw[(qDN h.1).1,kD,wQ];have:=qKO a _ h.2.2.1;have:=qKO b _ h.2.2.2;omega
theorem qBr :∀(t:T) (i:Nat),(QF t i).length<=szT t
 | .leaf n,i=>ua _
 | .rip n a b,i=>by
  show(QF a (i+1)++QF b (i+1+szT a)).length+1<=_;rw[kD,wQ];have:=qBr a (i+1);have:=qBr b (i+1+szT a);omega
theorem qBR {bd:Rect->Int->Int} (pt:Pattern) (LV:List Leaf) (e kerf:Int) (hp:pt.Nodes.length<=1000):∀(t:T) (x:qB) (i l m:Nat) (acc:List qA) (ra:List Int),okT bd kerf t x->i+szT t<=pt.Nodes.length->(∀k,k<szT t->pt.Nodes.getD (i+k) du=(wO t).getD k du)->
  l+(lvT kerf t x).length<=LV.length->(∀k,k<(lvT kerf t x).length->LV.getD (l+k) du=(lvT kerf t x).getD k du)->l<=i->acc.length=i->ra.length<=i->
  zY pt (LV,e) (m+szT t) (l:Int) (i:Int) acc ra=zY pt (LV,e) m ((l+(lvT kerf t x).length:Nat):Int) ((i+szT t:Nat):Int) (acc++mkT kerf t l x) (ra++zs29 (QF t i))
 | .leaf n,x,i,l,m,acc,ra,hk,hi,hn,hl,hv,hli,ha,hr=>by
  obtain⟨v1,v2⟩:=qNe hk;have hnr:=hk.1;have e2:(n.Kind==2)=false:=by
   rw[uf];intro c;rw[ripB_iff.2 (.inl c)] at hnr;cases hnr
  have e3:(n.Kind==3)=false:=by
   rw[uf];intro c;rw[ripB_iff.2 (.inr c)] at hnr;cases hnr
  rw[KT] at hi hn⊢;have h0:pt.Nodes.getD i du=n:=hn 0 (by omega);have h1:(LV.getD l du).Rect=x.rect:=by rw[<-v2];exact congrArg Leaf.Rect (hv 0 (by omega))
  rw[v1] at hl⊢;show zY pt (LV,e) (m+1) _ _ _ _=_;rw[zY,ka (by omega),zJ (by omega)];simp only[kn,ks,h0,e2,e3,kp];unfold UP UW;rw[kp,qGd (by omega) (by simp only;omega),kn,WI (by omega),kn,zN (by omega),zN (by omega),ks,ks,h0,h1];show _=zY pt (LV,e) m _ _ _ (ra++[]);rw[kU];rfl
 | .rip n a b,x,i,l,m,acc,ra,hk,hi,hn,hl,hv,hli,ha,hr=>by
  have lr:=(qDN (kerf:=kerf) (n:=n) (a:=a) (b:=b) (x:=x) hk.1).1;rw[lr] at hl hv⊢;rw[kD] at hl hv⊢;rw[wQ] at hi hn⊢;have h0:pt.Nodes.getD i du=n:=hn 0 (by omega);rw[show m+(1+szT a+szT b)=(m+szT b+szT a)+1 by omega];have step:zY pt (LV,e) ((m+szT b+szT a)+1) (l:Int) (i:Int) acc ra=zY pt (LV,e) (m+szT b+szT a) (l:Int) ((i+1:Nat):Int) (acc++[⟨n.Kind,n.At,0,0,false,r00,0,r00,false,c00⟩]) (ra++[(i:Int)]):=by
   rw[zY,ka (by omega),zJ (by omega)];unfold UP UW;simp only[kn,ks,h0];rw[WI (by omega),WI (by omega),zN (by omega)];rcases ripB_iff.1 hk.1 with q|q
   ·rw[show(n.Kind==2)=true by rw[q];rfl];rfl
   ·rw[show(n.Kind==2)=false by rw[q];rfl,show(n.Kind==3)=true by rw[q];rfl];rfl
  have la:(lvT kerf a ⟨fiP x.rect n,x.level+1⟩).length<=szT a:=qKO a ⟨fiP x.rect n,x.level+1⟩ hk.2.2.1;have na:∀k,k<szT a->pt.Nodes.getD (i+1+k) du=(wO a).getD k du:=λk hkk=>by
   have:=hn (1+k) (by omega);rw[show i+(1+k)=i+1+k by omega] at this;rw[this,show 1+k=k+1 by omega];show(wO a++wO b).getD k du=_;exact qIA hkk
  have nb:∀k,k<szT b->pt.Nodes.getD (i+1+szT a+k) du=(wO b).getD k du:=λk hkk=>by
   have:=hn (1+szT a+k) (by omega);rw[show i+(1+szT a+k)=i+1+szT a+k by omega] at this;rw[this,show 1+szT a+k=(szT a+k)+1 by omega];show(wO a++wO b).getD (szT a+k) du=_;exact qAd
  have va:∀k,k<(lvT kerf a ⟨fiP x.rect n,x.level+1⟩).length->LV.getD (l+k) du=(lvT kerf a ⟨fiP x.rect n,x.level+1⟩).getD k du:=λk hkk=>by
   rw[hv k (by omega)];exact qIA hkk
  have vb:∀k,k<(lvT kerf b ⟨seP x.rect n kerf,x.level+1⟩).length->LV.getD (l+(lvT kerf a ⟨fiP x.rect n,x.level+1⟩).length+k) du=(lvT kerf b ⟨seP x.rect n kerf,x.level+1⟩).getD k du:=λk hkk=>by
   have:=hv ((lvT kerf a ⟨fiP x.rect n,x.level+1⟩).length+k) (by omega);rw[show l+((lvT kerf a ⟨fiP x.rect n,x.level+1⟩).length+k)=l+(lvT kerf a ⟨fiP x.rect n,x.level+1⟩).length+k by omega] at this;rw[this];exact qAd
  have ra1:=qBr a (i+1);rw[step,qBR pt LV e kerf hp a ⟨fiP x.rect n,x.level+1⟩ (i+1) l (m+szT b) _ _ hk.2.2.1 (by omega) na (by omega) va (by omega) (by simp;omega) (by simp;omega)];rw[qBR pt LV e kerf hp b ⟨seP x.rect n kerf,x.level+1⟩ (i+1+szT a) (l+(lvT kerf a ⟨fiP x.rect n,x.level+1⟩).length) m _ _ hk.2.2.2 (by omega) nb (by omega) vb (by omega) (by simp[qBC];omega) (by simp[OH];omega)]
  congr 1
  ·omega
  ·omega
  ·show _=acc++(_::(_++_));simp
  ·show _=ra++zs29 (i::(QF a (i+1)++QF b (i+1+szT a)));simp[zs29]
end Go.SL.Saw

namespace Go.SL.Saw
structure RT (y z:qA):Prop where
 k:z.kind=y.kind
 a:z.at_=y.at_
 l:z.leaf=y.leaf
 p:z.planned=y.planned
 s:z.stands=y.stands
 g:z.gives=y.gives
theorem RT.rfl' (y:qA):RT y y:=⟨rfl,rfl,rfl,rfl,rfl,rfl⟩
theorem RT.trans {x y z:qA} (h:RT x y) (q:RT y z):RT x z:=⟨q.k.trans h.k,q.a.trans h.a,q.l.trans h.l,q.p.trans h.p,q.s.trans h.s,q.g.trans h.g⟩
def setF (z:Int) (x:qA):qA:=⟨x.kind,x.at_,z,x.second,x.stands,x.rect,x.leaf,x.planned,x.gives,x.board⟩
def setS (z:Int) (x:qA):qA:=⟨x.kind,x.at_,x.first,z,x.stands,x.rect,x.leaf,x.planned,x.gives,x.board⟩
def wX :T->Nat->List qA->List qA
 | .leaf _,_,N=>N
 | .rip _ a b,i,N=>wX b (i+1+szT a) (updL (wX a (i+1) (updL N i (setF ((i+1:Nat):Int)))) i (setS ((i+1+szT a:Nat):Int)))
theorem UZ :∀(t:T) (i:Nat) (N:List qA),(wX t i N).length=N.length
 | .leaf _,_,_=>rfl
 | .rip _ a b,i,N=>by unfold wX;rw[UZ b,wV,UZ a,wV]
theorem EQ :∀(t:T) (i:Nat) (N:List qA) (k:Nat),k<i\/i+szT t<=k->nAt (wX t i N) k=nAt N k
 | .leaf _,_,_,_,_=>rfl
 | .rip _ a b,i,N,k,h=>by
  rw[wQ] at h;unfold wX;rw[EQ b _ _ k (by omega),KO _ (by omega),EQ a _ _ k (by omega),KO _ (by omega)]
theorem SD {N:List qA} {i:Nat} {f:qA->qA} (hf:∀y,RT y (f y)) (hi:i<N.length) (k:Nat):RT (nAt N k) (nAt (updL N i f) k):=by
 by_cases e:k=i
 ·subst e;rw[MO _ hi];exact hf _
 ·rw[KO _ e];exact RT.rfl' _
theorem MV :∀(t:T) (i:Nat) (N:List qA) (k:Nat),i+szT t<=N.length->RT (nAt N k) (nAt (wX t i N) k)
 | .leaf _,_,_,_,_=>RT.rfl' _
 | .rip _ a b,i,N,k,h=>by
  rw[wQ] at h;unfold wX;refine((SD (f:=setF ((i+1:Nat):Int)) (λy=>⟨rfl,rfl,rfl,rfl,rfl,rfl⟩) (by omega) k).trans (MV a (i+1) _ k (by rw[wV];omega))).trans ((SD (f:=setS ((i+1+szT a:Nat):Int)) (λy=>⟨rfl,rfl,rfl,rfl,rfl,rfl⟩) (by rw[UZ,wV];omega) k).trans (MV b _ _ k (by rw[wV,UZ,wV];omega)))
def DG (N:List qA):T->Nat->Prop
 | .leaf n,i=>i<N.length/\(nAt N i).kind=n.Kind/\ripB n.Kind=false
 | .rip n a b,i=>i<N.length/\(nAt N i).kind=n.Kind/\ripB n.Kind=true/\DG N a (i+1)/\DG N b (i+1+szT a)
theorem DG.to {N N':List qA} (hl:N'.length=N.length) (h:∀k,RT (nAt N k) (nAt N' k)):∀{t:T} {i:Nat},DG N t i->DG N' t i
 | .leaf _,i,q=>⟨by have:=q.1;omega,by rw[(h i).k];exact q.2.1,q.2.2⟩
 | .rip _ _ _,i,q=>⟨by have:=q.1;omega,by rw[(h i).k];exact q.2.1,q.2.2.1,DG.to hl h q.2.2.2.1,DG.to hl h q.2.2.2.2⟩
theorem DG.lt {N:List qA}:∀{t:T} {i:Nat},DG N t i->i+szT t<=N.length
 | .leaf n,i,q=>by rw[KT];have:=q.1;omega
 | .rip n a b,i,q=>by rw[wQ];have:=DG.lt q.2.2.2.2;omega
theorem qHb (s:List qG) (d:List qJ) (p:List Product) (e1 e2 e3 e4 e5 e6 e7 e8:Int) (ri:List Int):∀(t:T) (i m:Nat) (N:List qA),DG N t i->szT t<=m->N.length<=1000->
  zW m (i:Int) s d p e1 e2 e3 e4 e5 e6 e7 e8 ri N=some (((i+szT t:Nat):Int),wX t i N)
 | .leaf n,i,m,N,hk,hm,hN=>by
  rw[KT] at*;obtain⟨m,rfl⟩:∃q,m=q+1:=⟨m-1,by omega⟩
  obtain⟨h1,h2,h3⟩:=hk;have e2':((nAt N i).kind !=2)=true:=by
   rw[ur,h2];intro c;rw[ripB_iff.2 (.inl c)] at h3;cases h3
  have e3':((nAt N i).kind !=3)=true:=by
   rw[ur,h2];intro c;rw[ripB_iff.2 (.inr c)] at h3;cases h3
  unfold zW yL;rw[zJ (by omega),kn,ks];show(bif (nAt N i).kind !=2 then bif (nAt N i).kind !=3 then _ else _ else _)=_;rw[e2',e3',kn,kn,zN (by omega)];rfl
 | .rip n a b,i,m,N,hk,hm,hN=>by
  rw[wQ] at*;obtain⟨m,rfl⟩:∃q,m=q+1:=⟨m-1,by omega⟩
  have hlt:=hk.lt;rw[wQ] at hlt;obtain⟨h1,h2,h3,h4,h5⟩:=hk;have eN:∀f:qA->qA,(updL N i f).getD i du=f (nAt N i):=λf=>qBL f h1;have s1:∀k,RT (nAt N k) (nAt (updL N i (setF ((i+1:Nat):Int))) k):=SD (λy=>⟨rfl,rfl,rfl,rfl,rfl,rfl⟩) h1;have k1:DG (updL N i (setF ((i+1:Nat):Int))) a (i+1):=h4.to (wV _ _ _) s1;have r1:=qHb s d p e1 e2 e3 e4 e5 e6 e7 e8 ri a (i+1) m _ k1 (by omega) (by rw[wV];exact hN);have hlen:(wX a (i+1) (updL N i (setF ((i+1:Nat):Int)))).length=N.length:=by rw[UZ,wV]
  have s2:∀k,RT (nAt N k) (nAt (updL (wX a (i+1) (updL N i (setF ((i+1:Nat):Int)))) i (setS ((i+1+szT a:Nat):Int))) k):=λk=>
   ((s1 k).trans (MV a (i+1) _ k (by rw[wV];omega))).trans (SD (f:=setS ((i+1+szT a:Nat):Int)) (λy=>⟨rfl,rfl,rfl,rfl,rfl,rfl⟩) (by omega) k)
  have k2:DG (updL (wX a (i+1) (updL N i (setF ((i+1:Nat):Int)))) i (setS ((i+1+szT a:Nat):Int))) b (i+1+szT a):=h5.to (by rw[wV,hlen]) s2;have r2:=qHb s d p e1 e2 e3 e4 e5 e6 e7 e8 ri b (i+1+szT a) m _ k2 (by omega) (by rw[wV,hlen];exact hN);have eb:∀f:qA->qA,(updL (wX a (i+1) (updL N i (setF ((i+1:Nat):Int)))) i f).getD i du=f (nAt (wX a (i+1) (updL N i (setF ((i+1:Nat):Int)))) i):=λf=>qBL f (by omega);have body:yL (i:Int) s d p e1 e2 e3 e4 e5 e6 e7 e8 ri N (zW m) false=some (((i+(1+szT a+szT b):Nat):Int),wX (.rip n a b) i N):=by
   unfold yL;rw[kp,zN (by omega),ks];have f1:(updL N i (λx=>(qA.mk x.kind x.at_ ((i+1:Nat):Int) x.second x.stands x.rect x.leaf x.planned x.gives x.board)))=updL N i (setF ((i+1:Nat):Int)):=rfl;rw[f1,eN];show Option.bind (zW m ((i+1:Nat):Int) s d p e1 e2 e3 e4 e5 e6 e7 e8 ri _) _=_;rw[r1];simp only[kg];rw[hlen,show Nat.ble (i+1) N.length=true from Nat.ble_eq_true_of_le (by omega),kn]
   have f2:(updL (wX a (i+1) (updL N i (setF ((i+1:Nat):Int)))) i (λx=>(qA.mk x.kind x.at_ x.first ((i+1+szT a:Nat):Int) x.stands x.rect x.leaf x.planned x.gives x.board)))=updL (wX a (i+1) (updL N i (setF ((i+1:Nat):Int)))) i (setS ((i+1+szT a:Nat):Int)):=rfl;rw[f2,eb];show Option.bind (zW m ((i+1+szT a:Nat):Int) s d p e1 e2 e3 e4 e5 e6 e7 e8 ri _) _=_;rw[r2];show some (((i+1+szT a+szT b:Nat):Int),wX (.rip n a b) i N)=_;rw[show i+1+szT a+szT b=i+(1+szT a+szT b) by omega]
  unfold zW;rw[zJ (by omega),kn,ks];show(bif (nAt N i).kind !=2 then yL _ _ _ _ _ _ _ _ _ _ _ _ _ _ _ ((nAt N i).kind !=3) else _)=_;rcases ripB_iff.1 h3 with e|e
  ·rw[show((nAt N i).kind !=2)=false by rw[h2,e];rfl,kp];exact body
  ·rw[show((nAt N i).kind !=2)=true by rw[h2,e];rfl,kn,show((nAt N i).kind !=3)=false by rw[h2,e];rfl];exact body
end Go.SL.Saw

namespace Go.SL.Saw
theorem qEZ {α:Type} [Inhabited α] {l:List α} {i:Nat} (h:i<l.length):l.set i (l.getD i du)=l:=by
 rw[kd,ku h];exact List.set_getElem_self h
theorem qJi {s:List qG} (h:VSol s):YO s=some s:=by
 have hl:=h.len;have key:∀(k i n:Nat),i+k=s.length->k<n->QE s n s (i:Int)=some s:=by
  intro k
  induction k with
  |zero=>
   intro i n hi hn;obtain⟨n,rfl⟩:∃m,n=m+1:=⟨n-1,by omega⟩
   rw[QE,ke (by omega)];rfl
  |succ k ih=>
   intro i n hi hn;obtain⟨n,rfl⟩:∃m,n=m+1:=⟨n-1,by omega⟩
   have hr:=(h.at (i:=i) (by omega)).1.len;rw[QE,ka (by omega),zJ (by omega),zN (by omega)];unfold RL;rw[ks,WI (by omega)];simp only[kn,kg];have e:qG.mk (s.getD i du).Len ⟨(s.getD i du).Sec.Low,(s.getD i du).Sec.Rows⟩=s.getD i du:=rfl;rw[e,qEZ (by omega)];exact ih (i+1) n (by omega) (by omega)
 unfold YO PN;rw[WI (by omega)];have e:=key s.length 0 FUEL (by omega) (by rw[yU];omega);simp only[kn,kg];rw[show(0:Int)=((0:Nat):Int) from rfl,e];rfl
theorem qG6 {p:List Product} (h:ZL p=0) (hl:p.length<=16):WQ p=some p:=by
 have key:∀(k i n:Nat),i+k=p.length->k<n->yG p n p (i:Int)=some p:=by
  intro k
  induction k with
  |zero=>
   intro i n hi hn;obtain⟨n,rfl⟩:∃m,n=m+1:=⟨n-1,by omega⟩
   rw[yG,ke (by omega)];rfl
  |succ k ih=>
   intro i n hi hn;obtain⟨n,rfl⟩:∃m,n=m+1:=⟨n-1,by omega⟩
   have hv:=qJA h (show i<p.length by omega);have h1:=hv.ll;have h2:=hv.pl;rw[yG,ka (by omega),zJ (by omega),zN (by omega)];unfold XQ;rw[ks,WI (by omega)];simp only[kn,kg];have e:Product.mk (p.getD i du).Name (p.getD i du).Thick (p.getD i du).Width (p.getD i du).Allow (p.getD i du).Wane (p.getD i du).Lengths (p.getD i du).Prices=p.getD i du:=rfl;rw[e,qEZ (by omega),WI (by omega)];simp only[kn,kg];rw[e,qEZ (by omega)];exact ih (i+1) n (by omega) (by omega)
 unfold WQ YU;rw[WI (by omega)];have e:=key p.length 0 FUEL (by omega) (by rw[yU];omega);simp only[kn,kg];rw[show(0:Int)=((0:Nat):Int) from rfl,e];rfl
def Lay0 (kerf:Int) (N:List qA):T->Nat->Nat->qB->Prop
 | .leaf n,i,l,x=>i<N.length/\(nAt N i).kind=n.Kind/\(nAt N i).at_=n.At/\(nAt N i).leaf=(l:Int)/\(nAt N i).planned=x.rect
 | .rip n a b,i,l,x=>i<N.length/\(nAt N i).kind=n.Kind/\(nAt N i).at_=n.At/\
   Lay0 kerf N a (i+1) l ⟨fiP x.rect n,x.level+1⟩/\Lay0 kerf N b (i+1+szT a) (l+(lvT kerf a ⟨fiP x.rect n,x.level+1⟩).length) ⟨seP x.rect n kerf,x.level+1⟩
theorem Lay0.to {kerf:Int} {N N':List qA} (hl:N'.length=N.length) (h:∀k,RT (nAt N k) (nAt N' k)):∀{t:T} {i l:Nat} {x:qB},Lay0 kerf N t i l x->Lay0 kerf N' t i l x
 | .leaf n,i,l,x,⟨h1,h2,h3,h4,h5⟩=>⟨by omega,by rw[(h i).k,h2],by rw[(h i).a,h3],by rw[(h i).l,h4],by rw[(h i).p,h5]⟩
 | .rip n a b,i,l,x,⟨h1,h2,h3,h4,h5⟩=>⟨by omega,by rw[(h i).k,h2],by rw[(h i).a,h3],Lay0.to hl h h4,Lay0.to hl h h5⟩
theorem Lay.toR {kerf:Int} {N N':List qA} (hl:N'.length=N.length):∀{t:T} {i l:Nat} {x:qB},(∀k,i<=k->k<i+szT t->nAt N' k=nAt N k)->Lay kerf N t i l x->Lay kerf N' t i l x
 | .leaf n,i,l,x,h,⟨h1,h2,h3,h4,h5⟩=>by
  have e:=h i (kf _) (by rw[KT];omega);exact⟨by omega,by rw[e,h2],by rw[e,h3],by rw[e,h4],by rw[e,h5]⟩
 | .rip n a b,i,l,x,h,⟨h1,h2,h3,h4,h5,h6,h7⟩=>by
  rw[wQ] at h;have e:=h i (kf _) (by omega);exact⟨by omega,by rw[e,h2],by rw[e,h3],by rw[e,h4],by rw[e,h5],Lay.toR hl (λk k1 k2=>h k (by omega) (by omega)) h6,Lay.toR hl (λk k1 k2=>h k (by omega) (by omega)) h7⟩
theorem Lay0.lt {kerf:Int} {N:List qA}:∀{t:T} {i l:Nat} {x:qB},Lay0 kerf N t i l x->i+szT t<=N.length
 | .leaf n,i,l,x,h=>by rw[KT];have:=h.1;omega
 | .rip n a b,i,l,x,h=>by rw[wQ];have:=Lay0.lt h.2.2.2.2;omega
theorem Lay0.kind {kerf:Int} {bd:Rect->Int->Int} {N:List qA}:∀{t:T} {i l:Nat} {x:qB},Lay0 kerf N t i l x->okT bd kerf t x->DG N t i
 | .leaf n,i,l,x,h,k=>⟨h.1,h.2.1,k.1⟩
 | .rip n a b,i,l,x,h,k=>⟨h.1,h.2.1,k.1,Lay0.kind h.2.2.2.1 k.2.2.1,Lay0.kind h.2.2.2.2 k.2.2.2⟩
theorem Lay0.link {kerf:Int}:∀{t:T} {i l:Nat} {x:qB} {N:List qA},Lay0 kerf N t i l x->Lay kerf (wX t i N) t i l x
 | .leaf n,i,l,x,N,h=>h
 | .rip n a b,i,l,x,N,h=>by
  have hlt:=h.lt;rw[wQ] at hlt;obtain⟨h1,h2,h3,h4,h5⟩:=h;have s1:∀k,RT (nAt N k) (nAt (updL N i (setF ((i+1:Nat):Int))) k):=SD (λy=>⟨rfl,rfl,rfl,rfl,rfl,rfl⟩) h1;have la:Lay kerf (wX a (i+1) (updL N i (setF ((i+1:Nat):Int)))) a (i+1) l ⟨fiP x.rect n,x.level+1⟩:=Lay0.link (h4.to (wV _ _ _) s1);have hlen:(wX a (i+1) (updL N i (setF ((i+1:Nat):Int)))).length=N.length:=by rw[UZ,wV]
  have s2:∀k,RT (nAt N k) (nAt (updL (wX a (i+1) (updL N i (setF ((i+1:Nat):Int)))) i (setS ((i+1+szT a:Nat):Int))) k):=λk=>
   ((s1 k).trans (MV a (i+1) _ k (by rw[wV];omega))).trans (SD (f:=setS ((i+1+szT a:Nat):Int)) (λy=>⟨rfl,rfl,rfl,rfl,rfl,rfl⟩) (by omega) k)
  have lb:Lay kerf (wX (.rip n a b) i N) b (i+1+szT a) (l+(lvT kerf a ⟨fiP x.rect n,x.level+1⟩).length) ⟨seP x.rect n kerf,x.level+1⟩:=Lay0.link (h5.to (by rw[wV,hlen]) s2);have hl2:(wX (.rip n a b) i N).length=N.length:=UZ _ _ _;have ei:nAt (wX (.rip n a b) i N) i=setS ((i+1+szT a:Nat):Int) (setF ((i+1:Nat):Int) (nAt N i)):=by
   unfold wX;rw[EQ b _ _ i (by omega),MO _ (by omega),EQ a _ _ i (by omega),MO _ h1]
  refine⟨by omega,by rw[ei];exact h2,by rw[ei];exact h3,by rw[ei];rfl,by rw[ei];rfl,Lay.toR (hl2.trans hlen.symm) (λk k1 k2=>?_) la,lb⟩;show nAt (wX b (i+1+szT a) (updL (wX a (i+1) (updL N i (setF ((i+1:Nat):Int)))) i (setS ((i+1+szT a:Nat):Int)))) k=_;rw[EQ b _ _ k (by omega),KO _ (by omega)]
theorem qHc (kerf:Int):∀(t:T) (l:Nat) (x:qB) (A C:List qA),Lay0 kerf (A++(mkT kerf t l x++C)) t A.length l x
 | .leaf n,l,x,A,C=>by
  have e:nAt (A++(mkT kerf (.leaf n) l x++C)) A.length=⟨n.Kind,n.At,0,0,false,r00,(l:Int),x.rect,false,c00⟩:=qAd (k:=0);refine⟨by simp[mkT],?_,?_,?_,?_⟩<;>rw[e]
 | .rip n a b,l,x,A,C=>by
  have e:nAt (A++(mkT kerf (.rip n a b) l x++C)) A.length=⟨n.Kind,n.At,0,0,false,r00,0,r00,false,c00⟩:=qAd (k:=0);have ia:=qHc kerf a l ⟨fiP x.rect n,x.level+1⟩ (A++[⟨n.Kind,n.At,0,0,false,r00,0,r00,false,c00⟩]) (mkT kerf b (l+(lvT kerf a ⟨fiP x.rect n,x.level+1⟩).length) ⟨seP x.rect n kerf,x.level+1⟩++C);have ib:=qHc kerf b (l+(lvT kerf a ⟨fiP x.rect n,x.level+1⟩).length) ⟨seP x.rect n kerf,x.level+1⟩ (A++[⟨n.Kind,n.At,0,0,false,r00,0,r00,false,c00⟩]++mkT kerf a l ⟨fiP x.rect n,x.level+1⟩) C
  have ea:A++[⟨n.Kind,n.At,0,0,false,r00,0,r00,false,c00⟩]++(mkT kerf a l ⟨fiP x.rect n,x.level+1⟩++(mkT kerf b (l+(lvT kerf a ⟨fiP x.rect n,x.level+1⟩).length) ⟨seP x.rect n kerf,x.level+1⟩++C))=A++(mkT kerf (.rip n a b) l x++C):=by simp[mkT]
  have eb:A++[⟨n.Kind,n.At,0,0,false,r00,0,r00,false,c00⟩]++mkT kerf a l ⟨fiP x.rect n,x.level+1⟩++(mkT kerf b (l+(lvT kerf a ⟨fiP x.rect n,x.level+1⟩).length) ⟨seP x.rect n kerf,x.level+1⟩++C)=A++(mkT kerf (.rip n a b) l x++C):=by simp[mkT]
  rw[ea] at ia;rw[eb] at ib;rw[kD] at ia;rw[kD,kD,qBC] at ib;refine⟨by simp[mkT],by rw[e],by rw[e],ia,ib⟩
structure DQ (g:G29) (t:T) (fr:Rect) (N:List qA) (h:Nat) (S:List Rect):Prop where
 len:N.length=szT t
 le:szT t<=127
 ok:okT (QQ g.p) g.kerf t ⟨fr,1⟩
 wf:WR fr
 lay:Lay g.kerf N t 0 0 ⟨fr,1⟩
 st:∃O B,St29 g N h t 0 fr S O B
theorem qIO (s:List qG) (d:List qJ) (p:List Product) (pt:Pattern) (w:Saw) (t:Rates):LJ s d p pt w t=some (chkY s d p pt w t):=qAx s d p pt w t
def gOf (b:Bool) (s:List qG) (d:List qJ) (p:List Product) (w:Saw) (t:Rates):G29:=⟨s,d,p,w.Step,t.Fine,w.Kerf,w.Trim,b⟩
variable {pl :Bool} {s:List qG} {d:List qJ} {p:List Product} {pt:Pattern} {w:Saw} {t:Rates}
theorem VY.ok29 (h:VY s d p pt w t):Ok29 (gOf pl s d p w t):=⟨h.sol,h.df,h.pr,h.vw.step,h.vw.fine,h.vw.kerf,h.vw.trim⟩
theorem qOc (h:VY s d p pt w t) (hpl:p.length<=16):∃(u:T) (N:List qA),pt.Nodes=wO u/\DQ (gOf pl s d p w t) u pt.Frame N 0 []/\(lvP pt w.Kerf=lvT w.Kerf u ⟨pt.Frame,1⟩/\ctP pt w.Kerf=ctT w.Kerf u ⟨pt.Frame,1⟩)/\
  TM s d p pt w t=some (.inr (⟨s,d,p,w,t,qY s,N,zs29 (QF u 0),[]⟩,0)):=by
 obtain⟨u,hn,hk,hlv,hct⟩:=h.tree;have hz:=TI.1 h.pat;have hsz:szT u<=127:=by have:=hz.2.2.1;rw[hn] at this;exact this
 have hwf:WR pt.Frame:=VR_WR hz.1;have hok:=h.ok29 (pl:=pl);have hdl:d.length<=64:=((qCn d).1 h.df).1;have hsol:=h.sol.len
 -- the nodes
 have hL0:Lay0 w.Kerf (mkT w.Kerf u 0 ⟨pt.Frame,1⟩) u 0 0 ⟨pt.Frame,1⟩:=by
  have:=qHc w.Kerf u 0 ⟨pt.Frame,1⟩ [] [];rw[kU,um] at this;exact this
 have hmk:=qBC w.Kerf u 0 ⟨pt.Frame,1⟩;have hlinkL:=hL0.link;have hkind:=hL0.kind hk;have hll:(wX u 0 (mkT w.Kerf u 0 ⟨pt.Frame,1⟩)).length=szT u:=by rw[UZ,hmk]
 have hpos:=YW u;have hun:Un (wX u 0 (mkT w.Kerf u 0 ⟨pt.Frame,1⟩)) 0 (szT u):=λj _ hj=>by
  have hs:=MV u 0 (mkT w.Kerf u 0 ⟨pt.Frame,1⟩) j (by omega);have hm:=qKk w.Kerf u 0 ⟨pt.Frame,1⟩ _ (KD (x:=j) (by omega));exact⟨by rw[hs.s];exact hm.1,by rw[hs.g];exact hm.2⟩
 refine⟨u,updL (wX u 0 (mkT w.Kerf u 0 ⟨pt.Frame,1⟩)) 0 ((gOf pl s d p w t).stN pt.Frame),hn,?_,⟨hlv,hct⟩,?_⟩
 ·refine⟨by rw[wV,hll],hsz,hk,hwf,Lay.to (wV _ _ _) (λk=>?_) hlinkL,?_⟩
  ·by_cases e:k=0
   ·subst e;rw[MO _ (by omega)];exact qCm _ _ _
   ·rw[KO _ e];exact EE.rfl' _
  ·obtain⟨O,B,q,_⟩:=St29.fresh (g:=gOf pl s d p w t) (N:=wX u 0 (mkT w.Kerf u 0 ⟨pt.Frame,1⟩)) hok (N':=updL (wX u 0 (mkT w.Kerf u 0 ⟨pt.Frame,1⟩)) 0 ((gOf pl s d p w t).stN pt.Frame)) (h:=0) hwf hk hwf hlinkL hun (kf _) (λk k1 _=>KO _ (by omega)) (MO _ (by omega));exact⟨O,B,q⟩
 ·unfold TM;rw[qIO,EF.2 h,qIr,if_pos h.any,qJi h.sol,qG6 h.pr hpl,(qDz s).1,OB h.sol];unfold XY;rw[WI (by omega)];simp only[kg,ul,kp,kn];have hlen:pt.Nodes.length=szT u:=by rw[hn];rfl
  have e1:=qBR (bd:=QQ p) pt (lvP pt w.Kerf) 0 w.Kerf (by omega) u ⟨pt.Frame,1⟩ 0 0 (FUEL-szT u) [] [] hk (by omega) (λk _=>by rw[kv,hn]) (by rw[hlv];omega) (λk _=>by rw[kv,hlv]) (kf _) rfl (kf _);have hfu:FUEL-szT u+szT u=FUEL:=by rw[yU];omega
  obtain⟨m,hm⟩:∃m,FUEL-szT u=m+1:=⟨FUEL-szT u-1,by rw[yU];omega⟩
  rw[hfu,hm,zY,ke (by omega)] at e1;simp only[kp,um] at e1;have e1':zY pt (lvP pt w.Kerf,0) FUEL 0 0 [] []=some (mkT w.Kerf u 0 ⟨pt.Frame,1⟩,zs29 (QF u 0)):=e1;rw[e1'];simp only[kg];unfold FO;have e2:zW FUEL 0 s d p w.Kerf w.Trim w.Pitch w.Step t.Chip t.Dust t.Fine (qY s) (zs29 (QF u 0)) (mkT w.Kerf u 0 ⟨pt.Frame,1⟩)=some (((0+szT u:Nat):Int),wX u 0 (mkT w.Kerf u 0 ⟨pt.Frame,1⟩)):=qHb s d p _ _ _ _ _ _ _ _ _ u 0 FUEL _ hkind (by rw[yU];omega) (by omega);rw[e2];simp only[kg]
  have e3:=(qCa 0 pt.Frame (wX u 0 (mkT w.Kerf u 0 ⟨pt.Frame,1⟩)) w.Kerf w.Trim w.Pitch w.Step t.Chip t.Dust t.Fine (qY s) (zs29 (QF u 0)) [] (by omega) h.sol h.df h.pr h.vw.step h.vw.fine hwf (qCp (g:=gOf pl s d p w t) hk hlinkL hwf)).1;have e3':ZU 0 pt.Frame s d p w.Kerf w.Trim w.Pitch w.Step t.Chip t.Dust t.Fine (qY s) (zs29 (QF u 0)) (wX u 0 (mkT w.Kerf u 0 ⟨pt.Frame,1⟩))=some (updL (wX u 0 (mkT w.Kerf u 0 ⟨pt.Frame,1⟩)) 0 (stN s d p w.Step t.Fine pt.Frame)):=e3;rw[e3'];rfl
theorem qMX (h:¬VY s d p pt w t):TM s d p pt w t=some (.inl (chkY s d p pt w t))/\chkY s d p pt w t≠0:=by
 have hc:¬chkY s d p pt w t=0:=λe=>h (EF.1 e);refine⟨?_,hc⟩;unfold TM;rw[qIO];have:(chkY s d p pt w t !=0)=true:=by simpa using hc
 simp only[kg,this,kn]
end Go.SL.Saw

namespace Go.SL.Saw
set_option maxRecDepth 100000
theorem OJ :TG=some true:=by kernel_rfl
end Go.SL.Saw

namespace Go.SL.Saw
structure qD5 (g:G29) (t:T) (fr:Rect) (N:List qA) (ri:List Int) (S:List Rect):Prop where
 ex:∃h,DQ g t fr N h S/\(ri=zs29 (restT h t 0)\/ri=zs29 [])
variable {pl :Bool} {s:List qG} {d:List qJ} {p:List Product} {pt:Pattern} {w:Saw} {t:Rates} {u:T} {N:List qA} {ri:List Int} {S:List Rect}
abbrev cutL (s:List qG) (d:List qJ) (p:List Product) (w:Saw) (t:Rates) (sh:Int) (ri:List Int) (N:List qA) (S:List Rect):=wL sh s d p w.Kerf w.Trim w.Pitch w.Step t.Chip t.Dust t.Fine (qY s) ri N S
structure qKn (s:List qG) (d:List qJ) (p:List Product) (w:Saw) (t:Rates) (N:List qA) (ri:List Int) (S O:List Rect) (B:List qI):Prop where
 yl:jE s d p w.Kerf w.Trim w.Pitch w.Step t.Chip t.Dust t.Fine (qY s) ri N S=some (qGV s w.Trim t.Chip t.Dust S O B,wE s O)
 bd:wW s d p w.Kerf w.Trim w.Pitch w.Step t.Chip t.Dust t.Fine (qY s) ri N S=some B
 rc:jY s d p w.Kerf w.Trim w.Pitch w.Step t.Chip t.Dust t.Fine (qY s) ri N S=some O
 gd:∀c∈B,LH s c
 bl:B.length<=127
 us:wE s S+wE s O+(sumL (brdV s) B+sumL (trmV s w.Trim) B)<=volT s
theorem usedE (g:G29) (S O:List Rect) (B:List qI):g.used S O B=wE g.s S+wE g.s O+(sumL (brdV g.s) B+sumL (trmV g.s g.trim) B):=by
 unfold G29.used wE;have:sumL g.bt B=sumL (brdV g.s) B+sumL (trmV g.s g.trim) B:=qKt (brdV g.s) (trmV g.s g.trim) B;rw[this];rfl
theorem cuts_nn (s:List qG) (l:List Rect):0<=wE s l:=sumL_nn λr _=>qKs s r
theorem DQ.shows (h:VY s d p pt w t) {hh:Nat} (L:DQ (gOf pl s d p w t) u pt.Frame N hh S):∃O B,St29 (gOf pl s d p w t) N hh u 0 pt.Frame S O B/\qKn s d p w t N (zs29 (restT hh u 0)) S O B/\qKn s d p w t N (zs29 []) S [] B:=by
 obtain⟨O,B,q⟩:=L.st;have hok:=h.ok29 (pl:=pl);obtain⟨b1,b2,b3,b4,b5⟩:=q.bound hok L.ok L.wf L.lay L.wf;have hN:=L.len;have hle:=L.le;have eB:bl29 N 0 N.length=B:=by rw[hN];exact q.bl
 have eO:=q.rl;have hrl:(restT hh u 0).length<=127:=by
  have:(restT hh u 0).length<=(QF u 0).length:=List.length_filter_le _ _;have:=qBr u 0;omega
 have hrm:∀k∈restT hh u 0,k<N.length:=λk hk=>by have:=qCC hk;omega
 have hv:=qOz h.sol pt.Frame;rw[usedE] at b1;have b1':wE s S+wE s O+(sumL (brdV s) B+sumL (trmV s w.Trim) B)<=volT s:=uH b1 hv;have hgd:∀c∈bl29 N 0 N.length,LH s c:=by rw[eB];exact b2
 have nO:=cuts_nn s O;refine⟨O,B,q,⟨?_,?_,?_,b2,by omega,b1'⟩,⟨?_,?_,?_,b2,by omega,?_⟩⟩
 ·have:=qGy h.sol d p w.Kerf w.Trim w.Pitch w.Step t.Chip t.Dust t.Fine S (restT hh u 0) N h.vw.trim h.vw.chip h.vw.dust (by omega) (by omega) (by omega) hrm hgd (by rw[eB];omega) (by rw[eO];omega);rw[eB,eO] at this;exact this
 ·have:=qAT s d p w.Kerf w.Trim w.Pitch w.Step t.Chip t.Dust t.Fine (qY s) S (zs29 (restT hh u 0)) N (by omega);rw[eB] at this;exact this
 ·have:=qCz s d p w.Kerf w.Trim w.Pitch w.Step t.Chip t.Dust t.Fine (qY s) S (restT hh u 0) N (by omega) hrm;rw[eO] at this;exact this
 ·have:=qGy h.sol d p w.Kerf w.Trim w.Pitch w.Step t.Chip t.Dust t.Fine S [] N h.vw.trim h.vw.chip h.vw.dust (by omega) (by omega) (by simp) (λk hk=>by cases hk) hgd (by rw[eB];omega) (by simp);rw[eB] at this;exact this
 ·have:=qAT s d p w.Kerf w.Trim w.Pitch w.Step t.Chip t.Dust t.Fine (qY s) S (zs29 []) N (by omega);rw[eB] at this;exact this
 ·exact qCz s d p w.Kerf w.Trim w.Pitch w.Step t.Chip t.Dust t.Fine (qY s) S [] N (by simp) (λk hk=>by cases hk)
 ·have e0:wE s []=0:=rfl;rw[e0];omega
theorem DQ.cut (h:VY s d p pt w t) {hh j:Nat} {tl:List Nat} (L:DQ (gOf pl s d p w t) u pt.Frame N hh S) (e:restT hh u 0=j::tl) {O:List Rect} {B:List qI} (q:St29 (gOf pl s d p w t) N hh u 0 pt.Frame S O B) (sh:Int) (hsh:pl=true->sh=0):
  (cutL s d p w t sh (zs29 (j::tl)) N S=some (9,zs29 (j::tl),N,S)/\pl=false)\/
  ∃(N':List qA) (c:Rect) (O':List Rect) (B':List qI),cutL s d p w t sh (zs29 (j::tl)) N S=some (0,zs29 tl,N',S++[c])/\DQ (gOf pl s d p w t) u pt.Frame N' (j+1) (S++[c])/\restT (j+1) u 0=tl/\St29 (gOf pl s d p w t) N' (j+1) u 0 pt.Frame (S++[c]) O' B'/\B.Sublist B'/\wE s O'<=wE s O/\(gOf pl s d p w t).used (S++[c]) O' B'<=(gOf pl s d p w t).used S O B:=by
 have hok:=h.ok29 (pl:=pl);obtain⟨n,a,b,l',x',rj,Q⟩:=qJ5 hok L.ok L.wf L.lay L.wf q e (λ_=>rfl);obtain⟨b1,b2,b3,b4,b5⟩:=q.bound hok L.ok L.wf L.lay L.wf;have hN:=L.len;have hle:=L.le;have htl:tl.length<=127:=by
  have h1:(restT hh u 0).length<=(QF u 0).length:=List.length_filter_le _ _;have:=qBr u 0;rw[e] at h1;simp at h1;omega
 have ec:=qOH hok Q w.Trim w.Pitch t.Chip t.Dust (qY s) tl sh (by omega) (by omega) (by omega);by_cases c:sh<=(alP rj n.Kind).A-n.At\/(alP rj n.Kind).B-n.At<=sh
 ·rw[if_pos c] at ec;refine .inl ⟨ec,?_⟩;cases hp:pl with
  |false=>rfl
  |true=>
   subst hp;have h1:=Q.pr rfl;have h2:=qBP Q.ok.1 Q.ok.2.1;rw[<-h1] at h2;have:=hsh rfl;omega
 ·rw[if_neg c] at ec;right;have hlt:=Q.hi;rw[wQ] at hlt;have pa:=YW a;have pb:=YW b;have f0:∀k,k≠j+1->k≠j+1+szT a->nAt (cutN (gOf pl s d p w t) N j n a rj (n.At+sh)) k=nAt N k:=λk k1 k2=>by unfold cutN;rw[KO _ k2,KO _ k1]
  have f1:nAt (cutN (gOf pl s d p w t) N j n a rj (n.At+sh)) (j+1)=(gOf pl s d p w t).stN (fiP rj ⟨n.Kind,n.At+sh⟩) (nAt N (j+1)):=by
   unfold cutN;rw[KO _ (by omega),MO _ (by omega)]
  have f2:nAt (cutN (gOf pl s d p w t) N j n a rj (n.At+sh)) (j+1+szT a)=(gOf pl s d p w t).stN (seP rj ⟨n.Kind,n.At+sh⟩ (gOf pl s d p w t).kerf) (nAt N (j+1+szT a)):=by
   unfold cutN;rw[MO _ (by rw[wV];omega),KO _ (by omega)]
  obtain⟨O',B',s',bs,os,us⟩:=Q.cut (n.At+sh) _ ⟨by omega,λq=>by rw[hsh q,Int.add_zero]⟩ f0 f1 f2;exact⟨_,_,O',B',ec,⟨by rw[qJI,hN],hle,L.ok,L.wf,L.lay.to (qJI _ _ _ _ _) (qMH _ _ _ _ _ (by omega) (by omega)),O',B',s'⟩,qNj e,s',bs,os,us⟩
end Go.SL.Saw

namespace Go.SL.Saw
variable {s :List qG} {d:List qJ} {p:List Product} {pt:Pattern} {w:Saw} {t:Rates} {u:T} {N:List qA} {ri:List Int} {S:List Rect}
theorem qMn (a:qQ):∃b,LC a=some b:=by
 unfold LC NV;obtain⟨b,hb,hs⟩:=qL1 a;rw[hb];simp only[kg];cases b with
 |false=>exact⟨_,rfl⟩
 |true=>
  obtain⟨h1,h2,h3,h4⟩:=hs rfl;obtain⟨n,hn⟩:=qLo a (by omega) (by omega);rw[kn,hn];exact⟨_,rfl⟩
theorem VY.pl (h:VY s d p pt w t):p.length<=16:=qIm (by rw[h.pr];simp)
theorem qD5.shows (h:VY s d p pt w t) (C:qD5 (gOf false s d p w t) u pt.Frame N ri S):∃O B,qKn s d p w t N ri S O B:=by
 obtain⟨hh,L,e⟩:=C.ex;obtain⟨O,B,_,q1,q2⟩:=L.shows h;rcases e with rfl|rfl
 ·exact⟨O,B,q1⟩
 ·exact⟨[],B,q2⟩
theorem qD5.cut (h:VY s d p pt w t) (C:qD5 (gOf false s d p w t) u pt.Frame N ri S) (sh:Int):∃e ri' N' S',cutL s d p w t sh ri N S=some (e,ri',N',S')/\qD5 (gOf false s d p w t) u pt.Frame N' ri' S':=by
 obtain⟨hh,L,e⟩:=C.ex;have hnil:∀hh,DQ (gOf false s d p w t) u pt.Frame N hh S->∃e ri' N' S',cutL s d p w t sh (zs29 []) N S=some (e,ri',N',S')/\qD5 (gOf false s d p w t) u pt.Frame N' ri' S':=λhh L=>⟨18,zs29 [],N,S,rfl,⟨hh,L,.inr rfl⟩⟩
 rcases e with e|rfl
 ·cases hr:restT hh u 0 with
  |nil=>rw[e,hr];exact hnil hh L
  |cons j tl=>
   obtain⟨O,B,q⟩:=L.st;rw[e,hr];rcases L.cut h hr q sh (λc=>by cases c) with⟨ec,_⟩|⟨N',c,O',B',ec,L',hr',_⟩
   ·exact⟨9,_,N,S,ec,⟨hh,L,.inl (by rw[hr])⟩⟩
   ·exact⟨0,_,N',_,ec,⟨j+1,L',.inl (by rw[hr'])⟩⟩
 ·exact hnil hh L
theorem qNC (pl:Bool) (a:qQ) (h:VY a.Solid a.Defects a.Products a.Pattern a.Saw a.Rates):∃(u:T) (N:List qA),a.Pattern.Nodes=wO u/\DQ (gOf pl a.Solid a.Defects a.Products a.Saw a.Rates) u a.Pattern.Frame N 0 []/\(lvP a.Pattern a.Saw.Kerf=lvT a.Saw.Kerf u ⟨a.Pattern.Frame,1⟩/\ctP a.Pattern a.Saw.Kerf=ctT a.Saw.Kerf u ⟨a.Pattern.Frame,1⟩)/\
  YF a=some (.inr (⟨a.Solid,a.Defects,a.Products,a.Saw,a.Rates,qY a.Solid,N,zs29 (QF u 0),[]⟩,0)):=by
 obtain⟨u,N,hn,L,hl,e⟩:=qOc (pl:=pl) h h.pl;refine⟨u,N,hn,L,hl,?_⟩;unfold YF;rw[e];rfl
theorem qMc (a:qQ) (h:¬VY a.Solid a.Defects a.Products a.Pattern a.Saw a.Rates):∃e,e≠0/\YF a=some (.inl e)/\e=chkY a.Solid a.Defects a.Products a.Pattern a.Saw a.Rates:=by
 obtain⟨e,hc⟩:=qMX h;refine⟨_,hc,?_,rfl⟩;unfold YF;rw[e];rfl
end Go.SL.Saw

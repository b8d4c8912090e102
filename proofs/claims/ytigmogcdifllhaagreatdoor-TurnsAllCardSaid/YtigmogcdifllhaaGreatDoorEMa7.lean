/- Scan's plain mathematics, part 9: ScanInside, end. -/
import Derived.Test.YtigmogcdifllhaaGreatDoorEMa6
import Derived.Test.YtigmogcdifllhaaGreatDoorEMa1
import Derived.Test.YtigmogcdifllhaaGreatDoorEMod
set_option linter.unusedVariables false
set_option linter.unusedSimpArgs false
namespace Go.SL
namespace Saw
theorem qNk {α β:Type} (N:Nat) (L:Nat->List α->Int->Option β) (f:Nat->α) (z:α) (out:List α->β) (hN:N<=1000000000)
  (h0:∀n x l,x<N->l.length=N->L (n+1) l (x:Int)=L n (l.set x (f x)) ((x+1:Nat):Int))
  (h1:∀n l,l.length=N->L (n+1) l (N:Int)=some (out l)):L FUEL (List.replicate N z) 0=some (out ((List.range N).map f)):=by
 have h:=zA N L (λx _=>PN f z N (x+1)) out (λx l=>l=PN f z N x) 0 (by omega) hN (λn x l hx hi=>by
   subst hi;exact⟨by rw[h0 n x _ hx (qF0 f z N x),partF_set],rfl⟩) (λn l hi=>h1 n l (by rw[hi,qF0])) (PN f z N 0) rfl
 obtain⟨e1,e2⟩:=h;rw[e2,qNN,qPf] at e1;exact e1
theorem qRG {α β:Type} (N:Nat) (L:Nat->List α->Int->Option β) (f:Nat->α) (out:List α->β) (hN:N<=1000000000)
  (h0:∀n x l,x<N->l.length=x->L (n+1) l (x:Int)=L n (l++[f x]) ((x+1:Nat):Int))
  (h1:∀n l,l.length=N->L (n+1) l (N:Int)=some (out l)):L FUEL [] 0=some (out ((List.range N).map f)):=by
 have h:=zA N L (λx l=>l++[f x]) out (λx l=>l=(List.range x).map f) 0 (by omega) hN (λn x l hx hi=>⟨h0 n x l hx (by rw[hi];simp),by
   rw[hi,ul,kU];rfl⟩) (λn l hi=>h1 n l (by rw[hi];simp)) [] rfl
 obtain⟨e1,e2⟩:=h;rw[e2] at e1;exact e1
def stepB (t:Int×Int×Int×Int):Int×Int×Int×Int:=(w64 (0-t.2.2.2),w64 (0-t.2.2.1),t.1,t.2.1)
def qQN (q:Nat) (d:qC):Int×Int×Int×Int:=foldN (λ_ t=>stepB t) 0 q (d.Box.X.A,d.Box.X.B,d.Box.Y.A,d.Box.Y.B)
def qMS (q:Nat) (d:qC):qC:=qC.mk d.Kind (Box.mk (Span.mk (qQN q d).1 (qQN q d).2.1) (Span.mk (qQN q d).2.2.1 (qQN q d).2.2.2) d.Box.Z)
theorem qYb (l:List qC) (r:Int) (q:Nat) (hq:q<4) (e:Int.tmod (w64 (Int.tmod r 4+4)) 4=(q:Int)) (x:Nat):QY l r x FUEL 0 (l.getD x daa).Box.X.A (l.getD x daa).Box.X.B (l.getD x daa).Box.Y.A (l.getD x daa).Box.Y.B=some (qMS q (l.getD x daa)):=by
 have k:=(zA q (λn (t:Int×Int×Int×Int) i=>QY l r x n i t.1 t.2.1 t.2.2.1 t.2.2.2) (λ_ t=>stepB t) (λt=>qC.mk (l.getD x daa).Kind (Box.mk (Span.mk t.1 t.2.1) (Span.mk t.2.2.1 t.2.2.2) (l.getD x daa).Box.Z)) (λ_ _=>True) 0 (by omega) (by omega) (λn i t hi _=>⟨by
   show QY l r x (n+1) (i:Int) t.1 t.2.1 t.2.2.1 t.2.2.2=_;rw[QY,e,ka (by omega),qM (by omega)];rfl,trivial⟩) (λn t _=>by
   show QY l r x (n+1) (q:Int) t.1 t.2.1 t.2.2.1 t.2.2.2=_;rw[QY,e,ke (by omega),ko];rfl) ((l.getD x daa).Box.X.A,(l.getD x daa).Box.X.B,(l.getD x daa).Box.Y.A,(l.getD x daa).Box.Y.B) trivial).1
 exact k
theorem qXJ (l:List qC) (r:Int) (q:Nat) (hq:q<4) (e:Int.tmod (w64 (Int.tmod r 4+4)) 4=(q:Int)) (x:Nat):WG l r x FUEL 0 (l.getD x daa).Box.X.A (l.getD x daa).Box.X.B (l.getD x daa).Box.Y.A (l.getD x daa).Box.Y.B (l.getD x daa).Box.Z.A (l.getD x daa).Box.Z.B=some (qMS q (l.getD x daa)):=by
 have k:=(zA q (λn (t:Int×Int×Int×Int) i=>WG l r x n i t.1 t.2.1 t.2.2.1 t.2.2.2 (l.getD x daa).Box.Z.A (l.getD x daa).Box.Z.B) (λ_ t=>stepB t) (λt=>qC.mk (l.getD x daa).Kind (Box.mk (Span.mk t.1 t.2.1) (Span.mk t.2.2.1 t.2.2.2) (l.getD x daa).Box.Z)) (λ_ _=>True) 0 (by omega) (by omega) (λn i t hi _=>⟨by
   show WG l r x (n+1) (i:Int) t.1 t.2.1 t.2.2.1 t.2.2.2 _ _=_;rw[WG,UB,e];simp only[kg];rw[ka (by omega),qM (by omega)];rfl,trivial⟩) (λn t _=>by
   show WG l r x (n+1) (q:Int) t.1 t.2.1 t.2.2.1 t.2.2.2 _ _=_;rw[WG,UB,e];simp only[kg];rw[ke (by omega),ko];rfl) ((l.getD x daa).Box.X.A,(l.getD x daa).Box.X.B,(l.getD x daa).Box.Y.A,(l.getD x daa).Box.Y.B) trivial).1
 exact k
def qG7 (q:Nat) (l:List qC):List qC:=(List.range l.length).map (λx=>qMS q (l.getD x daa))
theorem qXB (l:List qC) (r:Int) (q:Nat) (hq:q<4) (e:Int.tmod (w64 (Int.tmod r 4+4)) 4=(q:Int)) (h:QD l=0):qCG l r=some (qG7 q l)/\qDT l r=some (qG7 q l):=by
 have hl:=((yO _).1 h).1;unfold qCG qDT;rw[qEQ,qFo,h,qBz (by omega) (by omega),ko];have L1:=qNk l.length (λn t i=>JR l r n t i) (λx=>qMS q (l.getD x daa)) (qC.mk 0 (Box.mk (Span.mk 0 0) (Span.mk 0 0) (Span.mk 0 0))) id (by omega) (λn x t hx ht=>by
   show JR l r (n+1) t (x:Int)=_;rw[JR,ka (by omega),qJ (by omega),ko,qYb l r q hq e x,qJ (by omega),qM (by omega)];rfl) (λn t ht=>by
   show JR l r (n+1) t _=_;rw[JR,ke (by omega)];rfl)
 have L2:=qRG l.length (λn t i=>YX l r n t i) (λx=>qMS q (l.getD x daa)) id (by omega) (λn x t hx ht=>by
   show YX l r (n+1) t (x:Int)=_;rw[YX,ka (by omega),qJ (by omega),ko,qXJ l r q hq e x,QG (by omega),qM (by omega)];rfl) (λn t ht=>by
   show YX l r (n+1) t _=_;rw[YX,ke (by omega)];rfl)
 simp only[kg,kA,kr,kp];rw[L1,L2];exact⟨rfl,rfl⟩
theorem qUU (q:Nat) (l:List qC):(qG7 q l).length=l.length:=by simp[qG7]
def qEY (s:Scan) (r:Int):List Ring:=(List.range s.Rings.length).map (λx=>(QR (rgs s x) r).getD daa)
theorem qLk (s:Scan) (r:Int) (x:Nat) (h:(rgs s x).Read.length<=1000):QR (s.Rings.getD x daa) r=some ((QR (rgs s x) r).getD daa)/\DX (s.Rings.getD x daa) r=some ((QR (rgs s x) r).getD daa)/\((QR (rgs s x) r).getD daa).Read.length=(rgs s x).Read.length:=by
 obtain⟨b,e1,e2,e3⟩:=qQa (rgs s x) r h;rw[e1];exact⟨e1,e2,e3⟩
theorem clone15 (s:Scan) (h:CP s):qEs s=some s:=by
 have hr:=h.r;have hd:=h.d;unfold qEs DO yR;rw[QG (by omega),QG (by omega)];simp only[kp,kg];have L:=(zA s.Rings.length (λn l i=>WE s.Rings n i l) (λ_ l=>l) id (λ_ l=>l=s.Rings) 0 (by omega) (by omega) (λn x l hx hi=>⟨by
   subst hi;show WE s.Rings (n+1) (x:Int) s.Rings=_;have hp:(s.Rings.getD x daa).Read.length<=1000000:=h.p x hx;rw[WE,ka (by omega),qJ (by omega),ko,QN,QG (by omega),qM (by omega)];simp only[kp,kg];rw[show s.Rings.set x (Ring.mk (s.Rings.getD x daa).Z (s.Rings.getD x daa).Read)=s.Rings from by
    refine dw (by simp) λj h1 h2=>?_;by_cases hj:x=j
    ·subst hj;rw[List.getElem_set_self,ki,ks hx];rfl
    ·rw[List.getElem_set_ne hj]],hi⟩) (λn l hi=>by
   show WE s.Rings (n+1) _ l=_;rw[WE,ke (by omega)];rfl) s.Rings rfl)
 obtain⟨e1,e2⟩:=L;rw[e2] at e1;have e1':WE s.Rings FUEL 0 s.Rings=some s.Rings:=e1;rw[e1'];rfl
theorem qUl (s:Scan) (r:Int) (h:CP s):∃t,qA2 s r=some t/\qBs s r=some t/\CP t:=by
 unfold qA2 qBs;rw[qSR,qPj];simp only[kg];by_cases hc:¬DN s=0
 ·rw[show(DN s !=0)=true from ua.2 hc,clone15 s h];exact⟨s,rfl,rfl,h⟩
 have hc:DN s=0:=Classical.not_not.1 hc;have v:=(qHy s).1 hc;have v24:=v.many;have d64:=((yO _).1 v.def13).1;obtain⟨q,hq,e⟩:=qVw r;obtain⟨k1,k2⟩:=qXB s.Defects r q hq e v.def13;rw[hc,qBz (by omega) (by omega),ko,k1,k2];have L1:=qNk s.Rings.length (λn t i=>KW s r n i t) (λx=>(QR (rgs s x) r).getD daa) (Ring.mk 0 ([]:List qO)) id (by omega) (λn x t hx ht=>by
   show KW s r (n+1) (x:Int) t=_;have:=(v.good x hx).hi;rw[KW,ka (by omega),qJ (by omega),ko,(qLk s r x (by omega)).1,qJ (by omega),qM (by omega)];rfl) (λn t ht=>by
   show KW s r (n+1) _ t=_;rw[KW,ke (by omega)];rfl)
 have L2:=qRG s.Rings.length (λn t i=>YV s r n i t) (λx=>(QR (rgs s x) r).getD daa) id (by omega) (λn x t hx ht=>by
   show YV s r (n+1) (x:Int) t=_;have:=(v.good x hx).hi;rw[YV,ka (by omega),qJ (by omega),ko,(qLk s r x (by omega)).2.1,QG (by omega),qM (by omega)];rfl) (λn t ht=>by
   show YV s r (n+1) _ t=_;rw[YV,ke (by omega)];rfl)
 simp only[kg,kA,kr,kp];rw[L1,L2];refine⟨Scan.mk (qEY s r) (qG7 q s.Defects),rfl,rfl,?_,?_,λi hi=>?_⟩
 ·show(qEY s r).length<=_;simp only[qEY,kP,uc];omega
 ·show(qG7 q s.Defects).length<=_;rw[qUU];omega
 ·have hi':i<s.Rings.length:=by
   have:i<(qEY s r).length:=hi;simpa[qEY] using this
  show((qEY s r).getD i daa).Read.length<=_;have g:=(v.good i hi').hi;unfold qEY;rw[ki,kI,gY hi'];show((QR (rgs s i) r).getD daa).Read.length<=_;rw[(qLk s r i (by omega)).2.2];omega
noncomputable def VV (t:Scan) (l m:Int):List qB×List qC×Int:=if(BX t l m).2≠0 then([],[],(BX t l m).2) else((BX t l m).1,t.Defects,0)
def Tq {α:Type} (Q:α->Prop) (x:Option α):Prop:=∃a,x=some a/\Q a
theorem Tq.rt {α:Type} {Q:α->Prop} {a:α} (h:Q a):Tq Q (some a):=⟨a,rfl,h⟩
theorem Tq.bd {α β:Type} {Q:β->Prop} {R:α->Prop} {x:Option α} {f:α->Option β} (h:Tq R x) (k:∀a,R a->Tq Q (f a)):Tq Q (x.bind f):=by
 obtain⟨a,rfl,h⟩:=h;exact k a h
theorem Tq.cd {α:Type} {Q:α->Prop} {b:Bool} {x y:Option α} (h1:b=true->Tq Q x) (h2:b=false->Tq Q y):Tq Q (bif b then x else y):=by
 cases b
 ·exact h2 rfl
 ·exact h1 rfl
theorem Tq.cp {α:Type} {Q:α->Prop} {p:Prop} [Decidable p] {x y:Option α} (h1:p->Tq Q x) (h2:¬p->Tq Q y):Tq Q (bif decide p then x else y):=Tq.cd (λh=>h1 (uw h)) λh=>h2 (of_decide_eq_false h)
theorem Tq.gi {α:Type} {Q:α->Prop} {i:Int} {n:Nat} {x:Option α} (h:0<=i/\i<n) (k:Tq Q x):Tq Q (bif inb i n then x else none):=by rw[ZT h.1 h.2];exact k
theorem Tq.el {ε σ α:Type} {Q:α->Prop} {u:ε⊕σ} {f:ε->Option α} {g:σ->Option α} (h1:∀a,u= .inl a->Tq Q (f a)) (h2:∀a,u= .inr a->Tq Q (g a)):Tq Q (Sum.elim f g u):=by
 cases u
 ·exact h1 _ rfl
 ·exact h2 _ rfl
theorem Tq.lp {σ β:Type} {Q:β->Prop} (N:Nat) (hN:N<=1000000000) (L:Nat->σ->Int->Option β) (I:Nat->σ->Prop) {z:Nat} (hz:z<=N)
  (h:∀n x s,x<=N->I x s->(∀s',x<N->I (x+1) s'->Tq Q (L n s' (w64 ((x:Int)+1))))->Tq Q (L (n+1) s (x:Int))) {s:σ} (hs:I z s):Tq Q (L FUEL s (z:Int)):=by
 have k:∀n x s,N<x+n->x<=N->I x s->Tq Q (L n s (x:Int)):=by
  intro n
  induction n with
  |zero=>intro x s h1 h2;omega
  |succ n ih=>
   intro x s h1 h2 hi;refine h n x s h2 hi λs' hx hi'=>?_;rw[qM (by omega)];exact ih (x+1) s' (by omega) (by omega) hi'
 exact k FUEL z s (by rw[FUEL_eq];omega) hz hs
abbrev tt {α:Type}:α->Prop:=λ_=>True
theorem qH4 (a b c:Int):Tq tt (QE a b c):=by
 unfold QE;exact Tq.cp (λ_=>Tq.rt trivial) λ_=>Tq.rt (a:=false) trivial
theorem tRChk (s:Saw) (r:Rates):Tq tt (TK s r):=by
 have k2:∀b,Tq tt (TV b):=λb=>Tq.cd (λ_=>Tq.rt trivial) λ_=>Tq.rt trivial;have k1:∀b,Tq tt (XO r b):=λb=>Tq.cd (λ_=>Tq.rt trivial) λ_=>(qH4 _ _ _).bd λ_ _=>Tq.cd (λ_=>k2 _) λ_=>(qH4 _ _ _).bd λ_ _=>Tq.cd (λ_=>k2 _) λ_=>(qH4 _ _ _).bd λ_ _=>k2 _;unfold TK;exact(qH4 _ _ _).bd λ_ _=>Tq.cd (λ_=>k1 _) λ_=>(qH4 _ _ _).bd λ_ _=>Tq.cd (λ_=>k1 _) λ_=>(qH4 _ _ _).bd λ_ _=>Tq.cd (λ_=>k1 _) λ_=>(qH4 _ _ _).bd λ_ _=>k1 _
theorem tLight (a:jY) (m:yP):Tq (λb=>b=true->CP a.Scan) (qC0 a m):=by
 have nf:Tq (λb:Bool=>b=true->CP a.Scan) (some false):=Tq.rt λq=>by cases q
 unfold qC0;refine Tq.cp (λ_=>nf) λh1=>Tq.cp (λ_=>nf) λh2=>?_;unfold NC;have no:∀{K:Prop},Tq (λu:Bool⊕Unit=>(∀b,u= .inl b->b=false)/\∀o,u= .inr o->K) (some (.inl false)):=Tq.rt ⟨λ_ q=>(by cases q;rfl),λ_ q=>(by cases q)⟩;have ok:∀{K:Prop},K->Tq (λu:Bool⊕Unit=>(∀b,u= .inl b->b=false)/\∀o,u= .inr o->K) (some (.inr ())):=λh=>Tq.rt ⟨λ_ q=>(by cases q),λ_ _=>h⟩
 refine Tq.cp (λ_=>nf) λh3=>(Tq.lp (Q:=λu:Bool⊕Unit=>(∀b,u= .inl b->b=false)/\∀o,u= .inr o->∀i,i<a.Scan.Rings.length->(a.Scan.Rings.getD i daa).Read.length<=40) a.Scan.Rings.length (by omega) (λn (_:Unit) i=>KK a n i) (λx _=>∀i,i<x->(a.Scan.Rings.getD i daa).Read.length<=40) (ud _) (λn x s hx hi ih=>?_) (s:=()) λi hi=>by omega).bd λu hu=>Tq.el (λb hb=>Tq.rt λq=>by rw[hu.1 b hb] at q;cases q) λo ho=>(Tq.lp (Q:=λu:Bool⊕Unit=>(∀b,u= .inl b->b=false)/\∀o,u= .inr o->True) m.Products.length (by omega) (λn (_:Unit) i=>JG m n i) (λ_ _=>True) (ud _) (λn x s hx _ ih=>?_) (s:=()) trivial).bd λw hw=>Tq.el (λb hb=>Tq.rt λq=>by rw[hw.1 b hb] at q;cases q) λ_ _=>?_
 ·show Tq _ (KK a (n+1) x);rw[KK];refine Tq.cp (λh=>Tq.gi (by omega) (Tq.cp (λ_=>no) λh4=>?_)) λh=>ok λi hi'=>hi i (by omega);rw[ko] at h4;unfold IG;refine Tq.cp (λ_=>no) λ_=>(Tq.lp (Q:=λu:Bool⊕Unit=>(∀b,u= .inl b->b=false)/\∀o,u= .inr o->True) (a.Scan.Rings.getD x daa).Read.length (by omega) (λn (_:Unit) i=>ZE a x n i) (λ_ _=>True) (ud _) (λm y s hy _ ih2=>?_) (s:=()) trivial).bd λu hu=>Tq.el (λb hb=>by rw[hu.1 b hb];exact no) λ_ _=>ih () (by omega) λi hi'=>?_
  ·show Tq _ (ZE a x (m+1) y);rw[ZE,ko];refine Tq.gi (by omega) (Tq.cp (λh=>Tq.gi (by omega) (Tq.cp (λ_=>no) λ_=>Tq.cp (λ_=>no) λ_=>Tq.cp (λ_=>no) λ_=>?_)) λ_=>ok trivial);exact Tq.cp (λ_=>no) λ_=>ih2 () (by omega) trivial
  ·by_cases hc:i=x
   ·subst hc;omega
   ·exact hi i (by omega)
 ·show Tq _ (JG m (n+1) x);rw[JG];refine Tq.cp (λh=>Tq.gi (by omega) (Tq.cp (λ_=>no) λ_=>Tq.cp (λ_=>no) λ_=>?_)) λ_=>ok trivial;exact Tq.cp (λ_=>no) λ_=>ih () (by omega) trivial
 ·have fin:∀b:Bool,Tq (λb=>b=true->CP a.Scan) (some b):=λb=>Tq.rt λ_=>⟨by omega,by omega,λi hi=>by have:=hu.2 o ho i hi;unfold rgs;omega⟩
  exact(tRChk _ _).bd λ_ _=>Tq.cd (λ_=>fin _) λ_=>Tq.cp (λ_=>fin _) λ_=>fin _
structure qV where
 rect:Rect
 level:Int
instance : Inhabited qV:=⟨⟨daa,0⟩⟩
structure Leaf where
 Rect:Rect
 Product:Int
instance : Inhabited Leaf:=⟨⟨daa,0⟩⟩
structure jZ where
 Leaf:Int
 Product:Int
 Box:Box
 Worth:Int
instance : Inhabited jZ:=⟨⟨0,0,daa,0⟩⟩
structure Yield where
 Log:Int
 Boards:Int
 Chips:Int
 Dust:Int
 Value:Int
instance : Inhabited Yield:=⟨⟨0,0,0,0,0⟩⟩
def smallc (c:Int):Bool:=decide (97<=c)&&decide (c<=122)
def digitc (c:Int):Bool:=decide (48<=c)&&decide (c<=57)
theorem qM2 (c:Int):MN c=some (smallc c):=by
 unfold MN LD smallc;cases decide (97<=c)<;>rfl
theorem qVM (c:Int):qAc c=some (digitc c):=by
 unfold qAc FW digitc;cases decide (48<=c)<;>rfl
theorem qRg (c:Int):qC4 c=some (digitc c):=by
 unfold qC4 OE digitc;show(bif decide (48<=c) then _ else _)=_;cases decide (48<=c)<;>rfl
def badc (b:ByteArray) (i:Nat):Option Bool:=bif smallc (strAt b i)||(digitc (strAt b i)||strAt b i==95) then none else some false
def isNm (b:ByteArray):Bool:=
 if b.size<1\/16<b.size then false
 else bif smallc (strAt b 0) then(match findN (badc b) 1 (b.size-1) with| .inl e=>e| .inr _=>true) else false
theorem qVQ (b:ByteArray):qB8 b=some (isNm b):=by
 unfold qB8 isNm DY;by_cases h1:b.size<1
 ·rw[ka (show(b.size:Int)<1 by omega),if_pos (.inl h1)];rfl
 rw[ke (show¬(b.size:Int)<1 by omega)];by_cases h2:16<b.size
 ·rw[ka (show(b.size:Int)>16 by omega),if_pos (.inr h2)];rfl
 rw[ke (show¬(b.size:Int)>16 by omega),if_neg (by omega),qJ (by omega)];have L:QF b FUEL ((1:Nat):Int)=some (findN (badc b) 1 (b.size-1)):=by
  refine QI b.size (QF b) (badc b) 1 (by omega) (by omega) (λn i hi hN=>?_) (λn=>?_)
  ·rw[QF,ka (by omega),qJ (by omega)];simp only[kp,ko,qM2,qVM,kg,GN,qM (show i<4611686018427387904 by omega),badc];cases smallc (strAt b i)<;>cases digitc (strAt b i)<;>cases h:strAt b i==95<;>simp[bne,h]
  ·rw[QF,ke (by omega)];rfl
 simp only[kr,kp,qM2,kg,gK];rw[show(1:Int)=((1:Nat):Int) from rfl,L];cases smallc (strAt b 0) with
 |false=>rfl
 |true=>cases findN (badc b) 1 (b.size-1)<;>rfl
theorem qQj (b:ByteArray):qBK b=some (isNm b):=by
 unfold qBK isNm HB;by_cases h1:b.size<1
 ·rw[ka (show(b.size:Int)<1 by omega),if_pos (.inl h1)];rfl
 rw[ke (show¬(b.size:Int)<1 by omega)];by_cases h2:16<b.size
 ·rw[ka (show(b.size:Int)>16 by omega),if_pos (.inr h2)];rfl
 rw[ke (show¬(b.size:Int)>16 by omega),if_neg (by omega)];have hs:∀c:Int,decide (c≥97)=decide (97<=c):=λc=>rfl;have L:ZR b FUEL ((0:Nat):Int)=some (findN (λi=>bif smallc (strAt b i) then none else if i=0 then some false else badc b i) 0 (b.size-0)):=by
  refine QI b.size (ZR b) _ 0 (by omega) (by omega) (λn i hi hN=>?_) (λn=>?_)
  ·rw[ZR,ka (by omega),qJ (by omega)];simp only[kp,ko,qRg,kg,HY,PO,qM (show i<4611686018427387904 by omega),badc,ZT (show(0:Int)<=(i:Int) by omega) (show(i:Int)<(b.size:Int) by omega)];by_cases h0:i=0
   ·subst h0;simp only[smallc,hs];cases decide (97<=strAt b 0)<;>cases decide (strAt b 0<=122)<;>rfl
   ·have e:((i:Int)==0)=false:=by rw[kC];omega
    simp only[smallc,hs,e,if_neg h0];cases decide (97<=strAt b i)<;>cases decide (strAt b i<=122)<;>cases h:strAt b i==95<;>cases digitc (strAt b i)<;>simp[bne,h]
  ·rw[ZR,ke (by omega)];rfl
 simp only[kr];rw[show(0:Int)=((0:Nat):Int) from rfl,L];obtain⟨m,hm⟩:∃m,b.size=m+1:=⟨b.size-1,by omega⟩
 rw[hm,kO,findN];simp only[if_true];cases hs0:smallc (strAt b 0) with
 |false=>rfl
 |true=>
  simp only[kp];rw[qKy (b2:=badc b) (λi h1 h2=>by
   have:¬i=0:=by omega
   rw[if_neg this];unfold badc;cases smallc (strAt b i)<;>rfl)]
  rw[show m+1-1=m by omega];show((some (findN (badc b) 1 m)).bind _)=_;cases findN (badc b) 1 m<;>rfl
def okSz (n:Int):Bool:=decide (n≥1)&&decide (n<=600)
theorem qW1 (n:Int):NL n=some (okSz n):=by
 unfold NL BO okSz;cases decide (n≥1)<;>rfl
def qCF (n a:Int):Int:=Int.tdiv (n*(1000+a)+999) 1000
theorem qA7 {n a:Int} (h1:1<=n) (h2:n<=600) (h3:0<=a) (h4:a<=200):w64 (Int.tdiv (w64 (w64 (n*w64 (1000+a))+999)) 1000)=qCF n a/\n<=qCF n a/\qCF n a<=721:=by
 have h5:w64 (1000+a)=1000+a:=qD (by omega);have hb:=uP h2 (show 1000+a<=1200 by omega) (by omega) (by omega);have ha:=uP (kM n) (show 1000<=1000+a by omega) (by omega) (by omega);have h6:w64 (n*(1000+a))=n*(1000+a):=qD (by omega);have h7:w64 (n*(1000+a)+999)=n*(1000+a)+999:=qD (by omega);rw[h5,h6,h7];have h8:Int.tdiv (n*(1000+a)+999) 1000=(n*(1000+a)+999)/1000:=Int.tdiv_eq_ediv_of_nonneg (by omega);unfold qCF;rw[h8];refine⟨qD (by omega),by omega,by omega⟩
def okG (p:Product):Bool:=okSz p.Thick&&(okSz p.Width&&(decide (0<=p.Allow)&&decide (p.Allow<=200)))
theorem qKg {p:Product}:okG p=true↔(1<=p.Thick/\p.Thick<=600)/\(1<=p.Width/\p.Width<=600)/\0<=p.Allow/\p.Allow<=200:=by
 unfold okG okSz;simp
def qT (p:Product):Int×Int:=bif okG p then(qCF p.Thick p.Allow,qCF p.Width p.Allow) else(0,0)
theorem qSS (p:Product):0<=(qT p).1/\(qT p).1<=721/\0<=(qT p).2/\(qT p).2<=721:=by
 unfold qT;cases h:okG p with
 |false=>simp only[kr];omega
 |true=>
  obtain⟨⟨a,b⟩,⟨c,d⟩,e,f⟩:=qKg.1 h;have g1:=qA7 a b e f;have g2:=qA7 c d e f;simp only[kp];omega
theorem AE (p:Product):RO p=some (qT p)/\BE p=some (qT p):=by
 unfold RO BE qGy UD KA NX qBk qT;simp only[qW1,kg];by_cases h:okG p=true
 ·obtain⟨⟨a,b⟩,⟨c,d⟩,e,f⟩:=qKg.1 h;have g1:=qA7 a b e f;have g2:=qA7 c d e f;rw[h];unfold okSz;rw[ka (show p.Thick≥1 from a),ka b,ka (show p.Width≥1 from c),ka d,ke (show¬p.Allow<0 by omega),ke (show¬p.Allow>200 by omega)];simp only[Bool.and_self,kG,kp,kr,kg];rw[g1.1,g2.1];exact⟨rfl,rfl⟩
 ·rw[Bool.not_eq_true] at h;have h':=h;unfold okG at h';rw[h];have e1:decide (p.Allow<0)=!decide (0<=p.Allow):=by by_cases q:p.Allow<0<;>simp[q]<;>omega
  have e2:decide (p.Allow>200)=!decide (p.Allow<=200):=by by_cases q:p.Allow>200<;>simp[q]<;>omega
  rw[e1,e2];unfold okSz at h'⊢
  revert h'
  cases decide (p.Thick≥1)<;>cases decide (p.Thick<=600)<;>cases decide (p.Width≥1)<;>cases decide (p.Width<=600)<;>cases decide (0<=p.Allow)<;>cases decide (p.Allow<=200)<;>simp
def badLen (p:Product) (i:Nat):Option Int:=
 if p.Lengths.getD i daa<100\/20000<p.Lengths.getD i daa then some 9
 else if 0<i/\p.Lengths.getD i daa<=p.Lengths.getD (i-1) daa then some 11 else none
def badPr (n:Int):Option Int:=if n<0\/1000000<n then some 9 else none
def qE3 (p:Product):Int:=
 if p.Lengths.length=0 then 3 else if 8<p.Lengths.length then 4 else if p.Prices.length≠p.Lengths.length then 19
 else match findN (badLen p) 0 p.Lengths.length with
  | .inl e=>e
  | .inr _=>match findE badPr p.Prices with
   | .inl e=>e
   | .inr _=>0
theorem qUm (p:Product) (h:p.Lengths.length<=8):wQ p FUEL 0=some (findN (badLen p) 0 p.Lengths.length)/\wV p FUEL 0=some (findN (badLen p) 0 p.Lengths.length):=by
 refine⟨QI p.Lengths.length (wQ p) (badLen p) 0 (by omega) (by omega) (λn i hi hN=>?_) (λn=>?_),QI p.Lengths.length (wV p) (badLen p) 0 (by omega) (by omega) (λn i hi hN=>?_) (λn=>?_)⟩
 ·rw[wQ,ka (by omega),qJ (by omega)];simp only[kp,ko,XH,XJ,qM (show i<4611686018427387904 by omega),badLen];by_cases h1:p.Lengths.getD i daa<100
  ·rw[ka h1,if_pos (.inl h1)];rfl
  rw[ke h1];by_cases h2:20000<p.Lengths.getD i daa
  ·rw[ka (show p.Lengths.getD i daa>20000 from h2),if_pos (.inr h2)];rfl
  rw[ke (show¬p.Lengths.getD i daa>20000 from h2),if_neg (by omega)];simp only[kr];by_cases h3:0<i
  ·rw[ka (show(i:Int)>0 by omega),show w64 ((i:Int)-1)=((i-1:Nat):Int) by rw[qD (by omega)];omega,qJ (by omega)];simp only[kp,ko];by_cases h4:p.Lengths.getD i daa<=p.Lengths.getD (i-1) daa
   ·rw[ka h4,if_pos ⟨h3,h4⟩];rfl
   ·rw[ke h4,if_neg (λq=>h4 q.2)];rfl
  ·rw[ke (show¬(i:Int)>0 by omega),if_neg (λq=>h3 q.1)];rfl
 ·rw[wQ,ke (by omega)];rfl
 ·rw[wV,ka (by omega),qJ (by omega)];simp only[kp,ko,PG,PJ,qM (show i<4611686018427387904 by omega),badLen];by_cases h1:p.Lengths.getD i daa<100
  ·rw[ka h1,if_pos (.inl h1)];rfl
  rw[ke h1];by_cases h2:20000<p.Lengths.getD i daa
  ·rw[ka (show p.Lengths.getD i daa>20000 from h2),if_pos (.inr h2)];rfl
  rw[ke (show¬p.Lengths.getD i daa>20000 from h2),if_neg (by omega)];simp only[kr];by_cases h3:0<i
  ·rw[ka (show(i:Int)>0 by omega),show w64 ((i:Int)-1)=((i-1:Nat):Int) by rw[qD (by omega)];omega,qJ (by omega),qJ (by omega)];simp only[kp,ko];by_cases h4:p.Lengths.getD i daa<=p.Lengths.getD (i-1) daa
   ·rw[ka h4,if_pos ⟨h3,h4⟩];rfl
   ·rw[ke h4,if_neg (λq=>h4 q.2)];rfl
  ·rw[ke (show¬(i:Int)>0 by omega),if_neg (λq=>h3 q.1)];rfl
 ·rw[wV,ke (by omega)];rfl
theorem qXd (p:Product) (h:p.Prices.length<=8):wP p FUEL 0=some (findE badPr p.Prices)/\wX p FUEL 0=some (findE badPr p.Prices):=by
 refine⟨YW p.Prices (wP p) badPr (by omega) (λn i hN=>?_) (λn=>?_),YW p.Prices (wX p) badPr (by omega) (λn i hN=>?_) (λn=>?_)⟩
 ·rw[wP,ka (by omega),qJ (by omega)];simp only[kp,ko,XI,qM (show i<4611686018427387904 by omega),badPr];by_cases h1:p.Prices.getD i daa<0
  ·rw[ka h1,if_pos (.inl h1)];rfl
  rw[ke h1];by_cases h2:1000000<p.Prices.getD i daa
  ·rw[ka (show p.Prices.getD i daa>1000000 from h2),if_pos (.inr h2)];rfl
  rw[ke (show¬p.Prices.getD i daa>1000000 from h2),if_neg (by omega)];rfl
 ·rw[wP,ke (by omega)];rfl
 ·rw[wX,ka (by omega),qJ (by omega)];simp only[kp,ko,PH,qM (show i<4611686018427387904 by omega),badPr];by_cases h1:p.Prices.getD i daa<0
  ·rw[ka h1,if_pos (.inl h1)];rfl
  rw[ke h1];by_cases h2:1000000<p.Prices.getD i daa
  ·rw[ka (show p.Prices.getD i daa>1000000 from h2),if_pos (.inr h2)];rfl
  rw[ke (show¬p.Prices.getD i daa>1000000 from h2),if_neg (by omega)];rfl
 ·rw[wX,ke (by omega)];rfl
theorem qXu (p:Product):DI p=some (qE3 p):=by
 unfold DI qE3;by_cases h0:p.Lengths.length=0
 ·rw[if_pos h0,h0];rfl
 rw[if_neg h0,show((p.Lengths.length:Int)==0)=false by rw[kC];omega];by_cases h1:8<p.Lengths.length
 ·rw[if_pos h1,ka (by omega)];rfl
 rw[if_neg h1,ke (by omega)];by_cases h2:p.Prices.length≠p.Lengths.length
 ·rw[if_pos h2,show((p.Prices.length:Int) !=(p.Lengths.length:Int))=true by rw[ua];omega];rfl
 rw[if_neg h2,show((p.Prices.length:Int) !=(p.Lengths.length:Int))=false by rw[kV];omega];simp only[kr];rw[(qUm p (by omega)).2,(qXd p (by omega)).2];cases findN (badLen p) 0 p.Lengths.length with
 |inl e=>rfl
 |inr u=>cases findE badPr p.Prices<;>rfl
def NZ (p:Product):Int:=
 if p.Thick<5\/300<p.Thick\/p.Width<p.Thick\/600<p.Width\/p.Allow<0\/200<p.Allow\/p.Wane<0\/1000<p.Wane then 9
 else if 600<(qT p).2 then 9 else qE3 p
theorem qWR (p:Product):TB p=some (NZ p):=by
 unfold TB yF NZ;by_cases h1:p.Thick<5
 ·rw[if_pos (.inl h1),ka h1];rfl
 rw[ke h1];by_cases h2:p.Thick>300
 ·rw[if_pos (by omega),ka h2];rfl
 rw[ke h2];by_cases h3:p.Width<p.Thick
 ·rw[if_pos (by omega),ka h3];rfl
 rw[ke h3];by_cases h4:p.Width>600
 ·rw[if_pos (by omega),ka h4];rfl
 rw[ke h4];simp only[kr];unfold yG;by_cases h5:p.Allow<0
 ·rw[if_pos (by omega),ka h5];rfl
 rw[ke h5];by_cases h6:p.Allow>200
 ·rw[if_pos (by omega),ka h6];rfl
 rw[ke h6];by_cases h7:p.Wane<0
 ·rw[if_pos (by omega),ka h7];rfl
 rw[ke h7];by_cases h8:p.Wane>1000
 ·rw[if_pos (by omega),ka h8];rfl
 rw[ke h8,if_neg (by omega)];simp only[kr,(AE p).1,kg];by_cases h9:600<(qT p).2
 ·rw[if_pos h9,ka (show(qT p).2>600 from h9)];rfl
 rw[if_neg h9,ke (show¬(qT p).2>600 from h9)];unfold qE3;by_cases h0:p.Lengths.length=0
 ·rw[if_pos h0,h0];rfl
 rw[if_neg h0,show((p.Lengths.length:Int)==0)=false by rw[kC];omega];by_cases h1:8<p.Lengths.length
 ·rw[if_pos h1,ka (by omega)];rfl
 rw[if_neg h1,ke (by omega)];by_cases h2:p.Prices.length≠p.Lengths.length
 ·rw[if_pos h2,show((p.Prices.length:Int) !=(p.Lengths.length:Int))=true by rw[ua];omega];rfl
 rw[if_neg h2,show((p.Prices.length:Int) !=(p.Lengths.length:Int))=false by rw[kV];omega];simp only[kr];rw[(qUm p (by omega)).1,(qXd p (by omega)).1];cases findN (badLen p) 0 p.Lengths.length with
 |inl e=>rfl
 |inr u=>cases findE badPr p.Prices<;>rfl
def twin (l:List Product) (x:Nat) (i:Nat):Option Int:=bif strEq ((l.getD i daa).Name) ((l.getD x daa).Name) then some 7 else none
def badP (l:List Product) (x:Nat):Option Int:=
 bif isNm (l.getD x daa).Name then
  match findN (twin l x) 0 x with
  | .inl e=>some e
  | .inr _=>bif NZ (l.getD x daa) !=0 then some (NZ (l.getD x daa)) else none
 else some 6
def wF (l:List Product):Int:=if 16<l.length then 4 else match findN (badP l) 0 l.length with| .inl e=>e| .inr _=>0
def fnd (l:List Product) (s:ByteArray):Nat->Option (Int×Bool):=λi=>bif strEq ((l.getD i daa).Name) s then some ((i:Int),true) else none
theorem Find_eq (l:List Product) (s:ByteArray) (h:l.length<=1000000):qBi l s=some (match findN (fnd l s) 0 l.length with| .inl e=>e| .inr _=>(0,false)):=by
 unfold qBi;have L:YD l s FUEL ((0:Nat):Int)=some (findN (fnd l s) 0 l.length):=by
  refine QI l.length (YD l s) _ 0 (by omega) (by omega) (λn i hi hN=>?_) (λn=>?_)
  ·rw[YD,ka (by omega),qJ (by omega)];simp only[kp,ko,qM (show i<4611686018427387904 by omega),fnd];cases strEq (l.getD i daa).Name s<;>rfl
  ·rw[YD,ke (by omega)];rfl
 rw[show(0:Int)=((0:Nat):Int) from rfl,L];simp only[kg];cases findN (fnd l s) 0 l.length<;>rfl
theorem qO2 {α:Type} [Inhabited α] (l:List α) {i x:Nat} (h:i<x):(l.take x).getD i daa=l.getD i daa:=by
 simp[ki,uh,h]
theorem qVZ (l:List Product) {x:Nat} (hx:x<=l.length):(match findN (fnd (l.take x) (l.getD x daa).Name) 0 (l.take x).length with| .inl e=>e| .inr _=>((0:Int),false)).2=(match findN (twin l x) 0 x with| .inl _=>true| .inr _=>false)/\∀e,findN (twin l x) 0 x= .inl e->e=7:=by
 have hl:(l.take x).length=x:=by rw[ur];omega
 rw[hl];constructor
 ·cases h1:findN (twin l x) 0 x with
  |inr u=>
   have h2:findN (fnd (l.take x) (l.getD x daa).Name) 0 x= .inr ():=by
    rw[KS];intro i a b;have:=KS.1 h1 i a b;unfold twin at this;unfold fnd;rw[qO2 l (by omega)];cases hq:strEq (l.getD i daa).Name (l.getD x daa).Name with
    |true=>rw[hq] at this;cases this
    |false=>rfl
   rw[h2]
  |inl e=>
   obtain⟨i,a,b,c,d⟩:=WK h1;cases h2:findN (fnd (l.take x) (l.getD x daa).Name) 0 x with
   |inr u=>
    have:=KS.1 h2 i a b;unfold fnd at this;rw[qO2 l (by omega)] at this;unfold twin at c;cases hq:strEq (l.getD i daa).Name (l.getD x daa).Name with
    |true=>rw[hq] at this;cases this
    |false=>rw[hq] at c;cases c
   |inl e'=>
    obtain⟨j,a',b',c',d'⟩:=WK h2;unfold fnd at c';cases hq:strEq ((l.take x).getD j daa).Name (l.getD x daa).Name with
    |true=>rw[hq] at c';cases c';rfl
    |false=>rw[hq] at c';cases c'
 ·intro e h;obtain⟨i,a,b,c,d⟩:=WK h;unfold twin at c;cases hq:strEq (l.getD i daa).Name (l.getD x daa).Name with
  |true=>rw[hq] at c;cases c;rfl
  |false=>rw[hq] at c;cases c
theorem qE7 (l:List Product):XF l=some (wF l):=by
 unfold XF wF;by_cases h:16<l.length
 ·rw[if_pos h,ka (by omega)];rfl
 rw[if_neg h,ke (by omega)];have L:WZ l FUEL ((0:Nat):Int)=some (findN (badP l) 0 l.length):=by
  refine QI l.length (WZ l) _ 0 (by omega) (by omega) (λn i hi hN=>?_) (λn=>?_)
  ·rw[WZ,ka (by omega),qJ (by omega)];have hs:slOk 0 (i:Int) l.length=true:=by unfold slOk;exact ka (by omega)
   simp only[kp,ko,qM (show i<4611686018427387904 by omega),qVQ,kg,hs,Find_eq (l.take i) (l.getD i daa).Name (by rw[ur];omega),qWR,badP];cases isNm (l.getD i daa).Name with
   |false=>rfl
   |true=>
    obtain⟨f1,f2⟩:=qVZ l (x:=i) (by omega);simp only[kG,kr,f1];cases hf:findN (twin l i) 0 i with
    |inl e=>rw[f2 e hf];rfl
    |inr u=>
     simp only[kr,kp];by_cases hc:NZ (l.getD i daa)=0
     ·rw[hc];rfl
     ·rw[show(NZ (l.getD i daa) !=0)=true by rw[ua];exact hc];rfl
  ·rw[WZ,ke (by omega)];rfl
 rw[show(0:Int)=((0:Nat):Int) from rfl,L];simp only[kr,kg];cases findN (badP l) 0 l.length<;>rfl
theorem qBQ (l:List Product):TE l=some (wF l):=by
 unfold TE wF;by_cases h:16<l.length
 ·rw[if_pos h,ka (by omega)];rfl
 rw[if_neg h,ke (by omega)];have L:wN l FUEL ((0:Nat):Int)=some (findN (badP l) 0 l.length):=by
  refine QI l.length (wN l) _ 0 (by omega) (by omega) (λn i hi hN=>?_) (λn=>?_)
  ·have L2:KM l (i:Int) FUEL ((0:Nat):Int)=some (findN (twin l i) 0 i):=by
    refine QI i (KM l (i:Int)) _ 0 (by omega) (by omega) (λn j hi hN=>?_) (λn=>?_)
    ·rw[KM,ka (by omega),qJ (by omega)];simp only[kp,ko,qM (show j<4611686018427387904 by omega),twin];cases strEq (l.getD j daa).Name (l.getD i daa).Name<;>rfl
    ·rw[KM,ke (by omega)];rfl
   rw[show((0:Nat):Int)=0 from rfl] at L2;rw[wN,ka (by omega),qJ (by omega)];simp only[kp,ko,qM (show i<4611686018427387904 by omega),qQj,kg,L2,qXu,badP,yX,(AE _).2];cases isNm (l.getD i daa).Name with
   |false=>rfl
   |true=>
    simp only[kG,kr,kp];cases hf:findN (twin l i) 0 i with
    |inl e=>rfl
    |inr u=>
     simp only[Sum.elim_inr];unfold NZ;by_cases h1:(l.getD i daa).Thick<5
     ·rw[if_pos (.inl h1),ka h1];rfl
     rw[ke h1];by_cases h2:(l.getD i daa).Thick>300
     ·rw[if_pos (show _\/_ by omega),ka h2];rfl
     rw[ke h2];by_cases h3:(l.getD i daa).Width<(l.getD i daa).Thick
     ·rw[if_pos (show _\/_ by omega),ka h3];rfl
     rw[ke h3];by_cases h4:(l.getD i daa).Width>600
     ·rw[if_pos (show _\/_ by omega),ka h4];rfl
     rw[ke h4];by_cases h5:(l.getD i daa).Allow<0
     ·rw[if_pos (show _\/_ by omega),ka h5];rfl
     rw[ke h5];by_cases h6:(l.getD i daa).Allow>200
     ·rw[if_pos (show _\/_ by omega),ka h6];rfl
     rw[ke h6];by_cases h7:(l.getD i daa).Wane<0
     ·rw[if_pos (show _\/_ by omega),ka h7];rfl
     rw[ke h7];by_cases h8:(l.getD i daa).Wane>1000
     ·rw[if_pos (show _\/_ by omega),ka h8];rfl
     rw[ke h8,if_neg (show¬((l.getD i daa).Thick<5\/300<(l.getD i daa).Thick\/(l.getD i daa).Width<(l.getD i daa).Thick\/600<(l.getD i daa).Width\/(l.getD i daa).Allow<0\/200<(l.getD i daa).Allow\/(l.getD i daa).Wane<0\/1000<(l.getD i daa).Wane) by omega)];simp only[kr];by_cases h9:600<(qT (l.getD i daa)).2
     ·rw[if_pos h9,ka (show(qT (l.getD i daa)).2>600 from h9)];rfl
     rw[if_neg h9,ke (show¬(qT (l.getD i daa)).2>600 from h9)];by_cases hc:qE3 (l.getD i daa)=0
     ·rw[hc];rfl
     ·rw[show(qE3 (l.getD i daa) !=0)=true by rw[ua];exact hc];rfl
  ·rw[wN,ke (by omega)];rfl
 rw[show(0:Int)=((0:Nat):Int) from rfl,L];simp only[kr,kg];cases findN (badP l) 0 l.length<;>rfl
theorem QH {n b:Nat} (h1:n<=1000000) (h2:b<=1000000):room n b=true:=QG (by
 have:=Nat.mul_le_mul h1 h2;omega)
theorem wJ {n b:Nat} (h:n<=1000000/\b<=1000000):room n b=true:=QH h.1 h.2
def sizStep (l:List Product) (t:Int) (i:Nat) (s:List Int×List Int):List Int×List Int:=
 bif (qT (l.getD i daa)).1==t then(s.1++[(qT (l.getD i daa)).2],s.2++[(i:Int)])
 else bif (qT (l.getD i daa)).2==t then(s.1++[(qT (l.getD i daa)).1],s.2++[(i:Int)])
 else s
def zF (l:List Product) (t:Int):List Int×List Int:=if wF l≠0 then([],[]) else foldN (sizStep l t) 0 l.length ([],[])
theorem qGE {l:List Product} {t:Int} {i:Nat} {s:List Int×List Int} (h:s.1.length<=i/\s.2.length<=i):(sizStep l t i s).1.length<=i+1/\(sizStep l t i s).2.length<=i+1:=by
 unfold sizStep;cases (qT (l.getD i daa)).1==t with
 |true=>simp;omega
 |false=>cases (qT (l.getD i daa)).2==t with
  |true=>simp;omega
  |false=>simp;omega
theorem qBa {l:List Product} (h:¬wF l≠0):l.length<=16:=by
 unfold wF at h;by_cases q:16<l.length
 ·rw[if_pos q] at h;exact absurd (by decide) h
 ·omega
theorem qHG (l:List Product) (t:Int):IQ l t=some (zF l t)/\CZ l t=some (zF l t):=by
 unfold IQ CZ zF;rw[qE7,qBQ];simp only[kg];by_cases hc:wF l≠0
 ·rw[if_pos hc,show(wF l !=0)=true by rw[ua];exact hc];exact⟨rfl,rfl⟩
 rw[if_neg hc,show(wF l !=0)=false by rw[kV];omega];simp only[kr];have hl:=qBa hc;have A:WI l t FUEL [] [] ((0:Nat):Int)=some (foldN (sizStep l t) 0 (l.length-0) ([],[])):=by
  refine(zA l.length (λn (s:List Int×List Int) i=>WI l t n s.1 s.2 i) (sizStep l t) (λs=>s) (λi s=>s.1.length<=i/\s.2.length<=i) 0 (by omega) (by omega) (λn i s hN hi=>?_) (λn s _=>?_) ([],[]) ⟨by simp,by simp⟩).1
  ·refine⟨?_,qGE hi⟩;obtain⟨s1,s2⟩:=s
   try simp only at hi
   try simp only
   rw[WI,ka (by omega),qJ (by omega)];simp only[kp,ko,qM (show i<4611686018427387904 by omega),(AE _).1,kg,qAx,qAD,QH (show s1.length+1<=1000000 by omega) (show 8<=1000000 by omega),QH (show s2.length+1<=1000000 by omega) (show 8<=1000000 by omega),sizStep];rw[show(t==(qT (l.getD i daa)).1)=((qT (l.getD i daa)).1==t) from dX.2 (by rw[gh,gh];exact eq_comm),show(t==(qT (l.getD i daa)).2)=((qT (l.getD i daa)).2==t) from dX.2 (by rw[gh,gh];exact eq_comm)];cases (qT (l.getD i daa)).1==t<;>cases (qT (l.getD i daa)).2==t<;>rfl
  ·rw[WI,ke (by omega)];rfl
 have B:QZ l t FUEL [] [] ((0:Nat):Int)=some (foldN (sizStep l t) 0 (l.length-0) ([],[])):=by
  refine(zA l.length (λn (s:List Int×List Int) i=>QZ l t n s.1 s.2 i) (sizStep l t) (λs=>s) (λi s=>s.1.length<=i/\s.2.length<=i) 0 (by omega) (by omega) (λn i s hN hi=>?_) (λn s _=>?_) ([],[]) ⟨by simp,by simp⟩).1
  ·refine⟨?_,qGE hi⟩;obtain⟨s1,s2⟩:=s
   try simp only at hi
   try simp only
   rw[QZ,ka (by omega),qJ (by omega)];simp only[kp,ko,qM (show i<4611686018427387904 by omega),(AE _).2,kg,NO,QH (show s1.length+1<=1000000 by omega) (show 8<=1000000 by omega),QH (show s2.length+1<=1000000 by omega) (show 8<=1000000 by omega),sizStep];cases (qT (l.getD i daa)).1==t<;>cases (qT (l.getD i daa)).2==t<;>rfl
  ·rw[QZ,ke (by omega)];rfl
 rw[show((0:Nat):Int)=0 from rfl] at A B;rw[A,B];exact⟨rfl,rfl⟩
theorem qDe (l:List Product) (t:Int):(zF l t).1.length<=16/\(zF l t).2.length<=16:=by
 unfold zF;by_cases hc:wF l≠0
 ·rw[if_pos hc];simp
 rw[if_neg hc];have hl:=qBa hc;have:∀k,(foldN (sizStep l t) 0 k ([],[])).1.length<=k/\(foldN (sizStep l t) 0 k ([],[])).2.length<=k:=by
  intro k
  induction k with
  |zero=>simp[foldN]
  |succ k ih=>rw[yK,kz];exact qGE ih
 have:=this l.length;omega
theorem qRq (s:qF):QV s=some (QO s):=by
 unfold QV QO;rw[(qCi s).1];simp only[kg];by_cases h:XG s=0
 ·rw[h];rfl
 ·have:(XG s !=0)=true:=by simpa using h
  rw[this,if_neg h];rfl
theorem hgt_eq {r:Int} (h1: -60<=r) (h2:r<60):ZS r (w64 (r+1))=some (hgt r):=by
 unfold ZS hgt;rw[qD (n:=r+1) (by omega),qD (by omega),qD (by omega)]
theorem qPw (s:qF) (R:Rect):ND s R=some (zJ (QO s) R.X R.Y):=by
 have h:=LA s;unfold ND;rw[qRq s];simp only[kg];generalize QO s=t at*;have b:=h.len;have b1:=h.low;have b2:=h.high;have pb:∀x,x<t.Rows.length->0<=ml (t.Rows.getD x daa) R.X*ml (hgt (t.Low+x)) R.Y/\ml (t.Rows.getD x daa) R.X*ml (hgt (t.Low+x)) R.Y<=1440000:=λx hx=>by
  have m1:=ml_b R.X (h.rng _ (zK hx));have m2:=ml_b R.Y (qJ4 (r:=t.Low+x) (by omega) (by omega));have:=wS (a:=ml (t.Rows.getD x daa) R.X) (b:=ml (hgt (t.Low+x)) R.Y) (m:=1200) (n:=1200) (by omega) (by omega) (by omega) (by omega) (by omega) (by omega);exact⟨ky m1.1 m2.1,by omega⟩
 have k1:=jJ t.Rows (λn (a:Int) x=>YT R t n a x) (λx=>(x:Int)) (λx a s=>s+ml a R.X*ml (hgt (t.Low+x)) R.Y) (λs=>s) (λx s=>0<=s/\s<=1440000*(x:Int)) (by omega)
  (λn x a hx hi=>by
   have p:=pb x hx;refine⟨?_,by omega⟩;rw[YT,ka (show(x:Int)<_ by omega),qJ (by omega),qM (by omega),qD (n:=t.Low+x) (by omega),hgt_eq (r:=t.Low+x) (by omega) (by omega)];simp only[kp,ko,kg,qBd];rw[ml_eq R.X (h.rng _ (zK hx)),ml_eq R.Y (qJ4 (r:=t.Low+x) (by omega) (by omega))];simp only[kg];rw[qD (n:=_*_) (by omega),qD (by omega)])
  (λn a _=>by rw[YT];simp) (i:=0) rfl 0 (by omega)
 rw[DV (λx a=>ml a R.X*ml (hgt (t.Low+x)) R.Y)] at k1;have e:=qHS h (λr a=>ml a R.X*ml (hgt r) R.Y) (λr=>by
  have:ml ⟨0,0⟩ R.X=0:=by have:=ml_b (x:=⟨0,0⟩) R.X rfl;have e:lenS ⟨0,0⟩=0:=rfl;omega
  rw[this];simp)
 simp only[kz,dy] at k1;rw[e] at k1;rw[k1.1];rfl
end Saw
end Go.SL
namespace Go.SL
theorem qNG {ε σ:Type} (N:Nat) (L:Nat->σ->Int->Option (ε⊕Unit)) (bad:Nat->Option ε) (st:Nat->σ) (hN:N<=1000000000)
  (h0:∀n i,i<N->(∀j,j<i->bad j=none)->L (n+1) (st i) (i:Int)=match bad i with|some e=>some (.inl e)|none=>L n (st (i+1)) ((i+1:Nat):Int))
  (h1:∀n,L (n+1) (st N) (N:Int)=some (.inr ())):L FUEL (st 0) 0=some (findN bad 0 N):=by
 have key:∀k n x,x+k=N->k<n->(∀j,j<x->bad j=none)->L n (st x) (x:Int)=some (findN bad x k):=by
  intro k
  induction k with
  |zero=>
   intro n x hx hn hb;obtain⟨n,rfl⟩:∃m,n=m+1:=⟨n-1,by omega⟩
   rw[ug] at hx;subst hx;exact h1 n
  |succ k ih=>
   intro n x hx hn hb;obtain⟨n,rfl⟩:∃m,n=m+1:=⟨n-1,by omega⟩
   rw[h0 n x (by omega) hb,findN];cases hc:bad x with
   |some e=>rfl
   |none=>
    exact ih n (x+1) (by omega) (by omega) (λj hj=>by
     by_cases e:j=x
     ·subst e;exact hc
     ·exact hb j (by omega))
 exact key N FUEL 0 (by omega) (by rw[FUEL_eq];omega) (λj hj=>by omega)
namespace Saw
def lenTo (l:List qB) (k:Nat):Int:=sumN k (λi=>(l.getD i daa).Len)
theorem zZ (l:List qB) (k:Nat):lenTo l (k+1)=lenTo l k+(l.getD k daa).Len:=rfl
def badSl (l:List qB) (i:Nat):Option Int:=
 if XG (l.getD i daa).Sec≠0 then some (XG (l.getD i daa).Sec)
 else if(l.getD i daa).Sec.Rows.length=0 then some 18
 else if(l.getD i daa).Len<1\/20000-lenTo l i<(l.getD i daa).Len then some 9 else none
theorem qNx {l:List qB} {i:Nat}:badSl l i=none↔VS (l.getD i daa).Sec/\(l.getD i daa).Sec.Rows≠[]/\1<=(l.getD i daa).Len/\lenTo l (i+1)<=20000:=by
 unfold badSl;rw[<-chk10_zero,zZ];by_cases h1:XG (l.getD i daa).Sec≠0
 ·rw[if_pos h1];exact⟨λh=>(by cases h),λh=>absurd h.1 h1⟩
 rw[if_neg h1];have h1':XG (l.getD i daa).Sec=0:=by omega
 by_cases h2:(l.getD i daa).Sec.Rows.length=0
 ·rw[if_pos h2];exact⟨λh=>(by cases h),λh=>absurd (List.length_eq_zero_iff.1 h2) h.2.1⟩
 rw[if_neg h2];have h2':(l.getD i daa).Sec.Rows≠[]:=λe=>h2 (by rw[e];rfl);by_cases h3:(l.getD i daa).Len<1\/20000-lenTo l i<(l.getD i daa).Len
 ·rw[if_pos h3];simp only[reduceCtorEq,false_iff];rintro⟨_,_,a,b⟩;omega
 ·rw[if_neg h3];simp only[true_iff];exact⟨h1',h2',by omega,by omega⟩
theorem qYT {l:List qB} {i:Nat} {e:Int} (h:badSl l i=some e):e≠0:=by
 unfold badSl at h;split at h
 ·cases h;assumption
 ·split at h
  ·cases h;decide
  ·split at h
   ·cases h;decide
   ·cases h
theorem qH3 {l:List qB}:∀{i:Nat},(∀j,j<i->badSl l j=none)->(i:Int)<=lenTo l i/\lenTo l i<=20000
 |0,_=>⟨by simp[lenTo,sumN],by simp[lenTo,sumN]⟩
 |i+1,h=>by
  have a:=qNx.1 (h i (by omega));have b:=qH3 (i:=i) (λj hj=>h j (by omega));rw[zZ] at*;exact⟨by omega,a.2.2.2⟩
def DP (l:List qB):Int:=if l.length=0 then 3 else if 24<l.length then 4 else match findN (badSl l) 0 l.length with| .inl e=>e| .inr _=>0
theorem qT1 (l:List qB) (h:l.length<=24):JO l FUEL 0 0=some (findN (badSl l) 0 l.length)/\JK l FUEL 0 0=some (findN (badSl l) 0 l.length):=by
 constructor
 ·refine qNG l.length (JO l) (badSl l) (lenTo l) (by omega) (λn i hi hb=>?_) (λn=>?_)
  ·have b:=qH3 hb;rw[JO,ka (by omega),qJ (by omega)];simp only[kp,ko,(qCi _).1,kg,IK,qM (show i<4611686018427387904 by omega)];rw[qD (n:=20000-lenTo l i) (by omega)];unfold badSl;by_cases h1:XG (l.getD i daa).Sec≠0
   ·rw[if_pos h1,show(XG (l.getD i daa).Sec !=0)=true by rw[ua];exact h1];rfl
   rw[if_neg h1,show(XG (l.getD i daa).Sec !=0)=false by rw[kV];omega];by_cases h2:(l.getD i daa).Sec.Rows.length=0
   ·rw[if_pos h2,h2];rfl
   rw[if_neg h2,show(((l.getD i daa).Sec.Rows.length:Int)==0)=false by rw[kC];omega];by_cases h3:(l.getD i daa).Len<1
   ·rw[if_pos (.inl h3),ka h3];rfl
   rw[ke h3];by_cases h4:20000-lenTo l i<(l.getD i daa).Len
   ·rw[if_pos (.inr h4),ka (show(l.getD i daa).Len>20000-lenTo l i from h4)];rfl
   rw[if_neg (by omega),ke (show¬(l.getD i daa).Len>20000-lenTo l i from h4),zZ,qD (by omega)];rfl
  ·rw[JO,ke (by omega)];rfl
 ·refine qNG l.length (JK l) (badSl l) (lenTo l) (by omega) (λn i hi hb=>?_) (λn=>?_)
  ·have b:=qH3 hb;rw[JK,ka (by omega),qJ (by omega)];simp only[kp,ko,(qCi _).2,kg,OC,qM (show i<4611686018427387904 by omega)];rw[qD (n:=20000-lenTo l i) (by omega)];unfold badSl;by_cases h1:XG (l.getD i daa).Sec≠0
   ·rw[if_pos h1,show(XG (l.getD i daa).Sec !=0)=true by rw[ua];exact h1];rfl
   rw[if_neg h1,show(XG (l.getD i daa).Sec !=0)=false by rw[kV];omega];by_cases h2:(l.getD i daa).Sec.Rows.length=0
   ·rw[if_pos h2,h2];rfl
   rw[if_neg h2,show(((l.getD i daa).Sec.Rows.length:Int)==0)=false by rw[kC];omega];by_cases h3:(l.getD i daa).Len<1
   ·rw[if_pos (.inl h3),ka h3];rfl
   rw[ke h3];by_cases h4:20000-lenTo l i<(l.getD i daa).Len
   ·rw[if_pos (.inr h4),ka (show(l.getD i daa).Len>20000-lenTo l i from h4)];rfl
   rw[if_neg (by omega),ke (show¬(l.getD i daa).Len>20000-lenTo l i from h4),zZ,qD (by omega)];rfl
  ·rw[JK,ke (by omega)];rfl
theorem UK (l:List qB):BD l=some (DP l)/\WA l=some (DP l):=by
 unfold BD WA DP;by_cases h0:l.length=0
 ·rw[if_pos h0,h0];exact⟨rfl,rfl⟩
 rw[if_neg h0,show((l.length:Int)==0)=false by rw[kC];omega];by_cases h1:24<l.length
 ·rw[if_pos h1,ka (by omega)];exact⟨rfl,rfl⟩
 rw[if_neg h1,ke (by omega)];simp only[kr];rw[(qT1 l (by omega)).1,(qT1 l (by omega)).2];cases findN (badSl l) 0 l.length<;>exact⟨rfl,rfl⟩
structure VSol (l:List qB):Prop where
 ne:0<l.length
 len:l.length<=24
 ok:∀i,i<l.length->badSl l i=none
theorem KR (l:List qB):DP l=0↔VSol l:=by
 unfold DP;by_cases h0:l.length=0
 ·rw[if_pos h0];exact⟨λh=>absurd h (by decide),λh=>by have:=h.ne;omega⟩
 rw[if_neg h0];by_cases h1:24<l.length
 ·rw[if_pos h1];exact⟨λh=>absurd h (by decide),λh=>by have:=h.len;omega⟩
 rw[if_neg h1];cases hf:findN (badSl l) 0 l.length with
 |inl e=>
  obtain⟨i,a,b,c,d⟩:=WK hf;simp only;exact⟨λh=>absurd h (qYT c),λh=>by rw[h.ok i (by omega)] at c;cases c⟩
 |inr u=>exact⟨λ_=>⟨by omega,by omega,λi hi=>KS.1 hf i (by omega) (by omega)⟩,λ_=>rfl⟩
theorem VSol.at {l:List qB} (h:VSol l) {i:Nat} (hi:i<l.length):VS (l.getD i daa).Sec/\(l.getD i daa).Sec.Rows≠[]/\1<=(l.getD i daa).Len/\lenTo l (i+1)<=20000:=qNx.1 (h.ok i hi)
theorem VSol.bd {l:List qB} (h:VSol l) {i:Nat} (hi:i<=l.length):(i:Int)<=lenTo l i/\lenTo l i<=20000:=qH3 (λj hj=>h.ok j (by omega))
theorem VSol.mono {l:List qB} (h:VSol l):∀{j:Nat},j<=l.length->∀{i:Nat},i<=j->lenTo l i<=lenTo l j
 |0,_,i,hi=>by rw[show i=0 by omega];exact kM _
 |j+1,hj,i,hi=>by
  by_cases e:i=j+1
  ·rw[e];exact kM _
  ·have:=h.mono (j:=j) (by omega) (i:=i) (by omega);have:=(h.at (i:=j) (by omega)).2.2.1;rw[zZ];omega
def valL (l:List qB):List qB:=if DP l=0 then l else[]
theorem qJ8 (l:List qB):BC l=some (valL l):=by
 unfold BC valL;rw[(UK l).1];simp only[kg];by_cases h:DP l=0
 ·rw[if_pos h,h];rfl
 ·rw[if_neg h,show(DP l !=0)=true by rw[ua];exact h];rfl
theorem PL {l:List qB} (h:VSol l):valL l=l:=by unfold valL;rw[if_pos ((KR l).2 h)]
def solLen (l:List qB):Int:=lenTo l l.length
theorem qRv {l:List qB} (h:VSol l):YE l FUEL 0 0=some (solLen l)/\JW l FUEL 0 0=some (solLen l):=by
 have hl:=h.len;have f:∀k,foldN (λi s=>s+(l.getD i daa).Len) 0 k 0=lenTo l k:=by
  intro k
  induction k with
  |zero=>rfl
  |succ k ih=>rw[yK,ih,kz];rfl
 constructor
 ·have k:=(zA l.length (λn (s:Int) i=>YE l n s i) (λi s=>s+(l.getD i daa).Len) (λs=>s) (λi s=>s=lenTo l i) 0 (by omega) (by omega) (λn i s hi hs=>by
   have b:=h.bd (i:=i) (by omega);have b':=h.bd (i:=i+1) (by omega);rw[zZ] at b';refine⟨?_,by rw[hs,zZ]⟩;rw[YE,ka (by omega),qJ (by omega)];simp only[kp,ko,qM (show i<4611686018427387904 by omega)];rw[qD (by omega)]) (λn s _=>by rw[YE,ke (by omega)];rfl) 0 rfl).1
  rw[kO,f] at k;exact k
 ·have k:=(zA l.length (λn (s:Int) i=>JW l n s i) (λi s=>s+(l.getD i daa).Len) (λs=>s) (λi s=>s=lenTo l i) 0 (by omega) (by omega) (λn i s hi hs=>by
   have b:=h.bd (i:=i) (by omega);have b':=h.bd (i:=i+1) (by omega);rw[zZ] at b';refine⟨?_,by rw[hs,zZ]⟩;rw[JW,ka (by omega),qJ (by omega)];simp only[kp,ko,qM (show i<4611686018427387904 by omega)];rw[qD (by omega)]) (λn s _=>by rw[JW,ke (by omega)];rfl) 0 rfl).1
  rw[kO,f] at k;exact k
theorem TH (l:List qB):UL l=some (solLen (valL l))/\KU l=some (solLen (valL l)):=by
 unfold UL KU;rw[qJ8,(UK l).2];simp only[kg];by_cases h:DP l=0
 ·have v:=(KR l).1 h;rw[PL v,h,(qRv v).1,(qRv v).2];exact⟨rfl,rfl⟩
 ·have e:valL l=[]:=by unfold valL;rw[if_neg h]
  rw[e,show(DP l !=0)=true by rw[ua];exact h];constructor
  ·rw[FUEL_eq];rfl
  ·rfl
def ext (l:List qB) (i:Nat):Span:=⟨lenTo l i,lenTo l (i+1)⟩
theorem wI {α:Type} [Inhabited α] (f:Nat->α) {n i:Nat} (h:i<n):((List.range n).map f).getD i daa=f i:=by
 rw[ki,kI,gY h];rfl
theorem qVg {l:List qB} (h:VSol l\/l=[]):qAK l=some ((List.range l.length).map (ext l)):=by
 unfold qAK;rcases h with h|h
 ·have hl:=h.len;rw[qBz (by omega) (by omega),ko];simp only[kp];have k:=zA l.length (λn (s:List Span×Int) i=>XY l n s.1 s.2 i) (λi s=>(s.1.set i (ext l i),lenTo l (i+1))) (λs=>s.1)
   (λi s=>s.1.length=l.length/\s.2=lenTo l i/\∀j,j<i->s.1.getD j daa=ext l j) 0 (by omega) (by omega)
   (λn i s hi hs=>by
    obtain⟨s1,s2⟩:=s;obtain⟨e1,e2,e3⟩:=hs;simp only at e1 e2 e3;have b:=h.bd (i:=i) (by omega);have b':=h.bd (i:=i+1) (by omega);refine⟨?_,by simpa using e1,rfl,λj hj=>?_⟩
    ·simp only;rw[XY,ka (by omega),qJ (by omega),qJ (by omega)];simp only[kp,ko,qM (show i<4611686018427387904 by omega),e2];rw[zZ] at b';rw[qD (by omega)];rfl
    ·simp only;by_cases c:j=i
     ·subst c;rw[BF _ (by omega)]
     ·rw[ZZ _ (λe=>c e.symm),e3 j (by omega)])
   (λn s _=>by rw[XY,ke (by omega)];rfl) (List.replicate l.length (Span.mk 0 0),0) ⟨by simp,rfl,λj hj=>by omega⟩
  obtain⟨k1,k2,k3,k4⟩:=k;simp only[kO] at k1 k2 k3 k4;rw[show((0:Nat):Int)=0 from rfl] at k1;rw[k1];simp only[kg]
  congr 1
  refine qH8 (by simp[k2]) (λj hj=>?_);rw[k2] at hj;rw[k4 j hj,wI _ hj]
 ·subst h;rw[qBz (by simp) (by simp)];rw[FUEL_eq];rfl
theorem mx_b' {x y:Span} {M:Int} (h:x.B-x.A<=M) (h0:0<=M):(nrm (mxS x y)).B-(nrm (mxS x y)).A<=M:=by
 unfold nrm;cases he:empS (mxS x y) with
 |true=>simpa using h0
 |false=>
  simp only[kr];unfold mxS;have:=wZ x.A y.A;have:=imin_or x.B y.B;simp only;omega
theorem ml_eq' {x:Span} (y:Span) (h:x.B-x.A<=100000):LH (nrm (mxS x y))=some (ml x y):=by
 rw[qGz (by have:=mx_b' (y:=y) h (by omega);omega),qUc];rfl
theorem qTW {l:List qB} (h:VSol l) {i:Nat} (hi:i<l.length):lenS (ext l i)=(l.getD i daa).Len:=by
 have:=(h.at hi).2.2.1;rw[qN9,show(ext l i).A=lenTo l i from rfl,show(ext l i).B=lenTo l i+(l.getD i daa).Len from zZ l i];rw[if_neg (by omega)];omega
def volS (l:List qB) (x y z:Span):Int:=sumN l.length (λi=>ml (ext l i) z*zJ (l.getD i daa).Sec x y)
theorem qLz {s:qF} (h:VS s) (x y:Span):0<=zJ s x y/\zJ s x y<=1440000:=⟨qFx s x y,uY (qJY s x y) (qNC h).2⟩
theorem qLn {l:List qB} (h:VSol l) (x y z:Span) {i:Nat} (hi:i<l.length):0<=ml (ext l i) z*zJ (l.getD i daa).Sec x y/\ml (ext l i) z*zJ (l.getD i daa).Sec x y<=1440000*(l.getD i daa).Len:=by
 have a:=qLz (h.at hi).1 x y;have b:=qEl (ext l i) z;have c:=qMn (ext l i) z;rw[qTW h hi] at c;refine⟨ky b a.1,?_⟩;have:=uP c a.2 a.1 (by have:=(h.at hi).2.2.1;omega);rw[Int.mul_comm 1440000];exact this
theorem qHz {l:List qB} (h:VSol l) (x y z:Span):∀{k:Nat},k<=l.length->0<=sumN k (λi=>ml (ext l i) z*zJ (l.getD i daa).Sec x y)/\sumN k (λi=>ml (ext l i) z*zJ (l.getD i daa).Sec x y)<=1440000*lenTo l k
 |0,_=>by simp[sumN,lenTo]
 |k+1,hk=>by
  have a:=qHz h x y z (k:=k) (by omega);have b:=qLn h x y z (i:=k) (by omega);rw[zZ];simp only[sumN];omega
theorem SA {l:List qB} (h:VSol l) (x y z:Span):0<=volS l x y z/\volS l x y z<=28800000000:=by
 have a:=qHz h x y z (kq l.length);have b:=(h.bd (kq l.length)).2;exact⟨a.1,uY a.2 (by omega)⟩
theorem qJy {l:List qB} (h:VSol l) (b:Box):AH l b=some (volS l b.X b.Y b.Z):=by
 have hl:=h.len;unfold AH;rw[qJ8,PL h];simp only[kg];rw[qVg (.inl h)];simp only[kg];have hlen:((List.range l.length).map (ext l)).length=l.length:=by simp
 have k:=(zA l.length (λn (s:Int) i=>YL b l ((List.range l.length).map (ext l)) n s i) (λi s=>s+ml (ext l i) b.Z*zJ (l.getD i daa).Sec b.X b.Y) (λs=>s)
  (λi s=>s=sumN i (λi=>ml (ext l i) b.Z*zJ (l.getD i daa).Sec b.X b.Y)) 0 (by omega) (by omega)
  (λn i s hi hs=>by
   have p:=qHz h b.X b.Y b.Z (k:=i) (by omega);have t:=qLn h b.X b.Y b.Z hi;have bd:=h.bd (i:=i) (by omega);have at':=(h.at hi).2.2;rw[zZ] at at';refine⟨?_,by rw[hs];rfl⟩;rw[YL,hlen,ka (by omega),qJ (by omega)];simp only[kp,ko,qM (show i<4611686018427387904 by omega),wI _ hi,qBd,kg,HU];rw[ml_eq' b.Z (show(ext l i).B-(ext l i).A<=100000 by rw[show(ext l i).A=lenTo l i from rfl,show(ext l i).B=lenTo l i+(l.getD i daa).Len from zZ l i];omega)];simp only[kg,qPw];rw[ST (h.at hi).1];by_cases c:ml (ext l i) b.Z>0
   ·rw[ka c];simp only[kp];rw[qD (n:=ml (ext l i) b.Z*zJ (l.getD i daa).Sec b.X b.Y) (by omega),qD (by omega)]
   ·have z:ml (ext l i) b.Z=0:=by have:=qEl (ext l i) b.Z;omega
    rw[ke c,z];simp)
  (λn s _=>by rw[YL,hlen,ke (by omega)];rfl) 0 rfl)
 rw[show((0:Nat):Int)=0 from rfl] at k;rw[k.1];simp only[kg];exact congrArg some k.2
theorem qWw {l:List qB} (h:VSol l) (r:Rect) (z:Span):TN l r z=some (volS l r.X r.Y z):=by
 unfold TN;rw[qJy h];rfl
structure VW (s:Saw) (r:Rates):Prop where
 kerf:0<=s.Kerf/\s.Kerf<=20
 trim:0<=s.Trim/\s.Trim<=20
 pitch:1<=s.Pitch/\s.Pitch<=2000
 step:1<=s.Step/\s.Step<=20000
 chip:0<=r.Chip/\r.Chip<=1000
 dust:0<=r.Dust/\r.Dust<=1000
 fine:0<=r.Fine/\r.Fine<=1000000
theorem qON (n:Int):SI n=some (decide (1<=n/\n<=20000)):=by
 unfold SI SC;by_cases h1:n≥1
 ·rw[ka h1];by_cases h2:n<=20000
  ·rw[ka h2,ka ⟨h1,h2⟩];rfl
  ·rw[ke h2,ke (λh=>h2 h.2)];rfl
 ·rw[ke h1,ke (show¬(1<=n/\n<=20000) from λh=>h1 h.1)];rfl
theorem qPA (n:Int):ES n=some (decide (0<=n/\n<=1000000)):=by
 unfold ES HA;by_cases h1:n≥0
 ·rw[ka h1];by_cases h2:n<=1000000
  ·rw[ka h2,ka ⟨h1,h2⟩];rfl
  ·rw[ke h2,ke (λh=>h2 h.2)];rfl
 ·rw[ke h1,ke (show¬(0<=n/\n<=1000000) from λh=>h1 h.1)];rfl
open Classical in
noncomputable def IX (s:Saw) (r:Rates):Int:=if VW s r then 0 else 9
theorem qEw (s:Saw) (r:Rates):IX s r=0↔VW s r:=by
 unfold IX;by_cases h:VW s r
 ·rw[if_pos h];simp[h]
 ·rw[if_neg h];simp[h]
theorem qRI (s:Saw) (r:Rates):CV s r=some (IX s r):=by
 unfold CV TW NY KG;simp only[qON,qPA,kg];have no:¬VW s r->IX s r=9:=λh=>by unfold IX;rw[if_neg h]
 by_cases c1:s.Kerf<0
 ·rw[ka c1,no (λh=>by have:=h.kerf;omega)];rfl
 rw[ke c1];by_cases c2:s.Kerf>20
 ·rw[ka c2,no (λh=>by have:=h.kerf;omega)];rfl
 rw[ke c2];by_cases c3:s.Trim<0
 ·rw[ka c3,no (λh=>by have:=h.trim;omega)];rfl
 rw[ke c3];by_cases c4:s.Trim>20
 ·rw[ka c4,no (λh=>by have:=h.trim;omega)];rfl
 rw[ke c4];simp only[kr];by_cases c5:s.Pitch<1
 ·rw[ka c5,no (λh=>by have:=h.pitch;omega)];rfl
 rw[ke c5];by_cases c6:s.Pitch>2000
 ·rw[ka c6,no (λh=>by have:=h.pitch;omega)];rfl
 rw[ke c6];by_cases c7:1<=s.Step/\s.Step<=20000
 ·rw[ka c7];simp only[kr,kG];by_cases d1:r.Chip<0
  ·rw[ka d1,no (λh=>by have:=h.chip;omega)];rfl
  rw[ke d1];by_cases d2:r.Chip>1000
  ·rw[ka d2,no (λh=>by have:=h.chip;omega)];rfl
  rw[ke d2];by_cases d3:r.Dust<0
  ·rw[ka d3,no (λh=>by have:=h.dust;omega)];rfl
  rw[ke d3];by_cases d4:r.Dust>1000
  ·rw[ka d4,no (λh=>by have:=h.dust;omega)];rfl
  rw[ke d4];by_cases d5:0<=r.Fine/\r.Fine<=1000000
  ·rw[ka d5,(qEw s r).2 ⟨by omega,by omega,by omega,by omega,by omega,by omega,by omega⟩];rfl
  ·rw[ke d5,no (λh=>d5 h.fine)];rfl
 ·rw[ke c7,no (λh=>c7 h.step)];rfl
def VR (r:Rect):Prop:=(-600<=r.X.A/\r.X.A<r.X.B/\r.X.B<=600)/\(-600<=r.Y.A/\r.Y.A<r.Y.B/\r.Y.B<=600)
instance (r :Rect):Decidable (VR r):=by unfold VR;exact inferInstance
def badR (lo hi:Int):Option Bool:=if lo< -600\/600<hi\/hi<=lo then some false else none
theorem qF4 {lo hi:Int}:badR lo hi=none↔-600<=lo/\lo<hi/\hi<=600:=by
 unfold badR;by_cases h:lo< -600\/600<hi\/hi<=lo
 ·rw[if_pos h];exact⟨λh=>(by cases h),λh=>by omega⟩
 ·rw[if_neg h];exact⟨λ_=>by omega,λ_=>rfl⟩
theorem qXM (r:Rect) (L:Nat->Int->Option (Bool⊕Unit))
  (h0:∀n,L (n+1) 0=match badR r.X.A r.X.B with|some e=>some (.inl e)|none=>L n 1)
  (h1:∀n,L (n+1) 1=match badR r.Y.A r.Y.B with|some e=>some (.inl e)|none=>L n 2)
  (h2:∀n,L (n+1) 2=some (.inr ())):((L FUEL 0).bind λu=>Sum.elim (λv=>some v) (λ_=>some true) u)=some (decide (VR r)):=by
 rw[FUEL_eq,show(4611686018427387904:Nat)=4611686018427387901+1+1+1 from rfl,h0];cases hx:badR r.X.A r.X.B with
 |some e=>
  have:¬VR r:=λh=>by rw[qF4.2 h.1] at hx;cases hx
  rw[ke this];unfold badR at hx;split at hx<;>cases hx;rfl
 |none=>
  simp only;rw[h1];cases hy:badR r.Y.A r.Y.B with
  |some e=>
   have:¬VR r:=λh=>by rw[qF4.2 h.2] at hy;cases hy
   rw[ke this];unfold badR at hy;split at hy<;>cases hy;rfl
  |none=>
   simp only;rw[h2,ka (show VR r from⟨qF4.1 hx,qF4.1 hy⟩)];rfl
theorem ladd3 {lo hi:Int} {α:Type} (k:Bool->α):(bif decide (lo< -600) then k true else bif decide (hi>600) then k true else k (decide (lo≥hi)))=k (match badR lo hi with|some _=>true|none=>false):=by
 unfold badR;by_cases h1:lo< -600
 ·rw[ka h1,if_pos (.inl h1)];rfl
 rw[ke h1];by_cases h2:hi>600
 ·rw[ka h2,if_pos (by omega)];rfl
 rw[ke h2];by_cases h3:lo≥hi
 ·rw[ka h3,if_pos (by omega)];rfl
 ·rw[ke h3,if_neg (by omega)];rfl
theorem qWp (r:Rect):qBV r=some (decide (VR r)):=by
 unfold qBV;refine qXM r (jB r) (λn=>?_) (λn=>?_) (λn=>?_)
 ·rw[jB,ka (by omega),qJ (by omega)];simp only[kp];refine(ladd3 (lo:=r.X.A) (hi:=r.X.B) (λb=>ZU 0 (jB r n) b)).trans ?_;unfold badR ZU;split<;>rename_i h<;>revert h<;>split<;>intro h<;>(try cases h)<;>rfl
 ·rw[jB,ka (by omega),qJ (by omega)];simp only[kp];refine(ladd3 (lo:=r.Y.A) (hi:=r.Y.B) (λb=>ZU 1 (jB r n) b)).trans ?_;unfold badR ZU;split<;>rename_i h<;>revert h<;>split<;>intro h<;>(try cases h)<;>rfl
 ·rw[jB,ke (by omega)];rfl
end Saw
end Go.SL

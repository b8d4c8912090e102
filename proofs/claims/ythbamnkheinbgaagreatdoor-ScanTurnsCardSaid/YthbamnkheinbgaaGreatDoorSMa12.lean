/- Scan's plain mathematics, part 6: sameness; merging; ScanMerges. -/
import Derived.Test.YthbamnkheinbgaaGreatDoorSMa11
set_option linter.unusedVariables false
set_option linter.unusedSimpArgs false
namespace Go.SL
namespace Saw
structure OC (s:Scan):Prop where
 r:s.Rings.length<=1000000
 d:s.Defects.length<=1000000
 p:∀i,i<s.Rings.length->(rgs s i).Read.length<=1000000
theorem qFS {s:Scan} (h:fewB s=true):OC s:=by
 obtain⟨h1,h2,h3⟩:=qK8 h;exact⟨by omega,by omega,λi hi=>by have:=h3 i hi;omega⟩
theorem qEn (x:Ring) (h:x.Read.length<=1000000):JG x x=some true:=by
 unfold JG;have L:zV x x FUEL 0=some (findN (λ_=>(none:Option Bool)) 0 x.Read.length):=by
  refine jJ x.Read.length (zV x x) _ 0 (by omega) (by omega) (λn i _ hi=>?_) (λn=>?_)
  ·rw[zV,kq (by omega),zR (by omega)];simp only[ks,ku,beq_self_eq_true,Bool.and_self,ua,wK (show i<4611686018427387904 by omega)]
  ·rw[zV,ki (by omega)];rfl
 rw[KU.2 (λ_ _ _=>rfl)] at L;simp only[kZ,ku,JU,L,kr,Sum.elim_inr]
theorem qDW (x:List qD) (h:x.length<=1000000):ZP x x=some true:=by
 unfold ZP;have L:zT x x FUEL 0=some (findN (λ_=>(none:Option Bool)) 0 x.length):=by
  refine jJ x.length (zT x x) _ 0 (by omega) (by omega) (λn i _ hi=>?_) (λn=>?_)
  ·rw[zT,kq (by omega),zR (by omega)];simp only[ks,ku,beq_self_eq_true,Bool.and_self,ua,wK (show i<4611686018427387904 by omega)]
  ·rw[zT,ki (by omega)];rfl
 rw[KU.2 (λ_ _ _=>rfl)] at L;simp only[kZ,ku,L,kr,Sum.elim_inr]
theorem qEi (s:Scan) (h:OC s):ZJ s s=some true:=by
 have hr:=h.r;unfold ZJ;have L:wD s s FUEL 0=some (findN (λ_=>(none:Option Bool)) 0 s.Rings.length):=by
  refine jJ s.Rings.length (wD s s) _ 0 (by omega) (by omega) (λn i _ hi=>?_) (λn=>?_)
  ·rw[wD,kq (by omega),zR (by omega)];simp only[ks,ku,kw,qEn _ (show(s.Rings.getD i dd).Read.length<=1000000 from h.p i hi),kr,ua,wK (show i<4611686018427387904 by omega)]
  ·rw[wD,ki (by omega)];rfl
 rw[KU.2 (λ_ _ _=>rfl)] at L;simp only[kZ,ku,L,kr,Sum.elim_inr,qDW _ h.d]
def sameD (x y:qD):Bool:=(x.Kind==y.Kind&&((((x.Box.X.A==y.Box.X.A)&&((x.Box.X.B==y.Box.X.B)&&true))&&(((x.Box.Y.A==y.Box.Y.A)&&((x.Box.Y.B==y.Box.Y.B)&&true))&&(((x.Box.Z.A==y.Box.Z.A)&&((x.Box.Z.B==y.Box.Z.B)&&true))&&true)))&&true))
theorem qEw {α β:Type} (N:Nat) (L:Nat->List α->Int->Option β) (f:Nat->α) (z:α) (out:List α->β) (hN:N<=1000000000)
  (h0:∀n x l,x<N->l.length=N->L (n+1) l (x:Int)=L n (l.set x (f x)) ((x+1:Nat):Int))
  (h1:∀n l,l.length=N->L (n+1) l (N:Int)=some (out l)):L FUEL (List.replicate N z) 0=some (out ((List.range N).map f)):=by
 have h:=VH N L (λx _=>ZM f z N (x+1)) out (λx l=>l=ZM f z N x) 0 (by omega) hN (λn x l hx hi=>by
   subst hi;exact⟨by rw[h0 n x _ hx (qFR f z N x),qKr],rfl⟩) (λn l hi=>h1 n l (by rw[hi,qFR])) (ZM f z N 0) rfl
 obtain⟨e1,e2⟩:=h;rw[e2,qJU,qKC] at e1;exact e1
theorem qIk {α β:Type} (N:Nat) (L:Nat->List α->Int->Option β) (f:Nat->α) (out:List α->β) (hN:N<=1000000000)
  (h0:∀n x l,x<N->l.length=x->L (n+1) l (x:Int)=L n (l++[f x]) ((x+1:Nat):Int))
  (h1:∀n l,l.length=N->L (n+1) l (N:Int)=some (out l)):L FUEL [] 0=some (out ((List.range N).map f)):=by
 have h:=VH N L (λx l=>l++[f x]) out (λx l=>l=(List.range x).map f) 0 (by omega) hN (λn x l hx hi=>⟨h0 n x l hx (by rw[hi];simp),by
   rw[hi,List.range_succ,List.map_append];rfl⟩) (λn l hi=>h1 n l (by rw[hi];simp)) [] rfl
 obtain⟨e1,e2⟩:=h;rw[e2] at e1;exact e1
def stepB (t:Int×Int×Int×Int):Int×Int×Int×Int:=(w64 (0-t.2.2.2),w64 (0-t.2.2.1),t.1,t.2.1)
def qGH (q:Nat) (d:qD):Int×Int×Int×Int:=qBD (λ_ t=>stepB t) 0 q (d.Box.X.A,d.Box.X.B,d.Box.Y.A,d.Box.Y.B)
def qEx (q:Nat) (d:qD):qD:=qD.mk d.Kind (Box.mk (Span.mk (qGH q d).1 (qGH q d).2.1) (Span.mk (qGH q d).2.2.1 (qGH q d).2.2.2) d.Box.Z)
theorem qKT (l:List qD) (r:Int) (q:Nat) (hq:q<4) (e:Int.tmod (w64 (Int.tmod r 4+4)) 4=(q:Int)) (x:Nat):wP l r x FUEL 0 (l.getD x dd).Box.X.A (l.getD x dd).Box.X.B (l.getD x dd).Box.Y.A (l.getD x dd).Box.Y.B=some (qEx q (l.getD x dd)):=by
 have k:=(VH q (λn (t:Int×Int×Int×Int) i=>wP l r x n i t.1 t.2.1 t.2.2.1 t.2.2.2) (λ_ t=>stepB t) (λt=>qD.mk (l.getD x dd).Kind (Box.mk (Span.mk t.1 t.2.1) (Span.mk t.2.2.1 t.2.2.2) (l.getD x dd).Box.Z)) (λ_ _=>True) 0 (by omega) (by omega) (λn i t hi _=>⟨by
   show wP l r x (n+1) (i:Int) t.1 t.2.1 t.2.2.1 t.2.2.2=_;rw[wP,e,kq (by omega),wK (by omega)];rfl,trivial⟩) (λn t _=>by
   show wP l r x (n+1) (q:Int) t.1 t.2.1 t.2.2.1 t.2.2.2=_;rw[wP,e,ki (by omega),kw];rfl) ((l.getD x dd).Box.X.A,(l.getD x dd).Box.X.B,(l.getD x dd).Box.Y.A,(l.getD x dd).Box.Y.B) trivial).1
 exact k
theorem qKX (l:List qD) (r:Int) (q:Nat) (hq:q<4) (e:Int.tmod (w64 (Int.tmod r 4+4)) 4=(q:Int)) (x:Nat):wV l r x FUEL 0 (l.getD x dd).Box.X.A (l.getD x dd).Box.X.B (l.getD x dd).Box.Y.A (l.getD x dd).Box.Y.B (l.getD x dd).Box.Z.A (l.getD x dd).Box.Z.B=some (qEx q (l.getD x dd)):=by
 have k:=(VH q (λn (t:Int×Int×Int×Int) i=>wV l r x n i t.1 t.2.1 t.2.2.1 t.2.2.2 (l.getD x dd).Box.Z.A (l.getD x dd).Box.Z.B) (λ_ t=>stepB t) (λt=>qD.mk (l.getD x dd).Kind (Box.mk (Span.mk t.1 t.2.1) (Span.mk t.2.2.1 t.2.2.2) (l.getD x dd).Box.Z)) (λ_ _=>True) 0 (by omega) (by omega) (λn i t hi _=>⟨by
   show wV l r x (n+1) (i:Int) t.1 t.2.1 t.2.2.1 t.2.2.2 _ _=_;rw[wV,yE,e];simp only[kr];rw[kq (by omega),wK (by omega)];rfl,trivial⟩) (λn t _=>by
   show wV l r x (n+1) (q:Int) t.1 t.2.1 t.2.2.1 t.2.2.2 _ _=_;rw[wV,yE,e];simp only[kr];rw[ki (by omega),kw];rfl) ((l.getD x dd).Box.X.A,(l.getD x dd).Box.X.B,(l.getD x dd).Box.Y.A,(l.getD x dd).Box.Y.B) trivial).1
 exact k
def IH (q:Nat) (l:List qD):List qD:=(List.range l.length).map (λx=>qEx q (l.getD x dd))
theorem qK6 (l:List qD) (r:Int) (q:Nat) (hq:q<4) (e:Int.tmod (w64 (Int.tmod r 4+4)) 4=(q:Int)) (h:JJ l=0):PY l r=some (IH q l)/\VA l r=some (IH q l):=by
 have hl:=((PD _).1 h).1;unfold PY VA;rw[qGY,qFz,h,qKG (by omega) (by omega),kw];have L1:=qEw l.length (λn t i=>jD l r n t i) (λx=>qEx q (l.getD x dd)) (qD.mk 0 (Box.mk (Span.mk 0 0) (Span.mk 0 0) (Span.mk 0 0))) id (by omega) (λn x t hx ht=>by
   show jD l r (n+1) t (x:Int)=_;rw[jD,kq (by omega),zR (by omega),kw,qKT l r q hq e x,zR (by omega),wK (by omega)];rfl) (λn t ht=>by
   show jD l r (n+1) t _=_;rw[jD,ki (by omega)];rfl)
 have L2:=qIk l.length (λn t i=>jU l r n t i) (λx=>qEx q (l.getD x dd)) id (by omega) (λn x t hx ht=>by
   show jU l r (n+1) t (x:Int)=_;rw[jU,kq (by omega),zR (by omega),kw,qKX l r q hq e x,qAM (by omega),wK (by omega)];rfl) (λn t ht=>by
   show jU l r (n+1) t _=_;rw[jU,ki (by omega)];rfl)
 simp only[kr,kZ,ku,ks];rw[L1,L2];exact⟨rfl,rfl⟩
theorem qJw (q:Nat) (l:List qD):(IH q l).length=l.length:=by simp[IH]
def MG (s:Scan) (r:Int):List Ring:=(List.range s.Rings.length).map (λx=>(wE (rgs s x) r).getD dd)
theorem qDa (s:Scan) (r:Int) (x:Nat) (h:(rgs s x).Read.length<=1000):wE (s.Rings.getD x dd) r=some ((wE (rgs s x) r).getD dd)/\QD (s.Rings.getD x dd) r=some ((wE (rgs s x) r).getD dd)/\((wE (rgs s x) r).getD dd).Read.length=(rgs s x).Read.length:=by
 obtain⟨b,e1,e2,e3⟩:=qFZ (rgs s x) r h;rw[e1];exact⟨e1,e2,e3⟩
theorem clone15 (s:Scan) (h:OC s):VT s=some s:=by
 have hr:=h.r;have hd:=h.d;unfold VT ZI QA;rw[qAM (by omega),qAM (by omega)];simp only[ks,kr];have L:=(VH s.Rings.length (λn l i=>wW s.Rings n i l) (λ_ l=>l) id (λ_ l=>l=s.Rings) 0 (by omega) (by omega) (λn x l hx hi=>⟨by
   subst hi;show wW s.Rings (n+1) (x:Int) s.Rings=_;have hp:(s.Rings.getD x dd).Read.length<=1000000:=h.p x hx;rw[wW,kq (by omega),zR (by omega),kw,wG,qAM (by omega),wK (by omega)];simp only[ks,kr];rw[show s.Rings.set x (Ring.mk (s.Rings.getD x dd).Z (s.Rings.getD x dd).Read)=s.Rings from by
    refine uO (by simp) λj h1 h2=>?_;by_cases hj:x=j
    ·subst hj;rw[List.getElem_set_self,ka,ko hx];rfl
    ·rw[List.getElem_set_ne hj]],hi⟩) (λn l hi=>by
   show wW s.Rings (n+1) _ l=_;rw[wW,ki (by omega)];rfl) s.Rings rfl)
 obtain⟨e1,e2⟩:=L;rw[e2] at e1;have e1':wW s.Rings FUEL 0 s.Rings=some s.Rings:=e1;rw[e1'];rfl
theorem turns15 (s:Scan) (r:Int) (h:OC s):∃t,BN s r=some t/\UT s r=some t/\OC t:=by
 unfold BN UT;rw[qKW,qKu];simp only[kr];by_cases hc:¬LF s=0
 ·rw[show(LF s !=0)=true from uP.2 hc,clone15 s h];exact⟨s,rfl,rfl,h⟩
 have hc:LF s=0:=Classical.not_not.1 hc;have v:=(qJt s).1 hc;have v24:=v.many;have d64:=((PD _).1 v.def13).1;obtain⟨q,hq,e⟩:=qJu r;obtain⟨k1,k2⟩:=qK6 s.Defects r q hq e v.def13;rw[hc,qKG (by omega) (by omega),kw,k1,k2];have L1:=qEw s.Rings.length (λn t i=>yL s r n i t) (λx=>(wE (rgs s x) r).getD dd) (Ring.mk 0 ([]:List qC)) id (by omega) (λn x t hx ht=>by
   show yL s r (n+1) (x:Int) t=_;have:=(v.good x hx).hi;rw[yL,kq (by omega),zR (by omega),kw,(qDa s r x (by omega)).1,zR (by omega),wK (by omega)];rfl) (λn t ht=>by
   show yL s r (n+1) _ t=_;rw[yL,ki (by omega)];rfl)
 have L2:=qIk s.Rings.length (λn t i=>jX s r n i t) (λx=>(wE (rgs s x) r).getD dd) id (by omega) (λn x t hx ht=>by
   show jX s r (n+1) (x:Int) t=_;have:=(v.good x hx).hi;rw[jX,kq (by omega),zR (by omega),kw,(qDa s r x (by omega)).2.1,qAM (by omega),wK (by omega)];rfl) (λn t ht=>by
   show jX s r (n+1) _ t=_;rw[jX,ki (by omega)];rfl)
 simp only[kr,kZ,ku,ks];rw[L1,L2];refine⟨Scan.mk (MG s r) (IH q s.Defects),rfl,rfl,?_,?_,λi hi=>?_⟩
 ·show(MG s r).length<=_;simp only[MG,uU,List.length_range];omega
 ·show(IH q s.Defects).length<=_;rw[qJw];omega
 ·have hi':i<s.Rings.length:=by
   have:i<(MG s r).length:=hi;simpa[MG] using this
  show((MG s r).getD i dd).Read.length<=_;have g:=(v.good i hi').hi;unfold MG;rw[ka,kE,uR hi'];show((wE (rgs s i) r).getD dd).Read.length<=_;rw[(qDa s r i (by omega)).2.2];omega
def sameRd (x y:qC):Bool:=((((x.P.X==y.P.X)&&((x.P.Y==y.P.Y)&&true))&&((x.Ok==y.Ok)&&true)))
def badRd (x y:List qC):Bool⊕Unit:=findN (λi=>if sameRd (x.getD i dd) (y.getD i dd)=true then none else some false) 0 x.length
def badDs (x y:List qD):Bool⊕Unit:=findN (λi=>if sameD (x.getD i dd) (y.getD i dd)=true then none else some false) 0 x.length
theorem qLe (x y:List qC) (h:x.length<=1000000) (hl:x.length=y.length):zK x y FUEL 0=some (badRd x y):=by
 refine jJ x.length (zK x y) _ 0 (by omega) (by omega) (λn i _ hi=>?_) (λn=>?_)
 ·rw[zK,kq (by omega),zR (by omega),zR (by omega)];simp only[ks,kw,wK (show i<4611686018427387904 by omega)];show(bif !sameRd (x.getD i dd) (y.getD i dd) then some (Sum.inl false) else zK x y n ((i+1:Nat):Int))=_;cases sameRd (x.getD i dd) (y.getD i dd)<;>rfl
 ·rw[zK,ki (by omega)];rfl
theorem qIV (x y:Ring) (h:x.Read.length<=1000000) (hl:x.Read.length=y.Read.length):zV x y FUEL 0=some (badRd x.Read y.Read):=by
 refine jJ x.Read.length (zV x y) _ 0 (by omega) (by omega) (λn i _ hi=>?_) (λn=>?_)
 ·rw[zV,kq (by omega),zR (by omega),zR (by omega)];simp only[ks,kw,wK (show i<4611686018427387904 by omega)];show(bif !sameRd (x.Read.getD i dd) (y.Read.getD i dd) then some (Sum.inl false) else zV x y n ((i+1:Nat):Int))=_;cases sameRd (x.Read.getD i dd) (y.Read.getD i dd)<;>rfl
 ·rw[zV,ki (by omega)];rfl
def sameRing (x y:Ring):Bool:=bif x.Z==y.Z then bif x.Read.length==y.Read.length then Sum.elim id (λ_=>true) (badRd x.Read y.Read) else false else false
theorem qE1 (m n:Nat):(((m:Nat):Int) !=((n:Nat):Int))=!(m==n):=by
 by_cases h:m=n
 ·subst h;simp
 ·rw[uB.2 h,uP.2 (by omega)];rfl
theorem qCp (x y:Ring) (h:x.Read.length<=1000000):RC x y=some (sameRing x y)/\JG x y=some (sameRing x y):=by
 unfold RC JG sameRing yQ;rw[show(x.Z !=y.Z)=!(x.Z==y.Z) from rfl,qE1];cases hz:x.Z==y.Z with
 |false=>exact⟨rfl,rfl⟩
 |true=>
  cases hl:x.Read.length==y.Read.length with
  |false=>exact⟨rfl,rfl⟩
  |true=>
   have hl':x.Read.length=y.Read.length:=by simpa using hl
   simp only[ua,ku,ks,JU,KZ,qLe _ _ h hl',qIV _ _ h hl',kr];cases badRd x.Read y.Read<;>exact⟨rfl,rfl⟩
theorem qJ7 (x y:List qD) (h:x.length<=1000000):jK x y=ZP x y/\∃b,ZP x y=some b:=by
 unfold jK ZP;rw[qE1];cases hl:x.length==y.length with
 |false=>simp only[Bool.not_false,ks];exact⟨trivial,_,rfl⟩
 |true=>
  have hl':x.length=y.length:=by simpa using hl
  have e1:zM x y FUEL 0=some (badDs x y):=by
   refine jJ x.length (zM x y) _ 0 (by omega) (by omega) (λn i _ hi=>?_) (λn=>?_)
   ·rw[zM,kq (by omega),zR (by omega),zR (by omega)];simp only[ks,kw,wK (show i<4611686018427387904 by omega)];show(bif !sameD (x.getD i dd) (y.getD i dd) then some (Sum.inl false) else zM x y n ((i+1:Nat):Int))=_;cases sameD (x.getD i dd) (y.getD i dd)<;>rfl
   ·rw[zM,ki (by omega)];rfl
  have e2:zT x y FUEL 0=some (badDs x y):=by
   refine jJ x.length (zT x y) _ 0 (by omega) (by omega) (λn i _ hi=>?_) (λn=>?_)
   ·rw[zT,kq (by omega),zR (by omega),zR (by omega)];simp only[ks,kw,wK (show i<4611686018427387904 by omega)];show(bif !sameD (x.getD i dd) (y.getD i dd) then some (Sum.inl false) else zT x y n ((i+1:Nat):Int))=_;cases sameD (x.getD i dd) (y.getD i dd)<;>rfl
   ·rw[zT,ki (by omega)];rfl
  simp only[ua,ku,e1,e2,kr];cases badDs x y<;>exact⟨trivial,_,rfl⟩
def badRs (s t:Scan):Bool⊕Unit:=findN (λi=>bif sameRing (rgs s i) (rgs t i) then none else some false) 0 s.Rings.length
theorem same15 (s t:Scan) (h:OC s):∃b,JE s t=some b/\ZJ s t=some b:=by
 have hr:=h.r;unfold JE ZJ yG;obtain⟨d1,b,d2⟩:=qJ7 s.Defects t.Defects h.d;rw[qE1,d1,d2];cases hl:s.Rings.length==t.Rings.length with
 |false=>exact⟨false,rfl,rfl⟩
 |true=>
  have hl':s.Rings.length=t.Rings.length:=by simpa using hl
  have e1:zO s.Rings t.Rings FUEL 0=some (badRs s t):=by
   refine jJ s.Rings.length (zO s.Rings t.Rings) _ 0 (by omega) (by omega) (λn i _ hi=>?_) (λn=>?_)
   ·rw[zO,kq (by omega),zR (by omega),zR (by omega)];simp only[ks,kw,wK (show i<4611686018427387904 by omega)];rw[(qCp (s.Rings.getD i dd) (t.Rings.getD i dd) (h.p i hi)).1];unfold rgs;cases sameRing (s.Rings.getD i dd) (t.Rings.getD i dd)<;>rfl
   ·rw[zO,ki (by omega)];rfl
  have e2:wD s t FUEL 0=some (badRs s t):=by
   refine jJ s.Rings.length (wD s t) _ 0 (by omega) (by omega) (λn i _ hi=>?_) (λn=>?_)
   ·rw[wD,kq (by omega),zR (by omega),zR (by omega)];simp only[ks,kw,wK (show i<4611686018427387904 by omega)];rw[(qCp (s.Rings.getD i dd) (t.Rings.getD i dd) (h.p i hi)).2];unfold rgs;cases sameRing (s.Rings.getD i dd) (t.Rings.getD i dd)<;>rfl
   ·rw[wD,ki (by omega)];rfl
  simp only[ua,ku,e1,e2,kr];cases hb:badRs s t with
  |inl e=>
   obtain⟨i,_,_,he,_⟩:=LH hb;have:e=false:=by
    cases hs:sameRing (rgs s i) (rgs t i)<;>rw[hs] at he<;>cases he;rfl
   subst this;exact⟨false,rfl,rfl⟩
  |inr u=>exact⟨b,rfl,rfl⟩
theorem qDN (s t:Scan) (r:Int):ZS s t r=some true:=by
 unfold ZS;rw[qHO,qHO];simp only[kr];have kT:jA s t r true=some true:=by unfold jA;rw[qAU];rfl
 cases h1:fewB s with
 |false=>exact kT
 |true=>
  simp only[ua,ku];cases h2:fewB t with
  |false=>exact kT
  |true=>
   obtain⟨u,e1,e2,hu⟩:=turns15 s r (qFS h1);obtain⟨b,c1,c2⟩:=same15 s t (qFS h1);unfold jA;rw[e1,e2,c1,c2];simp only[ua,ku,kr,qEi u hu,ks,beq_self_eq_true,qAU,yK]
theorem qFg (s t:Scan) (r:Int) {P Q R:Prop} (_:P) (_:Q) (_:R):ZS s t r=some true:=qDN s t r
end Saw
end Go.SL

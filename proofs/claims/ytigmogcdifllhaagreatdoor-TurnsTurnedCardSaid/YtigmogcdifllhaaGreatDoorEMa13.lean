/- Scan's plain mathematics, part 8: ScanInside. -/
import Derived.Test.YtigmogcdifllhaaGreatDoorEMa12
set_option linter.unusedVariables false
set_option linter.unusedSimpArgs false
namespace Go.SL
namespace Saw
theorem qNU {α β:Type} (N:Nat) (L:Nat->List α->Int->Option β) (f:Nat->α) (z:α) (out:List α->β) (hN:N<=1000000000)
  (h0:∀n x l,x<N->l.length=N->L (n+1) l (x:Int)=L n (l.set x (f x)) ((x+1:Nat):Int))
  (h1:∀n l,l.length=N->L (n+1) l (N:Int)=some (out l)):L FUEL (List.replicate N z) 0=some (out ((List.range N).map f)):=by
 have h:=qAt N L (λx _=>XC f z N (x+1)) out (λx l=>l=XC f z N x) 0 (by omega) hN (λn x l hx hi=>by
   subst hi;exact⟨by rw[h0 n x _ hx (qFB f z N x),partF_set],rfl⟩) (λn l hi=>h1 n l (by rw[hi,qFB])) (XC f z N 0) rfl
 obtain⟨e1,e2⟩:=h;rw[e2,qPd,qRi] at e1;exact e1
theorem qY3 {α β:Type} (N:Nat) (L:Nat->List α->Int->Option β) (f:Nat->α) (out:List α->β) (hN:N<=1000000000)
  (h0:∀n x l,x<N->l.length=x->L (n+1) l (x:Int)=L n (l++[f x]) ((x+1:Nat):Int))
  (h1:∀n l,l.length=N->L (n+1) l (N:Int)=some (out l)):L FUEL [] 0=some (out ((List.range N).map f)):=by
 have h:=qAt N L (λx l=>l++[f x]) out (λx l=>l=(List.range x).map f) 0 (by omega) hN (λn x l hx hi=>⟨h0 n x l hx (by rw[hi];simp),by
   rw[hi,List.range_succ,List.map_append];rfl⟩) (λn l hi=>h1 n l (by rw[hi];simp)) [] rfl
 obtain⟨e1,e2⟩:=h;rw[e2] at e1;exact e1
def qSR (t:Int×Int×Int×Int):Int×Int×Int×Int:=(w64 (0-t.2.2.2),w64 (0-t.2.2.1),t.1,t.2.1)
def qK1 (q:Nat) (d:qG):Int×Int×Int×Int:=ID (λ_ t=>qSR t) 0 q (d.Box.X.A,d.Box.X.B,d.Box.Y.A,d.Box.Y.B)
def jI (q:Nat) (d:qG):qG:=qG.mk d.Kind (Box.mk (Span.mk (qK1 q d).1 (qK1 q d).2.1) (Span.mk (qK1 q d).2.2.1 (qK1 q d).2.2.2) d.Box.Z)
theorem qZb (l:List qG) (r:Int) (q:Nat) (hq:q<4) (e:Int.tmod (w64 (Int.tmod r 4+4)) 4=(q:Int)) (x:Nat):QY l r x FUEL 0 (l.getD x dd).Box.X.A (l.getD x dd).Box.X.B (l.getD x dd).Box.Y.A (l.getD x dd).Box.Y.B=some (jI q (l.getD x dd)):=by
 have k:=(qAt q (λn (t:Int×Int×Int×Int) i=>QY l r x n i t.1 t.2.1 t.2.2.1 t.2.2.2) (λ_ t=>qSR t) (λt=>qG.mk (l.getD x dd).Kind (Box.mk (Span.mk t.1 t.2.1) (Span.mk t.2.2.1 t.2.2.2) (l.getD x dd).Box.Z)) (λ_ _=>True) 0 (by omega) (by omega) (λn i t hi _=>⟨by
   show QY l r x (n+1) (i:Int) t.1 t.2.1 t.2.2.1 t.2.2.2=_;rw[QY,e,kf (by omega),wH (by omega)];rfl,trivial⟩) (λn t _=>by
   show QY l r x (n+1) (q:Int) t.1 t.2.1 t.2.2.1 t.2.2.2=_;rw[QY,e,ko (by omega),ki];rfl) ((l.getD x dd).Box.X.A,(l.getD x dd).Box.X.B,(l.getD x dd).Box.Y.A,(l.getD x dd).Box.Y.B) trivial).1
 exact k
theorem qZh (l:List qG) (r:Int) (q:Nat) (hq:q<4) (e:Int.tmod (w64 (Int.tmod r 4+4)) 4=(q:Int)) (x:Nat):JD l r x FUEL 0 (l.getD x dd).Box.X.A (l.getD x dd).Box.X.B (l.getD x dd).Box.Y.A (l.getD x dd).Box.Y.B (l.getD x dd).Box.Z.A (l.getD x dd).Box.Z.B=some (jI q (l.getD x dd)):=by
 have k:=(qAt q (λn (t:Int×Int×Int×Int) i=>JD l r x n i t.1 t.2.1 t.2.2.1 t.2.2.2 (l.getD x dd).Box.Z.A (l.getD x dd).Box.Z.B) (λ_ t=>qSR t) (λt=>qG.mk (l.getD x dd).Kind (Box.mk (Span.mk t.1 t.2.1) (Span.mk t.2.2.1 t.2.2.2) (l.getD x dd).Box.Z)) (λ_ _=>True) 0 (by omega) (by omega) (λn i t hi _=>⟨by
   show JD l r x (n+1) (i:Int) t.1 t.2.1 t.2.2.1 t.2.2.2 _ _=_;rw[JD,qBf,e];simp only[kd];rw[kf (by omega),wH (by omega)];rfl,trivial⟩) (λn t _=>by
   show JD l r x (n+1) (q:Int) t.1 t.2.1 t.2.2.1 t.2.2.2 _ _=_;rw[JD,qBf,e];simp only[kd];rw[ko (by omega),ki];rfl) ((l.getD x dd).Box.X.A,(l.getD x dd).Box.X.B,(l.getD x dd).Box.Y.A,(l.getD x dd).Box.Y.B) trivial).1
 exact k
def qVn (q:Nat) (l:List qG):List qG:=(List.range l.length).map (λx=>jI q (l.getD x dd))
theorem qYU (l:List qG) (r:Int) (q:Nat) (hq:q<4) (e:Int.tmod (w64 (Int.tmod r 4+4)) 4=(q:Int)) (h:DR l=0):EU l r=some (qVn q l)/\qN4 l r=some (qVn q l):=by
 have hl:=((YN _).1 h).1;unfold EU qN4;rw[qE9,qRG,h,qEI (by omega) (by omega),ki];have L1:=qNU l.length (λn t i=>ZV l r n t i) (λx=>jI q (l.getD x dd)) (qG.mk 0 (Box.mk (Span.mk 0 0) (Span.mk 0 0) (Span.mk 0 0))) id (by omega) (λn x t hx ht=>by
   show ZV l r (n+1) t (x:Int)=_;rw[ZV,kf (by omega),zU (by omega),ki,qZb l r q hq e x,zU (by omega),wH (by omega)];rfl) (λn t ht=>by
   show ZV l r (n+1) t _=_;rw[ZV,ko (by omega)];rfl)
 have L2:=qY3 l.length (λn t i=>XR l r n t i) (λx=>jI q (l.getD x dd)) id (by omega) (λn x t hx ht=>by
   show XR l r (n+1) t (x:Int)=_;rw[XR,kf (by omega),zU (by omega),ki,qZh l r q hq e x,ZK (by omega),wH (by omega)];rfl) (λn t ht=>by
   show XR l r (n+1) t _=_;rw[XR,ko (by omega)];rfl)
 simp only[kd,kQ,ku,kp];rw[L1,L2];exact⟨rfl,rfl⟩
theorem qHa {d:qG} (h:VD d):jI 1 d=qG.mk d.Kind (Box.mk ⟨-d.Box.Y.B,-d.Box.Y.A⟩ d.Box.X d.Box.Z):=by
 have x:=h.x;have y:=h.y;unfold jI qK1;simp only[ID,qSR];rw[qX (by omega),qX (by omega),Int.zero_sub,Int.zero_sub]
theorem VD_1 {d:qG} (h:VD d):VD (jI 1 d):=by
 have x:=h.x;have y:=h.y;rw[qHa h];exact⟨h.k1,h.k2,by simp only;omega,x,h.z⟩
theorem OR (d:qG) (q:Nat):jI (q+1) d=jI 1 (jI q d):=by
 unfold jI qK1;rw[qO1];rfl
theorem qWo (d:qG):jI 0 d=d:=rfl
theorem qWq {d:qG} (h:VD d):∀q,VD (jI q d)
 |0=>by rw[qWo];exact h
 |q+1=>by rw[OR];exact VD_1 (qWq h q)
theorem turnD_4 {d:qG} (h:VD d):jI 3 (jI 1 d)=d:=by
 have h1:=VD_1 h;have h2:=VD_1 h1;have h3:=VD_1 h2;have e:jI 3 (jI 1 d)=jI 1 (jI 1 (jI 1 (jI 1 d))):=by rw[OR _ 2,OR _ 1,OR _ 0,qWo]
 rw[e,qHa h3,qHa h2,qHa h1,qHa h];obtain⟨k,⟨xa,xb⟩,⟨ya,yb⟩,⟨za,zb⟩⟩:=d;simp
theorem qUn {α β:Type} [Inhabited α] (l:List α) (f:α->β):(List.range l.length).map (λi=>f (l.getD i dd))=l.map f:=by
 refine gB (by simp) λi h1 h2=>?_;simp only[uZ,uA] at h1;simp only[List.getElem_map,List.getElem_range];rw[ka,kq h1];rfl
def FJ (q:Nat) (s:Scan):Scan:=Scan.mk (s.Rings.map (WZ q)) (s.Defects.map (jI q))
theorem qEu (s:Scan) (v:V15 s) (r:Int) (q:Nat) (hq:q<4) (e:Int.tmod (w64 (Int.tmod r 4+4)) 4=(q:Int)):ZE s r=some (FJ q s):=by
 unfold ZE;rw[qUO];have hc:=(qIs s).2 v;have v24:=v.many;obtain⟨k1,_⟩:=qYU s.Defects r q hq e v.def13;simp only[kd];rw[hc,qEI (by omega) (by omega),ki,k1];have L1:=qNU s.Rings.length (λn t i=>XB s r n i t) (λx=>WZ q (s.Rings.getD x dd)) (Ring.mk 0 ([]:List qO)) id (by omega) (λn x t hx ht=>by
   show XB s r (n+1) (x:Int) t=_;rw[XB,kf (by omega),zU (by omega),ki,qVr (s.Rings.getD x dd) r (v.good x hx) q hq e,zU (by omega),wH (by omega)];rfl) (λn t ht=>by
   show XB s r (n+1) _ t=_;rw[XB,ko (by omega)];rfl)
 simp only[kd,kQ,ku,kp];rw[L1];simp only[kd,id];rw[qUn s.Rings (WZ q)];unfold qVn;rw[qUn s.Defects (jI q)];rfl
theorem rgs_turn (q:Nat) (s:Scan) {i:Nat} (h:i<s.Rings.length):rgs (FJ q s) i=WZ q (rgs s i):=by
 unfold rgs FJ;simp only;rw[ka,ka,kG,kq h];rfl
theorem qIq {s:Scan} (v:V15 s) (q:Nat):V15 (FJ q s):=by
 have v2:=v.two;have hn:(FJ q s).Rings.length=s.Rings.length:=by simp[FJ]
 have d:=(YN _).1 v.def13;refine⟨by rw[hn];exact v.two,by rw[hn];exact v.many,λx hx=>?_,?_,λx h0 hx=>?_,λx hx=>?_,?_,λe he=>?_⟩
 ·rw[hn] at hx;rw[rgs_turn q s hx];exact rg_turned_good q _ (v.good x hx)
 ·rw[rgs_turn q s (by omega)];exact v.zero
 ·rw[hn] at hx;rw[rgs_turn q s hx,rgs_turn q s (by omega)];exact v.up x h0 hx
 ·rw[hn] at hx;rw[rgs_turn q s hx,rgs_turn q s (by omega),IB,IB];exact v.same x hx
 ·refine(YN _).2 ⟨by show(s.Defects.map (jI q)).length<=64;rw[uZ];exact d.1,λe he=>?_⟩;obtain⟨f,hf,rfl⟩:=uO.1 he;exact qWq (d.2 f hf) q
 ·obtain⟨f,hf,rfl⟩:=uO.1 he;have e1:endZ (FJ q s)=endZ s:=by unfold endZ;rw[hn,rgs_turn q s (by omega)];rfl
  rw[e1];exact v.ends f hf
def qtr (r:Int):Nat:=(r % 4).toNat
theorem qEo (r:Int):qtr r<4:=by unfold qtr;omega
theorem qKx (r:Int):Int.tmod (w64 (Int.tmod r 4+4)) 4=(qtr r:Int):=by
 unfold qtr;have h:∃k,r=4*k+Int.tmod r 4:=⟨Int.tdiv r 4,(Int.mul_tdiv_add_tmod r 4).symm⟩
 have h1:=gp r (show(0:Int)<4 by decide);have h2: -4<Int.tmod r 4:=by
  rcases gX 0 r with h|h
  ·have:=Int.tmod_nonneg 4 h;omega
  ·have:=Int.tmod_nonneg 4 (show 0<=-r by omega);have h3:=gp (-r) (show(0:Int)<4 by decide);rw[Int.neg_tmod] at this h3;omega
 generalize Int.tmod r 4=t at*;obtain⟨k,rfl⟩:=h;rw[qX (by omega),gu (by omega)];omega
theorem qtr_add (a b:Int):qtr (a+b)=(qtr b+qtr a) % 4:=by unfold qtr;omega
theorem qUw (p q:Nat) (hp:p<4) (hq:q<4) (x:qA):rg_turnP p (rg_turnP q x)=rg_turnP ((q+p) % 4) x:=by
 rcases(show p=0\/p=1\/p=2\/p=3 by omega) with rfl|rfl|rfl|rfl<;>rcases(show q=0\/q=1\/q=2\/q=3 by omega) with rfl|rfl|rfl|rfl<;>simp[rg_turnP]
theorem qR1 (p q:Nat) (hp:p<4) (hq:q<4) (a:Ring):WZ p (WZ q a)=WZ ((q+p) % 4) a:=by
 unfold WZ;simp only[List.map_map]
 congr 1
 refine List.map_congr_left λr _=>?_;show UU p (UU q r)=UU ((q+p) % 4) r;unfold UU;simp only;rw[qUw p q hp hq]
theorem qFT (d:qG) (q:Nat):∀p,jI p (jI q d)=jI (q+p) d
 |0=>rfl
 |p+1=>by
  rw[OR _ p,qFT d q p];exact(OR d (q+p)).symm
theorem qXs {d:qG} (h:VD d) (q:Nat):jI (q+4) d=jI q d:=by
 have e:jI 4 d=d:=by
  have:=turnD_4 h;rw[qFT d 1 3] at this;exact this
 rw[show q+4=4+q by omega,<-qFT d 4 q,e]
theorem qYG {s:Scan} (v:V15 s) (p q:Nat) (hp:p<4) (hq:q<4):FJ p (FJ q s)=FJ ((q+p) % 4) s:=by
 have d:=(YN _).1 v.def13;unfold FJ;simp only[List.map_map]
 congr 1
 ·exact List.map_congr_left λr _=>qR1 p q hp hq r
 ·refine List.map_congr_left λx hx=>?_;show jI p (jI q x)=jI ((q+p) % 4) x;rw[qFT];by_cases h:q+p<4
  ·rw[uv h]
  ·have e:q+p=(q+p) % 4+4:=by omega
   rw[e,qXs (d.2 x hx)]
   congr 1
   omega
theorem qFq {s:Scan} (v:V15 s) (n m:Int):∃t u,ZE s n=some t/\V15 t/\ZE t m=some u/\V15 u/\ZE s (n+m)=some u:=
 ⟨FJ (qtr n) s,FJ (qtr m) (FJ (qtr n) s),qEu s v n _ (qEo n) (qKx n),qIq v _,qEu _ (qIq v _) m _ (qEo m) (qKx m),qIq (qIq v _) _,by
  rw[qEu s v (n+m) _ (qEo _) (qKx _),qYG v _ _ (qEo m) (qEo n),show n+m=m+n by omega,qtr_add]⟩
theorem qX4 {s:Scan} (v:V15 s) (r:Int):ZE s (r+4)=ZE s r:=by
 rw[qEu s v (r+4) _ (qEo _) (qKx _),qEu s v r _ (qEo _) (qKx _)];have e:qtr (r+4)=qtr r:=by unfold qtr;omega
 rw[e]
noncomputable def qEg (t:Scan) (l m:Int):List qN×List qG×Int:=if(qA6 t l m).2≠0 then([],[],(qA6 t l m).2) else((qA6 t l m).1,t.Defects,0)
theorem LI {s t:Scan} (l m q:Int) (h:ZE s q=some t) (ht:qYr t):wS s q l m=some (qEg t l m):=by
 unfold wS qEg;rw[h];have hd:=ht.d;simp only[kd,qY2,QW];rw[ZK (by omega)];simp only[kp,kd];by_cases c:(qA6 t l m).2=0
 ·rw[c];rfl
 ·rw[if_pos c,show((qA6 t l m).2 !=0)=true from gx.2 c];rfl
end Saw
end Go.SL

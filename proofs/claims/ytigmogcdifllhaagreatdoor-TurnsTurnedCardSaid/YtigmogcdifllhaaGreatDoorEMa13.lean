/- Scan's plain mathematics, part 8: ScanInside. -/
import Derived.Test.YtigmogcdifllhaaGreatDoorEMa12
set_option linter.unusedVariables false
set_option linter.unusedSimpArgs false
namespace Go.SL
namespace Saw
theorem qPp {α β:Type} (N:Nat) (L:Nat->List α->Int->Option β) (f:Nat->α) (z:α) (out:List α->β) (hN:N<=1000000000)
  (h0:∀n x l,x<N->l.length=N->L (n+1) l (x:Int)=L n (l.set x (f x)) ((x+1:Nat):Int))
  (h1:∀n l,l.length=N->L (n+1) l (N:Int)=some (out l)):L FUEL (List.replicate N z) 0=some (out ((List.range N).map f)):=by
 have h:=qA0 N L (λx _=>XU f z N (x+1)) out (λx l=>l=XU f z N x) 0 (by omega) hN (λn x l hx hi=>by
   subst hi;exact⟨by rw[h0 n x _ hx (qFI f z N x),partF_set],rfl⟩) (λn l hi=>h1 n l (by rw[hi,qFI])) (XU f z N 0) rfl
 obtain⟨e1,e2⟩:=h;rw[e2,qPv,qR3] at e1;exact e1
theorem qZZ {α β:Type} (N:Nat) (L:Nat->List α->Int->Option β) (f:Nat->α) (out:List α->β) (hN:N<=1000000000)
  (h0:∀n x l,x<N->l.length=x->L (n+1) l (x:Int)=L n (l++[f x]) ((x+1:Nat):Int))
  (h1:∀n l,l.length=N->L (n+1) l (N:Int)=some (out l)):L FUEL [] 0=some (out ((List.range N).map f)):=by
 have h:=qA0 N L (λx l=>l++[f x]) out (λx l=>l=(List.range x).map f) 0 (by omega) hN (λn x l hx hi=>⟨h0 n x l hx (by rw[hi];simp),by
   rw[hi,List.range_succ,List.map_append];rfl⟩) (λn l hi=>h1 n l (by rw[hi];simp)) [] rfl
 obtain⟨e1,e2⟩:=h;rw[e2] at e1;exact e1
def qTs (t:Int×Int×Int×Int):Int×Int×Int×Int:=(w64 (0-t.2.2.2),w64 (0-t.2.2.1),t.1,t.2.1)
def qLp (q:Nat) (d:qG):Int×Int×Int×Int:=IL (λ_ t=>qTs t) 0 q (d.Box.X.A,d.Box.X.B,d.Box.Y.A,d.Box.Y.B)
def jI (q:Nat) (d:qG):qG:=qG.mk d.Kind (Box.mk (Span.mk (qLp q d).1 (qLp q d).2.1) (Span.mk (qLp q d).2.2.1 (qLp q d).2.2.2) d.Box.Z)
theorem qZl (l:List qG) (r:Int) (q:Nat) (hq:q<4) (e:Int.tmod (w64 (Int.tmod r 4+4)) 4=(q:Int)) (x:Nat):QY l r x FUEL 0 (l.getD x dd).Box.X.A (l.getD x dd).Box.X.B (l.getD x dd).Box.Y.A (l.getD x dd).Box.Y.B=some (jI q (l.getD x dd)):=by
 have k:=(qA0 q (λn (t:Int×Int×Int×Int) i=>QY l r x n i t.1 t.2.1 t.2.2.1 t.2.2.2) (λ_ t=>qTs t) (λt=>qG.mk (l.getD x dd).Kind (Box.mk (Span.mk t.1 t.2.1) (Span.mk t.2.2.1 t.2.2.2) (l.getD x dd).Box.Z)) (λ_ _=>True) 0 (by omega) (by omega) (λn i t hi _=>⟨by
   show QY l r x (n+1) (i:Int) t.1 t.2.1 t.2.2.1 t.2.2.2=_;rw[QY,e,ki (by omega),wF (by omega)];rfl,trivial⟩) (λn t _=>by
   show QY l r x (n+1) (q:Int) t.1 t.2.1 t.2.2.1 t.2.2.2=_;rw[QY,e,kf (by omega),kg];rfl) ((l.getD x dd).Box.X.A,(l.getD x dd).Box.X.B,(l.getD x dd).Box.Y.A,(l.getD x dd).Box.Y.B) trivial).1
 exact k
theorem qZW (l:List qG) (r:Int) (q:Nat) (hq:q<4) (e:Int.tmod (w64 (Int.tmod r 4+4)) 4=(q:Int)) (x:Nat):JL l r x FUEL 0 (l.getD x dd).Box.X.A (l.getD x dd).Box.X.B (l.getD x dd).Box.Y.A (l.getD x dd).Box.Y.B (l.getD x dd).Box.Z.A (l.getD x dd).Box.Z.B=some (jI q (l.getD x dd)):=by
 have k:=(qA0 q (λn (t:Int×Int×Int×Int) i=>JL l r x n i t.1 t.2.1 t.2.2.1 t.2.2.2 (l.getD x dd).Box.Z.A (l.getD x dd).Box.Z.B) (λ_ t=>qTs t) (λt=>qG.mk (l.getD x dd).Kind (Box.mk (Span.mk t.1 t.2.1) (Span.mk t.2.2.1 t.2.2.2) (l.getD x dd).Box.Z)) (λ_ _=>True) 0 (by omega) (by omega) (λn i t hi _=>⟨by
   show JL l r x (n+1) (i:Int) t.1 t.2.1 t.2.2.1 t.2.2.2 _ _=_;rw[JL,qBS,e];simp only[kd];rw[ki (by omega),wF (by omega)];rfl,trivial⟩) (λn t _=>by
   show JL l r x (n+1) (q:Int) t.1 t.2.1 t.2.2.1 t.2.2.2 _ _=_;rw[JL,qBS,e];simp only[kd];rw[kf (by omega),kg];rfl) ((l.getD x dd).Box.X.A,(l.getD x dd).Box.X.B,(l.getD x dd).Box.Y.A,(l.getD x dd).Box.Y.B) trivial).1
 exact k
def qVV (q:Nat) (l:List qG):List qG:=(List.range l.length).map (λx=>jI q (l.getD x dd))
theorem qZV (l:List qG) (r:Int) (q:Nat) (hq:q<4) (e:Int.tmod (w64 (Int.tmod r 4+4)) 4=(q:Int)) (h:DP l=0):AB l r=some (qVV q l)/\qOE l r=some (qVV q l):=by
 have hl:=((YU _).1 h).1;unfold AB qOE;rw[qEO,qRY,h,qEL (by omega) (by omega),kg];have L1:=qPp l.length (λn t i=>WB l r n t i) (λx=>jI q (l.getD x dd)) (qG.mk 0 (Box.mk (Span.mk 0 0) (Span.mk 0 0) (Span.mk 0 0))) id (by omega) (λn x t hx ht=>by
   show WB l r (n+1) t (x:Int)=_;rw[WB,ki (by omega),zS (by omega),kg,qZl l r q hq e x,zS (by omega),wF (by omega)];rfl) (λn t ht=>by
   show WB l r (n+1) t _=_;rw[WB,kf (by omega)];rfl)
 have L2:=qZZ l.length (λn t i=>KC l r n t i) (λx=>jI q (l.getD x dd)) id (by omega) (λn x t hx ht=>by
   show KC l r (n+1) t (x:Int)=_;rw[KC,ki (by omega),zS (by omega),kg,qZW l r q hq e x,ZF (by omega),wF (by omega)];rfl) (λn t ht=>by
   show KC l r (n+1) t _=_;rw[KC,kf (by omega)];rfl)
 simp only[kd,kQ,ku,kp];rw[L1,L2];exact⟨rfl,rfl⟩
theorem qHs {d:qG} (h:VD d):jI 1 d=qG.mk d.Kind (Box.mk ⟨-d.Box.Y.B,-d.Box.Y.A⟩ d.Box.X d.Box.Z):=by
 have x:=h.x;have y:=h.y;unfold jI qLp;simp only[IL,qTs];rw[w64_o (by omega),w64_o (by omega),Int.zero_sub,Int.zero_sub]
theorem VD_1 {d:qG} (h:VD d):VD (jI 1 d):=by
 have x:=h.x;have y:=h.y;rw[qHs h];exact⟨h.k1,h.k2,by simp only;omega,x,h.z⟩
theorem CH (d:qG) (q:Nat):jI (q+1) d=jI 1 (jI q d):=by
 unfold jI qLp;rw[qPm];rfl
theorem qWN (d:qG):jI 0 d=d:=rfl
theorem qWK {d:qG} (h:VD d):∀q,VD (jI q d)
 |0=>by rw[qWN];exact h
 |q+1=>by rw[CH];exact VD_1 (qWK h q)
theorem turnD_4 {d:qG} (h:VD d):jI 3 (jI 1 d)=d:=by
 have h1:=VD_1 h;have h2:=VD_1 h1;have h3:=VD_1 h2;have e:jI 3 (jI 1 d)=jI 1 (jI 1 (jI 1 (jI 1 d))):=by rw[CH _ 2,CH _ 1,CH _ 0,qWN]
 rw[e,qHs h3,qHs h2,qHs h1,qHs h];obtain⟨k,⟨xa,xb⟩,⟨ya,yb⟩,⟨za,zb⟩⟩:=d;simp
theorem qTQ {α β:Type} [Inhabited α] (l:List α) (f:α->β):(List.range l.length).map (λi=>f (l.getD i dd))=l.map f:=by
 refine gC (by simp) λi h1 h2=>?_;simp only[ga,uB] at h1;simp only[List.getElem_map,List.getElem_range];rw[ka,kq h1];rfl
def FG (q:Nat) (s:Scan):Scan:=Scan.mk (s.Rings.map (JF q)) (s.Defects.map (jI q))
theorem qFf (s:Scan) (v:V15 s) (r:Int) (q:Nat) (hq:q<4) (e:Int.tmod (w64 (Int.tmod r 4+4)) 4=(q:Int)):ZI s r=some (FG q s):=by
 unfold ZI;rw[qUC];have hc:=(qI6 s).2 v;have v24:=v.many;obtain⟨k1,_⟩:=qZV s.Defects r q hq e v.def13;simp only[kd];rw[hc,qEL (by omega) (by omega),kg,k1];have L1:=qPp s.Rings.length (λn t i=>XH s r n i t) (λx=>JF q (s.Rings.getD x dd)) (Ring.mk 0 ([]:List qO)) id (by omega) (λn x t hx ht=>by
   show XH s r (n+1) (x:Int) t=_;rw[XH,ki (by omega),zS (by omega),kg,qUJ (s.Rings.getD x dd) r (v.good x hx) q hq e,zS (by omega),wF (by omega)];rfl) (λn t ht=>by
   show XH s r (n+1) _ t=_;rw[XH,kf (by omega)];rfl)
 simp only[kd,kQ,ku,kp];rw[L1];simp only[kd,id];rw[qTQ s.Rings (JF q)];unfold qVV;rw[qTQ s.Defects (jI q)];rfl
theorem rgs_turn (q:Nat) (s:Scan) {i:Nat} (h:i<s.Rings.length):rgs (FG q s) i=JF q (rgs s i):=by
 unfold rgs FG;simp only;rw[ka,ka,kG,kq h];rfl
theorem qIf {s:Scan} (v:V15 s) (q:Nat):V15 (FG q s):=by
 have v2:=v.two;have hn:(FG q s).Rings.length=s.Rings.length:=by simp[FG]
 have d:=(YU _).1 v.def13;refine⟨by rw[hn];exact v.two,by rw[hn];exact v.many,λx hx=>?_,?_,λx h0 hx=>?_,λx hx=>?_,?_,λe he=>?_⟩
 ·rw[hn] at hx;rw[rgs_turn q s hx];exact rg_turned_good q _ (v.good x hx)
 ·rw[rgs_turn q s (by omega)];exact v.zero
 ·rw[hn] at hx;rw[rgs_turn q s hx,rgs_turn q s (by omega)];exact v.up x h0 hx
 ·rw[hn] at hx;rw[rgs_turn q s hx,rgs_turn q s (by omega),IG,IG];exact v.same x hx
 ·refine(YU _).2 ⟨by show(s.Defects.map (jI q)).length<=64;rw[ga];exact d.1,λe he=>?_⟩;obtain⟨f,hf,rfl⟩:=uQ.1 he;exact qWK (d.2 f hf) q
 ·obtain⟨f,hf,rfl⟩:=uQ.1 he;have e1:endZ (FG q s)=endZ s:=by unfold endZ;rw[hn,rgs_turn q s (by omega)];rfl
  rw[e1];exact v.ends f hf
def qtr (r:Int):Nat:=(r % 4).toNat
theorem qEC (r:Int):qtr r<4:=by unfold qtr;omega
theorem qJ3 (r:Int):Int.tmod (w64 (Int.tmod r 4+4)) 4=(qtr r:Int):=by
 unfold qtr;have h:∃k,r=4*k+Int.tmod r 4:=⟨Int.tdiv r 4,(Int.mul_tdiv_add_tmod r 4).symm⟩
 have h1:=gt r (show(0:Int)<4 by decide);have h2: -4<Int.tmod r 4:=by
  rcases gZ 0 r with h|h
  ·have:=Int.tmod_nonneg 4 h;omega
  ·have:=Int.tmod_nonneg 4 (show 0<=-r by omega);have h3:=gt (-r) (show(0:Int)<4 by decide);rw[Int.neg_tmod] at this h3;omega
 generalize Int.tmod r 4=t at*;obtain⟨k,rfl⟩:=h;rw[w64_o (by omega),gw (by omega)];omega
theorem qtr_add (a b:Int):qtr (a+b)=(qtr b+qtr a) % 4:=by unfold qtr;omega
theorem qVX (p q:Nat) (hp:p<4) (hq:q<4) (x:qA):rg_turnP p (rg_turnP q x)=rg_turnP ((q+p) % 4) x:=by
 rcases(show p=0\/p=1\/p=2\/p=3 by omega) with rfl|rfl|rfl|rfl<;>rcases(show q=0\/q=1\/q=2\/q=3 by omega) with rfl|rfl|rfl|rfl<;>simp[rg_turnP]
theorem qSS (p q:Nat) (hp:p<4) (hq:q<4) (a:Ring):JF p (JF q a)=JF ((q+p) % 4) a:=by
 unfold JF;simp only[List.map_map]
 congr 1
 refine List.map_congr_left λr _=>?_;show VC p (VC q r)=VC ((q+p) % 4) r;unfold VC;simp only;rw[qVX p q hp hq]
theorem qGh (d:qG) (q:Nat):∀p,jI p (jI q d)=jI (q+p) d
 |0=>rfl
 |p+1=>by
  rw[CH _ p,qGh d q p];exact(CH d (q+p)).symm
theorem qXE {d:qG} (h:VD d) (q:Nat):jI (q+4) d=jI q d:=by
 have e:jI 4 d=d:=by
  have:=turnD_4 h;rw[qGh d 1 3] at this;exact this
 rw[show q+4=4+q by omega,<-qGh d 4 q,e]
theorem qYr {s:Scan} (v:V15 s) (p q:Nat) (hp:p<4) (hq:q<4):FG p (FG q s)=FG ((q+p) % 4) s:=by
 have d:=(YU _).1 v.def13;unfold FG;simp only[List.map_map]
 congr 1
 ·exact List.map_congr_left λr _=>qSS p q hp hq r
 ·refine List.map_congr_left λx hx=>?_;show jI p (jI q x)=jI ((q+p) % 4) x;rw[qGh];by_cases h:q+p<4
  ·rw[uw h]
  ·have e:q+p=(q+p) % 4+4:=by omega
   rw[e,qXE (d.2 x hx)]
   congr 1
   omega
theorem qGx {s:Scan} (v:V15 s) (n m:Int):∃t u,ZI s n=some t/\V15 t/\ZI t m=some u/\V15 u/\ZI s (n+m)=some u:=
 ⟨FG (qtr n) s,FG (qtr m) (FG (qtr n) s),qFf s v n _ (qEC n) (qJ3 n),qIf v _,qFf _ (qIf v _) m _ (qEC m) (qJ3 m),qIf (qIf v _) _,by
  rw[qFf s v (n+m) _ (qEC _) (qJ3 _),qYr v _ _ (qEC m) (qEC n),show n+m=m+n by omega,qtr_add]⟩
theorem qY6 {s:Scan} (v:V15 s) (r:Int):ZI s (r+4)=ZI s r:=by
 rw[qFf s v (r+4) _ (qEC _) (qJ3 _),qFf s v r _ (qEC _) (qJ3 _)];have e:qtr (r+4)=qtr r:=by unfold qtr;omega
 rw[e]
noncomputable def qEt (t:Scan) (l m:Int):List qN×List qG×Int:=if(qBt t l m).2≠0 then([],[],(qBt t l m).2) else((qBt t l m).1,t.Defects,0)
theorem MT {s t:Scan} (l m q:Int) (h:ZI s q=some t) (ht:qK6 t):wU s q l m=some (qEt t l m):=by
 unfold wU qEt;rw[h];have hd:=ht.d;simp only[kd,qZ2,QX];rw[ZF (by omega)];simp only[kp,kd];by_cases c:(qBt t l m).2=0
 ·rw[c];rfl
 ·rw[if_pos c,show((qBt t l m).2 !=0)=true from gz.2 c];rfl
end Saw
end Go.SL

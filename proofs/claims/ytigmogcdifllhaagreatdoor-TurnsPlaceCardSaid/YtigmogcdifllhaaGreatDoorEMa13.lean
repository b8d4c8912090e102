/- Scan's plain mathematics, part 8: ScanInside. -/
import Derived.Test.YtigmogcdifllhaaGreatDoorEMa12
import Derived.Test.YtigmogcdifllhaaGreatDoorEMod
set_option linter.unusedVariables false
set_option linter.unusedSimpArgs false
namespace Go.SL
namespace Saw
theorem qNx {α β:Type} (N:Nat) (L:Nat->List α->Int->Option β) (f:Nat->α) (z:α) (out:List α->β) (hN:N<=1000000000)
  (h0:∀n x l,x<N->l.length=N->L (n+1) l (x:Int)=L n (l.set x (f x)) ((x+1:Nat):Int))
  (h1:∀n l,l.length=N->L (n+1) l (N:Int)=some (out l)):L FUEL (List.replicate N z) 0=some (out ((List.range N).map f)):=by
 have h:=CD N L (λx _=>JK f z N (x+1)) out (λx l=>l=JK f z N x) 0 (by omega) hN (λn x l hx hi=>by
   subst hi;exact⟨by rw[h0 n x _ hx (qFt f z N x),partF_set],rfl⟩) (λn l hi=>h1 n l (by rw[hi,qFt])) (JK f z N 0) rfl
 obtain⟨e1,e2⟩:=h;rw[e2,qNE,qQX] at e1;exact e1
theorem qYx {α β:Type} (N:Nat) (L:Nat->List α->Int->Option β) (f:Nat->α) (out:List α->β) (hN:N<=1000000000)
  (h0:∀n x l,x<N->l.length=x->L (n+1) l (x:Int)=L n (l++[f x]) ((x+1:Nat):Int))
  (h1:∀n l,l.length=N->L (n+1) l (N:Int)=some (out l)):L FUEL [] 0=some (out ((List.range N).map f)):=by
 have h:=CD N L (λx l=>l++[f x]) out (λx l=>l=(List.range x).map f) 0 (by omega) hN (λn x l hx hi=>⟨h0 n x l hx (by rw[hi];simp),by
   rw[hi,List.range_succ,List.map_append];rfl⟩) (λn l hi=>h1 n l (by rw[hi];simp)) [] rfl
 obtain⟨e1,e2⟩:=h;rw[e2] at e1;exact e1
def qSl (t:Int×Int×Int×Int):Int×Int×Int×Int:=(w64 (0-t.2.2.2),w64 (0-t.2.2.1),t.1,t.2.1)
def qKI (q:Nat) (d:qF):Int×Int×Int×Int:=HA (λ_ t=>qSl t) 0 q (d.Box.X.A,d.Box.X.B,d.Box.Y.A,d.Box.Y.B)
def wW (q:Nat) (d:qF):qF:=qF.mk d.Kind (Box.mk (Span.mk (qKI q d).1 (qKI q d).2.1) (Span.mk (qKI q d).2.2.1 (qKI q d).2.2.2) d.Box.Z)
theorem qYp (l:List qF) (r:Int) (q:Nat) (hq:q<4) (e:Int.tmod (w64 (Int.tmod r 4+4)) 4=(q:Int)) (x:Nat):yP l r x FUEL 0 (l.getD x dd).Box.X.A (l.getD x dd).Box.X.B (l.getD x dd).Box.Y.A (l.getD x dd).Box.Y.B=some (wW q (l.getD x dd)):=by
 have k:=(CD q (λn (t:Int×Int×Int×Int) i=>yP l r x n i t.1 t.2.1 t.2.2.1 t.2.2.2) (λ_ t=>qSl t) (λt=>qF.mk (l.getD x dd).Kind (Box.mk (Span.mk t.1 t.2.1) (Span.mk t.2.2.1 t.2.2.2) (l.getD x dd).Box.Z)) (λ_ _=>True) 0 (by omega) (by omega) (λn i t hi _=>⟨by
   show yP l r x (n+1) (i:Int) t.1 t.2.1 t.2.2.1 t.2.2.2=_;rw[yP,e,kf (by omega),wI (by omega)];rfl,trivial⟩) (λn t _=>by
   show yP l r x (n+1) (q:Int) t.1 t.2.1 t.2.2.1 t.2.2.2=_;rw[yP,e,ki (by omega),kr];rfl) ((l.getD x dd).Box.X.A,(l.getD x dd).Box.X.B,(l.getD x dd).Box.Y.A,(l.getD x dd).Box.Y.B) trivial).1
 exact k
theorem qYr (l:List qF) (r:Int) (q:Nat) (hq:q<4) (e:Int.tmod (w64 (Int.tmod r 4+4)) 4=(q:Int)) (x:Nat):ZT l r x FUEL 0 (l.getD x dd).Box.X.A (l.getD x dd).Box.X.B (l.getD x dd).Box.Y.A (l.getD x dd).Box.Y.B (l.getD x dd).Box.Z.A (l.getD x dd).Box.Z.B=some (wW q (l.getD x dd)):=by
 have k:=(CD q (λn (t:Int×Int×Int×Int) i=>ZT l r x n i t.1 t.2.1 t.2.2.1 t.2.2.2 (l.getD x dd).Box.Z.A (l.getD x dd).Box.Z.B) (λ_ t=>qSl t) (λt=>qF.mk (l.getD x dd).Kind (Box.mk (Span.mk t.1 t.2.1) (Span.mk t.2.2.1 t.2.2.2) (l.getD x dd).Box.Z)) (λ_ _=>True) 0 (by omega) (by omega) (λn i t hi _=>⟨by
   show ZT l r x (n+1) (i:Int) t.1 t.2.1 t.2.2.1 t.2.2.2 _ _=_;rw[ZT,qAd,e];simp only[kd];rw[kf (by omega),wI (by omega)];rfl,trivial⟩) (λn t _=>by
   show ZT l r x (n+1) (q:Int) t.1 t.2.1 t.2.2.1 t.2.2.2 _ _=_;rw[ZT,qAd,e];simp only[kd];rw[ki (by omega),kr];rfl) ((l.getD x dd).Box.X.A,(l.getD x dd).Box.X.B,(l.getD x dd).Box.Y.A,(l.getD x dd).Box.Y.B) trivial).1
 exact k
def qTi (q:Nat) (l:List qF):List qF:=(List.range l.length).map (λx=>wW q (l.getD x dd))
theorem qYa (l:List qF) (r:Int) (q:Nat) (hq:q<4) (e:Int.tmod (w64 (Int.tmod r 4+4)) 4=(q:Int)) (h:UC l=0):MO l r=some (qTi q l)/\qOu l r=some (qTi q l):=by
 have hl:=((YP _).1 h).1;unfold MO qOu;rw[qS4,qQ2,h,qNK (by omega) (by omega),kr];have L1:=qNx l.length (λn t i=>QR l r n t i) (λx=>wW q (l.getD x dd)) (qF.mk 0 (Box.mk (Span.mk 0 0) (Span.mk 0 0) (Span.mk 0 0))) id (by omega) (λn x t hx ht=>by
   show QR l r (n+1) t (x:Int)=_;rw[QR,kf (by omega),zQ (by omega),kr,qYp l r q hq e x,zQ (by omega),wI (by omega)];rfl) (λn t ht=>by
   show QR l r (n+1) t _=_;rw[QR,ki (by omega)];rfl)
 have L2:=qYx l.length (λn t i=>JP l r n t i) (λx=>wW q (l.getD x dd)) id (by omega) (λn x t hx ht=>by
   show JP l r (n+1) t (x:Int)=_;rw[JP,kf (by omega),zQ (by omega),kr,qYr l r q hq e x,WZ (by omega),wI (by omega)];rfl) (λn t ht=>by
   show JP l r (n+1) t _=_;rw[JP,ki (by omega)];rfl)
 simp only[kd,kO,ku,kq];rw[L1,L2];exact⟨rfl,rfl⟩
theorem qG1 {d:qF} (h:VD d):wW 1 d=qF.mk d.Kind (Box.mk ⟨-d.Box.Y.B,-d.Box.Y.A⟩ d.Box.X d.Box.Z):=by
 have x:=h.x;have y:=h.y;unfold wW qKI;simp only[HA,qSl];rw[zF (by omega),zF (by omega),Int.zero_sub,Int.zero_sub]
theorem VD_1 {d:qF} (h:VD d):VD (wW 1 d):=by
 have x:=h.x;have y:=h.y;rw[qG1 h];exact⟨h.k1,h.k2,by simp only;omega,x,h.z⟩
theorem AE (d:qF) (q:Nat):wW (q+1) d=wW 1 (wW q d):=by
 unfold wW qKI;rw[qNt];rfl
theorem qVI (d:qF):wW 0 d=d:=rfl
theorem qVE {d:qF} (h:VD d):∀q,VD (wW q d)
 |0=>by rw[qVI];exact h
 |q+1=>by rw[AE];exact VD_1 (qVE h q)
theorem turnD_4 {d:qF} (h:VD d):wW 3 (wW 1 d)=d:=by
 have h1:=VD_1 h;have h2:=VD_1 h1;have h3:=VD_1 h2;have e:wW 3 (wW 1 d)=wW 1 (wW 1 (wW 1 (wW 1 d))):=by rw[AE _ 2,AE _ 1,AE _ 0,qVI]
 rw[e,qG1 h3,qG1 h2,qG1 h1,qG1 h];obtain⟨k,⟨xa,xb⟩,⟨ya,yb⟩,⟨za,zb⟩⟩:=d;simp
theorem qUq {α β:Type} [Inhabited α] (l:List α) (f:α->β):(List.range l.length).map (λi=>f (l.getD i dd))=l.map f:=by
 refine gu (by simp) λi h1 h2=>?_;simp only[uK,ui] at h1;simp only[List.getElem_map,List.getElem_range];rw[ka,ko h1];rfl
def GZ (q:Nat) (s:Scan):Scan:=Scan.mk (s.Rings.map (ZR q)) (s.Defects.map (wW q))
theorem qEN (s:Scan) (v:V15 s) (r:Int) (q:Nat) (hq:q<4) (e:Int.tmod (w64 (Int.tmod r 4+4)) 4=(q:Int)):QS s r=some (GZ q s):=by
 unfold QS;rw[qTZ];have hc:=(AY s).2 v;have v24:=v.many;obtain⟨k1,_⟩:=qYa s.Defects r q hq e v.def13;simp only[kd];rw[hc,qNK (by omega) (by omega),kr,k1];have L1:=qNx s.Rings.length (λn t i=>WV s r n i t) (λx=>ZR q (s.Rings.getD x dd)) (Ring.mk 0 ([]:List qP)) id (by omega) (λn x t hx ht=>by
   show WV s r (n+1) (x:Int) t=_;rw[WV,kf (by omega),zQ (by omega),kr,qSS (s.Rings.getD x dd) r (v.good x hx) q hq e,zQ (by omega),wI (by omega)];rfl) (λn t ht=>by
   show WV s r (n+1) _ t=_;rw[WV,ki (by omega)];rfl)
 simp only[kd,kO,ku,kq];rw[L1];simp only[kd,id];rw[qUq s.Rings (ZR q)];unfold qTi;rw[qUq s.Defects (wW q)];rfl
theorem rgs_turn (q:Nat) (s:Scan) {i:Nat} (h:i<s.Rings.length):rgs (GZ q s) i=ZR q (rgs s i):=by
 unfold rgs GZ;simp only;rw[ka,ka,kF,ko h];rfl
theorem qIm {s:Scan} (v:V15 s) (q:Nat):V15 (GZ q s):=by
 have v2:=v.two;have hn:(GZ q s).Rings.length=s.Rings.length:=by simp[GZ]
 have d:=(YP _).1 v.def13;refine⟨by rw[hn];exact v.two,by rw[hn];exact v.many,λx hx=>?_,?_,λx h0 hx=>?_,λx hx=>?_,?_,λe he=>?_⟩
 ·rw[hn] at hx;rw[rgs_turn q s hx];exact rg_turned_good q _ (v.good x hx)
 ·rw[rgs_turn q s (by omega)];exact v.zero
 ·rw[hn] at hx;rw[rgs_turn q s hx,rgs_turn q s (by omega)];exact v.up x h0 hx
 ·rw[hn] at hx;rw[rgs_turn q s hx,rgs_turn q s (by omega),HH,HH];exact v.same x hx
 ·refine(YP _).2 ⟨by show(s.Defects.map (wW q)).length<=64;rw[uK];exact d.1,λe he=>?_⟩;obtain⟨f,hf,rfl⟩:=uP.1 he;exact qVE (d.2 f hf) q
 ·obtain⟨f,hf,rfl⟩:=uP.1 he;have e1:endZ (GZ q s)=endZ s:=by unfold endZ;rw[hn,rgs_turn q s (by omega)];rfl
  rw[e1];exact v.ends f hf
def qtr (r:Int):Nat:=(r % 4).toNat
theorem qDP (r:Int):qtr r<4:=by unfold qtr;omega
theorem qJJ (r:Int):Int.tmod (w64 (Int.tmod r 4+4)) 4=(qtr r:Int):=by
 unfold qtr;have h:∃k,r=4*k+Int.tmod r 4:=⟨Int.tdiv r 4,(Int.mul_tdiv_add_tmod r 4).symm⟩
 have h1:=gj r (show(0:Int)<4 by decide);have h2: -4<Int.tmod r 4:=by
  rcases gS 0 r with h|h
  ·have:=Int.tmod_nonneg 4 h;omega
  ·have:=Int.tmod_nonneg 4 (show 0<=-r by omega);have h3:=gj (-r) (show(0:Int)<4 by decide);rw[Int.neg_tmod] at this h3;omega
 generalize Int.tmod r 4=t at*;obtain⟨k,rfl⟩:=h;rw[zF (by omega),gL (by omega)];omega
theorem qtr_add (a b:Int):qtr (a+b)=(qtr b+qtr a) % 4:=by unfold qtr;omega
theorem qTo (p q:Nat) (hp:p<4) (hq:q<4) (x:qA):rg_turnP p (rg_turnP q x)=rg_turnP ((q+p) % 4) x:=by
 rcases(show p=0\/p=1\/p=2\/p=3 by omega) with rfl|rfl|rfl|rfl<;>rcases(show q=0\/q=1\/q=2\/q=3 by omega) with rfl|rfl|rfl|rfl<;>simp[rg_turnP]
theorem qRZ (p q:Nat) (hp:p<4) (hq:q<4) (a:Ring):ZR p (ZR q a)=ZR ((q+p) % 4) a:=by
 unfold ZR;simp only[List.map_map]
 congr 1
 refine List.map_congr_left λr _=>?_;show PW p (PW q r)=PW ((q+p) % 4) r;unfold PW;simp only;rw[qTo p q hp hq]
theorem qFM (d:qF) (q:Nat):∀p,wW p (wW q d)=wW (q+p) d
 |0=>rfl
 |p+1=>by
  rw[AE _ p,qFM d q p];exact(AE d (q+p)).symm
theorem qWO {d:qF} (h:VD d) (q:Nat):wW (q+4) d=wW q d:=by
 have e:wW 4 d=d:=by
  have:=turnD_4 h;rw[qFM d 1 3] at this;exact this
 rw[show q+4=4+q by omega,<-qFM d 4 q,e]
theorem qXG {s:Scan} (v:V15 s) (p q:Nat) (hp:p<4) (hq:q<4):GZ p (GZ q s)=GZ ((q+p) % 4) s:=by
 have d:=(YP _).1 v.def13;unfold GZ;simp only[List.map_map]
 congr 1
 ·exact List.map_congr_left λr _=>qRZ p q hp hq r
 ·refine List.map_congr_left λx hx=>?_;show wW p (wW q x)=wW ((q+p) % 4) x;rw[qFM];by_cases h:q+p<4
  ·rw[uw h]
  ·have e:q+p=(q+p) % 4+4:=by omega
   rw[e,qWO (d.2 x hx)]
   congr 1
   omega
theorem qXg {s:Scan} (v:V15 s) (n m:Int):∃t u,QS s n=some t/\V15 t/\QS t m=some u/\V15 u/\QS s (n+m)=some u:=
 ⟨GZ (qtr n) s,GZ (qtr m) (GZ (qtr n) s),qEN s v n _ (qDP n) (qJJ n),qIm v _,qEN _ (qIm v _) m _ (qDP m) (qJJ m),qIm (qIm v _) _,by
  rw[qEN s v (n+m) _ (qDP _) (qJJ _),qXG v _ _ (qDP m) (qDP n),show n+m=m+n by omega,qtr_add]⟩
theorem qXS {s:Scan} (v:V15 s) (r:Int):QS s (r+4)=QS s r:=by
 rw[qEN s v (r+4) _ (qDP _) (qJJ _),qEN s v r _ (qDP _) (qJJ _)];have e:qtr (r+4)=qtr r:=by unfold qtr;omega
 rw[e]
noncomputable def FW (t:Scan) (l m:Int):List qO×List qF×Int:=if(KE t l m).2≠0 then([],[],(KE t l m).2) else((KE t l m).1,t.Defects,0)
theorem qVm (s:Scan) (l m:Int):(KE s l m).1.length<=1000000:=by
 unfold KE;by_cases hc:UV s≠0
 ·rw[if_pos hc];simp
 ·rw[if_neg hc];have v:=((AY s).1 (Classical.not_not.1 hc)).many;cases hf:findN (er1 s l m) 0 s.Rings.length with
  |inl e=>
   obtain⟨i,_,_,he,_⟩:=UP hf;unfold er1 at he;split at he
   ·cases he;simp
   ·cases he
  |inr u=>
   simp only;cases hf:findN (er2 s l m) 0 (s.Rings.length-1) with
   |inl e=>
    obtain⟨i,_,_,he,_⟩:=UP hf;unfold er2 at he;split at he
    ·cases he;simp
    ·cases he
   |inr u=>simp only[uK,ui];omega
theorem qTS (s:Scan) (l m:Int) (j:Nat) (hj:j<(KE s l m).1.length):((KE s l m).1.getD j dd).Sec.Rows.length<=1000000:=by
 unfold KE at hj⊢;by_cases hc:UV s≠0
 ·rw[if_pos hc] at hj;simp at hj
 ·rw[if_neg hc] at hj⊢;have v:=((AY s).1 (Classical.not_not.1 hc)).many;cases hf:findN (er1 s l m) 0 s.Rings.length with
  |inl e=>
   obtain⟨i,_,_,he,_⟩:=UP hf;unfold er1 at he;split at he
   ·cases he;rw[hf] at hj;simp at hj
   ·cases he
  |inr u=>
   rw[hf] at hj;simp only at hj⊢;cases hf:findN (er2 s l m) 0 (s.Rings.length-1) with
   |inl e=>
    obtain⟨i,_,_,he,_⟩:=UP hf;unfold er2 at he;split at he
    ·cases he;rw[hf] at hj;simp at hj
    ·cases he
   |inr u=>
    rw[hf] at hj;simp only[uK,ui] at hj⊢;rw[ka,kF,gw hj];have:=(VS_meet (show VS (secI s l m j).1 from qKH _ _ _) (show VS (secI s l m (j+1)).1 from qKH _ _ _)).len;show(qBk (secI s l m j).1 (secI s l m (j+1)).1).Rows.length<=1000000;omega
theorem qRN {ε:Type} (N:Nat) (L:Nat->Int->Option (ε⊕Unit)) (bad:Nat->Option ε) (hN:N<=9223372036854775807)
  (h0:∀n i,i<N->L (n+1) (i:Int)=match bad i with|some e=>some (.inl e)|none=>L n ((i+1:Nat):Int))
  (h1:∀n,L (n+1) (N:Int)=some (.inr ())):L FUEL 0=some (findN bad 0 N):=by
 have k:=AA N (λn (_:Unit) i=>L n i) (λi _=>match bad i with|some e=>(.inl e:ε⊕Unit)|none=> .inr ()) (λr=>r) (λ_ _=>True)
  (λn i s hi _=>by
   have h:=h0 n i hi;cases hb:bad i with
   |some e=>simp only;rw[h,hb]
   |none=>simp only;rw[h,hb];exact⟨rfl,trivial⟩)
  (λn s _=>h1 n) FUEL 0 () (by rw[FUEL_eq];omega) (kS _) trivial
 exact k.trans (congrArg some (qKj bad N 0))
def qGA (s:Scan) (i:Nat):Option Bool:=if 100<(rgs s i).Read.length then some false else none
theorem qYz (s:Scan) (h:s.Rings.length<=9223372036854775807):∃b,qCd s=some b/\(b=true->qNw s):=by
 unfold qCd;have L:XM s FUEL 0=some (findN (qGA s) 0 s.Rings.length):=by
  refine qRN s.Rings.length (XM s) (qGA s) h (λn i hi=>?_) (λn=>?_)
  ·rw[XM,kf (by omega),zQ (by omega),zF (by omega)];simp only[kq,kr];unfold qGA rgs;by_cases c:100<(s.Rings.getD i dd).Read.length
   ·rw[if_pos c,kf (by omega)];rfl
   ·rw[if_neg c,ki (by omega)];rfl
  ·rw[XM,ki (by omega)];rfl
 rw[L];simp only[kd];cases hf:findN (qGA s) 0 s.Rings.length with
 |inl e=>
  obtain⟨i,_,_,h5,_⟩:=UP hf;unfold qGA at h5;split at h5
  ·cases h5;exact⟨false,rfl,λq=>by cases q⟩
  ·cases h5
 |inr u=>
  have hn:=FH.1 hf;by_cases h1:s.Rings.length<=60
  ·by_cases h2:s.Defects.length<=70
   ·refine⟨true,by simp only[Sum.elim_inr];rw[kf (by omega),kf (by omega)];rfl,λ_=>⟨by omega,by omega,λi hi=>?_⟩⟩;have:=hn i (by omega) (by omega);unfold qGA at this;split at this
    ·cases this
    ·omega
   ·exact⟨false,by simp only[Sum.elim_inr];rw[kf (by omega),ki (show¬(s.Defects.length:Int)<=70 by omega)];rfl,λq=>by cases q⟩
  ·exact⟨false,by simp only[Sum.elim_inr];rw[ki (by omega)];rfl,λq=>by cases q⟩
theorem qNM (x:List Span) (h:x.length<=1000000):zaQ x x=some true:=by
 unfold zaQ;have L:JT x x FUEL 0=some (findN (λ_=>(none:Option Bool)) 0 x.length):=by
  refine qDp x.length (JT x x) _ 0 (by omega) (by omega) (λn i _ hi=>?_) (λn=>?_)
  ·rw[JT,kf (by omega),zQ (by omega)];simp only[kq,ku,gr,Bool.and_self,kY,wI (show i<4611686018427387904 by omega)]
  ·rw[JT,ki (by omega)];rfl
 rw[FH.2 (λ_ _ _=>rfl)] at L;simp only[kO,ku,L,kd,Sum.elim_inr]
theorem qQa (t:List qO) (hl:t.length<=1000000) (h:∀j,j<t.length->(t.getD j dd).Sec.Rows.length<=1000000):JN t t=some true:=by
 have L3:wK [⟨t,[]⟩] [⟨t,[]⟩] 0 FUEL 0=some (findN (λ_=>(none:Option Bool)) 0 t.length):=by
  refine qDp t.length (wK [⟨t,[]⟩] [⟨t,[]⟩] 0) _ 0 (by omega) (by omega) (λn i _ hi=>?_) (λn=>?_)
  ·rw[wK];show(bif decide ((i:Int)<(t.length:Int)) then bif inb (i:Int) t.length then bif inb (i:Int) t.length then bif (t.getD (i:Int).toNat dd).Len !=(t.getD (i:Int).toNat dd).Len then _ else bif (t.getD (i:Int).toNat dd).Sec.Low !=(t.getD (i:Int).toNat dd).Sec.Low then _ else(zaQ (t.getD (i:Int).toNat dd).Sec.Rows (t.getD (i:Int).toNat dd).Sec.Rows).bind _ else none else none else _)=_;rw[kf (by omega),zQ (by omega),kr,qNM _ (h i hi)];simp only[kq,ku,kO,kd,WY,kY,wI (show i<4611686018427387904 by omega)]
  ·rw[wK];show(bif decide ((t.length:Int)<(t.length:Int)) then _ else _)=_;rw[ki (by omega)];rfl
 rw[FH.2 (λ_ _ _=>rfl)] at L3;have k2:∀r,QP [⟨t,[]⟩] [⟨t,[]⟩] 0 r false=r 1:=λr=>by
  unfold QP;rw[L3];rfl
 unfold JN DF;have L1:jF [⟨t,[]⟩] [⟨t,[]⟩] FUEL 0=some (.inr ()):=by
  rw[show FUEL=9223372036854775806+1+1 from FUEL_eq,jF];show(PT [] []).bind (λv8=>bif !v8 then _ else QP [⟨t,[]⟩] [⟨t,[]⟩] 0 _ ((t.length:Int) !=(t.length:Int)))=_;rw[qFi [] (by simp)];simp only[kd,kY,ku,kO,k2];rw[jF];rfl
 rw[L1];rfl
theorem qMA {s t:Scan} (l m q:Int) (h:QS s q=some t) (ht:qNw t):wV s q l m=some (FW t l m):=by
 unfold wV FW;rw[h];have hd:=ht.d;simp only[kd,qYk,yN];rw[WZ (by omega)];simp only[kq,kd];by_cases c:(KE t l m).2=0
 ·rw[c];rfl
 ·rw[if_pos c,show((KE t l m).2 !=0)=true from gK.2 c];rfl
theorem qU6 (t:Scan) (l m:Int):(FW t l m).1.length<=1000000:=by
 unfold FW;split
 ·simp
 ·exact qVm t l m
theorem qSI (t:Scan) (l m:Int) (j:Nat) (hj:j<(FW t l m).1.length):((FW t l m).1.getD j dd).Sec.Rows.length<=1000000:=by
 unfold FW at hj⊢;split at hj
 ·simp at hj
 ·rename_i c;rw[if_neg c];exact qTS t l m j hj
theorem qVv {t:Scan} (ht:qNw t) (l m:Int):(FW t l m).2.1.length<=1000000:=by
 unfold FW;split
 ·simp
 ·exact ht.d
theorem qSj (aw:PZ=some true) (a:ZQ) (n q:Int) (h:a.Scan.Rings.length<=9223372036854775807) (hn: -128<=n/\n<=127) (hq: -128<=q/\q<=127):XV a n q=some true:=by
 unfold XV;obtain⟨b,e,hb⟩:=qYz a.Scan h;rw[e];simp only[kd];have k1:yZ a n q true=some true:=by unfold yZ;simp only[kq,aw,kd]
 cases b with
 |false=>simp only[gE,kq,k1]
 |true=>
  simp only[kY,ku];rw[qXe];simp only[kd];by_cases c:UV a.Scan=0
  ·have v:=(AY _).1 c;obtain⟨t,u,e1,v1,e2,v2,e3⟩:=qXg v n q;have e4:=(qXS v (n+q)).trans e3;rw[c];unfold yZ;rw[zF (n:=n) (by omega),zF (n:=q) (by omega),zF (n:=n+q) (by omega),zF (n:=n+q+4) (by omega),e1];simp only[kO,ku,kd,qMA _ _ _ e2 v2.small,qMA _ _ _ e3 v2.small,qMA _ _ _ e4 v2.small,qQa _ (qU6 _ _ _) (qSI _ _ _),kq,qFi _ (qVv v2.small _ _),gr,aw,wP]
  ·rw[show(UV a.Scan !=0)=true from gK.2 c,k1]
end Saw
end Go.SL

namespace Go.SL.Saw
def bm :Scan:=⟨[⟨0,[⟨⟨60,30⟩,true⟩,⟨⟨0,30⟩,true⟩,⟨⟨-60,30⟩,true⟩,⟨⟨-60,0⟩,true⟩,⟨⟨-60,-30⟩,true⟩,⟨⟨0,-30⟩,true⟩,⟨⟨60,-30⟩,true⟩,⟨⟨60,0⟩,true⟩]⟩,⟨3000,[⟨⟨60,30⟩,true⟩,⟨⟨0,30⟩,true⟩,⟨⟨-60,30⟩,true⟩,⟨⟨-60,0⟩,true⟩,⟨⟨-60,-30⟩,true⟩,⟨⟨0,-30⟩,true⟩,⟨⟨60,-30⟩,true⟩,⟨⟨60,0⟩,true⟩]⟩],[]⟩
def sl0 :List qO:=[⟨3000,⟨-3,[⟨-60,60⟩,⟨-60,60⟩,⟨-60,60⟩,⟨-60,60⟩,⟨-60,60⟩,⟨-60,60⟩]⟩⟩]
def sl1 :List qO:=[⟨3000,⟨-6,[⟨-30,30⟩,⟨-30,30⟩,⟨-30,30⟩,⟨-30,30⟩,⟨-30,30⟩,⟨-30,30⟩,⟨-30,30⟩,⟨-30,30⟩,⟨-30,30⟩,⟨-30,30⟩,⟨-30,30⟩,⟨-30,30⟩]⟩⟩]
def f0 :Rect:=⟨⟨-60,60⟩,⟨-30,30⟩⟩
def f1 :Rect:=⟨⟨-30,30⟩,⟨-60,60⟩⟩
def c25 :List qK:=[⟨ByteArray.mk #[112,108,97,110,107],50,100,0,0,[3000],[80]⟩]
def w25 :Saw:=⟨4,0,10,1000⟩
def r25 :Rates:=⟨0,0,0⟩
def nd0 :List Node:=[⟨2,40⟩,⟨1,0⟩,⟨0,0⟩]
def nd1 :List Node:=[⟨2,20⟩,⟨1,0⟩,⟨0,0⟩]
def z60 :List Int:=List.replicate 60 0
def z120 :List Int:=List.replicate 120 0
def g0r :List Int:=[80000000,-1,-1,-1,-1,-1,-1,-1,-1,-1,80000000]
def g1r :List Int:=[80000000,-1,-1,-1,-1,-1,-1,-1,-1,-1,80000000,-1,-1,-1,-1,-1,-1,-1,-1,-1,80000000]
def LP0 :Line:=⟨60,4,1,[50,100],[g0r,[]],z60,z60⟩
def LP1 :Line:=⟨120,4,1,[50,100],[List.replicate 71 (-1),g1r],z120,z120⟩
def pt0 :List Node:=[⟨3,20⟩,⟨2,40⟩,⟨1,0⟩,⟨0,0⟩,⟨0,0⟩]
def pt1 :List Node:=[⟨3,40⟩,⟨2,20⟩,⟨1,0⟩,⟨0,0⟩,⟨0,0⟩]
theorem beam_eq :UL=some bm:=by kernel_rfl
end Go.SL.Saw

namespace Go.SL.Saw
theorem place_0 :wV bm 0 200 2=some (sl0,[],0):=by kernel_rfl
theorem qWc :wV bm 1 200 2=some (sl1,[],0):=by kernel_rfl
theorem place_2 :wV bm 2 200 2=some (sl0,[],0):=by kernel_rfl
theorem place_3 :wV bm 3 200 2=some (sl1,[],0):=by kernel_rfl
theorem fr_0 :NS sl0=some f0:=by kernel_rfl
theorem fr_1 :NS sl1=some f1:=by kernel_rfl
theorem ck_0 :FN sl0 [] c25 f0 w25 r25=some 0:=by kernel_rfl
theorem ck_1 :FN sl1 [] c25 f1 w25 r25=some 0:=by kernel_rfl
theorem rest_0 :TF f0 (LP0,[[nd0,[],[],[],[],[],[],[],[],[],nd0],[]]) ([⟨0,0⟩],80000000,0) FUEL [] [] 0=some ([⟨-30,20⟩],[nd0]):=by kernel_rfl
theorem rest_1 :TF f1 (LP1,[List.replicate 71 ([]:List Node),[nd1,[],[],[],[],[],[],[],[],[],nd1,[],[],[],[],[],[],[],[],[],nd1]]) ([⟨1,0⟩],80000000,0) FUEL [] [] 0=some ([⟨-60,40⟩],[nd1]):=by kernel_rfl
theorem row_0 :YS f0 3 4 [⟨-30,20⟩] [nd0]=some (pt0,0):=by kernel_rfl
theorem row_1 :YS f1 3 4 [⟨-60,40⟩] [nd1]=some (pt1,0):=by kernel_rfl
theorem vol_0 :RU sl0=some 21600000:=by kernel_rfl
theorem vol_1 :RU sl1=some 21600000:=by kernel_rfl
theorem whole_0 :RD sl0 f0=some 21600000:=by kernel_rfl
theorem whole_1 :RD sl1 f1=some 21600000:=by kernel_rfl
theorem short_0 :PB ⟨[],[]⟩ c25 w25 r25 200 2=some (⟨0,⟨⟨⟨0,0⟩,⟨0,0⟩⟩,[]⟩,0⟩,3):=by kernel_rfl
end Go.SL.Saw

namespace Go.SL.Saw
theorem cut_0 :yG LP0=some ([⟨0,0⟩],80000000,0):=by kernel_rfl
end Go.SL.Saw

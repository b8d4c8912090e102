/- Scan's plain mathematics, part 10: turning; ScanTurns. -/
import Derived.Test.YthbamnkheinbgaaGreatDoorSMa12
set_option linter.unusedVariables false
set_option linter.unusedSimpArgs false
namespace Go.SL
namespace Saw
theorem qHQ {α β:Type} (N:Nat) (L:Nat->List α->Int->Option β) (f:Nat->α) (z:α) (out:List α->β) (hN:N<=1000000000)
  (h0:∀n x l,x<N->l.length=N->L (n+1) l (x:Int)=L n (l.set x (f x)) ((x+1:Nat):Int))
  (h1:∀n l,l.length=N->L (n+1) l (N:Int)=some (out l)):L FUEL (List.replicate N z) 0=some (out ((List.range N).map f)):=by
 have h:=OM N L (λx _=>ZP f z N (x+1)) out (λx l=>l=ZP f z N x) 0 (by omega) hN (λn x l hx hi=>by
   subst hi;exact⟨by rw[h0 n x _ hx (qBj f z N x),partF_set],rfl⟩) (λn l hi=>h1 n l (by rw[hi,qBj])) (ZP f z N 0) rfl
 obtain⟨e1,e2⟩:=h;rw[e2,qIC,qJX] at e1;exact e1
theorem qQG {α β:Type} (N:Nat) (L:Nat->List α->Int->Option β) (f:Nat->α) (out:List α->β) (hN:N<=1000000000)
  (h0:∀n x l,x<N->l.length=x->L (n+1) l (x:Int)=L n (l++[f x]) ((x+1:Nat):Int))
  (h1:∀n l,l.length=N->L (n+1) l (N:Int)=some (out l)):L FUEL [] 0=some (out ((List.range N).map f)):=by
 have h:=OM N L (λx l=>l++[f x]) out (λx l=>l=(List.range x).map f) 0 (by omega) hN (λn x l hx hi=>⟨h0 n x l hx (by rw[hi];simp),by
   rw[hi,List.range_succ,List.map_append];rfl⟩) (λn l hi=>h1 n l (by rw[hi];simp)) [] rfl
 obtain⟨e1,e2⟩:=h;rw[e2] at e1;exact e1
def qLa (t:Int×Int×Int×Int):Int×Int×Int×Int:=(w64 (0-t.2.2.2),w64 (0-t.2.2.1),t.1,t.2.1)
def qFD (q:Nat) (d:qF):Int×Int×Int×Int:=FT (λ_ t=>qLa t) 0 q (d.Box.X.A,d.Box.X.B,d.Box.Y.A,d.Box.Y.B)
def jT (q:Nat) (d:qF):qF:=qF.mk d.Kind (Box.mk (Span.mk (qFD q d).1 (qFD q d).2.1) (Span.mk (qFD q d).2.2.1 (qFD q d).2.2.2) d.Box.Z)
theorem qQE (l:List qF) (r:Int) (q:Nat) (hq:q<4) (e:Int.tmod (w64 (Int.tmod r 4+4)) 4=(q:Int)) (x:Nat):jL l r x FUEL 0 (l.getD x dd).Box.X.A (l.getD x dd).Box.X.B (l.getD x dd).Box.Y.A (l.getD x dd).Box.Y.B=some (jT q (l.getD x dd)):=by
 have k:=(OM q (λn (t:Int×Int×Int×Int) i=>jL l r x n i t.1 t.2.1 t.2.2.1 t.2.2.2) (λ_ t=>qLa t) (λt=>qF.mk (l.getD x dd).Kind (Box.mk (Span.mk t.1 t.2.1) (Span.mk t.2.2.1 t.2.2.2) (l.getD x dd).Box.Z)) (λ_ _=>True) 0 (by omega) (by omega) (λn i t hi _=>⟨by
   show jL l r x (n+1) (i:Int) t.1 t.2.1 t.2.2.1 t.2.2.2=_;rw[jL,e,ke (by omega),zM (by omega)];rfl,trivial⟩) (λn t _=>by
   show jL l r x (n+1) (q:Int) t.1 t.2.1 t.2.2.1 t.2.2.2=_;rw[jL,e,kf (by omega),ks];rfl) ((l.getD x dd).Box.X.A,(l.getD x dd).Box.X.B,(l.getD x dd).Box.Y.A,(l.getD x dd).Box.Y.B) trivial).1
 exact k
theorem qRl (l:List qF) (r:Int) (q:Nat) (hq:q<4) (e:Int.tmod (w64 (Int.tmod r 4+4)) 4=(q:Int)) (x:Nat):QF l r x FUEL 0 (l.getD x dd).Box.X.A (l.getD x dd).Box.X.B (l.getD x dd).Box.Y.A (l.getD x dd).Box.Y.B (l.getD x dd).Box.Z.A (l.getD x dd).Box.Z.B=some (jT q (l.getD x dd)):=by
 have k:=(OM q (λn (t:Int×Int×Int×Int) i=>QF l r x n i t.1 t.2.1 t.2.2.1 t.2.2.2 (l.getD x dd).Box.Z.A (l.getD x dd).Box.Z.B) (λ_ t=>qLa t) (λt=>qF.mk (l.getD x dd).Kind (Box.mk (Span.mk t.1 t.2.1) (Span.mk t.2.2.1 t.2.2.2) (l.getD x dd).Box.Z)) (λ_ _=>True) 0 (by omega) (by omega) (λn i t hi _=>⟨by
   show QF l r x (n+1) (i:Int) t.1 t.2.1 t.2.2.1 t.2.2.2 _ _=_;rw[QF,SP,e];simp only[kd];rw[ke (by omega),zM (by omega)];rfl,trivial⟩) (λn t _=>by
   show QF l r x (n+1) (q:Int) t.1 t.2.1 t.2.2.1 t.2.2.2 _ _=_;rw[QF,SP,e];simp only[kd];rw[kf (by omega),ks];rfl) ((l.getD x dd).Box.X.A,(l.getD x dd).Box.X.B,(l.getD x dd).Box.Y.A,(l.getD x dd).Box.Y.B) trivial).1
 exact k
def qLI (q:Nat) (l:List qF):List qF:=(List.range l.length).map (λx=>jT q (l.getD x dd))
theorem qRd (l:List qF) (r:Int) (q:Nat) (hq:q<4) (e:Int.tmod (w64 (Int.tmod r 4+4)) 4=(q:Int)) (h:VM l=0):DL l r=some (qLI q l)/\qH1 l r=some (qLI q l):=by
 have hl:=((VP _).1 h).1;unfold DL qH1;rw[qLF,qPH,h,qIz (by omega) (by omega),ks];have L1:=qHQ l.length (λn t i=>yF l r n t i) (λx=>jT q (l.getD x dd)) (qF.mk 0 (Box.mk (Span.mk 0 0) (Span.mk 0 0) (Span.mk 0 0))) id (by omega) (λn x t hx ht=>by
   show yF l r (n+1) t (x:Int)=_;rw[yF,ke (by omega),qY (by omega),ks,qQE l r q hq e x,qY (by omega),zM (by omega)];rfl) (λn t ht=>by
   show yF l r (n+1) t _=_;rw[yF,kf (by omega)];rfl)
 have L2:=qQG l.length (λn t i=>ZX l r n t i) (λx=>jT q (l.getD x dd)) id (by omega) (λn x t hx ht=>by
   show ZX l r (n+1) t (x:Int)=_;rw[ZX,ke (by omega),qY (by omega),ks,qRl l r q hq e x,WD (by omega),zM (by omega)];rfl) (λn t ht=>by
   show ZX l r (n+1) t _=_;rw[ZX,kf (by omega)];rfl)
 simp only[kd,kP,ku,ko];rw[L1,L2];exact⟨rfl,rfl⟩
theorem qN0 (a:List qA) (i:Nat):(a.map ng).getD i dd=ng (a.getD i dd):=by
 by_cases h:i<a.length
 ·exact qAc ng a h
 ·rw[ka,ka,uW (by simpa using h),uW (by omega)];rfl
theorem term_ng (p q:qA):term (ng p) (ng q)=term p q:=by unfold term ng;grind
theorem qLR (a:List qA):∀(m x:Nat) (c:Int),TC (a.map ng) x m c=TC a x m c
 |0,_,_=>rfl
 |m+1,x,c=>by
  rw[TC,TC,ul,qN0,qN0,term_ng,qLR a m]
theorem qDc (p:qA):inRange (ng p)=inRange p:=by
 rw[Bool.eq_iff_iff,RS,RS];unfold ng;simp only;omega
theorem chk_ng (a:List qA):chk (a.map ng)=chk a:=by
 unfold chk area;rw[ul,qLR,List.all_map];have e:(inRange∘ng)=inRange:=funext λp=>qDc p;rw[e]
theorem chk_ok {a:List qA} (h:chk a=0):a.length<=32/\a.all inRange=true:=by
 unfold chk at h;by_cases h1:(a.length:Int)<3
 ·rw[ke h1] at h;exact absurd h (show¬((3:Int)=0) by decide)
 rw[kf h1] at h;by_cases h2:(a.length:Int)>32
 ·rw[ke h2] at h;exact absurd h (show¬((4:Int)=0) by decide)
 rw[kf h2] at h;refine⟨by omega,?_⟩;cases hr:a.all inRange with
 |true=>rfl
 |false=>rw[hr] at h;exact absurd h (show¬((9:Int)=0) by decide)
theorem qO7 (a:List qA):(a.map ng).map ng=a:=by
 rw[gU];exact(List.map_congr_left λp _=>qHX p).trans (List.map_id a)
theorem qHA {a:List qA} (hl:a.length<=32) (hr:a.all inRange=true) (h:hull a≠[]):hull (a.map ng)≠[]:=λhn=>by
 have hc:=UC h;have n3:=hc.n3;have hz:∀p q r:qA,p∈a.map ng->q∈a.map ng->r∈a.map ng->cross p q r=0:=λp q r hp hq hr'=>qRi (a:=a.map ng) (by rw[ul];exact hl) (by rw[List.all_map,show(inRange∘ng)=inRange from funext λp=>qDc p];exact hr) hn hp hq hr';have ht:=hc.tn 0 (by omega);have m:∀i,i<(hull a).length->Ep (hull a) i∈a:=λi hi=>HF (zU hi);have q:=hz (ng (Ep (hull a) 0)) (ng (Eq' (hull a) 0)) (ng (Ep (hull a) ((0+2) % (hull a).length))) (ui.2 ⟨_,m 0 (by omega),rfl⟩) (ui.2 ⟨_,m ((0+1) % (hull a).length) (kJ _ (by omega)),rfl⟩) (ui.2 ⟨_,m ((0+2) % (hull a).length) (kJ _ (by omega)),rfl⟩)
 rw[UK] at q;omega
theorem qN9 {a:List qA} (h:hull a≠[]) (X y:Int):inH (hull a) X y↔∀al be c:Int,(∀q∈a,0<=lin al be c q)->0<=lin al be c ⟨X,y⟩:=by
 constructor
 ·intro hi al be c hq;exact qC2 (UC h) hi (λp hp=>hq p (HF hp))
 ·intro hl j hj;rw[qJT];refine hl _ _ _ (λq hq=>?_);rw[<-qJT];exact qOs hj hq
theorem qLs (al be c:Int) (p:qA):lin al be c (ng p)=lin (-al) (-be) c p:=by unfold lin ng;grind
theorem qEl {a:List qA} (h:hull a≠[]) (h':hull (a.map ng)≠[]) (X y:Int):inH (hull (a.map ng)) X y↔inH (hull a) (-X) (-y):=by
 rw[qN9 h,qN9 h'];have e:∀al be c:Int,lin al be c ⟨-X,-y⟩=lin (-al) (-be) c ⟨X,y⟩:=λal be c=>qLs al be c ⟨X,y⟩;constructor
 ·intro hl al be c hq;rw[e];refine hl _ _ _ (λq hq'=>?_);obtain⟨p,hp,rfl⟩:=ui.1 hq';rw[qLs,gN,gN];exact hq p hp
 ·intro hl al be c hq;have:=hl (-al) (-be) c (λq hq'=>by
   rw[<-qLs];exact hq _ (ui.2 ⟨q,hq',rfl⟩))
  rw[e,gN,gN] at this;exact this
theorem qQJ {a:List qA} (hl:a.length<=32) (hr:a.all inRange=true) (lo hi:Int):zH (a.map ng) lo hi=negS (zH a (-hi) (-lo)):=by
 have hl':(a.map ng).length<=32:=by rw[ul];exact hl
 have hr':(a.map ng).all inRange=true:=by rw[List.all_map,show(inRange∘ng)=inRange from funext λp=>qDc p];exact hr
 rcases chord_spec (a.map ng) lo hi with⟨e1,n1⟩|⟨h1,l1,s1,i1⟩
 ·rcases chord_spec a (-hi) (-lo) with⟨e2,n2⟩|⟨h2,l2,s2,i2⟩
  ·rw[e1,e2];rfl
  ·exfalso;have h1:=qHA hl hr h2;refine n1 (-(zH a (-hi) (-lo)).B) h1 (by omega) ?_;simp only[qEl h2 h1];have k1:=(i2 (zH a (-hi) (-lo)).B).1 ⟨by omega,kZ _⟩;have k2:=(i2 ((zH a (-hi) (-lo)).B-1)).1 ⟨by omega,by omega⟩;rw[gN,show-(-(zH a (-hi) (-lo)).B+1)=(zH a (-hi) (-lo)).B-1 by omega];exact⟨k1.2,k1.1,k2.2,k2.1⟩
 ·have h2:hull a≠[]:=by
   have:=qHA hl' hr' h1;rw[qO7] at this;exact this
  rcases chord_spec a (-hi) (-lo) with⟨e2,n2⟩|⟨_,l2,s2,i2⟩
  ·exfalso;refine n2 (-(zH (a.map ng) lo hi).B) h2 (by omega) ?_;have k1:=(i1 (zH (a.map ng) lo hi).B).1 ⟨by omega,kZ _⟩;have k2:=(i1 ((zH (a.map ng) lo hi).B-1)).1 ⟨by omega,by omega⟩;rw[qEl h2 h1,qEl h2 h1] at k1 k2;rw[show-((zH (a.map ng) lo hi).B-1)= -(zH (a.map ng) lo hi).B+1 by omega] at k2;exact⟨k1.2,k1.1,k2.2,k2.1⟩
  ·have k:∀X,((zH (a.map ng) lo hi).A<=X/\X<=(zH (a.map ng) lo hi).B)↔((zH a (-hi) (-lo)).A<=-X/\-X<=(zH a (-hi) (-lo)).B):=λX=>by
    rw[i1,i2,qEl h2 h1,qEl h2 h1];exact and_comm
   have a1:=(k (zH (a.map ng) lo hi).A).1 ⟨kZ _,by omega⟩;have a2:=(k (zH (a.map ng) lo hi).B).1 ⟨by omega,kZ _⟩;have a3:=(k (-(zH a (-hi) (-lo)).A)).2 (by rw[gN];exact⟨kZ _,by omega⟩);have a4:=(k (-(zH a (-hi) (-lo)).B)).2 (by rw[gN];exact⟨by omega,kZ _⟩);have e:∀s t:Span,s.A=t.A->s.B=t.B->s=t:=λs t h1 h2=>by cases s;cases t;simp only at h1 h2;rw[h1,h2]
   refine e _ _ ?_ ?_
   ·show _= -(zH a (-hi) (-lo)).B;omega
   ·show _= -(zH a (-hi) (-lo)).A;omega
noncomputable def fmS (s:qB):qB:=ON (mirS s)
theorem BK {s:qB} (h:VS s):VS (fmS s):=VS_flip (qLQ h)
theorem CM {s:qB} (h:VS s) (r:Int):row (fmS s) r=negS (row s (-r-1)):=by
 unfold fmS;rw[qLL (qLQ h),qOt h]
theorem fm_fm {s:qB} (h:VS s):fmS (fmS s)=s:=by
 refine RX (BK (BK h)).toTrim h.toTrim (λr=>?_);rw[CM (BK h),CM h,neg_neg]
 congr 1;omega
theorem qMM {s:qB} (h:VS s) (hn:s.Rows=[]):s=nilS:=RX h.toTrim FV.toTrim (λr=>by
 have e:∀t:qB,t.Rows=[]->row t r=⟨0,0⟩:=λt ht=>by
  unfold row;split
  ·rfl
  ·rw[ht];rfl
 rw[e s hn,e nilS rfl])
theorem qP7 :fmS nilS=nilS:=RX (BK FV).toTrim FV.toTrim (λr=>by
 have e:∀r,row nilS r=⟨0,0⟩:=λr=>by
  unfold row;split
  ·rfl
  ·rfl
 rw[CM FV,e,e];rfl)
theorem qFy {s:qB} (h:VS s):(fmS s).Rows=[]↔s.Rows=[]:=by
 constructor
 ·intro hn;have:=qMM (BK h) hn;have e:=fm_fm h;rw[this,qP7] at e;rw[<-e];rfl
 ·intro hn;rw[qMM h hn,qP7];rfl
theorem of_ng {p:List qA} (hl:p.length<=32) (hr:p.all inRange=true):ofS (p.map ng)=fmS (ofS p):=by
 refine RX (qCz _).toTrim (BK (qCz p)).toTrim (λr=>?_);rw[qQg,CM (qCz p),qQg];by_cases h: -60<=r/\r<60
 ·rw[if_pos h,if_pos (by omega),qQJ hl hr,show-(10*(r+1))=10*(-r-1) by omega,show-(10*r)=10*(-r-1+1) by omega]
 ·rw[if_neg h,if_neg (by omega)];rfl
theorem qPy (p:List qA):((ofR (p.map ng)).2=0↔(ofR p).2=0)/\(chk p=0->(ofR p).2=0->(ofR (p.map ng)).1=fmS (ofR p).1):=by
 unfold ofR;rw[chk_ng];by_cases hc:chk p=0
 ·obtain⟨hl,hr⟩:=chk_ok hc;rw[if_pos hc,if_pos hc,of_ng hl hr];by_cases h:(ofS p).Rows=[]
  ·rw[if_pos h,if_pos ((qFy (qCz p)).2 h)];exact⟨Iff.rfl,λ_ q=>absurd q (show¬((18:Int)=0) by decide)⟩
  ·rw[if_neg h,if_neg (λq=>h ((qFy (qCz p)).1 q))];refine⟨Iff.rfl,λ_ _=>?_⟩;simp only
 ·rw[if_neg hc,if_neg hc];exact⟨Iff.rfl,λq=>absurd q hc⟩
theorem mxS_neg (x y:Span):mxS (negS x) (negS y)=negS (mxS x y):=by
 unfold mxS negS;simp only;have i1:=qCH (-x.B) (-y.B);have i2:=qCe x.B y.B;have i3:=qCe (-x.A) (-y.A);have i4:=qCH x.A y.A;have e1:imax (-x.B) (-y.B)= -imin x.B y.B:=by omega
 have e2:imin (-x.A) (-y.A)= -imax x.A y.A:=by omega
 rw[e1,e2]
theorem qQF (x:Span):nrm (negS x)=negS (nrm x):=by
 unfold nrm;have e:empS (negS x)=empS x:=by
  unfold empS negS;rw[Bool.eq_iff_iff,decide_eq_true_eq,decide_eq_true_eq];simp only;omega
 rw[e];cases empS x<;>rfl
theorem meet_fm {a b:qB} (ha:VS a) (hb:VS b):VU (fmS a) (fmS b)=fmS (VU a b):=by
 refine RX (qFC (BK ha) (BK hb)).toTrim (BK (qFC ha hb)).toTrim (λr=>?_);rw[qL1 (BK ha) (BK hb),CM ha,CM hb,CM (qFC ha hb),qL1 ha hb,mxS_neg,qQF]
theorem qCs {d:qF} (h:VD d):jT 1 d=qF.mk d.Kind (Box.mk ⟨-d.Box.Y.B,-d.Box.Y.A⟩ d.Box.X d.Box.Z):=by
 have x:=h.x;have y:=h.y;unfold jT qFD;simp only[FT,qLa];rw[qR (by omega),qR (by omega),Int.zero_sub,Int.zero_sub]
theorem VD_1 {d:qF} (h:VD d):VD (jT 1 d):=by
 have x:=h.x;have y:=h.y;rw[qCs h];exact⟨h.k1,h.k2,by simp only;omega,x,h.z⟩
theorem qBa (d:qF) (q:Nat):jT (q+1) d=jT 1 (jT q d):=by
 unfold jT qFD;rw[qHp];rfl
theorem qOm (d:qF):jT 0 d=d:=rfl
theorem qOp {d:qF} (h:VD d):∀q,VD (jT q d)
 |0=>by rw[qOm];exact h
 |q+1=>by rw[qBa];exact VD_1 (qOp h q)
theorem turnD_4 {d:qF} (h:VD d):jT 3 (jT 1 d)=d:=by
 have h1:=VD_1 h;have h2:=VD_1 h1;have h3:=VD_1 h2;have e:jT 3 (jT 1 d)=jT 1 (jT 1 (jT 1 (jT 1 d))):=by rw[qBa _ 2,qBa _ 1,qBa _ 0,qOm]
 rw[e,qCs h3,qCs h2,qCs h1,qCs h];obtain⟨k,⟨xa,xb⟩,⟨ya,yb⟩,⟨za,zb⟩⟩:=d;simp
theorem qLx {α β:Type} [Inhabited α] (l:List α) (f:α->β):(List.range l.length).map (λi=>f (l.getD i dd))=l.map f:=by
 refine gw (by simp) λi h1 h2=>?_;simp only[ul,ur] at h1;simp only[List.getElem_map,List.getElem_range];rw[ka,ki h1];rfl
def turnS (q:Nat) (s:Scan):Scan:=Scan.mk (s.Rings.map (jF q)) (s.Defects.map (jT q))
theorem qGU (s:Scan) (v:V15 s) (r:Int) (q:Nat) (hq:q<4) (e:Int.tmod (w64 (Int.tmod r 4+4)) 4=(q:Int)):UG s r=some (turnS q s):=by
 unfold UG;rw[qDb];have hc:=(chk15_zero s).2 v;have v24:=v.many;obtain⟨k1,_⟩:=qRd s.Defects r q hq e v.def13;simp only[kd];rw[hc,qIz (by omega) (by omega),ks,k1];have L1:=qHQ s.Rings.length (λn t i=>ZL s r n i t) (λx=>jF q (s.Rings.getD x dd)) (Ring.mk 0 ([]:List qD)) id (by omega) (λn x t hx ht=>by
   show ZL s r (n+1) (x:Int) t=_;rw[ZL,ke (by omega),qY (by omega),ks,qLm (s.Rings.getD x dd) r (v.good x hx) q hq e,qY (by omega),zM (by omega)];rfl) (λn t ht=>by
   show ZL s r (n+1) _ t=_;rw[ZL,kf (by omega)];rfl)
 simp only[kd,kP,ku,ko];rw[L1];simp only[kd,id];rw[qLx s.Rings (jF q)];unfold qLI;rw[qLx s.Defects (jT q)];rfl
theorem rgs_turn (q:Nat) (s:Scan) {i:Nat} (h:i<s.Rings.length):rgs (turnS q s) i=jF q (rgs s i):=by
 unfold rgs turnS;simp only;rw[ka,ka,kD,ki h];rfl
theorem qM0 {s:Scan} (v:V15 s) (q:Nat):V15 (turnS q s):=by
 have v2:=v.two;have hn:(turnS q s).Rings.length=s.Rings.length:=by simp[turnS]
 have d:=(VP _).1 v.def13;refine⟨by rw[hn];exact v.two,by rw[hn];exact v.many,λx hx=>?_,?_,λx h0 hx=>?_,λx hx=>?_,?_,λe he=>?_⟩
 ·rw[hn] at hx;rw[rgs_turn q s hx];exact rg_turned_good q _ (v.good x hx)
 ·rw[rgs_turn q s (by omega)];exact v.zero
 ·rw[hn] at hx;rw[rgs_turn q s hx,rgs_turn q s (by omega)];exact v.up x h0 hx
 ·rw[hn] at hx;rw[rgs_turn q s hx,rgs_turn q s (by omega),jK,jK];exact v.same x hx
 ·refine(VP _).2 ⟨by show(s.Defects.map (jT q)).length<=64;rw[ul];exact d.1,λe he=>?_⟩;obtain⟨f,hf,rfl⟩:=ui.1 he;exact qOp (d.2 f hf) q
 ·obtain⟨f,hf,rfl⟩:=ui.1 he;have e1:endZ (turnS q s)=endZ s:=by unfold endZ;rw[hn,rgs_turn q s (by omega)];rfl
  rw[e1];exact v.ends f hf
theorem qQa {s:Scan} (v:V15 s):turnS 3 (turnS 1 s)=s:=by
 have d:=(VP _).1 v.def13;unfold turnS;simp only[gU];obtain⟨rs,ds⟩:=s
 congr 1
 ·refine(List.map_congr_left λr _=>?_).trans (List.map_id rs);exact qIU 1 3 (by decide) (by decide) (by decide) r
 ·refine(List.map_congr_left λx hx=>?_).trans (List.map_id ds);exact turnD_4 (d.2 x hx)
theorem qKR (a:Ring) (g:wM a) (ho:∀j,j<a.Read.length->rg_okAt a j=true):rg_canFill a 0=true:=by
 have hm:rg_meas a=List.range a.Read.length:=by
  unfold rg_meas;exact List.filter_eq_self.2 (λj hj=>ho j (uu.1 hj))
 have lo:=g.lo;unfold rg_canFill;rw[hm,ur,kf (by omega),kf (by omega)];rfl
theorem qOn (s:Scan) (i:Nat) (g:wM (rgs s i)) (ho:∀j,j<(rgs s i).Read.length->rg_okAt (rgs s i) j=true):secI s (-1) 0 i=ofR (ptsR (rgs s i)):=by
 unfold secI secR;have e:rg_cleaned (rgs s i) (-1)=rgs s i:=by unfold rg_cleaned;rfl
 rw[e,qKR _ g ho,qOY _ g ho];rfl
theorem qRb (a:Ring):ptsR (jF 2 a)=(ptsR a).map ng:=by
 unfold ptsR jF;simp only[gU];rfl
theorem qQD (x:List Span) (h:x.length<=1000000):ZG x x=some true:=by
 unfold ZG;have L:wP x x FUEL 0=some (findN (λ_=>(none:Option Bool)) 0 x.length):=by
  refine WH x.length (wP x x) _ 0 (by omega) (by omega) (λn i _ hi=>?_) (λn=>?_)
  ·rw[wP,ke (by omega),qY (by omega)];simp only[ko,ku,gh,Bool.and_self,kV,zM (show i<4611686018427387904 by omega)]
  ·rw[wP,kf (by omega)];rfl
 rw[wK.2 (λ_ _ _=>rfl)] at L;simp only[kP,ku,L,kd,Sum.elim_inr]
theorem qGD (x:qB) (h:VS x):wF x=some x:=by
 unfold wF;rw[(qGL x).1,(chk10_zero x).2 h];rfl
theorem qO4 (x:qB) (h:VS x):PY x x=some true:=by
 unfold PY;rw[qGD x h];have:=h.len;simp only[kd,gh,ko,qQD x.Rows (by omega),PW]
theorem qG5 (s:Scan):JC s=some true:=by
 unfold JC;rcases whole_eq s with e|⟨e,hf,v,ho⟩
 ·rw[e,OY];rfl
 have v1:=qM0 v 1;have v2:=qM0 v 2;have n2:(turnS 2 s).Rings.length=s.Rings.length:=by simp[turnS]
 have two:=v.two;have many:=v.many;rw[e,qGU s v 1 1 (by decide) (by decide)];simp only[kd,kV,ku];rw[qDb,(chk15_zero _).2 v1];simp only[kd,kP,ku];rw[qGU _ v1 3 3 (by decide) (by decide),qQa v];simp only[kd];rw[show Scan.mk s.Rings s.Defects=s from rfl,qIZ s (qP3 hf)];simp only[kd,kV,JL,ku];rw[qMw,qGU s v 2 2 (by decide) (by decide)];simp only[kd];rw[qMw];simp only[kd];have ok2:∀i,i<s.Rings.length->∀j,j<(rgs (turnS 2 s) i).Read.length->rg_okAt (rgs (turnS 2 s) i) j=true:=λi hi j hj=>by
  rw[rgs_turn 2 s hi,jK] at hj;rw[rgs_turn 2 s hi,qJv];exact ho i hi j hj
 have g2:∀i,i<s.Rings.length->wM (rgs (turnS 2 s) i):=λi hi=>v2.good i (by rw[n2];exact hi);have sA:∀i,i<s.Rings.length->secI s (-1) 0 i=ofR (ptsR (rgs s i)):=λi hi=>qOn s i (v.good i hi) (ho i hi);have sB:∀i,i<s.Rings.length->secI (turnS 2 s) (-1) 0 i=ofR ((ptsR (rgs s i)).map ng):=λi hi=>by
  rw[qOn _ i (g2 i hi) (ok2 i hi),rgs_turn 2 s hi,qRb]
 have z:∀i,i<s.Rings.length->((secI (turnS 2 s) (-1) 0 i).2=0↔(secI s (-1) 0 i).2=0):=λi hi=>by
  rw[sA i hi,sB i hi];exact(qPy _).1
 have fm:∀i,i<s.Rings.length->(secI s (-1) 0 i).2=0->(secI (turnS 2 s) (-1) 0 i).1=fmS (secI s (-1) 0 i).1:=λi hi h=>by
  rw[sA i hi] at h⊢;rw[sB i hi];refine(qPy _).2 ?_ h;refine Classical.byContradiction λhc=>?_;unfold ofR at h;rw[if_neg hc] at h;exact hc h
 have vs:∀i,VS (secI s (-1) 0 i).1:=λi=>qJC _ _ _;have me:(∀i,i<s.Rings.length->(secI s (-1) 0 i).2=0)->∀i,i<s.Rings.length-1->XO (turnS 2 s) (-1) 0 i=fmS (XO s (-1) 0 i):=λh i hi=>by
  unfold XO;rw[fm i (by omega) (h i (by omega)),fm (i+1) (by omega) (h (i+1) (by omega)),meet_fm (vs i) (vs (i+1))]
 have vm:∀i,VS (XO s (-1) 0 i):=λi=>qFC (vs i) (vs (i+1));have hN:∀t:Scan,((List.range (t.Rings.length-1)).map (slI t (-1) 0)).length=t.Rings.length-1:=λt=>by simp
 have fin:∀A B:List qT×Int,A=B->A.1=[]->jP A B false=some true:=λA B h h0=>by
  subst h;unfold jP;have L:zP A A FUEL 0=some (.inr ()):=by
   rw[show FUEL=4611686018427387903+1 from FUEL_eq,zP,h0];simp
  rw[L,OY];rfl
 rcases build15_cases s (-1) 0 ((chk15_zero s).2 v) with eA|⟨eA,a1,a2⟩
 ·rcases build15_cases (turnS 2 s) (-1) 0 ((chk15_zero _).2 v2) with eB|⟨eB,b1,b2⟩
  ·rw[eA,eB];simp only[kP,ku];exact fin _ _ rfl rfl
  ·exfalso;rw[n2] at b1 b2;have a1:∀i,i<s.Rings.length->(secI s (-1) 0 i).2=0:=λi hi=>(z i hi).1 (b1 i hi);have a2:∀i,i<s.Rings.length-1->(XO s (-1) 0 i).Rows≠[]:=λi hi q=>b2 i hi (by rw[me a1 i hi];exact(qFy (vm i)).2 q);unfold NK at eA;rw[if_neg (by simp[(chk15_zero s).2 v]),wK.2 (λi _ hi=>by unfold er1;rw[if_neg (by simp[a1 i (by omega)])])] at eA;simp only at eA;rw[wK.2 (λi _ hi=>by unfold er2;rw[if_neg (a2 i (by omega))])] at eA;simp at eA
 ·have b1:∀i,i<s.Rings.length->(secI (turnS 2 s) (-1) 0 i).2=0:=λi hi=>(z i hi).2 (a1 i hi);have b2:∀i,i<s.Rings.length-1->(XO (turnS 2 s) (-1) 0 i).Rows≠[]:=λi hi q=>a2 i hi ((qFy (vm i)).1 (by rw[<-me a1 i hi];exact q));have eB:NK (turnS 2 s) (-1) 0=((List.range ((turnS 2 s).Rings.length-1)).map (slI (turnS 2 s) (-1) 0),0):=by
   unfold NK;rw[if_neg (by simp[(chk15_zero _).2 v2]),wK.2 (λi _ hi=>by unfold er1;rw[n2] at hi;rw[if_neg (by simp[b1 i (by omega)])])];simp only;rw[wK.2 (λi _ hi=>by unfold er2;rw[n2] at hi;rw[if_neg (b2 i (by omega))])]
  rw[eA,eB];simp only[kP,ku];rw[hN s,hN (turnS 2 s),n2];simp only[kP,jP,ku];have L:zP ((List.range (s.Rings.length-1)).map (slI s (-1) 0),0) ((List.range (s.Rings.length-1)).map (slI (turnS 2 s) (-1) 0),0) FUEL 0=some (findN (λ_=>(none:Option Bool)) 0 (s.Rings.length-1)):=by
   have hB:((List.range (s.Rings.length-1)).map (slI (turnS 2 s) (-1) 0)).length=s.Rings.length-1:=by simp
   have gB:∀i,i<s.Rings.length-1->((List.range (s.Rings.length-1)).map (slI (turnS 2 s) (-1) 0)).getD i dd=slI (turnS 2 s) (-1) 0 i:=λi hi=>by
    rw[ka,kD,gf hi];rfl
   refine WH (s.Rings.length-1) (zP _ _) _ 0 (by omega) (by omega) (λn i _ hi=>?_) (λn=>?_)
   ·rw[zP];simp only;rw[hN s,hB,ke (by omega),qY (by omega),ks,slI_get s (-1) 0 hi,gB i hi];have lA:(slI s (-1) 0 i).Len=(rgs s (i+1)).Z-(rgs s i).Z:=rfl;have lB:(slI (turnS 2 s) (-1) 0 i).Len=(rgs s (i+1)).Z-(rgs s i).Z:=by
     show(rgs (turnS 2 s) (i+1)).Z-(rgs (turnS 2 s) i).Z=_;rw[rgs_turn 2 s (by omega),rgs_turn 2 s (by omega)];rfl
    have cA:(slI s (-1) 0 i).Sec=XO s (-1) 0 i:=rfl;have cB:(slI (turnS 2 s) (-1) 0 i).Sec=fmS (XO s (-1) 0 i):=me a1 i hi;rw[lA,lB,cA,cB];simp only[ko,kP,ku];rw[(qPD _).1,qDz (vm i)];simp only[kd];rw[show∀x:qB,qB.mk x.Low x.Rows=x from λ_=>rfl,(Flip_eq _).1,qDz (qLQ (vm i))];simp only[kd];rw[show∀x:qB,qB.mk x.Low x.Rows=x from λ_=>rfl,show ON (mirS (XO s (-1) 0 i))=fmS (XO s (-1) 0 i) by unfold fmS;rfl,qO4 _ (BK (vm i))];simp only[kd,kV,JP,ku,zM (show i<4611686018427387904 by omega)]
   ·rw[zP];simp only;rw[hN s,kf (by omega)];rfl
  rw[L,wK.2 (λ_ _ _=>rfl),OY];rfl
theorem qHF (s:Scan) {P:Prop} (_:P):JC s=some true:=qG5 s
end Saw
end Go.SL

/- Scan's plain mathematics, part 8: ScanInside. -/
import Derived.Test.YtigmogcdifllhaaGreatDoorEMa12
import Derived.Test.YtigmogcdifllhaaGreatDoorEMod
set_option linter.unusedVariables false
set_option linter.unusedSimpArgs false
namespace Go.SL
namespace Saw
theorem qRU {α β:Type} (N:Nat) (L:Nat->List α->Int->Option β) (f:Nat->α) (z:α) (out:List α->β) (hN:N<=1000000000)
  (h0:∀n x l,x<N->l.length=N->L (n+1) l (x:Int)=L n (l.set x (f x)) ((x+1:Nat):Int))
  (h1:∀n l,l.length=N->L (n+1) l (N:Int)=some (out l)):L FUEL (List.replicate N z) 0=some (out ((List.range N).map f)):=by
 have h:=MC N L (λx _=>YD f z N (x+1)) out (λx l=>l=YD f z N x) 0 (by omega) hN (λn x l hx hi=>by
   subst hi;exact⟨by rw[h0 n x _ hx (qHL f z N x),partF_set],rfl⟩) (λn l hi=>h1 n l (by rw[hi,qHL])) (YD f z N 0) rfl
 obtain⟨e1,e2⟩:=h;rw[e2,qQU,qTS] at e1;exact e1
theorem qW8 {α β:Type} (N:Nat) (L:Nat->List α->Int->Option β) (f:Nat->α) (out:List α->β) (hN:N<=1000000000)
  (h0:∀n x l,x<N->l.length=x->L (n+1) l (x:Int)=L n (l++[f x]) ((x+1:Nat):Int))
  (h1:∀n l,l.length=N->L (n+1) l (N:Int)=some (out l)):L FUEL [] 0=some (out ((List.range N).map f)):=by
 have h:=MC N L (λx l=>l++[f x]) out (λx l=>l=(List.range x).map f) 0 (by omega) hN (λn x l hx hi=>⟨h0 n x l hx (by rw[hi];simp),by
   rw[hi,List.range_succ,List.map_append];rfl⟩) (λn l hi=>h1 n l (by rw[hi];simp)) [] rfl
 obtain⟨e1,e2⟩:=h;rw[e2] at e1;exact e1
def stepB (t:Int×Int×Int×Int):Int×Int×Int×Int:=(w64 (0-t.2.2.2),w64 (0-t.2.2.1),t.1,t.2.1)
def qVS (q:Nat) (d:qH):Int×Int×Int×Int:=qJT (λ_ t=>stepB t) 0 q (d.Box.X.A,d.Box.X.B,d.Box.Y.A,d.Box.Y.B)
def qR7 (q:Nat) (d:qH):qH:=qH.mk d.Kind (Box.mk (Span.mk (qVS q d).1 (qVS q d).2.1) (Span.mk (qVS q d).2.2.1 (qVS q d).2.2.2) d.Box.Z)
theorem q2O (l:List qH) (r:Int) (q:Nat) (hq:q<4) (e:Int.tmod (w64 (Int.tmod r 4+4)) 4=(q:Int)) (x:Nat):QB l r x FUEL 0 (l.getD x dd).Box.X.A (l.getD x dd).Box.X.B (l.getD x dd).Box.Y.A (l.getD x dd).Box.Y.B=some (qR7 q (l.getD x dd)):=by
 have k:=(MC q (λn (t:Int×Int×Int×Int) i=>QB l r x n i t.1 t.2.1 t.2.2.1 t.2.2.2) (λ_ t=>stepB t) (λt=>qH.mk (l.getD x dd).Kind (Box.mk (Span.mk t.1 t.2.1) (Span.mk t.2.2.1 t.2.2.2) (l.getD x dd).Box.Z)) (λ_ _=>True) 0 (by omega) (by omega) (λn i t hi _=>⟨by
   show QB l r x (n+1) (i:Int) t.1 t.2.1 t.2.2.1 t.2.2.2=_;rw[QB,e,kf (by omega),wE (by omega)];rfl,trivial⟩) (λn t _=>by
   show QB l r x (n+1) (q:Int) t.1 t.2.1 t.2.2.1 t.2.2.2=_;rw[QB,e,kg (by omega),kr];rfl) ((l.getD x dd).Box.X.A,(l.getD x dd).Box.X.B,(l.getD x dd).Box.Y.A,(l.getD x dd).Box.Y.B) trivial).1
 exact k
theorem q2G (l:List qH) (r:Int) (q:Nat) (hq:q<4) (e:Int.tmod (w64 (Int.tmod r 4+4)) 4=(q:Int)) (x:Nat):QZ l r x FUEL 0 (l.getD x dd).Box.X.A (l.getD x dd).Box.X.B (l.getD x dd).Box.Y.A (l.getD x dd).Box.Y.B (l.getD x dd).Box.Z.A (l.getD x dd).Box.Z.B=some (qR7 q (l.getD x dd)):=by
 have k:=(MC q (λn (t:Int×Int×Int×Int) i=>QZ l r x n i t.1 t.2.1 t.2.2.1 t.2.2.2 (l.getD x dd).Box.Z.A (l.getD x dd).Box.Z.B) (λ_ t=>stepB t) (λt=>qH.mk (l.getD x dd).Kind (Box.mk (Span.mk t.1 t.2.1) (Span.mk t.2.2.1 t.2.2.2) (l.getD x dd).Box.Z)) (λ_ _=>True) 0 (by omega) (by omega) (λn i t hi _=>⟨by
   show QZ l r x (n+1) (i:Int) t.1 t.2.1 t.2.2.1 t.2.2.2 _ _=_;rw[QZ,JI,e];simp only[ke];rw[kf (by omega),wE (by omega)];rfl,trivial⟩) (λn t _=>by
   show QZ l r x (n+1) (q:Int) t.1 t.2.1 t.2.2.1 t.2.2.2 _ _=_;rw[QZ,JI,e];simp only[ke];rw[kg (by omega),kr];rfl) ((l.getD x dd).Box.X.A,(l.getD x dd).Box.X.B,(l.getD x dd).Box.Y.A,(l.getD x dd).Box.Y.B) trivial).1
 exact k
def qIU (q:Nat) (l:List qH):List qH:=(List.range l.length).map (λx=>qR7 q (l.getD x dd))
theorem q2B (l:List qH) (r:Int) (q:Nat) (hq:q<4) (e:Int.tmod (w64 (Int.tmod r 4+4)) 4=(q:Int)) (h:VK l=0):EH l r=some (qIU q l)/\CX l r=some (qIU q l):=by
 have hl:=((MU _).1 h).1;unfold EH CX;rw[qWl,qTP,h,qQq (by omega) (by omega),kr];have L1:=qRU l.length (λn t i=>ZP l r n t i) (λx=>qR7 q (l.getD x dd)) (qH.mk 0 (Box.mk (Span.mk 0 0) (Span.mk 0 0) (Span.mk 0 0))) id (by omega) (λn x t hx ht=>by
   show ZP l r (n+1) t (x:Int)=_;rw[ZP,kf (by omega),zT (by omega),kr,q2O l r q hq e x,zT (by omega),wE (by omega)];rfl) (λn t ht=>by
   show ZP l r (n+1) t _=_;rw[ZP,kg (by omega)];rfl)
 have L2:=qW8 l.length (λn t i=>WJ l r n t i) (λx=>qR7 q (l.getD x dd)) id (by omega) (λn x t hx ht=>by
   show WJ l r (n+1) t (x:Int)=_;rw[WJ,kf (by omega),zT (by omega),kr,q2G l r q hq e x,QI (by omega),wE (by omega)];rfl) (λn t ht=>by
   show WJ l r (n+1) t _=_;rw[WJ,kg (by omega)];rfl)
 simp only[ke,kL,ku,ko];rw[L1,L2];exact⟨rfl,rfl⟩
theorem q0n (q:Nat) (l:List qH):(qIU q l).length=l.length:=by simp[qIU]
def qGk (s:Scan) (r:Int):List Ring:=(List.range s.Rings.length).map (λx=>(jY (rgs s x) r).getD dd)
theorem qO4 (s:Scan) (r:Int) (x:Nat) (h:(rgs s x).Read.length<=1000):jY (s.Rings.getD x dd) r=some ((jY (rgs s x) r).getD dd)/\XJ (s.Rings.getD x dd) r=some ((jY (rgs s x) r).getD dd)/\((jY (rgs s x) r).getD dd).Read.length=(rgs s x).Read.length:=by
 obtain⟨b,e1,e2,e3⟩:=qVE (rgs s x) r h;rw[e1];exact⟨e1,e2,e3⟩
theorem clone15 (s:Scan) (h:qJg s):qA4 s=some s:=by
 have hr:=h.r;have hd:=h.d;unfold qA4 RC jM;rw[QI (by omega),QI (by omega)];simp only[ko,ke];have L:=(MC s.Rings.length (λn l i=>QX s.Rings n i l) (λ_ l=>l) id (λ_ l=>l=s.Rings) 0 (by omega) (by omega) (λn x l hx hi=>⟨by
   subst hi;show QX s.Rings (n+1) (x:Int) s.Rings=_;have hp:(s.Rings.getD x dd).Read.length<=1000000:=h.p x hx;rw[QX,kf (by omega),zT (by omega),kr,yI,QI (by omega),wE (by omega)];simp only[ko,ke];rw[show s.Rings.set x (Ring.mk (s.Rings.getD x dd).Z (s.Rings.getD x dd).Read)=s.Rings from by
    refine gx (by simp) λj h1 h2=>?_;by_cases hj:x=j
    ·subst hj;rw[List.getElem_set_self,ka,kp hx];rfl
    ·rw[List.getElem_set_ne hj]],hi⟩) (λn l hi=>by
   show QX s.Rings (n+1) _ l=_;rw[QX,kg (by omega)];rfl) s.Rings rfl)
 obtain⟨e1,e2⟩:=L;rw[e2] at e1;have e1':QX s.Rings FUEL 0 s.Rings=some s.Rings:=e1;rw[e1'];rfl
theorem turns15 (s:Scan) (r:Int) (h:qJg s):∃t,FR s r=some t/\LZ s r=some t/\qJg t:=by
 unfold FR LZ;rw[qYc,qUp];simp only[ke];by_cases hc:¬XL s=0
 ·rw[show(XL s !=0)=true from gb.2 hc,clone15 s h];exact⟨s,rfl,rfl,h⟩
 have hc:XL s=0:=Classical.not_not.1 hc;have v:=(qAr s).1 hc;have v24:=v.many;have d64:=((MU _).1 v.def13).1;obtain⟨q,hq,e⟩:=q0D r;obtain⟨k1,k2⟩:=q2B s.Defects r q hq e v.def13;rw[hc,qQq (by omega) (by omega),kr,k1,k2];have L1:=qRU s.Rings.length (λn t i=>JV s r n i t) (λx=>(jY (rgs s x) r).getD dd) (Ring.mk 0 ([]:List qL)) id (by omega) (λn x t hx ht=>by
   show JV s r (n+1) (x:Int) t=_;have:=(v.good x hx).hi;rw[JV,kf (by omega),zT (by omega),kr,(qO4 s r x (by omega)).1,zT (by omega),wE (by omega)];rfl) (λn t ht=>by
   show JV s r (n+1) _ t=_;rw[JV,kg (by omega)];rfl)
 have L2:=qW8 s.Rings.length (λn t i=>WI s r n i t) (λx=>(jY (rgs s x) r).getD dd) id (by omega) (λn x t hx ht=>by
   show WI s r (n+1) (x:Int) t=_;have:=(v.good x hx).hi;rw[WI,kf (by omega),zT (by omega),kr,(qO4 s r x (by omega)).2.1,QI (by omega),wE (by omega)];rfl) (λn t ht=>by
   show WI s r (n+1) _ t=_;rw[WI,kg (by omega)];rfl)
 simp only[ke,kL,ku,ko];rw[L1,L2];refine⟨Scan.mk (qGk s r) (qIU q s.Defects),rfl,rfl,?_,?_,λi hi=>?_⟩
 ·show(qGk s r).length<=_;simp only[qGk,uO,uj];omega
 ·show(qIU q s.Defects).length<=_;rw[q0n];omega
 ·have hi':i<s.Rings.length:=by
   have:i<(qGk s r).length:=hi;simpa[qGk] using this
  show((qGk s r).getD i dd).Read.length<=_;have g:=(v.good i hi').hi;unfold qGk;rw[ka,kF,gf hi'];show((jY (rgs s i) r).getD dd).Read.length<=_;rw[(qO4 s r i (by omega)).2.2];omega
noncomputable def UY (t:Scan) (l m:Int):List qM×List qH×Int:=if(WF t l m).2≠0 then([],[],(WF t l m).2) else((WF t l m).1,t.Defects,0)
theorem qZb (s:Scan) (l m:Int):(WF s l m).1.length<=1000000:=by
 unfold WF;by_cases hc:XL s≠0
 ·rw[if_pos hc];simp
 ·rw[if_neg hc];have v:=((qAr s).1 (Classical.not_not.1 hc)).many;cases hf:findN (er1 s l m) 0 s.Rings.length with
  |inl e=>
   obtain⟨i,_,_,he,_⟩:=RK hf;unfold er1 at he;split at he
   ·cases he;simp
   ·cases he
  |inr u=>
   simp only;cases hf:findN (er2 s l m) 0 (s.Rings.length-1) with
   |inl e=>
    obtain⟨i,_,_,he,_⟩:=RK hf;unfold er2 at he;split at he
    ·cases he;simp
    ·cases he
   |inr u=>simp only[uO,uj];omega
theorem qXy (s:Scan) (l m:Int) (j:Nat) (hj:j<(WF s l m).1.length):((WF s l m).1.getD j dd).Sec.Rows.length<=1000000:=by
 unfold WF at hj⊢;by_cases hc:XL s≠0
 ·rw[if_pos hc] at hj;simp at hj
 ·rw[if_neg hc] at hj⊢;have v:=((qAr s).1 (Classical.not_not.1 hc)).many;cases hf:findN (er1 s l m) 0 s.Rings.length with
  |inl e=>
   obtain⟨i,_,_,he,_⟩:=RK hf;unfold er1 at he;split at he
   ·cases he;rw[hf] at hj;simp at hj
   ·cases he
  |inr u=>
   rw[hf] at hj;simp only at hj⊢;cases hf:findN (er2 s l m) 0 (s.Rings.length-1) with
   |inl e=>
    obtain⟨i,_,_,he,_⟩:=RK hf;unfold er2 at he;split at he
    ·cases he;rw[hf] at hj;simp at hj
    ·cases he
   |inr u=>
    rw[hf] at hj;simp only[uO,uj] at hj⊢;rw[ka,kF,gf hj];have:=(VS_meet (show VS (secI s l m j).1 from qME _ _ _) (show VS (secI s l m (j+1)).1 from qME _ _ _)).len;show(qCQ (secI s l m j).1 (secI s l m (j+1)).1).Rows.length<=1000000;omega
theorem qVv {ε:Type} (N:Nat) (L:Nat->Int->Option (ε⊕Unit)) (bad:Nat->Option ε) (hN:N<=9223372036854775807)
  (h0:∀n i,i<N->L (n+1) (i:Int)=match bad i with|some e=>some (.inl e)|none=>L n ((i+1:Nat):Int))
  (h1:∀n,L (n+1) (N:Int)=some (.inr ())):L FUEL 0=some (findN bad 0 N):=by
 have k:=FN N (λn (_:Unit) i=>L n i) (λi _=>match bad i with|some e=>(.inl e:ε⊕Unit)|none=> .inr ()) (λr=>r) (λ_ _=>True)
  (λn i s hi _=>by
   have h:=h0 n i hi;cases hb:bad i with
   |some e=>simp only;rw[h,hb]
   |none=>simp only;rw[h,hb];exact⟨rfl,trivial⟩)
  (λn s _=>h1 n) FUEL 0 () (by rw[FUEL_eq];omega) (kS _) trivial
 exact k.trans (congrArg some (qMc bad N 0))
def qIq (s:Scan) (i:Nat):Option Bool:=if 100<(rgs s i).Read.length then some false else none
theorem q1X (s:Scan) (h:s.Rings.length<=9223372036854775807):∃b,qDj s=some b/\(b=true->qJg s):=by
 unfold qDj;have L:KK s FUEL 0=some (findN (qIq s) 0 s.Rings.length):=by
  refine qVv s.Rings.length (KK s) (qIq s) h (λn i hi=>?_) (λn=>?_)
  ·rw[KK,kf (by omega),zT (by omega),zK (by omega)];simp only[ko,kr];unfold qIq rgs;by_cases c:100<(s.Rings.getD i dd).Read.length
   ·rw[if_pos c,kf (by omega)];rfl
   ·rw[if_neg c,kg (by omega)];rfl
  ·rw[KK,kg (by omega)];rfl
 rw[L];simp only[ke];cases hf:findN (qIq s) 0 s.Rings.length with
 |inl e=>
  obtain⟨i,_,_,h5,_⟩:=RK hf;unfold qIq at h5;split at h5
  ·cases h5;exact⟨false,rfl,λq=>by cases q⟩
  ·cases h5
 |inr u=>
  have hn:=VJ.1 hf;by_cases h1:s.Rings.length<=60
  ·by_cases h2:s.Defects.length<=70
   ·refine⟨true,by simp only[Sum.elim_inr];rw[kf (by omega),kf (by omega)];rfl,λ_=>⟨by omega,by omega,λi hi=>?_⟩⟩;have:=hn i (by omega) (by omega);unfold qIq at this;split at this
    ·cases this
    ·omega
   ·exact⟨false,by simp only[Sum.elim_inr];rw[kf (by omega),kg (show¬(s.Defects.length:Int)<=70 by omega)];rfl,λq=>by cases q⟩
  ·exact⟨false,by simp only[Sum.elim_inr];rw[kg (by omega)];rfl,λq=>by cases q⟩
theorem qP4 (x:List Span) (h:x.length<=1000000):MZ x x=some true:=by
 unfold MZ;have L:YN x x FUEL 0=some (findN (λ_=>(none:Option Bool)) 0 x.length):=by
  refine qE0 x.length (YN x x) _ 0 (by omega) (by omega) (λn i _ hi=>?_) (λn=>?_)
  ·rw[YN,kf (by omega),zT (by omega)];simp only[ko,ku,gv,Bool.and_self,kZ,wE (show i<4611686018427387904 by omega)]
  ·rw[YN,kg (by omega)];rfl
 rw[VJ.2 (λ_ _ _=>rfl)] at L;simp only[kL,ku,L,ke,Sum.elim_inr]
theorem qS4 (t:List qM) (hl:t.length<=1000000) (h:∀j,j<t.length->(t.getD j dd).Sec.Rows.length<=1000000):RG t t=some true:=by
 have L3:wL [⟨t,[]⟩] [⟨t,[]⟩] 0 FUEL 0=some (findN (λ_=>(none:Option Bool)) 0 t.length):=by
  refine qE0 t.length (wL [⟨t,[]⟩] [⟨t,[]⟩] 0) _ 0 (by omega) (by omega) (λn i _ hi=>?_) (λn=>?_)
  ·rw[wL];show(bif decide ((i:Int)<(t.length:Int)) then bif inb (i:Int) t.length then bif inb (i:Int) t.length then bif (t.getD (i:Int).toNat dd).Len !=(t.getD (i:Int).toNat dd).Len then _ else bif (t.getD (i:Int).toNat dd).Sec.Low !=(t.getD (i:Int).toNat dd).Sec.Low then _ else(MZ (t.getD (i:Int).toNat dd).Sec.Rows (t.getD (i:Int).toNat dd).Sec.Rows).bind _ else none else none else _)=_;rw[kf (by omega),zT (by omega),kr,qP4 _ (h i hi)];simp only[ko,ku,kL,ke,JO,kZ,wE (show i<4611686018427387904 by omega)]
  ·rw[wL];show(bif decide ((t.length:Int)<(t.length:Int)) then _ else _)=_;rw[kg (by omega)];rfl
 rw[VJ.2 (λ_ _ _=>rfl)] at L3;have k2:∀r,ZI [⟨t,[]⟩] [⟨t,[]⟩] 0 r false=r 1:=λr=>by
  unfold ZI;rw[L3];rfl
 unfold RG NA;have L1:jH [⟨t,[]⟩] [⟨t,[]⟩] FUEL 0=some (.inr ()):=by
  rw[show FUEL=9223372036854775806+1+1 from FUEL_eq,jH];show(VP [] []).bind (λv8=>bif !v8 then _ else ZI [⟨t,[]⟩] [⟨t,[]⟩] 0 _ ((t.length:Int) !=(t.length:Int)))=_;rw[qHg [] (by simp)];simp only[ke,kZ,ku,kL,k2];rw[jH];rfl
 rw[L1];rfl
theorem q2q {s t:Scan} (l m q:Int) (h:FR s q=some t) (ht:qJg t):jT s q l m=some (UY t l m):=by
 unfold jT UY;rw[h];have hd:=ht.d;simp only[ke,q2m,jM];rw[QI (by omega)];simp only[ko,ke];by_cases c:(WF t l m).2=0
 ·rw[c];rfl
 ·rw[if_pos c,show((WF t l m).2 !=0)=true from gb.2 c];rfl
theorem q1u {s t:Scan} (l m q:Int) (h:LZ s q=some t):EU s q l m=some (UY t l m):=by
 unfold EU UY;rw[h];simp only[ke,q0H];by_cases c:(WF t l m).2=0
 ·rw[c];rfl
 ·rw[if_pos c,show((WF t l m).2 !=0)=true from gb.2 c];rfl
theorem qYJ (t:Scan) (l m:Int):(UY t l m).1.length<=1000000:=by
 unfold UY;split
 ·simp
 ·exact qZb t l m
theorem qW2 (t:Scan) (l m:Int) (j:Nat) (hj:j<(UY t l m).1.length):((UY t l m).1.getD j dd).Sec.Rows.length<=1000000:=by
 unfold UY at hj⊢;split at hj
 ·simp at hj
 ·rename_i c;rw[if_neg c];exact qXy t l m j hj
theorem qYM {t:Scan} (ht:qJg t) (l m:Int):(UY t l m).2.1.length<=1000000:=by
 unfold UY;split
 ·simp
 ·exact ht.d
theorem qSm (aw:TB=some true) (a:XT) (q:Int) (h:a.Scan.Rings.length<=9223372036854775807):XG a q=some true:=by
 unfold XG;obtain⟨b,e,hb⟩:=q1X a.Scan h;rw[e];simp only[ke];cases b with
 |false=>simp only[gJ,ko,aw,ke]
 |true=>
  obtain⟨t,e1,e2,ht⟩:=turns15 a.Scan q (hb rfl);rw[q2q _ _ _ e1 ht,q1u _ _ _ e2];simp only[kZ,ku,ke,qS4 _ (qYJ _ _ _) (qW2 _ _ _),ko,qHg _ (qYM ht _ _),gv,aw,yX]
end Saw
end Go.SL

namespace Go.SL.Saw
def bm :Scan:=⟨[⟨0,[⟨⟨60,30⟩,true⟩,⟨⟨0,30⟩,true⟩,⟨⟨-60,30⟩,true⟩,⟨⟨-60,0⟩,true⟩,⟨⟨-60,-30⟩,true⟩,⟨⟨0,-30⟩,true⟩,⟨⟨60,-30⟩,true⟩,⟨⟨60,0⟩,true⟩]⟩,⟨3000,[⟨⟨60,30⟩,true⟩,⟨⟨0,30⟩,true⟩,⟨⟨-60,30⟩,true⟩,⟨⟨-60,0⟩,true⟩,⟨⟨-60,-30⟩,true⟩,⟨⟨0,-30⟩,true⟩,⟨⟨60,-30⟩,true⟩,⟨⟨60,0⟩,true⟩]⟩],[]⟩
def sl0 :List qM:=[⟨3000,⟨-3,[⟨-60,60⟩,⟨-60,60⟩,⟨-60,60⟩,⟨-60,60⟩,⟨-60,60⟩,⟨-60,60⟩]⟩⟩]
def sl1 :List qM:=[⟨3000,⟨-6,[⟨-30,30⟩,⟨-30,30⟩,⟨-30,30⟩,⟨-30,30⟩,⟨-30,30⟩,⟨-30,30⟩,⟨-30,30⟩,⟨-30,30⟩,⟨-30,30⟩,⟨-30,30⟩,⟨-30,30⟩,⟨-30,30⟩]⟩⟩]
def f0 :Rect:=⟨⟨-60,60⟩,⟨-30,30⟩⟩
def f1 :Rect:=⟨⟨-30,30⟩,⟨-60,60⟩⟩
def c25 :List qK:=[⟨ByteArray.mk #[112,108,97,110,107],50,100,0,0,[3000],[80]⟩]
def w25 :Saw:=⟨4,0,10,1000⟩
def r25 :Rates:=⟨0,0,0⟩
def nd0 :List Node:=[⟨2,40⟩,⟨1,0⟩,⟨0,0⟩]
def nd1 :List Node:=[⟨2,20⟩,⟨1,0⟩,⟨0,0⟩]
def z60 :List Int:=List.replicate 60 0
def z120 :List Int:=List.replicate 120 0
def g0r :List Int:=[80000000,-1,-1,-1,-1,-1,-1,-1,-1,-1,80000000]
def g1r :List Int:=[80000000,-1,-1,-1,-1,-1,-1,-1,-1,-1,80000000,-1,-1,-1,-1,-1,-1,-1,-1,-1,80000000]
def LP0 :Line:=⟨60,4,1,[50,100],[g0r,[]],z60,z60⟩
def LP1 :Line:=⟨120,4,1,[50,100],[List.replicate 71 (-1),g1r],z120,z120⟩
def pt0 :List Node:=[⟨3,20⟩,⟨2,40⟩,⟨1,0⟩,⟨0,0⟩,⟨0,0⟩]
def pt1 :List Node:=[⟨3,40⟩,⟨2,20⟩,⟨1,0⟩,⟨0,0⟩,⟨0,0⟩]
theorem beam_eq :GK=some bm:=by kernel_rfl
end Go.SL.Saw

namespace Go.SL.Saw
theorem place_0 :jT bm 0 200 2=some (sl0,[],0):=by kernel_rfl
theorem qZJ :jT bm 1 200 2=some (sl1,[],0):=by kernel_rfl
theorem place_2 :jT bm 2 200 2=some (sl0,[],0):=by kernel_rfl
theorem place_3 :jT bm 3 200 2=some (sl1,[],0):=by kernel_rfl
theorem fr_0 :HQ sl0=some f0:=by kernel_rfl
theorem fr_1 :HQ sl1=some f1:=by kernel_rfl
theorem ck_0 :MQ sl0 [] c25 f0 w25 r25=some 0:=by kernel_rfl
theorem ck_1 :MQ sl1 [] c25 f1 w25 r25=some 0:=by kernel_rfl
theorem rest_0 :UX f0 (LP0,[[nd0,[],[],[],[],[],[],[],[],[],nd0],[]]) ([⟨0,0⟩],80000000,0) FUEL [] [] 0=some ([⟨-30,20⟩],[nd0]):=by kernel_rfl
theorem rest_1 :UX f1 (LP1,[List.replicate 71 ([]:List Node),[nd1,[],[],[],[],[],[],[],[],[],nd1,[],[],[],[],[],[],[],[],[],nd1]]) ([⟨1,0⟩],80000000,0) FUEL [] [] 0=some ([⟨-60,40⟩],[nd1]):=by kernel_rfl
theorem row_0 :XS f0 3 4 [⟨-30,20⟩] [nd0]=some (pt0,0):=by kernel_rfl
theorem row_1 :XS f1 3 4 [⟨-60,40⟩] [nd1]=some (pt1,0):=by kernel_rfl
theorem vol_0 :TY sl0=some 21600000:=by kernel_rfl
theorem vol_1 :TY sl1=some 21600000:=by kernel_rfl
theorem whole_0 :TE sl0 f0=some 21600000:=by kernel_rfl
theorem whole_1 :TE sl1 f1=some 21600000:=by kernel_rfl
theorem short_0 :RD ⟨[],[]⟩ c25 w25 r25 200 2=some (⟨0,⟨⟨⟨0,0⟩,⟨0,0⟩⟩,[]⟩,0⟩,3):=by kernel_rfl
end Go.SL.Saw

namespace Go.SL.Saw
theorem cut_0 :yT LP0=some ([⟨0,0⟩],80000000,0):=by kernel_rfl
end Go.SL.Saw

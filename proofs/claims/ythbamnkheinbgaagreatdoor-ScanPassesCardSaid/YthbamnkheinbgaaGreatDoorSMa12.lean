/- Scan's plain mathematics, part 6: sameness; merging; ScanMerges. -/
import Derived.Test.YthbamnkheinbgaaGreatDoorSMa11
set_option linter.unusedVariables false
set_option linter.unusedSimpArgs false
namespace Go.SL
namespace Saw
structure qIs (s:Scan):Prop where
 r:s.Rings.length<=1000000
 d:s.Defects.length<=1000000
 p:∀i,i<s.Rings.length->(rgs s i).Read.length<=1000000
theorem qIa {s:Scan} (h:fewB s=true):qIs s:=by
 obtain⟨h1,h2,h3⟩:=qJa h;exact⟨by omega,by omega,λi hi=>by have:=h3 i hi;omega⟩
theorem qI4 (x:List qB) (h:x.length<=1000000):jF x x=some true:=by
 unfold jF;have L:zK x x FUEL 0=some (findN (λ_=>(none:Option Bool)) 0 x.length):=by
  refine ZT x.length (zK x x) _ 0 (by omega) (by omega) (λn i _ hi=>?_) (λn=>?_)
  ·rw[zK,ku (by omega),QY (by omega)];simp only[kr,kq,uT,Bool.and_self,ur,JR (show i<4611686018427387904 by omega)]
  ·rw[zK,kp (by omega)];rfl
 rw[wO.2 (λ_ _ _=>rfl)] at L;simp only[kJ,kq,L,ks,Sum.elim_inr]
theorem qJg (x:List qD) (h:x.length<=1000000):jK x x=some true:=by
 unfold jK;have L:zP x x FUEL 0=some (findN (λ_=>(none:Option Bool)) 0 x.length):=by
  refine ZT x.length (zP x x) _ 0 (by omega) (by omega) (λn i _ hi=>?_) (λn=>?_)
  ·rw[zP,ku (by omega),QY (by omega)];simp only[kr,kq,uT,Bool.and_self,ur,JR (show i<4611686018427387904 by omega)]
  ·rw[zP,kp (by omega)];rfl
 rw[wO.2 (λ_ _ _=>rfl)] at L;simp only[kJ,kq,L,ks,Sum.elim_inr]
theorem qDF (s:Scan) (h:qIs s):JC s s=some true:=by
 have hr:=h.r;unfold JC yI;have L:zJ s.Rings s.Rings FUEL 0=some (findN (λ_=>(none:Option Bool)) 0 s.Rings.length):=by
  refine ZT s.Rings.length (zJ s.Rings s.Rings) _ 0 (by omega) (by omega) (λn i _ hi=>?_) (λn=>?_)
  ·rw[zJ,ku (by omega),QY (by omega)];simp only[kr,kq,GZ,uT,kH,qI4 _ (show(s.Rings.getD i dd).Read.length<=1000000 from h.p i hi),ks,KF,ur,JR (show i<4611686018427387904 by omega)]
  ·rw[zJ,kp (by omega)];rfl
 rw[wO.2 (λ_ _ _=>rfl)] at L;simp only[kJ,kq,kr,L,ks,Sum.elim_inr,qJg _ h.d,UR]
def fitB (a b:Ring):Bool:=decide (a.Z=b.Z/\a.Read.length=b.Read.length)
theorem qCQ (a b:Ring) (ga:WQ a) (gb:WQ b):yH a b=some (bif fitB a b then(zM a b,0) else(⟨0,[]⟩,19))/\SR a b=some (bif fitB a b then(zM a b,0) else(⟨0,[]⟩,19)):=by
 have e:yH a b=some (bif fitB a b then(zM a b,0) else(⟨0,[]⟩,19)):=by
  by_cases h:a.Z=b.Z/\a.Read.length=b.Read.length
  ·rw[show fitB a b=true from ku h,qF4 a b ⟨ga,gb,h.1,h.2⟩];rfl
  ·rw[show fitB a b=false from kp h];unfold yH ZI;simp only[PQ,ks,(QF a).2 ga,(QF b).2 gb,kJ,kq];by_cases hz:a.Z=b.Z
   ·have z2:((a.Read.length:Int) !=(b.Read.length:Int))=true:=uZ.2 (λq=>h ⟨hz,by omega⟩);have z1:(a.Z !=b.Z)=false:=by simp[hz]
    rw[z1,z2];rfl
   ·have z1:(a.Z !=b.Z)=true:=by simp[hz]
    rw[z1];rfl
 obtain⟨r,h1,h2,_⟩:=qDR a b;exact⟨e,by rw[h2,<-h1,e]⟩
def sameD (x y:qD):Bool:=(x.Kind==y.Kind&&((((x.Box.X.A==y.Box.X.A)&&((x.Box.X.B==y.Box.X.B)&&true))&&(((x.Box.Y.A==y.Box.Y.A)&&((x.Box.Y.B==y.Box.Y.B)&&true))&&(((x.Box.Z.A==y.Box.Z.A)&&((x.Box.Z.B==y.Box.Z.B)&&true))&&true)))&&true))
theorem TJ (x y:qD):sameD x y=true↔x=y:=by
 obtain⟨k,⟨xa,xb⟩,⟨ya,yb⟩,⟨za,zb⟩⟩:=x;obtain⟨k',⟨xa',xb'⟩,⟨ya',yb'⟩,⟨za',zb'⟩⟩:=y;simp only[sameD,Bool.and_true,kf,beq_iff_eq,qD.mk.injEq,Box.mk.injEq,Span.mk.injEq]
theorem qHv (x y:qD):sameD x y=sameD y x:=by
 rw[Bool.eq_iff_iff,TJ,TJ];exact eq_comm
def hasD (l:List qD) (d:qD):Bool:=l.any (λx=>sameD x d)
theorem qB0 {l:List qD} {d:qD}:hasD l d=true↔d∈l:=by
 unfold hasD;rw[uC];exact⟨fun⟨x,h1,h2⟩=>(TJ _ _).1 h2▸h1,λh=>⟨d,h,(TJ _ _).2 rfl⟩⟩
theorem hasD_eq (l:List qD) (d:qD) (hl:l.length<=1000000):qDM l d=some (hasD l d)/\wQ l d=some (hasD l d):=by
 have L1:QV l d FUEL 0=some (findN (λi=>if sameD (l.getD i dd) d=true then some true else none) 0 l.length):=by
  refine ZT l.length (QV l d) _ 0 (by omega) (by omega) (λn i _ hi=>?_) (λn=>?_)
  ·rw[QV,ku (by omega),QY (by omega)];simp only[kr,kH,JR (show i<4611686018427387904 by omega)];show(bif sameD (l.getD i dd) d then some (Sum.inl true) else QV l d n ((i+1:Nat):Int))=_;cases sameD (l.getD i dd) d<;>rfl
  ·rw[QV,kp (by omega)];rfl
 have L2:zI l d FUEL 0=some (findN (λi=>if sameD (l.getD i dd) d=true then some ((i:Nat):Int) else none) 0 l.length):=by
  refine ZT l.length (zI l d) _ 0 (by omega) (by omega) (λn i _ hi=>?_) (λn=>?_)
  ·rw[zI,ku (by omega),QY (by omega)];simp only[kr,kH,JR (show i<4611686018427387904 by omega)];show(bif sameD d (l.getD i dd) then some (Sum.inl ((i:Nat):Int)) else zI l d n ((i+1:Nat):Int))=_;rw[qHv d];cases sameD (l.getD i dd) d<;>rfl
  ·rw[zI,kp (by omega)];rfl
 unfold qDM wQ yZ;rw[L1,L2];cases h:hasD l d with
 |true=>
  obtain⟨i,hi,he⟩:=List.getElem_of_mem (qB0.1 h);have hd:sameD (l.getD i dd) d=true:=(TJ _ _).2 (by rw[ka,ki hi];exact he);constructor
  ·cases hf:findN (λi=>if sameD (l.getD i dd) d=true then some true else none) 0 l.length with
   |inl e=>
    obtain⟨j,_,_,hj,_⟩:=KN hf;split at hj
    ·cases hj;rfl
    ·cases hj
   |inr u=>have:=wO.1 hf i (by omega) (by omega);simp only[hd,if_true] at this;cases this
  ·cases hf:findN (λi=>if sameD (l.getD i dd) d=true then some ((i:Nat):Int) else none) 0 l.length with
   |inl e=>
    obtain⟨j,_,_,hj,_⟩:=KN hf;split at hj
    ·cases hj;simp only[ks,Sum.elim_inl];rw[ku (by omega)]
    ·cases hj
   |inr u=>have:=wO.1 hf i (by omega) (by omega);simp only[hd,if_true] at this;cases this
 |false=>
  have hn:∀i,i<l.length->sameD (l.getD i dd) d=false:=λi hi=>by
   cases hs:sameD (l.getD i dd) d with
   |false=>rfl
   |true=>exact absurd (qB0.2 ((TJ _ _).1 hs▸qHW hi)) (by rw[h];simp)
  constructor
  ·rw[wO.2 (λi _ hi=>by rw[hn i (by omega)];rfl)];rfl
  ·rw[wO.2 (λi _ hi=>by rw[hn i (by omega)];rfl)];rfl
def erM (s t:Scan) (x:Nat):Option (Scan×Int):=bif fitB (rgs s x) (rgs t x) then none else some (Scan.mk ([]:List Ring) ([]:List qD),19)
def QO (a b:List qD):List qD:=a++b.filter (λd=>!hasD a d)
def JX (s t:Scan):List Ring:=(List.range s.Rings.length).map (λx=>zM (rgs s x) (rgs t x))
def KR (s t:Scan):Scan×Int:=
 if yA s≠0 then(Scan.mk ([]:List Ring) ([]:List qD),yA s) else if yA t≠0 then(Scan.mk ([]:List Ring) ([]:List qD),yA t)
 else if s.Rings.length≠t.Rings.length then(Scan.mk ([]:List Ring) ([]:List qD),19)
 else match findN (erM s t) 0 s.Rings.length with
  | .inl e=>e
  | .inr _=>if 64<(QO s.Defects t.Defects).length then(Scan.mk ([]:List Ring) ([]:List qD),4) else(Scan.mk (JX s t) (QO s.Defects t.Defects),0)
theorem qAv {α:Type} (p:α->Bool):∀(b a:List α),b.foldl (λl d=>bif p d then l++[d] else l) a=a++b.filter p
 |[],a=>by simp
 |d::b,a=>by
  rw[List.foldl_cons,qAv p b];cases h:p d<;>simp[h]
theorem qGC (a b:List qD) (L:Nat->List qD->Int->Option (List qD)) (ha:a.length<=64) (hb:b.length<=64)
  (h0:∀n x l,x<b.length->l.length<=64+x->L (n+1) l (x:Int)=L n (bif !hasD a (b.getD x dd) then l++[b.getD x dd] else l) ((x+1:Nat):Int))
  (h1:∀n l,L (n+1) l (b.length:Int)=some l):L FUEL a 0=some (QO a b):=by
 have k:=(qH9 b L (λx=>(x:Int)) (λ_ d l=>bif !hasD a d then l++[d] else l) id (λx l=>l.length<=64+x) (by omega) (λn x l hx hi=>⟨h0 n x l hx hi,by
   cases !hasD a (b.getD x dd)
   ·simp only[kq];omega
   ·simp only[kr,kX,List.length_cons,List.length_nil];omega⟩) (λn l _=>h1 n l) (i:=0) rfl a (by simpa using ha)).1
 rw[qBh] at k;rw[k];have e:=qAv (λd=>!hasD a d) b a;exact congrArg some e
theorem qE2 (s t:Scan):KO s t=some (KR s t):=by
 unfold KO KR;rw[AN,AN];simp only[ks];by_cases hc:¬yA s=0
 ·rw[show(yA s !=0)=true from uZ.2 hc,if_pos hc];rfl
 have hc:yA s=0:=Classical.not_not.1 hc;rw[hc,if_neg (by simp)];by_cases hd:¬yA t=0
 ·rw[show(yA t !=0)=true from uZ.2 hd,if_pos hd];rfl
 have hd:yA t=0:=Classical.not_not.1 hd;rw[hd,if_neg (by simp)];simp only[kJ,kq];have v:=(KP s).1 hc;have w:=(KP t).1 hd;have v24:=v.many;have d1:=((ZU _).1 v.def13).1;have d2:=((ZU _).1 w.def13).1;by_cases hl:¬s.Rings.length=t.Rings.length
 ·rw[if_pos hl,show((s.Rings.length:Int) !=(t.Rings.length:Int))=true from uZ.2 (by omega)];rfl
 have hl:s.Rings.length=t.Rings.length:=Classical.not_not.1 hl;rw[if_neg (by simpa using hl),<-hl,mkOk_t (by omega) (by omega)];simp only[kJ,kq,kr];have L1:=qH2 s.Rings.length (λn l i=>jY s t n i l) (erM s t) (λx=>zM (rgs s x) (rgs t x)) (Ring.mk 0 ([]:List qB)) (by omega) (λn x l hx hll=>by
  show jY s t (n+1) (x:Int) l=_;rw[jY,ku (by omega),QY (by omega),QY (n:=t.Rings.length) (by omega)];simp only[kr,kH];rw[(qCQ (s.Rings.getD x dd) (t.Rings.getD x dd) (v.good x hx) (w.good x (by omega))).1];unfold erM rgs;cases fitB (s.Rings.getD x dd) (t.Rings.getD x dd) with
  |true=>simp only[kr,ks,kJ,kq];rw[QY (by omega),JR (by omega)];rfl
  |false=>rfl) (λn l hll=>by show jY s t (n+1) _ l=_;rw[jY,kp (by omega)];rfl)
 rw[show jQ s.Defects=some s.Defects by unfold jQ;rw[qIc (by omega)];rfl,kH];simp only[ks];rw[L1];simp only[ks];cases findN (erM s t) 0 s.Rings.length with
 |inl e=>rfl
 |inr u=>
  simp only[Sum.elim_inr];rw[qGC s.Defects t.Defects (λn l i=>wJ s t n i l) d1 d2 (λn x l hx hi=>by
   show wJ s t (n+1) (x:Int) l=_;rw[wJ,ku (by omega),QY (by omega),kH,(hasD_eq _ _ (by omega)).2];simp only[kr,ks,PX,JR (show x<4611686018427387904 by omega)];cases hasD s.Defects (t.Defects.getD x dd) with
   |true=>rfl
   |false=>rw[qIc (by omega)];rfl) (λn l=>by show wJ s t (n+1) _ l=_;rw[wJ,kp (by omega)];rfl)]
  simp only[ks];by_cases h64:64<(QO s.Defects t.Defects).length
  ·rw[if_pos h64,ku (by omega)];rfl
  ·rw[if_neg h64,kp (by omega)];rfl
theorem qIC {s t:Scan} {e:Scan×Int} (h:findN (erM s t) 0 s.Rings.length= .inl e):e=(Scan.mk ([]:List Ring) ([]:List qD),19):=by
 obtain⟨i,_,_,he,_⟩:=KN h;unfold erM at he;cases hf:fitB (rgs s i) (rgs t i)<;>rw[hf] at he<;>cases he;rfl
theorem AY (s t:Scan) {i:Nat} (h:i<s.Rings.length):(JX s t).getD i dd=zM (rgs s i) (rgs t i):=by
 unfold JX;rw[ka,kD,uD h];rfl
theorem KU (s t:Scan):(JX s t).length=s.Rings.length:=by simp[JX]
theorem qFz (a:Ring) (h:a.Read.length<=1000):∃L:Nat,wA a=some (((a.Read.length-(qM a).length:Nat):Int),(L:Int))/\L<=a.Read.length/\((qM a).length=0->L=a.Read.length)/\(1<=(qM a).length->(∀k,k<(qM a).length->rg_gap a k<=L)/\(L=0\/∃k,k<(qM a).length/\L=rg_gap a k)):=by
 obtain⟨L,hL,hle⟩:=qEv a h;refine⟨L,hL,hle,?_⟩;have hml:=qCR a;have h2:=hL;unfold wA at h2;rw[VW a h] at h2;simp only[ks,PI] at h2;by_cases hm:(qM a).length=0
 ·have:(((qM a).length:Int)==0)=true:=by simp[hm]
  rw[this,kr,wT (by omega) (by omega)] at h2;have:=kB h2;simp only[Prod.mk.injEq] at this;exact⟨λ_=>by omega,λq=>by omega⟩
 ·have:(((qM a).length:Int)==0)=false:=uE.2 (by omega);rw[this,kq] at h2;obtain⟨R,e,_,u,t⟩:=WL a h FUEL 0 0 (by rw[wM];omega) (by omega);have e':yJ a (yL (qM a)) FUEL 0 0=some (R:Int):=e;rw[e'] at h2;have:=kB h2;simp only[Prod.mk.injEq] at this;obtain rfl:R=L:=by omega
  exact⟨λq=>absurd q hm,λ_=>⟨λk hk=>u k (kM _) hk,t⟩⟩
theorem qD6 {a m:Ring} (hl:a.Read.length=m.Read.length) (h:a.Read.length<=1000) (hok:∀i,i<a.Read.length->rg_okAt a i=true->rg_okAt m i=true):∃x y u v:Int,wA m=some (x,y)/\wA a=some (u,v)/\x<=u/\y<=v:=by
 obtain⟨L,e,hL,z,g⟩:=qFz a h;obtain⟨M,e',hM,z',g'⟩:=qFz m (by omega);have hc:=qF1 hl hok;refine⟨_,_,_,_,e',e,by omega,?_⟩;by_cases hm:(qM a).length=0
 ·have:=z hm;omega
 ·obtain⟨u,_⟩:=g (by omega);rcases(g' (by omega)).2 with h0|⟨k,hk,h0⟩
  ·omega
  ·by_cases hM0:M=0
   ·omega
   ·have hn:∀d,1<=d->d<=M->rg_okAt a ((qT m k+d) % a.Read.length)=false:=λd h1 h2=>by
     cases ho:rg_okAt a ((qT m k+d) % a.Read.length) with
     |false=>rfl
     |true=>
      have h3:=hok _ (uc _ (by have:=(wC hk).1;omega)) ho;rw[hl,NQ hk h1 (by omega)] at h3;cases h3
    have hlt:(qT m k+1) % a.Read.length<a.Read.length:=uc _ (by have:=(wC hk).1;omega);obtain⟨j,d,hj,h1,h2,h3⟩:=qEc (a:=a) (by omega) hlt (hn 1 (by omega) (by omega));have hu:=u j hj;have hs:∀x,(qT a j+(d+x)) % a.Read.length=(qT m k+(1+x)) % a.Read.length:=λx=>by
     rw[<-um,<-Nat.mod_add_mod,h3,Nat.mod_add_mod,um]
    by_cases hq:M<=rg_gap a j+1-d
    ·omega
    ·have h4:=SO hj;rw[show rg_gap a j+1=d+(rg_gap a j+1-d) by omega,hs] at h4;have h5:=(wC (a:=a) (k:=(j+1) % (qM a).length) (uc _ (by omega))).2;rw[<-h4,hn _ (by omega) (by omega)] at h5;cases h5
theorem qBe (a b:Ring) {i:Nat} (hi:i<a.Read.length):rg_okAt (zM a b) i=(rg_okAt a i||rg_okAt b i):=by
 unfold rg_okAt;rw[PY a b hi];unfold XS;cases h:(a.Read.getD i dd).Ok with
 |true=>exact h
 |false=>rfl
theorem qGz (a:List qD):QO a a=a:=by
 unfold QO;rw[List.filter_eq_nil_iff.2 (λd hd=>by rw[qB0.2 hd];simp),uJ]
theorem qGF (s:Scan):JX s s=s.Rings:=by
 refine qIV (KU s s) (λj hj=>?_);rw[KU] at hj;rw[AY s s hj,qDl];rfl
theorem qFI (s:Scan):KR s s=if yA s≠0 then(Scan.mk ([]:List Ring) ([]:List qD),yA s) else(s,0):=by
 unfold KR;by_cases hc:yA s≠0
 ·rw[if_pos hc,if_pos hc]
 rw[if_neg hc,if_neg hc,if_neg hc,if_neg (by simp)];rw[wO.2 (λi _ _=>by unfold erM;rw[show fitB (rgs s i) (rgs s i)=true from ku ⟨rfl,rfl⟩];rfl)];have d:=((ZU _).1 ((KP s).1 (Classical.not_not.1 hc)).def13).1;simp only;rw[qGz,qGF,if_neg (by omega)]
theorem merge15_cases (s t:Scan):((KR s t).2≠0/\(KR s t).1=Scan.mk ([]:List Ring) ([]:List qD))\/
  (KR s t=(Scan.mk (JX s t) (QO s.Defects t.Defects),0)/\V15 s/\V15 t/\s.Rings.length=t.Rings.length/\(∀i,i<s.Rings.length->(rgs s i).Z=(rgs t i).Z/\(rgs s i).Read.length=(rgs t i).Read.length)/\(QO s.Defects t.Defects).length<=64):=by
 unfold KR;by_cases hc:yA s≠0
 ·rw[if_pos hc];exact .inl ⟨hc,rfl⟩
 rw[if_neg hc];by_cases hd:yA t≠0
 ·rw[if_pos hd];exact .inl ⟨hd,rfl⟩
 rw[if_neg hd];by_cases hl:s.Rings.length≠t.Rings.length
 ·rw[if_pos hl];exact .inl ⟨by decide,rfl⟩
 rw[if_neg hl];cases hf:findN (erM s t) 0 s.Rings.length with
 |inl e=>rw[qIC hf];exact .inl ⟨show(19:Int)≠0 by decide,rfl⟩
 |inr u=>
  simp only;by_cases h64:64<(QO s.Defects t.Defects).length
  ·rw[if_pos h64];exact .inl ⟨by decide,rfl⟩
  ·rw[if_neg h64];refine .inr ⟨rfl,(KP s).1 (Classical.not_not.1 hc),(KP t).1 (Classical.not_not.1 hd),Classical.not_not.1 hl,λi hi=>?_,by omega⟩;have h:=wO.1 hf i (by omega) (by omega);unfold erM at h;cases hb:fitB (rgs s i) (rgs t i) with
   |true=>exact kK hb
   |false=>rw[hb] at h;cases h
theorem qEL {s t:Scan} (v:V15 s) (w:V15 t) (hl:s.Rings.length=t.Rings.length) (hf:∀i,i<s.Rings.length->(rgs s i).Z=(rgs t i).Z/\(rgs s i).Read.length=(rgs t i).Read.length) (h64:(QO s.Defects t.Defects).length<=64):V15 (Scan.mk (JX s t) (QO s.Defects t.Defects)):=by
 have g:∀i,i<s.Rings.length->rgs (Scan.mk (JX s t) (QO s.Defects t.Defects)) i=zM (rgs s i) (rgs t i):=λi hi=>AY s t hi;have hn:(Scan.mk (JX s t) (QO s.Defects t.Defects)).Rings.length=s.Rings.length:=KU s t;have v2:=v.two;refine⟨by rw[hn];exact v.two,by rw[hn];exact v.many,λx hx=>?_,?_,λx h0 hx=>?_,λx hx=>?_,?_,λd hd=>?_⟩
 ·rw[hn] at hx;rw[g x hx];exact rg_merged_good _ _ ⟨v.good x hx,w.good x (by omega),(hf x hx).1,(hf x hx).2⟩
 ·rw[g 0 (by omega)];exact v.zero
 ·rw[hn] at hx;rw[g x hx,g (x-1) (by omega)];exact v.up x h0 hx
 ·rw[hn] at hx;rw[g x hx,g 0 (by omega),wY,wY];exact v.same x hx
 ·refine(ZU _).2 ⟨h64,λd hd=>?_⟩;rcases List.mem_append.1 hd with h|h
  ·exact((ZU _).1 v.def13).2 d h
  ·exact((ZU _).1 w.def13).2 d (uI.1 h).1
 ·have e1:endZ (Scan.mk (JX s t) (QO s.Defects t.Defects))=endZ s:=by
   unfold endZ;rw[hn,g _ (by omega)];rfl
  have e2:endZ s=endZ t:=by
   unfold endZ;rw[(hf _ (by omega)).1,hl]
  rw[e1];rcases List.mem_append.1 hd with h|h
  ·exact v.ends d h
  ·rw[e2];exact w.ends d (uI.1 h).1
theorem qBM (s t:Scan):QL s t=some true:=by
 unfold QL;rw[qGg,qGg];simp only[ks];have kT:wW s t true=some true:=by unfold wW;rw[LE];rfl
 cases h1:fewB s with
 |false=>exact kT
 |true=>
  simp only[ur,kq];cases h2:fewB t with
  |false=>exact kT
  |true=>
   have k2:wX s t false=some true:=by
    unfold wX;rw[qE2];simp only[kq,ks];rcases merge15_cases s t with⟨h3,h4⟩|⟨h3,v,w,hl,hf,h64⟩
    ·rw[show((KR s t).2 !=0)=true from uZ.2 h3,h4];simp only[LE,ks,ZA];rfl
    ·rw[h3];simp only[kJ,kq];rw[AN,(KP _).2 (qEL v w hl hf h64)];simp only[kJ,kq,ks,KU];rw[<-hl];simp only[kJ,yD,kq];have v24:=v.many;have L:zH s t (Scan.mk (JX s t) (QO s.Defects t.Defects),0) FUEL 0=some (findN (λ_=>(none:Option Bool)) 0 s.Rings.length):=by
      refine ZT s.Rings.length _ _ 0 (by omega) (by omega) (λn i _ hi=>?_) (λn=>?_)
      ·rw[zH];simp only[KU];rw[ku (by omega),QY (by omega),QY (n:=t.Rings.length) (by omega),kH,AY s t hi];have gi:=(v.good i hi).hi;have ml:=wY (rgs s i) (rgs t i);obtain⟨x,y,u,q,e1,e2,h5,h6⟩:=qD6 (a:=rgs s i) (m:=zM (rgs s i) (rgs t i)) ml.symm (by omega) (λj hj ho=>by rw[qBe _ _ hj,ho];rfl);obtain⟨x',y',u',q',e1',e2',h5',h6'⟩:=qD6 (a:=rgs t i) (m:=zM (rgs s i) (rgs t i)) (by rw[ml];exact(hf i hi).2.symm) (by have:=(hf i hi).2;omega) (λj hj ho=>by rw[qBe _ _ (by have:=(hf i hi).2;omega),ho,Bool.or_true]);rw[e1] at e1';cases e1'
       rw[e1,show wA (s.Rings.getD i dd)=some (u,q) from e2,show wA (t.Rings.getD i dd)=some (u',q') from e2'];simp only[ks,kr];rw[kp (by omega),kp (by omega),kp (by omega),kp (by omega)];simp only[kq,wV,JR (show i<4611686018427387904 by omega)]
      ·rw[zH];simp only[KU];rw[kp (by omega)];rfl
     rw[L,wO.2 (λ_ _ _=>rfl),LE];rfl
   unfold wW;rw[qE2,AN,qFI];simp only[ur,kq,ks];by_cases hc:yA s≠0
   ·rw[if_pos hc];simp only[kJ,kq];rw[show(yA s==0)=false from uE.2 hc];exact k2
   ·rw[if_neg hc];have hc':yA s=0:=Classical.not_not.1 hc;rw[hc'];simp only[kJ,kq,uT,kr];rw[qDF s (qIa h1)];exact k2
theorem qCj (s t:Scan) {P Q:Prop} (_:P) (_:Q):QL s t=some true:=qBM s t
end Saw
end Go.SL

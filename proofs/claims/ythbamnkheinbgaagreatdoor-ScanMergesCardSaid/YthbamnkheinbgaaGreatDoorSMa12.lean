/- Scan's plain mathematics, part 6: sameness; merging; ScanMerges. -/
import Derived.Test.YthbamnkheinbgaaGreatDoorSMa11
set_option linter.unusedVariables false
set_option linter.unusedSimpArgs false
namespace Go.SL
namespace Saw
structure qGX (s:Scan):Prop where
 r:s.Rings.length<=1000000
 d:s.Defects.length<=1000000
 p:∀i,i<s.Rings.length->(rgs s i).Read.length<=1000000
theorem BF :qGX (Scan.mk ([]:List Ring) ([]:List qA)):=⟨by simp,by simp,λi hi=>absurd hi (by simp)⟩
theorem qDI (x:Ring) (h:x.Read.length<=1000000):VB x x=some true:=by
 unfold VB;have L:yJ x x FUEL 0=some (findN (λ_=>(none:Option Bool)) 0 x.Read.length):=by
  refine JC x.Read.length (yJ x x) _ 0 (by omega) (by omega) (λn i _ hi=>?_) (λn=>?_)
  ·rw[yJ,kq (by omega),wM (by omega)];simp only[ks,ku,beq_self_eq_true,Bool.and_self,uA,yA (show i<4611686018427387904 by omega)]
  ·rw[yJ,ki (by omega)];rfl
 rw[jV.2 (λ_ _ _=>rfl)] at L;simp only[kJ,ku,RA,L,kr,Sum.elim_inr]
theorem qD0 (x:List qA) (h:x.length<=1000000):UQ x x=some true:=by
 unfold UQ;have L:yL x x FUEL 0=some (findN (λ_=>(none:Option Bool)) 0 x.length):=by
  refine JC x.length (yL x x) _ 0 (by omega) (by omega) (λn i _ hi=>?_) (λn=>?_)
  ·rw[yL,kq (by omega),wM (by omega)];simp only[ks,ku,beq_self_eq_true,Bool.and_self,uA,yA (show i<4611686018427387904 by omega)]
  ·rw[yL,ki (by omega)];rfl
 rw[jV.2 (λ_ _ _=>rfl)] at L;simp only[kJ,ku,L,kr,Sum.elim_inr]
theorem qDo (s:Scan) (h:qGX s):VC s s=some true:=by
 have hr:=h.r;unfold VC;have L:yI s s FUEL 0=some (findN (λ_=>(none:Option Bool)) 0 s.Rings.length):=by
  refine JC s.Rings.length (yI s s) _ 0 (by omega) (by omega) (λn i _ hi=>?_) (λn=>?_)
  ·rw[yI,kq (by omega),wM (by omega)];simp only[ks,ku,kI,qDI _ (show(s.Rings.getD i dd).Read.length<=1000000 from h.p i hi),kr,uA,yA (show i<4611686018427387904 by omega)]
  ·rw[yI,ki (by omega)];rfl
 rw[jV.2 (λ_ _ _=>rfl)] at L;simp only[kJ,ku,L,kr,Sum.elim_inr,qD0 _ h.d]
def fitB (a b:Ring):Bool:=decide (a.Z=b.Z/\a.Read.length=b.Read.length)
theorem SK (a b:Ring) (ga:KP a) (gb:KP b):jW a b=some (bif fitB a b then(zT a b,0) else(⟨0,[]⟩,19))/\YH a b=some (bif fitB a b then(zT a b,0) else(⟨0,[]⟩,19)):=by
 have e:jW a b=some (bif fitB a b then(zT a b,0) else(⟨0,[]⟩,19)):=by
  by_cases h:a.Z=b.Z/\a.Read.length=b.Read.length
  ·rw[show fitB a b=true from kq h,qGj a b ⟨ga,gb,h.1,h.2⟩];rfl
  ·rw[show fitB a b=false from ki h];unfold jW QZ;simp only[PS,kr,(QA a).2 ga,(QA b).2 gb,kJ,ku];by_cases hz:a.Z=b.Z
   ·have z2:((a.Read.length:Int) !=(b.Read.length:Int))=true:=ur.2 (λq=>h ⟨hz,by omega⟩);have z1:(a.Z !=b.Z)=false:=by simp[hz]
    rw[z1,z2];rfl
   ·have z1:(a.Z !=b.Z)=true:=by simp[hz]
    rw[z1];rfl
 obtain⟨r,h1,h2,_⟩:=qFa a b;exact⟨e,by rw[h2,<-h1,e]⟩
def sameD (x y:qA):Bool:=(x.Kind==y.Kind&&((((x.Box.X.A==y.Box.X.A)&&((x.Box.X.B==y.Box.X.B)&&true))&&(((x.Box.Y.A==y.Box.Y.A)&&((x.Box.Y.B==y.Box.Y.B)&&true))&&(((x.Box.Z.A==y.Box.Z.A)&&((x.Box.Z.B==y.Box.Z.B)&&true))&&true)))&&true))
theorem TY (x y:qA):sameD x y=true↔x=y:=by
 obtain⟨k,⟨xa,xb⟩,⟨ya,yb⟩,⟨za,zb⟩⟩:=x;obtain⟨k',⟨xa',xb'⟩,⟨ya',yb'⟩,⟨za',zb'⟩⟩:=y;simp only[sameD,Bool.and_true,kf,beq_iff_eq,qA.mk.injEq,Box.mk.injEq,Span.mk.injEq]
theorem qID (x y:qA):sameD x y=sameD y x:=by
 rw[Bool.eq_iff_iff,TY,TY];exact eq_comm
def hasD (l:List qA) (d:qA):Bool:=l.any (λx=>sameD x d)
theorem qHe {l:List qA} {d:qA}:hasD l d=true↔d∈l:=by
 unfold hasD;rw[uy];exact⟨fun⟨x,h1,h2⟩=>(TY _ _).1 h2▸h1,λh=>⟨d,h,(TY _ _).2 rfl⟩⟩
theorem qIs (l:List qA) (d:qA) (hl:l.length<=1000000):BO l d=some (hasD l d)/\wJ l d=some (hasD l d):=by
 have L1:yB l d FUEL 0=some (findN (λi=>if sameD (l.getD i dd) d=true then some true else none) 0 l.length):=by
  refine JC l.length (yB l d) _ 0 (by omega) (by omega) (λn i _ hi=>?_) (λn=>?_)
  ·rw[yB,kq (by omega),wM (by omega)];simp only[ks,kI,yA (show i<4611686018427387904 by omega)];show(bif sameD (l.getD i dd) d then some (Sum.inl true) else yB l d n ((i+1:Nat):Int))=_;cases sameD (l.getD i dd) d<;>rfl
  ·rw[yB,ki (by omega)];rfl
 have L2:zJ l d FUEL 0=some (findN (λi=>if sameD (l.getD i dd) d=true then some ((i:Nat):Int) else none) 0 l.length):=by
  refine JC l.length (zJ l d) _ 0 (by omega) (by omega) (λn i _ hi=>?_) (λn=>?_)
  ·rw[zJ,kq (by omega),wM (by omega)];simp only[ks,kI,yA (show i<4611686018427387904 by omega)];show(bif sameD d (l.getD i dd) then some (Sum.inl ((i:Nat):Int)) else zJ l d n ((i+1:Nat):Int))=_;rw[qID d];cases sameD (l.getD i dd) d<;>rfl
  ·rw[zJ,ki (by omega)];rfl
 unfold BO wJ yW;rw[L1,L2];cases h:hasD l d with
 |true=>
  obtain⟨i,hi,he⟩:=List.getElem_of_mem (qHe.1 h);have hd:sameD (l.getD i dd) d=true:=(TY _ _).2 (by rw[ka,kp hi];exact he);constructor
  ·cases hf:findN (λi=>if sameD (l.getD i dd) d=true then some true else none) 0 l.length with
   |inl e=>
    obtain⟨j,_,_,hj,_⟩:=KH hf;split at hj
    ·cases hj;rfl
    ·cases hj
   |inr u=>have:=jV.1 hf i (by omega) (by omega);simp only[hd,if_true] at this;cases this
  ·cases hf:findN (λi=>if sameD (l.getD i dd) d=true then some ((i:Nat):Int) else none) 0 l.length with
   |inl e=>
    obtain⟨j,_,_,hj,_⟩:=KH hf;split at hj
    ·cases hj;simp only[kr,Sum.elim_inl];rw[kq (by omega)]
    ·cases hj
   |inr u=>have:=jV.1 hf i (by omega) (by omega);simp only[hd,if_true] at this;cases this
 |false=>
  have hn:∀i,i<l.length->sameD (l.getD i dd) d=false:=λi hi=>by
   cases hs:sameD (l.getD i dd) d with
   |false=>rfl
   |true=>exact absurd (qHe.2 ((TY _ _).1 hs▸qI7 hi)) (by rw[h];simp)
  constructor
  ·rw[jV.2 (λi _ hi=>by rw[hn i (by omega)];rfl)];rfl
  ·rw[jV.2 (λi _ hi=>by rw[hn i (by omega)];rfl)];rfl
def erM (s t:Scan) (x:Nat):Option (Scan×Int):=bif fitB (rgs s x) (rgs t x) then none else some (Scan.mk ([]:List Ring) ([]:List qA),19)
def MV (a b:List qA):List qA:=a++b.filter (λd=>!hasD a d)
def BP (s t:Scan):List Ring:=(List.range s.Rings.length).map (λx=>zT (rgs s x) (rgs t x))
def FU (s t:Scan):Scan×Int:=
 if wV s≠0 then(Scan.mk ([]:List Ring) ([]:List qA),wV s) else if wV t≠0 then(Scan.mk ([]:List Ring) ([]:List qA),wV t)
 else if s.Rings.length≠t.Rings.length then(Scan.mk ([]:List Ring) ([]:List qA),19)
 else match findN (erM s t) 0 s.Rings.length with
  | .inl e=>e
  | .inr _=>if 64<(MV s.Defects t.Defects).length then(Scan.mk ([]:List Ring) ([]:List qA),4) else(Scan.mk (BP s t) (MV s.Defects t.Defects),0)
theorem LR {α:Type} (p:α->Bool):∀(b a:List α),b.foldl (λl d=>bif p d then l++[d] else l) a=a++b.filter p
 |[],a=>by simp
 |d::b,a=>by
  rw[List.foldl_cons,LR p b];cases h:p d<;>simp[h]
theorem qB3 (a b:List qA) (L:Nat->List qA->Int->Option (List qA)) (ha:a.length<=64) (hb:b.length<=64)
  (h0:∀n x l,x<b.length->l.length<=64+x->L (n+1) l (x:Int)=L n (bif !hasD a (b.getD x dd) then l++[b.getD x dd] else l) ((x+1:Nat):Int))
  (h1:∀n l,L (n+1) l (b.length:Int)=some l):L FUEL a 0=some (MV a b):=by
 have k:=(qE0 b L (λx=>(x:Int)) (λ_ d l=>bif !hasD a d then l++[d] else l) id (λx l=>l.length<=64+x) (by omega) (λn x l hx hi=>⟨h0 n x l hx hi,by
   cases !hasD a (b.getD x dd)
   ·simp only[ku];omega
   ·simp only[ks,kV,List.length_cons,List.length_nil];omega⟩) (λn l _=>h1 n l) (i:=0) rfl a (by simpa using ha)).1
 rw[AH] at k;rw[k];have e:=LR (λd=>!hasD a d) b a;exact congrArg some e
theorem qKf (s t:Scan):UR s t=some (FU s t):=by
 unfold UR FU;rw[qHw,qHw];simp only[kr];by_cases hc:¬wV s=0
 ·rw[show(wV s !=0)=true from ur.2 hc,if_pos hc];rfl
 have hc:wV s=0:=Classical.not_not.1 hc;rw[hc,if_neg (by simp)];by_cases hd:¬wV t=0
 ·rw[show(wV t !=0)=true from ur.2 hd,if_pos hd];rfl
 have hd:wV t=0:=Classical.not_not.1 hd;rw[hd,if_neg (by simp)];simp only[kJ,ku];have v:=(VU s).1 hc;have w:=(VU t).1 hd;have v24:=v.many;have d1:=((ZK _).1 v.def13).1;have d2:=((ZK _).1 w.def13).1;by_cases hl:¬s.Rings.length=t.Rings.length
 ·rw[if_pos hl,show((s.Rings.length:Int) !=(t.Rings.length:Int))=true from ur.2 (by omega)];rfl
 have hl:s.Rings.length=t.Rings.length:=Classical.not_not.1 hl;rw[if_neg (by simpa using hl),<-hl,mkOk_t (by omega) (by omega)];simp only[kJ,ku,ks];have L1:=qJN s.Rings.length (λn l i=>jL s t n i l) (erM s t) (λx=>zT (rgs s x) (rgs t x)) (Ring.mk 0 ([]:List qC)) (by omega) (λn x l hx hll=>by
  show jL s t (n+1) (x:Int) l=_;rw[jL,kq (by omega),wM (by omega),wM (n:=t.Rings.length) (by omega)];simp only[ks,kI];rw[(SK (s.Rings.getD x dd) (t.Rings.getD x dd) (v.good x hx) (w.good x (by omega))).1];unfold erM rgs;cases fitB (s.Rings.getD x dd) (t.Rings.getD x dd) with
  |true=>simp only[ks,kr,kJ,ku];rw[wM (by omega),yA (by omega)];rfl
  |false=>rfl) (λn l hll=>by show jL s t (n+1) _ l=_;rw[jL,ki (by omega)];rfl)
 rw[show wZ s.Defects=some s.Defects by unfold wZ;rw[qA6 (by omega)];rfl,kI];simp only[kr];rw[L1];simp only[kr];cases findN (erM s t) 0 s.Rings.length with
 |inl e=>rfl
 |inr u=>
  simp only[Sum.elim_inr];rw[qB3 s.Defects t.Defects (λn l i=>wD s t n i l) d1 d2 (λn x l hx hi=>by
   show wD s t (n+1) (x:Int) l=_;rw[wD,kq (by omega),wM (by omega),kI,(qIs _ _ (by omega)).2];simp only[ks,kr,RC,yA (show x<4611686018427387904 by omega)];cases hasD s.Defects (t.Defects.getD x dd) with
   |true=>rfl
   |false=>rw[qA6 (by omega)];rfl) (λn l=>by show wD s t (n+1) _ l=_;rw[wD,ki (by omega)];rfl)]
  simp only[kr];by_cases h64:64<(MV s.Defects t.Defects).length
  ·rw[if_pos h64,kq (by omega)];rfl
  ·rw[if_neg h64,ki (by omega)];rfl
theorem qJA (s t:Scan):PK s t=some (FU s t):=by
 unfold PK FU;rw[qEM,qEM];simp only[kr];by_cases hc:¬wV s=0
 ·rw[show(wV s !=0)=true from ur.2 hc,if_pos hc];rfl
 have hc:wV s=0:=Classical.not_not.1 hc;rw[hc,if_neg (by simp)];by_cases hd:¬wV t=0
 ·rw[show(wV t !=0)=true from ur.2 hd,if_pos hd];rfl
 have hd:wV t=0:=Classical.not_not.1 hd;rw[hd,if_neg (by simp)];simp only[kJ,ku];have v:=(VU s).1 hc;have w:=(VU t).1 hd;have v24:=v.many;have v2:=v.two;have d1:=((ZK _).1 v.def13).1;have d2:=((ZK _).1 w.def13).1;by_cases hl:¬s.Rings.length=t.Rings.length
 ·rw[if_pos hl,show((s.Rings.length:Int) !=(t.Rings.length:Int))=true from ur.2 (by omega)];rfl
 have hl:s.Rings.length=t.Rings.length:=Classical.not_not.1 hl;rw[if_neg (by simpa using hl),<-hl];simp only[kJ,ku,ks];have L1:=DR s.Rings.length (λn l i=>zZ s t n i l) (FM (erM s t) (λx=>(List.range (x+1)).map (λx=>zT (rgs s x) (rgs t x)))) (λr=>r) (λx l=>l=(List.range x).map (λx=>zT (rgs s x) (rgs t x))) (λn x l hx hi=>by
   have e:zZ s t (n+1) (x:Int) l=match erM s t x with|some e=>some (.inl e)|none=>zZ s t n ((x+1:Nat):Int) ((List.range (x+1)).map (λx=>zT (rgs s x) (rgs t x))):=by
    rw[zZ,kq (by omega),wM (by omega),wM (n:=t.Rings.length) (by omega)];simp only[ks,kI];rw[(SK (s.Rings.getD x dd) (t.Rings.getD x dd) (v.good x hx) (w.good x (by omega))).2];unfold erM;rw[show fitB (rgs s x) (rgs t x)=fitB (s.Rings.getD x dd) (t.Rings.getD x dd) from rfl];cases fitB (s.Rings.getD x dd) (t.Rings.getD x dd) with
    |true=>
     simp only[ks,kr,kJ,ku];subst hi;rw[qA6 (by simp only[List.length_map,List.length_range];omega),yA (by omega),List.range_succ,List.map_append];rfl
    |false=>rfl
   unfold FM;cases he:erM s t x with
   |some q=>rw[he] at e;exact e
   |none=>rw[he] at e;exact⟨e,rfl⟩)
  (λn l _=>by show zZ s t (n+1) _ l=_;rw[zZ,ki (by omega)];rfl) FUEL 0 [] (by rw[IT];omega) (by omega) rfl
 rw[OS,if_neg (show¬s.Rings.length-0=0 by omega),show 0+(s.Rings.length-0)-1+1=s.Rings.length by omega,Nat.sub_zero] at L1;have L1':zZ s t FUEL 0 []=some (Sum.elim Sum.inl (λ_=>Sum.inr (BP s t)) (findN (erM s t) 0 s.Rings.length)):=L1;rw[L1'];simp only[kr];cases findN (erM s t) 0 s.Rings.length with
 |inl e=>rfl
 |inr u=>
  simp only[Sum.elim_inr];have L2:wI s FUEL 0 []=some s.Defects:=by
   have k:=(qE0 s.Defects (λn l i=>wI s n i l) (λx=>(x:Int)) (λ_ d (l:List qA)=>l++[d]) id (λx l=>l.length=x) (by omega) (λn x l hx hi=>⟨by
     show wI s (n+1) (x:Int) l=_;rw[wI,kq (by omega),wM (by omega),qA6 (by omega),yA (by omega)];rfl,by simp[hi]⟩) (λn l _=>by show wI s (n+1) _ l=_;rw[wI,ki (by omega)];rfl) (i:=0) rfl [] rfl).1
   rw[AH] at k;refine k.trans (congrArg some ?_);have e:=LR (λ_=>true) s.Defects [];simp only[ks,uC] at e;exact e.trans (List.filter_eq_self.2 (λ_ _=>rfl))
  rw[L2];simp only[kr];rw[qB3 s.Defects t.Defects (λn l i=>zY s t n i l) d1 d2 (λn x l hx hi=>by
   show zY s t (n+1) (x:Int) l=_;rw[zY,kq (by omega),wM (by omega),kI,(qIs _ _ (by omega)).1];simp only[ks,kr,KR,yA (show x<4611686018427387904 by omega)];cases hasD s.Defects (t.Defects.getD x dd) with
   |true=>rfl
   |false=>rw[qA6 (by omega)];rfl) (λn l=>by show zY s t (n+1) _ l=_;rw[zY,ki (by omega)];rfl)]
  simp only[kr];by_cases h64:64<(MV s.Defects t.Defects).length
  ·rw[if_pos h64,kq (by omega)];rfl
  ·rw[if_neg h64,ki (by omega)];rfl
theorem qJO {s t:Scan} {e:Scan×Int} (h:findN (erM s t) 0 s.Rings.length= .inl e):e=(Scan.mk ([]:List Ring) ([]:List qA),19):=by
 obtain⟨i,_,_,he,_⟩:=KH h;unfold erM at he;cases hf:fitB (rgs s i) (rgs t i)<;>rw[hf] at he<;>cases he;rfl
theorem qIP (s t:Scan) {i:Nat} (h:i<s.Rings.length):(BP s t).getD i dd=zT (rgs s i) (rgs t i):=by
 unfold BP;rw[ka,kD,uz h];rfl
theorem qDN (s t:Scan):(BP s t).length=s.Rings.length:=by simp[BP]
theorem qFE (s t:Scan):qGX (FU s t).1:=by
 unfold FU;by_cases hc:¬wV s=0
 ·rw[if_pos hc];exact BF
 rw[if_neg hc];have v:=(VU s).1 (Classical.not_not.1 hc);by_cases hd:¬wV t=0
 ·rw[if_pos hd];exact BF
 rw[if_neg hd];by_cases hl:¬s.Rings.length=t.Rings.length
 ·rw[if_pos hl];exact BF
 rw[if_neg hl];cases hf:findN (erM s t) 0 s.Rings.length with
 |inl e=>rw[qJO hf];exact BF
 |inr u=>
  simp only;by_cases h64:64<(MV s.Defects t.Defects).length
  ·rw[if_pos h64];exact BF
  ·rw[if_neg h64];refine⟨?_,?_,λi hi=>?_⟩
   ·show(BP s t).length<=_;rw[qDN];have:=v.many;omega
   ·show(MV s.Defects t.Defects).length<=_;omega
   ·have hi':i<s.Rings.length:=by rw[<-qDN s t];exact hi
    show((BP s t).getD i dd).Read.length<=_;rw[qIP s t hi',CR];have:=(v.good i hi').hi;omega
theorem qCr (s t:Scan):QQ s t=some true:=by
 unfold QQ;rw[qGW,qGW];have k:∀b,jR s t b=some true:=λb=>by
  unfold jR;have e:∀x:Scan,Scan.mk x.Rings x.Defects=x:=λ_=>rfl;simp only[kr,qHu,qKf,qJA,e,qDo _ (qFE s t),beq_self_eq_true,ks,jQ];cases b<;>rfl
 simp only[kr,k];cases fewB s<;>rfl
theorem qDb (s t:Scan) {P Q:Prop} (_:P) (_:Q):QQ s t=some true:=qCr s t
end Saw
end Go.SL

/- Edge's plain mathematics, part 5: defects, rates, rectangles; the check of an edging. -/
import Derived.Test.YtpommeghjpbepaaEMa3
set_option linter.unusedVariables false
set_option linter.unusedSimpArgs false
namespace Go.SL
namespace Saw
def insS (s:Span) (lo hi:Int):Bool:=decide ((lo<=s.A/\lo<=s.B)/\(s.A<=hi/\s.B<=hi))
theorem qM0 (s:Span) (lo hi:Int):XG s lo hi=some (insS s lo hi):=by
 unfold XG VQ insS;have a:=imin_or s.A s.B;have b:=GR s.A s.B;by_cases h1:imin s.A s.B≥lo
 ·rw[ka h1];by_cases h2:imax s.A s.B<=hi
  ·rw[ka h2,ka (by omega)];rfl
  ·rw[ke h2,ke (by omega)];rfl
 ·rw[ke h1,ke (show¬((lo<=s.A/\lo<=s.B)/\(s.A<=hi/\s.B<=hi)) by omega)];rfl
def chkD (d:qJ):Int:=
 if d.Kind<1\/6<d.Kind then 10
 else bif empS d.Box.X||(empS d.Box.Y||empS d.Box.Z) then 19
 else bif insS d.Box.X (-600) 600&&(insS d.Box.Y (-600) 600&&insS d.Box.Z 0 20000) then 0 else 9
theorem qIv (s:Span):QR s=some (empS s):=rfl
theorem chkD_eq (d:qJ):DT d=some (chkD d):=by
 unfold DT GX TC RP chkD;simp only[qIv,qM0,kg];by_cases h1:d.Kind<1
 ·rw[ka h1,if_pos (.inl h1)];rfl
 rw[ke h1];by_cases h2:d.Kind>6
 ·rw[ka h2,if_pos (.inr h2)];rfl
 rw[ke h2,if_neg (by omega)];cases empS d.Box.X<;>cases empS d.Box.Y<;>cases empS d.Box.Z<;>cases insS d.Box.X (-600) 600<;>cases insS d.Box.Y (-600) 600<;>cases insS d.Box.Z 0 20000<;>rfl
structure VD (d:qJ):Prop where
 k1:1<=d.Kind
 k2:d.Kind<=6
 x:d.Box.X.A<d.Box.X.B/\-600<=d.Box.X.A/\d.Box.X.B<=600
 y:d.Box.Y.A<d.Box.Y.B/\-600<=d.Box.Y.A/\d.Box.Y.B<=600
 z:d.Box.Z.A<d.Box.Z.B/\0<=d.Box.Z.A/\d.Box.Z.B<=20000
theorem qMO (d:qJ):chkD d=0↔VD d:=by
 unfold chkD;by_cases h1:d.Kind<1\/6<d.Kind
 ·rw[if_pos h1];exact⟨λh=>absurd h (by decide),λh=>by have:=h.k1;have:=h.k2;omega⟩
 rw[if_neg h1];cases hx:empS d.Box.X with
 |true=>exact⟨λh=>absurd (show(19:Int)=0 from h) (by decide),λh=>by have:=h.x;have:=kX hx;omega⟩
 |false=>
 cases hy:empS d.Box.Y with
 |true=>exact⟨λh=>absurd (show(19:Int)=0 from h) (by decide),λh=>by have:=h.y;have:=kX hy;omega⟩
 |false=>
 cases hz:empS d.Box.Z with
 |true=>exact⟨λh=>absurd (show(19:Int)=0 from h) (by decide),λh=>by have:=h.z;have:=kX hz;omega⟩
 |false=>
 have ex:=of_decide_eq_false hx;have ey:=of_decide_eq_false hy;have ez:=of_decide_eq_false hz;unfold insS;by_cases i1:(-600<=d.Box.X.A/\-600<=d.Box.X.B)/\d.Box.X.A<=600/\d.Box.X.B<=600
 ·rw[ka i1];by_cases i2:(-600<=d.Box.Y.A/\-600<=d.Box.Y.B)/\d.Box.Y.A<=600/\d.Box.Y.B<=600
  ·rw[ka i2];by_cases i3:(0<=d.Box.Z.A/\0<=d.Box.Z.B)/\d.Box.Z.A<=20000/\d.Box.Z.B<=20000
   ·rw[ka i3];exact⟨λ_=>⟨by omega,by omega,by omega,by omega,by omega⟩,λ_=>rfl⟩
   ·rw[ke i3];exact⟨λh=>absurd h (by decide),λh=>by have:=h.z;omega⟩
  ·rw[ke i2];exact⟨λh=>absurd (show(9:Int)=0 from h) (by decide),λh=>by have:=h.y;omega⟩
 ·rw[ke i1];exact⟨λh=>absurd (show(9:Int)=0 from h) (by decide),λh=>by have:=h.x;omega⟩
def badD (d:qJ):Option Int:=bif chkD d !=0 then some (chkD d) else none
def LK (l:List qJ):Int:=if 64<l.length then 4 else match findE badD l with| .inl e=>e| .inr _=>0
theorem qJ4 (l:List qJ):PB l=some (LK l):=by
 unfold PB LK;by_cases h:64<l.length
 ·rw[if_pos h,ka (by omega)];rfl
 rw[if_neg h,ke (by omega)];have L:WL l FUEL 0=some (findE badD l):=by
  refine BL l (WL l) badD (by omega) (λn x hx=>?_) (λn=>?_)
  ·rw[WL,ka (by omega),zJ (by omega)];simp only[kn,ks,zN (show x<4611686018427387904 by omega),chkD_eq,kg,badD];cases chkD (l.getD x du) !=0<;>rfl
  ·rw[WL,ke (by omega)];rfl
 rw[L];simp only[kp,kg];cases findE badD l<;>rfl
theorem qIq {d:qJ}:badD d=none↔VD d:=by
 rw[<-qMO];unfold badD;by_cases h:chkD d=0
 ·rw[h];simp
 ·rw[show(chkD d !=0)=true by rw[ur];exact h];simp[h]
theorem qCn (l:List qJ):LK l=0↔l.length<=64/\∀d∈l,VD d:=by
 unfold LK;by_cases h:64<l.length
 ·rw[if_pos h];exact⟨λh=>absurd h (by decide),λh=>by omega⟩
 rw[if_neg h];cases hf:findE badD l with
 |inl e=>
  obtain⟨a,ha,hb⟩:=qAw hf;simp only;have hn:e≠0:=by
   unfold badD at hb;cases hc:chkD a !=0 with
   |true=>rw[hc] at hb;cases hb;exact ur.1 hc
   |false=>rw[hc] at hb;cases hb
  exact⟨λh=>absurd h hn,λh=>by rw[qIq.2 (h.2 a ha)] at hb;cases hb⟩
 |inr u=>exact⟨λ_=>⟨by omega,λd hd=>qIq.1 (HD.1 hf d hd)⟩,λ_=>rfl⟩
structure VW (s:Saw) (r:Rates):Prop where
 kerf:0<=s.Kerf/\s.Kerf<=20
 trim:0<=s.Trim/\s.Trim<=20
 pitch:1<=s.Pitch/\s.Pitch<=2000
 step:1<=s.Step/\s.Step<=20000
 chip:0<=r.Chip/\r.Chip<=1000
 dust:0<=r.Dust/\r.Dust<=1000
 fine:0<=r.Fine/\r.Fine<=1000000
theorem qID (n:Int):UX n=some (decide (1<=n/\n<=20000)):=by
 unfold UX DH;by_cases h1:n≥1
 ·rw[ka h1];by_cases h2:n<=20000
  ·rw[ka h2,ka ⟨h1,h2⟩];rfl
  ·rw[ke h2,ke (λh=>h2 h.2)];rfl
 ·rw[ke h1,ke (show¬(1<=n/\n<=20000) from λh=>h1 h.1)];rfl
theorem qIt (n:Int):TZ n=some (decide (0<=n/\n<=1000000)):=by
 unfold TZ DE;by_cases h1:n≥0
 ·rw[ka h1];by_cases h2:n<=1000000
  ·rw[ka h2,ka ⟨h1,h2⟩];rfl
  ·rw[ke h2,ke (λh=>h2 h.2)];rfl
 ·rw[ke h1,ke (show¬(0<=n/\n<=1000000) from λh=>h1 h.1)];rfl
open Classical in
noncomputable def qCw (s:Saw) (r:Rates):Int:=if VW s r then 0 else 9
theorem qCA (s:Saw) (r:Rates):qCw s r=0↔VW s r:=by
 unfold qCw;by_cases h:VW s r
 ·rw[if_pos h];simp[h]
 ·rw[if_neg h];simp[h]
theorem qOg (s:Saw) (r:Rates):GP s r=some (qCw s r):=by
 unfold GP KF TX YC;simp only[qID,qIt,kg];have no:¬VW s r->qCw s r=9:=λh=>by unfold qCw;rw[if_neg h]
 by_cases c1:s.Kerf<0
 ·rw[ka c1,no (λh=>by have:=h.kerf;omega)];rfl
 rw[ke c1];by_cases c2:s.Kerf>20
 ·rw[ka c2,no (λh=>by have:=h.kerf;omega)];rfl
 rw[ke c2];by_cases c3:s.Trim<0
 ·rw[ka c3,no (λh=>by have:=h.trim;omega)];rfl
 rw[ke c3];by_cases c4:s.Trim>20
 ·rw[ka c4,no (λh=>by have:=h.trim;omega)];rfl
 rw[ke c4];simp only[kp];by_cases c5:s.Pitch<1
 ·rw[ka c5,no (λh=>by have:=h.pitch;omega)];rfl
 rw[ke c5];by_cases c6:s.Pitch>2000
 ·rw[ka c6,no (λh=>by have:=h.pitch;omega)];rfl
 rw[ke c6];by_cases c7:1<=s.Step/\s.Step<=20000
 ·rw[ka c7];simp only[kp,kV];by_cases d1:r.Chip<0
  ·rw[ka d1,no (λh=>by have:=h.chip;omega)];rfl
  rw[ke d1];by_cases d2:r.Chip>1000
  ·rw[ka d2,no (λh=>by have:=h.chip;omega)];rfl
  rw[ke d2];by_cases d3:r.Dust<0
  ·rw[ka d3,no (λh=>by have:=h.dust;omega)];rfl
  rw[ke d3];by_cases d4:r.Dust>1000
  ·rw[ka d4,no (λh=>by have:=h.dust;omega)];rfl
  rw[ke d4];by_cases d5:0<=r.Fine/\r.Fine<=1000000
  ·rw[ka d5,(qCA s r).2 ⟨by omega,by omega,by omega,by omega,by omega,by omega,by omega⟩];rfl
  ·rw[ke d5,no (λh=>d5 h.fine)];rfl
 ·rw[ke c7,no (λh=>c7 h.step)];rfl
def VR (r:Rect):Prop:=(-600<=r.X.A/\r.X.A<r.X.B/\r.X.B<=600)/\(-600<=r.Y.A/\r.Y.A<r.Y.B/\r.Y.B<=600)
instance (r :Rect):Decidable (VR r):=by unfold VR;exact inferInstance
def badR (lo hi:Int):Option Bool:=if lo< -600\/600<hi\/hi<=lo then some false else none
theorem CY {lo hi:Int}:badR lo hi=none↔-600<=lo/\lo<hi/\hi<=600:=by
 unfold badR;by_cases h:lo< -600\/600<hi\/hi<=lo
 ·rw[if_pos h];exact⟨λh=>(by cases h),λh=>by omega⟩
 ·rw[if_neg h];exact⟨λ_=>by omega,λ_=>rfl⟩
theorem qKm (r:Rect) (L:Nat->Int->Option (Bool⊕Unit))
  (h0:∀n,L (n+1) 0=match badR r.X.A r.X.B with|some e=>some (.inl e)|none=>L n 1)
  (h1:∀n,L (n+1) 1=match badR r.Y.A r.Y.B with|some e=>some (.inl e)|none=>L n 2)
  (h2:∀n,L (n+1) 2=some (.inr ())):((L FUEL 0).bind λu=>Sum.elim (λv=>some v) (λ_=>some true) u)=some (decide (VR r)):=by
 rw[yU,show(4611686018427387904:Nat)=4611686018427387901+1+1+1 from rfl,h0];cases hx:badR r.X.A r.X.B with
 |some e=>
  have:¬VR r:=λh=>by rw[CY.2 h.1] at hx;cases hx
  rw[ke this];unfold badR at hx;split at hx<;>cases hx;rfl
 |none=>
  simp only;rw[h1];cases hy:badR r.Y.A r.Y.B with
  |some e=>
   have:¬VR r:=λh=>by rw[CY.2 h.2] at hy;cases hy
   rw[ke this];unfold badR at hy;split at hy<;>cases hy;rfl
  |none=>
   simp only;rw[h2,ka (show VR r from⟨CY.1 hx,CY.1 hy⟩)];rfl
theorem qJo {lo hi:Int} {α:Type} (k:Bool->α):(bif decide (lo< -600) then k true else bif decide (hi>600) then k true else k (decide (lo≥hi)))=k (match badR lo hi with|some _=>true|none=>false):=by
 unfold badR;by_cases h1:lo< -600
 ·rw[ka h1,if_pos (.inl h1)];rfl
 rw[ke h1];by_cases h2:hi>600
 ·rw[ka h2,if_pos (by omega)];rfl
 rw[ke h2];by_cases h3:lo≥hi
 ·rw[ka h3,if_pos (by omega)];rfl
 ·rw[ke h3,if_neg (by omega)];rfl
theorem qNK (r:Rect):DU r=some (decide (VR r)):=by
 unfold DU;refine qKm r (wU r) (λn=>?_) (λn=>?_) (λn=>?_)
 ·rw[wU,ka (by omega),zJ (by omega)];simp only[kn];refine(qJo (lo:=r.X.A) (hi:=r.X.B) (λb=>ZH 0 (wU r n) b)).trans ?_;unfold badR ZH;split<;>rename_i h<;>revert h<;>split<;>intro h<;>(try cases h)<;>rfl
 ·rw[wU,ka (by omega),zJ (by omega)];simp only[kn];refine(qJo (lo:=r.Y.A) (hi:=r.Y.B) (λb=>ZH 1 (wU r n) b)).trans ?_;unfold badR ZH;split<;>rename_i h<;>revert h<;>split<;>intro h<;>(try cases h)<;>rfl
 ·rw[wU,ke (by omega)];rfl
theorem qG5 (r:Rect):XE r=some (decide (VR r)):=by
 unfold XE;refine qKm r (zZ r) (λn=>?_) (λn=>?_) (λn=>?_)
 ·rw[zZ,ka (by omega),zJ (by omega)];simp only[kn];refine(qJo (lo:=r.X.A) (hi:=r.X.B) (λb=>jZ 0 (zZ r n) b)).trans ?_;unfold badR jZ;split<;>rename_i h<;>revert h<;>split<;>intro h<;>(try cases h)<;>rfl
 ·rw[zZ,ka (by omega),zJ (by omega)];simp only[kn];refine(qJo (lo:=r.Y.A) (hi:=r.Y.B) (λb=>jZ 1 (zZ r n) b)).trans ?_;unfold badR jZ;split<;>rename_i h<;>revert h<;>split<;>intro h<;>(try cases h)<;>rfl
 ·rw[zZ,ke (by omega)];rfl
structure VE (s:List qG) (d:List qJ) (p:List Product) (r:Rect) (w:Saw) (t:Rates):Prop where
 sol:VSol s
 dl:d.length<=64
 dd:∀x∈d,VD x
 pr:ZL p=0
 vw:VW w t
 vr:VR r
end Saw
end Go.SL

namespace Go.SL
theorem qL9 {σ β ι:Type} (N:Nat) (L:Nat->σ->ι->Option β) (idx:Nat->ι) (f:Nat->σ->σ) (out:σ->β) (Inv:Nat->σ->Prop) (hN:N<=1000000000)
  (h0:∀n i s,i<N->Inv i s->L (n+1) s (idx i)=L n (f i s) (idx (i+1))/\Inv (i+1) (f i s))
  (h1:∀n s,Inv N s->L (n+1) s (idx N)=some (out s)) (s:σ) (hs:Inv 0 s):L FUEL s (idx 0)=some (out (JD f 0 N s))/\Inv N (JD f 0 N s):=by
 have key:∀k n x s,x+k=N->k<n->Inv x s->L n s (idx x)=some (out (JD f x k s))/\Inv N (JD f x k s):=by
  intro k
  induction k with
  |zero=>
   intro n x s hx hn hi;obtain⟨n,rfl⟩:∃m,n=m+1:=⟨n-1,by omega⟩
   rw[ub] at hx;subst hx;exact⟨h1 n s hi,hi⟩
  |succ k ih=>
   intro n x s hx hn hi;obtain⟨n,rfl⟩:∃m,n=m+1:=⟨n-1,by omega⟩
   have h:=h0 n x s (by omega) hi;rw[h.1];exact ih n (x+1) (f x s) (by omega) (by omega) h.2
 exact key N FUEL 0 s (by omega) (by rw[yU];omega) hs
namespace Saw
def priceAt (p:Product) (n:Int) (i:Nat):Option (Int×Bool):=
 if p.Lengths.getD i du≠n then none else if p.Prices.length<=i then some (0,false) else some (p.Prices.getD i du,true)
def price (p:Product) (n:Int):Int×Bool:=match findN (priceAt p n) 0 p.Lengths.length with| .inl e=>e| .inr _=>(0,false)
theorem qNS (p:Product) (n:Int) (h:p.Lengths.length<=1000000):GM p n=some (price p n):=by
 unfold GM price;have L:ZQ p n FUEL ((0:Nat):Int)=some (findN (priceAt p n) 0 (p.Lengths.length-0)):=by
  refine ND p.Lengths.length (ZQ p n) _ 0 (by omega) (by omega) (λm i hi hN=>?_) (λm=>?_)
  ·rw[ZQ,ka (by omega),zJ (by omega)];simp only[kn,ks,zN (show i<4611686018427387904 by omega),priceAt];by_cases c:p.Lengths.getD i du≠n
   ·rw[if_pos c,show(p.Lengths.getD i du !=n)=true by rw[ur];exact c];rfl
   rw[if_neg c,show(p.Lengths.getD i du !=n)=false by rw[uZ];omega];by_cases c2:p.Prices.length<=i
   ·rw[if_pos c2,ka (show(i:Int)≥(p.Prices.length:Int) by omega)];rfl
   ·rw[if_neg c2,ke (show¬(i:Int)≥(p.Prices.length:Int) by omega),zJ (by omega)];rfl
  ·rw[ZQ,ke (by omega)];rfl
 rw[show((0:Nat):Int)=0 from rfl,uw] at L;rw[L];simp only[kg];cases findN (priceAt p n) 0 p.Lengths.length<;>rfl
def tch (d b:Box):Bool:=!(empS (mxS d.X b.X)||(empS (mxS d.Y b.Y)||empS (mxS d.Z b.Z)))
theorem qGY (d:qJ) (b:Box):KM d b=some (tch d.Box b):=by
 unfold KM SW UB tch;simp only[CO,kg,qIv,qLO];cases empS (mxS d.Box.X b.X)<;>cases empS (mxS d.Box.Y b.Y)<;>cases empS (mxS d.Box.Z b.Z)<;>rfl
def NK (r:Rect):Int:=(r.X.B-r.X.A)*(r.Y.B-r.Y.A)
def qD8 (a w:Int):Int:=Int.tdiv (1000*(a-w)+a-1) a
def zones (l:List qG) (r:Rect):List qS:=(List.range l.length).map (λi=>⟨ext l i,qD8 (NK r) (wP (l.getD i du).Sec r.X r.Y)⟩)
theorem areaR_b {r:Rect} (h:VR r):1<=NK r/\NK r<=1440000:=by
 unfold VR at h;unfold NK;have a:=MG (a:=r.X.B-r.X.A) (b:=r.Y.B-r.Y.A) (m:=1200) (n:=1200) (by omega) (by omega) (by omega) (by omega) (by omega) (by omega);have b:=Int.mul_pos (show 0<r.X.B-r.X.A by omega) (show 0<r.Y.B-r.Y.A by omega);omega
theorem qN0 {l:List qG} (h:VSol l) {r:Rect} (hr:VR r):LB l r=some (zones l r):=by
 have hl:=h.len;have ha:=areaR_b hr;have eA:w64 (w64 (r.X.B-r.X.A)*w64 (r.Y.B-r.Y.A))=NK r:=by
  have hr':=hr;unfold VR at hr';rw[qU (n:=r.X.B-r.X.A) (by omega),qU (n:=r.Y.B-r.Y.A) (by omega)];unfold NK at ha⊢;exact qU (by omega)
 unfold LB
 let zn:Nat->qS:=λi=>⟨ext l i,qD8 (NK r) (wP (l.getD i du).Sec r.X r.Y)⟩
 have k:=RU l.length (λn (s:List qS×Int) i=>KE l r n s.1 s.2 i) (λi s=>(s.1++[zn i],wD l (i+1))) (λs=>s.1)
  (λi s=>s.1=(List.range i).map zn/\s.2=wD l i) 0 (by omega) (by omega)
  (λn i s hi hs=>by
   obtain⟨s1,s2⟩:=s;obtain⟨e1,e2⟩:=hs;simp only at e1 e2;have b:=h.bd (i:=i) (by omega);have b':=h.bd (i:=i+1) (by omega);have wb:=qJX (h.at hi).1 r.X r.Y;rw[jD] at b';have e1':s1.length=i:=by rw[e1];simp
   refine⟨?_,by rw[e1,List.range_succ,List.map_append];rfl,rfl⟩;simp only;rw[KE,ka (by omega),zJ (by omega)];simp only[kn,ks,zN (show i<4611686018427387904 by omega),qIs,kg,eA,e2];rw[qFx (h.at hi).1,nz_t (by omega),WI (by omega),qU (n:=wD l i+(l.getD i du).Len) (by omega),
    qU (n:=NK r-wP (l.getD i du).Sec r.X r.Y) (by omega),qU (n:=1000*_) (by omega),qU (n:=1000*_+_) (by omega),qU (n:=1000*_+_-1) (by omega)]
   simp only[kn];have tb: -2000000000<=qD8 (NK r) (wP (l.getD i du).Sec r.X r.Y)/\qD8 (NK r) (wP (l.getD i du).Sec r.X r.Y)<=2000000000:=by
    unfold qD8;generalize hu:1000*(NK r-wP (l.getD i du).Sec r.X r.Y)+NK r-1=u;have hub: -1440000000<=u/\u<=1441440000:=by omega
    have ab:=Int.natAbs_tdiv_le_natAbs u (NK r);omega
   unfold qD8 at tb;rw[qU (by omega)];rfl)
  (λn s _=>by rw[KE,ke (by omega)];rfl) ([],0) ⟨rfl,rfl⟩
 rw[show((0:Nat):Int)=0 from rfl] at k;rw[k.1];exact congrArg some k.2.1
structure VP (p:Product):Prop where
 nm:isNm p.Name=true
 th:5<=p.Thick/\p.Thick<=300
 wd:p.Thick<=p.Width/\p.Width<=600
 al:0<=p.Allow/\p.Allow<=200
 wn:0<=p.Wane/\p.Wane<=1000
 gr:(yS p).2<=600
 ll:1<=p.Lengths.length/\p.Lengths.length<=8
 pl:p.Prices.length=p.Lengths.length
 lb:∀i,i<p.Lengths.length->100<=p.Lengths.getD i du/\p.Lengths.getD i du<=20000
 pb:∀x∈p.Prices,0<=x/\x<=1000000
theorem qK3 {p:Product} (hn:isNm p.Name=true) (h:GN p=0):VP p:=by
 unfold GN at h;by_cases h1:p.Thick<5\/300<p.Thick\/p.Width<p.Thick\/600<p.Width\/p.Allow<0\/200<p.Allow\/p.Wane<0\/1000<p.Wane
 ·rw[if_pos h1] at h;exact absurd h (by decide)
 rw[if_neg h1] at h;by_cases h2:600<(yS p).2
 ·rw[if_pos h2] at h;exact absurd h (by decide)
 rw[if_neg h2] at h;unfold qKp at h;by_cases h3:p.Lengths.length=0
 ·rw[if_pos h3] at h;exact absurd h (by decide)
 rw[if_neg h3] at h;by_cases h4:8<p.Lengths.length
 ·rw[if_pos h4] at h;exact absurd h (by decide)
 rw[if_neg h4] at h;by_cases h5:p.Prices.length≠p.Lengths.length
 ·rw[if_pos h5] at h;exact absurd h (by decide)
 rw[if_neg h5] at h;cases hf:findN (badLen p) 0 p.Lengths.length with
 |inl e=>
  rw[hf] at h;obtain⟨i,a,b,c,d⟩:=XW hf;unfold badLen at c;simp only at h;subst h;split at c
  ·cases c
  ·split at c<;>cases c
 |inr u=>
  rw[hf] at h;cases hg:findE badPr p.Prices with
  |inl e=>
   rw[hg] at h;obtain⟨a,ha,hb⟩:=qAw hg;simp only at h;subst h;unfold badPr at hb;split at hb<;>cases hb
  |inr u'=>
   refine⟨hn,by omega,by omega,by omega,by omega,by omega,by omega,by omega,λi hi=>?_,λx hx=>?_⟩
   ·have:=VN.1 hf i (by omega) (by omega);unfold badLen at this;split at this
    ·cases this
    ·omega
   ·have:=HD.1 hg x hx;unfold badPr at this;split at this
    ·cases this
    ·omega
theorem qIk {p:Product} (hn:isNm p.Name=true) {l:List Product} {i:Nat} (h:badP l i=none) (e:l.getD i du=p):GN p=0:=by
 unfold badP at h;rw[e,hn] at h;simp only[kn] at h;cases hf:findN (twin l i) 0 i with
 |inl e=>rw[hf] at h;cases h
 |inr u=>
  rw[hf] at h;by_cases hc:GN p=0
  ·exact hc
  ·rw[show(GN p !=0)=true by rw[ur];exact hc] at h;cases h
theorem qHv {l:List Product} {i:Nat} (h:badP l i=none):isNm (l.getD i du).Name=true:=by
 unfold badP at h;cases hn:isNm (l.getD i du).Name with
 |true=>rfl
 |false=>rw[hn] at h;cases h
theorem qJy {l:List Product} (h:ZL l=0) {i:Nat} (hi:i<l.length):badP l i=none:=by
 unfold ZL at h;split at h
 ·exact absurd h (by decide)
 ·cases hf:findN (badP l) 0 l.length with
  |inr u=>exact VN.1 hf i (by omega) (by omega)
  |inl e=>
   rw[hf] at h;simp only at h;subst h;obtain⟨j,a,b,c,d⟩:=XW hf;unfold badP at c;cases hn:isNm (l.getD j du).Name with
   |false=>rw[hn] at c;cases c
   |true=>
    rw[hn] at c;simp only[kn] at c;cases hf':findN (twin l j) 0 j with
    |inl e=>
     rw[hf'] at c;obtain⟨i',a',b',c',d'⟩:=XW hf';unfold twin at c';cases c;cases hs:strEq (l.getD i' du).Name (l.getD j du).Name<;>rw[hs] at c'<;>cases c'
    |inr u=>
     rw[hf'] at c;cases hz:GN (l.getD j du) !=0 with
     |true=>rw[hz] at c;simp only[kn] at c;injection c with c;exact absurd c (ur.1 hz)
     |false=>rw[hz] at c;cases c
theorem qJA {l:List Product} (h:ZL l=0) {i:Nat} (hi:i<l.length):VP (l.getD i du):=by
 have b:=qJy h hi;exact qK3 (qHv b) (qIk (qHv b) b rfl)
theorem qML {l:List Product} (h:ZL l=0) {i:Nat} (hi:i<l.length):ZL [l.getD i du]=0:=by
 have b:=qJy h hi;have hn:=qHv b;have hc:=qIk hn b rfl;unfold ZL;rw[if_neg (by simp)];have e:badP [l.getD i du] 0=none:=by
  unfold badP;rw[show[l.getD i du].getD 0 du=l.getD i du from rfl,hn,hc];rfl
 simp only[uG,List.length_nil,kv,findN,e]
def hitZ (z s:Span):Bool:=decide (z.A<s.B)&&decide (s.A<z.B)
def qGT (zs:List qS) (s:Span):Int:=JD (λi m=>bif hitZ (zs.getD i du).z s then imax m (zs.getD i du).lack else m) 0 zs.length 0
theorem qOm (zs:List qS) (s:Span) (h:zs.length<=1000000):FW zs s=some (qGT zs s):=by
 unfold FW qGT;have k:=RU zs.length (λn (m:Int) i=>QP zs s n m i) (λi m=>bif hitZ (zs.getD i du).z s then imax m (zs.getD i du).lack else m) (λm=>m) (λ_ _=>True) 0 (by omega) (by omega)
  (λn i m hi _=>⟨by
   rw[QP,ka (by omega),zJ (by omega)];simp only[kn,ks,zN (show i<4611686018427387904 by omega),NJ,NU,hitZ];cases decide ((zs.getD i du).z.A<s.B)<;>cases decide (s.A<(zs.getD i du).z.B)<;>rfl,trivial⟩)
  (λn m _=>by rw[QP,ke (by omega)];rfl) 0 trivial
 rw[show((0:Nat):Int)=0 from rfl,uw] at k;rw[k.1];rfl
def dstep (ds:List qJ) (b:Box) (fine:Int) (i:Nat) (v:Int):(Int×Bool)⊕Int:=
 bif tch (ds.getD i du).Box b then(bif (ds.getD i du).Kind==3 then .inl (0,false) else .inr (v-fine)) else .inr v
def qBf (ds:List qJ) (b:Box) (fine v:Int):Int×Bool:=match runN (dstep ds b fine) 0 ds.length v with| .inl e=>e| .inr o=>(imax o 0,true)
def worthV (v:qV) (s:Span) (fine:Int):Int×Bool:=
 if 0<=s.A/\s.A<s.B/\s.B<=v.length then
  bif (price v.product (s.B-s.A)).2 then
   if qGT v.zones s>v.product.Wane then(0,false) else qBf v.defects ⟨v.rect.X,v.rect.Y,s⟩ fine (price v.product (s.B-s.A)).1
  else(0,false)
 else(0,false)
theorem qLn {p:Product} (h:VP p) (n:Int):0<=(price p n).1/\(price p n).1<=1000000:=by
 unfold price;cases hf:findN (priceAt p n) 0 p.Lengths.length with
 |inr u=>exact⟨show(0:Int)<=0 by decide,show(0:Int)<=1000000 by decide⟩
 |inl e=>
  obtain⟨i,a,b,c,d⟩:=XW hf;unfold priceAt at c;split at c
  ·cases c
  ·split at c
   ·cases c;exact⟨by decide,by decide⟩
   ·cases c;exact h.pb _ (KD (by omega))
theorem qM5 (v:qV) (s:Span) {fine v0:Int} (hf:0<=fine/\fine<=1000000) (hv:0<=v0/\v0<=1000000) (hl:v.defects.length<=64):
  ((zV v fine ⟨v.rect.X,v.rect.Y,s⟩ FUEL v0 0).bind λu=>Sum.elim (λw=>some w) (λo=>some (imax o 0,true)) u)=some (qBf v.defects ⟨v.rect.X,v.rect.Y,s⟩ fine v0):=by
 have k:=qAc v.defects.length (λn (m:Int) i=>zV v fine ⟨v.rect.X,v.rect.Y,s⟩ n m i) (dstep v.defects ⟨v.rect.X,v.rect.Y,s⟩ fine) (λr=>r) (λi m=> -(1000000*(i:Int))<=m/\m<=1000000)
  (λn i m hi hm=>by
   unfold dstep;have e:zV v fine ⟨v.rect.X,v.rect.Y,s⟩ (n+1) m (i:Int)=bif tch (v.defects.getD i du).Box ⟨v.rect.X,v.rect.Y,s⟩ then(bif (v.defects.getD i du).Kind==3 then some (.inl (0,false)) else zV v fine ⟨v.rect.X,v.rect.Y,s⟩ n (m-fine) ((i+1:Nat):Int)) else zV v fine ⟨v.rect.X,v.rect.Y,s⟩ n m ((i+1:Nat):Int):=by
    rw[zV,ka (by omega),zJ (by omega)];simp only[kn,ks,zN (show i<4611686018427387904 by omega),qGY,kg,PL];rw[qU (n:=m-fine) (by omega)];cases tch (v.defects.getD i du).Box ⟨v.rect.X,v.rect.Y,s⟩<;>cases (v.defects.getD i du).Kind==3<;>rfl
   cases h1:tch (v.defects.getD i du).Box ⟨v.rect.X,v.rect.Y,s⟩ with
   |false=>rw[h1] at e;exact⟨e,by omega⟩
   |true=>cases h2:(v.defects.getD i du).Kind==3 with
    |true=>rw[h1,h2] at e;exact e
    |false=>rw[h1,h2] at e;exact⟨e,by omega⟩)
  (λn m _=>by rw[zV,ke (by omega)];rfl) FUEL 0 v0 (by rw[yU];omega) (by omega) (by omega)
 rw[show((0:Nat):Int)=0 from rfl,uw] at k;rw[k];unfold qBf;cases runN (dstep v.defects ⟨v.rect.X,v.rect.Y,s⟩ fine) 0 v.defects.length v0<;>rfl
theorem qNL (v:qV) (s:Span) {fine:Int} (hf:0<=fine/\fine<=1000000) (hp:VP v.product) (hl:v.defects.length<=64) (hz:v.zones.length<=1000000) (hn:v.length<=20000):
  YA v s fine=some (worthV v s fine):=by
 unfold YA worthV NB XN;have hll:=hp.ll;by_cases c1:s.A≥0
 ·rw[ka c1];by_cases c2:s.A<s.B
  ·rw[ka c2];by_cases c3:s.B<=v.length
   ·rw[ka c3,if_pos ⟨c1,c2,c3⟩,qU (n:=s.B-s.A) (by omega)];simp only[kn,kg,kV,kp,qNS v.product (s.B-s.A) (by omega),qOm v.zones s hz,PP,KN];cases hq:(price v.product (s.B-s.A)).2 with
    |false=>rfl
    |true=>
     simp only[kV,kp,kn];by_cases c4:qGT v.zones s>v.product.Wane
     ·rw[ka c4,if_pos c4];rfl
     ·rw[ke c4,if_neg c4];simp only[kp];exact qM5 v s hf (qLn hp _) hl
   ·rw[ke c3,if_neg (λh=>c3 h.2.2)];rfl
  ·rw[ke c2,if_neg (λh=>c2 h.2.1)];rfl
 ·rw[ke c1,if_neg (λh=>c1 h.1)];rfl
theorem qOj {ds:List qJ} {b:Box} {fine v:Int} (hf:0<=fine) (hv:0<=v/\v<=1000000):0<=(qBf ds b fine v).1/\(qBf ds b fine v).1<=1000000:=by
 unfold qBf;cases hr:runN (dstep ds b fine) 0 ds.length v with
 |inl e=>
  have:∀(k x:Nat) (w:Int),runN (dstep ds b fine) x k w= .inl e->e=(0,false):=by
   intro k
   induction k with
   |zero=>intro x w h;cases h
   |succ k ih=>
    intro x w h;unfold runN at h;cases hd:dstep ds b fine x w with
    |inr w'=>rw[hd] at h;exact ih _ _ h
    |inl e'=>
     rw[hd] at h;cases h;unfold dstep at hd;cases h1:tch (ds.getD x du).Box b with
     |false=>rw[h1] at hd;cases hd
     |true=>cases h2:(ds.getD x du).Kind==3 with
      |false=>rw[h1,h2] at hd;cases hd
      |true=>rw[h1,h2] at hd;cases hd;rfl
  rw[this _ _ _ hr];decide
 |inr o=>
  have:=runN_inv (dstep ds b fine) (λ_ m=>m<=1000000) ds.length (λx m m' _ hm e=>by
   unfold dstep at e;cases h1:tch (ds.getD x du).Box b with
   |false=>rw[h1] at e;cases e;exact hm
   |true=>cases h2:(ds.getD x du).Kind==3 with
    |true=>rw[h1,h2] at e;cases e
    |false=>rw[h1,h2] at e;cases e;show m-fine<=1000000;omega) ds.length 0 v o (by omega) hv.2 hr
  have h2:=GR o 0;simp only;omega
theorem qN8 {v:qV} {s:Span} {fine:Int} (hf:0<=fine) (hp:VP v.product):0<=(worthV v s fine).1/\(worthV v s fine).1<=1000000/\((worthV v s fine).2=true->0<=s.A/\s.A<s.B/\s.B<=v.length):=by
 unfold worthV;split
 ·rename_i h;cases (price v.product (s.B-s.A)).2 with
  |false=>exact⟨show(0:Int)<=0 by decide,show(0:Int)<=1000000 by decide,λh=>by cases h⟩
  |true=>
   simp only[kn];split
   ·exact⟨by decide,by decide,λh=>by cases h⟩
   ·have:=qOj (ds:=v.defects) (b:=⟨v.rect.X,v.rect.Y,s⟩) hf (qLn hp (s.B-s.A));exact⟨this.1,this.2,λ_=>h⟩
 ·exact⟨by decide,by decide,λh=>by cases h⟩
def dimOk (r:Rect) (p:Product):Bool:=((r.X.B-r.X.A==(yS p).1)&&(r.Y.B-r.Y.A==(yS p).2))||((r.X.B-r.X.A==(yS p).2)&&(r.Y.B-r.Y.A==(yS p).1))
def near (ds:List qJ) (b:Box):List qJ:=JD (λi t=>bif tch (ds.getD i du).Box b then t++[ds.getD i du] else t) 0 ds.length []
theorem qOE (ds:List qJ) (b:Box):(near ds b).length<=ds.length:=by
 unfold near;have:∀k,(JD (λi t=>bif tch (ds.getD i du).Box b then t++[ds.getD i du] else t) 0 k ([]:List qJ)).length<=k:=by
  intro k
  induction k with
  |zero=>simp[JD]
  |succ k ih=>
   rw[qCg];cases tch (ds.getD (0+k) du).Box b with
   |true=>simp only[kn,kD,uG,List.length_nil];omega
   |false=>simp only[kp];omega
 exact this _
def qBt (l:List qG) (ds:List qJ) (p:Product) (r:Rect):qV:=⟨p,r,qY l,zones l r,near ds ⟨r.X,r.Y,⟨0,qY l⟩⟩⟩
def qMQ :qV:=⟨⟨⟨#[]⟩,0,0,0,0,[],[]⟩,⟨⟨0,0⟩,⟨0,0⟩⟩,0,[],[]⟩
theorem look_eq {l:List qG} {ds:List qJ} {p:Product} {r:Rect} (hs:VSol l) (hd:LK ds=0) (hp:ZL [p]=0) (hr:VR r):
  MQ l ds p r=some (bif dimOk r p then(qBt l ds p r,true) else(qMQ,false)):=by
 have hdl:=((qCn ds).1 hd).1;unfold MQ;rw[(qCe l).1,(HG l).2 hs,qJ4,hd,qJY,hp,qNK,ka hr];simp only[kg,ul,kp,kV];unfold RC;rw[(qFq p).1];have hr':=hr;unfold VR at hr';rw[qU (n:=r.X.B-r.X.A) (by omega),qU (n:=r.Y.B-r.Y.A) (by omega)];have K:∀b,GE l ds p r b=some (bif b then(qMQ,false) else(qBt l ds p r,true)):=λb=>by
  unfold GE;cases b with
  |true=>rfl
  |false=>
   rw[(qDz l).1,OB hs,qN0 hs hr];simp only[kg,kp,KN];have k:=RU ds.length (λn (t:List qJ) i=>JA ds ⟨r.X,r.Y,⟨0,qY l⟩⟩ n i t) (λi t=>bif tch (ds.getD i du).Box ⟨r.X,r.Y,⟨0,qY l⟩⟩ then t++[ds.getD i du] else t) (λt=>t) (λi t=>t.length<=i) 0 (by omega) (by omega)
    (λn i t hi ht=>by
     refine⟨?_,?_⟩
     ·rw[JA,ka (by omega),zJ (by omega)];simp only[kn,ks,zN (show i<4611686018427387904 by omega),qGY,kg,LF];rw[WI (by omega)];cases tch (ds.getD i du).Box ⟨r.X,r.Y,⟨0,qY l⟩⟩<;>rfl
     ·cases tch (ds.getD i du).Box ⟨r.X,r.Y,⟨0,qY l⟩⟩ with
      |true=>simp only[kn,kD,uG,List.length_nil];omega
      |false=>simp only[kp];omega)
    (λn t _=>by rw[JA,ke (by omega)];rfl) [] (by simp)
   rw[show((0:Nat):Int)=0 from rfl,uw] at k;rw[k.1];rfl
 simp only[kg,kp,K,Bool.and_true,dimOk];cases (r.X.B-r.X.A==(yS p).1)&&(r.Y.B-r.Y.A==(yS p).2)<;>cases (r.X.B-r.X.A==(yS p).2)&&(r.Y.B-r.Y.A==(yS p).1)<;>rfl
def spanAt (p:Product) (z:Int) (i:Nat):Span:=⟨z,z+p.Lengths.getD i du⟩
def qC6 (st:Int×Bool×Span) (v:Int×Bool) (s:Span):Int×Bool×Span:=bif v.2&&(!st.2.1||decide (v.1>st.1)) then(v.1,true,s) else st
def qGw (v:qV) (fine z:Int) (st:Int×Bool×Span):Int×Bool×Span:=JD (λi st=>qC6 st (worthV v (spanAt v.product z i) fine) (spanAt v.product z i)) 0 v.product.Lengths.length st
def OI (n step:Int):Nat:=((n+step-1)/step).toNat
def bestV (v:qV) (step fine:Int):Int×Bool×Span:=JD (λk st=>qGw v fine ((k:Int)*step) st) 0 (OI v.length step) (0,false,⟨0,0⟩)
theorem qIB {n step:Int} (h0:0<=n) (h1:1<=step) {k:Nat}:k<OI n step↔(k:Int)*step<n:=by
 unfold OI;have hd:0<=(n+step-1)/step:=Int.ediv_nonneg (by omega) (by omega);have a:(k:Int)<(n+step-1)/step↔((k:Int)+1)*step<=n+step-1:=by
  rw[<-Int.le_ediv_iff_mul_le (by omega)];omega
 have e:((k:Int)+1)*step=(k:Int)*step+step:=by rw[uC];simp
 rw[e] at a;omega
def BI' (n:Int) (st:Int×Bool×Span):Prop:=0<=st.1/\st.1<=1000000/\(st.2.1=true->0<=st.2.2.A/\st.2.2.A<st.2.2.B/\st.2.2.B<=n)
theorem qNg {n:Int} {st:Int×Bool×Span} {v:Int×Bool} {s:Span} (h:BI' n st) (hv:0<=v.1/\v.1<=1000000/\(v.2=true->0<=s.A/\s.A<s.B/\s.B<=n)):BI' n (qC6 st v s):=by
 unfold qC6;cases hc:v.2&&(!st.2.1||decide (v.1>st.1)) with
 |false=>exact h
 |true=>
  have:v.2=true:=by cases h2:v.2 with|true=>rfl|false=>rw[h2] at hc;cases hc
  exact⟨hv.1,hv.2.1,λ_=>hv.2.2 this⟩
theorem qDg {σ:Type} {f:Nat->σ->σ} {P:σ->Prop}:∀{k x:Nat} {s:σ},P s->(∀i s,x<=i->i<x+k->P s->P (f i s))->P (JD f x k s)
 |0,_,_,h,_=>h
 |k+1,x,s,h,hf=>by
  unfold JD;exact qDg (k:=k) (hf x s (kf _) (by omega) h) (λi s h1 h2=>hf i s (by omega) (by omega))
theorem qMW {v:qV} {fine z:Int} {st:Int×Bool×Span} (hf:0<=fine) (hp:VP v.product) (h:BI' v.length st):BI' v.length (qGw v fine z st):=
 qDg h (λi s _ _ hs=>qNg hs (qN8 hf hp))
theorem qOA {v:qV} {step fine:Int} (hf:0<=fine) (hp:VP v.product):BI' v.length (bestV v step fine):=
 qDg ⟨by decide,by decide,λh=>by cases h⟩ (λi s _ _ hs=>qMW hf hp hs)
theorem qNk (v:qV) {fine z:Int} (hf:0<=fine/\fine<=1000000) (hp:VP v.product) (hl:v.defects.length<=64) (hz:v.zones.length<=1000000) (hn:v.length<=20000) (h0:0<=z) (h1:z<=20000) (a b:Bool) (st:Int×Bool×Span):
  yP v.product fine (v,a) z FUEL st.1 st.2.1 0 st.2.2=some (qGw v fine z st):=by
 have hll:=hp.ll;have k:=RU v.product.Lengths.length (λn (s:Int×Bool×Span) i=>yP v.product fine (v,a) z n s.1 s.2.1 i s.2.2) (λi st=>qC6 st (worthV v (spanAt v.product z i) fine) (spanAt v.product z i)) (λs=>s) (λ_ _=>True) 0 (by omega) (by omega)
  (λn i s hi _=>⟨by
   obtain⟨s1,s2,s3⟩:=s;have lb:=hp.lb i hi
   try simp only
   rw[yP,ka (by omega),zJ (by omega)];simp only[kn,ks,zN (show i<4611686018427387904 by omega)];rw[qU (n:=z+v.product.Lengths.getD i du) (by omega)];have e:YA ⟨v.product,v.rect,v.length,v.zones,v.defects⟩ ⟨z,z+v.product.Lengths.getD i du⟩ fine=some (worthV v (spanAt v.product z i) fine):=qNL v (spanAt v.product z i) hf hp hl hz hn;rw[e];simp only[kg,GD,LM,qC6,ks,zN (show i<4611686018427387904 by omega)];rw[qU (n:=z+v.product.Lengths.getD i du) (by omega)];cases (worthV v (spanAt v.product z i) fine).2<;>cases s2<;>cases decide ((worthV v (spanAt v.product z i) fine).1>s1)<;>rfl,trivial⟩)
  (λn s _=>by rw[yP,ke (by omega)];rfl) st trivial
 rw[show((0:Nat):Int)=0 from rfl,uw] at k;exact k.1
theorem qNV (v:qV) {step fine:Int} (hf:0<=fine/\fine<=1000000) (hs:1<=step/\step<=20000) (hp:VP v.product) (hl:v.defects.length<=64) (hz:v.zones.length<=1000000) (hn:0<=v.length/\v.length<=20000) (a:Bool):
  XI v.product step fine (v,a) FUEL 0 false 0 ⟨0,0⟩=some (bestV v step fine):=by
 have hN:OI v.length step<=1000000000:=by
  unfold OI;have:=Int.ediv_le_self step (show 0<=v.length+step-1 by omega);omega
 have k:=qL9 (OI v.length step) (λn (s:Int×Bool×Span) (z:Int)=>XI v.product step fine (v,a) n s.1 s.2.1 z s.2.2) (λk=>(k:Int)*step) (λk st=>qGw v fine ((k:Int)*step) st) (λs=>s) (λ_ _=>True) hN
  (λn i s hi _=>⟨by
   have h1:=(qIB hn.1 hs.1).1 hi;have h0:0<=(i:Int)*step:=kO (by omega) (by omega);have e:(i:Int)*step+step=((i+1:Nat):Int)*step:=by rw[Int.natCast_add,uC];simp
   try simp only
   rw[XI,ka h1,qNk v hf hp hl hz hn.2 h0 (by omega) a true s,qU (by omega),e];rfl,trivial⟩)
  (λn s _=>by
   have h1:¬((OI v.length step:Nat):Int)*step<v.length:=λh=>by have:=(qIB hn.1 hs.1).2 h;omega
   try simp only
   rw[XI,ke h1];rfl) (0,false,⟨0,0⟩) trivial
 simp only[Int.natCast_zero,Int.zero_mul] at k;exact k.1
def bestR (l:List qG) (ds:List qJ) (p:Product) (r:Rect) (step fine:Int):Int×Bool×Span:=bif dimOk r p then bestV (qBt l ds p r) step fine else(0,false,⟨0,0⟩)
theorem qNw (l:List qG) (r:Rect):(zones l r).length=l.length:=by unfold zones;simp
theorem qFf {l:List qG} (h:VSol l):1<=qY l/\qY l<=20000:=by
 have:=h.bd (kf l.length);have:=h.ne;unfold qY;omega
theorem qJ0 {l:List qG} {ds:List qJ} {p:Product} {r:Rect} {step fine:Int} (hf:0<=fine) (hp:VP p):BI' (qY l) (bestR l ds p r step fine):=by
 unfold bestR;cases dimOk r p with
 |true=>exact qOA (v:=qBt l ds p r) hf hp
 |false=>exact⟨show(0:Int)<=0 by decide,show(0:Int)<=1000000 by decide,λh=>by cases h⟩
theorem qKR {l:List qG} {ds:List qJ} {p:Product} {r:Rect} {step fine:Int} (hs:VSol l) (hd:LK ds=0) (hp:ZL [p]=0) (hv:VP p) (hr:VR r) (hst:1<=step/\step<=20000) (hf:0<=fine/\fine<=1000000):
  VX l ds p r step fine=some ((bestR l ds p r step fine).2.2,(bestR l ds p r step fine).1,(bestR l ds p r step fine).2.1):=by
 have hdl:=((qCn ds).1 hd).1;have hl:=hs.len;unfold VX LO;rw[qID,qIt,ka hst,ka hf];simp only[kg,kV,kp,look_eq hs hd hp hr];unfold bestR;cases dimOk r p with
 |false=>rfl
 |true=>
  simp only[kn,kV,kp];have nl:=qOE ds ⟨r.X,r.Y,⟨0,qY l⟩⟩;have sb:=qFf hs;have k:=qNV (qBt l ds p r) (step:=step) hf hst hv (by show(near ds _).length<=64;omega) (by show(zones l r).length<=1000000;rw[qNw];omega) ⟨by show 0<=qY l;omega,sb.2⟩ true;rw[show(qBt l ds p r).product=p from rfl] at k;rw[k];rfl
end Saw
end Go.SL

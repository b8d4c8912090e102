/- Edge's plain mathematics, part 5: defects, rates, rectangles; the check of an edging. -/
import Derived.Test.YtpommeghjpbepaaEMa3
set_option linter.unusedVariables false
set_option linter.unusedSimpArgs false
namespace Go.SL
namespace Saw
def insS (s:Span) (lo hi:Int):Bool:=decide ((lo<=s.A/\lo<=s.B)/\(s.A<=hi/\s.B<=hi))
theorem qMt (s:Span) (lo hi:Int):YK s lo hi=some (insS s lo hi):=by
 unfold YK TY insS;have a:=imin_or s.A s.B;have b:=VB s.A s.B;by_cases h1:imin s.A s.B≥lo
 ·rw[ka h1];by_cases h2:imax s.A s.B<=hi
  ·rw[ka h2,ka (by omega)];rfl
  ·rw[kd h2,kd (by omega)];rfl
 ·rw[kd h1,kd (show¬((lo<=s.A/\lo<=s.B)/\(s.A<=hi/\s.B<=hi)) by omega)];rfl
def chkD (d:qH):Int:=
 if d.Kind<1\/6<d.Kind then 10
 else bif empS d.Box.X||(empS d.Box.Y||empS d.Box.Z) then 19
 else bif insS d.Box.X (-600) 600&&(insS d.Box.Y (-600) 600&&insS d.Box.Z 0 20000) then 0 else 9
theorem qG2 (s:Span):QF s=some (empS s):=rfl
theorem chkD_eq (d:qH):DG d=some (chkD d):=by
 unfold DG VF PR PE chkD;simp only[qG2,qMt,kg];by_cases h1:d.Kind<1
 ·rw[ka h1,if_pos (.inl h1)];rfl
 rw[kd h1];by_cases h2:d.Kind>6
 ·rw[ka h2,if_pos (.inr h2)];rfl
 rw[kd h2,if_neg (by omega)];cases empS d.Box.X<;>cases empS d.Box.Y<;>cases empS d.Box.Z<;>cases insS d.Box.X (-600) 600<;>cases insS d.Box.Y (-600) 600<;>cases insS d.Box.Z 0 20000<;>rfl
structure VD (d:qH):Prop where
 k1:1<=d.Kind
 k2:d.Kind<=6
 x:d.Box.X.A<d.Box.X.B/\-600<=d.Box.X.A/\d.Box.X.B<=600
 y:d.Box.Y.A<d.Box.Y.B/\-600<=d.Box.Y.A/\d.Box.Y.B<=600
 z:d.Box.Z.A<d.Box.Z.B/\0<=d.Box.Z.A/\d.Box.Z.B<=20000
theorem qLk (d:qH):chkD d=0↔VD d:=by
 unfold chkD;by_cases h1:d.Kind<1\/6<d.Kind
 ·rw[if_pos h1];exact⟨λh=>absurd h (by decide),λh=>by have:=h.k1;have:=h.k2;omega⟩
 rw[if_neg h1];cases hx:empS d.Box.X with
 |true=>exact⟨λh=>absurd (show(19:Int)=0 from h) (by decide),λh=>by have:=h.x;have:=kV hx;omega⟩
 |false=>
 cases hy:empS d.Box.Y with
 |true=>exact⟨λh=>absurd (show(19:Int)=0 from h) (by decide),λh=>by have:=h.y;have:=kV hy;omega⟩
 |false=>
 cases hz:empS d.Box.Z with
 |true=>exact⟨λh=>absurd (show(19:Int)=0 from h) (by decide),λh=>by have:=h.z;have:=kV hz;omega⟩
 |false=>
 have ex:=of_decide_eq_false hx;have ey:=of_decide_eq_false hy;have ez:=of_decide_eq_false hz;unfold insS;by_cases i1:(-600<=d.Box.X.A/\-600<=d.Box.X.B)/\d.Box.X.A<=600/\d.Box.X.B<=600
 ·rw[ka i1];by_cases i2:(-600<=d.Box.Y.A/\-600<=d.Box.Y.B)/\d.Box.Y.A<=600/\d.Box.Y.B<=600
  ·rw[ka i2];by_cases i3:(0<=d.Box.Z.A/\0<=d.Box.Z.B)/\d.Box.Z.A<=20000/\d.Box.Z.B<=20000
   ·rw[ka i3];exact⟨λ_=>⟨by omega,by omega,by omega,by omega,by omega⟩,λ_=>rfl⟩
   ·rw[kd i3];exact⟨λh=>absurd h (by decide),λh=>by have:=h.z;omega⟩
  ·rw[kd i2];exact⟨λh=>absurd (show(9:Int)=0 from h) (by decide),λh=>by have:=h.y;omega⟩
 ·rw[kd i1];exact⟨λh=>absurd (show(9:Int)=0 from h) (by decide),λh=>by have:=h.x;omega⟩
def badD (d:qH):Option Int:=bif chkD d !=0 then some (chkD d) else none
def LA (l:List qH):Int:=if 64<l.length then 4 else match findE badD l with| .inl e=>e| .inr _=>0
theorem qJe (l:List qH):XV l=some (LA l):=by
 unfold XV LA;by_cases h:64<l.length
 ·rw[if_pos h,ka (by omega)];rfl
 rw[if_neg h,kd (by omega)];have L:ZW l FUEL 0=some (findE badD l):=by
  refine DC l (ZW l) badD (by omega) (λn x hx=>?_) (λn=>?_)
  ·rw[ZW,ka (by omega),zH (by omega)];simp only[ki,ks,zM (show x<4611686018427387904 by omega),chkD_eq,kg,badD];cases chkD (l.getD x du) !=0<;>rfl
  ·rw[ZW,kd (by omega)];rfl
 rw[L];simp only[kp,kg];cases findE badD l<;>rfl
theorem qHt {d:qH}:badD d=none↔VD d:=by
 rw[<-qLk];unfold badD;by_cases h:chkD d=0
 ·rw[h];simp
 ·rw[show(chkD d !=0)=true by rw[uq];exact h];simp[h]
theorem qBn (l:List qH):LA l=0↔l.length<=64/\∀d∈l,VD d:=by
 unfold LA;by_cases h:64<l.length
 ·rw[if_pos h];exact⟨λh=>absurd h (by decide),λh=>by omega⟩
 rw[if_neg h];cases hf:findE badD l with
 |inl e=>
  obtain⟨a,ha,hb⟩:=OS hf;simp only;have hn:e≠0:=by
   unfold badD at hb;cases hc:chkD a !=0 with
   |true=>rw[hc] at hb;cases hb;exact uq.1 hc
   |false=>rw[hc] at hb;cases hb
  exact⟨λh=>absurd h hn,λh=>by rw[qHt.2 (h.2 a ha)] at hb;cases hb⟩
 |inr u=>exact⟨λ_=>⟨by omega,λd hd=>qHt.1 (MB.1 hf d hd)⟩,λ_=>rfl⟩
structure VW (s:Saw) (r:Rates):Prop where
 kerf:0<=s.Kerf/\s.Kerf<=20
 trim:0<=s.Trim/\s.Trim<=20
 pitch:1<=s.Pitch/\s.Pitch<=2000
 step:1<=s.Step/\s.Step<=20000
 chip:0<=r.Chip/\r.Chip<=1000
 dust:0<=r.Dust/\r.Dust<=1000
 fine:0<=r.Fine/\r.Fine<=1000000
theorem qHG (n:Int):TE n=some (decide (1<=n/\n<=20000)):=by
 unfold TE VG;by_cases h1:n≥1
 ·rw[ka h1];by_cases h2:n<=20000
  ·rw[ka h2,ka ⟨h1,h2⟩];rfl
  ·rw[kd h2,kd (λh=>h2 h.2)];rfl
 ·rw[kd h1,kd (show¬(1<=n/\n<=20000) from λh=>h1 h.1)];rfl
theorem qG7 (n:Int):RR n=some (decide (0<=n/\n<=1000000)):=by
 unfold RR VM;by_cases h1:n≥0
 ·rw[ka h1];by_cases h2:n<=1000000
  ·rw[ka h2,ka ⟨h1,h2⟩];rfl
  ·rw[kd h2,kd (λh=>h2 h.2)];rfl
 ·rw[kd h1,kd (show¬(0<=n/\n<=1000000) from λh=>h1 h.1)];rfl
open Classical in
noncomputable def qBi (s:Saw) (r:Rates):Int:=if VW s r then 0 else 9
theorem qBq (s:Saw) (r:Rates):qBi s r=0↔VW s r:=by
 unfold qBi;by_cases h:VW s r
 ·rw[if_pos h];simp[h]
 ·rw[if_neg h];simp[h]
theorem qMB (s:Saw) (r:Rates):UZ s r=some (qBi s r):=by
 unfold UZ XK TO JD;simp only[qHG,qG7,kg];have no:¬VW s r->qBi s r=9:=λh=>by unfold qBi;rw[if_neg h]
 by_cases c1:s.Kerf<0
 ·rw[ka c1,no (λh=>by have:=h.kerf;omega)];rfl
 rw[kd c1];by_cases c2:s.Kerf>20
 ·rw[ka c2,no (λh=>by have:=h.kerf;omega)];rfl
 rw[kd c2];by_cases c3:s.Trim<0
 ·rw[ka c3,no (λh=>by have:=h.trim;omega)];rfl
 rw[kd c3];by_cases c4:s.Trim>20
 ·rw[ka c4,no (λh=>by have:=h.trim;omega)];rfl
 rw[kd c4];simp only[kp];by_cases c5:s.Pitch<1
 ·rw[ka c5,no (λh=>by have:=h.pitch;omega)];rfl
 rw[kd c5];by_cases c6:s.Pitch>2000
 ·rw[ka c6,no (λh=>by have:=h.pitch;omega)];rfl
 rw[kd c6];by_cases c7:1<=s.Step/\s.Step<=20000
 ·rw[ka c7];simp only[kp,kT];by_cases d1:r.Chip<0
  ·rw[ka d1,no (λh=>by have:=h.chip;omega)];rfl
  rw[kd d1];by_cases d2:r.Chip>1000
  ·rw[ka d2,no (λh=>by have:=h.chip;omega)];rfl
  rw[kd d2];by_cases d3:r.Dust<0
  ·rw[ka d3,no (λh=>by have:=h.dust;omega)];rfl
  rw[kd d3];by_cases d4:r.Dust>1000
  ·rw[ka d4,no (λh=>by have:=h.dust;omega)];rfl
  rw[kd d4];by_cases d5:0<=r.Fine/\r.Fine<=1000000
  ·rw[ka d5,(qBq s r).2 ⟨by omega,by omega,by omega,by omega,by omega,by omega,by omega⟩];rfl
  ·rw[kd d5,no (λh=>d5 h.fine)];rfl
 ·rw[kd c7,no (λh=>c7 h.step)];rfl
def VR (r:Rect):Prop:=(-600<=r.X.A/\r.X.A<r.X.B/\r.X.B<=600)/\(-600<=r.Y.A/\r.Y.A<r.Y.B/\r.Y.B<=600)
instance (r :Rect):Decidable (VR r):=by unfold VR;exact inferInstance
def badR (lo hi:Int):Option Bool:=if lo< -600\/600<hi\/hi<=lo then some false else none
theorem IX {lo hi:Int}:badR lo hi=none↔-600<=lo/\lo<hi/\hi<=600:=by
 unfold badR;by_cases h:lo< -600\/600<hi\/hi<=lo
 ·rw[if_pos h];exact⟨λh=>(by cases h),λh=>by omega⟩
 ·rw[if_neg h];exact⟨λ_=>by omega,λ_=>rfl⟩
theorem qIY (r:Rect) (L:Nat->Int->Option (Bool⊕Unit))
  (h0:∀n,L (n+1) 0=match badR r.X.A r.X.B with|some e=>some (.inl e)|none=>L n 1)
  (h1:∀n,L (n+1) 1=match badR r.Y.A r.Y.B with|some e=>some (.inl e)|none=>L n 2)
  (h2:∀n,L (n+1) 2=some (.inr ())):((L FUEL 0).bind λu=>Sum.elim (λv=>some v) (λ_=>some true) u)=some (decide (VR r)):=by
 rw[yT,show(4611686018427387904:Nat)=4611686018427387901+1+1+1 from rfl,h0];cases hx:badR r.X.A r.X.B with
 |some e=>
  have:¬VR r:=λh=>by rw[IX.2 h.1] at hx;cases hx
  rw[kd this];unfold badR at hx;split at hx<;>cases hx;rfl
 |none=>
  simp only;rw[h1];cases hy:badR r.Y.A r.Y.B with
  |some e=>
   have:¬VR r:=λh=>by rw[IX.2 h.2] at hy;cases hy
   rw[kd this];unfold badR at hy;split at hy<;>cases hy;rfl
  |none=>
   simp only;rw[h2,ka (show VR r from⟨IX.1 hx,IX.1 hy⟩)];rfl
theorem qH9 {lo hi:Int} {α:Type} (k:Bool->α):(bif decide (lo< -600) then k true else bif decide (hi>600) then k true else k (decide (lo≥hi)))=k (match badR lo hi with|some _=>true|none=>false):=by
 unfold badR;by_cases h1:lo< -600
 ·rw[ka h1,if_pos (.inl h1)];rfl
 rw[kd h1];by_cases h2:hi>600
 ·rw[ka h2,if_pos (by omega)];rfl
 rw[kd h2];by_cases h3:lo≥hi
 ·rw[ka h3,if_pos (by omega)];rfl
 ·rw[kd h3,if_neg (by omega)];rfl
theorem qMl (r:Rect):GW r=some (decide (VR r)):=by
 unfold GW;refine qIY r (wM r) (λn=>?_) (λn=>?_) (λn=>?_)
 ·rw[wM,ka (by omega),zH (by omega)];simp only[ki];refine(qH9 (lo:=r.X.A) (hi:=r.X.B) (λb=>QS 0 (wM r n) b)).trans ?_;unfold badR QS;split<;>rename_i h<;>revert h<;>split<;>intro h<;>(try cases h)<;>rfl
 ·rw[wM,ka (by omega),zH (by omega)];simp only[ki];refine(qH9 (lo:=r.Y.A) (hi:=r.Y.B) (λb=>QS 1 (wM r n) b)).trans ?_;unfold badR QS;split<;>rename_i h<;>revert h<;>split<;>intro h<;>(try cases h)<;>rfl
 ·rw[wM,kd (by omega)];rfl
theorem qEP (r:Rect):YA r=some (decide (VR r)):=by
 unfold YA;refine qIY r (zX r) (λn=>?_) (λn=>?_) (λn=>?_)
 ·rw[zX,ka (by omega),zH (by omega)];simp only[ki];refine(qH9 (lo:=r.X.A) (hi:=r.X.B) (λb=>jT 0 (zX r n) b)).trans ?_;unfold badR jT;split<;>rename_i h<;>revert h<;>split<;>intro h<;>(try cases h)<;>rfl
 ·rw[zX,ka (by omega),zH (by omega)];simp only[ki];refine(qH9 (lo:=r.Y.A) (hi:=r.Y.B) (λb=>jT 1 (zX r n) b)).trans ?_;unfold badR jT;split<;>rename_i h<;>revert h<;>split<;>intro h<;>(try cases h)<;>rfl
 ·rw[zX,kd (by omega)];rfl
structure VE (s:List qG) (d:List qH) (p:List Product) (r:Rect) (w:Saw) (t:Rates):Prop where
 sol:VSol s
 dl:d.length<=64
 dd:∀x∈d,VD x
 pr:WK p=0
 vw:VW w t
 vr:VR r
end Saw
end Go.SL

namespace Go.SL
theorem qK0 {σ β ι:Type} (N:Nat) (L:Nat->σ->ι->Option β) (idx:Nat->ι) (f:Nat->σ->σ) (out:σ->β) (Inv:Nat->σ->Prop) (hN:N<=1000000000)
  (h0:∀n i s,i<N->Inv i s->L (n+1) s (idx i)=L n (f i s) (idx (i+1))/\Inv (i+1) (f i s))
  (h1:∀n s,Inv N s->L (n+1) s (idx N)=some (out s)) (s:σ) (hs:Inv 0 s):L FUEL s (idx 0)=some (out (WO f 0 N s))/\Inv N (WO f 0 N s):=by
 have key:∀k n x s,x+k=N->k<n->Inv x s->L n s (idx x)=some (out (WO f x k s))/\Inv N (WO f x k s):=by
  intro k
  induction k with
  |zero=>
   intro n x s hx hn hi;obtain⟨n,rfl⟩:∃m,n=m+1:=⟨n-1,by omega⟩
   rw[ub] at hx;subst hx;exact⟨h1 n s hi,hi⟩
  |succ k ih=>
   intro n x s hx hn hi;obtain⟨n,rfl⟩:∃m,n=m+1:=⟨n-1,by omega⟩
   have h:=h0 n x s (by omega) hi;rw[h.1];exact ih n (x+1) (f x s) (by omega) (by omega) h.2
 exact key N FUEL 0 s (by omega) (by rw[yT];omega) hs
namespace Saw
def priceAt (p:Product) (n:Int) (i:Nat):Option (Int×Bool):=
 if p.Lengths.getD i du≠n then none else if p.Prices.length<=i then some (0,false) else some (p.Prices.getD i du,true)
def price (p:Product) (n:Int):Int×Bool:=match findN (priceAt p n) 0 p.Lengths.length with| .inl e=>e| .inr _=>(0,false)
theorem qNa (p:Product) (n:Int) (h:p.Lengths.length<=1000000):UQ p n=some (price p n):=by
 unfold UQ price;have L:ZD p n FUEL ((0:Nat):Int)=some (findN (priceAt p n) 0 (p.Lengths.length-0)):=by
  refine BA p.Lengths.length (ZD p n) _ 0 (by omega) (by omega) (λm i hi hN=>?_) (λm=>?_)
  ·rw[ZD,ka (by omega),zH (by omega)];simp only[ki,ks,zM (show i<4611686018427387904 by omega),priceAt];by_cases c:p.Lengths.getD i du≠n
   ·rw[if_pos c,show(p.Lengths.getD i du !=n)=true by rw[uq];exact c];rfl
   rw[if_neg c,show(p.Lengths.getD i du !=n)=false by rw[uV];omega];by_cases c2:p.Prices.length<=i
   ·rw[if_pos c2,ka (show(i:Int)≥(p.Prices.length:Int) by omega)];rfl
   ·rw[if_neg c2,kd (show¬(i:Int)≥(p.Prices.length:Int) by omega),zH (by omega)];rfl
  ·rw[ZD,kd (by omega)];rfl
 rw[show((0:Nat):Int)=0 from rfl,uv] at L;rw[L];simp only[kg];cases findN (priceAt p n) 0 p.Lengths.length<;>rfl
def tch (d b:Box):Bool:=!(empS (mxS d.X b.X)||(empS (mxS d.Y b.Y)||empS (mxS d.Z b.Z)))
theorem qFD (d:qH) (b:Box):XO d b=some (tch d.Box b):=by
 unfold XO HF RU tch;simp only[zbQ,kg,qG2,qKA];cases empS (mxS d.Box.X b.X)<;>cases empS (mxS d.Box.Y b.Y)<;>cases empS (mxS d.Box.Z b.Z)<;>rfl
def DU (r:Rect):Int:=(r.X.B-r.X.A)*(r.Y.B-r.Y.A)
def qC4 (a w:Int):Int:=Int.tdiv (1000*(a-w)+a-1) a
def zones (l:List qG) (r:Rect):List qR:=(List.range l.length).map (λi=>⟨ext l i,qC4 (DU r) (wI (l.getD i du).Sec r.X r.Y)⟩)
theorem areaR_b {r:Rect} (h:VR r):1<=DU r/\DU r<=1440000:=by
 unfold VR at h;unfold DU;have a:=CG (a:=r.X.B-r.X.A) (b:=r.Y.B-r.Y.A) (m:=1200) (n:=1200) (by omega) (by omega) (by omega) (by omega) (by omega) (by omega);have b:=Int.mul_pos (show 0<r.X.B-r.X.A by omega) (show 0<r.Y.B-r.Y.A by omega);omega
theorem qM9 {l:List qG} (h:VSol l) {r:Rect} (hr:VR r):NJ l r=some (zones l r):=by
 have hl:=h.len;have ha:=areaR_b hr;have eA:w64 (w64 (r.X.B-r.X.A)*w64 (r.Y.B-r.Y.A))=DU r:=by
  have hr':=hr;unfold VR at hr';rw[qY (n:=r.X.B-r.X.A) (by omega),qY (n:=r.Y.B-r.Y.A) (by omega)];unfold DU at ha⊢;exact qY (by omega)
 unfold NJ
 let zn:Nat->qR:=λi=>⟨ext l i,qC4 (DU r) (wI (l.getD i du).Sec r.X r.Y)⟩
 have k:=PU l.length (λn (s:List qR×Int) i=>XP l r n s.1 s.2 i) (λi s=>(s.1++[zn i],wB l (i+1))) (λs=>s.1)
  (λi s=>s.1=(List.range i).map zn/\s.2=wB l i) 0 (by omega) (by omega)
  (λn i s hi hs=>by
   obtain⟨s1,s2⟩:=s;obtain⟨e1,e2⟩:=hs;simp only at e1 e2;have b:=h.bd (i:=i) (by omega);have b':=h.bd (i:=i+1) (by omega);have wb:=qIu (h.at hi).1 r.X r.Y;rw[wY] at b';have e1':s1.length=i:=by rw[e1];simp
   refine⟨?_,by rw[e1,List.range_succ,List.map_append];rfl,rfl⟩;simp only;rw[XP,ka (by omega),zH (by omega)];simp only[ki,ks,zM (show i<4611686018427387904 by omega),qHo,kg,eA,e2];rw[qED (h.at hi).1,nz_t (by omega),YR (by omega),qY (n:=wB l i+(l.getD i du).Len) (by omega),
    qY (n:=DU r-wI (l.getD i du).Sec r.X r.Y) (by omega),qY (n:=1000*_) (by omega),qY (n:=1000*_+_) (by omega),qY (n:=1000*_+_-1) (by omega)]
   simp only[ki];have tb: -2000000000<=qC4 (DU r) (wI (l.getD i du).Sec r.X r.Y)/\qC4 (DU r) (wI (l.getD i du).Sec r.X r.Y)<=2000000000:=by
    unfold qC4;generalize hu:1000*(DU r-wI (l.getD i du).Sec r.X r.Y)+DU r-1=u;have hub: -1440000000<=u/\u<=1441440000:=by omega
    have ab:=Int.natAbs_tdiv_le_natAbs u (DU r);omega
   unfold qC4 at tb;rw[qY (by omega)];rfl)
  (λn s _=>by rw[XP,kd (by omega)];rfl) ([],0) ⟨rfl,rfl⟩
 rw[show((0:Nat):Int)=0 from rfl] at k;rw[k.1];exact congrArg some k.2.1
structure VP (p:Product):Prop where
 nm:isNm p.Name=true
 th:5<=p.Thick/\p.Thick<=300
 wd:p.Thick<=p.Width/\p.Width<=600
 al:0<=p.Allow/\p.Allow<=200
 wn:0<=p.Wane/\p.Wane<=1000
 gr:(yJ p).2<=600
 ll:1<=p.Lengths.length/\p.Lengths.length<=8
 pl:p.Prices.length=p.Lengths.length
 lb:∀i,i<p.Lengths.length->100<=p.Lengths.getD i du/\p.Lengths.getD i du<=20000
 pb:∀x∈p.Prices,0<=x/\x<=1000000
theorem qJU {p:Product} (hn:isNm p.Name=true) (h:UX p=0):VP p:=by
 unfold UX at h;by_cases h1:p.Thick<5\/300<p.Thick\/p.Width<p.Thick\/600<p.Width\/p.Allow<0\/200<p.Allow\/p.Wane<0\/1000<p.Wane
 ·rw[if_pos h1] at h;exact absurd h (by decide)
 rw[if_neg h1] at h;by_cases h2:600<(yJ p).2
 ·rw[if_pos h2] at h;exact absurd h (by decide)
 rw[if_neg h2] at h;unfold qIE at h;by_cases h3:p.Lengths.length=0
 ·rw[if_pos h3] at h;exact absurd h (by decide)
 rw[if_neg h3] at h;by_cases h4:8<p.Lengths.length
 ·rw[if_pos h4] at h;exact absurd h (by decide)
 rw[if_neg h4] at h;by_cases h5:p.Prices.length≠p.Lengths.length
 ·rw[if_pos h5] at h;exact absurd h (by decide)
 rw[if_neg h5] at h;cases hf:findN (badLen p) 0 p.Lengths.length with
 |inl e=>
  rw[hf] at h;obtain⟨i,a,b,c,d⟩:=YX hf;unfold badLen at c;simp only at h;subst h;split at c
  ·cases c
  ·split at c<;>cases c
 |inr u=>
  rw[hf] at h;cases hg:findE badPr p.Prices with
  |inl e=>
   rw[hg] at h;obtain⟨a,ha,hb⟩:=OS hg;simp only at h;subst h;unfold badPr at hb;split at hb<;>cases hb
  |inr u'=>
   refine⟨hn,by omega,by omega,by omega,by omega,by omega,by omega,by omega,λi hi=>?_,λx hx=>?_⟩
   ·have:=TT.1 hf i (by omega) (by omega);unfold badLen at this;split at this
    ·cases this
    ·omega
   ·have:=MB.1 hg x hx;unfold badPr at this;split at this
    ·cases this
    ·omega
theorem qG4 {p:Product} (hn:isNm p.Name=true) {l:List Product} {i:Nat} (h:badP l i=none) (e:l.getD i du=p):UX p=0:=by
 unfold badP at h;rw[e,hn] at h;simp only[ki] at h;cases hf:findN (twin l i) 0 i with
 |inl e=>rw[hf] at h;cases h
 |inr u=>
  rw[hf] at h;by_cases hc:UX p=0
  ·exact hc
  ·rw[show(UX p !=0)=true by rw[uq];exact hc] at h;cases h
theorem qGC {l:List Product} {i:Nat} (h:badP l i=none):isNm (l.getD i du).Name=true:=by
 unfold badP at h;cases hn:isNm (l.getD i du).Name with
 |true=>rfl
 |false=>rw[hn] at h;cases h
theorem qIw {l:List Product} (h:WK l=0) {i:Nat} (hi:i<l.length):badP l i=none:=by
 unfold WK at h;split at h
 ·exact absurd h (by decide)
 ·cases hf:findN (badP l) 0 l.length with
  |inr u=>exact TT.1 hf i (by omega) (by omega)
  |inl e=>
   rw[hf] at h;simp only at h;subst h;obtain⟨j,a,b,c,d⟩:=YX hf;unfold badP at c;cases hn:isNm (l.getD j du).Name with
   |false=>rw[hn] at c;cases c
   |true=>
    rw[hn] at c;simp only[ki] at c;cases hf':findN (twin l j) 0 j with
    |inl e=>
     rw[hf'] at c;obtain⟨i',a',b',c',d'⟩:=YX hf';unfold twin at c';cases c;cases hs:strEq (l.getD i' du).Name (l.getD j du).Name<;>rw[hs] at c'<;>cases c'
    |inr u=>
     rw[hf'] at c;cases hz:UX (l.getD j du) !=0 with
     |true=>rw[hz] at c;simp only[ki] at c;injection c with c;exact absurd c (uq.1 hz)
     |false=>rw[hz] at c;cases c
theorem qIr {l:List Product} (h:WK l=0) {i:Nat} (hi:i<l.length):VP (l.getD i du):=by
 have b:=qIw h hi;exact qJU (qGC b) (qG4 (qGC b) b rfl)
theorem qLM {l:List Product} (h:WK l=0) {i:Nat} (hi:i<l.length):WK [l.getD i du]=0:=by
 have b:=qIw h hi;have hn:=qGC b;have hc:=qG4 hn b rfl;unfold WK;rw[if_neg (by simp)];have e:badP [l.getD i du] 0=none:=by
  unfold badP;rw[show[l.getD i du].getD 0 du=l.getD i du from rfl,hn,hc];rfl
 simp only[uE,List.length_nil,kv,findN,e]
def hitZ (z s:Span):Bool:=decide (z.A<s.B)&&decide (s.A<z.B)
def qFt (zs:List qR) (s:Span):Int:=WO (λi m=>bif hitZ (zs.getD i du).z s then imax m (zs.getD i du).lack else m) 0 zs.length 0
theorem qMV (zs:List qR) (s:Span) (h:zs.length<=1000000):NN zs s=some (qFt zs s):=by
 unfold NN qFt;have k:=PU zs.length (λn (m:Int) i=>QC zs s n m i) (λi m=>bif hitZ (zs.getD i du).z s then imax m (zs.getD i du).lack else m) (λm=>m) (λ_ _=>True) 0 (by omega) (by omega)
  (λn i m hi _=>⟨by
   rw[QC,ka (by omega),zH (by omega)];simp only[ki,ks,zM (show i<4611686018427387904 by omega),DO,BC,hitZ];cases decide ((zs.getD i du).z.A<s.B)<;>cases decide (s.A<(zs.getD i du).z.B)<;>rfl,trivial⟩)
  (λn m _=>by rw[QC,kd (by omega)];rfl) 0 trivial
 rw[show((0:Nat):Int)=0 from rfl,uv] at k;rw[k.1];rfl
def dstep (ds:List qH) (b:Box) (fine:Int) (i:Nat) (v:Int):(Int×Bool)⊕Int:=
 bif tch (ds.getD i du).Box b then(bif (ds.getD i du).Kind==3 then .inl (0,false) else .inr (v-fine)) else .inr v
def qAr (ds:List qH) (b:Box) (fine v:Int):Int×Bool:=match runN (dstep ds b fine) 0 ds.length v with| .inl e=>e| .inr o=>(imax o 0,true)
def worthV (v:qT) (s:Span) (fine:Int):Int×Bool:=
 if 0<=s.A/\s.A<s.B/\s.B<=v.length then
  bif (price v.product (s.B-s.A)).2 then
   if qFt v.zones s>v.product.Wane then(0,false) else qAr v.defects ⟨v.rect.X,v.rect.Y,s⟩ fine (price v.product (s.B-s.A)).1
  else(0,false)
 else(0,false)
theorem qKq {p:Product} (h:VP p) (n:Int):0<=(price p n).1/\(price p n).1<=1000000:=by
 unfold price;cases hf:findN (priceAt p n) 0 p.Lengths.length with
 |inr u=>exact⟨show(0:Int)<=0 by decide,show(0:Int)<=1000000 by decide⟩
 |inl e=>
  obtain⟨i,a,b,c,d⟩:=YX hf;unfold priceAt at c;split at c
  ·cases c
  ·split at c
   ·cases c;exact⟨by decide,by decide⟩
   ·cases c;exact h.pb _ (PH (by omega))
theorem qLX (v:qT) (s:Span) {fine v0:Int} (hf:0<=fine/\fine<=1000000) (hv:0<=v0/\v0<=1000000) (hl:v.defects.length<=64):
  ((zT v fine ⟨v.rect.X,v.rect.Y,s⟩ FUEL v0 0).bind λu=>Sum.elim (λw=>some w) (λo=>some (imax o 0,true)) u)=some (qAr v.defects ⟨v.rect.X,v.rect.Y,s⟩ fine v0):=by
 have k:=OQ v.defects.length (λn (m:Int) i=>zT v fine ⟨v.rect.X,v.rect.Y,s⟩ n m i) (dstep v.defects ⟨v.rect.X,v.rect.Y,s⟩ fine) (λr=>r) (λi m=> -(1000000*(i:Int))<=m/\m<=1000000)
  (λn i m hi hm=>by
   unfold dstep;have e:zT v fine ⟨v.rect.X,v.rect.Y,s⟩ (n+1) m (i:Int)=bif tch (v.defects.getD i du).Box ⟨v.rect.X,v.rect.Y,s⟩ then(bif (v.defects.getD i du).Kind==3 then some (.inl (0,false)) else zT v fine ⟨v.rect.X,v.rect.Y,s⟩ n (m-fine) ((i+1:Nat):Int)) else zT v fine ⟨v.rect.X,v.rect.Y,s⟩ n m ((i+1:Nat):Int):=by
    rw[zT,ka (by omega),zH (by omega)];simp only[ki,ks,zM (show i<4611686018427387904 by omega),qFD,kg,KM];rw[qY (n:=m-fine) (by omega)];cases tch (v.defects.getD i du).Box ⟨v.rect.X,v.rect.Y,s⟩<;>cases (v.defects.getD i du).Kind==3<;>rfl
   cases h1:tch (v.defects.getD i du).Box ⟨v.rect.X,v.rect.Y,s⟩ with
   |false=>rw[h1] at e;exact⟨e,by omega⟩
   |true=>cases h2:(v.defects.getD i du).Kind==3 with
    |true=>rw[h1,h2] at e;exact e
    |false=>rw[h1,h2] at e;exact⟨e,by omega⟩)
  (λn m _=>by rw[zT,kd (by omega)];rfl) FUEL 0 v0 (by rw[yT];omega) (by omega) (by omega)
 rw[show((0:Nat):Int)=0 from rfl,uv] at k;rw[k];unfold qAr;cases runN (dstep v.defects ⟨v.rect.X,v.rect.Y,s⟩ fine) 0 v.defects.length v0<;>rfl
theorem qLQ (v:qT) (s:Span) {fine:Int} (hf:0<=fine/\fine<=1000000) (hp:VP v.product) (hl:v.defects.length<=64) (hz:v.zones.length<=1000000) (hn:v.length<=20000):
  JH v s fine=some (worthV v s fine):=by
 unfold JH worthV BD YT;have hll:=hp.ll;by_cases c1:s.A≥0
 ·rw[ka c1];by_cases c2:s.A<s.B
  ·rw[ka c2];by_cases c3:s.B<=v.length
   ·rw[ka c3,if_pos ⟨c1,c2,c3⟩,qY (n:=s.B-s.A) (by omega)];simp only[ki,kg,kT,kp,qNa v.product (s.B-s.A) (by omega),qMV v.zones s hz,KK,XJ];cases hq:(price v.product (s.B-s.A)).2 with
    |false=>rfl
    |true=>
     simp only[kT,kp,ki];by_cases c4:qFt v.zones s>v.product.Wane
     ·rw[ka c4,if_pos c4];rfl
     ·rw[kd c4,if_neg c4];simp only[kp];exact qLX v s hf (qKq hp _) hl
   ·rw[kd c3,if_neg (λh=>c3 h.2.2)];rfl
  ·rw[kd c2,if_neg (λh=>c2 h.2.1)];rfl
 ·rw[kd c1,if_neg (λh=>c1 h.1)];rfl
theorem qMS {ds:List qH} {b:Box} {fine v:Int} (hf:0<=fine) (hv:0<=v/\v<=1000000):0<=(qAr ds b fine v).1/\(qAr ds b fine v).1<=1000000:=by
 unfold qAr;cases hr:runN (dstep ds b fine) 0 ds.length v with
 |inl e=>
  have:∀(k x:Nat) (w:Int),runN (dstep ds b fine) x k w= .inl e->e=(0,false):=by
   intro k
   induction k with
   |zero=>intro x w h;cases h
   |succ k ih=>
    intro x w h;unfold runN at h;cases hd:dstep ds b fine x w with
    |inr w'=>rw[hd] at h;exact ih _ _ h
    |inl e'=>
     rw[hd] at h;cases h;unfold dstep at hd;cases h1:tch (ds.getD x du).Box b with
     |false=>rw[h1] at hd;cases hd
     |true=>cases h2:(ds.getD x du).Kind==3 with
      |false=>rw[h1,h2] at hd;cases hd
      |true=>rw[h1,h2] at hd;cases hd;rfl
  rw[this _ _ _ hr];decide
 |inr o=>
  have:=runN_inv (dstep ds b fine) (λ_ m=>m<=1000000) ds.length (λx m m' _ hm e=>by
   unfold dstep at e;cases h1:tch (ds.getD x du).Box b with
   |false=>rw[h1] at e;cases e;exact hm
   |true=>cases h2:(ds.getD x du).Kind==3 with
    |true=>rw[h1,h2] at e;cases e
    |false=>rw[h1,h2] at e;cases e;show m-fine<=1000000;omega) ds.length 0 v o (by omega) hv.2 hr
  have h2:=VB o 0;simp only;omega
theorem qMY {v:qT} {s:Span} {fine:Int} (hf:0<=fine) (hp:VP v.product):0<=(worthV v s fine).1/\(worthV v s fine).1<=1000000/\((worthV v s fine).2=true->0<=s.A/\s.A<s.B/\s.B<=v.length):=by
 unfold worthV;split
 ·rename_i h;cases (price v.product (s.B-s.A)).2 with
  |false=>exact⟨show(0:Int)<=0 by decide,show(0:Int)<=1000000 by decide,λh=>by cases h⟩
  |true=>
   simp only[ki];split
   ·exact⟨by decide,by decide,λh=>by cases h⟩
   ·have:=qMS (ds:=v.defects) (b:=⟨v.rect.X,v.rect.Y,s⟩) hf (qKq hp (s.B-s.A));exact⟨this.1,this.2,λ_=>h⟩
 ·exact⟨by decide,by decide,λh=>by cases h⟩
def dimOk (r:Rect) (p:Product):Bool:=((r.X.B-r.X.A==(yJ p).1)&&(r.Y.B-r.Y.A==(yJ p).2))||((r.X.B-r.X.A==(yJ p).2)&&(r.Y.B-r.Y.A==(yJ p).1))
def near (ds:List qH) (b:Box):List qH:=WO (λi t=>bif tch (ds.getD i du).Box b then t++[ds.getD i du] else t) 0 ds.length []
theorem qNk (ds:List qH) (b:Box):(near ds b).length<=ds.length:=by
 unfold near;have:∀k,(WO (λi t=>bif tch (ds.getD i du).Box b then t++[ds.getD i du] else t) 0 k ([]:List qH)).length<=k:=by
  intro k
  induction k with
  |zero=>simp[WO]
  |succ k ih=>
   rw[qAZ];cases tch (ds.getD (0+k) du).Box b with
   |true=>simp only[ki,kE,uE,List.length_nil];omega
   |false=>simp only[kp];omega
 exact this _
def qAv (l:List qG) (ds:List qH) (p:Product) (r:Rect):qT:=⟨p,r,qZ l,zones l r,near ds ⟨r.X,r.Y,⟨0,qZ l⟩⟩⟩
def qMg :qT:=⟨⟨⟨#[]⟩,0,0,0,0,[],[]⟩,⟨⟨0,0⟩,⟨0,0⟩⟩,0,[],[]⟩
theorem look_eq {l:List qG} {ds:List qH} {p:Product} {r:Rect} (hs:VSol l) (hd:LA ds=0) (hp:WK [p]=0) (hr:VR r):
  MA l ds p r=some (bif dimOk r p then(qAv l ds p r,true) else(qMg,false)):=by
 have hdl:=((qBn ds).1 hd).1;unfold MA;rw[(qBz l).1,(FZ l).2 hs,qJe,hd,qJF,hp,qMl,ka hr];simp only[kg,uM,kp,kT];unfold PB;rw[(qEp p).1];have hr':=hr;unfold VR at hr';rw[qY (n:=r.X.B-r.X.A) (by omega),qY (n:=r.Y.B-r.Y.A) (by omega)];have K:∀b,UR l ds p r b=some (bif b then(qMg,false) else(qAv l ds p r,true)):=λb=>by
  unfold UR;cases b with
  |true=>rfl
  |false=>
   rw[(qHD l).1,qAz hs,qM9 hs hr];simp only[kg,kp,XJ];have k:=PU ds.length (λn (t:List qH) i=>WG ds ⟨r.X,r.Y,⟨0,qZ l⟩⟩ n i t) (λi t=>bif tch (ds.getD i du).Box ⟨r.X,r.Y,⟨0,qZ l⟩⟩ then t++[ds.getD i du] else t) (λt=>t) (λi t=>t.length<=i) 0 (by omega) (by omega)
    (λn i t hi ht=>by
     refine⟨?_,?_⟩
     ·rw[WG,ka (by omega),zH (by omega)];simp only[ki,ks,zM (show i<4611686018427387904 by omega),qFD,kg,NS];rw[YR (by omega)];cases tch (ds.getD i du).Box ⟨r.X,r.Y,⟨0,qZ l⟩⟩<;>rfl
     ·cases tch (ds.getD i du).Box ⟨r.X,r.Y,⟨0,qZ l⟩⟩ with
      |true=>simp only[ki,kE,uE,List.length_nil];omega
      |false=>simp only[kp];omega)
    (λn t _=>by rw[WG,kd (by omega)];rfl) [] (by simp)
   rw[show((0:Nat):Int)=0 from rfl,uv] at k;rw[k.1];rfl
 simp only[kg,kp,K,Bool.and_true,dimOk];cases (r.X.B-r.X.A==(yJ p).1)&&(r.Y.B-r.Y.A==(yJ p).2)<;>cases (r.X.B-r.X.A==(yJ p).2)&&(r.Y.B-r.Y.A==(yJ p).1)<;>rfl
def spanAt (p:Product) (z:Int) (i:Nat):Span:=⟨z,z+p.Lengths.getD i du⟩
def qCl (st:Int×Bool×Span) (v:Int×Bool) (s:Span):Int×Bool×Span:=bif v.2&&(!st.2.1||decide (v.1>st.1)) then(v.1,true,s) else st
def qE8 (v:qT) (fine z:Int) (st:Int×Bool×Span):Int×Bool×Span:=WO (λi st=>qCl st (worthV v (spanAt v.product z i) fine) (spanAt v.product z i)) 0 v.product.Lengths.length st
def AN (n step:Int):Nat:=((n+step-1)/step).toNat
def bestV (v:qT) (step fine:Int):Int×Bool×Span:=WO (λk st=>qE8 v fine ((k:Int)*step) st) 0 (AN v.length step) (0,false,⟨0,0⟩)
theorem qHl {n step:Int} (h0:0<=n) (h1:1<=step) {k:Nat}:k<AN n step↔(k:Int)*step<n:=by
 unfold AN;have hd:0<=(n+step-1)/step:=Int.ediv_nonneg (by omega) (by omega);have a:(k:Int)<(n+step-1)/step↔((k:Int)+1)*step<=n+step-1:=by
  rw[<-Int.le_ediv_iff_mul_le (by omega)];omega
 have e:((k:Int)+1)*step=(k:Int)*step+step:=by rw[uz];simp
 rw[e] at a;omega
def BI' (n:Int) (st:Int×Bool×Span):Prop:=0<=st.1/\st.1<=1000000/\(st.2.1=true->0<=st.2.2.A/\st.2.2.A<st.2.2.B/\st.2.2.B<=n)
theorem qMq {n:Int} {st:Int×Bool×Span} {v:Int×Bool} {s:Span} (h:BI' n st) (hv:0<=v.1/\v.1<=1000000/\(v.2=true->0<=s.A/\s.A<s.B/\s.B<=n)):BI' n (qCl st v s):=by
 unfold qCl;cases hc:v.2&&(!st.2.1||decide (v.1>st.1)) with
 |false=>exact h
 |true=>
  have:v.2=true:=by cases h2:v.2 with|true=>rfl|false=>rw[h2] at hc;cases hc
  exact⟨hv.1,hv.2.1,λ_=>hv.2.2 this⟩
theorem qCt {σ:Type} {f:Nat->σ->σ} {P:σ->Prop}:∀{k x:Nat} {s:σ},P s->(∀i s,x<=i->i<x+k->P s->P (f i s))->P (WO f x k s)
 |0,_,_,h,_=>h
 |k+1,x,s,h,hf=>by
  unfold WO;exact qCt (k:=k) (hf x s (ko _) (by omega) h) (λi s h1 h2=>hf i s (by omega) (by omega))
theorem qLW {v:qT} {fine z:Int} {st:Int×Bool×Span} (hf:0<=fine) (hp:VP v.product) (h:BI' v.length st):BI' v.length (qE8 v fine z st):=
 qCt h (λi s _ _ hs=>qMq hs (qMY hf hp))
theorem qMW {v:qT} {step fine:Int} (hf:0<=fine) (hp:VP v.product):BI' v.length (bestV v step fine):=
 qCt ⟨by decide,by decide,λh=>by cases h⟩ (λi s _ _ hs=>qLW hf hp hs)
theorem qLn (v:qT) {fine z:Int} (hf:0<=fine/\fine<=1000000) (hp:VP v.product) (hl:v.defects.length<=64) (hz:v.zones.length<=1000000) (hn:v.length<=20000) (h0:0<=z) (h1:z<=20000) (a b:Bool) (st:Int×Bool×Span):
  yI v.product fine (v,a) z FUEL st.1 st.2.1 0 st.2.2=some (qE8 v fine z st):=by
 have hll:=hp.ll;have k:=PU v.product.Lengths.length (λn (s:Int×Bool×Span) i=>yI v.product fine (v,a) z n s.1 s.2.1 i s.2.2) (λi st=>qCl st (worthV v (spanAt v.product z i) fine) (spanAt v.product z i)) (λs=>s) (λ_ _=>True) 0 (by omega) (by omega)
  (λn i s hi _=>⟨by
   obtain⟨s1,s2,s3⟩:=s;have lb:=hp.lb i hi
   try simp only
   rw[yI,ka (by omega),zH (by omega)];simp only[ki,ks,zM (show i<4611686018427387904 by omega)];rw[qY (n:=z+v.product.Lengths.getD i du) (by omega)];have e:JH ⟨v.product,v.rect,v.length,v.zones,v.defects⟩ ⟨z,z+v.product.Lengths.getD i du⟩ fine=some (worthV v (spanAt v.product z i) fine):=qLQ v (spanAt v.product z i) hf hp hl hz hn;rw[e];simp only[kg,UW,NY,qCl,ks,zM (show i<4611686018427387904 by omega)];rw[qY (n:=z+v.product.Lengths.getD i du) (by omega)];cases (worthV v (spanAt v.product z i) fine).2<;>cases s2<;>cases decide ((worthV v (spanAt v.product z i) fine).1>s1)<;>rfl,trivial⟩)
  (λn s _=>by rw[yI,kd (by omega)];rfl) st trivial
 rw[show((0:Nat):Int)=0 from rfl,uv] at k;exact k.1
theorem qM6 (v:qT) {step fine:Int} (hf:0<=fine/\fine<=1000000) (hs:1<=step/\step<=20000) (hp:VP v.product) (hl:v.defects.length<=64) (hz:v.zones.length<=1000000) (hn:0<=v.length/\v.length<=20000) (a:Bool):
  YM v.product step fine (v,a) FUEL 0 false 0 ⟨0,0⟩=some (bestV v step fine):=by
 have hN:AN v.length step<=1000000000:=by
  unfold AN;have:=Int.ediv_le_self step (show 0<=v.length+step-1 by omega);omega
 have k:=qK0 (AN v.length step) (λn (s:Int×Bool×Span) (z:Int)=>YM v.product step fine (v,a) n s.1 s.2.1 z s.2.2) (λk=>(k:Int)*step) (λk st=>qE8 v fine ((k:Int)*step) st) (λs=>s) (λ_ _=>True) hN
  (λn i s hi _=>⟨by
   have h1:=(qHl hn.1 hs.1).1 hi;have h0:0<=(i:Int)*step:=kP (by omega) (by omega);have e:(i:Int)*step+step=((i+1:Nat):Int)*step:=by rw[Int.natCast_add,uz];simp
   try simp only
   rw[YM,ka h1,qLn v hf hp hl hz hn.2 h0 (by omega) a true s,qY (by omega),e];rfl,trivial⟩)
  (λn s _=>by
   have h1:¬((AN v.length step:Nat):Int)*step<v.length:=λh=>by have:=(qHl hn.1 hs.1).2 h;omega
   try simp only
   rw[YM,kd h1];rfl) (0,false,⟨0,0⟩) trivial
 simp only[Int.natCast_zero,Int.zero_mul] at k;exact k.1
def LT (l:List qG) (ds:List qH) (p:Product) (r:Rect) (step fine:Int):Int×Bool×Span:=bif dimOk r p then bestV (qAv l ds p r) step fine else(0,false,⟨0,0⟩)
theorem qMe (l:List qG) (r:Rect):(zones l r).length=l.length:=by unfold zones;simp
theorem qJq {l:List qG} (h:VSol l):1<=qZ l/\qZ l<=20000:=by
 have:=h.bd (ko l.length);have:=h.ne;unfold qZ;omega
theorem qMu {l:List qG} {ds:List qH} {p:Product} {r:Rect} {step fine:Int} (hf:0<=fine) (hp:VP p):BI' (qZ l) (LT l ds p r step fine):=by
 unfold LT;cases dimOk r p with
 |true=>exact qMW (v:=qAv l ds p r) hf hp
 |false=>exact⟨show(0:Int)<=0 by decide,show(0:Int)<=1000000 by decide,λh=>by cases h⟩
theorem qMM {l:List qG} {ds:List qH} {p:Product} {r:Rect} {step fine:Int} (hs:VSol l) (hd:LA ds=0) (hp:WK [p]=0) (hv:VP p) (hr:VR r) (hst:1<=step/\step<=20000) (hf:0<=fine/\fine<=1000000):
  DS l ds p r step fine=some ((LT l ds p r step fine).2.2,(LT l ds p r step fine).1,(LT l ds p r step fine).2.1):=by
 have hdl:=((qBn ds).1 hd).1;have hl:=hs.len;unfold DS NT;rw[qHG,qG7,ka hst,ka hf];simp only[kg,kT,kp,look_eq hs hd hp hr];unfold LT;cases dimOk r p with
 |false=>rfl
 |true=>
  simp only[ki,kT,kp];have nl:=qNk ds ⟨r.X,r.Y,⟨0,qZ l⟩⟩;have sb:=qJq hs;have k:=qM6 (qAv l ds p r) (step:=step) hf hst hv (by show(near ds _).length<=64;omega) (by show(zones l r).length<=1000000;rw[qMe];omega) ⟨by show 0<=qZ l;omega,sb.2⟩ true;rw[show(qAv l ds p r).product=p from rfl] at k;rw[k];rfl
end Saw
end Go.SL

/- Edge's plain mathematics, part 6: the check of an edging; how small a case is. -/
import Derived.Test.YtigmogcdifllhaaGreatDoorEMa7
import Derived.Test.YtigmogcdifllhaaGreatDoorEMa1
set_option linter.unusedVariables false
set_option linter.unusedSimpArgs false
namespace Go.SL
namespace Saw
noncomputable def chkE (s:List qB) (d:List qC) (p:List Product) (r:Rect) (w:Saw) (t:Rates):Int:=
 if DP s≠0 then DP s else if QD d≠0 then QD d else if wF p≠0 then wF p else if IX w t≠0 then IX w t
 else if r.X.A≥r.X.B\/r.Y.A≥r.Y.B then 19
 else if r.X.A< -600\/600<r.X.A\/r.X.B< -600\/600<r.X.B\/r.Y.A< -600\/600<r.Y.A\/r.Y.B< -600\/600<r.Y.B then 9 else 0
structure VE (s:List qB) (d:List qC) (p:List Product) (r:Rect) (w:Saw) (t:Rates):Prop where
 sol:VSol s
 dl:d.length<=64
 dd:∀x∈d,VD x
 pr:wF p=0
 vw:VW w t
 vr:VR r
theorem DT {s:List qB} {d:List qC} {p:List Product} {r:Rect} {w:Saw} {t:Rates}:chkE s d p r w t=0↔VE s d p r w t:=by
 unfold chkE;by_cases h1:DP s≠0
 ·rw[if_pos h1];exact⟨λh=>absurd h h1,λh=>absurd ((KR s).2 h.sol) h1⟩
 rw[if_neg h1];by_cases h2:QD d≠0
 ·rw[if_pos h2];exact⟨λh=>absurd h h2,λh=>absurd ((yO d).2 ⟨h.dl,h.dd⟩) h2⟩
 rw[if_neg h2];by_cases h3:wF p≠0
 ·rw[if_pos h3];exact⟨λh=>absurd h h3,λh=>absurd h.pr h3⟩
 rw[if_neg h3];by_cases h4:IX w t≠0
 ·rw[if_pos h4];exact⟨λh=>absurd h h4,λh=>absurd ((qEw w t).2 h.vw) h4⟩
 rw[if_neg h4];by_cases h5:r.X.A≥r.X.B\/r.Y.A≥r.Y.B
 ·rw[if_pos h5];exact⟨λh=>absurd h (by decide),λh=>by have:=h.vr;unfold VR at this;omega⟩
 rw[if_neg h5];by_cases h6:r.X.A< -600\/600<r.X.A\/r.X.B< -600\/600<r.X.B\/r.Y.A< -600\/600<r.Y.A\/r.Y.B< -600\/600<r.Y.B
 ·rw[if_pos h6];exact⟨λh=>absurd h (by decide),λh=>by have:=h.vr;unfold VR at this;omega⟩
 rw[if_neg h6];have k2:=(yO d).1 (by omega);exact⟨λ_=>⟨(KR s).1 (by omega),k2.1,k2.2,by omega,(qEw w t).1 (by omega),by unfold VR;omega⟩,λ_=>rfl⟩
theorem chkE_eq (s:List qB) (d:List qC) (p:List Product) (r:Rect) (w:Saw) (t:Rates):qEv s d p r w t=some (chkE s d p r w t):=by
 unfold qEv chkE qAr;rw[(UK s).1,qEQ,qE7,qRI];simp only[kg];have bt:∀{n:Int},n≠0->(n !=0)=true:=λh=>by rw[ua];exact h
 have bf:∀{n:Int},¬n≠0->(n !=0)=false:=λh=>by rw[kV];omega
 by_cases h1:DP s≠0
 ·rw[if_pos h1,bt h1];rfl
 rw[if_neg h1,bf h1];by_cases h2:QD d≠0
 ·rw[if_pos h2,bt h2];rfl
 rw[if_neg h2,bf h2];by_cases h3:wF p≠0
 ·rw[if_pos h3,bt h3];rfl
 rw[if_neg h3,bf h3];by_cases h4:IX w t≠0
 ·rw[if_pos h4,bt h4];rfl
 rw[if_neg h4,bf h4];simp only[kr];by_cases h5:r.X.A≥r.X.B
 ·rw[if_pos (.inl h5),ka h5];rfl
 rw[ke h5];by_cases h6:r.Y.A≥r.Y.B
 ·rw[if_pos (.inr h6),ka h6];rfl
 rw[ke h6,if_neg (by omega)];simp only[kr];have L:YY r FUEL ((0:Nat):Int)=some (findN (λi=>if(([r.X.A,r.X.B,r.Y.A,r.Y.B]:List Int).getD i 0)< -600\/600<(([r.X.A,r.X.B,r.Y.A,r.Y.B]:List Int).getD i 0) then some (9:Int) else none) 0 (4-0)):=by
  refine QI 4 (YY r) _ 0 (by omega) (by omega) (λn i hi hN=>?_) (λn=>?_)
  ·rw[YY,ka (by omega),qJ (by omega)];simp only[kp,ko,qM (show i<4611686018427387904 by omega),qAO];by_cases c1:([r.X.A,r.X.B,r.Y.A,r.Y.B]:List Int).getD i 0< -600
   ·rw[ka c1,if_pos (.inl c1)];rfl
   rw[ke c1];by_cases c2:600<([r.X.A,r.X.B,r.Y.A,r.Y.B]:List Int).getD i 0
   ·rw[ka (show([r.X.A,r.X.B,r.Y.A,r.Y.B]:List Int).getD i 0>600 from c2),if_pos (.inr c2)];rfl
   ·rw[ke (show¬([r.X.A,r.X.B,r.Y.A,r.Y.B]:List Int).getD i 0>600 from c2),if_neg (by omega)];rfl
  ·rw[YY,ke (by omega)];rfl
 rw[show((0:Nat):Int)=0 from rfl] at L;rw[L];simp only[findN,un,gX,kO];by_cases c1:r.X.A< -600\/600<r.X.A
 ·rw[if_pos c1,if_pos (show(r.X.A< -600\/600<r.X.A\/r.X.B< -600\/600<r.X.B\/r.Y.A< -600\/600<r.Y.A\/r.Y.B< -600\/600<r.Y.B) by omega)];rfl
 rw[if_neg c1];by_cases c2:r.X.B< -600\/600<r.X.B
 ·rw[if_pos c2,if_pos (show(r.X.A< -600\/600<r.X.A\/r.X.B< -600\/600<r.X.B\/r.Y.A< -600\/600<r.Y.A\/r.Y.B< -600\/600<r.Y.B) by omega)];rfl
 rw[if_neg c2];by_cases c3:r.Y.A< -600\/600<r.Y.A
 ·rw[if_pos c3,if_pos (show(r.X.A< -600\/600<r.X.A\/r.X.B< -600\/600<r.X.B\/r.Y.A< -600\/600<r.Y.A\/r.Y.B< -600\/600<r.Y.B) by omega)];rfl
 rw[if_neg c3];by_cases c4:r.Y.B< -600\/600<r.Y.B
 ·rw[if_pos c4,if_pos (show(r.X.A< -600\/600<r.X.A\/r.X.B< -600\/600<r.X.B\/r.Y.A< -600\/600<r.Y.A\/r.Y.B< -600\/600<r.Y.B) by omega)];rfl
 rw[if_neg c4,if_neg (show¬(r.X.A< -600\/600<r.X.A\/r.X.B< -600\/600<r.X.B\/r.Y.A< -600\/600<r.Y.A\/r.Y.B< -600\/600<r.Y.B) by omega)];rfl
end Saw
end Go.SL
namespace Go.SL
theorem qHC {σ β ι:Type} (N:Nat) (L:Nat->σ->ι->Option β) (idx:Nat->ι) (f:Nat->σ->σ) (out:σ->β) (Inv:Nat->σ->Prop) (hN:N<=1000000000)
  (h0:∀n i s,i<N->Inv i s->L (n+1) s (idx i)=L n (f i s) (idx (i+1))/\Inv (i+1) (f i s))
  (h1:∀n s,Inv N s->L (n+1) s (idx N)=some (out s)) (s:σ) (hs:Inv 0 s):L FUEL s (idx 0)=some (out (foldN f 0 N s))/\Inv N (foldN f 0 N s):=by
 have key:∀k n x s,x+k=N->k<n->Inv x s->L n s (idx x)=some (out (foldN f x k s))/\Inv N (foldN f x k s):=by
  intro k
  induction k with
  |zero=>
   intro n x s hx hn hi;obtain⟨n,rfl⟩:∃m,n=m+1:=⟨n-1,by omega⟩
   rw[ug] at hx;subst hx;exact⟨h1 n s hi,hi⟩
  |succ k ih=>
   intro n x s hx hn hi;obtain⟨n,rfl⟩:∃m,n=m+1:=⟨n-1,by omega⟩
   have h:=h0 n x s (by omega) hi;rw[h.1];exact ih n (x+1) (f x s) (by omega) (by omega) h.2
 exact key N FUEL 0 s (by omega) (by rw[FUEL_eq];omega) hs
namespace Saw
def priceAt (p:Product) (n:Int) (i:Nat):Option (Int×Bool):=
 if p.Lengths.getD i daa≠n then none else if p.Prices.length<=i then some (0,false) else some (p.Prices.getD i daa,true)
def price (p:Product) (n:Int):Int×Bool:=match findN (priceAt p n) 0 p.Lengths.length with| .inl e=>e| .inr _=>(0,false)
theorem qYc (p:Product) (n:Int) (h:p.Lengths.length<=1000000):qAJ p n=some (price p n):=by
 unfold qAJ price;have L:WV p n FUEL ((0:Nat):Int)=some (findN (priceAt p n) 0 (p.Lengths.length-0)):=by
  refine QI p.Lengths.length (WV p n) _ 0 (by omega) (by omega) (λm i hi hN=>?_) (λm=>?_)
  ·rw[WV,ka (by omega),qJ (by omega)];simp only[kp,ko,qM (show i<4611686018427387904 by omega),priceAt];by_cases c:p.Lengths.getD i daa≠n
   ·rw[if_pos c,show(p.Lengths.getD i daa !=n)=true by rw[ua];exact c];rfl
   rw[if_neg c,show(p.Lengths.getD i daa !=n)=false by rw[kV];omega];by_cases c2:p.Prices.length<=i
   ·rw[if_pos c2,ka (show(i:Int)≥(p.Prices.length:Int) by omega)];rfl
   ·rw[if_neg c2,ke (show¬(i:Int)≥(p.Prices.length:Int) by omega),qJ (by omega)];rfl
  ·rw[WV,ke (by omega)];rfl
 rw[show((0:Nat):Int)=0 from rfl,kO] at L;rw[L];simp only[kg];cases findN (priceAt p n) 0 p.Lengths.length<;>rfl
def tch (d b:Box):Bool:=!(empS (mxS d.X b.X)||(empS (mxS d.Y b.Y)||empS (mxS d.Z b.Z)))
theorem qMe (d:qC) (b:Box):NS d b=some (tch d.Box b):=by
 unfold NS qGB FE tch;simp only[qBd,kg,qPz,qA6];cases empS (mxS d.Box.X b.X)<;>cases empS (mxS d.Box.Y b.Y)<;>cases empS (mxS d.Box.Z b.Z)<;>rfl
def ZF (r:Rect):Int:=(r.X.B-r.X.A)*(r.Y.B-r.Y.A)
def IJ (a w:Int):Int:=Int.tdiv (1000*(a-w)+a-1) a
def zones (l:List qB) (r:Rect):List jE:=(List.range l.length).map (λi=>⟨ext l i,IJ (ZF r) (zJ (l.getD i daa).Sec r.X r.Y)⟩)
theorem qUR {r:Rect} (h:VR r):1<=ZF r/\ZF r<=1440000:=by
 unfold VR at h;unfold ZF;have a:=wS (a:=r.X.B-r.X.A) (b:=r.Y.B-r.Y.A) (m:=1200) (n:=1200) (by omega) (by omega) (by omega) (by omega) (by omega) (by omega);have b:=gz (show 0<r.X.B-r.X.A by omega) (show 0<r.Y.B-r.Y.A by omega);omega
theorem qX9 {l:List qB} (h:VSol l) {r:Rect} (hr:VR r):qCI l r=some (zones l r):=by
 have hl:=h.len;have ha:=qUR hr;have eA:w64 (w64 (r.X.B-r.X.A)*w64 (r.Y.B-r.Y.A))=ZF r:=by
  have hr':=hr;unfold VR at hr';rw[qD (n:=r.X.B-r.X.A) (by omega),qD (n:=r.Y.B-r.Y.A) (by omega)];unfold ZF at ha⊢;exact qD (by omega)
 unfold qCI
 let zn:Nat->jE:=λi=>⟨ext l i,IJ (ZF r) (zJ (l.getD i daa).Sec r.X r.Y)⟩
 have k:=zA l.length (λn (s:List jE×Int) i=>TR l r n s.1 s.2 i) (λi s=>(s.1++[zn i],lenTo l (i+1))) (λs=>s.1)
  (λi s=>s.1=(List.range i).map zn/\s.2=lenTo l i) 0 (by omega) (by omega)
  (λn i s hi hs=>by
   obtain⟨s1,s2⟩:=s;obtain⟨e1,e2⟩:=hs;simp only at e1 e2;have b:=h.bd (i:=i) (by omega);have b':=h.bd (i:=i+1) (by omega);have wb:=qLz (h.at hi).1 r.X r.Y;rw[zZ] at b';have e1':s1.length=i:=by rw[e1];simp
   refine⟨?_,by rw[e1,ul,kU];rfl,rfl⟩;simp only;rw[TR,ka (by omega),qJ (by omega)];simp only[kp,ko,qM (show i<4611686018427387904 by omega),qPw,kg,eA,e2];rw[ST (h.at hi).1,nz_t (by omega),wJ (by omega),qD (n:=lenTo l i+(l.getD i daa).Len) (by omega),
    qD (n:=ZF r-zJ (l.getD i daa).Sec r.X r.Y) (by omega),qD (n:=1000*_) (by omega),qD (n:=1000*_+_) (by omega),qD (n:=1000*_+_-1) (by omega)]
   simp only[kp];have tb: -2000000000<=IJ (ZF r) (zJ (l.getD i daa).Sec r.X r.Y)/\IJ (ZF r) (zJ (l.getD i daa).Sec r.X r.Y)<=2000000000:=by
    unfold IJ;generalize hu:1000*(ZF r-zJ (l.getD i daa).Sec r.X r.Y)+ZF r-1=u;have hub: -1440000000<=u/\u<=1441440000:=by omega
    have ab:=Int.natAbs_tdiv_le_natAbs u (ZF r);omega
   unfold IJ at tb;rw[qD (by omega)];rfl)
  (λn s _=>by rw[TR,ke (by omega)];rfl) ([],0) ⟨rfl,rfl⟩
 rw[show((0:Nat):Int)=0 from rfl] at k;rw[k.1];exact congrArg some k.2.1
structure VP (p:Product):Prop where
 nm:isNm p.Name=true
 th:5<=p.Thick/\p.Thick<=300
 wd:p.Thick<=p.Width/\p.Width<=600
 al:0<=p.Allow/\p.Allow<=200
 wn:0<=p.Wane/\p.Wane<=1000
 gr:(qT p).2<=600
 ll:1<=p.Lengths.length/\p.Lengths.length<=8
 pl:p.Prices.length=p.Lengths.length
 lb:∀i,i<p.Lengths.length->100<=p.Lengths.getD i daa/\p.Lengths.getD i daa<=20000
 pb:∀x∈p.Prices,0<=x/\x<=1000000
theorem qTx {p:Product} (hn:isNm p.Name=true) (h:NZ p=0):VP p:=by
 unfold NZ at h;by_cases h1:p.Thick<5\/300<p.Thick\/p.Width<p.Thick\/600<p.Width\/p.Allow<0\/200<p.Allow\/p.Wane<0\/1000<p.Wane
 ·rw[if_pos h1] at h;exact absurd h (by decide)
 rw[if_neg h1] at h;by_cases h2:600<(qT p).2
 ·rw[if_pos h2] at h;exact absurd h (by decide)
 rw[if_neg h2] at h;unfold qE3 at h;by_cases h3:p.Lengths.length=0
 ·rw[if_pos h3] at h;exact absurd h (by decide)
 rw[if_neg h3] at h;by_cases h4:8<p.Lengths.length
 ·rw[if_pos h4] at h;exact absurd h (by decide)
 rw[if_neg h4] at h;by_cases h5:p.Prices.length≠p.Lengths.length
 ·rw[if_pos h5] at h;exact absurd h (by decide)
 rw[if_neg h5] at h;cases hf:findN (badLen p) 0 p.Lengths.length with
 |inl e=>
  rw[hf] at h;obtain⟨i,a,b,c,d⟩:=WK hf;unfold badLen at c;simp only at h;subst h;split at c
  ·cases c
  ·split at c<;>cases c
 |inr u=>
  rw[hf] at h;cases hg:findE badPr p.Prices with
  |inl e=>
   rw[hg] at h;obtain⟨a,ha,hb⟩:=qDl hg;simp only at h;subst h;unfold badPr at hb;split at hb<;>cases hb
  |inr u'=>
   refine⟨hn,by omega,by omega,by omega,by omega,by omega,by omega,by omega,λi hi=>?_,λx hx=>?_⟩
   ·have:=KS.1 hf i (by omega) (by omega);unfold badLen at this;split at this
    ·cases this
    ·omega
   ·have:=DA.1 hg x hx;unfold badPr at this;split at this
    ·cases this
    ·omega
theorem qPd {p:Product} (hn:isNm p.Name=true) {l:List Product} {i:Nat} (h:badP l i=none) (e:l.getD i daa=p):NZ p=0:=by
 unfold badP at h;rw[e,hn] at h;simp only[kp] at h;cases hf:findN (twin l i) 0 i with
 |inl e=>rw[hf] at h;cases h
 |inr u=>
  rw[hf] at h;by_cases hc:NZ p=0
  ·exact hc
  ·rw[show(NZ p !=0)=true by rw[ua];exact hc] at h;cases h
theorem qNZ {l:List Product} {i:Nat} (h:badP l i=none):isNm (l.getD i daa).Name=true:=by
 unfold badP at h;cases hn:isNm (l.getD i daa).Name with
 |true=>rfl
 |false=>rw[hn] at h;cases h
theorem qSr {l:List Product} (h:wF l=0) {i:Nat} (hi:i<l.length):badP l i=none:=by
 unfold wF at h;split at h
 ·exact absurd h (by decide)
 ·cases hf:findN (badP l) 0 l.length with
  |inr u=>exact KS.1 hf i (by omega) (by omega)
  |inl e=>
   rw[hf] at h;simp only at h;subst h;obtain⟨j,a,b,c,d⟩:=WK hf;unfold badP at c;cases hn:isNm (l.getD j daa).Name with
   |false=>rw[hn] at c;cases c
   |true=>
    rw[hn] at c;simp only[kp] at c;cases hf':findN (twin l j) 0 j with
    |inl e=>
     rw[hf'] at c;obtain⟨i',a',b',c',d'⟩:=WK hf';unfold twin at c';cases c;cases hs:strEq (l.getD i' daa).Name (l.getD j daa).Name<;>rw[hs] at c'<;>cases c'
    |inr u=>
     rw[hf'] at c;cases hz:NZ (l.getD j daa) !=0 with
     |true=>rw[hz] at c;simp only[kp] at c;injection c with c;exact absurd c (ua.1 hz)
     |false=>rw[hz] at c;cases c
theorem qLm {l:List Product} (h:wF l=0) {i:Nat} (hi:i<l.length):VP (l.getD i daa):=by
 have b:=qSr h hi;exact qTx (qNZ b) (qPd (qNZ b) b rfl)
theorem qPI {l:List Product} (h:wF l=0) {i:Nat} (hi:i<l.length):wF [l.getD i daa]=0:=by
 have b:=qSr h hi;have hn:=qNZ b;have hc:=qPd hn b rfl;unfold wF;rw[if_neg (by simp)];have e:badP [l.getD i daa] 0=none:=by
  unfold badP;rw[show[l.getD i daa].getD 0 daa=l.getD i daa from rfl,hn,hc];rfl
 simp only[ue,gg,kz,findN,e]
def hitZ (z s:Span):Bool:=decide (z.A<s.B)&&decide (s.A<z.B)
def worst (zs:List jE) (s:Span):Int:=foldN (λi m=>bif hitZ (zs.getD i daa).z s then imax m (zs.getD i daa).lack else m) 0 zs.length 0
theorem qX1 (zs:List jE) (s:Span) (h:zs.length<=1000000):qC1 zs s=some (worst zs s):=by
 unfold qC1 worst;have k:=zA zs.length (λn (m:Int) i=>XU zs s n m i) (λi m=>bif hitZ (zs.getD i daa).z s then imax m (zs.getD i daa).lack else m) (λm=>m) (λ_ _=>True) 0 (by omega) (by omega)
  (λn i m hi _=>⟨by
   rw[XU,ka (by omega),qJ (by omega)];simp only[kp,ko,qM (show i<4611686018427387904 by omega),OK,IE,hitZ];cases decide ((zs.getD i daa).z.A<s.B)<;>cases decide (s.A<(zs.getD i daa).z.B)<;>rfl,trivial⟩)
  (λn m _=>by rw[XU,ke (by omega)];rfl) 0 trivial
 rw[show((0:Nat):Int)=0 from rfl,kO] at k;rw[k.1];rfl
def dstep (ds:List qC) (b:Box) (fine:Int) (i:Nat) (v:Int):(Int×Bool)⊕Int:=
 bif tch (ds.getD i daa).Box b then(bif (ds.getD i daa).Kind==3 then .inl (0,false) else .inr (v-fine)) else .inr v
def JZ (ds:List qC) (b:Box) (fine v:Int):Int×Bool:=match runN (dstep ds b fine) 0 ds.length v with| .inl e=>e| .inr o=>(imax o 0,true)
def worthV (v:zO) (s:Span) (fine:Int):Int×Bool:=
 if 0<=s.A/\s.A<s.B/\s.B<=v.length then
  bif (price v.product (s.B-s.A)).2 then
   if worst v.zones s>v.product.Wane then(0,false) else JZ v.defects ⟨v.rect.X,v.rect.Y,s⟩ fine (price v.product (s.B-s.A)).1
  else(0,false)
 else(0,false)
theorem qN8 {p:Product} (h:VP p) (n:Int):0<=(price p n).1/\(price p n).1<=1000000:=by
 unfold price;cases hf:findN (priceAt p n) 0 p.Lengths.length with
 |inr u=>exact⟨show(0:Int)<=0 by decide,show(0:Int)<=1000000 by decide⟩
 |inl e=>
  obtain⟨i,a,b,c,d⟩:=WK hf;unfold priceAt at c;split at c
  ·cases c
  ·split at c
   ·cases c;exact⟨by decide,by decide⟩
   ·cases c;exact h.pb _ (zK (by omega))
theorem qW6 (v:zO) (s:Span) {fine v0:Int} (hf:0<=fine/\fine<=1000000) (hv:0<=v0/\v0<=1000000) (hl:v.defects.length<=64):
  ((wH v fine ⟨v.rect.X,v.rect.Y,s⟩ FUEL v0 0).bind λu=>Sum.elim (λw=>some w) (λo=>some (imax o 0,true)) u)=some (JZ v.defects ⟨v.rect.X,v.rect.Y,s⟩ fine v0):=by
 have k:=AB v.defects.length (λn (m:Int) i=>wH v fine ⟨v.rect.X,v.rect.Y,s⟩ n m i) (dstep v.defects ⟨v.rect.X,v.rect.Y,s⟩ fine) (λr=>r) (λi m=> -(1000000*(i:Int))<=m/\m<=1000000)
  (λn i m hi hm=>by
   unfold dstep;have e:wH v fine ⟨v.rect.X,v.rect.Y,s⟩ (n+1) m (i:Int)=bif tch (v.defects.getD i daa).Box ⟨v.rect.X,v.rect.Y,s⟩ then(bif (v.defects.getD i daa).Kind==3 then some (.inl (0,false)) else wH v fine ⟨v.rect.X,v.rect.Y,s⟩ n (m-fine) ((i+1:Nat):Int)) else wH v fine ⟨v.rect.X,v.rect.Y,s⟩ n m ((i+1:Nat):Int):=by
    rw[wH,ka (by omega),qJ (by omega)];simp only[kp,ko,qM (show i<4611686018427387904 by omega),qMe,kg,VC];rw[qD (n:=m-fine) (by omega)];cases tch (v.defects.getD i daa).Box ⟨v.rect.X,v.rect.Y,s⟩<;>cases (v.defects.getD i daa).Kind==3<;>rfl
   cases h1:tch (v.defects.getD i daa).Box ⟨v.rect.X,v.rect.Y,s⟩ with
   |false=>rw[h1] at e;exact⟨e,by omega⟩
   |true=>cases h2:(v.defects.getD i daa).Kind==3 with
    |true=>rw[h1,h2] at e;exact e
    |false=>rw[h1,h2] at e;exact⟨e,by omega⟩)
  (λn m _=>by rw[wH,ke (by omega)];rfl) FUEL 0 v0 (by rw[FUEL_eq];omega) (by omega) (by omega)
 rw[show((0:Nat):Int)=0 from rfl,kO] at k;rw[k];unfold JZ;cases runN (dstep v.defects ⟨v.rect.X,v.rect.Y,s⟩ fine) 0 v.defects.length v0<;>rfl
theorem qWN (v:zO) (s:Span) {fine:Int} (hf:0<=fine/\fine<=1000000) (hp:VP v.product) (hl:v.defects.length<=64) (hz:v.zones.length<=1000000) (hn:v.length<=20000):
  UJ v s fine=some (worthV v s fine):=by
 unfold UJ worthV qCw RZ;have hll:=hp.ll;by_cases c1:s.A≥0
 ·rw[ka c1];by_cases c2:s.A<s.B
  ·rw[ka c2];by_cases c3:s.B<=v.length
   ·rw[ka c3,if_pos ⟨c1,c2,c3⟩,qD (n:=s.B-s.A) (by omega)];simp only[kp,kg,kG,kr,qYc v.product (s.B-s.A) (by omega),qX1 v.zones s hz,VG,NV];cases hq:(price v.product (s.B-s.A)).2 with
    |false=>rfl
    |true=>
     simp only[kG,kr,kp];by_cases c4:worst v.zones s>v.product.Wane
     ·rw[ka c4,if_pos c4];rfl
     ·rw[ke c4,if_neg c4];simp only[kr];exact qW6 v s hf (qN8 hp _) hl
   ·rw[ke c3,if_neg (λh=>c3 h.2.2)];rfl
  ·rw[ke c2,if_neg (λh=>c2 h.2.1)];rfl
 ·rw[ke c1,if_neg (λh=>c1 h.1)];rfl
theorem qXP {ds:List qC} {b:Box} {fine v:Int} (hf:0<=fine) (hv:0<=v/\v<=1000000):0<=(JZ ds b fine v).1/\(JZ ds b fine v).1<=1000000:=by
 unfold JZ;cases hr:runN (dstep ds b fine) 0 ds.length v with
 |inl e=>
  have:∀(k x:Nat) (w:Int),runN (dstep ds b fine) x k w= .inl e->e=(0,false):=by
   intro k
   induction k with
   |zero=>intro x w h;cases h
   |succ k ih=>
    intro x w h;unfold runN at h;cases hd:dstep ds b fine x w with
    |inr w'=>rw[hd] at h;exact ih _ _ h
    |inl e'=>
     rw[hd] at h;cases h;unfold dstep at hd;cases h1:tch (ds.getD x daa).Box b with
     |false=>rw[h1] at hd;cases hd
     |true=>cases h2:(ds.getD x daa).Kind==3 with
      |false=>rw[h1,h2] at hd;cases hd
      |true=>rw[h1,h2] at hd;cases hd;rfl
  rw[this _ _ _ hr];decide
 |inr o=>
  have:=runN_inv (dstep ds b fine) (λ_ m=>m<=1000000) ds.length (λx m m' _ hm e=>by
   unfold dstep at e;cases h1:tch (ds.getD x daa).Box b with
   |false=>rw[h1] at e;cases e;exact hm
   |true=>cases h2:(ds.getD x daa).Kind==3 with
    |true=>rw[h1,h2] at e;cases e
    |false=>rw[h1,h2] at e;cases e;show m-fine<=1000000;omega) ds.length 0 v o (by omega) hv.2 hr
  have h2:=wZ o 0;simp only;omega
theorem qYM {v:zO} {s:Span} {fine:Int} (hf:0<=fine) (hp:VP v.product):0<=(worthV v s fine).1/\(worthV v s fine).1<=1000000/\((worthV v s fine).2=true->0<=s.A/\s.A<s.B/\s.B<=v.length):=by
 unfold worthV;split
 ·rename_i h;cases (price v.product (s.B-s.A)).2 with
  |false=>exact⟨show(0:Int)<=0 by decide,show(0:Int)<=1000000 by decide,λh=>by cases h⟩
  |true=>
   simp only[kp];split
   ·exact⟨by decide,by decide,λh=>by cases h⟩
   ·have:=qXP (ds:=v.defects) (b:=⟨v.rect.X,v.rect.Y,s⟩) hf (qN8 hp (s.B-s.A));exact⟨this.1,this.2,λ_=>h⟩
 ·exact⟨by decide,by decide,λh=>by cases h⟩
def dimOk (r:Rect) (p:Product):Bool:=((r.X.B-r.X.A==(qT p).1)&&(r.Y.B-r.Y.A==(qT p).2))||((r.X.B-r.X.A==(qT p).2)&&(r.Y.B-r.Y.A==(qT p).1))
def near (ds:List qC) (b:Box):List qC:=foldN (λi t=>bif tch (ds.getD i daa).Box b then t++[ds.getD i daa] else t) 0 ds.length []
theorem qYC (ds:List qC) (b:Box):(near ds b).length<=ds.length:=by
 unfold near;have:∀k,(foldN (λi t=>bif tch (ds.getD i daa).Box b then t++[ds.getD i daa] else t) 0 k ([]:List qC)).length<=k:=by
  intro k
  induction k with
  |zero=>simp[foldN]
  |succ k ih=>
   rw[yK];cases tch (ds.getD (0+k) daa).Box b with
   |true=>simp only[kp,ub,ue,gg];omega
   |false=>simp only[kr];omega
 exact this _
def viewOf (l:List qB) (ds:List qC) (p:Product) (r:Rect):zO:=⟨p,r,solLen l,zones l r,near ds ⟨r.X,r.Y,⟨0,solLen l⟩⟩⟩
def qXv :zO:=⟨⟨⟨#[]⟩,0,0,0,0,[],[]⟩,⟨⟨0,0⟩,⟨0,0⟩⟩,0,[],[]⟩
theorem look_eq {l:List qB} {ds:List qC} {p:Product} {r:Rect} (hs:VSol l) (hd:QD ds=0) (hp:wF [p]=0) (hr:VR r):
  qEb l ds p r=some (bif dimOk r p then(viewOf l ds p r,true) else(qXv,false)):=by
 have hdl:=((yO ds).1 hd).1;unfold qEb;rw[(UK l).1,(KR l).2 hs,qEQ,hd,qE7,hp,qWp,ka hr];simp only[kg,kA,kr,kG];unfold VN;rw[(AE p).1];have hr':=hr;unfold VR at hr';rw[qD (n:=r.X.B-r.X.A) (by omega),qD (n:=r.Y.B-r.Y.A) (by omega)];have K:∀b,MK l ds p r b=some (bif b then(qXv,false) else(viewOf l ds p r,true)):=λb=>by
  unfold MK;cases b with
  |true=>rfl
  |false=>
   rw[(TH l).1,PL hs,qX9 hs hr];simp only[kg,kr,NV];have k:=zA ds.length (λn (t:List qC) i=>RR ds ⟨r.X,r.Y,⟨0,solLen l⟩⟩ n i t) (λi t=>bif tch (ds.getD i daa).Box ⟨r.X,r.Y,⟨0,solLen l⟩⟩ then t++[ds.getD i daa] else t) (λt=>t) (λi t=>t.length<=i) 0 (by omega) (by omega)
    (λn i t hi ht=>by
     refine⟨?_,?_⟩
     ·rw[RR,ka (by omega),qJ (by omega)];simp only[kp,ko,qM (show i<4611686018427387904 by omega),qMe,kg,qAm];rw[wJ (by omega)];cases tch (ds.getD i daa).Box ⟨r.X,r.Y,⟨0,solLen l⟩⟩<;>rfl
     ·cases tch (ds.getD i daa).Box ⟨r.X,r.Y,⟨0,solLen l⟩⟩ with
      |true=>simp only[kp,ub,ue,gg];omega
      |false=>simp only[kr];omega)
    (λn t _=>by rw[RR,ke (by omega)];rfl) [] (by simp)
   rw[show((0:Nat):Int)=0 from rfl,kO] at k;rw[k.1];rfl
 simp only[kg,kr,K,dV,dimOk];cases (r.X.B-r.X.A==(qT p).1)&&(r.Y.B-r.Y.A==(qT p).2)<;>cases (r.X.B-r.X.A==(qT p).2)&&(r.Y.B-r.Y.A==(qT p).1)<;>rfl
def spanAt (p:Product) (z:Int) (i:Nat):Span:=⟨z,z+p.Lengths.getD i daa⟩
def CE (st:Int×Bool×Span) (v:Int×Bool) (s:Span):Int×Bool×Span:=bif v.2&&(!st.2.1||decide (v.1>st.1)) then(v.1,true,s) else st
def qDq (v:zO) (fine z:Int) (st:Int×Bool×Span):Int×Bool×Span:=foldN (λi st=>CE st (worthV v (spanAt v.product z i) fine) (spanAt v.product z i)) 0 v.product.Lengths.length st
def EW (n step:Int):Nat:=((n+step-1)/step).toNat
def qM8 (v:zO) (step fine:Int):Int×Bool×Span:=foldN (λk st=>qDq v fine ((k:Int)*step) st) 0 (EW v.length step) (0,false,⟨0,0⟩)
theorem qFI {n step:Int} (h0:0<=n) (h1:1<=step) {k:Nat}:k<EW n step↔(k:Int)*step<n:=by
 unfold EW;have hd:0<=(n+step-1)/step:=Int.ediv_nonneg (by omega) (by omega);have a:(k:Int)<(n+step-1)/step↔((k:Int)+1)*step<=n+step-1:=by
  rw[<-dE (by omega)];omega
 have e:((k:Int)+1)*step=(k:Int)*step+step:=by rw[gy];simp
 rw[e] at a;omega
def BI' (n:Int) (st:Int×Bool×Span):Prop:=0<=st.1/\st.1<=1000000/\(st.2.1=true->0<=st.2.2.A/\st.2.2.A<st.2.2.B/\st.2.2.B<=n)
theorem qVU {n:Int} {st:Int×Bool×Span} {v:Int×Bool} {s:Span} (h:BI' n st) (hv:0<=v.1/\v.1<=1000000/\(v.2=true->0<=s.A/\s.A<s.B/\s.B<=n)):BI' n (CE st v s):=by
 unfold CE;cases hc:v.2&&(!st.2.1||decide (v.1>st.1)) with
 |false=>exact h
 |true=>
  have:v.2=true:=by cases h2:v.2 with|true=>rfl|false=>rw[h2] at hc;cases hc
  exact⟨hv.1,hv.2.1,λ_=>hv.2.2 this⟩
theorem SJ {σ:Type} {f:Nat->σ->σ} {P:σ->Prop}:∀{k x:Nat} {s:σ},P s->(∀i s,x<=i->i<x+k->P s->P (f i s))->P (foldN f x k s)
 |0,_,_,h,_=>h
 |k+1,x,s,h,hf=>by
  unfold foldN;exact SJ (k:=k) (hf x s (kq _) (by omega) h) (λi s h1 h2=>hf i s (by omega) (by omega))
theorem qWJ {v:zO} {fine z:Int} {st:Int×Bool×Span} (hf:0<=fine) (hp:VP v.product) (h:BI' v.length st):BI' v.length (qDq v fine z st):=
 SJ h (λi s _ _ hs=>qVU hs (qYM hf hp))
theorem qYj {v:zO} {step fine:Int} (hf:0<=fine) (hp:VP v.product):BI' v.length (qM8 v step fine):=
 SJ ⟨by decide,by decide,λh=>by cases h⟩ (λi s _ _ hs=>qWJ hf hp hs)
theorem qW7 (v:zO) {fine z:Int} (hf:0<=fine/\fine<=1000000) (hp:VP v.product) (hl:v.defects.length<=64) (hz:v.zones.length<=1000000) (hn:v.length<=20000) (h0:0<=z) (h1:z<=20000) (a b:Bool) (st:Int×Bool×Span):
  WF v.product fine (v,a) z FUEL st.1 st.2.1 0 st.2.2=some (qDq v fine z st):=by
 have hll:=hp.ll;have k:=zA v.product.Lengths.length (λn (s:Int×Bool×Span) i=>WF v.product fine (v,a) z n s.1 s.2.1 i s.2.2) (λi st=>CE st (worthV v (spanAt v.product z i) fine) (spanAt v.product z i)) (λs=>s) (λ_ _=>True) 0 (by omega) (by omega)
  (λn i s hi _=>⟨by
   obtain⟨s1,s2,s3⟩:=s;have lb:=hp.lb i hi
   try simp only
   rw[WF,ka (by omega),qJ (by omega)];simp only[kp,ko,qM (show i<4611686018427387904 by omega)];rw[qD (n:=z+v.product.Lengths.getD i daa) (by omega)];have e:UJ ⟨v.product,v.rect,v.length,v.zones,v.defects⟩ ⟨z,z+v.product.Lengths.getD i daa⟩ fine=some (worthV v (spanAt v.product z i) fine):=qWN v (spanAt v.product z i) hf hp hl hz hn;rw[e];simp only[kg,MM,qAG,CE,ko,qM (show i<4611686018427387904 by omega)];rw[qD (n:=z+v.product.Lengths.getD i daa) (by omega)];cases (worthV v (spanAt v.product z i) fine).2<;>cases s2<;>cases decide ((worthV v (spanAt v.product z i) fine).1>s1)<;>rfl,trivial⟩)
  (λn s _=>by rw[WF,ke (by omega)];rfl) st trivial
 rw[show((0:Nat):Int)=0 from rfl,kO] at k;exact k.1
theorem qYD (v:zO) {step fine:Int} (hf:0<=fine/\fine<=1000000) (hs:1<=step/\step<=20000) (hp:VP v.product) (hl:v.defects.length<=64) (hz:v.zones.length<=1000000) (hn:0<=v.length/\v.length<=20000) (a:Bool):
  RT v.product step fine (v,a) FUEL 0 false 0 ⟨0,0⟩=some (qM8 v step fine):=by
 have hN:EW v.length step<=1000000000:=by
  unfold EW;have:=Int.ediv_le_self step (show 0<=v.length+step-1 by omega);omega
 have k:=qHC (EW v.length step) (λn (s:Int×Bool×Span) (z:Int)=>RT v.product step fine (v,a) n s.1 s.2.1 z s.2.2) (λk=>(k:Int)*step) (λk st=>qDq v fine ((k:Int)*step) st) (λs=>s) (λ_ _=>True) hN
  (λn i s hi _=>⟨by
   have h1:=(qFI hn.1 hs.1).1 hi;have h0:0<=(i:Int)*step:=ky (by omega) (by omega);have e:(i:Int)*step+step=((i+1:Nat):Int)*step:=by rw[Int.natCast_add,gy];simp
   try simp only
   rw[RT,ka h1,qW7 v hf hp hl hz hn.2 h0 (by omega) a true s,qD (by omega),e];rfl,trivial⟩)
  (λn s _=>by
   have h1:¬((EW v.length step:Nat):Int)*step<v.length:=λh=>by have:=(qFI hn.1 hs.1).2 h;omega
   try simp only
   rw[RT,ke h1];rfl) (0,false,⟨0,0⟩) trivial
 simp only[Int.natCast_zero,dO] at k;exact k.1
def bestR (l:List qB) (ds:List qC) (p:Product) (r:Rect) (step fine:Int):Int×Bool×Span:=bif dimOk r p then qM8 (viewOf l ds p r) step fine else(0,false,⟨0,0⟩)
theorem qPl (l:List qB) (r:Rect):(zones l r).length=l.length:=by unfold zones;simp
theorem qCh {l:List qB} (h:VSol l):1<=solLen l/\solLen l<=20000:=by
 have:=h.bd (kq l.length);have:=h.ne;unfold solLen;omega
theorem qLl {l:List qB} {ds:List qC} {p:Product} {r:Rect} {step fine:Int} (hf:0<=fine) (hp:VP p):BI' (solLen l) (bestR l ds p r step fine):=by
 unfold bestR;cases dimOk r p with
 |true=>exact qYj (v:=viewOf l ds p r) hf hp
 |false=>exact⟨show(0:Int)<=0 by decide,show(0:Int)<=1000000 by decide,λh=>by cases h⟩
theorem qXX {l:List qB} {ds:List qC} {p:Product} {r:Rect} {step fine:Int} (hs:VSol l) (hd:QD ds=0) (hp:wF [p]=0) (hv:VP p) (hr:VR r) (hst:1<=step/\step<=20000) (hf:0<=fine/\fine<=1000000):
  qDU l ds p r step fine=some ((bestR l ds p r step fine).2.2,(bestR l ds p r step fine).1,(bestR l ds p r step fine).2.1):=by
 have hdl:=((yO ds).1 hd).1;have hl:=hs.len;unfold qDU qAp;rw[qON,qPA,ka hst,ka hf];simp only[kg,kG,kr,look_eq hs hd hp hr];unfold bestR;cases dimOk r p with
 |false=>rfl
 |true=>
  simp only[kp,kG,kr];have nl:=qYC ds ⟨r.X,r.Y,⟨0,solLen l⟩⟩;have sb:=qCh hs;have k:=qYD (viewOf l ds p r) (step:=step) hf hst hv (by show(near ds _).length<=64;omega) (by show(zones l r).length<=1000000;rw[qPl];omega) ⟨by show 0<=solLen l;omega,sb.2⟩ true;rw[show(viewOf l ds p r).product=p from rfl] at k;rw[k];rfl
def qBG (l:List qB) (ds:List qC) (p:Product) (r:Rect) (w:Saw) (t:Rates):Int:=
 bif (bestR l ds p r w.Step t.Fine).2.1 then
  (1000000*(bestR l ds p r w.Step t.Fine).1
   +t.Dust*(volS l r.X r.Y ⟨imax 0 ((bestR l ds p r w.Step t.Fine).2.2.A-w.Trim),(bestR l ds p r w.Step t.Fine).2.2.A⟩+volS l r.X r.Y ⟨(bestR l ds p r w.Step t.Fine).2.2.B,imin ((bestR l ds p r w.Step t.Fine).2.2.B+w.Trim) (solLen l)⟩))
   + t.Chip*(volS l r.X r.Y ⟨0,solLen l⟩-volS l r.X r.Y (bestR l ds p r w.Step t.Fine).2.2
     -(volS l r.X r.Y ⟨imax 0 ((bestR l ds p r w.Step t.Fine).2.2.A-w.Trim),(bestR l ds p r w.Step t.Fine).2.2.A⟩+volS l r.X r.Y ⟨(bestR l ds p r w.Step t.Fine).2.2.B,imin ((bestR l ds p r w.Step t.Fine).2.2.B+w.Trim) (solLen l)⟩))
 else-1
theorem qTT {l:List qB} {ds:List qC} {p:Product} {r:Rect} {w:Saw} {t:Rates} (hs:VSol l) (hd:QD ds=0) (hp:wF [p]=0) (hv:VP p) (hr:VR r) (hw:VW w t):
  qFJ l ds p r w t=some (qBG l ds p r w t)/\-1125899906842624<=qBG l ds p r w t/\qBG l ds p r w t<=1125899906842624:=by
 unfold qFJ qBG;rw[qXX hs hd hp hv hr hw.step hw.fine];have B:=qLl (l:=l) (ds:=ds) (p:=p) (r:=r) (step:=w.Step) hw.fine.1 hv;generalize bestR l ds p r w.Step t.Fine=b at*;obtain⟨v,f,z⟩:=b;simp only[kg] at*;cases f with
 |false=>exact⟨rfl,show(-1125899906842624:Int)<=-1 by decide,show(-1:Int)<=1125899906842624 by decide⟩
 |true=>
  obtain⟨b1,b2,b3⟩:=B;have b3:=b3 rfl;simp only at b1 b2 b3;simp only[kG,kr,kp];have sb:=qCh hs;have tr:=hw.trim;rw[(TH l).1,PL hs];simp only[kg,qWw hs];rw[qD (n:=z.A-w.Trim) (by omega),qD (n:=z.B+w.Trim) (by omega)];have v1:=SA hs r.X r.Y ⟨0,solLen l⟩;have v2:=SA hs r.X r.Y z;have v3:=SA hs r.X r.Y ⟨imax 0 (z.A-w.Trim),z.A⟩;have v4:=SA hs r.X r.Y ⟨z.B,imin (z.B+w.Trim) (solLen l)⟩;generalize volS l r.X r.Y ⟨0,solLen l⟩=x1 at*;generalize volS l r.X r.Y z=x2 at*;generalize volS l r.X r.Y ⟨imax 0 (z.A-w.Trim),z.A⟩=x3 at*;generalize volS l r.X r.Y ⟨z.B,imin (z.B+w.Trim) (solLen l)⟩=x4 at*
  have m1:=wS (a:=t.Dust) (b:=x3+x4) (m:=1000) (n:=57600000000) (by have:=hw.dust;omega) (by have:=hw.dust;omega) (by omega) (by omega) (by omega) (by omega);have m2:=wS (a:=t.Chip) (b:=x1-x2-(x3+x4)) (m:=1000) (n:=86400000000) (by have:=hw.chip;omega) (by have:=hw.chip;omega) (by omega) (by omega) (by omega) (by omega);rw[qD (n:=1000000*v) (by omega),qD (n:=x3+x4) (by omega),qD (n:=x1-x2) (by omega),qD (n:=x1-x2-(x3+x4)) (by omega)];generalize t.Dust*(x3+x4)=y1 at*;generalize t.Chip*(x1-x2-(x3+x4))=y2 at*
  rw[qD (n:=y1) (by omega),qD (n:=y2) (by omega),qD (n:=1000000*v+y1) (by omega),qD (by omega)];exact⟨rfl,by omega,by omega⟩
structure SzI (l:List Product) (x:Nat) (s:List Int×List Int):Prop where
 len:s.1.length=s.2.length
 le:s.1.length<=x
 at_:∀j,j<s.1.length->∃i:Nat,i<x/\s.2.getD j daa=(i:Int)/\(s.1.getD j daa=(qT (l.getD i daa)).1\/s.1.getD j daa=(qT (l.getD i daa)).2)
theorem qR8 {l:List Product} {x:Nat} {s:List Int×List Int} (h:SzI l x s) {v:Int} (hv:v=(qT (l.getD x daa)).1\/v=(qT (l.getD x daa)).2):SzI l (x+1) (s.1++[v],s.2++[(x:Int)]):=by
 have h1:=h.len;have h2:=h.le;refine⟨by simp[h1],by simp;omega,λj hj=>?_⟩;simp only[ub,ue,gg] at hj;simp only;rw[qA8 (by omega),qA8 (by omega)];by_cases c:j<s.1.length
 ·rw[if_pos c,if_pos (by omega)];obtain⟨i,a,b,d⟩:=h.at_ j c;exact⟨i,by omega,b,d⟩
 ·rw[if_neg c,if_neg (by omega)];exact⟨x,by omega,rfl,hv⟩
theorem qXZ {l:List Product} {x:Nat} {s:List Int×List Int} (h:SzI l x s):SzI l (x+1) s:=⟨h.len,by have:=h.le;omega,λj hj=>by obtain⟨i,a,b⟩:=h.at_ j hj;exact⟨i,by omega,b⟩⟩
theorem qNR {l:List Product} (hc:wF l=0) (t:Int):SzI l l.length (zF l t):=by
 unfold zF;rw[if_neg (by omega)];have:∀k,SzI l k (foldN (sizStep l t) 0 k ([],[])):=by
  intro k
  induction k with
  |zero=>exact⟨rfl,by simp[foldN],λj hj=>by simp[foldN] at hj⟩
  |succ k ih=>
   rw[yK,kz];unfold sizStep;cases (qT (l.getD k daa)).1==t with
   |true=>exact qR8 ih (.inr rfl)
   |false=>cases (qT (l.getD k daa)).2==t with
    |true=>exact qR8 ih (.inl rfl)
    |false=>exact qXZ ih
 exact this _
theorem qOS {p:Product} (h:VP p):5<=(qT p).1/\(qT p).1<=721/\5<=(qT p).2/\(qT p).2<=600:=by
 have b:=qSS p;have g:=h.gr;have t:=h.th;have w:=h.wd;have a:=h.al;have e:okG p=true:=qKg.2 ⟨by omega,by omega,a⟩;have g1:=qA7 (n:=p.Thick) (a:=p.Allow) (by omega) (by omega) a.1 a.2;have g2:=qA7 (n:=p.Width) (a:=p.Allow) (by omega) (by omega) a.1 a.2;have eg:qT p=(qCF p.Thick p.Allow,qCF p.Width p.Allow):=by unfold qT;rw[e];rfl
 rw[eg] at b g⊢;simp only at b g⊢;omega
theorem qIn {l:List Product} (hc:wF l=0) (t:Int) {j:Nat} (hj:j<(zF l t).1.length):5<=(zF l t).1.getD j daa/\(zF l t).1.getD j daa<=721/\∃i:Nat,i<l.length/\(zF l t).2.getD j daa=(i:Int)/\VP (l.getD i daa)/\wF [l.getD i daa]=0:=by
 obtain⟨i,a,b,c⟩:=(qNR hc t).at_ j hj;have v:=qLm hc a;have g:=qOS v;refine⟨by omega,by omega,i,a,b,v,qPI hc a⟩
def BR (r:Rect) (a b:Int):Rect:=⟨⟨r.X.A+a,r.X.A+b⟩,r.Y⟩
theorem qN6 {r:Rect} (h:VR r) {a b:Int} (h1: -2000<=a/\a<=2000) (h2: -2000<=b/\b<=2000):qA5 r a b=some (BR r a b):=by
 unfold VR at h;unfold qA5 BR;rw[qD (by omega),qD (by omega)]
theorem qNX {r:Rect} (h:VR r) {a b:Int} (h1:0<=a) (h2:a<b) (h3:b<=r.X.B-r.X.A):VR (BR r a b):=by
 unfold VR at*;unfold BR;simp only;omega
end Saw
end Go.SL
namespace Go.SL
namespace Saw
def comp :List Int->List Int
 |[]=>[]
 |[x]=>[x]
 |x::y::l=>if x=y then comp (y::l) else x::comp (y::l)
theorem qOY (x:Int):∀(p:List Int) (y:Int),comp (p++[y]++[x])=if y=x then comp (p++[y]) else comp (p++[y])++[x]
 |[],y=>by
  show comp [y,x]=_;by_cases h:y=x
  ·rw[if_pos h];simp[comp,h]
  ·rw[if_neg h];simp[comp,h]
 |[a],y=>by
  show comp [a,y,x]=if y=x then comp [a,y] else comp [a,y]++[x];by_cases h:y=x<;>by_cases h2:a=y<;>simp[comp,h,h2]
 |a::b::p,y=>by
  have ih:=qOY x (b::p) y;show comp (a::b::(p++[y]++[x]))=_;have e:∀q,comp (a::b::q)=if a=b then comp (b::q) else a::comp (b::q):=λq=>rfl;rw[e];have ih':comp (b::(p++[y]++[x]))=if y=x then comp (b::(p++[y])) else comp (b::(p++[y]))++[x]:=ih;rw[ih'];show _=if y=x then comp (a::b::(p++[y])) else comp (a::b::(p++[y]))++[x];rw[e];by_cases h:y=x
  ·rw[if_pos h,if_pos h]
  ·rw[if_neg h,if_neg h];by_cases h2:a=b
   ·rw[if_pos h2,if_pos h2]
   ·rw[if_neg h2,if_neg h2];rfl
theorem qFr (l:List Int) {m:Nat} (h:m<l.length):l.take (m+1)=l.take m++[l.getD m daa]:=by
 rw[ge,ks h,ki,ks h];rfl
theorem qOU (l:List Int) {m:Nat} (h:m+1<l.length):comp (l.take (m+2))=if l.getD m daa=l.getD (m+1) daa then comp (l.take (m+1)) else comp (l.take (m+1))++[l.getD (m+1) daa]:=by
 rw[qFr l h,qFr l (show m<l.length by omega),qOY]
theorem qLD :∀(l:List Int) (x:Int),x∈comp l↔x∈l
 |[],x=>Iff.rfl
 |[a],x=>Iff.rfl
 |a::b::l,x=>by
  have ih:=qLD (b::l) x;show x∈(if a=b then comp (b::l) else a::comp (b::l))↔_;by_cases h:a=b
  ·rw[if_pos h,ih,h];simp
  ·rw[if_neg h,kN,ih,kN (a:=x) (b:=a)]
theorem qRD :∀(l:List Int),(comp l).length<=l.length
 |[]=>kq _
 |[a]=>kq _
 |a::b::l=>by
  have ih:=qRD (b::l);show(if a=b then comp (b::l) else a::comp (b::l)).length<=_;by_cases h:a=b
  ·rw[if_pos h];simp at ih⊢;omega
  ·rw[if_neg h];simp at ih⊢;omega
theorem qXU (l:List Int) (hl:l.length<=1000000) {k:Nat} (hk:1<=k) (hkl:k<l.length):∀(d j n i:Nat) (a:List Int),j+d=l.length-k->d<n->1<=j->a.length=l.length->k<=i->i+1<=k+j->a.take i=comp (l.take (k+j))->(∀m,i<=m->a.getD m daa=l.getD m daa)->
  ∃a' i',jF l (k:Int) n a (i:Int) (j:Int)=some (a',((i':Nat):Int))/\a'.length=l.length/\i'<=l.length/\a'.take i'=comp l:=by
 intro d
 induction d with
 |zero=>
  intro j n i a hj hn h1 ha hi1 hi2 ht hs;obtain⟨n,rfl⟩:∃m,n=m+1:=⟨n-1,by omega⟩
  refine⟨a,i,?_,ha,by omega,?_⟩
  ·rw[jF,ko,ke (by omega)];rfl
  ·rw[ht,show k+j=l.length by omega,de]
 |succ d ih=>
  intro j n i a hj hn h1 ha hi1 hi2 ht hs;obtain⟨n,rfl⟩:∃m,n=m+1:=⟨n-1,by omega⟩
  rw[jF,ko,ka (by omega),qJ (by omega)];rw[qD (n:=(j:Int)-1) (by omega),qJ (i:=(j:Int)-1) (by omega)];have hble:Nat.ble (k+(l.length-k)) a.length=true:=Nat.ble_eq_true_of_le (by omega);rw[hble];unfold KO;rw[qJ (i:=(i:Int)) (by omega),qM (x:=j) (by omega),qM (x:=i) (by omega)];simp only[kp,ko];rw[show((j:Int)-1).toNat=j-1 by omega,hs (k+j) (by omega),hs (k+(j-1)) (by omega)];obtain⟨m,hm⟩:∃m,k+j=m+1:=⟨k+j-1,by omega⟩
  have hct:=qOU l (m:=m) (by omega);rw[show k+(j-1)=m by omega,hm];by_cases c:l.getD m daa=l.getD (m+1) daa
  ·have cb:(l.getD (m+1) daa !=l.getD m daa)=false:=by rw[c];simp
   rw[cb,kr];rw[if_pos c] at hct;exact ih (j+1) n i a (by omega) (by omega) (by omega) ha hi1 (by omega) (by rw[ht,hm,show k+(j+1)=m+2 by omega,hct]) hs
  ·have cb:(l.getD (m+1) daa !=l.getD m daa)=true:=by
    have:¬l.getD (m+1) daa=l.getD m daa:=λh=>c h.symm;simpa using this
   rw[cb,kp];rw[if_neg c] at hct;refine ih (j+1) n (i+1) (a.set i (l.getD (m+1) daa)) (by omega) (by omega) (by omega) (by simpa using ha) (by omega) (by omega) ?_ ?_
   ·have hil:i<(a.set i (l.getD (m+1) daa)).length:=by simp;omega
    rw[qFr _ hil,BF _ (by omega),List.take_set_of_le (by omega),ht,hm,show k+(j+1)=m+2 by omega,hct]
   ·intro q hq;rw[ZZ _ (by omega)];exact hs q (by omega)
theorem qXE (l:List Int) (hl:l.length<=1000000):∀(d k n:Nat),k+d=l.length->d<n->1<=k->comp (l.take k)=l.take k->(∃r,QA n l (k:Int)=some r/\(r= .inl (comp l,comp l)\/(r= .inr l/\comp l=l))):=by
 intro d
 induction d with
 |zero=>
  intro k n hk hn h1 hc;obtain⟨n,rfl⟩:∃m,n=m+1:=⟨n-1,by omega⟩
  refine⟨.inr l,?_,.inr ⟨rfl,?_⟩⟩
  ·rw[QA,ke (by omega)];rfl
  ·rw[show k=l.length by omega,de] at hc;exact hc
 |succ d ih=>
  intro k n hk hn h1 hc;obtain⟨n,rfl⟩:∃m,n=m+1:=⟨n-1,by omega⟩
  rw[QA,ka (by omega),qJ (by omega),qD (n:=(k:Int)-1) (by omega),qJ (by omega)];simp only[kp,ko];obtain⟨m,hm⟩:∃m,k=m+1:=⟨k-1,by omega⟩
  rw[show((k:Int)-1).toNat=m by omega];have hct:=qOU l (m:=m) (by omega);rw[<-hm,hc] at hct;by_cases c:l.getD k daa=l.getD m daa
  ·have cb:(l.getD k daa==l.getD m daa)=true:=by simpa using c
   rw[if_pos c.symm] at hct;obtain⟨a',i',e,g1,g2,g3⟩:=qXU l hl h1 (by omega) (l.length-k-1) 1 FUEL k l (by omega) (by rw[FUEL_eq];omega) (by omega) rfl (kq _) (by omega) (by rw[hm];rw[show m+1+1=m+2 by omega,<-hm];exact hct.symm) (λ_ _=>rfl);have s1:slOk (k:Int) (l.length:Int) l.length=true:=by unfold slOk;simp;omega
   rw[cb,kp,s1,kp,show(1:Int)=((1:Nat):Int) from rfl,e];simp only[kg];have s2:slOk ((i':Nat):Int) (a'.length:Int) a'.length=true:=by unfold slOk;simp;omega
   have s3:slOk 0 ((i':Nat):Int) a'.length=true:=by unfold slOk;simp;omega
   rw[s2,s3,kp,kp,ko,g3];exact⟨_,rfl,.inl rfl⟩
  ·have cb:(l.getD k daa==l.getD m daa)=false:=by simpa using c
   rw[if_neg (λh=>c h.symm)] at hct;rw[cb,kr,qM (by omega)];exact ih (k+1) n (by omega) (by omega) (by omega) (by rw[show k+1=m+2 by omega,hct,show m+2=k+1 by omega,qFr l (by omega)])
theorem qU3 (l:List Int) (hl:l.length<=1000000):VA l=some (comp l,comp l):=by
 unfold VA;by_cases h:(l.length:Int)<2
 ·rw[ka h,kp]
  match l,h with
  |[],_=>rfl
  |[a],_=>rfl
  |a::b::l,h=>simp at h;omega
 ·rw[ke h,kr];have h1:comp (l.take 1)=l.take 1:=by
   match l with
   |[]=>rfl
   |a::l=>rfl
  obtain⟨r,e,hr⟩:=qXE l hl (l.length-1) 1 FUEL (by omega) (by rw[FUEL_eq];omega) (by omega) h1;rw[show(1:Int)=((1:Nat):Int) from rfl,e];rcases hr with rfl|⟨rfl,hc⟩
  ·rfl
  ·simp only[kg,Sum.elim_inr,hc]
def allG (ps:List Product):List Int:=ps.flatMap (λp=>[(qT p).1,(qT p).2])
def hts (ps:List Product):List Int:=if wF ps=0 then comp (WJ (λx y=>decide (x<=y)) (allG ps)) else[]
theorem qK5 (ps:List Product):(allG ps).length=2*ps.length:=by
 unfold allG
 induction ps with
 |nil=>rfl
 |cons p ps ih=>simp only[gq,ub,ih,ue,gg];omega
theorem qYK {ps:List Product} {x:Int}:x∈allG ps↔∃i,i<ps.length/\(x=(qT (ps.getD i daa)).1\/x=(qT (ps.getD i daa)).2):=by
 unfold allG;rw[List.mem_flatMap];constructor
 ·rintro⟨p,hp,hx⟩;obtain⟨i,hi,rfl⟩:=List.getElem_of_mem hp;refine⟨i,hi,?_⟩;rw[ki,ks hi];simpa using hx
 ·rintro⟨i,hi,hx⟩;exact⟨ps.getD i daa,zK hi,by simpa using hx⟩
theorem qUE {ps:List Product} (h:wF ps=0) {x:Int}:x∈hts ps↔x∈allG ps:=by
 unfold hts;rw[if_pos h,qLD,(KN _ _).mem_iff]
theorem qOx (ps:List Product):(hts ps).length<=32:=by
 unfold hts;split
 ·rename_i h;have h1:=qRD (WJ (λx y=>decide (x<=y)) (allG ps));rw[(KN _ _).length_eq,qK5] at h1;have:=qBa (l:=ps) (by simpa using h);omega
 ·simp
theorem qNf :∀(l:List Product) (x:Nat) (s:List Int),foldi (λ_ p s=>s++[(qT p).1,(qT p).2]) x l s=s++allG l
 |[],_,s=>by simp[foldi,allG]
 |p::l,x,s=>by
  show foldi _ (x+1) l (s++[(qT p).1,(qT p).2])=_;rw[qNf l (x+1) _];unfold allG;simp only[gq,kR]
theorem qVF (ps:List Product):EA ps=some (hts ps):=by
 unfold EA hts;rw[qE7];simp only[kg];by_cases h:wF ps=0
 ·have hl:=qBa (l:=ps) (by simpa using h);rw[h,if_pos rfl];simp only[kA,kr];have k:=jJ ps (λn (s:List Int) x=>PM ps n s x) (λx=>(x:Int)) (λ_ p s=>s++[(qT p).1,(qT p).2]) (λs=>s) (λx s=>s.length=2*x) (by omega)
   (λn x s hx hi=>by
    refine⟨?_,by simp[hi];omega⟩;rw[PM,ka (by omega),qJ (by omega),qM (by omega)];simp only[kp,ko,(AE _).1,kg];rw[wJ (by omega)];rfl)
   (λn s _=>by rw[PM];simp) (i:=0) rfl [] rfl
  rw[k.1,qNf,uj];simp only[kg];unfold LI;have hb:Nat.blt (allG ps).length 4611686018427387904=true:=by rw[uf,qK5];omega
  rw[hb];simp only[kp,kg];have hlen:(WJ (λx y=>decide (x<=y)) (allG ps)).length=(allG ps).length:=(KN _ _).length_eq;rw[hlen];simp only[uU,kp];rw[qU3 _ (by rw[hlen,qK5];omega)];rfl
 ·have h':(wF ps !=0)=true:=by simpa using h
  rw[h',if_neg h];rfl
def ripB (k:Int):Bool:=k==2||k==3
def alP (r:Rect) (k:Int):Span:=bif k==2 then r.X else r.Y
def wiP (r:Rect) (k:Int) (s:Span):Rect:=bif k==2 then⟨s,r.Y⟩ else⟨r.X,s⟩
def enP (r:Rect) (n:Node) (kerf:Int):Int:=imin (w64 (n.At+kerf)) (alP r n.Kind).B
def fiP (r:Rect) (n:Node):Rect:=wiP r n.Kind ⟨(alP r n.Kind).A,n.At⟩
def cuP (r:Rect) (n:Node) (kerf:Int):Rect:=wiP r n.Kind ⟨n.At,enP r n kerf⟩
def seP (r:Rect) (n:Node) (kerf:Int):Rect:=wiP r n.Kind ⟨enP r n kerf,(alP r n.Kind).B⟩
def qCL (kerf:Int) (n:Node) (x:qV) (st:List qV):List qV:=
 bif ripB n.Kind then⟨fiP x.rect n,x.level+1⟩::⟨seP x.rect n kerf,x.level+1⟩::st else st
def chkN (bd:Rect->Int->Int) (n:Node) (x:qV):Int:=
 if n.Kind<0\/3<n.Kind\/(n.Kind=0/\n.At≠0) then 10
 else if 64<x.level then 28
 else if ripB n.Kind=true/\(n.At<=(alP x.rect n.Kind).A\/(alP x.rect n.Kind).B<=n.At) then 20
 else if n.Kind=1 then bd x.rect n.At else 0
def chkP (bd:Rect->Int->Int) (kerf:Int):List Node->List qV->Int
 |[],[]=>0
 |_::_,[]=>4
 |[],_::_=>3
 |n::ns,x::st=>if chkN bd n x≠0 then chkN bd n x else chkP bd kerf ns (qCL kerf n x st)
inductive T where
 |leaf (n:Node):T
 |rip (n:Node) (a b:T):T
def wR :T->List Node
 | .leaf n=>[n]
 | .rip n a b=>n::(wR a++wR b)
def qGM :T->Prop
 | .leaf n=>ripB n.Kind=false
 | .rip n a b=>ripB n.Kind=true/\qGM a/\qGM b
def okT (bd:Rect->Int->Int) (kerf:Int):T->qV->Prop
 | .leaf n,x=>ripB n.Kind=false/\chkN bd n x=0
 | .rip n a b,x=>ripB n.Kind=true/\chkN bd n x=0/\okT bd kerf a ⟨fiP x.rect n,x.level+1⟩/\okT bd kerf b ⟨seP x.rect n kerf,x.level+1⟩
theorem qGf {bd:Rect->Int->Int} {kerf:Int}:∀{t:T} {x:qV},okT bd kerf t x->qGM t
 | .leaf _,_,h=>h.1
 | .rip _ _ _,_,h=>⟨h.1,qGf h.2.2.1,qGf h.2.2.2⟩
def allP {α:Type} (g:Node->qV->List α) (kerf:Int):List Node->List qV->List α
 |n::ns,x::st=>g n x++allP g kerf ns (qCL kerf n x st)
 |_,_=>[]
def allT {α:Type} (g:Node->qV->List α) (kerf:Int):T->qV->List α
 | .leaf n,x=>g n x
 | .rip n a b,x=>g n x++(allT g kerf a ⟨fiP x.rect n,x.level+1⟩++allT g kerf b ⟨seP x.rect n kerf,x.level+1⟩)
def okTs (bd:Rect->Int->Int) (kerf:Int):List T->List qV->Prop
 |[],[]=>True
 |t::ts,x::st=>okT bd kerf t x/\okTs bd kerf ts st
 |_,_=>False
def qKd :List T->List Node
 |[]=>[]
 |t::ts=>wR t++qKd ts
theorem qPE {bd:Rect->Int->Int} {kerf:Int}:∀(ns:List Node) (st:List qV),chkP bd kerf ns st=0->∃ts,ns=qKd ts/\okTs bd kerf ts st
 |[],[],_=>⟨[],rfl,trivial⟩
 |_::_,[],h=>by simp[chkP] at h
 |[],_::_,h=>by simp[chkP] at h
 |n::ns,x::st,h=>by
  unfold chkP at h;by_cases c:chkN bd n x=0
  ·rw[if_neg (by simpa using c)] at h;obtain⟨ts,e1,e2⟩:=qPE ns _ h;unfold qCL at e2;cases hr:ripB n.Kind with
   |false=>
    rw[hr,kr] at e2;exact⟨.leaf n::ts,by rw[e1];rfl,⟨hr,c⟩,e2⟩
   |true=>
    rw[hr,kp] at e2
    match ts,e1,e2 with
    |a::b::ts,e1,e2=>
     refine⟨.rip n a b::ts,?_,⟨hr,c,e2.1,e2.2.1⟩,e2.2.2⟩;rw[e1];simp[qKd,wR]
    |[a],_,e2=>exact e2.2.elim
    |[],_,e2=>exact e2.elim
  ·rw[if_pos c] at h;exact(c h).elim
theorem qRn {bd:Rect->Int->Int} {kerf:Int} {ns:List Node} {x:qV} (h:chkP bd kerf ns [x]=0):∃t,ns=wR t/\okT bd kerf t x:=by
 obtain⟨ts,e1,e2⟩:=qPE ns [x] h
 match ts,e1,e2 with
 |[t],e1,e2=>exact⟨t,by rw[e1];simp[qKd],e2.1⟩
 |_::_::_,_,e2=>exact e2.2.elim
 |[],_,e2=>exact e2.elim
theorem qK9 {bd:Rect->Int->Int} {kerf:Int}:∀(t:T) (x:qV) (ns:List Node) (st:List qV),okT bd kerf t x->chkP bd kerf (wR t++ns) (x::st)=chkP bd kerf ns st
 | .leaf n,x,ns,st,h=>by
  show(if chkN bd n x≠0 then _ else _)=_;rw[if_neg (by simp[h.2])];unfold qCL;rw[h.1,kr];rfl
 | .rip n a b,x,ns,st,h=>by
  show(if chkN bd n x≠0 then _ else chkP bd kerf ((wR a++wR b)++ns) (qCL kerf n x st))=_;rw[if_neg (by simp[h.2.1])];unfold qCL;rw[h.1,kp,kR];rw[qK9 a _ _ _ h.2.2.1,qK9 b _ _ _ h.2.2.2]
theorem qUI {bd:Rect->Int->Int} {kerf:Int} {t:T} {x:qV} (h:okT bd kerf t x):chkP bd kerf (wR t) [x]=0:=by
 have:=qK9 t x [] [] h;rw[uQ] at this;exact this
theorem qLa {α:Type} (g:Node->qV->List α) (kerf:Int):∀(t:T) (x:qV) (ns:List Node) (st:List qV),qGM t->allP g kerf (wR t++ns) (x::st)=allT g kerf t x++allP g kerf ns st
 | .leaf n,x,ns,st,h=>by
  show g n x++allP g kerf ([]++ns) (qCL kerf n x st)=_;unfold qCL;rw[show ripB n.Kind=false from h,kr];rfl
 | .rip n a b,x,ns,st,h=>by
  show g n x++allP g kerf ((wR a++wR b)++ns) (qCL kerf n x st)=_;unfold qCL;rw[h.1,kp,kR,qLa g kerf a _ _ _ h.2.1,qLa g kerf b _ _ _ h.2.2];simp[allT]
theorem qHK {α:Type} (g:Node->qV->List α) (kerf:Int) {t:T} (x:qV) (h:qGM t):allP g kerf (wR t) [x]=allT g kerf t x:=by
 have:=qLa g kerf t x [] [] h;rw[uQ] at this;rw[this];simp[allP]
def qDY (n:Node) (x:qV):List Leaf:=if n.Kind=0 then[⟨x.rect,-1⟩] else if n.Kind=1 then[⟨x.rect,n.At⟩] else[]
def cutG (kerf:Int) (n:Node) (x:qV):List Rect:=if ripB n.Kind=true then[cuP x.rect n kerf] else[]
theorem qPi {bd bd':Rect->Int->Int} {n:Node} {x:qV} (h:chkN bd n x=0) (hb:∀r,n.Kind=1->bd r n.At=0->bd' r n.At=0):chkN bd' n x=0:=by
 unfold chkN at h⊢;split at h
 ·cases h
 ·rename_i c1;rw[if_neg c1];split at h
  ·cases h
  ·rename_i c2;rw[if_neg c2];split at h
   ·cases h
   ·rename_i c3;rw[if_neg c3];split at h
    ·rename_i c4;rw[if_pos c4];exact hb _ c4 h
    ·rename_i c4;rw[if_neg c4]
theorem qKY {bd bd':Rect->Int->Int} {kerf:Int} (hb:∀r at_,bd r at_=0->bd' r at_=0):∀{t:T} {x:qV},okT bd kerf t x->okT bd' kerf t x
 | .leaf _,_,h=>⟨h.1,qPi h.2 λr _=>hb r _⟩
 | .rip _ _ _,_,h=>⟨h.1,qPi h.2.1 λr _=>hb r _,qKY hb h.2.2.1,qKY hb h.2.2.2⟩
theorem qNn :∀(t:T),1<=(wR t).length
 | .leaf _=>kq _
 | .rip _ a b=>by simp[wR]
def WS (s:Span):Prop:= -600<=s.A/\s.A<=s.B/\s.B<=600
def WR (r:Rect):Prop:=WS r.X/\WS r.Y
def subS (a b:Span):Prop:=b.A<=a.A/\a.B<=b.B
def subR (a b:Rect):Prop:=subS a.X b.X/\subS a.Y b.Y
theorem qPo (a:Rect):subR a a:=⟨⟨kM _,kM _⟩,kM _,kM _⟩
theorem qNA {a b c:Span} (h:subS a b) (k:subS b c):subS a c:=⟨uY k.1 h.1,uY h.2 k.2⟩
theorem qDW {a b c:Rect} (h:subR a b) (k:subR b c):subR a c:=⟨qNA h.1 k.1,qNA h.2 k.2⟩
def qJR (a b:Rect):Prop:=a.X.B<=b.X.A\/b.X.B<=a.X.A\/a.Y.B<=b.Y.A\/b.Y.B<=a.Y.A
theorem qWW {a b c d:Rect} (h:qJR c d) (h1:subR a c) (h2:subR b d):qJR a b:=by
 obtain⟨⟨a1,a2⟩,a3,a4⟩:=h1;obtain⟨⟨b1,b2⟩,b3,b4⟩:=h2;unfold qJR at*;omega
theorem ripB_iff {k:Int}:ripB k=true↔k=2\/k=3:=by unfold ripB;simp
theorem chkN_in {bd:Rect->Int->Int} {n:Node} {x:qV} (hr:ripB n.Kind=true) (h:chkN bd n x=0):(alP x.rect n.Kind).A<n.At/\n.At<(alP x.rect n.Kind).B:=by
 unfold chkN at h;split at h
 ·cases h
 ·split at h
  ·cases h
  ·split at h
   ·cases h
   ·rename_i c;simp[hr] at c;omega
theorem chkN_kind {bd:Rect->Int->Int} {n:Node} {x:qV} (hr:ripB n.Kind=false) (h:chkN bd n x=0):(n.Kind=0/\n.At=0)\/(n.Kind=1/\bd x.rect n.At=0):=by
 have:¬(n.Kind=2\/n.Kind=3):=by rw[<-ripB_iff,hr];simp
 unfold chkN at h;split at h
 ·cases h
 ·rename_i c;split at h
  ·cases h
  ·split at h
   ·cases h
   ·split at h
    ·rename_i c4;exact .inr ⟨c4,h⟩
    ·left;omega
structure Cut3 (r f c s:Rect):Prop where
 wf:WR f
 wc:WR c
 ws:WR s
 sf:subR f r
 sc:subR c r
 ss:subR s r
 fs:qJR f s
structure AddR (μ:Rect->Int):Prop where
 x:∀{A m B:Int} (y:Span),A<=m->m<=B->μ ⟨⟨A,m⟩,y⟩+μ ⟨⟨m,B⟩,y⟩=μ ⟨⟨A,B⟩,y⟩
 y:∀{A m B:Int} (x:Span),A<=m->m<=B->μ ⟨x,⟨A,m⟩⟩+μ ⟨x,⟨m,B⟩⟩=μ ⟨x,⟨A,B⟩⟩
theorem cut3 {r:Rect} {n:Node} {kerf:Int} (hr:ripB n.Kind=true) (hw:WR r) (hi:(alP r n.Kind).A<n.At/\n.At<(alP r n.Kind).B) (hk:0<=kerf/\kerf<=20):
  Cut3 r (fiP r n) (cuP r n kerf) (seP r n kerf)/\∀μ,AddR μ->μ (fiP r n)+μ (cuP r n kerf)+μ (seP r n kerf)=μ r:=by
 obtain⟨⟨x1,x2,x3⟩,y1,y2,y3⟩:=hw;rcases ripB_iff.1 hr with e|e
 ·have ea:alP r n.Kind=r.X:=by unfold alP;rw[e];rfl
  have ew:∀s,wiP r n.Kind s=⟨s,r.Y⟩:=λs=>by unfold wiP;rw[e];rfl
  rw[ea] at hi;have ee:enP r n kerf=imin (n.At+kerf) r.X.B:=by unfold enP;rw[ea,qD (by omega)]
  unfold fiP cuP seP;simp only[ew,ea,ee];have hm:n.At<=imin (n.At+kerf) r.X.B/\imin (n.At+kerf) r.X.B<=r.X.B:=by
   rcases imin_or (n.At+kerf) r.X.B with h|h<;>omega
  refine⟨⟨⟨⟨?_,?_,?_⟩,y1,y2,y3⟩,⟨⟨?_,?_,?_⟩,y1,y2,y3⟩,⟨⟨?_,?_,?_⟩,y1,y2,y3⟩,⟨⟨?_,?_⟩,kM _,kM _⟩,⟨⟨?_,?_⟩,kM _,kM _⟩,⟨⟨?_,?_⟩,kM _,kM _⟩,.inl ?_⟩,λμ h=>?_⟩<;>(try (simp only;omega))
  rw[h.x r.Y (by omega) hm.1,h.x r.Y (by omega) hm.2]
 ·have ea:alP r n.Kind=r.Y:=by unfold alP;rw[e];rfl
  have ew:∀s,wiP r n.Kind s=⟨r.X,s⟩:=λs=>by unfold wiP;rw[e];rfl
  rw[ea] at hi;have ee:enP r n kerf=imin (n.At+kerf) r.Y.B:=by unfold enP;rw[ea,qD (by omega)]
  unfold fiP cuP seP;simp only[ew,ea,ee];have hm:n.At<=imin (n.At+kerf) r.Y.B/\imin (n.At+kerf) r.Y.B<=r.Y.B:=by
   rcases imin_or (n.At+kerf) r.Y.B with h|h<;>omega
  refine⟨⟨⟨⟨x1,x2,x3⟩,?_,?_,?_⟩,⟨⟨x1,x2,x3⟩,?_,?_,?_⟩,⟨⟨x1,x2,x3⟩,?_,?_,?_⟩,⟨⟨kM _,kM _⟩,?_,?_⟩,⟨⟨kM _,kM _⟩,?_,?_⟩,⟨⟨kM _,kM _⟩,?_,?_⟩,.inr (.inr (.inl ?_))⟩,λμ h=>?_⟩<;>(try (simp only;omega))
  rw[h.y r.X (by omega) hm.1,h.y r.X (by omega) hm.2]
def lvT (kerf:Int) (t:T) (x:qV):List Leaf:=allT qDY kerf t x
def ctT (kerf:Int) (t:T) (x:qV):List Rect:=allT (cutG kerf) kerf t x
theorem lv_leaf {bd:Rect->Int->Int} {kerf:Int} {n:Node} {x:qV} (h:okT bd kerf (.leaf n) x):(lvT kerf (.leaf n) x=[⟨x.rect,-1⟩]\/(lvT kerf (.leaf n) x=[⟨x.rect,n.At⟩]/\bd x.rect n.At=0))/\ctT kerf (.leaf n) x=[]:=by
 refine⟨?_,?_⟩
 ·rcases chkN_kind h.1 h.2 with⟨e,_⟩|⟨e,eb⟩
  ·left;simp[lvT,allT,qDY,e]
  ·right;exact⟨by simp[lvT,allT,qDY,e],eb⟩
 ·simp[ctT,allT,cutG,h.1]
theorem qL3 {kerf:Int} {n:Node} {a b:T} {x:qV} (hr:ripB n.Kind=true):lvT kerf (.rip n a b) x=lvT kerf a ⟨fiP x.rect n,x.level+1⟩++lvT kerf b ⟨seP x.rect n kerf,x.level+1⟩/\ctT kerf (.rip n a b) x=cuP x.rect n kerf::(ctT kerf a ⟨fiP x.rect n,x.level+1⟩++ctT kerf b ⟨seP x.rect n kerf,x.level+1⟩):=by
 refine⟨?_,?_⟩
 ·have e0:¬n.Kind=0:=by rcases ripB_iff.1 hr with e|e<;>omega
  have e1:¬n.Kind=1:=by rcases ripB_iff.1 hr with e|e<;>omega
  simp[lvT,allT,qDY,e0,e1]
 ·simp[ctT,allT,cutG,hr]
def sumL {α:Type} (f:α->Int) (l:List α):Int:=(l.map f).sum
theorem qSQ {α:Type} (f:α->Int):sumL f []=0:=rfl
theorem YZ {α:Type} (f:α->Int) (x:α) (l:List α):sumL f (x::l)=f x+sumL f l:=by simp[sumL]
theorem EI {α:Type} (f:α->Int) (l t:List α):sumL f (l++t)=sumL f l+sumL f t:=by simp[sumL]
theorem qJ5 {α:Type} {f:α->Int} {l:List α} (h:∀x∈l,0<=f x):0<=sumL f l:=by
 induction l with
 |nil=>exact kM _
 |cons x l ih=>
  rw[YZ];have:=h x kF;have:=ih λy hy=>h y (kD _ hy);omega
theorem qSu {α:Type} (c:Int) (f:α->Int):∀(l:List α),sumL (λx=>c*f x) l=c*sumL f l
 |[]=>by simp[sumL]
 |x::l=>by rw[YZ,YZ,qSu c f l,uS]
theorem qSF {α:Type} (f g:α->Int):∀(l:List α),sumL (λx=>f x+g x) l=sumL f l+sumL g l
 |[]=>by simp[sumL]
 |x::l=>by simp only[YZ,qSF f g l];omega
theorem qGY {α:Type} {f:α->Int} {M:Int}:∀{l:List α},(∀x∈l,f x<=M)->sumL f l<=M*l.length
 |[],_=>by simp[sumL]
 |x::l,h=>by
  rw[YZ];have:=h x kF;have:=qGY (l:=l) λy hy=>h y (kD _ hy);have e:((x::l).length:Int)=l.length+1:=by simp
  rw[e,uS];omega
structure Parts (bd:Rect->Int->Int) (r:Rect) (lv:List Leaf) (ct:List Rect) (n:Nat):Prop where
 wl:∀l∈lv,WR l.Rect/\subR l.Rect r/\(l.Product= -1\/bd l.Rect l.Product=0)
 wc:∀c∈ct,WR c/\subR c r
 ap:lv.Pairwise λa b=>qJR a.Rect b.Rect
 ll:lv.length<=n
 lc:ct.length<=n
 sum:∀μ,AddR μ->sumL (λl=>μ l.Rect) lv+sumL μ ct=μ r
theorem qOv {bd:Rect->Int->Int} {kerf:Int} (hk:0<=kerf/\kerf<=20):∀(t:T) (x:qV),okT bd kerf t x->WR x.rect->Parts bd x.rect (lvT kerf t x) (ctT kerf t x) (wR t).length
 | .leaf n,x,h,hw=>by
  obtain⟨e1,e2⟩:=lv_leaf h;rcases e1 with e1|⟨e1,eb⟩
  ·rw[e1,e2];refine⟨λl hl=>?_,λc hc=>(dc hc).elim,by simp,by simp[wR],by simp,λμ _=>by simp[sumL]⟩;simp at hl;subst hl;exact⟨hw,qPo _,.inl rfl⟩
  ·rw[e1,e2];refine⟨λl hl=>?_,λc hc=>(dc hc).elim,by simp,by simp[wR],by simp,λμ _=>by simp[sumL]⟩;simp at hl;subst hl;exact⟨hw,qPo _,.inr eb⟩
 | .rip n a b,x,h,hw=>by
  obtain⟨hr,hc,ha,hb⟩:=h;obtain⟨c3,cs⟩:=cut3 hr hw (chkN_in hr hc) hk;have pa:=qOv hk a _ ha c3.wf;have pb:=qOv hk b _ hb c3.ws;rw[(qL3 hr).1,(qL3 hr).2];refine⟨λl hl=>?_,λc hc=>?_,?_,?_,?_,λμ hμ=>?_⟩
  ·rcases um.1 hl with hl|hl
   ·exact⟨(pa.wl l hl).1,qDW (pa.wl l hl).2.1 c3.sf,(pa.wl l hl).2.2⟩
   ·exact⟨(pb.wl l hl).1,qDW (pb.wl l hl).2.1 c3.ss,(pb.wl l hl).2.2⟩
  ·rcases kN.1 hc with rfl|hc
   ·exact⟨c3.wc,c3.sc⟩
   rcases um.1 hc with hc|hc
   ·exact⟨(pa.wc c hc).1,qDW (pa.wc c hc).2 c3.sf⟩
   ·exact⟨(pb.wc c hc).1,qDW (pb.wc c hc).2 c3.ss⟩
  ·exact dS.2 ⟨pa.ap,pb.ap,λl hl k hk=>qWW c3.fs (pa.wl l hl).2.1 (pb.wl k hk).2.1⟩
  ·have:=pa.ll;have:=pb.ll;simp[wR];omega
  ·have:=pa.lc;have:=pb.lc;simp[wR];omega
  ·rw[EI,YZ,EI];have:=pa.sum μ hμ;have:=pb.sum μ hμ;have:=cs μ hμ;simp only at*;omega
def bdAny (_:Rect) (a:Int):Int:=if a<0\/16<=a then 8 else 0
def qBX (l:List Product) (r:Rect) (a:Int):Int:=if a<0\/(l.length:Int)<=a then 8 else bif dimOk r (l.getD a.toNat daa) then 0 else 20
abbrev RdC :=Int->qV->Int×Int->Option (Nat×Int×Int)
theorem VR_WR {r:Rect} (h:VR r):WR r:=⟨⟨h.1.1,by have:=h.1.2;omega,h.1.2.2⟩,h.2.1,by have:=h.2.2;omega,h.2.2.2⟩
def qMG (bd:Rect->Int->Int) (p:Pattern) (kerf:Int):Int:=
 if¬VR p.Frame then 19 else if kerf<0\/20<kerf then 9 else if 127<p.Nodes.length then 4 else chkP bd kerf p.Nodes [⟨p.Frame,1⟩]
theorem CF {bd:Rect->Int->Int} {p:Pattern} {kerf:Int}:qMG bd p kerf=0↔VR p.Frame/\(0<=kerf/\kerf<=20)/\p.Nodes.length<=127/\chkP bd kerf p.Nodes [⟨p.Frame,1⟩]=0:=by
 unfold qMG;by_cases hv:VR p.Frame
 ·rw[if_neg (by simpa using hv)];by_cases h1:kerf<0\/20<kerf
  ·rw[if_pos h1];constructor
   ·intro h;cases h
   ·rintro⟨_,h,_⟩;omega
  ·rw[if_neg h1];by_cases h3:127<p.Nodes.length
   ·rw[if_pos h3];constructor
    ·intro h;cases h
    ·rintro⟨_,_,h,_⟩;omega
   ·rw[if_neg h3];constructor
    ·intro h;exact⟨hv,by omega,by omega,h⟩
    ·rintro⟨_,_,_,h⟩;exact h
 ·rw[if_pos (by simpa using hv)];constructor
  ·intro h;cases h
  ·rintro⟨h,_⟩;exact(hv h).elim
def lvP (p:Pattern) (kerf:Int):List Leaf:=allP qDY kerf p.Nodes [⟨p.Frame,1⟩]
def ctP (p:Pattern) (kerf:Int):List Rect:=allP (cutG kerf) kerf p.Nodes [⟨p.Frame,1⟩]
def wid (r:Rect):Int:=r.X.B-r.X.A
def CJ (l:List qB) (ds:List qC) (p:Product) (r:Rect) (w:Saw) (t:Rates) (sz:Int) (x:Nat):Int:=
 if(x:Int) % w.Pitch=0 then qBG l ds p (BR r x (x+sz)) w t else-1
def OR (l:List qB) (ds:List qC) (p:Product) (r:Rect) (w:Saw) (t:Rates) (sz:Int):List Int:=(List.range (wid r-sz+1).toNat).map (CJ l ds p r w t sz)
theorem qVH {l:List qB} {ds:List qC} {ps:List Product} {r:Rect} {w:Saw} {t:Rates} (h:VE l ds ps r w t) (z:Int) {j:Nat} (hj:j<(zF ps z).1.length):
  KV l ds ps r w t (zF ps z) (j:Int) FUEL [] 0=some (OR l ds (ps.getD ((zF ps z).2.getD j daa).toNat daa) r w t ((zF ps z).1.getD j daa)):=by
 obtain⟨s1,s2,i,hi,ei,vp,c1⟩:=qIn h.pr z hj;have hsl:=(qNR h.pr z).len;have hr:=h.vr;have hr':=hr;unfold VR at hr';have hw:=h.vw;have hp:=hw.pitch;have hd:QD ds=0:=(yO ds).2 ⟨h.dl,h.dd⟩;rw[ei,ko];generalize hsz:(zF ps z).1.getD j daa=sz at*;have k:=zA (wid r-sz+1).toNat (λn (s:List Int) x=>KV l ds ps r w t (zF ps z) (j:Int) n s x) (λx s=>s++[CJ l ds (ps.getD i daa) r w t sz x]) (λs=>s)
  (λx s=>s=(List.range x).map (CJ l ds (ps.getD i daa) r w t sz)) 0 (by omega) (by unfold wid;omega)
  (λn x s hx hs=>by
   unfold wid at hx;have hlen:s.length=x:=by rw[hs];simp
   refine⟨?_,by rw[hs,ul,kU];rfl⟩;rw[KV];simp only[ko,hsz,ei];rw[qD (n:=(x:Int)+sz) (by omega),qD (n:=r.X.B-r.X.A) (by omega),ka (by omega),nz_t (by omega),qJ (by omega),qJ (by omega),qN6 hr (by omega) (by omega)];simp only[kp,kg,qBU,qM (show x<4611686018427387904 by omega)];rw[wJ (by omega),(qTT h.sol hd c1 vp (qNX hr (a:=(x:Int)) (b:=(x:Int)+sz) (by omega) (by omega) (by omega)) hw).1];simp only[kp,kg,CJ];have em:Int.tmod (x:Int) w.Pitch=(x:Int) % w.Pitch:=gc (by omega);rw[em];by_cases c:(x:Int) % w.Pitch=0
   ·rw[if_pos c,c];rfl
   ·rw[if_neg c,show((x:Int) % w.Pitch==0)=false by rw[kC];exact c];rfl)
  (λn s _=>by
   rw[KV];simp only[ko,hsz];unfold wid;rw[qD (n:=(((r.X.B-r.X.A-sz+1).toNat:Nat):Int)+sz) (by omega),qD (n:=r.X.B-r.X.A) (by omega),ke (by omega)];rfl) [] rfl
 rw[show((0:Nat):Int)=0 from rfl,kO] at k;rw[k.1,k.2];rfl
def sliv (l:List qB) (r:Rect) (x:Nat):Int:=volS l (BR r x (x+1)).X r.Y ⟨0,solLen l⟩
def qFC (l:List qB) (ds:List qC) (ps:List Product) (r:Rect) (w:Saw) (t:Rates) (z:Int):List (List Int):=
 (List.range (zF ps z).1.length).map (λj=>OR l ds (ps.getD ((zF ps z).2.getD j daa).toNat daa) r w t ((zF ps z).1.getD j daa))
def lineS (l:List qB) (ds:List qC) (ps:List Product) (r:Rect) (w:Saw) (t:Rates):Line:=
 ⟨wid r,w.Kerf,1,(zF ps (r.Y.B-r.Y.A)).1,qFC l ds ps r w t (r.Y.B-r.Y.A),(List.range (wid r).toNat).map (λx=>t.Chip*sliv l r x),(List.range (wid r).toNat).map (λx=>t.Dust*sliv l r x)⟩
theorem qXC {l:List qB} {ds:List qC} {ps:List Product} {r:Rect} {w:Saw} {t:Rates} (h:VE l ds ps r w t) (z:Int):US l ds ps r w t (zF ps z) FUEL 0 []=some (qFC l ds ps r w t z):=by
 have hl:=(qDe ps z).1
 let g:Nat->List Int:=λj=>OR l ds (ps.getD ((zF ps z).2.getD j daa).toNat daa) r w t ((zF ps z).1.getD j daa)
 have k:=zA (zF ps z).1.length (λn (s:List (List Int)) x=>US l ds ps r w t (zF ps z) n x s) (λj s=>s++[g j]) (λs=>s) (λj s=>s=(List.range j).map g) 0 (by omega) (by omega)
  (λn j s hj hs=>by
   have hlen:s.length=j:=by rw[hs];simp
   refine⟨?_,by rw[hs,ul,kU];rfl⟩;rw[US,ka (by omega),qJ (by omega),qVH h z hj,wJ (by omega),qM (by omega)];rfl)
  (λn s _=>by rw[US,ke (by omega)];rfl) [] rfl
 rw[show((0:Nat):Int)=0 from rfl,kO] at k;rw[k.1,k.2];rfl
theorem qNF {l:List qB} (h:VSol l) (r:Rect) (x:Nat):0<=sliv l r x/\sliv l r x<=28800000000:=SA h _ _ _
theorem qYw {l:List qB} {ds:List qC} {ps:List Product} {r:Rect} {w:Saw} {t:Rates} (h:VE l ds ps r w t):UT l r t (solLen l) FUEL 0 [] []=some ((List.range (wid r).toNat).map (λx=>t.Chip*sliv l r x),(List.range (wid r).toNat).map (λx=>t.Dust*sliv l r x)):=by
 have hr:=h.vr;unfold VR at hr;have hw:=h.vw;have k:=zA (wid r).toNat (λn (s:List Int×List Int) x=>UT l r t (solLen l) n x s.1 s.2) (λx s=>(s.1++[t.Chip*sliv l r x],s.2++[t.Dust*sliv l r x])) (λs=>s)
  (λx s=>s=((List.range x).map (λx=>t.Chip*sliv l r x),(List.range x).map (λx=>t.Dust*sliv l r x))) 0 (by omega) (by unfold wid;omega)
  (λn x s hx hs=>by
   unfold wid at hx;subst hs;have sb:=qNF h.sol r x;have m1:=wS (a:=t.Chip) (b:=sliv l r x) (m:=1000) (n:=28800000000) (by have:=hw.chip;omega) (by have:=hw.chip;omega) (by omega) (by omega) (by omega) (by omega);have m2:=wS (a:=t.Dust) (b:=sliv l r x) (m:=1000) (n:=28800000000) (by have:=hw.dust;omega) (by have:=hw.dust;omega) (by omega) (by omega) (by omega) (by omega);refine⟨?_,by simp only[ul,kU];rfl⟩;simp only;rw[UT,qD (n:=r.X.B-r.X.A) (by omega),ka (by omega),qD (n:=(x:Int)+1) (by omega),qN6 h.vr (by omega) (by omega)];simp only[kp,kg,qWw h.sol,kP,uc];rw[wJ (by omega)];simp only[kp]
   rw[show volS l (BR r (x:Int) ((x:Int)+1)).X (BR r (x:Int) ((x:Int)+1)).Y ⟨0,solLen l⟩=sliv l r x from rfl,qD (n:=t.Chip*sliv l r x) (by omega),qD (n:=t.Dust*sliv l r x) (by omega),show(x:Int)+1=((x+1:Nat):Int) by omega])
  (λn s _=>by
   try simp only
   unfold wid;rw[UT,qD (n:=r.X.B-r.X.A) (by omega),ke (by omega)];rfl) ([],[]) rfl
 rw[show((0:Nat):Int)=0 from rfl,kO] at k;rw[k.1,k.2]
def noLine :Line:=⟨0,0,0,[],[],[],[]⟩
open Classical in
noncomputable def qJ2 (l:List qB) (ds:List qC) (ps:List Product) (r:Rect) (w:Saw) (t:Rates):Line×Int:=if chkE l ds ps r w t=0 then(lineS l ds ps r w t,0) else(noLine,chkE l ds ps r w t)
theorem Line_eq (l:List qB) (ds:List qC) (ps:List Product) (r:Rect) (w:Saw) (t:Rates):qDp l ds ps r w t=some (qJ2 l ds ps r w t):=by
 unfold qDp qJ2;rw[chkE_eq];simp only[kg];by_cases c:chkE l ds ps r w t=0
 ·have h:=DT.1 c;have hr:=h.vr;unfold VR at hr;rw[if_pos c,c,qD (n:=r.Y.B-r.Y.A) (by omega),(qHG ps _).1,(TH l).1,PL h.sol,qD (n:=r.X.B-r.X.A) (by omega)];simp only[kA,kr,kg,qXC h,qYw h];rfl
 ·rw[if_neg c,show(chkE l ds ps r w t !=0)=true by rw[ua];exact c];rfl
def okN (n:Int):Prop:= -1125899906842624<=n/\n<=1125899906842624
structure VL (a:Line):Prop where
 len:0<=a.Len/\a.Len<=2000
 kerf:0<=a.Kerf/\a.Kerf<=20
 pitch:1<=a.Pitch/\a.Pitch<=2000
 szl:a.Sizes.length<=32
 sz:∀i,i<a.Sizes.length->1<=a.Sizes.getD i daa/\a.Sizes.getD i daa<=2000
 gl:a.Gain.length=a.Sizes.length
 cl:(a.Chip.length:Int)=a.Len
 dl:(a.Dust.length:Int)=a.Len
 gr:∀i,i<a.Sizes.length->(a.Gain.getD i daa).length=(a.Len-a.Sizes.getD i daa+1).toNat
 gb:∀i,i<a.Sizes.length->∀j,j<(a.Gain.getD i daa).length->okN ((a.Gain.getD i daa).getD j daa)
 cb:∀j,j<a.Chip.length->okN (a.Chip.getD j daa)
 db:∀j,j<a.Dust.length->okN (a.Dust.getD j daa)
theorem qCc {l:List qB} {ds:List qC} {ps:List Product} {r:Rect} {w:Saw} {t:Rates} (h:VE l ds ps r w t):VL (lineS l ds ps r w t):=by
 have hr:=h.vr;unfold VR at hr;have hw:=h.vw;have sl:=qDe ps (r.Y.B-r.Y.A);have hd:QD ds=0:=(yO ds).2 ⟨h.dl,h.dd⟩;have gl:(lineS l ds ps r w t).Gain.length=(zF ps (r.Y.B-r.Y.A)).1.length:=by unfold lineS qFC;simp
 have ga:∀i,i<(zF ps (r.Y.B-r.Y.A)).1.length->(lineS l ds ps r w t).Gain.getD i daa=OR l ds (ps.getD ((zF ps (r.Y.B-r.Y.A)).2.getD i daa).toNat daa) r w t ((zF ps (r.Y.B-r.Y.A)).1.getD i daa):=λi hi=>by
  unfold lineS qFC;simp only;rw[wI _ hi]
 have wb:wid r=r.X.B-r.X.A:=rfl;refine⟨by show 0<=wid r/\wid r<=2000;omega,hw.kerf,⟨show(1:Int)<=1 by decide,show(1:Int)<=2000 by decide⟩,by show(zF ps (r.Y.B-r.Y.A)).1.length<=32;omega,λi hi=>?_,gl,?_,?_,λi hi=>?_,λi hi j hj=>?_,λj hj=>?_,λj hj=>?_⟩
 ·have:=qIn h.pr (r.Y.B-r.Y.A) hi;show 1<=(zF ps (r.Y.B-r.Y.A)).1.getD i daa/\(zF ps (r.Y.B-r.Y.A)).1.getD i daa<=2000;omega
 ·show(((List.range (wid r).toNat).map _).length:Int)=wid r;simp;omega
 ·show(((List.range (wid r).toNat).map _).length:Int)=wid r;simp;omega
 ·rw[ga i hi];unfold OR;simp;rfl
 ·have hi':i<(zF ps (r.Y.B-r.Y.A)).1.length:=hi;rw[ga i hi'] at hj⊢;obtain⟨s1,s2,k,hk,ek,vp,c1⟩:=qIn h.pr (r.Y.B-r.Y.A) hi';unfold OR at hj⊢;simp only[kP,uc] at hj;rw[wI _ hj,ek,ko];unfold CJ;split
  ·exact(qTT h.sol hd c1 vp (qNX h.vr (by omega) (by omega) (by omega)) hw).2
  ·exact⟨by decide,by decide⟩
 ·have hj':j<(wid r).toNat:=by simpa[lineS] using hj
  show okN (((List.range (wid r).toNat).map (λx=>t.Chip*sliv l r x)).getD j daa);rw[wI _ hj'];have sb:=qNF h.sol r j;have m1:=wS (a:=t.Chip) (b:=sliv l r j) (m:=1000) (n:=28800000000) (by have:=hw.chip;omega) (by have:=hw.chip;omega) (by omega) (by omega) (by omega) (by omega);unfold okN;omega
 ·have hj':j<(wid r).toNat:=by simpa[lineS] using hj
  show okN (((List.range (wid r).toNat).map (λx=>t.Dust*sliv l r x)).getD j daa);rw[wI _ hj'];have sb:=qNF h.sol r j;have m1:=wS (a:=t.Dust) (b:=sliv l r j) (m:=1000) (n:=28800000000) (by have:=hw.dust;omega) (by have:=hw.dust;omega) (by omega) (by omega) (by omega) (by omega);unfold okN;omega
theorem FK {ε:Type} (N:Nat) (L:Nat->Int->Option (ε⊕Unit)) (hN:N<=1000000000) (h0:∀n i,i<N->L (n+1) (i:Int)=L n ((i+1:Nat):Int)) (h1:∀n,L (n+1) (N:Int)=some (.inr ())):L FUEL 0=some (.inr ()):=by
 have k:=QI N L (λ_=>none) 0 (by omega) hN (λn i _ hi=>h0 n i hi) h1;rw[KS.2 (λ_ _ _=>rfl)] at k;exact k
theorem qSf {g:List (List Int)} (hl:g.length<=1000000) (h:∀i,i<g.length->(g.getD i daa).length<=1000000/\∀j,j<(g.getD i daa).length->okN ((g.getD i daa).getD j daa)):MI g=some true:=by
 unfold MI;rw[FK g.length (XX g) (by omega) (λn i hi=>?_) (λn=>?_)]
 ·rfl
 ·obtain⟨a,b⟩:=h i hi;rw[XX,ka (by omega),qJ (by omega),FK (g.getD i daa).length (WQ g (i:Int)) (by omega) (λn j hj=>?_) (λn=>?_)]
  ·simp only[kp,kg,Sum.elim_inr,qM (show i<4611686018427387904 by omega)]
  ·have o:=b j hj;unfold okN at o;rw[WQ];simp only[ko,FP];rw[ka (by omega),qJ (by omega),ke (show¬(g.getD i daa).getD j daa< -1125899906842624 by omega),ke (show¬(g.getD i daa).getD j daa>1125899906842624 by omega),qM (by omega)];rfl
  ·rw[WQ];simp only[ko];rw[ke (by omega)];rfl
 ·rw[XX,ke (by omega)];rfl
theorem qTM {a:Line} (h:VL a):qAw a=some 0:=by
 have h1:=h.len;have h2:=h.kerf;have h3:=h.pitch;have h4:=h.szl;have h5:=h.gl;have h6:=h.cl;have h7:=h.dl;have M:FT a=some 0:=by
  unfold FT jK;rw[ke (show¬a.Len<0 by omega),ke (show¬a.Len>2000 by omega),ke (show¬a.Kerf<0 by omega),ke (show¬a.Kerf>20 by omega),ke (show¬a.Pitch<1 by omega),ke (show¬a.Pitch>2000 by omega),ke (show¬(a.Sizes.length:Int)>32 by omega)];simp only[kr];rw[FK a.Sizes.length (QC a) (by omega) (λn i hi=>?_) (λn=>?_)]
  ·rfl
  ·have:=h.sz i hi;rw[QC,ka (by omega),qJ (by omega)];simp only[kp,ko,VH,qM (show i<4611686018427387904 by omega)];rw[ke (show¬a.Sizes.getD i daa<1 by omega),ke (show¬a.Sizes.getD i daa>2000 by omega)];rfl
  ·rw[QC,ke (by omega)];rfl
 unfold qAw UM FY;rw[M];simp only[kg,kA,kr];rw[show((a.Gain.length:Int) !=(a.Sizes.length:Int))=false by rw[kV];omega,show((a.Chip.length:Int) !=a.Len)=false by rw[kV];omega,show((a.Dust.length:Int) !=a.Len)=false by rw[kV];omega];simp only[kr];rw[FK a.Gain.length (XZ a) (by omega) (λn i hi=>?_) (λn=>?_),qSf (by omega) (λi hi=>⟨?_,λj hj=>h.gb i (by omega) j hj⟩),qSf (by simp) (λi hi=>?_)]
 ·rfl
 ·match i,hi with
  |0,_=>exact⟨by show a.Chip.length<=1000000;omega,h.cb⟩
  |1,_=>exact⟨by show a.Dust.length<=1000000;omega,h.db⟩
  |i+2,hi=>simp at hi;omega
 ·rw[h.gr i (by omega)];have:=h.sz i (by omega);omega
 ·have s:=h.sz i (by omega);have g:=h.gr i (by omega);rw[XZ,ka (by omega),qJ (by omega),qJ (by omega)];simp only[kp,ko,qM (show i<4611686018427387904 by omega),qCu,kg];rw[qD (n:=a.Len-a.Sizes.getD i daa) (by omega),qD (by omega),g];have m:=wZ 0 (a.Len-a.Sizes.getD i daa+1);rw[show((((a.Len-a.Sizes.getD i daa+1).toNat:Nat):Int) !=imax 0 (a.Len-a.Sizes.getD i daa+1))=false by rw[kV];omega];rfl
 ·rw[XZ,ke (by omega)];rfl
def pre (c:List Int) (k:Nat):Int:=sumN k (λi=>c.getD i daa)
theorem qCd (c:List Int) (k:Nat):pre c (k+1)=pre c k+c.getD k daa:=rfl
theorem qBf {c:List Int} (h:∀j,j<c.length->okN (c.getD j daa)):∀{k:Nat},k<=c.length->-(1125899906842624*(k:Int))<=pre c k/\pre c k<=1125899906842624*(k:Int)
 |0,_=>by simp[pre,sumN]
 |k+1,hk=>by
  have a:=qBf h (k:=k) (by omega);have b:=h k (by omega);unfold okN at b;rw[qCd];omega
def sums (c:List Int):List Int:=(List.range (c.length+1)).map (pre c)
theorem qT3 {c:List Int} (hl:c.length<=2000) (h:∀j,j<c.length->okN (c.getD j daa)):SV c=some (sums c):=by
 unfold SV;rw[qD (n:=(c.length:Int)+1) (by omega),show(c.length:Int)+1=((c.length+1:Nat):Int) by omega,qBz (by omega) (by omega),ko];simp only[kp];have k:=zA c.length (λn (s:List Int) i=>PX c n s i) (λi s=>s.set (i+1) (pre c (i+1))) (λs=>s) (λi s=>s.length=c.length+1/\∀j,j<=i->s.getD j daa=pre c j) 0 (by omega) (by omega)
  (λn i s hi hs=>by
   obtain⟨e1,e2⟩:=hs;have p:=qBf h (k:=i) (by omega);have q:=qBf h (k:=i+1) (by omega);rw[qCd] at q;refine⟨?_,by simpa using e1,λj hj=>?_⟩
   ·rw[PX,ka (by omega),qM (by omega),qJ (by omega),qJ (by omega),qJ (by omega)];simp only[kp,ko];rw[e2 i (kq _),qD (by omega),qCd]
   ·by_cases c1:j=i+1
    ·subst c1;rw[BF _ (by omega)]
    ·rw[ZZ _ (λe=>c1 e.symm),e2 j (by omega)])
  (λn s _=>by rw[PX,ke (by omega)];rfl) (List.replicate (c.length+1) 0) ⟨by simp,λj hj=>by
   rw[show j=0 by omega];simp[pre,sumN,ki]⟩
 rw[show((0:Nat):Int)=0 from rfl,kO] at k;rw[k.1];simp only[kg]
 congr 1
 unfold sums;refine qH8 (by simp[k.2.1]) (λj hj=>?_);rw[k.2.1] at hj;rw[k.2.2 j (by omega),wI _ hj]
abbrev Ch :=qH
def noCh (v:Int):Ch:=⟨⟨-1,-1⟩,v⟩
def isNo (c:Ch):Bool:=(c.piece.Size== -1)&&(c.piece.At== -1)
def szAt (a:Line) (i:Nat):Int:=a.Sizes.getD i daa
def gnAt (a:Line) (i:Nat) (p:Nat):Int:=(a.Gain.getD i daa).getD p daa
def nxtN (a:Line) (q:Nat):Nat:=(imin ((q:Int)+a.Kerf) a.Len).toNat
def endN (a:Line) (p i:Nat):Nat:=(p+szAt a i).toNat
def candV (a:Line) (best:Nat->Ch) (p i:Nat):Int:=
 gnAt a i p+(if(endN a p i:Int)=a.Len then 0 else(pre a.Dust (nxtN a (endN a p i))-pre a.Dust (endN a p i))+(best (nxtN a (endN a p i))).value)
def TG (a:Line) (best:Nat->Ch) (p i:Nat) (c:Ch):Ch:=
 if(p:Int)+szAt a i>a.Len\/gnAt a i p<0 then c
 else bif isNo c||decide (candV a best p i>c.value) then⟨⟨(i:Int),(p:Int)⟩,candV a best p i⟩ else c
def XL (a:Line) (best:Nat->Ch) (p:Nat):Ch:=foldN (TG a best p) 0 a.Sizes.length (noCh 0)
def RV (a:Line) (st:Nat->Ch) (p:Nat) (x:Nat) (c:Ch):Ch:=
 bif !isNo (st x)&&decide ((st x).value+(pre a.Chip (x-a.Kerf.toNat)-pre a.Chip p+pre a.Dust x-pre a.Dust (x-a.Kerf.toNat))>c.value) then⟨(st x).piece,(st x).value+(pre a.Chip (x-a.Kerf.toNat)-pre a.Chip p+pre a.Dust x-pre a.Dust (x-a.Kerf.toNat))⟩ else c
def placeN (a:Line) (p k:Nat):Nat:=p+a.Kerf.toNat+(k+1)*a.Pitch.toNat
def qDX (a:Line) (st:Nat->Ch) (p:Nat):Ch:=
 bif !isNo (st p)&&decide ((st p).value>pre a.Chip a.Len.toNat-pre a.Chip p) then st p else noCh (pre a.Chip a.Len.toNat-pre a.Chip p)
def QK (a:Line) (p:Nat):Nat:=((a.Len.toNat-(p+a.Kerf.toNat))/a.Pitch.toNat)
def OU (a:Line) (st:Nat->Ch) (p:Nat):Ch:=foldN (λk c=>RV a st p (placeN a p k) c) 0 (QK a p) (qDX a st p)
def tab (a:Line):Nat->Nat->Ch×Ch
 |0=>λ_=>(⟨⟨0,0⟩,0⟩,⟨⟨0,0⟩,0⟩)
 |k+1=>λj=>
  if j=a.Len.toNat-k then
   (OU a (λx=>if x=a.Len.toNat-k then XL a (λy=>(tab a k y).1) (a.Len.toNat-k) else(tab a k x).2) (a.Len.toNat-k),XL a (λy=>(tab a k y).1) (a.Len.toNat-k))
  else tab a k j
def BV (a:Line) (p:Nat) (v:Int):Prop:= -(2251799813685248*(a.Len-p))<=v/\v<=2251799813685248*(a.Len-p)
theorem YU {c:List Int} {k:Nat} (h:k<=c.length):(sums c).getD k daa=pre c k:=by unfold sums;rw[wI _ (by omega)]
theorem BG (c:List Int):(sums c).length=c.length+1:=by unfold sums;simp
theorem UW {c:List Int} (h:∀j,j<c.length->okN (c.getD j daa)) {i:Nat}:∀{k:Nat},i+k<=c.length->-(1125899906842624*(k:Int))<=pre c (i+k)-pre c i/\pre c (i+k)-pre c i<=1125899906842624*(k:Int)
 |0,_=>by simp
 |k+1,hk=>by
  have a:=UW h (i:=i) (k:=k) (by omega);have b:=h (i+k) (by omega);unfold okN at b;rw[show i+(k+1)=(i+k)+1 from rfl,qCd];omega
theorem qNh {a:Line} (h:VL a) {p i:Nat} (hi:i<a.Sizes.length) (hq:(p:Int)+szAt a i<=a.Len) {best:Nat->Ch} (hb:∀x,p<x->(x:Int)<=a.Len->BV a x (best x).value):BV a p (candV a best p i):=by
 have s:=h.sz i hi;have g:okN (gnAt a i p):=h.gb i hi p (by have:=h.gr i hi;unfold szAt at hq;omega);have kf:=h.kerf;have dl:=h.dl;unfold candV;have e:(endN a p i:Int)=p+szAt a i:=by unfold endN;unfold szAt at*;omega
 unfold okN at g;by_cases c:(endN a p i:Int)=a.Len
 ·rw[if_pos c];unfold BV;unfold szAt at*;omega
 ·rw[if_neg c];have m:=imin_or ((endN a p i:Int)+a.Kerf) a.Len;have en:(nxtN a (endN a p i):Int)=imin ((endN a p i:Int)+a.Kerf) a.Len:=by unfold nxtN;omega
  have bb:=hb (nxtN a (endN a p i)) (by unfold szAt at*;omega) (by omega);have pd:=UW h.db (i:=endN a p i) (k:=nxtN a (endN a p i)-endN a p i) (by omega);rw[show endN a p i+(nxtN a (endN a p i)-endN a p i)=nxtN a (endN a p i) by omega] at pd;unfold BV at*;unfold szAt at*;omega
end Saw
end Go.SL

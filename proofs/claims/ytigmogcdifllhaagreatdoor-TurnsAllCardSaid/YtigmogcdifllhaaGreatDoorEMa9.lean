/- Edge's plain mathematics, part 20: the code's best start. -/
import Derived.Test.YtigmogcdifllhaaGreatDoorEMa8
set_option linter.unusedVariables false
set_option linter.unusedSimpArgs false
namespace Go.SL
namespace Saw
theorem qHT (c:Ch):((c.piece.Size== -1)&&((c.piece.At== -1)&&true))=isNo c:=by unfold isNo;rw[dV]
theorem qYu {a:Line} (h:VL a) {p:Nat} (hp:(p:Int)<=a.Len) {b4:List Ch} (hl:(b4.length:Int)=a.Len+1) (hb:∀x,p<x->(x:Int)<=a.Len->BV a x (b4.getD x daa).value):
  qAd a (p:Int) (sums a.Dust) b4=some (XL a (λx=>b4.getD x daa) p):=by
 have szl:=h.szl;have kf:=h.kerf;have ln:=h.len;have dl:=h.dl;have gl:=h.gl;unfold qAd;have k:=zA a.Sizes.length (λn (c:Ch) i=>WX a (p:Int) (sums a.Dust) b4 n i c) (TG a (λx=>b4.getD x daa) p) (λc=>c) (λ_ _=>True) 0 (by omega) (by omega)
  (λn i c hi _=>⟨by
   have s:=h.sz i hi;have gr:=h.gr i hi;unfold TG szAt;rw[WX,ka (by omega),qJ (by omega)];simp only[kp,ko,LX,FR,LZ,UO,qM (show i<4611686018427387904 by omega),qHT];simp only[qD (n:=(p:Int)+a.Sizes.getD i daa) (by omega)];by_cases c1:(p:Int)+a.Sizes.getD i daa>a.Len
   ·rw[ka c1,if_pos (.inl c1)];rfl
   rw[ke c1,ZT (show(0:Int)<=(i:Int) by omega) (show(i:Int)<(a.Gain.length:Int) by omega),ZT (show(0:Int)<=(p:Int) by omega) (show(p:Int)<((a.Gain.getD i daa).length:Int) by omega)];simp only[kp,kr];by_cases c2:(a.Gain.getD i daa).getD p daa<0
   ·rw[ka c2,if_pos (.inr c2)];rfl
   rw[ke c2,if_neg (by unfold gnAt;omega)];simp only[kr];have cb:=qNh h hi (show(p:Int)+szAt a i<=a.Len by unfold szAt;omega) hb;have gb:=h.gb i hi p (by omega);unfold okN at gb;have e:(endN a p i:Int)=p+a.Sizes.getD i daa:=by unfold endN szAt;omega
   unfold NA;by_cases c3:(p:Int)+a.Sizes.getD i daa=a.Len
   ·have ev:candV a (λx=>b4.getD x daa) p i=(a.Gain.getD i daa).getD p daa:=by
     unfold candV gnAt;rw[if_pos (by omega)];omega
    rw[ev,show((p:Int)+a.Sizes.getD i daa==a.Len)=true by rw[gh];exact c3];simp only[kp,kg];rw[show decide ((-1:Int)≥0)=false from rfl];simp only[kr];cases isNo c<;>cases decide ((a.Gain.getD i daa).getD p daa>c.value)<;>rfl
   ·have m:=imin_or ((p:Int)+a.Sizes.getD i daa+a.Kerf) a.Len;have en:imin ((p:Int)+a.Sizes.getD i daa+a.Kerf) a.Len=(nxtN a (endN a p i):Int):=by unfold nxtN;rw[e];omega
    rw[show((p:Int)+a.Sizes.getD i daa==a.Len)=false by rw[kC];exact c3];simp only[kr,kg,qD (n:=(p:Int)+a.Sizes.getD i daa+a.Kerf) (by omega),en];rw[ka (show(nxtN a (endN a p i):Int)≥0 by omega),<-e]
    simp only[BG,ZT (show(0:Int)<=(nxtN a (endN a p i):Int) by omega) (show(nxtN a (endN a p i):Int)<((a.Dust.length+1:Nat):Int) by omega),ZT (show(0:Int)<=(endN a p i:Int) by omega) (show(endN a p i:Int)<((a.Dust.length+1:Nat):Int) by omega),ZT (show(0:Int)<=(nxtN a (endN a p i):Int) by omega) (show(nxtN a (endN a p i):Int)<(b4.length:Int) by omega),kp,ko,YU (c:=a.Dust) (show nxtN a (endN a p i)<=a.Dust.length by omega),YU (c:=a.Dust) (show endN a p i<=a.Dust.length by omega)];have bb:=hb (nxtN a (endN a p i)) (by omega) (by omega)
    have pd:=UW h.db (i:=endN a p i) (k:=nxtN a (endN a p i)-endN a p i) (by omega);rw[show endN a p i+(nxtN a (endN a p i)-endN a p i)=nxtN a (endN a p i) by omega] at pd;have ev:candV a (λx=>b4.getD x daa) p i=(a.Gain.getD i daa).getD p daa+(pre a.Dust (nxtN a (endN a p i))-pre a.Dust (endN a p i)+(b4.getD (nxtN a (endN a p i)) daa).value):=by
     unfold candV gnAt;rw[if_neg (by omega)]
    unfold BV at bb cb;simp only[qD (n:=pre a.Dust (nxtN a (endN a p i))-pre a.Dust (endN a p i)) (by omega),qD (n:=pre a.Dust (nxtN a (endN a p i))-pre a.Dust (endN a p i)+(b4.getD (nxtN a (endN a p i)) daa).value) (by omega)];rw[ev] at cb;simp only[qE0 (n:=(a.Gain.getD i daa).getD p daa+(pre a.Dust (nxtN a (endN a p i))-pre a.Dust (endN a p i)+(b4.getD (nxtN a (endN a p i)) daa).value)) (by omega) (by omega),ev]
    cases isNo c<;>cases decide ((a.Gain.getD i daa).getD p daa+(pre a.Dust (nxtN a (endN a p i))-pre a.Dust (endN a p i)+(b4.getD (nxtN a (endN a p i)) daa).value)>c.value)<;>rfl,trivial⟩)
  (λn c _=>by rw[WX,ke (by omega)];rfl) (noCh 0) trivial
 rw[show((0:Nat):Int)=0 from rfl,kO] at k;exact congrArg (λo=>Option.bind o some) k.1
theorem FJ {a:Line} (h:VL a) {p k:Nat}:k<QK a p↔(placeN a p k:Int)<=a.Len:=by
 have hp:=h.pitch;have hl:=h.len;have hk:=h.kerf;unfold QK placeN;have e:k<(a.Len.toNat-(p+a.Kerf.toNat))/a.Pitch.toNat↔(k+1)*a.Pitch.toNat<=a.Len.toNat-(p+a.Kerf.toNat):=by
  rw[<-Nat.le_div_iff_mul_le (by omega)];omega
 rw[e];have:1<=(k+1)*a.Pitch.toNat:=Nat.mul_pos (by omega) (by omega);omega
theorem qRO {a:Line} (h:VL a) {p i:Nat} (hi:i<a.Sizes.length) {best:Nat->Ch} (hb:∀x,p<x->(x:Int)<=a.Len->BV a x (best x).value) {c:Ch} (hc:BV a p c.value):BV a p (TG a best p i c).value:=by
 unfold TG;split
 ·exact hc
 ·cases isNo c||decide (candV a best p i>c.value) with
  |true=>exact qNh h hi (by omega) hb
  |false=>exact hc
theorem qWT {a:Line} (h:VL a) {p:Nat} (hp:(p:Int)<=a.Len) {best:Nat->Ch} (hb:∀x,p<x->(x:Int)<=a.Len->BV a x (best x).value):BV a p (XL a best p).value:=by
 unfold XL;exact SJ (P:=fun(c:Ch)=>BV a p c.value) (by unfold noCh BV;simp only;omega) (λi c _ hi hc=>qRO h (by omega) hb hc)
theorem qV4 {a:Line} (h:VL a) {p x:Nat} (hx:(x:Int)<=a.Len) (hpx:(p:Int)+a.Kerf<=x) {v:Int} (hv:BV a x v):
  BV a p (v+(pre a.Chip (x-a.Kerf.toNat)-pre a.Chip p+pre a.Dust x-pre a.Dust (x-a.Kerf.toNat))):=by
 have cl:=h.cl;have dl:=h.dl;have kf:=h.kerf;have p1:=UW h.cb (i:=p) (k:=x-a.Kerf.toNat-p) (by omega);have p2:=UW h.db (i:=x-a.Kerf.toNat) (k:=a.Kerf.toNat) (by omega);rw[show p+(x-a.Kerf.toNat-p)=x-a.Kerf.toNat by omega] at p1;rw[show x-a.Kerf.toNat+a.Kerf.toNat=x by omega] at p2;unfold BV at*;omega
theorem qQA {a:Line} (h:VL a) {p:Nat} (hp:(p:Int)<=a.Len) {l8:List Ch} (hl:(l8.length:Int)=a.Len+1) (v11:Ch) (hb:∀x,p<x->(x:Int)<=a.Len->BV a x ((l8.set p v11).getD x daa).value) (c0:Ch):
  yE a (sums a.Chip) (sums a.Dust) l8 (p:Int) v11 FUEL ((placeN a p 0:Nat):Int) c0=some (foldN (λk c=>RV a (λx=>(l8.set p v11).getD x daa) p (placeN a p k) c) 0 (QK a p) c0):=by
 have ln:=h.len;have kf:=h.kerf;have pt:=h.pitch;have cl:=h.cl;have dl:=h.dl;have hN:QK a p<=1000000000:=by
  unfold QK;have:=dZ (a.Len.toNat-(p+a.Kerf.toNat)) a.Pitch.toNat;omega
 refine(qHC (QK a p) (λn (c:Ch) (x:Int)=>yE a (sums a.Chip) (sums a.Dust) l8 (p:Int) v11 n x c) (λk=>((placeN a p k:Nat):Int)) (λk c=>RV a (λx=>(l8.set p v11).getD x daa) p (placeN a p k) c) (λc=>c) (λ_ _=>True) hN (λn k c hk _=>⟨?_,trivial⟩) (λn c _=>?_) c0 trivial).1
 ·have hx:=(FJ h).1 hk;have nx:((placeN a p k:Nat):Int)+a.Pitch=((placeN a p (k+1):Nat):Int):=by
   unfold placeN;rw[show(k+1+1)*a.Pitch.toNat=(k+1)*a.Pitch.toNat+a.Pitch.toNat from dm _ _];omega
  have lo:p+a.Kerf.toNat+1<=placeN a p k:=by
   unfold placeN;have:1<=(k+1)*a.Pitch.toNat:=Nat.mul_pos (by omega) (by omega);omega
  generalize placeN a p k=x at*;have xk:((x:Int)-a.Kerf)=((x-a.Kerf.toNat:Nat):Int):=by omega
  have bx:=hb x (by omega) hx;have bs:=qV4 h hx (p:=p) (by omega) bx;have b1:=qBf h.cb (k:=x-a.Kerf.toNat) (by omega);have b2:=qBf h.cb (k:=p) (by omega);have b3:=qBf h.db (k:=x) (by omega);have b4:=qBf h.db (k:=x-a.Kerf.toNat) (by omega);have p1:=UW h.cb (i:=p) (k:=x-a.Kerf.toNat-p) (by omega);rw[show p+(x-a.Kerf.toNat-p)=x-a.Kerf.toNat by omega] at p1;have p2:=UW h.db (i:=x-a.Kerf.toNat) (k:=a.Kerf.toNat) (by omega);rw[show x-a.Kerf.toNat+a.Kerf.toNat=x by omega] at p2;unfold BV at bx bs;rw[yE]
  simp only[show w64 ((x:Int)-a.Kerf)=((x-a.Kerf.toNat:Nat):Int) by rw[qD (by omega),xk],ko,BG,ZT (show(0:Int)<=(x:Int) by omega) (show(x:Int)<(l8.length:Int) by omega),ZT (show(0:Int)<=((x-a.Kerf.toNat:Nat):Int) by omega) (show((x-a.Kerf.toNat:Nat):Int)<((a.Chip.length+1:Nat):Int) by omega),ZT (show(0:Int)<=(p:Int) by omega) (show(p:Int)<((a.Chip.length+1:Nat):Int) by omega),ZT (show(0:Int)<=(x:Int) by omega) (show(x:Int)<((a.Dust.length+1:Nat):Int) by omega),ZT (show(0:Int)<=((x-a.Kerf.toNat:Nat):Int) by omega) (show((x-a.Kerf.toNat:Nat):Int)<((a.Dust.length+1:Nat):Int) by omega),kp,YU (c:=a.Chip) (show x-a.Kerf.toNat<=a.Chip.length by omega),YU (c:=a.Chip) (show p<=a.Chip.length by omega),YU (c:=a.Dust) (show x<=a.Dust.length by omega),YU (c:=a.Dust) (show x-a.Kerf.toNat<=a.Dust.length by omega),qHT,DB,DK]
  rw[ka hx];simp only[kp,show w64 ((x:Int)+a.Pitch)=((placeN a p (k+1):Nat):Int) by rw[qD (by omega),nx],qD (n:=pre a.Chip (x-a.Kerf.toNat)-pre a.Chip p) (by omega),qD (n:=pre a.Chip (x-a.Kerf.toNat)-pre a.Chip p+pre a.Dust x) (by omega),qD (n:=pre a.Chip (x-a.Kerf.toNat)-pre a.Chip p+pre a.Dust x-pre a.Dust (x-a.Kerf.toNat)) (by omega),qD (n:=((l8.set p v11).getD x daa).value+(pre a.Chip (x-a.Kerf.toNat)-pre a.Chip p+pre a.Dust x-pre a.Dust (x-a.Kerf.toNat))) (by omega),RV]
  cases isNo ((l8.set p v11).getD x daa)<;>cases decide (((l8.set p v11).getD x daa).value+(pre a.Chip (x-a.Kerf.toNat)-pre a.Chip p+pre a.Dust x-pre a.Dust (x-a.Kerf.toNat))>c.value)<;>rfl
 ·have hx:¬((placeN a p (QK a p):Nat):Int)<=a.Len:=λq=>by have:=(FJ h).2 q;omega
  rw[yE,ke hx];rfl
theorem qIT {a:Line} (h:VL a) {p:Nat} (hp:(p:Int)<=a.Len):BV a p (pre a.Chip a.Len.toNat-pre a.Chip p):=by
 have cl:=h.cl;have ln:=h.len;have:=UW h.cb (i:=p) (k:=a.Len.toNat-p) (by omega);rw[show p+(a.Len.toNat-p)=a.Len.toNat by omega] at this;unfold BV;omega
theorem qYk {a:Line} (h:VL a) {p:Nat} (hp:(p:Int)<=a.Len) {st:Nat->Ch} (hs:BV a p (st p).value):BV a p (qDX a st p).value:=by
 unfold qDX;cases !isNo (st p)&&decide ((st p).value>pre a.Chip a.Len.toNat-pre a.Chip p) with
 |true=>exact hs
 |false=>exact qIT h hp
theorem SR {a:Line} (h:VL a) (p k:Nat):p+a.Kerf.toNat+1<=placeN a p k:=by
 unfold placeN;have:=h.pitch;have:1<=(k+1)*a.Pitch.toNat:=Nat.mul_pos (by omega) (by omega);omega
theorem qYt {a:Line} (h:VL a) {p:Nat} (hp:(p:Int)<=a.Len) {st:Nat->Ch} (hs:∀x,p<=x->(x:Int)<=a.Len->BV a x (st x).value):BV a p (OU a st p).value:=by
 unfold OU;have kf:=h.kerf;refine SJ (P:=fun(c:Ch)=>BV a p c.value) (qYk h hp (hs p (kq _) hp)) (λk c _ hk hc=>?_);have hx:=(FJ h).1 (show k<QK a p by omega);have lo:=SR h p k;unfold RV;cases !isNo (st (placeN a p k))&&decide ((st (placeN a p k)).value+(pre a.Chip (placeN a p k-a.Kerf.toNat)-pre a.Chip p+pre a.Dust (placeN a p k)-pre a.Dust (placeN a p k-a.Kerf.toNat))>c.value) with
 |false=>exact hc
 |true=>exact qV4 h hx (by omega) (hs _ (by omega) hx)
structure TI (a:Line) (k:Nat) (s:List Ch×List Ch):Prop where
 l1:(s.1.length:Int)=a.Len+1
 l2:(s.2.length:Int)=a.Len+1
 e1:∀j,s.1.getD j daa=(tab a k j).1
 e2:∀j,s.2.getD j daa=(tab a k j).2
 b1:∀j,a.Len.toNat<j+k->(j:Int)<=a.Len->BV a j (tab a k j).1.value/\BV a j (tab a k j).2.value
def qGV (a:Line) (k:Nat) (s:List Ch×List Ch):List Ch×List Ch:=
 (s.1.set (a.Len.toNat-k) (OU a (λx=>(s.2.set (a.Len.toNat-k) (XL a (λy=>s.1.getD y daa) (a.Len.toNat-k))).getD x daa) (a.Len.toNat-k)),s.2.set (a.Len.toNat-k) (XL a (λy=>s.1.getD y daa) (a.Len.toNat-k)))
theorem qE4 {α:Type} [Inhabited α] {l:List α} {x:Nat} (v:α) (h:x<l.length) (j:Nat):(l.set x v).getD j daa=if j=x then v else l.getD j daa:=by
 by_cases c:j=x
 ·subst c;rw[if_pos rfl,BF _ h]
 ·rw[if_neg c,ZZ _ (λe=>c e.symm)]
theorem qUY {a:Line} (h:VL a) {k:Nat} (hk:(k:Int)<=a.Len) {s:List Ch×List Ch} (t:TI a k s):TI a (k+1) (qGV a k s):=by
 have ln:=h.len;have f1:(λy=>s.1.getD y daa)=λy=>(tab a k y).1:=funext t.e1;have l1:=t.l1;have l2:=t.l2;have f2:(λx=>(s.2.set (a.Len.toNat-k) (XL a (λy=>(tab a k y).1) (a.Len.toNat-k))).getD x daa)=λx=>if x=a.Len.toNat-k then XL a (λy=>(tab a k y).1) (a.Len.toNat-k) else(tab a k x).2:=funext λx=>by
  rw[qE4 _ (by omega),t.e2]
 have sb:BV a (a.Len.toNat-k) (XL a (λy=>(tab a k y).1) (a.Len.toNat-k)).value:=qWT h (by omega) (λx h1 h2=>(t.b1 x (by omega) h2).1);have bb:BV a (a.Len.toNat-k) (OU a (λx=>if x=a.Len.toNat-k then XL a (λy=>(tab a k y).1) (a.Len.toNat-k) else(tab a k x).2) (a.Len.toNat-k)).value:=qYt h (by omega) (λx h1 h2=>by
  by_cases c:x=a.Len.toNat-k
  ·simp only[if_pos c];rw[c];exact sb
  ·simp only[if_neg c];exact(t.b1 x (by omega) h2).2)
 unfold qGV;rw[f1,f2];refine⟨by simpa using l1,by simpa using l2,λj=>?_,λj=>?_,λj h1 h2=>?_⟩
 ·simp only;rw[qE4 _ (by omega)];simp only[tab];by_cases c:j=a.Len.toNat-k
  ·rw[if_pos c,if_pos c]
  ·rw[if_neg c,if_neg c,t.e1]
 ·simp only;rw[qE4 _ (by omega)];simp only[tab];by_cases c:j=a.Len.toNat-k
  ·rw[if_pos c,if_pos c]
  ·rw[if_neg c,if_neg c,t.e2]
 ·simp only[tab];by_cases c:j=a.Len.toNat-k
  ·rw[if_pos c,c];exact⟨bb,sb⟩
  ·rw[if_neg c];exact t.b1 j (by omega) h2
def bst (a:Line) (p:Nat):Ch:=(tab a (a.Len.toNat+1) p).1
def stt (a:Line) (p:Nat):Ch:=(tab a (a.Len.toNat+1) p).2
theorem qMq (a:Line) (j:Nat):∀(d k:Nat),a.Len.toNat<j+k->k+d<=a.Len.toNat+1->tab a (k+d) j=tab a k j
 |0,k,_,_=>rfl
 |d+1,k,h1,h2=>by
  rw[show k+(d+1)=(k+d)+1 from rfl];simp only[tab];rw[if_neg (by omega),qMq a j d k h1 (by omega)]
theorem qG0 (a:Line) {j k:Nat} (h1:a.Len.toNat<j+k) (h2:k<=a.Len.toNat+1):tab a (a.Len.toNat+1) j=tab a k j:=by
 have:=qMq a j (a.Len.toNat+1-k) k h1 (by omega)
 rwa [show k+(a.Len.toNat+1-k)=a.Len.toNat+1 by omega] at this
theorem qQL {a:Line} (h:VL a) {p i:Nat} (hi:i<a.Sizes.length) (hq:¬((p:Int)+szAt a i>a.Len)) (hn:¬(endN a p i:Int)=a.Len):p<nxtN a (endN a p i)/\(nxtN a (endN a p i):Int)<=a.Len/\endN a p i<=nxtN a (endN a p i):=by
 have s:=h.sz i hi;have kf:=h.kerf;have e:(endN a p i:Int)=p+szAt a i:=by unfold endN;unfold szAt at*;omega
 have m:=imin_or ((endN a p i:Int)+a.Kerf) a.Len;have en:(nxtN a (endN a p i):Int)=imin ((endN a p i:Int)+a.Kerf) a.Len:=by unfold nxtN;omega
 unfold szAt at*;omega
theorem qTr {a:Line} (h:VL a) {p i:Nat} (hi:i<a.Sizes.length) (hq:¬((p:Int)+szAt a i>a.Len)) {f g:Nat->Ch} (e:∀x,p<x->(x:Int)<=a.Len->f x=g x):candV a f p i=candV a g p i:=by
 unfold candV;by_cases c:(endN a p i:Int)=a.Len
 ·rw[if_pos c,if_pos c]
 ·have:=qQL h hi hq c;rw[if_neg c,if_neg c,e _ this.1 this.2.1]
theorem qRy {a:Line} (h:VL a) {p:Nat} {f g:Nat->Ch} (e:∀x,p<x->(x:Int)<=a.Len->f x=g x):XL a f p=XL a g p:=by
 unfold XL;refine MY (λi _ hi c=>?_);unfold TG;by_cases c1:(p:Int)+szAt a i>a.Len\/gnAt a i p<0
 ·rw[if_pos c1,if_pos c1]
 ·rw[if_neg c1,if_neg c1,qTr h (by omega) (by omega) e]
theorem qTK {a:Line} (h:VL a) {p:Nat} (hp:(p:Int)<=a.Len) {f g:Nat->Ch} (e:∀x,p<=x->(x:Int)<=a.Len->f x=g x):OU a f p=OU a g p:=by
 unfold OU qDX;rw[e p (kq _) hp];refine MY (λk _ hk c=>?_);have hx:=(FJ h).1 (show k<QK a p by omega);have lo:=SR h p k;unfold RV;rw[e _ (by omega) hx]
theorem qSs {a:Line} (h:VL a) {p:Nat} (hp:(p:Int)<=a.Len):stt a p=XL a (bst a) p:=by
 have ln:=h.len;unfold stt;rw[qG0 a (j:=p) (k:=(a.Len.toNat-p)+1) (by omega) (by omega)];simp only[tab];rw[if_pos (by omega),show a.Len.toNat-(a.Len.toNat-p)=p by omega];refine qRy h (λx h1 h2=>?_);unfold bst;rw[qG0 a (j:=x) (k:=a.Len.toNat-p) (by omega) (by omega)]
theorem qNM {a:Line} (h:VL a) {p:Nat} (hp:(p:Int)<=a.Len):bst a p=OU a (stt a) p:=by
 have ln:=h.len;unfold bst;rw[qG0 a (j:=p) (k:=(a.Len.toNat-p)+1) (by omega) (by omega)];simp only[tab];rw[if_pos (by omega),show a.Len.toNat-(a.Len.toNat-p)=p by omega];refine qTK h hp (λx h1 h2=>?_);by_cases c:x=p
 ·subst c;rw[if_pos rfl];unfold stt;rw[qG0 a (j:=x) (k:=(a.Len.toNat-x)+1) (by omega) (by omega)];simp only[tab];rw[if_pos (by omega),show a.Len.toNat-(a.Len.toNat-x)=x by omega]
 ·rw[if_neg c];unfold stt;rw[qG0 a (j:=x) (k:=a.Len.toNat-p) (by omega) (by omega)]
def LeC (c d:Ch):Prop:=isNo c=true\/(isNo d=false/\c.value<=d.value)
theorem LeC.trans {c d e:Ch} (h:LeC c d) (k:LeC d e):LeC c e:=by
 unfold LeC at*;rcases h with h|⟨h1,h2⟩
 ·exact .inl h
 ·rcases k with k|⟨k1,k2⟩
  ·rw[k] at h1;cases h1
  ·exact .inr ⟨k1,by omega⟩
theorem isNo_mk (i p:Nat) (v:Int):isNo ⟨⟨(i:Int),(p:Int)⟩,v⟩=false:=by
 unfold isNo;rw[show(((i:Int))==(-1:Int))=false by rw[kC];omega];rfl
def IsSt (a:Line) (best:Nat->Ch) (p:Nat) (c:Ch):Prop:=c=noCh 0\/∃i:Nat,i<a.Sizes.length/\¬((p:Int)+szAt a i>a.Len)/\¬gnAt a i p<0/\c=⟨⟨(i:Int),(p:Int)⟩,candV a best p i⟩
theorem startS_is (a:Line) (best:Nat->Ch) (p:Nat):IsSt a best p (XL a best p):=by
 unfold XL;refine SJ (P:=IsSt a best p) (.inl rfl) (λi c _ hi hc=>?_);unfold TG;by_cases c1:(p:Int)+szAt a i>a.Len\/gnAt a i p<0
 ·rw[if_pos c1];exact hc
 ·rw[if_neg c1];cases isNo c||decide (candV a best p i>c.value) with
  |false=>exact hc
  |true=>exact .inr ⟨i,by omega,by omega,by omega,rfl⟩
def restV (a:Line) (p x:Nat):Int:=pre a.Chip (x-a.Kerf.toNat)-pre a.Chip p+pre a.Dust x-pre a.Dust (x-a.Kerf.toNat)
theorem qI5 (a:Line) (st:Nat->Ch) (p x:Nat) (c:Ch):RV a st p x c=bif !isNo (st x)&&decide ((st x).value+restV a p x>c.value) then⟨(st x).piece,(st x).value+restV a p x⟩ else c:=rfl
def IsBs (a:Line) (st:Nat->Ch) (p:Nat) (c:Ch):Prop:=
 c=noCh (pre a.Chip a.Len.toNat-pre a.Chip p)\/(isNo (st p)=false/\c=st p)\/∃k,k<QK a p/\isNo (st (placeN a p k))=false/\c=⟨(st (placeN a p k)).piece,(st (placeN a p k)).value+restV a p (placeN a p k)⟩
theorem bestS_is (a:Line) (st:Nat->Ch) (p:Nat):IsBs a st p (OU a st p):=by
 unfold OU;refine SJ (P:=IsBs a st p) ?_ (λk c _ hk hc=>?_)
 ·unfold qDX;cases h1:isNo (st p) with
  |true=>exact .inl rfl
  |false=>
   cases decide ((st p).value>pre a.Chip a.Len.toNat-pre a.Chip p) with
   |true=>exact .inr (.inl ⟨h1,rfl⟩)
   |false=>exact .inl rfl
 ·rw[qI5];cases h1:isNo (st (placeN a p k)) with
  |true=>exact hc
  |false=>
   cases decide ((st (placeN a p k)).value+restV a p (placeN a p k)>c.value) with
   |false=>exact hc
   |true=>exact .inr (.inr ⟨k,by omega,h1,rfl⟩)
theorem qAF {a:Line} (h:VL a):∀(d k n:Nat) (s:List Ch×List Ch),k+d=a.Len.toNat+1->d<n->TI a k s->
  ∃s',QT a (sums a.Chip) (sums a.Dust) n s.1 s.2 (a.Len-k)=some s'.1/\TI a (a.Len.toNat+1) s'
 |0,k,n,s,hk,hn,t=>by
  have ln:=h.len;obtain⟨n,rfl⟩:∃m,n=m+1:=⟨n-1,by omega⟩
  have e:k=a.Len.toNat+1:=by omega
  subst e;refine⟨s,?_,t⟩;rw[QT,ke (by omega)];rfl
 |d+1,k,n,s,hk,hn,t=>by
  have ln:=h.len;have kf:=h.kerf;have pt:=h.pitch;have cl:=h.cl;have dl:=h.dl;obtain⟨n,rfl⟩:∃m,n=m+1:=⟨n-1,by omega⟩
  have hkl:(k:Int)<=a.Len:=by omega
  have ep:a.Len-(k:Int)=((a.Len.toNat-k:Nat):Int):=by omega
  have l1:=t.l1;have l2:=t.l2;have t':=qUY h hkl t;obtain⟨s',e',r'⟩:=qAF h d (k+1) n (qGV a k s) (by omega) (by omega) t';refine⟨s',?_,r'⟩;rw[<-e'];have f1:(λy=>s.1.getD y daa)=λy=>(tab a k y).1:=funext t.e1;have hb1:∀x:Nat,a.Len.toNat-k<x->(x:Int)<=a.Len->BV a x (s.1.getD x daa).value:=λx h1 h2=>by rw[t.e1];exact(t.b1 x (by omega) h2).1
  have es:=qYu h (p:=a.Len.toNat-k) (by omega) l1 hb1;generalize hv:XL a (λx=>s.1.getD x daa) (a.Len.toNat-k)=v at*;have hb2:∀x:Nat,a.Len.toNat-k<x->(x:Int)<=a.Len->BV a x ((s.2.set (a.Len.toNat-k) v).getD x daa).value:=λx h1 h2=>by
   rw[ZZ _ (by omega),t.e2];exact(t.b1 x (by omega) h2).2
  have e4:=qQA h (p:=a.Len.toNat-k) (by omega) l2 v hb2;have chp:=qIT h (p:=a.Len.toNat-k) (by omega);unfold BV at chp;rw[QT,ep];rw[es];simp only[kg,ko,qHT,GV,GM]
  rw[ka (by omega),ZT (show(0:Int)<=((a.Len.toNat-k:Nat):Int) by omega) (show((a.Len.toNat-k:Nat):Int)<(s.2.length:Int) by omega),ZT (show(0:Int)<=a.Len by omega) (show a.Len<((sums a.Chip).length:Int) by rw[BG];omega),ZT (show(0:Int)<=((a.Len.toNat-k:Nat):Int) by omega) (show((a.Len.toNat-k:Nat):Int)<((sums a.Chip).length:Int) by rw[BG];omega),ZT (show(0:Int)<=((a.Len.toNat-k:Nat):Int) by omega) (show((a.Len.toNat-k:Nat):Int)<(s.1.length:Int) by omega)];have ew:w64 (w64 (((a.Len.toNat-k:Nat):Int)+a.Pitch)+a.Kerf)=((placeN a (a.Len.toNat-k) 0:Nat):Int):=by
   rw[qD (n:=((a.Len.toNat-k:Nat):Int)+a.Pitch) (by omega),qD (by omega)];unfold placeN;rw[show(0+1)*a.Pitch.toNat=a.Pitch.toNat by simp];omega
  have em:w64 (((a.Len.toNat-k:Nat):Int)-1)=a.Len-((k+1:Nat):Int):=by rw[qD (by omega)];omega
  simp only[kp,ew,em,e4,kg,YU (c:=a.Chip) (show a.Len.toNat<=a.Chip.length by omega),YU (c:=a.Chip) (show a.Len.toNat-k<=a.Chip.length by omega),qD (n:=pre a.Chip a.Len.toNat-pre a.Chip (a.Len.toNat-k)) (by omega)];have gs:qGV a k s=(s.1.set (a.Len.toNat-k) (OU a (λx=>(s.2.set (a.Len.toNat-k) v).getD x daa) (a.Len.toNat-k)),s.2.set (a.Len.toNat-k) v):=by
   unfold qGV;rw[hv]
  rw[gs];unfold OU qDX;simp only[noCh];cases isNo ((s.2.set (a.Len.toNat-k) v).getD (a.Len.toNat-k) daa)<;>cases decide (((s.2.set (a.Len.toNat-k) v).getD (a.Len.toNat-k) daa).value>pre a.Chip a.Len.toNat-pre a.Chip (a.Len.toNat-k))<;>rfl
theorem TI0 {a:Line} (h:VL a):TI a 0 (List.replicate (a.Len.toNat+1) ⟨⟨0,0⟩,0⟩,List.replicate (a.Len.toNat+1) ⟨⟨0,0⟩,0⟩):=by
 have ln:=h.len;refine⟨by simp;omega,by simp;omega,λj=>?_,λj=>?_,λj h1 h2=>by omega⟩<;>
 ·show(List.replicate (a.Len.toNat+1) (⟨⟨0,0⟩,0⟩:Ch)).getD j daa=⟨⟨0,0⟩,0⟩;by_cases c:j<a.Len.toNat+1
  ·rw[ki,List.getElem?_replicate,if_pos c];rfl
  ·rw[ki,List.getElem?_replicate,if_neg c];rfl
theorem qVi {a:Line} (h:VL a):∃c:List Ch,HE a=some c/\(c.length:Int)=a.Len+1/\∀j,c.getD j daa=bst a j:=by
 have ln:=h.len;have cl:=h.cl;have dl:=h.dl;obtain⟨s,e,t⟩:=qAF h (a.Len.toNat+1) 0 FUEL _ (by omega) (by rw[FUEL_eq];omega) (TI0 h);refine⟨s.1,?_,t.l1,t.e1⟩;unfold HE;rw[qT3 (by omega) h.cb,qT3 (by omega) h.db];simp only[kg];rw[qD (n:=a.Len+1) (by omega),show a.Len+1=((a.Len.toNat+1:Nat):Int) by omega,qBz (by omega) (by omega),ko];simp only[kp];rw[show a.Len-((0:Nat):Int)=a.Len by omega] at e;simp only at e;rw[e];rfl
def walk (a:Line):Nat->Nat->List zR
 |0,_=>[]
 |n+1,p=>bif isNo (bst a p) then[] else(bst a p).piece::(if(endN a (bst a p).piece.At.toNat (bst a p).piece.Size.toNat:Int)=a.Len then[] else walk a n (nxtN a (endN a (bst a p).piece.At.toNat (bst a p).piece.Size.toNat)))
theorem qFt {a:Line} (h:VL a) {p:Nat} (hp:(p:Int)<=a.Len) (hn:isNo (bst a p)=false):
  ∃i q:Nat,(bst a p).piece=⟨(i:Int),(q:Int)⟩/\i<a.Sizes.length/\¬((q:Int)+szAt a i>a.Len)/\¬gnAt a i q<0/\(q=p\/∃k,k<QK a p/\q=placeN a p k):=by
 rw[qNM h hp] at hn⊢;have st:∀q:Nat,(q:Int)<=a.Len->isNo (stt a q)=false->∃i:Nat,(stt a q).piece=⟨(i:Int),(q:Int)⟩/\i<a.Sizes.length/\¬((q:Int)+szAt a i>a.Len)/\¬gnAt a i q<0:=λq hq hn=>by
  rw[qSs h hq] at hn⊢;rcases startS_is a (bst a) q with e|⟨i,h1,h2,h3,e⟩
  ·rw[e] at hn;cases hn
  ·exact⟨i,by rw[e],h1,h2,h3⟩
 rcases bestS_is a (stt a) p with e|⟨h1,e⟩|⟨k,hk,h1,e⟩
 ·rw[e] at hn;cases hn
 ·rw[e];obtain⟨i,a1,a2,a3,a4⟩:=st p hp h1;exact⟨i,p,a1,a2,a3,a4,.inl rfl⟩
 ·rw[e];obtain⟨i,a1,a2,a3,a4⟩:=st _ ((FJ h).1 hk) h1;exact⟨i,_,a1,a2,a3,a4,.inr ⟨k,hk,rfl⟩⟩
theorem qFs {a:Line} (h:VL a) {p i q:Nat} (hi:i<a.Sizes.length) (hq:¬((q:Int)+szAt a i>a.Len)) (hpq:p<=q) (c:¬(endN a q i:Int)=a.Len):p<nxtN a (endN a q i)/\(nxtN a (endN a q i):Int)<=a.Len:=by
 have:=qQL h hi hq c;omega
theorem qMK {a:Line} (h:VL a) {c:List Ch} (hl:(c.length:Int)=a.Len+1) (hc:∀j,c.getD j daa=bst a j):
  ∀(d n m p:Nat) (l:List zR),a.Len.toNat-p<d->d<n->d<m->(p:Int)<=a.Len->l.length+d<=5000->PZ a c n l (p:Int)=some (l++walk a m p)
 |0,n,m,p,l,hd,_,_,_,_=>by omega
 |d+1,n,m,p,l,hd,hn,hm,hp,hll=>by
  have ln:=h.len;obtain⟨n,rfl⟩:∃k,n=k+1:=⟨n-1,by omega⟩
  obtain⟨m,rfl⟩:∃k,m=k+1:=⟨m-1,by omega⟩
  rw[PZ,ka (by omega),qJ (by omega),walk];simp only[kp,ko,hc,qHT];cases hn':isNo (bst a p) with
  |true=>simp
  |false=>
   obtain⟨i,q,e,hi,hq,hg,hw⟩:=qFt h hp hn';have sz:=h.sz i hi;have hpq:p<=q:=by
    rcases hw with rfl|⟨k,hk,rfl⟩
    ·exact kq _
    ·have:=SR h p k;omega
   clear hw;have en:(endN a q i:Int)=q+szAt a i:=by unfold endN szAt;omega
   simp only[kr,e,ko];rw[wJ (by omega),qJ (by omega),qE0 (n:=(q:Int)+a.Sizes.getD i daa) (by unfold szAt at*;omega) (by unfold szAt at*;omega)];simp only[kp,NA];rw[show(q:Int)+a.Sizes.getD i daa=(endN a q i:Int) by rw[en];rfl];by_cases c1:(endN a q i:Int)=a.Len
   ·rw[if_pos c1,show((endN a q i:Int)==a.Len)=true by rw[gh];exact c1];simp only[kp,kg];obtain⟨n,rfl⟩:∃k,n=k+1:=⟨n-1,by omega⟩
    rw[PZ];rfl
   ·rw[if_neg c1,show((endN a q i:Int)==a.Len)=false by rw[kC];exact c1];have kf:=h.kerf;have ws:=qFs h hi hq hpq c1;have mm:=imin_or ((endN a q i:Int)+a.Kerf) a.Len;have en2:imin ((endN a q i:Int)+a.Kerf) a.Len=(nxtN a (endN a q i):Int):=by unfold nxtN;omega
    simp only[kr,kg,qE0 (n:=(endN a q i:Int)+a.Kerf) (by unfold szAt at*;omega) (by unfold szAt at*;omega),en2];rw[qMK h hl hc d n m (nxtN a (endN a q i)) _ (by omega) (by omega) (by omega) ws.2 (by simp;omega)];simp
def wD (a:Line):List zR:=walk a 3000 0
theorem qL2 {a:Line} (h:VL a):yV a=some (wD a,(bst a 0).value,0):=by
 have ln:=h.len;unfold yV;obtain⟨c,e1,e2,e3⟩:=qVi h;rw[qTM h,e1];simp only[kg,kA,kr];have:=qMK h e2 e3 2500 FUEL 3000 0 [] (by omega) (by rw[FUEL_eq];omega) (by omega) (by omega) (by simp);rw[show((0:Nat):Int)=0 from rfl] at this;rw[this,qJ (by omega)];simp only[kg,kp,show(0:Int).toNat=0 from rfl,e3];rfl
abbrev Pt :=Span×List Node
def ndC (l:List Pt):Nat:=(l.map (λx=>3+x.2.length)).sum
def rowB (axis kerf B:Int):Int->List Pt->List Node×Bool
 |_,[]=>([],false)
 |e,x::r=>
  let p:List Node:=if x.1.A>e then[⟨axis,x.1.A-kerf⟩,⟨0,0⟩] else[]
  if x.1.B<B then(p++⟨axis,x.1.B⟩::x.2++(rowB axis kerf B (imin (x.1.B+kerf) B) r).1,(rowB axis kerf B (imin (x.1.B+kerf) B) r).2) else(p++x.2,true)
theorem EO (axis kerf B e:Int) (x:Pt) (r:List Pt):rowB axis kerf B e (x::r)=if x.1.B<B then((if x.1.A>e then[⟨axis,x.1.A-kerf⟩,⟨0,0⟩] else[])++⟨axis,x.1.B⟩::x.2++(rowB axis kerf B (imin (x.1.B+kerf) B) r).1,(rowB axis kerf B (imin (x.1.B+kerf) B) r).2) else((if x.1.A>e then[⟨axis,x.1.A-kerf⟩,⟨0,0⟩] else[])++x.2,true):=rfl
def GX (kerf B:Int):Int->List Pt->Prop
 |_,[]=>True
 |e,x::r=>x.1.A<x.1.B/\(x.1.A=e\/e+kerf+1<=x.1.A)/\x.1.B<=B/\(if x.1.B<B then GX kerf B (imin (x.1.B+kerf) B) r else r=[])
theorem qJf {l nodes T:List Node} {c:Int} (hc:c=T.length) (hn:T.length<=127->nodes=T) (hb:T.length+l.length<=1000000000):
  ∃nodes',WO l c nodes=some (((T++l).length:Int),nodes')/\((T++l).length<=127->nodes'=T++l):=by
 unfold WO;subst hc;rw[qD (n:=(T.length:Int)+(l.length:Int)) (by omega),ub];by_cases c:T.length+l.length<=127
 ·have e:=hn (by omega);subst e;rw[ka (by omega),wJ (by omega)];exact⟨nodes++l,by simp,λ_=>rfl⟩
 ·rw[ke (by omega)];exact⟨nodes,by simp,λh=>absurd h c⟩
theorem qFm {axis kerf:Int} (hk:0<=kerf/\kerf<=20) {s:Span} (hs: -600<=s.A/\s.B<=600) {L:List Pt} (hL:L.length<=1000000):
  ∀(rest:List Pt) (i n:Nat) (e:Int) (nodes T:List Node),L.drop i=rest->i<=L.length->rest.length<n->-600<=e->e<=600->GX kerf s.B e rest->(T.length<=127->nodes=T)->T.length+ndC rest<=1000000000->
  ∃nodes',yZ axis kerf (L.map Prod.fst) (L.map Prod.snd) s n e false (i:Int) nodes (T.length:Int)=some (.inr ((rowB axis kerf s.B e rest).2,nodes',((T++(rowB axis kerf s.B e rest).1).length:Int)))/\((T++(rowB axis kerf s.B e rest).1).length<=127->nodes'=T++(rowB axis kerf s.B e rest).1)
 |[],i,n,e,nodes,T,hd,hi,hn,he1,he2,hg,hT,hb=>by
  obtain⟨n,rfl⟩:∃m,n=m+1:=⟨n-1,by omega⟩
  have hi':i=L.length:=by have:=dU.1 hd;omega
  refine⟨nodes,?_,λh=>?_⟩
  ·rw[yZ,kP,ke (by omega)];simp[rowB]
  ·simp[rowB] at h⊢;exact hT h
 |x::r,i,n,e,nodes,T,hd,hi,hn,he1,he2,hg,hT,hb=>by
  obtain⟨n,rfl⟩:∃m,n=m+1:=⟨n-1,by omega⟩
  have hi':i<L.length:=by
   by_cases c:i<L.length
   ·exact c
   ·rw[dF (by omega)] at hd;cases hd
  have hx:L.getD i daa=x:=by rw[JE L i hi'] at hd;exact(List.cons.inj hd).1
  have hr:L.drop (i+1)=r:=by rw[JE L i hi'] at hd;exact(List.cons.inj hd).2
  have hxa:(L.map Prod.fst).getD i daa=x.1:=by rw[getD_map'' Prod.fst hi',hx]
  have hxb:(L.map Prod.snd).getD i daa=x.2:=by rw[getD_map'' Prod.snd hi',hx]
  obtain⟨g1,g2,g3,g4⟩:=hg;have hc:ndC (x::r)=3+x.2.length+ndC r:=by simp[ndC]
  rw[hc] at hb;rw[yZ,kP,ka (by omega),qJ (by omega)];simp only[kp,kr,ko,hxa,FD];rw[ke (show¬x.1.A≥x.1.B by omega),qD (n:=e+kerf) (by omega),qD (n:=e+kerf+1) (by omega),ke (show¬x.1.B>s.B by omega)];simp only[kr];have gA:∀{β:Type} (u v:β),(bif x.1.A !=e then(bif decide (x.1.A<e+kerf+1) then u else v) else(bif false then u else v))=v:=λu v=>by
   by_cases c:x.1.A=e
   ·rw[show(x.1.A !=e)=false by rw[kV];exact c];rfl
   ·rw[show(x.1.A !=e)=true by rw[ua];exact c,ke (show¬x.1.A<e+kerf+1 by omega)];rfl
  simp only[kr] at gA;rw[gA]
  -- behind the first nodes
  have key:∀(T2 nodes2:List Node),(T2.length<=127->nodes2=T2)->T2.length+1+x.2.length+ndC r<=1000000000->∃nodes',FB axis kerf (L.map Prod.fst) (L.map Prod.snd) s e false (i:Int) (yZ axis kerf (L.map Prod.fst) (L.map Prod.snd) s n) nodes2 (T2.length:Int)
    =some (.inr ((if x.1.B<s.B then(rowB axis kerf s.B (imin (x.1.B+kerf) s.B) r).2 else true),nodes',((T2++(if x.1.B<s.B then(⟨axis,x.1.B⟩::x.2++(rowB axis kerf s.B (imin (x.1.B+kerf) s.B) r).1) else x.2)).length:Int)))/\((T2++(if x.1.B<s.B then(⟨axis,x.1.B⟩::x.2++(rowB axis kerf s.B (imin (x.1.B+kerf) s.B) r).1) else x.2)).length<=127->nodes'=T2++(if x.1.B<s.B then(⟨axis,x.1.B⟩::x.2++(rowB axis kerf s.B (imin (x.1.B+kerf) s.B) r).1) else x.2)):=by
   intro T2 nodes2 h2 hb2;unfold FB AT;simp only[ko,hxa,hxb,kP,qM (show i<4611686018427387904 by omega)];rw[ZT (show(0:Int)<=(i:Int) by omega) (show(i:Int)<(L.length:Int) by omega)];simp only[kp];by_cases c:x.1.B<s.B
   ·rw[ka c,if_pos c,if_pos c];rw[if_pos c] at g4;simp only[kp];obtain⟨m1,q1,q2⟩:=qJf (l:=[(⟨axis,x.1.B⟩:Node)]) (nodes:=nodes2) (T:=T2) rfl h2 (by simp;omega);rw[q1];simp only[kg];obtain⟨m2,r1,r2⟩:=qJf (l:=x.2) (nodes:=m1) (T:=T2++[(⟨axis,x.1.B⟩:Node)]) rfl q2 (by simp;omega);rw[r1];simp only[kg];have mi:=imin_or (x.1.B+kerf) s.B;rw[qD (n:=x.1.B+kerf) (by omega)];obtain⟨m3,s1,s2⟩:=qFm hk hs hL r (i+1) n (imin (x.1.B+kerf) s.B) m2 (T2++[(⟨axis,x.1.B⟩:Node)]++x.2) hr (by omega) (by simp at hn;omega) (by omega) (by omega) g4 r2 (by simp;omega);refine⟨m3,?_,?_⟩
    ·rw[s1];simp
    ·intro hh;have:T2++(⟨axis,x.1.B⟩::x.2++(rowB axis kerf s.B (imin (x.1.B+kerf) s.B) r).1)=T2++[(⟨axis,x.1.B⟩:Node)]++x.2++(rowB axis kerf s.B (imin (x.1.B+kerf) s.B) r).1:=by simp
     rw[this] at hh⊢;exact s2 hh
   ·rw[ke c,if_neg c,if_neg c];rw[if_neg c] at g4;subst g4;simp only[kr];obtain⟨m2,r1,r2⟩:=qJf (l:=x.2) (nodes:=nodes2) (T:=T2) rfl h2 (by omega);rw[r1];simp only[kg];obtain⟨n,rfl⟩:∃m,n=m+1:=⟨n-1,by simp at hn;omega⟩
    have hi2:i+1=L.length:=by have:=dU.1 hr;omega
    refine⟨m2,?_,r2⟩;rw[yZ,kP,ke (by omega)];rfl
  by_cases c:x.1.A>e
  ·rw[ka c,qD (n:=x.1.A-kerf) (by omega)];simp only[kp];obtain⟨m1,q1,q2⟩:=qJf (l:=[(⟨axis,x.1.A-kerf⟩:Node),⟨0,0⟩]) (nodes:=nodes) (T:=T) rfl hT (by simp;omega);rw[q1];simp only[kg];obtain⟨m2,k1,k2⟩:=key (T++[(⟨axis,x.1.A-kerf⟩:Node),⟨0,0⟩]) m1 q2 (by simp;omega);refine⟨m2,?_,?_⟩
   ·rw[k1];rw[EO];simp only[if_pos c];split<;>simp
   ·intro hh;rw[EO] at hh⊢;simp only[if_pos c] at hh⊢;by_cases c2:x.1.B<s.B
    ·rw[if_pos c2] at k2;simp only[if_pos c2] at hh⊢;rw[k2 (by simpa using hh)];simp
    ·rw[if_neg c2] at k2;simp only[if_neg c2] at hh⊢;rw[k2 (by simpa using hh)];simp
  ·rw[ke c];simp only[kr];obtain⟨m2,k1,k2⟩:=key T nodes hT (by omega);refine⟨m2,?_,?_⟩
   ·rw[k1];rw[EO];simp only[if_neg c];split<;>simp
   ·intro hh;rw[EO] at hh⊢;simp only[if_neg c] at hh⊢;by_cases c2:x.1.B<s.B
    ·rw[if_pos c2] at k2;simp only[if_pos c2] at hh⊢;rw[k2 (by simpa using hh)];simp
    ·rw[if_neg c2] at k2;simp only[if_neg c2] at hh⊢;rw[k2 (by simpa using hh)];simp
where
 getD_map'' {α β:Type} [Inhabited α] [Inhabited β] (f:α->β) {l:List α} {i:Nat} (h:i<l.length):(l.map f).getD i daa=f (l.getD i daa):=by
  rw[ki,kI,ki,ks h];rfl
def rowN (axis kerf:Int) (s:Span) (L:List Pt):List Node:=(rowB axis kerf s.B s.A L).1++(if(rowB axis kerf s.B s.A L).2 then[] else[⟨0,0⟩])
def rowR (l:List Node):List Node×Int:=if l.length<=127 then(l,0) else([],4)
theorem qYl {r:Rect} (h:VR r):HH r=some true:=by
 unfold VR at h;unfold HH;rw[FK 2 (yA r) (by omega) (λn i hi=>?_) (λn=>?_)]
 ·rfl
 ·rw[yA,ka (by omega),qJ (by omega)];simp only[kp,ko,PB,qM (show i<4611686018427387904 by omega)]
  match i,hi with
  |0,_=>rw[ke (show¬([r.X.A,r.X.B,r.Y.A,r.Y.B]:List Int).getD (0*2+0) 0< -600 from λq=>by have:r.X.A< -600:=q;omega),ke (show¬([r.X.A,r.X.B,r.Y.A,r.Y.B]:List Int).getD (0*2+1) 0>600 from λq=>by have:r.X.B>600:=q;omega),ke (show¬([r.X.A,r.X.B,r.Y.A,r.Y.B]:List Int).getD (0*2+0) 0≥([r.X.A,r.X.B,r.Y.A,r.Y.B]:List Int).getD (0*2+1) 0 from λq=>by have:r.X.A≥r.X.B:=q;omega)];rfl
  |1,_=>rw[ke (show¬([r.X.A,r.X.B,r.Y.A,r.Y.B]:List Int).getD (1*2+0) 0< -600 from λq=>by have:r.Y.A< -600:=q;omega),ke (show¬([r.X.A,r.X.B,r.Y.A,r.Y.B]:List Int).getD (1*2+1) 0>600 from λq=>by have:r.Y.B>600:=q;omega),ke (show¬([r.X.A,r.X.B,r.Y.A,r.Y.B]:List Int).getD (1*2+0) 0≥([r.X.A,r.X.B,r.Y.A,r.Y.B]:List Int).getD (1*2+1) 0 from λq=>by have:r.Y.A≥r.Y.B:=q;omega)];rfl
 ·rw[yA,ke (by omega)];rfl
theorem qLG (axis kerf B:Int):∀(L:List Pt) (e:Int),(rowB axis kerf B e L).1.length<=ndC L
 |[],_=>by simp[rowB,ndC]
 |x::r,e=>by
  have ih:=qLG axis kerf B r (imin (x.1.B+kerf) B);have hc:ndC (x::r)=3+x.2.length+ndC r:=by simp[ndC]
  rw[hc];unfold rowB;simp only;split
  ·split<;>simp<;>omega
  ·split<;>simp<;>omega
def axS (r:Rect) (axis:Int):Span:=if axis=2 then r.X else r.Y
theorem qV5 {r:Rect} (hr:VR r) {axis kerf:Int} (ha:axis=2\/axis=3) (hk:0<=kerf/\kerf<=20) {L:List Pt} (hL:L.length<=1000000) (hg:GX kerf (axS r axis).B (axS r axis).A L) (hb:ndC L+1<=1000000000):
  WD r axis kerf (L.map Prod.fst) (L.map Prod.snd)=some (rowR (rowN axis kerf (axS r axis) L)):=by
 have hs: -600<=(axS r axis).A/\(axS r axis).B<=600/\(axS r axis).A<(axS r axis).B:=by
  unfold VR at hr;unfold axS;split<;>omega
 have e1:qDI axis=some true:=by rcases ha with rfl|rfl<;>rfl
 have e2:qDK r axis=some (axS r axis):=by rcases ha with rfl|rfl<;>rfl
 unfold WD IF AY;rw[e1,qYl hr,e2];simp only[kg,kG,kr,kP,kA];rw[ke (show¬kerf<0 by omega),ke (show¬kerf>20 by omega)];simp only[kr];obtain⟨m,k1,k2⟩:=qFm (axis:=axis) hk ⟨hs.1,hs.2.1⟩ hL L 0 FUEL (axS r axis).A [] [] (by simp) (by omega) (by rw[FUEL_eq];omega) hs.1 (by omega) hg (λ_=>rfl) (by simp;omega);rw[show((0:Nat):Int)=0 from rfl] at k1;rw[show(([]:List Node).length:Int)=0 from rfl] at k1;rw[k1];simp only[kg,Sum.elim_inr,uj] at k2⊢;unfold rowN;have bl:=qLG axis kerf (axS r axis).B L (axS r axis).A;generalize rowB axis kerf (axS r axis).B (axS r axis).A L=B at*;obtain⟨b1,b2⟩:=B
 simp only at k2 bl⊢;have fin:∀(T nodes:List Node),(T.length<=127->nodes=T)->NW (T.length:Int) nodes=some (rowR T):=λT nodes h=>by
  unfold NW rowR;by_cases c:T.length<=127
  ·rw[ke (by omega),if_pos c,h c];rfl
  ·rw[ka (by omega),if_neg c];rfl
 cases b2 with
 |true=>
  simp only[kG,kr,if_true,uQ];exact fin _ _ k2
 |false=>
  simp only[uC,kp,uG,if_false];obtain⟨m1,q1,q2⟩:=qJf (l:=[(⟨0,0⟩:Node)]) (nodes:=m) (T:=b1) rfl k2 (by simp;omega);rw[q1];exact fin _ _ q2
theorem qCf {a:Line} (h:VL a):∀(m p:Nat),(p:Int)<=a.Len->∀x∈walk a m p,∃i q:Nat,x=⟨(i:Int),(q:Int)⟩/\i<a.Sizes.length/\¬((q:Int)+szAt a i>a.Len)/\¬gnAt a i q<0
 |0,_,_,x,hx=>by cases hx
 |m+1,p,hp,x,hx=>by
  rw[walk] at hx;cases hn:isNo (bst a p) with
  |true=>rw[hn] at hx;cases hx
  |false=>
   obtain⟨i,q,e,hi,hq,hg,hw⟩:=qFt h hp hn;rw[hn,e] at hx;simp only[kr,ko,kN] at hx;rcases hx with rfl|hx
   ·exact⟨i,q,rfl,hi,hq,hg⟩
   ·have hpq:p<=q:=by
     rcases hw with rfl|⟨k,hk,rfl⟩
     ·exact kq _
     ·have:=SR h p k;omega
    by_cases c:(endN a q i:Int)=a.Len
    ·rw[if_pos c] at hx;cases hx
    ·rw[if_neg c] at hx;exact qCf h m _ (qFs h hi hq hpq c).2 x hx
theorem qEP (a:Line):∀(m p:Nat),(walk a m p).length<=m
 |0,_=>by simp[walk]
 |m+1,p=>by
  rw[walk];cases isNo (bst a p) with
  |true=>simp
  |false=>
   simp only[kr,ue];split
   ·simp
   ·have:=qEP a m (nxtN a (endN a (bst a p).piece.At.toNat (bst a p).piece.Size.toNat));omega
theorem qVu {kerf B e:Int} {x:Pt} {r:List Pt} (h1:x.1.A<x.1.B) (h2:x.1.A=e\/e+kerf+1<=x.1.A) (h3:x.1.B<=B) (h4:(x.1.B<B/\GX kerf B (imin (x.1.B+kerf) B) r)\/(x.1.B=B/\r=[])):GX kerf B e (x::r):=by
 unfold GX;refine⟨h1,h2,h3,?_⟩;rcases h4 with⟨a,b⟩|⟨a,b⟩
 ·rw[if_pos a];exact b
 ·rw[if_neg (by omega)];exact b
def ptOf (a:Line) (A:Int) (g:zR->List Node) (x:zR):Pt:=(⟨A+x.At,A+(x.At+a.Sizes.getD x.Size.toNat daa)⟩,g x)
theorem qDm {a:Line} (h:VL a) (A:Int) (g:zR->List Node):∀(m p:Nat),(p:Int)<=a.Len->GX a.Kerf (A+a.Len) (A+p) ((walk a m p).map (ptOf a A g))
 |0,_,_=>trivial
 |m+1,p,hp=>by
  rw[walk];cases hn:isNo (bst a p) with
  |true=>exact trivial
  |false=>
   obtain⟨i,q,e,hi,hq,hg,hw⟩:=qFt h hp hn;have sz:=h.sz i hi;have pt:=h.pitch;have kf:=h.kerf;have hpq:q=p\/p+a.Kerf.toNat+1<=q:=by
    rcases hw with rfl|⟨k,hk,rfl⟩
    ·exact .inl rfl
    ·exact .inr (SR h p k)
   clear hw;have en:(endN a q i:Int)=q+szAt a i:=by unfold endN szAt;omega
   rw[e];simp only[kr,ko,ut];unfold szAt at en hq;refine qVu (show A+(q:Int)<A+((q:Int)+a.Sizes.getD ((i:Int)).toNat daa) by rw[ko];omega) (show A+(q:Int)=A+p\/A+(p:Int)+a.Kerf+1<=A+q by omega) (show A+((q:Int)+a.Sizes.getD ((i:Int)).toNat daa)<=A+a.Len by rw[ko];omega) ?_;show(A+((q:Int)+a.Sizes.getD ((i:Int)).toNat daa)<A+a.Len/\GX a.Kerf (A+a.Len) (imin (A+((q:Int)+a.Sizes.getD ((i:Int)).toNat daa)+a.Kerf) (A+a.Len)) _)\/(A+((q:Int)+a.Sizes.getD ((i:Int)).toNat daa)=A+a.Len/\_);rw[ko];by_cases c:(endN a q i:Int)=a.Len
   ·rw[if_pos c];exact .inr ⟨by omega,rfl⟩
   ·rw[if_neg c];have ws:=qFs h (p:=p) hi (by unfold szAt;omega) (by omega) c;have mm:=imin_or ((endN a q i:Int)+a.Kerf) a.Len;have en2:(nxtN a (endN a q i):Int)=imin ((endN a q i:Int)+a.Kerf) a.Len:=by unfold nxtN;omega
    have m2:=imin_or (A+((q:Int)+a.Sizes.getD i daa)+a.Kerf) (A+a.Len);rw[show imin (A+((q:Int)+a.Sizes.getD i daa)+a.Kerf) (A+a.Len)=A+(nxtN a (endN a q i):Int) by omega];exact .inl ⟨by omega,qDm h A g m _ ws.2⟩
theorem qHp (a:Line) (A:Int) (g:zR->List Node) (M:Nat):∀(l:List zR),(∀x∈l,(g x).length<=M)->ndC (l.map (ptOf a A g))<=(3+M)*l.length
 |[],_=>by simp[ndC]
 |x::l,h=>by
  have:=qHp a A g M l (λy hy=>h y (by simp[hy]));have hx:=h x (by simp);unfold ndC at*;simp only[ut,List.sum_cons,ue,ptOf] at*;rw[Nat.mul_succ];omega
def bdN (ps:List Product) (z:Int) (x:zR):List Node:=[⟨1,(zF ps z).2.getD x.Size.toNat daa⟩]
def wA (ps:List Product) (r:Rect) (a:Line):List Pt:=(wD a).map (ptOf a r.X.A (bdN ps (r.Y.B-r.Y.A)))
def qKa (ps:List Product) (r:Rect) (a:Line):List Node×Int×Int:=if(rowN 2 a.Kerf r.X (wA ps r a)).length<=127 then(rowN 2 a.Kerf r.X (wA ps r a),(bst a 0).value,0) else([],0,4)
open Classical in
noncomputable def yL (l:List qB) (ds:List qC) (ps:List Product) (r:Rect) (w:Saw) (t:Rates):List Node×Int×Int:=if chkE l ds ps r w t=0 then qKa ps r (lineS l ds ps r w t) else([],0,chkE l ds ps r w t)
theorem qVm {l:List Node} (h:l.length<=1000000):PD l=some l:=by
 unfold PD;rw[QH h (by omega)];rfl
theorem qNg {ps:List Product} (z:Int):(zF ps z).2.length=(zF ps z).1.length:=by
 unfold zF;split
 ·rfl
 ·have:∀k,(foldN (sizStep ps z) 0 k ([],[])).2.length=(foldN (sizStep ps z) 0 k ([],[])).1.length:=by
   intro k
   induction k with
   |zero=>rfl
   |succ k ih=>
    rw[yK];generalize foldN (sizStep ps z) 0 k ([],[])=s at*;unfold sizStep;cases (qT (ps.getD (0+k) daa)).1==z<;>cases (qT (ps.getD (0+k) daa)).2==z<;>simp[ih]
  exact this _
theorem qTh (l:List qB) (ds:List qC) (ps:List Product) (r:Rect) (w:Saw) (t:Rates):wW l ds ps r w t=some (yL l ds ps r w t):=by
 unfold wW yL;rw[Line_eq];unfold qJ2;by_cases c:chkE l ds ps r w t=0
 ·have h:=DT.1 c;have hr:=h.vr;have hr':=hr;unfold VR at hr';have vl:=qCc h;rw[if_pos c,if_pos c];have sl:=qDe ps (r.Y.B-r.Y.A);have sl2:=qNg (ps:=ps) (r.Y.B-r.Y.A);have kf:=vl.kerf;have hsz:(lineS l ds ps r w t).Sizes=(zF ps (r.Y.B-r.Y.A)).1:=rfl;have hlen:(lineS l ds ps r w t).Len=r.X.B-r.X.A:=rfl;simp only[kg,kA,kr];rw[show(Line.mk (lineS l ds ps r w t).Len (lineS l ds ps r w t).Kerf (lineS l ds ps r w t).Pitch (lineS l ds ps r w t).Sizes (lineS l ds ps r w t).Gain (lineS l ds ps r w t).Chip (lineS l ds ps r w t).Dust)=lineS l ds ps r w t from rfl,qL2 vl];simp only[kg,kA,kr]
  rw[qD (n:=r.Y.B-r.Y.A) (by omega),(qHG ps _).1];simp only[kg];generalize ha:lineS l ds ps r w t=a at*;have ek:w.Kerf=a.Kerf:=by rw[<-ha];rfl
  have bl:(wD a).length<=3000:=qEP a 3000 0;have bm:=qCf vl 3000 0 (by have:=vl.len;omega);have k:=zA (wD a).length (λn (s:List Span×List (List Node)) x=>UR r (wD a,(bst a 0).value,0) (zF ps (r.Y.B-r.Y.A)) n s.1 s.2 x)
   (λj s=>(s.1++[(ptOf a r.X.A (bdN ps (r.Y.B-r.Y.A)) ((wD a).getD j daa)).1],s.2++[(ptOf a r.X.A (bdN ps (r.Y.B-r.Y.A)) ((wD a).getD j daa)).2])) (λs=>s)
   (λj s=>s.1=((wD a).take j).map (λx=>(ptOf a r.X.A (bdN ps (r.Y.B-r.Y.A)) x).1)/\s.2=((wD a).take j).map (λx=>(ptOf a r.X.A (bdN ps (r.Y.B-r.Y.A)) x).2)) 0 (by omega) (by omega)
   (λn j s hj hs=>by
    obtain⟨s1,s2⟩:=s;obtain⟨e1,e2⟩:=hs;simp only at e1 e2;have tk:(wD a).take (j+1)=(wD a).take j++[(wD a).getD j daa]:=by rw[ge,ki,ks hj];rfl
    refine⟨?_,by simp only[e1,tk,kU];rfl,by simp only[e2,tk,kU];rfl⟩;obtain⟨i,q,ex,hi,hq,hg⟩:=bm _ (zK hj);have sz:=vl.sz i hi;rw[hsz] at sz hi;have hq':(q:Int)+(zF ps (r.Y.B-r.Y.A)).1.getD i daa<=r.X.B-r.X.A:=by
     unfold szAt at hq;rw[hsz,hlen] at hq;omega
    simp only;rw[UR];simp only[ko,show(wD a).getD j daa=⟨(i:Int),(q:Int)⟩ from ex];rw[ka (by omega),qJ (by omega),qJ (by omega),qJ (by omega),qD (n:=(q:Int)+_) (by omega),qN6 hr (by omega) (by omega),QH (by rw[e1];simp;omega) (by omega)];simp only[kp,kg,qB2,qM (show j<4611686018427387904 by omega)];rw[qVm (by simp)];simp only[kg];rw[QH (by rw[e2];simp;omega) (by omega)];simp only[kp,kg,ptOf,bdN,ko,BR,hsz])
   (λn s _=>by rw[UR];simp only;rw[ke (by omega)];rfl) ([],[]) ⟨rfl,rfl⟩
  rw[show((0:Nat):Int)=0 from rfl,kO] at k;rw[k.1];obtain⟨k2,k3⟩:=k.2;rw[de] at k2 k3;simp only[kg];rw[k2,k3,show(wD a).map (λx=>(ptOf a r.X.A (bdN ps (r.Y.B-r.Y.A)) x).1)=(wA ps r a).map Prod.fst by unfold wA;rw[du];rfl,show(wD a).map (λx=>(ptOf a r.X.A (bdN ps (r.Y.B-r.Y.A)) x).2)=(wA ps r a).map Prod.snd by unfold wA;rw[du];rfl,ek];have gd:=qDm vl r.X.A (bdN ps (r.Y.B-r.Y.A)) 3000 0 (by have:=vl.len;omega);have nc:=qHp a r.X.A (bdN ps (r.Y.B-r.Y.A)) 1 (wD a) (λx _=>by simp[bdN]);rw[hlen,show r.X.A+(r.X.B-r.X.A)=r.X.B by omega,show r.X.A+((0:Nat):Int)=r.X.A by omega] at gd
  replace gd:GX a.Kerf (axS r 2).B (axS r 2).A (wA ps r a):=gd;rw[qV5 hr (.inl rfl) kf (by unfold wA;simp;omega) gd (by unfold wA;omega)];unfold qKa rowR;rw[show axS r 2=r.X from rfl];simp only[kg];split
  ·rfl
  ·rfl
 ·rw[if_neg c,if_neg c];simp only[kg];rw[show(chkE l ds ps r w t !=0)=true by rw[ua];exact c];rfl
def okS (bd:Rect->Int->Int) (kerf:Int):T->Rect->Prop
 | .leaf n,r=>ripB n.Kind=false/\chkN bd n ⟨r,1⟩=0
 | .rip n a b,r=>ripB n.Kind=true/\chkN bd n ⟨r,1⟩=0/\okS bd kerf a (fiP r n)/\okS bd kerf b (seP r n kerf)
def dT :T->Nat
 | .leaf _=>1
 | .rip _ a b=>1+max (dT a) (dT b)
theorem qLt :∀(t:T),2*dT t<=(wR t).length+1
 | .leaf _=>by simp[dT,wR]
 | .rip _ a b=>by
  have:=qLt a;have:=qLt b;have:=qNn a;have:=qNn b;simp only[dT,wR,ue,ub];omega
theorem qSq {bd:Rect->Int->Int} {n:Node} {r:Rect} {l:Int} (h:chkN bd n ⟨r,1⟩=0) (hl:l<=64):chkN bd n ⟨r,l⟩=0:=by
 unfold chkN at h⊢;simp only at h⊢;split at h
 ·cases h
 ·rename_i c;rw[if_neg c,if_neg (by omega)];rw[if_neg (by omega)] at h;exact h
theorem qOa {bd:Rect->Int->Int} {kerf:Int}:∀{t:T} {r:Rect} {l:Int},okS bd kerf t r->l+dT t<=65->okT bd kerf t ⟨r,l⟩
 | .leaf n,r,l,h,hl=>⟨h.1,qSq h.2 (by simp only[dT] at hl;omega)⟩
 | .rip n a b,r,l,h,hl=>by
  simp only[dT] at hl;exact⟨h.1,qSq h.2.1 (by omega),qOa h.2.2.1 (by simp only;omega),qOa h.2.2.2 (by simp only;omega)⟩
theorem qFK {bd:Rect->Int->Int} {kerf:Int}:∀{t:T} {r:Rect},okS bd kerf t r->qGM t
 | .leaf _,_,h=>h.1
 | .rip _ _ _,_,h=>⟨h.1,qFK h.2.2.1,qFK h.2.2.2⟩
theorem qYa {bd:Rect->Int->Int} {kerf:Int} {t:T} {r:Rect} (h:okS bd kerf t r) (hl:(wR t).length<=127):chkP bd kerf (wR t) [⟨r,1⟩]=0:=
 qUI (qOa h (by have:=qLt t;omega))
abbrev Pq :=Span×T
def rowT (axis kerf B:Int):Int->List Pq->T
 |_,[]=> .leaf ⟨0,0⟩
 |e,x::r=>
  if x.1.A>e then .rip ⟨axis,x.1.A-kerf⟩ (.leaf ⟨0,0⟩) (if x.1.B<B then .rip ⟨axis,x.1.B⟩ x.2 (rowT axis kerf B (imin (x.1.B+kerf) B) r) else x.2)
  else if x.1.B<B then .rip ⟨axis,x.1.B⟩ x.2 (rowT axis kerf B (imin (x.1.B+kerf) B) r) else x.2
def ptP (x:Pq):Pt:=(x.1,wR x.2)
theorem qNm (axis kerf B:Int):∀(L:List Pq) (e:Int),GX kerf B e (L.map ptP)->wR (rowT axis kerf B e L)=(rowB axis kerf B e (L.map ptP)).1++(if(rowB axis kerf B e (L.map ptP)).2 then[] else[⟨0,0⟩])
 |[],e,_=>rfl
 |x::r,e,h=>by
  obtain⟨h1,h2,h3,h4⟩:=h;rw[ut,EO];unfold rowT;by_cases c:x.1.B<B
  ·have c':(ptP x).1.B<B:=c;rw[if_pos c'] at h4;have ih:=qNm axis kerf B r (imin (x.1.B+kerf) B) h4;rw[if_pos c,if_pos c'];by_cases ca:x.1.A>e
   ·rw[if_pos ca,if_pos (show(ptP x).1.A>e from ca)];simp only[wR,ih];simp[ptP];rfl
   ·rw[if_neg ca,if_neg (show¬(ptP x).1.A>e from ca)];simp only[wR,ih];simp[ptP];rfl
  ·have c':¬(ptP x).1.B<B:=c;rw[if_neg c,if_neg c'];by_cases ca:x.1.A>e
   ·rw[if_pos ca,if_pos (show(ptP x).1.A>e from ca)];simp[wR,ptP]
   ·rw[if_neg ca,if_neg (show¬(ptP x).1.A>e from ca)];simp[ptP]
theorem qQT (R:Rect) (k:Int) (s:Span):alP (wiP R k s) k=s:=by unfold alP wiP;cases k==2<;>rfl
theorem wi_wi (R:Rect) (k:Int) (s u:Span):wiP (wiP R k s) k u=wiP R k u:=by unfold wiP;cases k==2<;>rfl
theorem fi_wi (R:Rect) (k at_:Int) (s:Span):fiP (wiP R k s) ⟨k,at_⟩=wiP R k ⟨s.A,at_⟩:=by unfold fiP;simp only[qQT,wi_wi]
theorem en_wi (R:Rect) (k at_ kerf:Int) (s:Span) (h: -1000<=at_/\at_<=1000) (hk:0<=kerf/\kerf<=20):enP (wiP R k s) ⟨k,at_⟩ kerf=imin (at_+kerf) s.B:=by
 unfold enP;simp only[qQT];rw[qD (by omega)]
theorem cu_wi (R:Rect) (k at_ kerf:Int) (s:Span) (h: -1000<=at_/\at_<=1000) (hk:0<=kerf/\kerf<=20):cuP (wiP R k s) ⟨k,at_⟩ kerf=wiP R k ⟨at_,imin (at_+kerf) s.B⟩:=by
 unfold cuP;rw[en_wi R k at_ kerf s h hk];simp only[wi_wi]
theorem qQW (R:Rect) (k at_ kerf:Int) (s:Span) (h: -1000<=at_/\at_<=1000) (hk:0<=kerf/\kerf<=20):seP (wiP R k s) ⟨k,at_⟩ kerf=wiP R k ⟨imin (at_+kerf) s.B,s.B⟩:=by
 unfold seP;rw[en_wi R k at_ kerf s h hk];simp only[wi_wi,qQT]
theorem qRU {bd:Rect->Int->Int} {R:Rect} {k at_:Int} {s:Span} (hk:k=2\/k=3) (h:s.A<at_/\at_<s.B):ripB k=true/\chkN bd ⟨k,at_⟩ ⟨wiP R k s,1⟩=0:=by
 have hr:ripB k=true:=ripB_iff.2 hk;refine⟨hr,?_⟩;unfold chkN;simp only[qQT];rw[if_neg (by omega),if_neg (by omega),if_neg (by omega),if_neg (by omega)]
theorem qM4 {bd:Rect->Int->Int} (r:Rect):ripB 0=false/\chkN bd ⟨0,0⟩ ⟨r,1⟩=0:=by
 refine⟨rfl,?_⟩;unfold chkN;simp[ripB]
theorem qWU {bd:Rect->Int->Int} {kerf axis B:Int} {R:Rect} (ha:axis=2\/axis=3) (hk:0<=kerf/\kerf<=20) (hB:B<=600):∀(L:List Pq) (e:Int),-600<=e->e<=B->GX kerf B e (L.map ptP)->(∀x∈L,okS bd kerf x.2 (wiP R axis x.1))->okS bd kerf (rowT axis kerf B e L) (wiP R axis ⟨e,B⟩)
 |[],e,_,_,_,_=>qM4 _
 |x::r,e,he,heB,h,hx=>by
  obtain⟨h1,h2,h3,h4⟩:=h;have h1':x.1.A<x.1.B:=h1;have h2':x.1.A=e\/e+kerf+1<=x.1.A:=h2;have h3':x.1.B<=B:=h3;have o1:=hx x kF;have inner:okS bd kerf (if x.1.B<B then .rip ⟨axis,x.1.B⟩ x.2 (rowT axis kerf B (imin (x.1.B+kerf) B) r) else x.2) (wiP R axis ⟨x.1.A,B⟩):=by
   by_cases c:x.1.B<B
   ·rw[if_pos c];rw[if_pos (show(ptP x).1.B<B from c)] at h4;obtain⟨r1,r2⟩:=qRU (bd:=bd) (R:=R) (at_:=x.1.B) (s:=⟨x.1.A,B⟩) ha ⟨h1',c⟩;have mm:=imin_or (x.1.B+kerf) B;refine⟨r1,r2,?_,?_⟩
    ·rw[fi_wi];exact o1
    ·rw[qQW R axis x.1.B kerf ⟨x.1.A,B⟩ (by omega) hk];exact qWU ha hk hB r _ (by omega) (by omega) h4 λy hy=>hx y (kD _ hy)
   ·rw[if_neg c];have:x.1.B=B:=by omega
    have e2:(⟨x.1.A,B⟩:Span)=x.1:=by rw[<-this]
    rw[e2];exact o1
  unfold rowT;by_cases ca:x.1.A>e
  ·rw[if_pos ca];obtain⟨r1,r2⟩:=qRU (bd:=bd) (R:=R) (at_:=x.1.A-kerf) (s:=⟨e,B⟩) ha ⟨by simp only;omega,by simp only;omega⟩;refine⟨r1,r2,qM4 _,?_⟩;rw[qQW R axis (x.1.A-kerf) kerf ⟨e,B⟩ (by omega) hk];have mm:=imin_or (x.1.A-kerf+kerf) B;rw[show imin (x.1.A-kerf+kerf) B=x.1.A by omega];exact inner
  ·rw[if_neg ca];have:x.1.A=e:=by omega
   rw[<-this];exact inner
def tv (φ:Leaf->Int) (κ:Rect->Int) (kerf:Int) (t:T) (r:Rect):Int:=sumL φ (lvT kerf t ⟨r,1⟩)+sumL κ (ctT kerf t ⟨r,1⟩)
theorem qG9 (kerf:Int):∀(T:T) (r:Rect) (l m:Int),lvT kerf T ⟨r,l⟩=lvT kerf T ⟨r,m⟩/\ctT kerf T ⟨r,l⟩=ctT kerf T ⟨r,m⟩
 | .leaf n,r,l,m=>⟨rfl,rfl⟩
 | .rip n a b,r,l,m=>by
  have a1:=qG9 kerf a (fiP r n) (l+1) (m+1);have b1:=qG9 kerf b (seP r n kerf) (l+1) (m+1);unfold lvT ctT at*;simp only[allT];rw[a1.1,a1.2,b1.1,b1.2];exact⟨rfl,rfl⟩
theorem qWV (φ:Leaf->Int) (κ:Rect->Int) {kerf:Int} {n:Node} (hr:ripB n.Kind=true) (a b:T) (r:Rect):tv φ κ kerf (.rip n a b) r=κ (cuP r n kerf)+tv φ κ kerf a (fiP r n)+tv φ κ kerf b (seP r n kerf):=by
 unfold tv;rw[(qL3 hr).1,(qL3 hr).2,EI,YZ,EI];simp only;rw[(qG9 kerf a (fiP r n) (1+1) 1).1,(qG9 kerf a (fiP r n) (1+1) 1).2,(qG9 kerf b (seP r n kerf) (1+1) 1).1,(qG9 kerf b (seP r n kerf) (1+1) 1).2];omega
theorem qRu (φ:Leaf->Int) (κ:Rect->Int) (kerf:Int) (r:Rect):tv φ κ kerf (.leaf ⟨0,0⟩) r=φ ⟨r,-1⟩:=by
 unfold tv lvT ctT allT qDY cutG;simp[sumL,ripB]
theorem qYe (φ:Leaf->Int) (κ:Rect->Int) (kerf at_:Int) (r:Rect):tv φ κ kerf (.leaf ⟨1,at_⟩) r=φ ⟨r,at_⟩:=by
 unfold tv lvT ctT allT qDY cutG;simp[sumL,ripB]
def rowV (φ:Leaf->Int) (κ:Rect->Int) (axis kerf:Int) (R:Rect) (B:Int):Int->List Pq->Int
 |e,[]=>φ ⟨wiP R axis ⟨e,B⟩,-1⟩
 | e,x::r=>(if x.1.A>e then φ ⟨wiP R axis ⟨e,x.1.A-kerf⟩,-1⟩+κ (wiP R axis ⟨x.1.A-kerf,x.1.A⟩) else 0)+tv φ κ kerf x.2 (wiP R axis x.1)
   +(if x.1.B<B then κ (wiP R axis ⟨x.1.B,imin (x.1.B+kerf) B⟩)+rowV φ κ axis kerf R B (imin (x.1.B+kerf) B) r else 0)
theorem qVX (φ:Leaf->Int) (κ:Rect->Int) {kerf axis B:Int} {R:Rect} (ha:axis=2\/axis=3) (hk:0<=kerf/\kerf<=20) (hB:B<=600):∀(L:List Pq) (e:Int),-600<=e->e<=B->GX kerf B e (L.map ptP)->tv φ κ kerf (rowT axis kerf B e L) (wiP R axis ⟨e,B⟩)=rowV φ κ axis kerf R B e L
 |[],e,_,_,_=>qRu _ _ _ _
 |x::r,e,he,heB,h=>by
  obtain⟨h1,h2,h3,h4⟩:=h;have h1':x.1.A<x.1.B:=h1;have h2':x.1.A=e\/e+kerf+1<=x.1.A:=h2;have h3':x.1.B<=B:=h3;have hr:ripB axis=true:=ripB_iff.2 ha;have inner:tv φ κ kerf (if x.1.B<B then .rip ⟨axis,x.1.B⟩ x.2 (rowT axis kerf B (imin (x.1.B+kerf) B) r) else x.2) (wiP R axis ⟨x.1.A,B⟩)=tv φ κ kerf x.2 (wiP R axis x.1)+(if x.1.B<B then κ (wiP R axis ⟨x.1.B,imin (x.1.B+kerf) B⟩)+rowV φ κ axis kerf R B (imin (x.1.B+kerf) B) r else 0):=by
   by_cases c:x.1.B<B
   ·rw[if_pos c,if_pos c];rw[if_pos (show(ptP x).1.B<B from c)] at h4;have mm:=imin_or (x.1.B+kerf) B;rw[qWV φ κ (n:=⟨axis,x.1.B⟩) hr,cu_wi R axis x.1.B kerf ⟨x.1.A,B⟩ (by omega) hk,fi_wi,qQW R axis x.1.B kerf ⟨x.1.A,B⟩ (by omega) hk];have ih:=qVX φ κ (R:=R) ha hk hB r (imin (x.1.B+kerf) B) (by omega) (by omega) h4;simp only;rw[ih];rw[show(⟨x.1.A,x.1.B⟩:Span)=x.1 from rfl];omega
   ·rw[if_neg c,if_neg c];have:x.1.B=B:=by omega
    have e2:(⟨x.1.A,B⟩:Span)=x.1:=by rw[<-this]
    rw[e2,Int.add_zero]
  unfold rowT rowV;by_cases ca:x.1.A>e
  ·rw[if_pos ca,if_pos ca,qWV φ κ (n:=⟨axis,x.1.A-kerf⟩) hr,cu_wi R axis (x.1.A-kerf) kerf ⟨e,B⟩ (by omega) hk,fi_wi,qQW R axis (x.1.A-kerf) kerf ⟨e,B⟩ (by omega) hk,qRu];have mm:=imin_or (x.1.A-kerf+kerf) B;simp only;rw[show imin (x.1.A-kerf+kerf) B=x.1.A by omega,inner];omega
  ·rw[if_neg ca,if_neg ca];have:x.1.A=e:=by omega
   rw[<-this,inner];omega
theorem qWe (s:qF) {A m B:Int} (y:Span) (h1:A<=m) (h2:m<=B):zJ s ⟨A,m⟩ y+zJ s ⟨m,B⟩ y=zJ s ⟨A,B⟩ y:=by
 unfold zJ;rw[<-qLC];refine qEr (λr _ _=>?_);rw[<-qMl (row s r) h1 h2,gy]
theorem qWA (s:qF) {A m B:Int} (x:Span) (h1:A<=m) (h2:m<=B):zJ s x ⟨A,m⟩+zJ s x ⟨m,B⟩=zJ s x ⟨A,B⟩:=by
 unfold zJ;rw[<-qLC];refine qEr (λr _ _=>?_);rw[<-qMl (hgt r) h1 h2,uS]
theorem vol_aX (l:List qB) {A m B:Int} (y z:Span) (h1:A<=m) (h2:m<=B):volS l ⟨A,m⟩ y z+volS l ⟨m,B⟩ y z=volS l ⟨A,B⟩ y z:=by
 unfold volS;rw[<-qCs];refine ZC (λi _=>?_);rw[<-qWe _ y h1 h2,uS]
theorem vol_aY (l:List qB) {A m B:Int} (x z:Span) (h1:A<=m) (h2:m<=B):volS l x ⟨A,m⟩ z+volS l x ⟨m,B⟩ z=volS l x ⟨A,B⟩ z:=by
 unfold volS;rw[<-qCs];refine ZC (λi _=>?_);rw[<-qWA _ x h1 h2,uS]
theorem qMi (l:List qB) {A m B:Int} (x y:Span) (h1:A<=m) (h2:m<=B):volS l x y ⟨A,m⟩+volS l x y ⟨m,B⟩=volS l x y ⟨A,B⟩:=by
 unfold volS;rw[<-qCs];refine ZC (λi _=>?_);rw[<-qMl (ext l i) h1 h2,gy]
theorem qMY (l:List qB) (x y z:Span):0<=volS l x y z:=by
 unfold volS;have:=qKl (n:=l.length) (f:=λ_=>0) (g:=λi=>ml (ext l i) z*zJ (l.getD i daa).Sec x y) (λi _=>ky (qEl _ _) (qFx _ _ _));rw[GU (λ_ _=>rfl)] at this;exact this
theorem qX7 (l:List qB) (x y:Span) {A B:Int} (h:B<=A):volS l x y ⟨A,B⟩=0:=by
 unfold volS;refine GU (λi _=>?_);have:ml (ext l i) ⟨A,B⟩=0:=by
  rw[qDi];have a1:=imin_or (ext l i).B B;have a2:=wZ (ext l i).A A;simp only;split<;>omega
 rw[this,dO]
theorem qYy (l:List qB) (x y:Span) {A B C D:Int} (h1:C<=A) (h2:B<=D):volS l x y ⟨A,B⟩<=volS l x y ⟨C,D⟩:=by
 by_cases h:A<=B
 ·have e1:=qMi l x y h1 h;have e2:=qMi l x y (show C<=B by omega) h2;have:=qMY l x y ⟨C,A⟩;have:=qMY l x y ⟨B,D⟩;omega
 ·rw[qX7 l x y (by omega)];exact qMY _ _ _ _
def qZ (l:List qB) (r:Rect):Int:=volS l r.X r.Y ⟨0,solLen l⟩
theorem qI6 (l:List qB):AddR (qZ l):=⟨λy h1 h2=>vol_aX l y _ h1 h2,λx h1 h2=>vol_aY l x _ h1 h2⟩
theorem qSm (l:List qB) (r:Rect):0<=qZ l r:=qMY _ _ _ _
def volT (l:List qB):Int:=sumN l.length (λi=>(l.getD i daa).Len*VF (l.getD i daa).Sec)
theorem qH6 {l:List qB} (h:VSol l) (r:Rect):qZ l r<=volT l:=by
 unfold qZ volS volT;refine qKl (λi hi=>?_);have hlen:=qTW h hi;have h1:=qMn (ext l i) ⟨0,solLen l⟩;rw[hlen] at h1;have h2:=qJY (l.getD i daa).Sec r.X r.Y;have h3:=qFx (l.getD i daa).Sec r.X r.Y;have h4:=qEl (ext l i) ⟨0,solLen l⟩;have h5:=(h.at hi).2.2.1;exact uP h1 h2 h3 (by omega)
theorem Area_eq (s:qF):qBt s=some (VF (QO s)):=by
 have h:=LA s;unfold qBt;rw[qRq s];simp only[kg];generalize QO s=t at*;have b:=h.len;have k1:=jJ t.Rows (λn (a:Int) x=>RD t n a x) (λx=>(x:Int)) (λ_ a s=>s+lenS a) (λs=>s) (λx s=>0<=s/\s<=1200*(x:Int)) (by omega)
  (λn x a hx hi=>by
   have l:=h.len_b hx;refine⟨?_,by omega⟩;rw[RD,ka (show(x:Int)<_ by omega),qJ (by omega),qM (by omega)];simp only[kp,ko];rw[qGz (by omega)];simp only[kg];rw[qD (by omega)])
  (λn a _=>by rw[RD];simp) (i:=0) rfl 0 (by omega)
 rw[DV (λ_ a=>lenS a)] at k1;have e:=qHS h (λ_ a=>lenS a) (λ_=>rfl);rw[e,dy] at k1;rw[k1.1];simp only[kg];unfold VF;have:=k1.2;rw[qD (by omega)]
theorem qBc {l:List qB} (h:VSol l):∀{k:Nat},k<=l.length->0<=sumN k (λi=>(l.getD i daa).Len*VF (l.getD i daa).Sec)/\sumN k (λi=>(l.getD i daa).Len*VF (l.getD i daa).Sec)<=1440000*lenTo l k
 |0,_=>by simp[sumN,lenTo]
 |k+1,hk=>by
  have ih:=qBc h (k:=k) (by omega);have a:=qNC (h.at (i:=k) (by omega)).1;have b:=(h.at (i:=k) (by omega)).2.2.1;have c:=gj a.2 (show 0<=(l.getD k daa).Len by omega);have d:=ky (show 0<=(l.getD k daa).Len by omega) a.1;rw[zZ];show 0<=sumN k _+_/\sumN k _+_<=_;simp only at ih⊢;rw[uS];constructor<;>omega
theorem qRd {l:List qB} (h:VSol l):0<=volT l/\volT l<=28800000000:=by
 have:=qBc h (kq _);have b:=(h.bd (kq _)).2;unfold volT;have:(1440000:Int)*lenTo l l.length<=1440000*20000:=gj b (by omega);omega
theorem qWu {l:List qB} (h:VSol l):UU l=some (volT l):=by
 have hl:=h.len;unfold UU;rw[qJ8,PL h];simp only[kg];have k1:=jJ l (λn (a:Int) x=>PY l n a x) (λx=>(x:Int)) (λ_ a s=>s+a.Len*VF a.Sec) (λs=>s) (λx s=>s=sumN x (λi=>(l.getD i daa).Len*VF (l.getD i daa).Sec)) (by omega)
  (λn x a hx hi=>by
   have p:=qBc h (k:=x) (by omega);have p':=qBc h (k:=x+1) (by omega);have b1:=(h.bd (i:=x) (by omega)).2;have b2:=(h.bd (i:=x+1) (by omega)).2;have vs:=(h.at hx).1;have ar:=qNC vs;have ln:=(h.at hx).2.2.1;have l2:(l.getD x daa).Len<=20000:=by have:=zZ l x;have:=(h.bd (i:=x) (by omega)).1;omega
   have pr:=uP l2 ar.2 ar.1 (by omega);have pn:=ky (show 0<=(l.getD x daa).Len by omega) ar.1;refine⟨?_,by rw[hi];rfl⟩;rw[PY,ka (show(x:Int)<_ by omega),qJ (by omega),qM (by omega)];simp only[kp,ko,Area_eq,kg];rw[ST vs];rw[qD (n:=(l.getD x daa).Len*VF (l.getD x daa).Sec) (by omega),qD (by omega)])
  (λn a _=>by rw[PY];simp) (i:=0) rfl 0 rfl
 rw[k1.1,DV (λ_ (a:qB)=>a.Len*VF a.Sec),dy];simp only[kg,kz];rfl
theorem qVp {p:Product} (h:VP p):5<=(qT p).1/\(qT p).1<=721/\5<=(qT p).2/\(qT p).2<=600:=by
 have b:=qSS p;have g:=h.gr;have t:=h.th;have w:=h.wd;have a:=h.al;have e:okG p=true:=qKg.2 ⟨by omega,by omega,a⟩;have g1:=qA7 (n:=p.Thick) (a:=p.Allow) (by omega) (by omega) a.1 a.2;have g2:=qA7 (n:=p.Width) (a:=p.Allow) (by omega) (by omega) a.1 a.2;have eg:qT p=(qCF p.Thick p.Allow,qCF p.Width p.Allow):=by unfold qT;rw[e];rfl
 rw[eg] at b g⊢;simp only at b g⊢;omega
structure VY (s:List qB) (d:List qC) (p:List Product) (pt:Pattern) (w:Saw) (t:Rates):Prop where
 sol:VSol s
 df:QD d=0
 pr:wF p=0
 vw:VW w t
 pat:qMG (qBX p) pt w.Kerf=0
variable {s :List qB} {d:List qC} {p:List Product} {pt:Pattern} {w:Saw} {t:Rates}
theorem bd_any {p:List Product} (h:wF p=0) (r:Rect) (a:Int) (hb:qBX p r a=0):bdAny r a=0:=by
 have hl:=qBa (l:=p) (by simpa using h);unfold qBX at hb;unfold bdAny;split at hb
 ·cases hb
 ·rw[if_neg (by omega)]
theorem VY.any (h:VY s d p pt w t):qMG bdAny pt w.Kerf=0:=by
 have hz:=CF.1 h.pat;obtain⟨T,e1,e2⟩:=qRn hz.2.2.2;rw[CF];refine⟨hz.1,hz.2.1,hz.2.2.1,?_⟩;rw[e1];exact qUI (qKY (bd_any h.pr) e2)
theorem VY.tree (h:VY s d p pt w t):∃T,pt.Nodes=wR T/\okT (qBX p) w.Kerf T ⟨pt.Frame,1⟩/\lvP pt w.Kerf=lvT w.Kerf T ⟨pt.Frame,1⟩/\ctP pt w.Kerf=ctT w.Kerf T ⟨pt.Frame,1⟩:=by
 have hz:=CF.1 h.pat;obtain⟨T,e1,e2⟩:=qRn hz.2.2.2;refine⟨T,e1,e2,?_,?_⟩
 ·unfold lvP lvT;rw[e1,qHK qDY w.Kerf _ (qGf e2)]
 ·unfold ctP ctT;rw[e1,qHK (cutG w.Kerf) w.Kerf _ (qGf e2)]
theorem VY.parts (h:VY s d p pt w t):Parts (qBX p) pt.Frame (lvP pt w.Kerf) (ctP pt w.Kerf) 127:=by
 have hz:=CF.1 h.pat;obtain⟨T,e1,e2,e3,e4⟩:=h.tree;have q:=qOv hz.2.1 T _ e2 (VR_WR hz.1);rw[e3,e4];have hl:(wR T).length<=127:=by rw[<-e1];exact hz.2.2.1
 exact⟨q.wl,q.wc,q.ap,by have:=q.ll;omega,by have:=q.lc;omega,q.sum⟩
def bdOf (s:List qB) (d:List qC) (p:List Product) (step fine:Int) (i:Nat) (x:Leaf):List jZ:=
 if x.Product= -1 then[] else
  bif (bestR s d (p.getD x.Product.toNat daa) x.Rect step fine).2.1 then[⟨(i:Int),x.Product,⟨x.Rect.X,x.Rect.Y,(bestR s d (p.getD x.Product.toNat daa) x.Rect step fine).2.2⟩,(bestR s d (p.getD x.Product.toNat daa) x.Rect step fine).1⟩] else[]
def bdsFrom (s:List qB) (d:List qC) (p:List Product) (step fine:Int):Nat->List Leaf->List jZ
 |_,[]=>[]
 |i,x::l=>bdOf s d p step fine i x++bdsFrom s d p step fine (i+1) l
theorem qQ8 (step fine:Int) (i:Nat) (x:Leaf):(bdOf s d p step fine i x).length<=1:=by
 unfold bdOf;split
 ·simp
 ·cases (bestR s d (p.getD x.Product.toNat daa) x.Rect step fine).2.1<;>simp
theorem qKM (step fine:Int):∀(l:List Leaf) (i:Nat),(bdsFrom s d p step fine i l).length<=l.length
 |[],_=>kq _
 |x::l,i=>by
  have:=qKM step fine l (i+1);have:=qQ8 (s:=s) (d:=d) (p:=p) step fine i x;simp[bdsFrom];omega
structure qMo (p:List Product) (x:Leaf):Prop where
 w:WR x.Rect
 b:x.Product= -1\/qBX p x.Rect x.Product=0
theorem good_at {x:Leaf} (hp:wF p=0) (h:qMo p x) (hx:x.Product≠-1):0<=x.Product/\x.Product<(p.length:Int)/\VP (p.getD x.Product.toNat daa)/\wF [p.getD x.Product.toNat daa]=0/\VR x.Rect/\dimOk x.Rect (p.getD x.Product.toNat daa)=true:=by
 have hb:=h.b.resolve_left hx;unfold qBX at hb;split at hb
 ·cases hb
 ·rename_i c;have hd:dimOk x.Rect (p.getD x.Product.toNat daa)=true:=by
   cases hh:dimOk x.Rect (p.getD x.Product.toNat daa) with
   |true=>rfl
   |false=>rw[hh] at hb;cases hb
  have hi:x.Product.toNat<p.length:=by omega
  have hv:=qLm hp hi;refine⟨by omega,by omega,hv,qPI hp hi,?_,hd⟩;have g:=qVp hv;obtain⟨⟨x1,x2,x3⟩,y1,y2,y3⟩:=h.w;unfold dimOk at hd;simp only[dp,kv,gh] at hd;refine⟨⟨x1,?_,x3⟩,y1,?_,y3⟩<;>omega
def bds (s:List qB) (d:List qC) (p:List Product) (pt:Pattern) (w:Saw) (fine:Int):List jZ:=bdsFrom s d p w.Step fine 0 (lvP pt w.Kerf)
theorem qTU (h:VY s d p pt w t):∀x∈lvP pt w.Kerf,qMo p x:=λx hx=>⟨(h.parts.wl x hx).1,(h.parts.wl x hx).2.2⟩
end Saw
end Go.SL
namespace Go.SL
namespace Saw
variable {s :List qB} {d:List qC} {p:List Product} {pt:Pattern} {w:Saw} {t:Rates}
def qR3 (z:Span) (trim:Int):Span:=⟨imax 0 (z.A-trim),z.A⟩
def backS (z:Span) (trim len:Int):Span:=⟨z.B,imin (z.B+trim) len⟩
def brdV (s:List qB) (c:jZ):Int:=volS s c.Box.X c.Box.Y c.Box.Z
def trmV (s:List qB) (trim:Int) (c:jZ):Int:=volS s c.Box.X c.Box.Y (qR3 c.Box.Z trim)+volS s c.Box.X c.Box.Y (backS c.Box.Z trim (solLen s))
structure qQF (s:List qB) (c:jZ):Prop where
 z:0<=c.Box.Z.A/\c.Box.Z.A<c.Box.Z.B/\c.Box.Z.B<=solLen s
 wth:0<=c.Worth/\c.Worth<=1000000
theorem qSI (hp:wF p=0) {step fine:Int} (hf:0<=fine) {i:Nat} {x:Leaf} (hx:qMo p x) {c:jZ} (h:c∈bdOf s d p step fine i x):qQF s c/\c.Leaf=(i:Int)/\c.Box.X=x.Rect.X/\c.Box.Y=x.Rect.Y/\c.Product=x.Product/\x.Product≠-1:=by
 unfold bdOf at h;split at h
 ·exact(dc h).elim
 ·rename_i c0;obtain⟨_,_,g3,_,_,_⟩:=good_at hp hx c0;have bi:=qLl (l:=s) (ds:=d) (p:=p.getD x.Product.toNat daa) (r:=x.Rect) (step:=step) (fine:=fine) hf g3;cases hb:(bestR s d (p.getD x.Product.toNat daa) x.Rect step fine).2.1 with
  |false=>rw[hb,kr] at h;exact(dc h).elim
  |true=>
   rw[hb,kp] at h;simp at h;subst h;exact⟨⟨bi.2.2 hb,bi.1,bi.2.1⟩,rfl,rfl,rfl,rfl,c0⟩
theorem qTR (hp:wF p=0) {step fine:Int} (hf:0<=fine):∀{lv:List Leaf} {i:Nat},(∀x∈lv,qMo p x)->∀c∈bdsFrom s d p step fine i lv,qQF s c/\(i:Int)<=c.Leaf/\∃x∈lv,c.Box.X=x.Rect.X/\c.Box.Y=x.Rect.Y/\c.Product=x.Product/\x.Product≠-1
 |[],_,_,c,hc=>(dc hc).elim
 |x::l,i,hg,c,hc=>by
  rcases um.1 hc with hc|hc
  ·obtain⟨a,b,e⟩:=qSI hp hf (hg x kF) hc;exact⟨a,by omega,x,kF,e⟩
  ·obtain⟨a,b,y,hy,e⟩:=qTR hp hf (λy hy=>hg y (kD _ hy)) c hc;exact⟨a,by omega,y,kD _ hy,e⟩
def qQR (s:List qB) (ct:List Rect):Int:=sumL (qZ s) ct
theorem qCm (h:VSol s) (r:Rect):0<=qZ s r/\qZ s r<=28800000000:=SA h _ _ _
theorem trm_b (h:VSol s) (trim:Int) (c:jZ):0<=trmV s trim c/\trmV s trim c<=57600000000:=by
 have a:=SA h c.Box.X c.Box.Y (qR3 c.Box.Z trim);have b:=SA h c.Box.X c.Box.Y (backS c.Box.Z trim (solLen s));unfold trmV;omega
def yB (s:List qB) (d:List qC) (p:List Product) (pt:Pattern) (w:Saw) (fine:Int):Int:=sumL (brdV s) (bds s d p pt w fine)
def yD (s:List qB) (d:List qC) (p:List Product) (pt:Pattern) (w:Saw) (fine:Int):Int:=qQR s (ctP pt w.Kerf)+sumL (trmV s w.Trim) (bds s d p pt w fine)
def yW (s:List qB) (d:List qC) (p:List Product) (pt:Pattern) (w:Saw) (fine:Int):Int:=sumL (λc:jZ=>1000000*c.Worth) (bds s d p pt w fine)
def yC (s:List qB) (d:List qC) (p:List Product) (pt:Pattern) (w:Saw) (fine:Int):Int:=volT s-yB s d p pt w fine-yD s d p pt w fine
def qRX (s:List qB) (d:List qC) (p:List Product) (pt:Pattern) (w:Saw) (t:Rates):Yield:=
 ⟨volT s,yB s d p pt w t.Fine,yC s d p pt w t.Fine,yD s d p pt w t.Fine,yW s d p pt w t.Fine+(t.Chip*yC s d p pt w t.Fine+t.Dust*yD s d p pt w t.Fine)⟩
theorem bds_len (h:VY s d p pt w t) (fine:Int):(bds s d p pt w fine).length<=127:=by
 have:=qKM (s:=s) (d:=d) (p:=p) w.Step fine (lvP pt w.Kerf) 0;have:=h.parts.ll;unfold bds;omega
theorem qR1 (h:VY s d p pt w t):∀c∈bds s d p pt w t.Fine,qQF s c:=λc hc=>(qTR h.pr h.vw.fine.1 (qTU h) c hc).1
structure YBnd (s:List qB) (d:List qC) (p:List Product) (pt:Pattern) (w:Saw) (fine:Int):Prop where
 nB:0<=yB s d p pt w fine/\yB s d p pt w fine<=28800000000*127
 nD:0<=yD s d p pt w fine/\yD s d p pt w fine<=28800000000*127+57600000000*127
 nW:0<=yW s d p pt w fine/\yW s d p pt w fine<=1000000000000*127
theorem YBnd_of (h:VY s d p pt w t):YBnd s d p pt w t.Fine:=by
 have lb:=bds_len h t.Fine;have lc:=h.parts.lc;have n1:=qJ5 (f:=brdV s) (l:=bds s d p pt w t.Fine) λx _=>(SA h.sol x.Box.X x.Box.Y x.Box.Z).1;have d1:=qGY (f:=brdV s) (M:=28800000000) (l:=bds s d p pt w t.Fine) λx _=>(SA h.sol x.Box.X x.Box.Y x.Box.Z).2;have n2:=qJ5 (f:=trmV s w.Trim) (l:=bds s d p pt w t.Fine) λx _=>(trm_b h.sol w.Trim x).1;have d2:=qGY (f:=trmV s w.Trim) (M:=57600000000) (l:=bds s d p pt w t.Fine) λx _=>(trm_b h.sol w.Trim x).2;have n3:=qJ5 (f:=λc:jZ=>1000000*c.Worth) (l:=bds s d p pt w t.Fine) λx hx=>by have:=(qR1 h x hx).wth;omega
 have d3:=qGY (f:=λc:jZ=>1000000*c.Worth) (M:=1000000000000) (l:=bds s d p pt w t.Fine) λx hx=>by have:=(qR1 h x hx).wth;omega
 have n4:=qJ5 (f:=qZ s) (l:=ctP pt w.Kerf) λx _=>(qCm h.sol x).1;have d4:=qGY (f:=qZ s) (M:=28800000000) (l:=ctP pt w.Kerf) λx _=>(qCm h.sol x).2;have e:qQR s (ctP pt w.Kerf)=sumL (qZ s) (ctP pt w.Kerf):=rfl;exact⟨by unfold yB;omega,by unfold yD;omega,by unfold yW;omega⟩
end Saw
end Go.SL
namespace Go.SL
namespace Saw

end Saw
end Go.SL

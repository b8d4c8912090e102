import Derived.Test.YtidlfgiogdjkaaaGreatDoorEMa5
set_option linter.unusedVariables false
set_option linter.unusedSimpArgs false
namespace Go.SL
namespace Saw
theorem qMq {a:Line} (h:VL a) {p:Nat} (hp:(p:Int)<=a.Len):BV a p (pre a.Chip a.Len.toNat-pre a.Chip p):=by
 have cl:=h.cl;have ln:=h.len;have:=FA h.cb (i:=p) (k:=a.Len.toNat-p) (by omega);rw[show p+(a.Len.toNat-p)=a.Len.toNat by omega] at this;unfold BV;omega
theorem qTU {a:Line} (h:VL a) {p:Nat} (hp:(p:Int)<=a.Len) {st:Nat->Ch} (hs:BV a p (st p).value):BV a p (CK a st p).value:=by
 unfold CK;cases !isNo (st p)&&decide ((st p).value>pre a.Chip a.Len.toNat-pre a.Chip p) with
 |true=>exact hs
 |false=>exact qMq h hp
theorem SI {a:Line} (h:VL a) (p k:Nat):p+a.Kerf.toNat+1<=placeN a p k:=by
 unfold placeN;have:=h.pitch;have:1<=(k+1)*a.Pitch.toNat:=Nat.mul_pos (by omega) (by omega);omega
theorem qUi {a:Line} (h:VL a) {p:Nat} (hp:(p:Int)<=a.Len) {st:Nat->Ch} (hs:∀x,p<=x->(x:Int)<=a.Len->BV a x (st x).value):BV a p (bestS a st p).value:=by
 unfold bestS;have kf:=h.kerf;refine NW (P:=fun(c:Ch)=>BV a p c.value) (qTU h hp (hs p (Nat.le_refl _) hp)) (λk c _ hk hc=>?_);have hx:=(places_lt h).1 (show k<ZZ a p by omega);have lo:=SI h p k;unfold TF;cases !isNo (st (placeN a p k))&&decide ((st (placeN a p k)).value+(pre a.Chip (placeN a p k-a.Kerf.toNat)-pre a.Chip p+pre a.Dust (placeN a p k)-pre a.Dust (placeN a p k-a.Kerf.toNat))>c.value) with
 |false=>exact hc
 |true=>exact qSK h hx (by omega) (hs _ (by omega) hx)
structure TI (a:Line) (k:Nat) (s:List Ch×List Ch):Prop where
 l1:(s.1.length:Int)=a.Len+1
 l2:(s.2.length:Int)=a.Len+1
 e1:∀j,s.1.getD j default=(tab a k j).1
 e2:∀j,s.2.getD j default=(tab a k j).2
 b1:∀j,a.Len.toNat<j+k->(j:Int)<=a.Len->BV a j (tab a k j).1.value/\BV a j (tab a k j).2.value
def qDq (a:Line) (k:Nat) (s:List Ch×List Ch):List Ch×List Ch:=
 (s.1.set (a.Len.toNat-k) (bestS a (λx=>(s.2.set (a.Len.toNat-k) (startS a (λy=>s.1.getD y default) (a.Len.toNat-k))).getD x default) (a.Len.toNat-k)),s.2.set (a.Len.toNat-k) (startS a (λy=>s.1.getD y default) (a.Len.toNat-k)))
theorem qBU {α:Type} [Inhabited α] {l:List α} {x:Nat} (v:α) (h:x<l.length) (j:Nat):(l.set x v).getD j default=if j=x then v else l.getD j default:=by
 by_cases c:j=x
 ·subst c;rw[if_pos rfl,CO _ h]
 ·rw[if_neg c,HO _ (λe=>c e.symm)]
theorem qRU {a:Line} (h:VL a) {k:Nat} (hk:(k:Int)<=a.Len) {s:List Ch×List Ch} (t:TI a k s):TI a (k+1) (qDq a k s):=by
 have ln:=h.len;have f1:(λy=>s.1.getD y default)=λy=>(tab a k y).1:=funext t.e1;have l1:=t.l1;have l2:=t.l2;have f2:(λx=>(s.2.set (a.Len.toNat-k) (startS a (λy=>(tab a k y).1) (a.Len.toNat-k))).getD x default)=λx=>if x=a.Len.toNat-k then startS a (λy=>(tab a k y).1) (a.Len.toNat-k) else(tab a k x).2:=funext λx=>by
  rw[qBU _ (by omega),t.e2]
 have sb:BV a (a.Len.toNat-k) (startS a (λy=>(tab a k y).1) (a.Len.toNat-k)).value:=qSo h (by omega) (λx h1 h2=>(t.b1 x (by omega) h2).1);have bb:BV a (a.Len.toNat-k) (bestS a (λx=>if x=a.Len.toNat-k then startS a (λy=>(tab a k y).1) (a.Len.toNat-k) else(tab a k x).2) (a.Len.toNat-k)).value:=qUi h (by omega) (λx h1 h2=>by
  by_cases c:x=a.Len.toNat-k
  ·simp only[if_pos c];rw[c];exact sb
  ·simp only[if_neg c];exact(t.b1 x (by omega) h2).2)
 unfold qDq;rw[f1,f2];refine⟨by simpa using l1,by simpa using l2,λj=>?_,λj=>?_,λj h1 h2=>?_⟩
 ·simp only;rw[qBU _ (by omega)];simp only[tab];by_cases c:j=a.Len.toNat-k
  ·rw[if_pos c,if_pos c]
  ·rw[if_neg c,if_neg c,t.e1]
 ·simp only;rw[qBU _ (by omega)];simp only[tab];by_cases c:j=a.Len.toNat-k
  ·rw[if_pos c,if_pos c]
  ·rw[if_neg c,if_neg c,t.e2]
 ·simp only[tab];by_cases c:j=a.Len.toNat-k
  ·rw[if_pos c,c];exact⟨bb,sb⟩
  ·rw[if_neg c];exact t.b1 j (by omega) h2
def bst (a:Line) (p:Nat):Ch:=(tab a (a.Len.toNat+1) p).1
def stt (a:Line) (p:Nat):Ch:=(tab a (a.Len.toNat+1) p).2
theorem qJ6 (a:Line) (j:Nat):∀(d k:Nat),a.Len.toNat<j+k->k+d<=a.Len.toNat+1->tab a (k+d) j=tab a k j
 |0,k,_,_=>rfl
 |d+1,k,h1,h2=>by
  rw[show k+(d+1)=(k+d)+1 from rfl];simp only[tab];rw[if_neg (by omega),qJ6 a j d k h1 (by omega)]
theorem qDJ (a:Line) {j k:Nat} (h1:a.Len.toNat<j+k) (h2:k<=a.Len.toNat+1):tab a (a.Len.toNat+1) j=tab a k j:=by
 have:=qJ6 a j (a.Len.toNat+1-k) k h1 (by omega)
 rwa [show k+(a.Len.toNat+1-k)=a.Len.toNat+1 by omega] at this
theorem qNV {a:Line} (h:VL a) {p i:Nat} (hi:i<a.Sizes.length) (hq:¬((p:Int)+szAt a i>a.Len)) (hn:¬(endN a p i:Int)=a.Len):p<nxtN a (endN a p i)/\(nxtN a (endN a p i):Int)<=a.Len/\endN a p i<=nxtN a (endN a p i):=by
 have s:=h.sz i hi;have kf:=h.kerf;have e:(endN a p i:Int)=p+szAt a i:=by unfold endN;unfold szAt at*;omega
 have m:=imin_or ((endN a p i:Int)+a.Kerf) a.Len;have en:(nxtN a (endN a p i):Int)=imin ((endN a p i:Int)+a.Kerf) a.Len:=by unfold nxtN;omega
 unfold szAt at*;omega
theorem qP7 {a:Line} (h:VL a) {p i:Nat} (hi:i<a.Sizes.length) (hq:¬((p:Int)+szAt a i>a.Len)) {f g:Nat->Ch} (e:∀x,p<x->(x:Int)<=a.Len->f x=g x):candV a f p i=candV a g p i:=by
 unfold candV;by_cases c:(endN a p i:Int)=a.Len
 ·rw[if_pos c,if_pos c]
 ·have:=qNV h hi hq c;rw[if_neg c,if_neg c,e _ this.1 this.2.1]
theorem qPW {a:Line} (h:VL a) {p:Nat} {f g:Nat->Ch} (e:∀x,p<x->(x:Int)<=a.Len->f x=g x):startS a f p=startS a g p:=by
 unfold startS;refine HD (λi _ hi c=>?_);unfold QB;by_cases c1:(p:Int)+szAt a i>a.Len\/gnAt a i p<0
 ·rw[if_pos c1,if_pos c1]
 ·rw[if_neg c1,if_neg c1,qP7 h (by omega) (by omega) e]
theorem qQr {a:Line} (h:VL a) {p:Nat} (hp:(p:Int)<=a.Len) {f g:Nat->Ch} (e:∀x,p<=x->(x:Int)<=a.Len->f x=g x):bestS a f p=bestS a g p:=by
 unfold bestS CK;rw[e p (Nat.le_refl _) hp];refine HD (λk _ hk c=>?_);have hx:=(places_lt h).1 (show k<ZZ a p by omega);have lo:=SI h p k;unfold TF;rw[e _ (by omega) hx]
theorem qKS {a:Line} (h:VL a) {p:Nat} (hp:(p:Int)<=a.Len):stt a p=startS a (bst a) p:=by
 have ln:=h.len;unfold stt;rw[qDJ a (j:=p) (k:=(a.Len.toNat-p)+1) (by omega) (by omega)];simp only[tab];rw[if_pos (by omega),show a.Len.toNat-(a.Len.toNat-p)=p by omega];refine qPW h (λx h1 h2=>?_);unfold bst;rw[qDJ a (j:=x) (k:=a.Len.toNat-p) (by omega) (by omega)]
theorem bst_eq {a:Line} (h:VL a) {p:Nat} (hp:(p:Int)<=a.Len):bst a p=bestS a (stt a) p:=by
 have ln:=h.len;unfold bst;rw[qDJ a (j:=p) (k:=(a.Len.toNat-p)+1) (by omega) (by omega)];simp only[tab];rw[if_pos (by omega),show a.Len.toNat-(a.Len.toNat-p)=p by omega];refine qQr h hp (λx h1 h2=>?_);by_cases c:x=p
 ·subst c;rw[if_pos rfl];unfold stt;rw[qDJ a (j:=x) (k:=(a.Len.toNat-x)+1) (by omega) (by omega)];simp only[tab];rw[if_pos (by omega),show a.Len.toNat-(a.Len.toNat-x)=x by omega]
 ·rw[if_neg c];unfold stt;rw[qDJ a (j:=x) (k:=a.Len.toNat-p) (by omega) (by omega)]
def LeC (c d:Ch):Prop:=isNo c=true\/(isNo d=false/\c.value<=d.value)
theorem LeC.rfl' (c:Ch):LeC c c:=by
 unfold LeC;cases isNo c with
 |true=>exact .inl rfl
 |false=>exact .inr ⟨rfl,Int.le_refl _⟩
theorem LeC.trans {c d e:Ch} (h:LeC c d) (k:LeC d e):LeC c e:=by
 unfold LeC at*;rcases h with h|⟨h1,h2⟩
 ·exact .inl h
 ·rcases k with k|⟨k1,k2⟩
  ·rw[k] at h1;cases h1
  ·exact .inr ⟨k1,by omega⟩
theorem qLo (i p:Nat) (v:Int):isNo ⟨⟨(i:Int),(p:Int)⟩,v⟩=false:=by
 unfold isNo;rw[show(((i:Int))==(-1:Int))=false by rw[beq_eq_false_iff_ne];omega];rfl
theorem qPa {a:Line} {best:Nat->Ch} {p i:Nat} (c:Ch):LeC c (QB a best p i c):=by
 unfold QB;split
 ·exact LeC.rfl' c
 ·cases h1:isNo c with
  |true=>exact .inl h1
  |false=>
   by_cases c2:candV a best p i>c.value
   ·rw[decide_eq_true c2];exact .inr ⟨qLo _ _ _,by simp only[Bool.false_or,cond_true];omega⟩
   ·rw[decide_eq_false c2];exact .inr ⟨h1,Int.le_refl _⟩
theorem qTf {a:Line} {best:Nat->Ch} {p i:Nat} (hi:i<a.Sizes.length) (hq:¬((p:Int)+szAt a i>a.Len)) (hg:¬gnAt a i p<0):isNo (startS a best p)=false/\candV a best p i<=(startS a best p).value:=by
 have key:∀k,i<k->isNo (foldN (QB a best p) 0 k (noCh 0))=false/\candV a best p i<=(foldN (QB a best p) 0 k (noCh 0)).value:=by
  intro k
  induction k with
  |zero=>intro h;omega
  |succ k ih=>
   intro h;rw[JZ,Nat.zero_add];by_cases c:i=k
   ·subst c;generalize foldN (QB a best p) 0 i (noCh 0)=d;unfold QB;rw[if_neg (by omega)];cases h1:isNo d with
    |true=>exact⟨qLo _ _ _,Int.le_refl _⟩
    |false=>
     by_cases c2:candV a best p i>d.value
     ·rw[decide_eq_true c2];exact⟨qLo _ _ _,Int.le_refl _⟩
     ·rw[decide_eq_false c2];exact⟨h1,by simp only[Bool.false_or,cond_false];omega⟩
   ·have k1:=ih (by omega);have:=qPa (a:=a) (best:=best) (p:=p) (i:=k) (foldN (QB a best p) 0 k (noCh 0));unfold LeC at this;rcases this with t|⟨t1,t2⟩
    ·rw[t] at k1;exact absurd k1.1 (by decide)
    ·exact⟨t1,by omega⟩
 exact key _ hi
def IsSt (a:Line) (best:Nat->Ch) (p:Nat) (c:Ch):Prop:=c=noCh 0\/∃i:Nat,i<a.Sizes.length/\¬((p:Int)+szAt a i>a.Len)/\¬gnAt a i p<0/\c=⟨⟨(i:Int),(p:Int)⟩,candV a best p i⟩
theorem startS_is (a:Line) (best:Nat->Ch) (p:Nat):IsSt a best p (startS a best p):=by
 unfold startS;refine NW (P:=IsSt a best p) (.inl rfl) (λi c _ hi hc=>?_);unfold QB;by_cases c1:(p:Int)+szAt a i>a.Len\/gnAt a i p<0
 ·rw[if_pos c1];exact hc
 ·rw[if_neg c1];cases isNo c||decide (candV a best p i>c.value) with
  |false=>exact hc
  |true=>exact .inr ⟨i,by omega,by omega,by omega,rfl⟩
def restV (a:Line) (p x:Nat):Int:=pre a.Chip (x-a.Kerf.toNat)-pre a.Chip p+pre a.Dust x-pre a.Dust (x-a.Kerf.toNat)
theorem qGu (a:Line) (st:Nat->Ch) (p x:Nat) (c:Ch):TF a st p x c=bif !isNo (st x)&&decide ((st x).value+restV a p x>c.value) then⟨(st x).piece,(st x).value+restV a p x⟩ else c:=rfl
theorem qHZ (a:Line) (st:Nat->Ch) (p x:Nat) (c:Ch):c.value<=(TF a st p x c).value/\(isNo (st x)=false->(st x).value+restV a p x<=(TF a st p x c).value):=by
 rw[qGu];cases isNo (st x) with
 |true=>exact⟨Int.le_refl _,λh=>by cases h⟩
 |false=>
  by_cases c1:(st x).value+restV a p x>c.value
  ·rw[decide_eq_true c1];simp only[Bool.not_false,Bool.and_self,cond_true];exact⟨by omega,λ_=>Int.le_refl _⟩
  ·rw[decide_eq_false c1];simp only[Bool.and_false,cond_false];exact⟨Int.le_refl _,λ_=>by omega⟩
theorem qI2 {f:Nat->Ch->Ch} (h:∀i c,c.value<=(f i c).value):∀(k x:Nat) (s:Ch),s.value<=(foldN f x k s).value
 |0,_,s=>Int.le_refl _
 |k+1,x,s=>by unfold foldN;exact Int.le_trans (h x s) (qI2 h k (x+1) _)
theorem qHQ {f:Nat->Ch->Ch} (h:∀i c,c.value<=(f i c).value) {i:Nat} {v:Int} (hv:∀c,v<=(f i c).value):∀(k x:Nat) (s:Ch),x<=i->i<x+k->v<=(foldN f x k s).value
 |0,x,s,h1,h2=>by omega
 |k+1,x,s,h1,h2=>by
  unfold foldN;by_cases c:i=x
  ·subst c;exact Int.le_trans (hv s) (qI2 h k _ _)
  ·exact qHQ h hv k (x+1) _ (by omega) (by omega)
theorem qUt (a:Line) (st:Nat->Ch) (p:Nat):pre a.Chip a.Len.toNat-pre a.Chip p<=(CK a st p).value/\(isNo (st p)=false->(st p).value<=(CK a st p).value):=by
 unfold CK;cases isNo (st p) with
 |true=>exact⟨Int.le_refl _,λh=>by cases h⟩
 |false=>
  by_cases c1:(st p).value>pre a.Chip a.Len.toNat-pre a.Chip p
  ·rw[decide_eq_true c1];simp only[Bool.not_false,Bool.and_self,cond_true];exact⟨by omega,λ_=>Int.le_refl _⟩
  ·rw[decide_eq_false c1];simp only[Bool.and_false,cond_false];exact⟨Int.le_refl _,λ_=>by unfold noCh;simp only;omega⟩
theorem qIw (a:Line) (st:Nat->Ch) (p:Nat):pre a.Chip a.Len.toNat-pre a.Chip p<=(bestS a st p).value/\(isNo (st p)=false->(st p).value<=(bestS a st p).value)/\∀k,k<ZZ a p->isNo (st (placeN a p k))=false->(st (placeN a p k)).value+restV a p (placeN a p k)<=(bestS a st p).value:=by
 have b:=qUt a st p;have m:∀k c,c.value<=(TF a st p (placeN a p k) c).value:=λk c=>(qHZ a st p _ c).1;have g:=qI2 m (ZZ a p) 0 (CK a st p);refine⟨Int.le_trans b.1 g,λh=>Int.le_trans (b.2 h) g,λk hk hn=>?_⟩;exact qHQ m (λc=>(qHZ a st p (placeN a p k) c).2 hn) (ZZ a p) 0 _ (Nat.zero_le _) (by omega)
def IsBs (a:Line) (st:Nat->Ch) (p:Nat) (c:Ch):Prop:=
 c=noCh (pre a.Chip a.Len.toNat-pre a.Chip p)\/(isNo (st p)=false/\c=st p)\/∃k,k<ZZ a p/\isNo (st (placeN a p k))=false/\c=⟨(st (placeN a p k)).piece,(st (placeN a p k)).value+restV a p (placeN a p k)⟩
theorem bestS_is (a:Line) (st:Nat->Ch) (p:Nat):IsBs a st p (bestS a st p):=by
 unfold bestS;refine NW (P:=IsBs a st p) ?_ (λk c _ hk hc=>?_)
 ·unfold CK;cases h1:isNo (st p) with
  |true=>exact .inl rfl
  |false=>
   cases decide ((st p).value>pre a.Chip a.Len.toNat-pre a.Chip p) with
   |true=>exact .inr (.inl ⟨h1,rfl⟩)
   |false=>exact .inl rfl
 ·rw[qGu];cases h1:isNo (st (placeN a p k)) with
  |true=>exact hc
  |false=>
   cases decide ((st (placeN a p k)).value+restV a p (placeN a p k)>c.value) with
   |false=>exact hc
   |true=>exact .inr (.inr ⟨k,by omega,h1,rfl⟩)
theorem qAP {a:Line} (h:VL a):∀(d k n:Nat) (s:List Ch×List Ch),k+d=a.Len.toNat+1->d<n->TI a k s->
  ∃s',wL a (sums a.Chip) (sums a.Dust) n s.1 s.2 (a.Len-k)=some s'.1/\TI a (a.Len.toNat+1) s'
 |0,k,n,s,hk,hn,t=>by
  have ln:=h.len;obtain⟨n,rfl⟩:∃m,n=m+1:=⟨n-1,by omega⟩
  have e:k=a.Len.toNat+1:=by omega
  subst e;refine⟨s,?_,t⟩;rw[wL,decide_eq_false (by omega)];rfl
 |d+1,k,n,s,hk,hn,t=>by
  have ln:=h.len;have kf:=h.kerf;have pt:=h.pitch;have cl:=h.cl;have dl:=h.dl;obtain⟨n,rfl⟩:∃m,n=m+1:=⟨n-1,by omega⟩
  have hkl:(k:Int)<=a.Len:=by omega
  have ep:a.Len-(k:Int)=((a.Len.toNat-k:Nat):Int):=by omega
  have l1:=t.l1;have l2:=t.l2;have t':=qRU h hkl t;obtain⟨s',e',r'⟩:=qAP h d (k+1) n (qDq a k s) (by omega) (by omega) t';refine⟨s',?_,r'⟩;rw[<-e'];have f1:(λy=>s.1.getD y default)=λy=>(tab a k y).1:=funext t.e1;have hb1:∀x:Nat,a.Len.toNat-k<x->(x:Int)<=a.Len->BV a x (s.1.getD x default).value:=λx h1 h2=>by rw[t.e1];exact(t.b1 x (by omega) h2).1
  have es:=qUq h (p:=a.Len.toNat-k) (by omega) l1 hb1;generalize hv:startS a (λx=>s.1.getD x default) (a.Len.toNat-k)=v at*;have hb2:∀x:Nat,a.Len.toNat-k<x->(x:Int)<=a.Len->BV a x ((s.2.set (a.Len.toNat-k) v).getD x default).value:=λx h1 h2=>by
   rw[HO _ (by omega),t.e2];exact(t.b1 x (by omega) h2).2
  have e4:=qNb h (p:=a.Len.toNat-k) (by omega) l2 v hb2;have chp:=qMq h (p:=a.Len.toNat-k) (by omega);unfold BV at chp;rw[wL,ep];rw[es];simp only[Option.bind_some,Int.toNat_natCast,qET,RO,TC]
  rw[decide_eq_true (by omega),qL (show(0:Int)<=((a.Len.toNat-k:Nat):Int) by omega) (show((a.Len.toNat-k:Nat):Int)<((s.2.length:Nat):Int) by omega),qL (show(0:Int)<=a.Len by omega) (show a.Len<(((sums a.Chip).length:Nat):Int) by rw[CL];omega),qL (show(0:Int)<=((a.Len.toNat-k:Nat):Int) by omega) (show((a.Len.toNat-k:Nat):Int)<(((sums a.Chip).length:Nat):Int) by rw[CL];omega),qL (show(0:Int)<=((a.Len.toNat-k:Nat):Int) by omega) (show((a.Len.toNat-k:Nat):Int)<((s.1.length:Nat):Int) by omega)];have ew:w64 (w64 (((a.Len.toNat-k:Nat):Int)+a.Pitch)+a.Kerf)=((placeN a (a.Len.toNat-k) 0:Nat):Int):=by
   rw[qF (n:=((a.Len.toNat-k:Nat):Int)+a.Pitch) (by omega) (by omega),qF (by omega) (by omega)];unfold placeN;rw[show(0+1)*a.Pitch.toNat=a.Pitch.toNat by simp];omega
  have em:w64 (((a.Len.toNat-k:Nat):Int)-1)=a.Len-((k+1:Nat):Int):=by rw[qF (by omega) (by omega)];omega
  simp only[cond_true,ew,em,e4,Option.bind_some,SW (c:=a.Chip) (show a.Len.toNat<=a.Chip.length by omega),SW (c:=a.Chip) (show a.Len.toNat-k<=a.Chip.length by omega),qF (n:=pre a.Chip a.Len.toNat-pre a.Chip (a.Len.toNat-k)) (by omega) (by omega)];have gs:qDq a k s=(s.1.set (a.Len.toNat-k) (bestS a (λx=>(s.2.set (a.Len.toNat-k) v).getD x default) (a.Len.toNat-k)),s.2.set (a.Len.toNat-k) v):=by
   unfold qDq;rw[hv]
  rw[gs];unfold bestS CK;simp only[noCh];cases isNo ((s.2.set (a.Len.toNat-k) v).getD (a.Len.toNat-k) default)<;>cases decide (((s.2.set (a.Len.toNat-k) v).getD (a.Len.toNat-k) default).value>pre a.Chip a.Len.toNat-pre a.Chip (a.Len.toNat-k))<;>rfl
theorem TI0 {a:Line} (h:VL a):TI a 0 (List.replicate (a.Len.toNat+1) ⟨⟨0,0⟩,0⟩,List.replicate (a.Len.toNat+1) ⟨⟨0,0⟩,0⟩):=by
 have ln:=h.len;refine⟨by simp;omega,by simp;omega,λj=>?_,λj=>?_,λj h1 h2=>by omega⟩<;>
 ·show(List.replicate (a.Len.toNat+1) (⟨⟨0,0⟩,0⟩:Ch)).getD j default=⟨⟨0,0⟩,0⟩;by_cases c:j<a.Len.toNat+1
  ·rw[List.getD_eq_getElem?_getD,List.getElem?_replicate,if_pos c];rfl
  ·rw[List.getD_eq_getElem?_getD,List.getElem?_replicate,if_neg c];rfl
theorem qRG {a:Line} (h:VL a):∃c:List Ch,PZ a=some c/\(c.length:Int)=a.Len+1/\∀j,c.getD j default=bst a j:=by
 have ln:=h.len;have cl:=h.cl;have dl:=h.dl;obtain⟨s,e,t⟩:=qAP h (a.Len.toNat+1) 0 FUEL _ (by omega) (by rw[FUEL_eq];omega) (TI0 h);refine⟨s.1,?_,t.l1,t.e1⟩;unfold PZ;rw[qRv (by omega) h.cb,qRv (by omega) h.db];simp only[Option.bind_some];rw[qF (n:=a.Len+1) (by omega) (by omega),show a.Len+1=((a.Len.toNat+1:Nat):Int) by omega,qKe (by omega) (by omega),Int.toNat_natCast];simp only[cond_true];rw[show a.Len-((0:Nat):Int)=a.Len by omega] at e;simp only at e;rw[e];rfl
def walk (a:Line):Nat->Nat->List Piece
 |0,_=>[]
 |n+1,p=>bif isNo (bst a p) then[] else(bst a p).piece::(if(endN a (bst a p).piece.At.toNat (bst a p).piece.Size.toNat:Int)=a.Len then[] else walk a n (nxtN a (endN a (bst a p).piece.At.toNat (bst a p).piece.Size.toNat)))
theorem qGx {a:Line} (h:VL a) {p:Nat} (hp:(p:Int)<=a.Len) (hn:isNo (bst a p)=false):
  ∃i q:Nat,(bst a p).piece=⟨(i:Int),(q:Int)⟩/\i<a.Sizes.length/\¬((q:Int)+szAt a i>a.Len)/\¬gnAt a i q<0/\(q=p\/∃k,k<ZZ a p/\q=placeN a p k):=by
 rw[bst_eq h hp] at hn⊢;have st:∀q:Nat,(q:Int)<=a.Len->isNo (stt a q)=false->∃i:Nat,(stt a q).piece=⟨(i:Int),(q:Int)⟩/\i<a.Sizes.length/\¬((q:Int)+szAt a i>a.Len)/\¬gnAt a i q<0:=λq hq hn=>by
  rw[qKS h hq] at hn⊢;rcases startS_is a (bst a) q with e|⟨i,h1,h2,h3,e⟩
  ·rw[e] at hn;cases hn
  ·exact⟨i,by rw[e],h1,h2,h3⟩
 rcases bestS_is a (stt a) p with e|⟨h1,e⟩|⟨k,hk,h1,e⟩
 ·rw[e] at hn;cases hn
 ·rw[e];obtain⟨i,a1,a2,a3,a4⟩:=st p hp h1;exact⟨i,p,a1,a2,a3,a4,.inl rfl⟩
 ·rw[e];obtain⟨i,a1,a2,a3,a4⟩:=st _ ((places_lt h).1 hk) h1;exact⟨i,_,a1,a2,a3,a4,.inr ⟨k,hk,rfl⟩⟩
theorem qGj {a:Line} (h:VL a) {p i q:Nat} (hi:i<a.Sizes.length) (hq:¬((q:Int)+szAt a i>a.Len)) (hpq:p<=q) (c:¬(endN a q i:Int)=a.Len):p<nxtN a (endN a q i)/\(nxtN a (endN a q i):Int)<=a.Len:=by
 have:=qNV h hi hq c;omega
theorem qJA {a:Line} (h:VL a) {c:List Ch} (hl:(c.length:Int)=a.Len+1) (hc:∀j,c.getD j default=bst a j):
  ∀(d n m p:Nat) (l:List Piece),a.Len.toNat-p<d->d<n->d<m->(p:Int)<=a.Len->l.length+d<=5000->YV a c n l (p:Int)=some (l++walk a m p)
 |0,n,m,p,l,hd,_,_,_,_=>by omega
 |d+1,n,m,p,l,hd,hn,hm,hp,hll=>by
  have ln:=h.len;obtain⟨n,rfl⟩:∃k,n=k+1:=⟨n-1,by omega⟩
  obtain⟨m,rfl⟩:∃k,m=k+1:=⟨m-1,by omega⟩
  rw[YV,decide_eq_true (by omega),qL (by omega) (by omega),walk];simp only[cond_true,Int.toNat_natCast,hc,qET];cases hn':isNo (bst a p) with
  |true=>simp
  |false=>
   obtain⟨i,q,e,hi,hq,hg,hw⟩:=qGx h hp hn';have sz:=h.sz i hi;have hpq:p<=q:=by
    rcases hw with rfl|⟨k,hk,rfl⟩
    ·exact Nat.le_refl _
    ·have:=SI h p k;omega
   clear hw;have en:(endN a q i:Int)=q+szAt a i:=by unfold endN szAt;omega
   simp only[cond_false,e,Int.toNat_natCast];rw[qW (by omega) (by omega),qL (by omega) (by omega),qF (n:=(q:Int)+a.Sizes.getD i default) (by unfold szAt at*;omega) (by unfold szAt at*;omega)];simp only[cond_true,KE];rw[show(q:Int)+a.Sizes.getD i default=(endN a q i:Int) by rw[en];rfl];by_cases c1:(endN a q i:Int)=a.Len
   ·rw[if_pos c1,show((endN a q i:Int)==a.Len)=true by rw[beq_iff_eq];exact c1];simp only[cond_true,Option.bind_some];obtain⟨n,rfl⟩:∃k,n=k+1:=⟨n-1,by omega⟩
    rw[YV];rfl
   ·rw[if_neg c1,show((endN a q i:Int)==a.Len)=false by rw[beq_eq_false_iff_ne];exact c1];have kf:=h.kerf;have ws:=qGj h hi hq hpq c1;have mm:=imin_or ((endN a q i:Int)+a.Kerf) a.Len;have en2:imin ((endN a q i:Int)+a.Kerf) a.Len=(nxtN a (endN a q i):Int):=by unfold nxtN;omega
    simp only[cond_false,Option.bind_some,qF (n:=(endN a q i:Int)+a.Kerf) (by unfold szAt at*;omega) (by unfold szAt at*;omega),en2];rw[qJA h hl hc d n m (nxtN a (endN a q i)) _ (by omega) (by omega) (by omega) ws.2 (by simp;omega)];simp
def wF (a:Line):List Piece:=walk a 3000 0
theorem AX {a:Line} (h:VL a):ZM a=some (wF a,(bst a 0).value,0):=by
 have ln:=h.len;unfold ZM;obtain⟨c,e1,e2,e3⟩:=qRG h;rw[qQa h,e1];simp only[Option.bind_some,bne_self_eq_false,cond_false];have:=qJA h e2 e3 2500 FUEL 3000 0 [] (by omega) (by rw[FUEL_eq];omega) (by omega) (by omega) (by simp);rw[show((0:Nat):Int)=0 from rfl] at this;rw[this,qL (by omega) (by omega)];simp only[Option.bind_some,cond_true,show(0:Int).toNat=0 from rfl,e3];rfl
abbrev Pt :=Span×List Node
def ndC (l:List Pt):Nat:=(l.map (λx=>3+x.2.length)).sum
def rowB (axis kerf B:Int):Int->List Pt->List Node×Bool
 |_,[]=>([],false)
 |e,x::r=>
  let p:List Node:=if x.1.A>e then[⟨axis,x.1.A-kerf⟩,⟨0,0⟩] else[]
  if x.1.B<B then(p++⟨axis,x.1.B⟩::x.2++(rowB axis kerf B (imin (x.1.B+kerf) B) r).1,(rowB axis kerf B (imin (x.1.B+kerf) B) r).2) else(p++x.2,true)
theorem PU (axis kerf B e:Int) (x:Pt) (r:List Pt):rowB axis kerf B e (x::r)=if x.1.B<B then((if x.1.A>e then[⟨axis,x.1.A-kerf⟩,⟨0,0⟩] else[])++⟨axis,x.1.B⟩::x.2++(rowB axis kerf B (imin (x.1.B+kerf) B) r).1,(rowB axis kerf B (imin (x.1.B+kerf) B) r).2) else((if x.1.A>e then[⟨axis,x.1.A-kerf⟩,⟨0,0⟩] else[])++x.2,true):=rfl
def goodL (kerf B:Int):Int->List Pt->Prop
 |_,[]=>True
 |e,x::r=>x.1.A<x.1.B/\(x.1.A=e\/e+kerf+1<=x.1.A)/\x.1.B<=B/\(if x.1.B<B then goodL kerf B (imin (x.1.B+kerf) B) r else r=[])
theorem EZ {l nodes T:List Node} {c:Int} (hc:c=T.length) (hn:T.length<=127->nodes=T) (hb:T.length+l.length<=1000000000):
  ∃nodes',yE l c nodes=some (((T++l).length:Int),nodes')/\((T++l).length<=127->nodes'=T++l):=by
 unfold yE;subst hc;rw[qF (n:=(T.length:Int)+((l.length:Nat):Int)) (by omega) (by omega),List.length_append];by_cases c:T.length+l.length<=127
 ·have e:=hn (by omega);subst e;rw[decide_eq_true (by omega),qW (by omega) (by omega)];exact⟨nodes++l,by simp,λ_=>rfl⟩
 ·rw[decide_eq_false (by omega)];exact⟨nodes,by simp,λh=>absurd h c⟩
theorem XR {axis kerf:Int} (hk:0<=kerf/\kerf<=20) {s:Span} (hs: -600<=s.A/\s.B<=600) {L:List Pt} (hL:L.length<=1000000):
  ∀(rest:List Pt) (i n:Nat) (e:Int) (nodes T:List Node),L.drop i=rest->i<=L.length->rest.length<n->-600<=e->e<=600->goodL kerf s.B e rest->(T.length<=127->nodes=T)->T.length+ndC rest<=1000000000->
  ∃nodes',zM axis kerf (L.map Prod.fst) (L.map Prod.snd) s n e false (i:Int) nodes (T.length:Int)=some (.inr ((rowB axis kerf s.B e rest).2,nodes',((T++(rowB axis kerf s.B e rest).1).length:Int)))/\((T++(rowB axis kerf s.B e rest).1).length<=127->nodes'=T++(rowB axis kerf s.B e rest).1)
 |[],i,n,e,nodes,T,hd,hi,hn,he1,he2,hg,hT,hb=>by
  obtain⟨n,rfl⟩:∃m,n=m+1:=⟨n-1,by omega⟩
  have hi':i=L.length:=by have:=List.drop_eq_nil_iff.1 hd;omega
  refine⟨nodes,?_,λh=>?_⟩
  ·rw[zM,List.length_map,decide_eq_false (by omega)];simp[rowB]
  ·simp[rowB] at h⊢;exact hT h
 |x::r,i,n,e,nodes,T,hd,hi,hn,he1,he2,hg,hT,hb=>by
  obtain⟨n,rfl⟩:∃m,n=m+1:=⟨n-1,by omega⟩
  have hi':i<L.length:=by
   by_cases c:i<L.length
   ·exact c
   ·rw[List.drop_eq_nil_of_le (by omega)] at hd;cases hd
  have hx:L.getD i default=x:=by rw[XQ L i hi'] at hd;exact(List.cons.inj hd).1
  have hr:L.drop (i+1)=r:=by rw[XQ L i hi'] at hd;exact(List.cons.inj hd).2
  have hxa:(L.map Prod.fst).getD i default=x.1:=by rw[getD_map'' Prod.fst hi',hx]
  have hxb:(L.map Prod.snd).getD i default=x.2:=by rw[getD_map'' Prod.snd hi',hx]
  obtain⟨g1,g2,g3,g4⟩:=hg;have hc:ndC (x::r)=3+x.2.length+ndC r:=by simp[ndC]
  rw[hc] at hb;rw[zM,List.length_map,decide_eq_true (by omega),qL (by omega) (by omega)];simp only[cond_true,cond_false,Int.toNat_natCast,hxa,WX];rw[decide_eq_false (show¬x.1.A≥x.1.B by omega),qF (n:=e+kerf) (by omega) (by omega),qF (n:=e+kerf+1) (by omega) (by omega),decide_eq_false (show¬x.1.B>s.B by omega)];simp only[cond_false];have gA:∀{β:Type} (u v:β),(bif x.1.A !=e then(bif decide (x.1.A<e+kerf+1) then u else v) else(bif false then u else v))=v:=λu v=>by
   by_cases c:x.1.A=e
   ·rw[show(x.1.A !=e)=false by rw[bne_eq_false_iff_eq];exact c];rfl
   ·rw[show(x.1.A !=e)=true by rw[bne_iff_ne];exact c,decide_eq_false (show¬x.1.A<e+kerf+1 by omega)];rfl
  simp only[cond_false] at gA;rw[gA]
  -- behind the first nodes
  have key:∀(T2 nodes2:List Node),(T2.length<=127->nodes2=T2)->T2.length+1+x.2.length+ndC r<=1000000000->∃nodes',WY axis kerf (L.map Prod.fst) (L.map Prod.snd) s e false (i:Int) (zM axis kerf (L.map Prod.fst) (L.map Prod.snd) s n) nodes2 (T2.length:Int)
    =some (.inr ((if x.1.B<s.B then(rowB axis kerf s.B (imin (x.1.B+kerf) s.B) r).2 else true),nodes',((T2++(if x.1.B<s.B then(⟨axis,x.1.B⟩::x.2++(rowB axis kerf s.B (imin (x.1.B+kerf) s.B) r).1) else x.2)).length:Int)))/\((T2++(if x.1.B<s.B then(⟨axis,x.1.B⟩::x.2++(rowB axis kerf s.B (imin (x.1.B+kerf) s.B) r).1) else x.2)).length<=127->nodes'=T2++(if x.1.B<s.B then(⟨axis,x.1.B⟩::x.2++(rowB axis kerf s.B (imin (x.1.B+kerf) s.B) r).1) else x.2)):=by
   intro T2 nodes2 h2 hb2;unfold WY VB;simp only[Int.toNat_natCast,hxa,hxb,List.length_map,qP (show i<4611686018427387904 by omega)];rw[qL (show(0:Int)<=(i:Int) by omega) (show(i:Int)<((L.length:Nat):Int) by omega)];simp only[cond_true];by_cases c:x.1.B<s.B
   ·rw[decide_eq_true c,if_pos c,if_pos c];rw[if_pos c] at g4;simp only[cond_true];obtain⟨m1,q1,q2⟩:=EZ (l:=[(⟨axis,x.1.B⟩:Node)]) (nodes:=nodes2) (T:=T2) rfl h2 (by simp;omega);rw[q1];simp only[Option.bind_some];obtain⟨m2,r1,r2⟩:=EZ (l:=x.2) (nodes:=m1) (T:=T2++[(⟨axis,x.1.B⟩:Node)]) rfl q2 (by simp;omega);rw[r1];simp only[Option.bind_some];have mi:=imin_or (x.1.B+kerf) s.B;rw[qF (n:=x.1.B+kerf) (by omega) (by omega)]
    obtain⟨m3,s1,s2⟩:=XR hk hs hL r (i+1) n (imin (x.1.B+kerf) s.B) m2 (T2++[(⟨axis,x.1.B⟩:Node)]++x.2) hr (by omega) (by simp at hn;omega) (by omega) (by omega) g4 r2 (by simp;omega);refine⟨m3,?_,?_⟩
    ·rw[s1];simp
    ·intro hh;have:T2++(⟨axis,x.1.B⟩::x.2++(rowB axis kerf s.B (imin (x.1.B+kerf) s.B) r).1)=T2++[(⟨axis,x.1.B⟩:Node)]++x.2++(rowB axis kerf s.B (imin (x.1.B+kerf) s.B) r).1:=by simp
     rw[this] at hh⊢;exact s2 hh
   ·rw[decide_eq_false c,if_neg c,if_neg c];rw[if_neg c] at g4;subst g4;simp only[cond_false];obtain⟨m2,r1,r2⟩:=EZ (l:=x.2) (nodes:=nodes2) (T:=T2) rfl h2 (by omega);rw[r1];simp only[Option.bind_some];obtain⟨n,rfl⟩:∃m,n=m+1:=⟨n-1,by simp at hn;omega⟩
    have hi2:i+1=L.length:=by have:=List.drop_eq_nil_iff.1 hr;omega
    refine⟨m2,?_,r2⟩;rw[zM,List.length_map,decide_eq_false (by omega)];rfl
  by_cases c:x.1.A>e
  ·rw[decide_eq_true c,qF (n:=x.1.A-kerf) (by omega) (by omega)];simp only[cond_true];obtain⟨m1,q1,q2⟩:=EZ (l:=[(⟨axis,x.1.A-kerf⟩:Node),⟨0,0⟩]) (nodes:=nodes) (T:=T) rfl hT (by simp;omega);rw[q1];simp only[Option.bind_some];obtain⟨m2,k1,k2⟩:=key (T++[(⟨axis,x.1.A-kerf⟩:Node),⟨0,0⟩]) m1 q2 (by simp;omega);refine⟨m2,?_,?_⟩
   ·rw[k1];rw[PU];simp only[if_pos c];split<;>simp
   ·intro hh;rw[PU] at hh⊢;simp only[if_pos c] at hh⊢;by_cases c2:x.1.B<s.B
    ·rw[if_pos c2] at k2;simp only[if_pos c2] at hh⊢;rw[k2 (by simpa using hh)];simp
    ·rw[if_neg c2] at k2;simp only[if_neg c2] at hh⊢;rw[k2 (by simpa using hh)];simp
  ·rw[decide_eq_false c];simp only[cond_false];obtain⟨m2,k1,k2⟩:=key T nodes hT (by omega);refine⟨m2,?_,?_⟩
   ·rw[k1];rw[PU];simp only[if_neg c];split<;>simp
   ·intro hh;rw[PU] at hh⊢;simp only[if_neg c] at hh⊢;by_cases c2:x.1.B<s.B
    ·rw[if_pos c2] at k2;simp only[if_pos c2] at hh⊢;rw[k2 (by simpa using hh)];simp
    ·rw[if_neg c2] at k2;simp only[if_neg c2] at hh⊢;rw[k2 (by simpa using hh)];simp
where
 getD_map'' {α β:Type} [Inhabited α] [Inhabited β] (f:α->β) {l:List α} {i:Nat} (h:i<l.length):(l.map f).getD i default=f (l.getD i default):=by
  rw[List.getD_eq_getElem?_getD,List.getElem?_map,List.getD_eq_getElem?_getD,List.getElem?_eq_getElem h];rfl
def rowN (axis kerf:Int) (s:Span) (L:List Pt):List Node:=(rowB axis kerf s.B s.A L).1++(if(rowB axis kerf s.B s.A L).2 then[] else[⟨0,0⟩])
def rowR (l:List Node):List Node×Int:=if l.length<=127 then(l,0) else([],4)
theorem qN6 {r:Rect} (h:VR r):jW r=some true:=by
 unfold VR at h;unfold jW;rw[qAe 2 (zA r) (by omega) (λn i hi=>?_) (λn=>?_)]
 ·rfl
 ·rw[zA,decide_eq_true (by omega),qL (by omega) (by omega)];simp only[cond_true,Int.toNat_natCast,wK,qP (show i<4611686018427387904 by omega)]
  match i,hi with
  |0,_=>rw[decide_eq_false (show¬([r.X.A,r.X.B,r.Y.A,r.Y.B]:List Int).getD (0*2+0) 0< -600 from λq=>by have:r.X.A< -600:=q;omega),decide_eq_false (show¬([r.X.A,r.X.B,r.Y.A,r.Y.B]:List Int).getD (0*2+1) 0>600 from λq=>by have:r.X.B>600:=q;omega),decide_eq_false (show¬([r.X.A,r.X.B,r.Y.A,r.Y.B]:List Int).getD (0*2+0) 0≥([r.X.A,r.X.B,r.Y.A,r.Y.B]:List Int).getD (0*2+1) 0 from λq=>by have:r.X.A≥r.X.B:=q;omega)];rfl
  |1,_=>rw[decide_eq_false (show¬([r.X.A,r.X.B,r.Y.A,r.Y.B]:List Int).getD (1*2+0) 0< -600 from λq=>by have:r.Y.A< -600:=q;omega),decide_eq_false (show¬([r.X.A,r.X.B,r.Y.A,r.Y.B]:List Int).getD (1*2+1) 0>600 from λq=>by have:r.Y.B>600:=q;omega),decide_eq_false (show¬([r.X.A,r.X.B,r.Y.A,r.Y.B]:List Int).getD (1*2+0) 0≥([r.X.A,r.X.B,r.Y.A,r.Y.B]:List Int).getD (1*2+1) 0 from λq=>by have:r.Y.A≥r.Y.B:=q;omega)];rfl
 ·rw[zA,decide_eq_false (by omega)];rfl
theorem qJd (axis kerf B:Int):∀(L:List Pt) (e:Int),(rowB axis kerf B e L).1.length<=ndC L
 |[],_=>by simp[rowB,ndC]
 |x::r,e=>by
  have ih:=qJd axis kerf B r (imin (x.1.B+kerf) B);have hc:ndC (x::r)=3+x.2.length+ndC r:=by simp[ndC]
  rw[hc];unfold rowB;simp only;split
  ·split<;>simp<;>omega
  ·split<;>simp<;>omega
def axS (r:Rect) (axis:Int):Span:=if axis=2 then r.X else r.Y
theorem qJs {r:Rect} (hr:VR r) {axis kerf:Int} (ha:axis=2\/axis=3) (hk:0<=kerf/\kerf<=20) {L:List Pt} (hL:L.length<=1000000) (hg:goodL kerf (axS r axis).B (axS r axis).A L) (hb:ndC L+1<=1000000000):
  QF r axis kerf (L.map Prod.fst) (L.map Prod.snd)=some (rowR (rowN axis kerf (axS r axis) L)):=by
 have hs: -600<=(axS r axis).A/\(axS r axis).B<=600/\(axS r axis).A<(axS r axis).B:=by
  unfold VR at hr;unfold axS;split<;>omega
 have e1:wD axis=some true:=by rcases ha with rfl|rfl<;>rfl
 have e2:QO r axis=some (axS r axis):=by rcases ha with rfl|rfl<;>rfl
 unfold QF TX VM;rw[e1,qN6 hr,e2];simp only[Option.bind_some,Bool.not_true,cond_false,List.length_map,bne_self_eq_false];rw[decide_eq_false (show¬kerf<0 by omega),decide_eq_false (show¬kerf>20 by omega)];simp only[cond_false];obtain⟨m,k1,k2⟩:=XR (axis:=axis) hk ⟨hs.1,hs.2.1⟩ hL L 0 FUEL (axS r axis).A [] [] (by simp) (by omega) (by rw[FUEL_eq];omega) hs.1 (by omega) hg (λ_=>rfl) (by simp;omega);rw[show((0:Nat):Int)=0 from rfl] at k1;rw[show(([]:List Node).length:Int)=0 from rfl] at k1;rw[k1];simp only[Option.bind_some,Sum.elim_inr,List.nil_append] at k2⊢;unfold rowN
 have bl:=qJd axis kerf (axS r axis).B L (axS r axis).A;generalize rowB axis kerf (axS r axis).B (axS r axis).A L=B at*;obtain⟨b1,b2⟩:=B;simp only at k2 bl⊢;have fin:∀(T nodes:List Node),(T.length<=127->nodes=T)->UO (T.length:Int) nodes=some (rowR T):=λT nodes h=>by
  unfold UO rowR;by_cases c:T.length<=127
  ·rw[decide_eq_false (by omega),if_pos c,h c];rfl
  ·rw[decide_eq_true (by omega),if_neg c];rfl
 cases b2 with
 |true=>
  simp only[Bool.not_true,cond_false,if_true,List.append_nil];exact fin _ _ k2
 |false=>
  simp only[Bool.not_false,cond_true,Bool.false_eq_true,if_false];obtain⟨m1,q1,q2⟩:=EZ (l:=[(⟨0,0⟩:Node)]) (nodes:=m) (T:=b1) rfl k2 (by simp;omega);rw[q1];exact fin _ _ q2
theorem qEo {a:Line} (h:VL a):∀(m p:Nat),(p:Int)<=a.Len->∀x∈walk a m p,∃i q:Nat,x=⟨(i:Int),(q:Int)⟩/\i<a.Sizes.length/\¬((q:Int)+szAt a i>a.Len)/\¬gnAt a i q<0
 |0,_,_,x,hx=>by cases hx
 |m+1,p,hp,x,hx=>by
  rw[walk] at hx;cases hn:isNo (bst a p) with
  |true=>rw[hn] at hx;cases hx
  |false=>
   obtain⟨i,q,e,hi,hq,hg,hw⟩:=qGx h hp hn;rw[hn,e] at hx;simp only[cond_false,Int.toNat_natCast,List.mem_cons] at hx;rcases hx with rfl|hx
   ·exact⟨i,q,rfl,hi,hq,hg⟩
   ·have hpq:p<=q:=by
     rcases hw with rfl|⟨k,hk,rfl⟩
     ·exact Nat.le_refl _
     ·have:=SI h p k;omega
    by_cases c:(endN a q i:Int)=a.Len
    ·rw[if_pos c] at hx;cases hx
    ·rw[if_neg c] at hx;exact qEo h m _ (qGj h hi hq hpq c).2 x hx
theorem qIv (a:Line):∀(m p:Nat),(walk a m p).length<=m
 |0,_=>by simp[walk]
 |m+1,p=>by
  rw[walk];cases isNo (bst a p) with
  |true=>simp
  |false=>
   simp only[cond_false,List.length_cons];split
   ·simp
   ·have:=qIv a m (nxtN a (endN a (bst a p).piece.At.toNat (bst a p).piece.Size.toNat));omega
theorem qRK {kerf B e:Int} {x:Pt} {r:List Pt} (h1:x.1.A<x.1.B) (h2:x.1.A=e\/e+kerf+1<=x.1.A) (h3:x.1.B<=B) (h4:(x.1.B<B/\goodL kerf B (imin (x.1.B+kerf) B) r)\/(x.1.B=B/\r=[])):goodL kerf B e (x::r):=by
 unfold goodL;refine⟨h1,h2,h3,?_⟩;rcases h4 with⟨a,b⟩|⟨a,b⟩
 ·rw[if_pos a];exact b
 ·rw[if_neg (by omega)];exact b
def ptOf (a:Line) (A:Int) (g:Piece->List Node) (x:Piece):Pt:=(⟨A+x.At,A+(x.At+a.Sizes.getD x.Size.toNat default)⟩,g x)
theorem qCR {a:Line} (h:VL a) (A:Int) (g:Piece->List Node):∀(m p:Nat),(p:Int)<=a.Len->goodL a.Kerf (A+a.Len) (A+p) ((walk a m p).map (ptOf a A g))
 |0,_,_=>trivial
 |m+1,p,hp=>by
  rw[walk];cases hn:isNo (bst a p) with
  |true=>exact trivial
  |false=>
   obtain⟨i,q,e,hi,hq,hg,hw⟩:=qGx h hp hn;have sz:=h.sz i hi;have pt:=h.pitch;have kf:=h.kerf;have hpq:q=p\/p+a.Kerf.toNat+1<=q:=by
    rcases hw with rfl|⟨k,hk,rfl⟩
    ·exact .inl rfl
    ·exact .inr (SI h p k)
   clear hw;have en:(endN a q i:Int)=q+szAt a i:=by unfold endN szAt;omega
   rw[e];simp only[cond_false,Int.toNat_natCast,List.map_cons];unfold szAt at en hq;refine qRK (show A+(q:Int)<A+((q:Int)+a.Sizes.getD ((i:Int)).toNat default) by rw[Int.toNat_natCast];omega) (show A+(q:Int)=A+p\/A+(p:Int)+a.Kerf+1<=A+q by omega) (show A+((q:Int)+a.Sizes.getD ((i:Int)).toNat default)<=A+a.Len by rw[Int.toNat_natCast];omega) ?_;show(A+((q:Int)+a.Sizes.getD ((i:Int)).toNat default)<A+a.Len/\goodL a.Kerf (A+a.Len) (imin (A+((q:Int)+a.Sizes.getD ((i:Int)).toNat default)+a.Kerf) (A+a.Len)) _)\/(A+((q:Int)+a.Sizes.getD ((i:Int)).toNat default)=A+a.Len/\_);rw[Int.toNat_natCast]
   by_cases c:(endN a q i:Int)=a.Len
   ·rw[if_pos c];exact .inr ⟨by omega,rfl⟩
   ·rw[if_neg c];have ws:=qGj h (p:=p) hi (by unfold szAt;omega) (by omega) c;have mm:=imin_or ((endN a q i:Int)+a.Kerf) a.Len;have en2:(nxtN a (endN a q i):Int)=imin ((endN a q i:Int)+a.Kerf) a.Len:=by unfold nxtN;omega
    have m2:=imin_or (A+((q:Int)+a.Sizes.getD i default)+a.Kerf) (A+a.Len);rw[show imin (A+((q:Int)+a.Sizes.getD i default)+a.Kerf) (A+a.Len)=A+(nxtN a (endN a q i):Int) by omega];exact .inl ⟨by omega,qCR h A g m _ ws.2⟩
theorem qGZ (a:Line) (A:Int) (g:Piece->List Node) (M:Nat):∀(l:List Piece),(∀x∈l,(g x).length<=M)->ndC (l.map (ptOf a A g))<=(3+M)*l.length
 |[],_=>by simp[ndC]
 |x::l,h=>by
  have:=qGZ a A g M l (λy hy=>h y (by simp[hy]));have hx:=h x (by simp);unfold ndC at*;simp only[List.map_cons,List.sum_cons,List.length_cons,ptOf] at*;rw[Nat.mul_succ];omega
def bdN (ps:List Product) (z:Int) (x:Piece):List Node:=[⟨1,(sizes ps z).2.getD x.Size.toNat default⟩]
def zL (ps:List Product) (r:Rect) (a:Line):List Pt:=(wF a).map (ptOf a r.X.A (bdN ps (r.Y.B-r.Y.A)))
def qEm (ps:List Product) (r:Rect) (a:Line):List Node×Int×Int:=if(rowN 2 a.Kerf r.X (zL ps r a)).length<=127 then(rowN 2 a.Kerf r.X (zL ps r a),(bst a 0).value,0) else([],0,4)
open Classical in
noncomputable def yR (l:List qB) (ds:List Defect) (ps:List Product) (r:Rect) (w:Saw) (t:Rates):List Node×Int×Int:=if chkE l ds ps r w t=0 then qEm ps r (lineS l ds ps r w t) else([],0,chkE l ds ps r w t)
theorem qRA {l:List Node} (h:l.length<=1000000):YE l=some l:=by
 unfold YE;rw[qW h (by omega)];rfl
theorem qKo {ps:List Product} (z:Int):(sizes ps z).2.length=(sizes ps z).1.length:=by
 unfold sizes;split
 ·rfl
 ·have:∀k,(foldN (sizStep ps z) 0 k ([],[])).2.length=(foldN (sizStep ps z) 0 k ([],[])).1.length:=by
   intro k
   induction k with
   |zero=>rfl
   |succ k ih=>
    rw[JZ];generalize foldN (sizStep ps z) 0 k ([],[])=s at*;unfold sizStep;cases (qN (ps.getD (0+k) default)).1==z<;>cases (qN (ps.getD (0+k) default)).2==z<;>simp[ih]
  exact this _
theorem qQp (l:List qB) (ds:List Defect) (ps:List Product) (r:Rect) (w:Saw) (t:Rates):qAb l ds ps r w t=some (yR l ds ps r w t):=by
 unfold qAb yR;rw[Line_eq];unfold lineR;by_cases c:chkE l ds ps r w t=0
 ·have h:=XU.1 c;have hr:=h.vr;have hr':=hr;unfold VR at hr';have vl:=KY h;rw[if_pos c,if_pos c];have sl:=qGc ps (r.Y.B-r.Y.A);have sl2:=qKo (ps:=ps) (r.Y.B-r.Y.A);have kf:=vl.kerf;have hsz:(lineS l ds ps r w t).Sizes=(sizes ps (r.Y.B-r.Y.A)).1:=rfl;have hlen:(lineS l ds ps r w t).Len=r.X.B-r.X.A:=rfl;simp only[Option.bind_some,bne_self_eq_false,cond_false]
  rw[show(Line.mk (lineS l ds ps r w t).Len (lineS l ds ps r w t).Kerf (lineS l ds ps r w t).Pitch (lineS l ds ps r w t).Sizes (lineS l ds ps r w t).Gain (lineS l ds ps r w t).Chip (lineS l ds ps r w t).Dust)=lineS l ds ps r w t from rfl,AX vl];simp only[Option.bind_some,bne_self_eq_false,cond_false];rw[qF (n:=r.Y.B-r.Y.A) (by omega) (by omega),(qIF ps _).1];simp only[Option.bind_some];generalize ha:lineS l ds ps r w t=a at*;have ek:w.Kerf=a.Kerf:=by rw[<-ha];rfl
  have bl:(wF a).length<=3000:=qIv a 3000 0;have bm:=qEo vl 3000 0 (by have:=vl.len;omega);have k:=zX (wF a).length (λn (s:List Span×List (List Node)) x=>UK r (wF a,(bst a 0).value,0) (sizes ps (r.Y.B-r.Y.A)) n s.1 s.2 x)
   (λj s=>(s.1++[(ptOf a r.X.A (bdN ps (r.Y.B-r.Y.A)) ((wF a).getD j default)).1],s.2++[(ptOf a r.X.A (bdN ps (r.Y.B-r.Y.A)) ((wF a).getD j default)).2])) (λs=>s)
   (λj s=>s.1=((wF a).take j).map (λx=>(ptOf a r.X.A (bdN ps (r.Y.B-r.Y.A)) x).1)/\s.2=((wF a).take j).map (λx=>(ptOf a r.X.A (bdN ps (r.Y.B-r.Y.A)) x).2)) 0 (by omega) (by omega)
   (λn j s hj hs=>by
    obtain⟨s1,s2⟩:=s;obtain⟨e1,e2⟩:=hs;simp only at e1 e2;have tk:(wF a).take (j+1)=(wF a).take j++[(wF a).getD j default]:=by rw[List.take_add_one,List.getD_eq_getElem?_getD,List.getElem?_eq_getElem hj];rfl
    refine⟨?_,by simp only[e1,tk,List.map_append];rfl,by simp only[e2,tk,List.map_append];rfl⟩;obtain⟨i,q,ex,hi,hq,hg⟩:=bm _ (jS hj);have sz:=vl.sz i hi;rw[hsz] at sz hi;have hq':(q:Int)+(sizes ps (r.Y.B-r.Y.A)).1.getD i default<=r.X.B-r.X.A:=by
     unfold szAt at hq;rw[hsz,hlen] at hq;omega
    simp only;rw[UK];simp only[Int.toNat_natCast,show(wF a).getD j default=⟨(i:Int),(q:Int)⟩ from ex];rw[decide_eq_true (by omega),qL (by omega) (by omega),qL (by omega) (by omega),qL (by omega) (by omega),qF (n:=(q:Int)+_) (by omega) (by omega),qLG hr (by omega) (by omega),qW (by rw[e1];simp;omega) (by omega)];simp only[cond_true,Option.bind_some,BX,qP (show j<4611686018427387904 by omega)];rw[qRA (by simp)];simp only[Option.bind_some];rw[qW (by rw[e2];simp;omega) (by omega)];simp only[cond_true,Option.bind_some,ptOf,bdN,Int.toNat_natCast,LV,hsz])
   (λn s _=>by rw[UK];simp only;rw[decide_eq_false (by omega)];rfl) ([],[]) ⟨rfl,rfl⟩
  rw[show((0:Nat):Int)=0 from rfl,Nat.sub_zero] at k;rw[k.1];obtain⟨k2,k3⟩:=k.2;rw[List.take_length] at k2 k3;simp only[Option.bind_some];rw[k2,k3,show(wF a).map (λx=>(ptOf a r.X.A (bdN ps (r.Y.B-r.Y.A)) x).1)=(zL ps r a).map Prod.fst by unfold zL;rw[List.map_map];rfl,show(wF a).map (λx=>(ptOf a r.X.A (bdN ps (r.Y.B-r.Y.A)) x).2)=(zL ps r a).map Prod.snd by unfold zL;rw[List.map_map];rfl,ek];have gd:=qCR vl r.X.A (bdN ps (r.Y.B-r.Y.A)) 3000 0 (by have:=vl.len;omega);have nc:=qGZ a r.X.A (bdN ps (r.Y.B-r.Y.A)) 1 (wF a) (λx _=>by simp[bdN])
  rw[hlen,show r.X.A+(r.X.B-r.X.A)=r.X.B by omega,show r.X.A+((0:Nat):Int)=r.X.A by omega] at gd;replace gd:goodL a.Kerf (axS r 2).B (axS r 2).A (zL ps r a):=gd;rw[qJs hr (.inl rfl) kf (by unfold zL;simp;omega) gd (by unfold zL;omega)];unfold qEm rowR;rw[show axS r 2=r.X from rfl];simp only[Option.bind_some];split
  ·rfl
  ·rfl
 ·rw[if_neg c,if_neg c];simp only[Option.bind_some];rw[show(chkE l ds ps r w t !=0)=true by rw[bne_iff_ne];exact c];rfl
end Saw
end Go.SL

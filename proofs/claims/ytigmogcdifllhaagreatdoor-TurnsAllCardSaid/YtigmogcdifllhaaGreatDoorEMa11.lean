/- Edge's plain mathematics over the reference, part 1: the reference's best pieces of a line. -/
import Derived.Test.YtigmogcdifllhaaGreatDoorEMa9
import Derived.Test.YtigmogcdifllhaaGreatDoorEMa7
import Derived.Test.YtigmogcdifllhaaGreatDoorEMa10
set_option linter.unusedVariables false
set_option linter.unusedSimpArgs false
namespace Go.SL
namespace Saw
theorem qSj {a:Line} (h:VL a) {j:Nat} (hj:(j:Int)<=a.Len):BV a j (bst a j).value/\BV a j (stt a j).value:=by
 have ln:=h.len;obtain⟨s,e,t⟩:=qAF h (a.Len.toNat+1) 0 FUEL (List.replicate (a.Len.toNat+1) ⟨⟨0,0⟩,0⟩,List.replicate (a.Len.toNat+1) ⟨⟨0,0⟩,0⟩) (by omega) (by rw[FUEL_eq];omega) (TI0 h);exact t.b1 j (by omega) hj
theorem qNI {c:List Int} (hl:c.length<=2000) (h:∀j,j<c.length->okN (c.getD j daa)):EE c=some (sums c):=by
 unfold EE;have k:=zA c.length (λn (s:List Int) i=>PF c n s i) (λi s=>s++[pre c (i+1)]) (λs=>s) (λi s=>s=(List.range (i+1)).map (pre c)) 0 (by omega) (by omega)
  (λn i s hi hs=>by
   have q:=qBf h (k:=i+1) (by omega);rw[qCd] at q;refine⟨?_,by rw[hs,ul (n:=i+1),kU];rfl⟩;have sl:s.length=i+1:=by rw[hs];simp
   rw[PF,ka (by omega),qJ (by omega),qJ (by omega),wJ (by omega),qM (by omega)];simp only[kp,ko];rw[show s.getD i daa=pre c i by rw[hs];exact wI _ (by omega),qD (by omega),qCd])
  (λn s _=>by rw[PF,ke (by omega)];rfl) [0] rfl
 rw[show((0:Nat):Int)=0 from rfl,kO] at k;rw[k.1,k.2];rfl
theorem qJo {c:List Int} (hl:c.length<=1000000) (h:∀j,j<c.length->okN (c.getD j daa)):MW c=some true:=by
 unfold MW;rw[FK c.length (XQ c) (by omega) (λn i hi=>?_) (λn=>?_)]
 ·rfl
 ·have o:=h i hi;unfold okN at o;rw[XQ,ka (by omega),qJ (by omega)];simp only[kp,ko,OM,qM (show i<4611686018427387904 by omega)];rw[ke (show¬c.getD i daa< -1125899906842624 by omega),ke (show¬c.getD i daa>1125899906842624 by omega)];rfl
 ·rw[XQ,ke (by omega)];rfl
theorem qWB {a:Line} (h:VL a):qDb a=some 0:=by
 have h1:=h.len;have h2:=h.kerf;have h3:=h.pitch;have h4:=h.szl;have h5:=h.gl;have h6:=h.cl;have h7:=h.dl;unfold qDb JP BY ON;rw[ke (show¬a.Len<0 by omega),ke (show¬a.Len>2000 by omega),ke (show¬a.Kerf<0 by omega),ke (show¬a.Kerf>20 by omega),ke (show¬a.Pitch<1 by omega),ke (show¬a.Pitch>2000 by omega),ke (show¬(a.Sizes.length:Int)>32 by omega)];simp only[kr];rw[FK a.Sizes.length (KH a) (by omega) (λn i hi=>?_) (λn=>?_)]
 ·simp only[kg,Sum.elim_inr];rw[show((a.Gain.length:Int) !=(a.Sizes.length:Int))=false by rw[kV];omega,show((a.Chip.length:Int) !=a.Len)=false by rw[kV];omega,show((a.Dust.length:Int) !=a.Len)=false by rw[kV];omega];simp only[kr];rw[FK a.Gain.length (TX a) (by omega) (λn i hi=>?_) (λn=>?_),qJo (by omega) h.cb,qJo (by omega) h.db]
  ·simp only[kg,Sum.elim_inr,kp];have k:=zA a.Gain.length (λn (s:Bool) i=>KD a n s i) (λ_ s=>s) (λs=>s) (λ_ s=>s=true) 0 (by omega) (by omega)
    (λn i s hi hs=>by
     refine⟨?_,hs⟩;have:=h.sz i (by omega);rw[KD,ka (by omega),qJ (by omega),hs,ko,qJo (by rw[h.gr i (by omega)];omega) (h.gb i (by omega))];simp only[kp,kg,IU,qM (show i<4611686018427387904 by omega)])
    (λn s _=>by rw[KD,ke (by omega)];rfl) true rfl
   rw[show((0:Nat):Int)=0 from rfl,kO] at k;rw[k.1,k.2];rfl
  ·have s:=h.sz i (by omega);have g:=h.gr i (by omega);rw[TX,ka (by omega),qJ (by omega),qJ (by omega)];simp only[kp,ko,qM (show i<4611686018427387904 by omega)];rw[qD (n:=a.Len-a.Sizes.getD i daa) (by omega),qD (by omega),g];have m:=wZ 0 (a.Len-a.Sizes.getD i daa+1);rw[show((((a.Len-a.Sizes.getD i daa+1).toNat:Nat):Int) !=imax 0 (a.Len-a.Sizes.getD i daa+1))=false by rw[kV];omega];rfl
  ·rw[TX,ke (by omega)];rfl
 ·have:=h.sz i hi;rw[KH,ka (by omega),qJ (by omega)];simp only[kp,ko,II,qM (show i<4611686018427387904 by omega)];rw[ke (show¬a.Sizes.getD i daa<1 by omega),ke (show¬a.Sizes.getD i daa>2000 by omega)];rfl
 ·rw[KH,ke (by omega)];rfl
abbrev Sp :=zG
def stp (c:Ch):Sp:=⟨c.value,if isNo c then⟨-1,0⟩ else c.piece⟩
def inn (paid:Int) (o:Sp) (s:Ch):Sp:=bif !isNo s&&decide (s.value+paid>o.value) then⟨s.value+paid,s.piece⟩ else o
def qHg (a:Line) (best:Nat->Ch) (q:Nat) (paid:Int) (i:Nat) (o:Sp):Sp:=
 if(q:Int)+szAt a i>a.Len\/gnAt a i q<0 then o else if paid+candV a best q i>o.value then⟨paid+candV a best q i,⟨(i:Int),(q:Int)⟩⟩ else o
theorem qYH (a:Line) (best:Nat->Ch) (q:Nat) (paid:Int) (i:Nat) (o:Sp) (c:Ch):inn paid o (TG a best q i c)=qHg a best q paid i (inn paid o c):=by
 unfold TG qHg;by_cases c1:(q:Int)+szAt a i>a.Len\/gnAt a i q<0
 ·rw[if_pos c1,if_pos c1]
 rw[if_neg c1,if_neg c1];generalize candV a best q i=v;have e1:∀z,inn paid o ⟨⟨(i:Int),(q:Int)⟩,z⟩=if z+paid>o.value then⟨z+paid,⟨(i:Int),(q:Int)⟩⟩ else o:=λz=>by
  unfold inn;rw[isNo_mk];by_cases h:z+paid>o.value
  ·rw[ka (show(qH.mk ⟨(i:Int),(q:Int)⟩ z).value+paid>o.value from h),if_pos h];rfl
  ·rw[ke (show¬(qH.mk ⟨(i:Int),(q:Int)⟩ z).value+paid>o.value from h),if_neg h];rfl
 rw[show paid+v=v+paid by omega];cases hn:isNo c with
 |true=>
  have e2:inn paid o c=o:=by unfold inn;rw[hn];rfl
  rw[e2];simp only[Bool.true_or,kp];rw[e1]
 |false=>
  by_cases h2:c.value+paid>o.value
  ·have e2:inn paid o c=⟨c.value+paid,c.piece⟩:=by unfold inn;rw[hn,ka h2];rfl
   rw[e2];by_cases h3:v>c.value
   ·rw[ka h3];simp only[Bool.or_true,kp];rw[e1,if_pos (by omega),if_pos (by omega)]
   ·rw[ke h3];simp only[Bool.or_false,kr];rw[e2,if_neg (by omega)]
  ·have e2:inn paid o c=o:=by unfold inn;rw[hn,ke h2];rfl
   rw[e2];by_cases h3:v>c.value
   ·rw[ka h3];simp only[Bool.or_true,kp];rw[e1]
   ·rw[ke h3];simp only[Bool.or_false,kr];rw[e2,if_neg (by omega)]
theorem qSJ (a:Line) (best:Nat->Ch) (q:Nat) (paid:Int) (o:Sp):∀k,foldN (qHg a best q paid) 0 k o=inn paid o (foldN (TG a best q) 0 k (noCh 0))
 |0=>rfl
 |k+1=>by rw[yK,yK,qSJ a best q paid o k,qYH]
theorem qXQ {a:Line} (h:VL a) {i q:Nat} (hi:i<a.Sizes.length) (hq:¬((q:Int)+szAt a i>a.Len)) {l:List Sp} (hl:(l.length:Int)=a.Len+1) (he:∀x:Nat,q<x->(x:Int)<=a.Len->l.getD x daa=stp (bst a x)):qCO a ⟨(i:Int),(q:Int)⟩ (sums a.Dust) l=some (candV a (bst a) q i):=by
 have ln:=h.len;have kf:=h.kerf;have sz:=h.sz i hi;have gl:=h.gl;have dl:=h.dl;have gr:=h.gr i hi;have e:(endN a q i:Int)=q+a.Sizes.getD i daa:=by unfold endN szAt;omega
 have cb:=qNh h hi (show(q:Int)+szAt a i<=a.Len by omega) (λx h1 h2=>(qSj h h2).1);have hq':(q:Int)+a.Sizes.getD i daa<=a.Len:=by unfold szAt at hq;omega
 unfold qCO;simp only[ko];rw[qJ (by omega),qJ (by omega),qJ (by omega)];simp only[kp,qD (n:=(q:Int)+a.Sizes.getD i daa) (by omega)];rw[<-e];have gb:=h.gb i hi q (by omega);unfold okN at gb;by_cases c3:(endN a q i:Int)=a.Len
 ·rw[show((endN a q i:Int)==a.Len)=true by rw[gh];exact c3];unfold candV;rw[if_pos c3];simp[gnAt]
 ·have nb:=qQL h hi hq c3;have m:=imin_or ((endN a q i:Int)+a.Kerf) a.Len;have en:imin ((endN a q i:Int)+a.Kerf) a.Len=(nxtN a (endN a q i):Int):=by unfold nxtN;omega
  rw[show((endN a q i:Int)==a.Len)=false by rw[kC];exact c3];simp only[kr,qD (n:=(endN a q i:Int)+a.Kerf) (by omega),en,BG];rw[qJ (by omega),qJ (by omega),qJ (by omega)];simp only[kp,ko,YU (c:=a.Dust) (show nxtN a (endN a q i)<=a.Dust.length by omega),YU (c:=a.Dust) (show endN a q i<=a.Dust.length by omega),he _ nb.1 nb.2.1,stp];have p1:=qBf h.db (k:=nxtN a (endN a q i)) (by omega);have p2:=qBf h.db (k:=endN a q i) (by omega);have b1:=(qSj h nb.2.1).1;unfold BV at b1 cb;unfold candV at cb⊢;rw[if_neg c3] at cb⊢;unfold gnAt at cb⊢
  have pd:=UW h.db (i:=endN a q i) (k:=nxtN a (endN a q i)-endN a q i) (by omega);rw[show endN a q i+(nxtN a (endN a q i)-endN a q i)=nxtN a (endN a q i) by omega] at pd;rw[qD (n:=(a.Gain.getD i daa).getD q daa+_) (by omega),qD (n:=(a.Gain.getD i daa).getD q daa+_-_) (by omega),qD (by omega)]
  congr 1
  omega
theorem qNu {a:Line} (h:VL a) {q:Nat} (hq:(q:Int)<=a.Len) {l:List Sp} (hl:(l.length:Int)=a.Len+1) (he:∀x:Nat,q<x->(x:Int)<=a.Len->l.getD x daa=stp (bst a x)) {paid:Int} (hp: -9000000000000000000<=paid-2251799813685248*(a.Len-q)/\paid+2251799813685248*(a.Len-q)<=9000000000000000000) (o:Sp):
  XE a (sums a.Dust) l (q:Int) paid FUEL 0 o=some (inn paid o (stt a q)):=by
 have szl:=h.szl;have ln:=h.len;have gl:=h.gl;have k:=zA a.Sizes.length (λn (o:Sp) i=>XE a (sums a.Dust) l (q:Int) paid n i o) (qHg a (bst a) q paid) (λo=>o) (λ_ _=>True) 0 (by omega) (by omega)
  (λn i o hi _=>⟨by
   have sz:=h.sz i hi;have gr:=h.gr i hi;rw[XE,ka (by omega),qJ (by omega)];simp only[kp,ko,qAf,MA,qM (show i<4611686018427387904 by omega),qD (n:=a.Len-a.Sizes.getD i daa) (by omega)];unfold qHg;by_cases c1:(q:Int)>a.Len-a.Sizes.getD i daa
   ·rw[ka c1,if_pos (.inl (by unfold szAt;omega))];rfl
   rw[ke c1,qJ (by omega),qJ (by omega)];simp only[kp,kr];by_cases c2:(a.Gain.getD i daa).getD q daa<0
   ·rw[ka c2,if_pos (.inr c2)];rfl
   rw[ke c2,if_neg (by unfold szAt gnAt;omega),qXQ h hi (by unfold szAt;omega) hl he];simp only[kr,kg];have cb:=qNh h hi (show(q:Int)+szAt a i<=a.Len by unfold szAt;omega) (λx h1 h2=>(qSj h h2).1);unfold BV at cb;rw[qD (n:=paid+candV a (bst a) q i) (by omega)];by_cases c3:paid+candV a (bst a) q i>o.value
   ·rw[ka c3,if_pos c3];rfl
   ·rw[ke c3,if_neg c3];rfl,trivial⟩)
  (λn o _=>by rw[XE,ke (by omega)];rfl) o trivial
 rw[show((0:Nat):Int)=0 from rfl,kO] at k;rw[k.1,qSJ,qSs h hq];rfl
theorem qU7 (p:zR) (v w:Int):isNo ⟨p,v⟩=isNo ⟨p,w⟩:=rfl
theorem qYp (a:Line) (st:Nat->Ch) (p x:Nat) (c:Ch):inn (restV a p x) (stp c) (st x)=stp (RV a st p x c):=by
 rw[qI5];unfold inn;rw[show(stp c).value=c.value from rfl];cases hn:isNo (st x) with
 |true=>rfl
 |false=>
  cases decide ((st x).value+restV a p x>c.value) with
  |false=>rfl
  |true=>
   simp only[uC,Bool.and_self,kp];unfold stp;rw[qU7 _ _ (st x).value,show(⟨(st x).piece,(st x).value⟩:Ch)=st x from rfl,hn];rfl
theorem qWD (a:Line) (st:Nat->Ch) (p:Nat):inn 0 (stp (noCh (pre a.Chip a.Len.toNat-pre a.Chip p))) (st p)=stp (qDX a st p):=by
 unfold inn qDX;rw[show(stp (noCh (pre a.Chip a.Len.toNat-pre a.Chip p))).value=pre a.Chip a.Len.toNat-pre a.Chip p from rfl,Int.add_zero];cases hn:isNo (st p) with
 |true=>rfl
 |false=>
  cases decide ((st p).value>pre a.Chip a.Len.toNat-pre a.Chip p) with
  |false=>rfl
  |true=>
   simp only[uC,Bool.and_self,kp];unfold stp;rw[hn];rfl
theorem from_eq {a:Line} (h:VL a) {p:Nat} (hp:(p:Int)<=a.Len) {l:List Sp} (hl:(l.length:Int)=a.Len+1) (he:∀x:Nat,p<x->(x:Int)<=a.Len->l.getD x daa=stp (bst a x)):
  qEf a (p:Int) (sums a.Chip) (sums a.Dust) l=some (stp (bst a p)):=by
 have ln:=h.len;have kf:=h.kerf;have pt:=h.pitch;have cl:=h.cl;have dl:=h.dl;have cr:=qIT h hp;unfold BV at cr;unfold qEf;simp only[BG,ko];rw[qJ (by omega),qJ (by omega),YU (c:=a.Chip) (by omega),YU (c:=a.Chip) (by omega),qD (by omega)];simp only[kp];have wst:∀k:Nat,((((k+1)*a.Pitch.toNat:Nat)):Int)=((k*a.Pitch.toNat:Nat):Int)+a.Pitch:=λk=>by rw[dm];omega
 -- the places behind the edge
 have key:∀(d k n:Nat) (c:Ch),k+d=QK a p->d<n->WL a (p:Int) (sums a.Chip) (sums a.Dust) l n (((k+1)*a.Pitch.toNat:Nat):Int) (stp c)=some (stp (foldN (λk c=>RV a (stt a) p (placeN a p k) c) k d c)):=by
  intro d
  induction d with
  |zero=>
   intro k n c hk hn;obtain⟨n,rfl⟩:∃m,n=m+1:=⟨n-1,by omega⟩
   have hx:¬((placeN a p k:Nat):Int)<=a.Len:=λq=>by have:=(FJ h).2 q;omega
   unfold placeN at hx;have pos:1<=(k+1)*a.Pitch.toNat:=Nat.mul_pos (by omega) (by omega);have kb:(k:Int)<=2000:=by
    have:QK a p<=a.Len.toNat:=by unfold QK;exact uz (dZ _ _) (by omega)
    omega
   have wb:(k+1)*a.Pitch.toNat<=2001*2000:=Nat.mul_le_mul (by omega) (by omega);rw[WL,qD (n:=(p:Int)+_) (by omega),qD (by omega),ka (show((((k+1)*a.Pitch.toNat:Nat)):Int)>0 by omega),ka (show(p:Int)+(((k+1)*a.Pitch.toNat:Nat):Int)+a.Kerf>a.Len by omega)];cases decide ((p:Int)+(((k+1)*a.Pitch.toNat:Nat):Int)<=a.Len)<;>rfl
  |succ d ih=>
   intro k n c hk hn;obtain⟨n,rfl⟩:∃m,n=m+1:=⟨n-1,by omega⟩
   have hx:=(FJ h (k:=k)).1 (show k<QK a p by omega);have lo:=SR h p k;have pe:placeN a p k=p+a.Kerf.toNat+(k+1)*a.Pitch.toNat:=rfl;have pos:1<=(k+1)*a.Pitch.toNat:=Nat.mul_pos (by omega) (by omega);have ex:(p:Int)+(((k+1)*a.Pitch.toNat:Nat):Int)=((placeN a p k-a.Kerf.toNat:Nat):Int):=by omega
   have ex2:((placeN a p k-a.Kerf.toNat:Nat):Int)+a.Kerf=(placeN a p k:Int):=by omega
   have nx:=wst (k+1);rw[WL,qD (n:=(p:Int)+_) (by omega),ex,qD (n:=((placeN a p k-a.Kerf.toNat:Nat):Int)+a.Kerf) (by omega),ex2,ka (by omega),ka (show((((k+1)*a.Pitch.toNat:Nat)):Int)>0 by omega),ke (by omega)];simp only[BG,ko,kp,kr,MT];generalize hxe:placeN a p k=x at*;rw[qJ (by omega),qJ (by omega),qJ (by omega),qJ (by omega),YU (c:=a.Chip) (by omega),YU (c:=a.Chip) (by omega),YU (c:=a.Dust) (by omega),YU (c:=a.Dust) (by omega)];have p1:=UW h.cb (i:=p) (k:=x-a.Kerf.toNat-p) (by omega);rw[show p+(x-a.Kerf.toNat-p)=x-a.Kerf.toNat by omega] at p1
   have p2:=UW h.db (i:=x-a.Kerf.toNat) (k:=a.Kerf.toNat) (by omega);rw[show x-a.Kerf.toNat+a.Kerf.toNat=x by omega] at p2;have b3:=qBf h.db (k:=x) (by omega);have rv:pre a.Chip (x-a.Kerf.toNat)-pre a.Chip p+pre a.Dust x-pre a.Dust (x-a.Kerf.toNat)=restV a p x:=rfl;simp only[kp,qD (n:=pre a.Chip (x-a.Kerf.toNat)-pre a.Chip p) (by omega),qD (n:=pre a.Chip (x-a.Kerf.toNat)-pre a.Chip p+pre a.Dust x) (by omega),qD (n:=pre a.Chip (x-a.Kerf.toNat)-pre a.Chip p+pre a.Dust x-pre a.Dust (x-a.Kerf.toNat)) (by omega)];rw[rv,qNu h hx hl (λy h1 h2=>he y (by omega) h2) (by rw[<-rv];omega)];simp only[kg]
   rw[qYp,qD (by omega),<-nx,ih (k+1) n _ (by omega) (by omega)];have pf:foldN (λk c=>RV a (stt a) p (placeN a p k) c) k (d+1) c=foldN (λk c=>RV a (stt a) p (placeN a p k) c) (k+1) d (RV a (stt a) p (placeN a p k) c):=rfl;rw[pf,hxe]
 -- the edge itself
 obtain⟨f,hf⟩:∃f,FUEL=f+1:=⟨FUEL-1,by rw[FUEL_eq]⟩
 have st0:WL a (p:Int) (sums a.Chip) (sums a.Dust) l FUEL 0 (stp (noCh (pre a.Chip a.Len.toNat-pre a.Chip p)))=some (stp (bst a p)):=by
  conv=>lhs;rw[hf]
  rw[WL,Int.add_zero,qD (n:=(p:Int)) (by omega),ka hp,show decide ((0:Int)>0)=false from rfl];simp only[kp,kr,MT];rw[qNu h hp hl he (by omega),qWD];simp only[kg];have k0:=key (QK a p) 0 f (qDX a (stt a) p) (by omega) (by
   have:QK a p<=a.Len.toNat:=by unfold QK;exact uz (dZ _ _) (by omega)
   have:=FUEL_eq;omega)
  rw[show(((0+1)*a.Pitch.toNat:Nat):Int)=a.Pitch by simp;omega] at k0;rw[dy,qD (n:=a.Pitch) (by omega),k0,qNM h hp];rfl
 rw[show(zG.mk (pre a.Chip a.Len.toNat-pre a.Chip p) ⟨-1,0⟩)=stp (noCh (pre a.Chip a.Len.toNat-pre a.Chip p)) from rfl,st0];rfl
theorem qKP {a:Line} (h:VL a):∀(p n:Nat) (l:List Sp),p<n->(p:Int)<=a.Len+1->(l.length:Int)=a.Len+1->(∀x:Nat,p<=x->(x:Int)<=a.Len->l.getD x daa=stp (bst a x))->
  ∃l',GA a (sums a.Chip) (sums a.Dust) n l ((p:Int)-1)=some l'/\(l'.length:Int)=a.Len+1/\∀x:Nat,(x:Int)<=a.Len->l'.getD x daa=stp (bst a x)
 |0,n,l,hn,hp,hl,he=>by
  obtain⟨n,rfl⟩:∃m,n=m+1:=⟨n-1,by omega⟩
  refine⟨l,?_,hl,λx hx=>he x (by omega) hx⟩;rw[GA,ke (by omega)];rfl
 |p+1,n,l,hn,hp,hl,he=>by
  have ln:=h.len;obtain⟨n,rfl⟩:∃m,n=m+1:=⟨n-1,by omega⟩
  have ep:((p+1:Nat):Int)-1=(p:Int):=by omega
  obtain⟨l',e1,e2,e3⟩:=qKP h p n (l.set p (stp (bst a p))) (by omega) (by omega) (by simpa using hl) (λx h1 h2=>by
   by_cases c:x=p
   ·subst c;rw[BF _ (by omega)]
   ·rw[ZZ _ (λe=>c e.symm)];exact he x (by omega) h2)
  refine⟨l',?_,e2,e3⟩;rw[GA,ep,ka (by omega),from_eq h (by omega) hl (λx h1 h2=>he x (by omega) h2),qJ (by omega),ko,qD (by omega)];exact e1
theorem qKL {a:Line} (h:VL a) {c:List Sp} (hl:(c.length:Int)=a.Len+1) (hc:∀x:Nat,(x:Int)<=a.Len->c.getD x daa=stp (bst a x)):
  ∀(d n m p:Nat) (l:List zR),a.Len.toNat-p<d->d<n->d<m->(p:Int)<=a.Len->l.length+d<=5000->MO a c n l (p:Int)=some (l++walk a m p)
 |0,n,m,p,l,hd,_,_,_,_=>by omega
 |d+1,n,m,p,l,hd,hn,hm,hp,hll=>by
  have ln:=h.len;obtain⟨n,rfl⟩:∃k,n=k+1:=⟨n-1,by omega⟩
  obtain⟨m,rfl⟩:∃k,m=k+1:=⟨m-1,by omega⟩
  rw[MO,qJ (by omega),walk];simp only[kp,ko,hc p hp,stp];cases hn':isNo (bst a p) with
  |true=>simp
  |false=>
   obtain⟨i,q,e,hi,hq,hg,hw⟩:=qFt h hp hn';have sz:=h.sz i hi;have hpq:p<=q:=by
    rcases hw with rfl|⟨k,hk,rfl⟩
    ·exact kq _
    ·have:=SR h p k;omega
   clear hw;have en:(endN a q i:Int)=q+szAt a i:=by unfold endN szAt;omega
   simp only[uG,if_false,kr,e,ko];rw[ka (show(i:Int)≥0 by omega),wJ (by omega),qJ (by omega),qE0 (n:=(q:Int)+a.Sizes.getD i daa) (by unfold szAt at*;omega) (by unfold szAt at*;omega)];simp only[kp];rw[show(q:Int)+a.Sizes.getD i daa=(endN a q i:Int) by rw[en];rfl];by_cases c1:(endN a q i:Int)=a.Len
   ·rw[if_pos c1,show((endN a q i:Int)==a.Len)=true by rw[gh];exact c1];rfl
   ·rw[if_neg c1,show((endN a q i:Int)==a.Len)=false by rw[kC];exact c1];have kf:=h.kerf;have ws:=qFs h hi hq hpq c1;have mm:=imin_or ((endN a q i:Int)+a.Kerf) a.Len;have en2:imin ((endN a q i:Int)+a.Kerf) a.Len=(nxtN a (endN a q i):Int):=by unfold nxtN;omega
    simp only[kr,qE0 (n:=(endN a q i:Int)+a.Kerf) (by unfold szAt at*;omega) (by unfold szAt at*;omega),en2];rw[qKL h hl hc d n m (nxtN a (endN a q i)) _ (by omega) (by omega) (by omega) ws.2 (by simp;omega)];simp
theorem qRr {a:Line} (h:VL a):qBM a=some (wD a,(bst a 0).value,0):=by
 have ln:=h.len;have cl:=h.cl;have dl:=h.dl;unfold qBM;rw[qWB h,qNI (by omega) h.cb,qNI (by omega) h.db];simp only[kg,kA,kr];rw[qD (n:=a.Len+1) (by omega),show a.Len+1=((a.Len.toNat+1:Nat):Int) by omega,qBz (by omega) (by omega),ko];simp only[kp];obtain⟨c,e1,e2,e3⟩:=qKP h (a.Len.toNat+1) FUEL (List.replicate (a.Len.toNat+1) ⟨0,⟨0,0⟩⟩) (by rw[FUEL_eq];omega) (by omega) (by simp;omega) (λx h1 h2=>by omega);rw[show((a.Len.toNat+1:Nat):Int)-1=a.Len by omega] at e1;rw[e1];simp only[kg];have:=qKL h e2 e3 2500 FUEL 3000 0 [] (by omega) (by rw[FUEL_eq];omega) (by omega) (by omega) (by simp)
 rw[show((0:Nat):Int)=0 from rfl] at this;rw[this,qJ (by omega)];simp only[kg,kp,show(0:Int).toNat=0 from rfl,e3 0 (by omega)];rfl
theorem qVd {r:Rect} (h:VR r):qBl r=some true:=by
 unfold VR at h;unfold qBl;simp only[ka (show r.X.A<r.X.B by omega),ka (show r.Y.A<r.Y.B by omega),ka (show r.X.A≥-600 by omega),ka (show r.X.B<=600 by omega),ka (show r.Y.A≥-600 by omega),ka (show r.Y.B<=600 by omega)];rfl
theorem qNw {axis kerf:Int} (hk:0<=kerf/\kerf<=20) {s:Span} (hs: -600<=s.A/\s.B<=600) {L:List Pt} (hL:L.length<=100000):
  ∀(rest:List Pt) (i n:Nat) (e:Int) (T:List Node),L.drop i=rest->i<=L.length->rest.length<n->-600<=e->e<=600->GX kerf s.B e rest->T.length+ndC rest<=1000000->
  WC axis kerf (L.map Prod.fst) (L.map Prod.snd) s n T e false (i:Int)=some (.inr (T++(rowB axis kerf s.B e rest).1,(rowB axis kerf s.B e rest).2))
 |[],i,n,e,T,hd,hi,hn,he1,he2,hg,hb=>by
  obtain⟨n,rfl⟩:∃m,n=m+1:=⟨n-1,by omega⟩
  have hi':i=L.length:=by have:=dU.1 hd;omega
  rw[WC,kP,ke (by omega)];simp[rowB]
 |x::r,i,n,e,T,hd,hi,hn,he1,he2,hg,hb=>by
  obtain⟨n,rfl⟩:∃m,n=m+1:=⟨n-1,by omega⟩
  have hi':i<L.length:=by
   by_cases c:i<L.length
   ·exact c
   ·rw[dF (by omega)] at hd;cases hd
  have hx:L.getD i daa=x:=by rw[JE L i hi'] at hd;exact(List.cons.inj hd).1
  have hr:L.drop (i+1)=r:=by rw[JE L i hi'] at hd;exact(List.cons.inj hd).2
  have hxa:(L.map Prod.fst).getD i daa=x.1:=by rw[qFm.getD_map'' Prod.fst hi',hx]
  have hxb:(L.map Prod.snd).getD i daa=x.2:=by rw[qFm.getD_map'' Prod.snd hi',hx]
  obtain⟨g1,g2,g3,g4⟩:=hg;have hc:ndC (x::r)=3+x.2.length+ndC r:=by simp[ndC]
  rw[hc] at hb;rw[WC,kP,ka (by omega),qJ (by omega)];simp only[kp,kr,ko,hxa,EU];rw[ke (show¬x.1.A≥x.1.B by omega),qD (n:=e+kerf) (by omega),qD (n:=e+kerf+1) (by omega),ke (show¬x.1.B>s.B by omega)];simp only[kr];have gA:∀{β:Type} (u v:β),(bif x.1.A !=e then(bif decide (x.1.A<e+kerf+1) then u else v) else(bif false then u else v))=v:=λu v=>by
   by_cases c:x.1.A=e
   ·rw[show(x.1.A !=e)=false by rw[kV];exact c];rfl
   ·rw[show(x.1.A !=e)=true by rw[ua];exact c,ke (show¬x.1.A<e+kerf+1 by omega)];rfl
  simp only[kr] at gA;rw[gA];have mi:=imin_or (x.1.B+kerf) s.B
  -- behind the first nodes
  have key:∀(T2:List Node),T2.length+1+x.2.length+ndC r<=1000000->EK axis kerf (L.map Prod.fst) (L.map Prod.snd) s (i:Int) (WC axis kerf (L.map Prod.fst) (L.map Prod.snd) s n) T2
    =some (.inr (T2++(if x.1.B<s.B then(⟨axis,x.1.B⟩::x.2++(rowB axis kerf s.B (imin (x.1.B+kerf) s.B) r).1) else x.2),(if x.1.B<s.B then(rowB axis kerf s.B (imin (x.1.B+kerf) s.B) r).2 else true))):=by
   intro T2 hb2;unfold EK qBg;simp only[ko,hxa,hxb,kP,qM (show i<4611686018427387904 by omega),qD (n:=x.1.B+kerf) (by omega)];rw[ZT (show(0:Int)<=(i:Int) by omega) (show(i:Int)<(L.length:Int) by omega)];simp only[kp];by_cases c:x.1.B<s.B
   ·rw[if_pos c,if_pos c,show(x.1.B==s.B)=false by rw[kC];omega];rw[if_pos c] at g4;rw[wJ (by omega),QH (by simp;omega) (by omega)];simp only[uC,kp];rw[qNw hk hs hL r (i+1) n (imin (x.1.B+kerf) s.B) _ hr (by omega) (by simp at hn;omega) (by omega) (by omega) g4 (by simp;omega)];simp
   ·rw[if_neg c,if_neg c,show(x.1.B==s.B)=true by rw[gh];omega];rw[if_neg c] at g4;subst g4;rw[wJ (n:=T2.length+x.2.length) (by omega)];simp only[kG,kr,kp];obtain⟨n,rfl⟩:∃m,n=m+1:=⟨n-1,by simp at hn;omega⟩
    have hi2:i+1=L.length:=by have:=dU.1 hr;omega
    rw[WC,kP,ke (by omega)];rfl
  by_cases c:x.1.A=e
  ·rw[show(x.1.A !=e)=false by rw[kV];exact c];simp only[kr];rw[key T (by omega),EO,if_neg (show¬x.1.A>e by omega)];split<;>simp
  ·rw[show(x.1.A !=e)=true by rw[ua];exact c,wJ (by omega),qD (n:=x.1.A-kerf) (by omega)];simp only[kp];rw[key _ (by simp;omega),EO,if_pos (show x.1.A>e by omega)];split<;>simp
theorem qUH {r:Rect} (hr:VR r) {axis kerf:Int} (ha:axis=2\/axis=3) (hk:0<=kerf/\kerf<=20) {L:List Pt} (hL:L.length<=100000) (hg:GX kerf (axS r axis).B (axS r axis).A L) (hb:ndC L+1<=1000000):
  FL r axis kerf (L.map Prod.fst) (L.map Prod.snd)=some (rowR (rowN axis kerf (axS r axis) L)):=by
 have hs: -600<=(axS r axis).A/\(axS r axis).B<=600/\(axS r axis).A<(axS r axis).B:=by
  unfold VR at hr;unfold axS;split<;>omega
 have e0:FL r axis kerf (L.map Prod.fst) (L.map Prod.snd)=AJ axis kerf (L.map Prod.fst) (L.map Prod.snd) (axS r axis):=by
  unfold FL qBT qBy qBN;rw[qVd hr];simp only[kg,kG,kr,kP,kA];rw[ke (show¬kerf<0 by omega),ke (show¬kerf>20 by omega)];rcases ha with rfl|rfl<;>rfl
 rw[e0];unfold AJ;have k1:=qNw (axis:=axis) hk ⟨hs.1,hs.2.1⟩ hL L 0 FUEL (axS r axis).A [] (by simp) (by omega) (by rw[FUEL_eq];omega) hs.1 (by omega) hg (by simp;omega);rw[show((0:Nat):Int)=0 from rfl] at k1;rw[k1];simp only[kg,Sum.elim_inr,uj];have bl:=qLG axis kerf (axS r axis).B L (axS r axis).A;unfold rowN;generalize rowB axis kerf (axS r axis).B (axS r axis).A L=B at*;obtain⟨b1,b2⟩:=B;simp only at bl⊢;have fin:∀T:List Node,AA T=some (rowR T):=λT=>by
  unfold AA rowR;by_cases c:T.length<=127
  ·rw[ke (by omega),if_pos c];rfl
  ·rw[ka (by omega),if_neg c];rfl
 cases b2 with
 |true=>
  simp only[kG,kr,if_true,uQ];exact fin _
 |false=>
  simp only[uC,kp,uG,if_false];rw[wJ (by omega)];exact fin _
theorem qLI (n a b:Int):QE n a b=some (decide (a<=n/\n<=b)):=by
 unfold QE qAk;by_cases h1:n≥a
 ·rw[ka h1];by_cases h2:n<=b
  ·rw[ka h2,ka ⟨h1,h2⟩];rfl
  ·rw[ke h2,ke (λh=>h2 h.2)];rfl
 ·rw[ke h1,ke (show¬(a<=n/\n<=b) from λh=>h1 h.1)];rfl
theorem qWx (s:Saw) (r:Rates):TK s r=some (IX s r):=by
 unfold TK XO TV;simp only[qLI,kg];have no:¬VW s r->IX s r=9:=λh=>by unfold IX;rw[if_neg h]
 by_cases c1':¬(0<=s.Kerf/\s.Kerf<=20)
 ·rw[ke c1',no (λh=>c1' h.kerf)];rfl
 have c1:0<=s.Kerf/\s.Kerf<=20:=Decidable.not_not.1 c1';by_cases c2':¬(0<=s.Trim/\s.Trim<=20)
 ·rw[ka c1,ke c2',no (λh=>c2' h.trim)];rfl
 have c2:0<=s.Trim/\s.Trim<=20:=Decidable.not_not.1 c2';by_cases c3':¬(1<=s.Pitch/\s.Pitch<=2000)
 ·rw[ka c1,ka c2,ke c3',no (λh=>c3' h.pitch)];rfl
 have c3:1<=s.Pitch/\s.Pitch<=2000:=Decidable.not_not.1 c3';by_cases c4':¬(1<=s.Step/\s.Step<=20000)
 ·rw[ka c1,ka c2,ka c3,ke c4',no (λh=>c4' h.step)];rfl
 have c4:1<=s.Step/\s.Step<=20000:=Decidable.not_not.1 c4';by_cases c5':¬(0<=r.Chip/\r.Chip<=1000)
 ·rw[ka c1,ka c2,ka c3,ka c4,ke c5',no (λh=>c5' h.chip)];rfl
 have c5:0<=r.Chip/\r.Chip<=1000:=Decidable.not_not.1 c5';by_cases c6':¬(0<=r.Dust/\r.Dust<=1000)
 ·rw[ka c1,ka c2,ka c3,ka c4,ka c5,ke c6',no (λh=>c6' h.dust)];rfl
 have c6:0<=r.Dust/\r.Dust<=1000:=Decidable.not_not.1 c6';by_cases c7':¬(0<=r.Fine/\r.Fine<=1000000)
 ·rw[ka c1,ka c2,ka c3,ka c4,ka c5,ka c6,ke c7',no (λh=>c7' h.fine)];rfl
 have c7:0<=r.Fine/\r.Fine<=1000000:=Decidable.not_not.1 c7';rw[ka c1,ka c2,ka c3,ka c4,ka c5,ka c6,ka c7,(qEw s r).2 ⟨c1,c2,c3,c4,c5,c6,c7⟩];rfl
theorem qU9 (s:Span):SS s=some (decide (s.A< -600\/600<s.A\/s.B< -600\/600<s.B)):=by
 unfold SS PE;by_cases c1:s.A< -600
 ·rw[ka c1,ka (show s.A< -600\/600<s.A\/s.B< -600\/600<s.B by omega)];rfl
 rw[ke c1];by_cases c2:s.A>600
 ·rw[ka c2,ka (show s.A< -600\/600<s.A\/s.B< -600\/600<s.B by omega)];rfl
 rw[ke c2];by_cases c3:s.B< -600
 ·rw[ka c3,ka (show s.A< -600\/600<s.A\/s.B< -600\/600<s.B by omega)];rfl
 rw[ke c3];by_cases c4:s.B>600
 ·rw[ka c4,ka (show s.A< -600\/600<s.A\/s.B< -600\/600<s.B by omega)];rfl
 rw[ke c4,ke (show¬(s.A< -600\/600<s.A\/s.B< -600\/600<s.B) by omega)];rfl
theorem qRf (s:List qB) (d:List qC) (p:List Product) (r:Rect) (w:Saw) (t:Rates):qC9 s d p r w t=some (chkE s d p r w t):=by
 unfold qC9 chkE AQ IC;rw[(UK s).2,qFo,qBQ,qWx];simp only[kg,qU9];have bt:∀{n:Int},n≠0->(n !=0)=true:=λh=>by rw[ua];exact h
 have bf:∀{n:Int},¬n≠0->(n !=0)=false:=λh=>by rw[kV];omega
 by_cases h1:DP s≠0
 ·rw[if_pos h1,bt h1];rfl
 rw[if_neg h1,bf h1];by_cases h2:QD d≠0
 ·rw[if_pos h2,bt h2];rfl
 rw[if_neg h2,bf h2];by_cases h3:wF p≠0
 ·rw[if_pos h3,bt h3];rfl
 rw[if_neg h3,bf h3];by_cases h4:IX w t≠0
 ·rw[if_pos h4,bt h4];rfl
 rw[if_neg h4,bf h4];simp only[kr];by_cases h5:r.X.A≥r.X.B
 ·rw[if_pos (.inl h5),ka h5];rfl
 rw[ke h5];by_cases h6:r.Y.A≥r.Y.B
 ·rw[if_pos (.inr h6),ka h6];rfl
 rw[ke h6,if_neg (by omega)];simp only[kr];by_cases h7:r.X.A< -600\/600<r.X.A\/r.X.B< -600\/600<r.X.B
 ·rw[ka h7,if_pos (by omega)];rfl
 rw[ke h7];by_cases h8:r.Y.A< -600\/600<r.Y.A\/r.Y.B< -600\/600<r.Y.B
 ·rw[ka h8,if_pos (by omega)];rfl
 rw[ke h8,if_neg (by omega)];rfl
theorem qK8 {r:Rect} (h:VR r) {a b:Int} (h1: -2000<=a/\a<=2000) (h2: -2000<=b/\b<=2000):AW r a b=some (BR r a b):=by
 unfold VR at h;unfold AW BR;rw[qD (by omega),qD (by omega)]
theorem qOV (s:qF):JV s=some (QO s):=by
 unfold JV QO;rw[(qCi s).2];simp only[kg];by_cases h:XG s=0
 ·rw[h];rfl
 ·have:(XG s !=0)=true:=by simpa using h
  rw[this,if_neg h];rfl
theorem rhgt_eq {r:Int} (h1: -60<=r) (h2:r<60):qAn r=some (hgt r):=by
 unfold qAn hgt;rw[qD (n:=r+1) (by omega),qD (by omega),qD (by omega)]
theorem qM9 (s:qF) (R:Rect):SQ s R=some (zJ (QO s) R.X R.Y):=by
 have h:=LA s;unfold SQ;rw[qOV s];simp only[kg];generalize QO s=t at*;have b:=h.len;have b1:=h.low;have b2:=h.high;have pb:∀x,x<t.Rows.length->0<=ml (t.Rows.getD x daa) R.X*ml (hgt (t.Low+x)) R.Y/\ml (t.Rows.getD x daa) R.X*ml (hgt (t.Low+x)) R.Y<=1440000:=λx hx=>by
  have m1:=ml_b R.X (h.rng _ (zK hx));have m2:=ml_b R.Y (qJ4 (r:=t.Low+x) (by omega) (by omega));have:=wS (a:=ml (t.Rows.getD x daa) R.X) (b:=ml (hgt (t.Low+x)) R.Y) (m:=1200) (n:=1200) (by omega) (by omega) (by omega) (by omega) (by omega) (by omega);exact⟨ky m1.1 m2.1,by omega⟩
 have k2:=jJ t.Rows (λn (a:Int) x=>PT R t n a x) (λx=>(x:Int)) (λx a s=>s+ml a R.X*ml (hgt (t.Low+x)) R.Y) (λs=>s) (λx s=>0<=s/\s<=1440000*(x:Int)) (by omega)
  (λn x a hx hi=>by
   have p:=pb x hx;refine⟨?_,by omega⟩;rw[PT,ka (show(x:Int)<_ by omega),qJ (by omega),qM (by omega),qD (n:=t.Low+x) (by omega),rhgt_eq (r:=t.Low+x) (by omega) (by omega)];simp only[kp,ko,kg];rw[qPn R.X (h.rng _ (zK hx)),qPn R.Y (qJ4 (r:=t.Low+x) (by omega) (by omega))];simp only[kg];rw[qD (n:=_*_) (by omega),qD (by omega)])
  (λn a _=>by rw[PT];simp) (i:=0) rfl 0 (by omega)
 rw[DV (λx a=>ml a R.X*ml (hgt (t.Low+x)) R.Y)] at k2;have e:=qHS h (λr a=>ml a R.X*ml (hgt r) R.Y) (λr=>by
  have:ml ⟨0,0⟩ R.X=0:=by have:=ml_b (x:=⟨0,0⟩) R.X rfl;have e:lenS ⟨0,0⟩=0:=rfl;omega
  rw[this];simp)
 simp only[kz,dy] at k2;rw[e] at k2;rw[k2.1];rfl
theorem qOO {l:List qB} (h:VSol l) {i:Nat} (hi:i<l.length) (z:Span):qBR ⟨imax z.A 0,imin z.B 20000⟩ (lenTo l i) (l.getD i daa).Len=some (ml (ext l i) z):=by
 have b:=h.bd (i:=i) (by omega);have b':=h.bd (i:=i+1) (by omega);have at':=(h.at hi).2.2;rw[zZ] at b';unfold qBR;rw[qD (n:=lenTo l i+(l.getD i daa).Len) (by omega),qDi];rw[show(ext l i).A=lenTo l i from rfl,show(ext l i).B=lenTo l i+(l.getD i daa).Len from zZ l i];have a1:=wZ z.A 0;have a2:=imin_or z.B 20000;have a3:=wZ (imax z.A 0) (lenTo l i);have a4:=imin_or (imin z.B 20000) (lenTo l i+(l.getD i daa).Len);have a5:=wZ (lenTo l i) z.A;have a6:=imin_or (lenTo l i+(l.getD i daa).Len) z.B;simp only;by_cases c:imax (imax z.A 0) (lenTo l i)≥imin (imin z.B 20000) (lenTo l i+(l.getD i daa).Len)
 ·rw[ka c,if_pos (by omega)];rfl
 ·rw[ke c,if_neg (by omega),qD (by omega)];simp only[kr]
  congr 1
  omega
theorem qNY {x y:Span} (h:y.B<=y.A):ml x y=0:=by
 rw[qDi];have a5:=wZ x.A y.A;have a6:=imin_or x.B y.B;rw[if_pos (by omega)]
theorem qLy (l:List qB) {x y z:Span} (h:x.B<=x.A\/y.B<=y.A\/z.B<=z.A):volS l x y z=0:=by
 unfold volS;refine GU (λi _=>?_);rcases h with h|h|h
 ·have:zJ (l.getD i daa).Sec x y=0:=by unfold zJ;exact GU (λj _=>by simp only;rw[qNY h];simp)
  rw[this];simp
 ·have:zJ (l.getD i daa).Sec x y=0:=by unfold zJ;exact GU (λj _=>by simp only;rw[qNY h];simp)
  rw[this];simp
 ·rw[qNY h];simp
theorem qIE {l:List qB} (h:VSol l) (b:Box):SO l b=some (volS l b.X b.Y b.Z):=by
 have hl:=h.len;unfold SO;rw[(UK l).2,(KR l).2 h];simp only[kg,kA,kr];have K:∀q,(q=true->volS l b.X b.Y b.Z=0)->YQ l b q=some (volS l b.X b.Y b.Z):=λq hq=>by
  unfold YQ;cases q with
  |true=>rw[hq rfl];rfl
  |false=>
   have k:=zA l.length (λn (s:Int×Int) i=>YF l b n s.1 s.2 i) (λi s=>(s.1+ml (ext l i) b.Z*zJ (l.getD i daa).Sec b.X b.Y,lenTo l (i+1))) (λs=>s.1)
    (λi s=>s.1=sumN i (λi=>ml (ext l i) b.Z*zJ (l.getD i daa).Sec b.X b.Y)/\s.2=lenTo l i) 0 (by omega) (by omega)
    (λn i s hi hs=>by
     obtain⟨s1,s2⟩:=s;obtain⟨e1,e2⟩:=hs;simp only at e1 e2;have p:=qHz h b.X b.Y b.Z (k:=i) (by omega);have t:=qLn h b.X b.Y b.Z hi;have bd:=h.bd (i:=i) (by omega);have at':=(h.at hi).2.2;rw[zZ] at at';refine⟨?_,by simp only;rw[e1];rfl,rfl⟩;simp only;rw[YF,ka (by omega),qJ (by omega)];simp only[kp,ko,qM (show i<4611686018427387904 by omega),e2,qOO h hi b.Z,kg,HC,qM9];rw[ST (h.at hi).1,qD (n:=lenTo l i+(l.getD i daa).Len) (by omega),<-zZ];by_cases c:ml (ext l i) b.Z>0
     ·rw[ka c];simp only[kp];rw[qD (n:=ml (ext l i) b.Z*zJ (l.getD i daa).Sec b.X b.Y) (by omega),qD (by omega)]
     ·have z:ml (ext l i) b.Z=0:=by have:=qEl (ext l i) b.Z;omega
      rw[ke c,z];simp)
    (λn s _=>by
     try simp only
     rw[YF,ke (by omega)];rfl) (0,0) ⟨rfl,rfl⟩
   rw[show((0:Nat):Int)=0 from rfl,kO] at k;simp only at k;rw[k.1,k.2.1];rfl
 by_cases c1:b.X.A≥b.X.B
 ·rw[ka c1];exact K true (λ_=>qLy l (.inl c1))
 rw[ke c1];by_cases c2:b.Y.A≥b.Y.B
 ·rw[ka c2];exact K true (λ_=>qLy l (.inr (.inl c2)))
 rw[ke c2];exact K _ (λq=>qLy l (.inr (.inr (uw q))))
theorem qPK {l:List qB} (h:VSol l) (r:Rect) (z:Span):BJ l r z=some (volS l r.X r.Y z):=by
 unfold BJ;rw[qIE h];rfl
theorem qL9 {l:List qB} (h:VSol l) (r:Rect):ET l r=some (volS l r.X r.Y ⟨0,solLen l⟩):=by
 unfold ET;rw[(TH l).2,PL h];simp only[kg,qPK h]
def GT (n:Int) (a:Int) (s:List Int×Bool):List Int×Bool:=if s.2=true then(s.1++[a],true) else if a≥n then((if a>n then s.1++[n] else s.1)++[a],true) else(s.1++[a],false)
theorem qUi (n:Int):∀(l:List Int) (x:Nat) (o:List Int),foldi (λ_=>GT n) x l (o,true)=(o++l,true)
 |[],x,o=>by simp[foldi]
 |a::l,x,o=>by
  have ea:GT n a (o,true)=(o++[a],true):=by unfold GT;rw[if_pos rfl]
  show foldi _ (x+1) l (GT n a (o,true))=_;rw[ea,qUi n l (x+1) (o++[a])];simp
theorem qT7 (n:Int):∀(l:List Int) (x:Nat) (o:List Int),(if(foldi (λ_=>GT n) x l (o,false)).2=true then(foldi (λ_=>GT n) x l (o,false)).1 else(foldi (λ_=>GT n) x l (o,false)).1++[n])=o++insI n l
 |[],x,o=>by simp[foldi,insI]
 |a::l,x,o=>by
  have e:foldi (λ_=>GT n) x (a::l) (o,false)=foldi (λ_=>GT n) (x+1) l (GT n a (o,false)):=rfl;rw[e];by_cases c:a≥n
  ·have ea:GT n a (o,false)=((if a>n then o++[n] else o)++[a],true):=by unfold GT;rw[if_neg (by simp),if_pos c]
   have ei:insI n (a::l)=if a=n then a::l else n::a::l:=by unfold insI;rw[if_neg (by omega)]
   rw[ea,qUi,ei];simp only[if_true];by_cases c2:a>n
   ·rw[if_pos c2,if_neg (by omega)];simp
   ·rw[if_neg c2,if_pos (by omega)];simp
  ·have ea:GT n a (o,false)=(o++[a],false):=by unfold GT;rw[if_neg (by simp),if_neg c]
   rw[ea,qT7 n l (x+1) (o++[a])];have ei:insI n (a::l)=a::insI n l:=by
    conv=>lhs;unfold insI
    rw[if_pos (by omega)]
   rw[ei];simp
theorem qUr (l:List Int) (n:Int) (hl:l.length<=100000):qDs l n=some (insI n l):=by
 unfold qDs;have k:=jJ l (λm (s:List Int×Bool) x=>UN l n m s.1 s.2 x) (λx=>(x:Int)) (λ_=>GT n) (λs=>s) (λx s=>s.1.length<=x+1/\(s.2=false->s.1.length<=x)) (by omega)
  (λm x s hx hi=>by
   obtain⟨o,d⟩:=s;simp only at hi;rw[UN,ka (by omega),qJ (by omega)];unfold GT;cases d with
   |true=>
    simp only[kG,kr,kp,if_true];unfold EH EG;rw[qJ (by omega),wJ (by omega),qM (by omega)];simp only[kp,kr,ko];exact⟨trivial,by simp;omega,λh=>by cases h⟩
   |false=>
    have hi2:=hi.2 rfl;simp only[uC,kp,ko,uG,if_false];unfold EH qBA EG;rw[qJ (by omega),qM (by omega)];simp only[kp,ko];by_cases c:l.getD x daa≥n
    ·rw[ka c,if_pos c];by_cases c2:l.getD x daa>n
     ·rw[ka c2,if_pos c2,wJ (by omega),QH (by simp;omega) (by omega)];exact⟨rfl,by simp;omega,λh=>by cases h⟩
     ·rw[ke c2,if_neg c2,wJ (by omega)];exact⟨rfl,by simp;omega,λh=>by cases h⟩
    ·rw[ke c,if_neg c,wJ (by omega)];exact⟨rfl,by simp;omega,λ_=>by simp;omega⟩)
  (λm s _=>by rw[UN];simp) (i:=0) rfl ([],false) (by simp)
 simp only at k;rw[k.1];simp only[kg];have f:=qT7 n l 0 [];rw[uj] at f;have kl:=k.2.1;generalize foldi (λ_=>GT n) 0 l ([],false)=q at f kl;unfold qBq;obtain⟨q1,q2⟩:=q;cases q2 with
 |true=>simp only[kG,kr];rw[<-f];rfl
 |false=>
  simp only[uC,kp];rw[QH (by simp only at kl;omega) (by omega),<-f];rfl
theorem qNy :∀(l:List Product) (x:Nat) (s:List Int),foldi (λ_ (p:Product) s=>insI (qT p).2 (insI (qT p).1 s)) x l s=insG l s
 |[],_,s=>rfl
 |p::l,x,s=>qNy l (x+1) _
theorem qTk (ps:List Product):qAj ps=some (hts ps):=by
 unfold qAj;rw[qBQ];simp only[kg];by_cases h:wF ps=0
 ·have hl:=qBa (l:=ps) (by simpa using h);rw[h,kA,kr];have k:=jJ ps (λn (s:List Int) x=>XS ps n s x) (λx=>(x:Int)) (λ_ p s=>insI (qT p).2 (insI (qT p).1 s)) (λs=>s) (λx s=>s.length<=2*x) (by omega)
   (λn x s hx hi=>by
    have i1:=qK3 (qT (ps.getD x daa)).1 s;have i2:=qK3 (qT (ps.getD x daa)).2 (insI (qT (ps.getD x daa)).1 s);refine⟨?_,by omega⟩;rw[XS,ka (by omega),qJ (by omega),qM (by omega)];simp only[kp,ko,(AE _).2,kg];rw[qUr _ _ (by omega)];simp only[kg];rw[qUr _ _ (by omega)];rfl)
   (λn s _=>by rw[XS];simp) (i:=0) rfl [] (kq _)
  rw[k.1,qNy,qYA h];rfl
 ·have h':(wF ps !=0)=true:=by simpa using h
  rw[h',kp];unfold hts;rw[if_neg h]
def mrg (x v:Rect):Rect:=⟨⟨imin x.X.A v.X.A,imax x.X.B v.X.B⟩,⟨imin x.Y.A v.Y.A,imax x.Y.B v.Y.B⟩⟩
def bndI (l:List qB) (i:Nat):Rect:=qG4 (QO (l.getD i daa).Sec)
def bndL (l:List qB):Rect:=foldN (λi s=>if i=0 then mrg (bndI l 0) (bndI l 0) else mrg s (bndI l i)) 0 l.length ⟨⟨0,0⟩,⟨0,0⟩⟩
theorem qXb (a:Int):imin a a=a:=by rcases imin_or a a with h|h<;>omega
theorem qW2 (a:Int):imax a a=a:=by unfold imax;split<;>rfl
theorem qYQ (r:Rect):mrg r r=r:=by unfold mrg;simp only[qXb,qW2]
theorem qK1 (l:List qB):LK l=some (bndL (valL l))/\qCP l=some (bndL (valL l)):=by
 unfold LK qCP qER qEZ;rw[qJ8,(UK l).2];simp only[kg];by_cases h:DP l=0
 ·have hv:=(KR l).1 h;have hl:=hv.len;have hne:=hv.ne;have e1:valL l=l:=PL hv;rw[e1,h,kA,kr,qJ (by omega)];simp only[kp,show(0:Int).toNat=0 from rfl,(qJi _).2,kg];have k1:=zA l.length (λn (s:Rect) x=>ZM l n x s) (λi s=>if i=0 then mrg (bndI l 0) (bndI l 0) else mrg s (bndI l i)) (λs=>s) (λ_ _=>True) 0 (by omega) (by omega)
   (λn i s hi _=>by
    refine⟨?_,trivial⟩;rw[ZM,ka (by omega),qJ (by omega)];simp only[kp,ko,(qJi _).1,kg,HF,qM (show i<4611686018427387904 by omega)];by_cases c:i=0
    ·subst c;rfl
    ·rw[if_neg c,show((i:Int)==0)=false by rw[kC];omega];rfl)
   (λn s _=>by rw[ZM];simp) ⟨⟨0,0⟩,⟨0,0⟩⟩ trivial
  have k2:=zA l.length (λn (s:Rect) x=>RE l n x s) (λi s=>mrg s (bndI l i)) (λs=>s) (λ_ _=>True) 1 (by omega) (by omega)
   (λn i s hi _=>by
    refine⟨?_,trivial⟩;rw[RE,ka (by omega),qJ (by omega)];simp only[kp,ko,(qJi _).2,kg,qM (show i<4611686018427387904 by omega)];rfl)
   (λn s _=>by rw[RE];simp) (bndI l 0) trivial
  rw[show((0:Nat):Int)=0 from rfl] at k1;rw[show((1:Nat):Int)=1 from rfl] at k2;have e2:qG4 (QO (l.getD 0 daa).Sec)=bndI l 0:=rfl;rw[k1.1,e2,k2.1];refine⟨rfl,?_⟩;simp only[kg];unfold bndL;obtain⟨m,hm⟩:∃m,l.length=m+1:=⟨l.length-1,by omega⟩
  rw[hm,foldN,if_pos rfl,qYQ]
  congr 1
  exact MY λi hi _ s=>by rw[if_neg (by omega)]
 ·have h':(DP l !=0)=true:=by simpa using h
  have e1:valL l=[]:=by unfold valL;rw[if_neg h]
  rw[e1,h',kp];refine⟨?_,rfl⟩;obtain⟨k,hk⟩:∃k,FUEL=k+1:=⟨FUEL-1,by rw[FUEL_eq]⟩
  rw[hk,ZM];rfl
variable {l :List qB} {ds:List qC} {ps:List Product} {F:Rect} {w:Saw} {t:Rates}
theorem gnP_eq (l:List qB) (ds:List qC) (ps:List Product) (F:Rect) (w:Saw) (t:Rates) {i q:Nat} (hi:i<(hts ps).length) (hq:(q:Int)+(hts ps).getD i daa<=hei F):gnAt (zM l ds ps F w t) i q=(stG l ds ps F w t ((hts ps).getD i daa) q).1:=by
 unfold gnAt zM;simp only;rw[wI _ hi,wI _ (by unfold nRow;omega)]
end Saw
end Go.SL
namespace Go.SL
namespace Saw
theorem qPb (p:Product) (n:Int) (h:p.Lengths.length<=1000000):CG p n=some (price p n):=by
 unfold CG price;have L:XW p n FUEL ((0:Nat):Int)=some (findN (priceAt p n) 0 (p.Lengths.length-0)):=by
  refine QI p.Lengths.length (XW p n) _ 0 (by omega) (by omega) (λm i hi hN=>?_) (λm=>?_)
  ·rw[XW,ka (by omega),qJ (by omega)];simp only[kp,ko,qM (show i<4611686018427387904 by omega),priceAt];by_cases c:p.Lengths.getD i daa≠n
   ·rw[if_pos c,show(p.Lengths.getD i daa==n)=false by rw[kC];exact c];rfl
   rw[if_neg c,show(p.Lengths.getD i daa==n)=true by rw[gh];omega];by_cases c2:p.Prices.length<=i
   ·rw[if_pos c2,ka (show(i:Int)≥(p.Prices.length:Int) by omega)];rfl
   ·rw[if_neg c2,ke (show¬(i:Int)≥(p.Prices.length:Int) by omega),qJ (by omega)];rfl
  ·rw[XW,ke (by omega)];rfl
 rw[show((0:Nat):Int)=0 from rfl,kO] at L;rw[L];simp only[kg];cases findN (priceAt p n) 0 p.Lengths.length<;>rfl
theorem qX8 (x y:Span):AR x y=some (nrm (mxS x y)):=by
 unfold AR nrm mxS empS;simp only;show(bif decide (imin x.B y.B<=imax x.A y.A) then _ else _)=_;cases decide (imin x.B y.B<=imax x.A y.A)<;>rfl
theorem qKQ (d:qC) (b:Box):ME d b=some (tch d.Box b):=by
 unfold ME qHA tch;simp only[qX8,kg,qO9,qA6]
def wdL (b:Box) (fine:Int):List qC->Int->(Int×Bool)⊕Int
 |[],v=> .inr v
 |d::ds,v=>bif tch d.Box b then(bif d.Kind==3 then .inl (0,false) else wdL b fine ds (v-fine)) else wdL b fine ds v
theorem qJ7 (ds:List qC) (b:Box) (fine:Int):∀(k x:Nat) (v:Int),x+k=ds.length->runN (dstep ds b fine) x k v=wdL b fine (ds.drop x) v
 |0,x,v,h=>by rw[dF (by omega)];rfl
 |k+1,x,v,h=>by
  rw[JE ds x (by omega)];unfold runN wdL dstep;cases tch (ds.getD x daa).Box b with
  |false=>exact qJ7 ds b fine k (x+1) v (by omega)
  |true=>cases (ds.getD x daa).Kind==3 with
   |true=>rfl
   |false=>exact qJ7 ds b fine k (x+1) (v-fine) (by omega)
theorem qTG (ds:List qC) (b:Box):near ds b=ds.filter (λd=>tch d.Box b):=by
 unfold near;have key:∀k,k<=ds.length->foldN (λi t=>bif tch (ds.getD i daa).Box b then t++[ds.getD i daa] else t) 0 k ([]:List qC)=(ds.take k).filter (λd=>tch d.Box b):=by
  intro k
  induction k with
  |zero=>intro _;rfl
  |succ k ih=>
   intro hk;have tk:ds.take (k+1)=ds.take k++[ds.getD k daa]:=by rw[ge,ki,ks (by omega)];rfl
   rw[yK,ih (by omega),kz,tk,List.filter_append];generalize ds.getD k daa=d;cases h:tch d.Box b<;>simp[List.filter,h]
 rw[key _ (kq _),de]
theorem qD9 {b W:Box} (fine:Int) (h:∀d:Box,tch d b=true->tch d W=true):∀(ds:List qC) (v:Int),wdL b fine (ds.filter (λd=>tch d.Box W)) v=wdL b fine ds v
 |[],v=>rfl
 |d::ds,v=>by
  cases hW:tch d.Box W with
  |true=>
   rw[List.filter_cons,hW];simp only[if_true];unfold wdL;rw[qD9 fine h ds,qD9 fine h ds]
  |false=>
   have hb:tch d.Box b=false:=by cases e:tch d.Box b with|false=>rfl|true=>rw[h _ e] at hW;cases hW
   rw[List.filter_cons,hW];simp only[uG,if_false];rw[qD9 fine h ds]
   conv=>rhs;unfold wdL
   rw[hb];rfl
theorem qKF {ds:List qC} {b W:Box} (fine v:Int) (h:∀d:Box,tch d b=true->tch d W=true):JZ (near ds W) b fine v=JZ ds b fine v:=by
 unfold JZ;rw[qJ7 _ _ _ _ 0 _ (by omega),qJ7 _ _ _ _ 0 _ (by omega),uI,uI,qTG,qD9 fine h]
theorem qTY {x y s:Span} {n:Int} (h1:0<=s.A) (h2:s.B<=n) (d:Box):tch d ⟨x,y,s⟩=true->tch d ⟨x,y,⟨0,n⟩⟩=true:=by
 unfold tch;simp only;have e:empS (mxS d.Z s)=false->empS (mxS d.Z ⟨0,n⟩)=false:=λh=>by
  have h':¬imin d.Z.B s.B<=imax d.Z.A s.A:=of_decide_eq_false h;have a1:=imin_or d.Z.B s.B;have a2:=wZ d.Z.A s.A;have a3:=imin_or d.Z.B n;have a4:=wZ d.Z.A 0;refine ke (show¬imin d.Z.B n<=imax d.Z.A 0 from ?_);omega
 cases empS (mxS d.X x)<;>cases empS (mxS d.Y y)<;>cases hz:empS (mxS d.Z s)<;>simp;exact e hz
def bad3 (ds:List qC) (b:Box) (i:Nat):Option Bool:=bif (ds.getD i daa).Kind==3&&tch (ds.getD i daa).Box b then some false else none
def qGd (ds:List qC) (b:Box) (fine:Int) (i:Nat) (v:Int):Int:=bif tch (ds.getD i daa).Box b then v-fine else v
theorem qF8 (ds:List qC) (b:Box) (fine:Int):∀(k x:Nat) (v:Int),runN (dstep ds b fine) x k v=match findN (bad3 ds b) x k with| .inl _=> .inl (0,false)| .inr _=> .inr (foldN (qGd ds b fine) x k v)
 |0,x,v=>rfl
 |k+1,x,v=>by
  unfold runN findN foldN;cases h1:tch (ds.getD x daa).Box b with
  |false=>
   have e1:dstep ds b fine x v= .inr v:=by unfold dstep;rw[h1];rfl
   have e2:bad3 ds b x=none:=by unfold bad3;rw[h1,Bool.and_false];rfl
   have e3:qGd ds b fine x v=v:=by unfold qGd;rw[h1];rfl
   rw[e1,e2,e3];exact qF8 ds b fine k (x+1) v
  |true=>cases h2:(ds.getD x daa).Kind==3 with
   |true=>
    have e1:dstep ds b fine x v= .inl (0,false):=by unfold dstep;rw[h1,h2];rfl
    have e2:bad3 ds b x=some false:=by unfold bad3;rw[h1,h2];rfl
    rw[e1,e2]
   |false=>
    have e1:dstep ds b fine x v= .inr (v-fine):=by unfold dstep;rw[h1,h2];rfl
    have e2:bad3 ds b x=none:=by unfold bad3;rw[h1,h2];rfl
    have e3:qGd ds b fine x v=v-fine:=by unfold qGd;rw[h1];rfl
    rw[e1,e2,e3];exact qF8 ds b fine k (x+1) (v-fine)
theorem qUW (ds:List qC) (b:Box):∀(k x:Nat) (e:Bool),findN (bad3 ds b) x k= .inl e->e=false:=by
 intro k x e h;obtain⟨i,_,_,c,_⟩:=WK h;unfold bad3 at c;cases hc:(ds.getD i daa).Kind==3&&tch (ds.getD i daa).Box b with
 |true=>rw[hc] at c;cases c;rfl
 |false=>rw[hc] at c;cases c
theorem hit_ml {l:List qB} (h:VSol l) {i:Nat} (hi:i<l.length) {s:Span} (hs:s.A<s.B):decide (ml (ext l i) s>0)=hitZ (ext l i) s:=by
 have at':=(h.at hi).2.2;have e2:(ext l i).B=lenTo l i+(l.getD i daa).Len:=zZ l i;have e1:(ext l i).A=lenTo l i:=rfl;unfold hitZ;rw[qDi,e1,e2];have a1:=imin_or (lenTo l i+(l.getD i daa).Len) s.B;have a2:=wZ (lenTo l i) s.A;rw[dX];simp only[decide_eq_true_eq,kv];split<;>omega
def cutL (l:List qB) (s:Span) (k:Nat):List qB:=(List.range k).filterMap (λi=>if ml (ext l i) s>0 then some ⟨ml (ext l i) s,(l.getD i daa).Sec⟩ else none)
theorem qI2 (l:List qB) (s:Span) (k:Nat):cutL l s (k+1)=if ml (ext l k) s>0 then cutL l s k++[⟨ml (ext l k) s,(l.getD k daa).Sec⟩] else cutL l s k:=by
 unfold cutL;rw[ul,List.filterMap_append];by_cases c:ml (ext l k) s>0
 ·rw[if_pos c];simp[c]
 ·rw[if_neg c];simp[c]
theorem qLv (l:List qB) (s:Span):∀k,(cutL l s k).length<=k
 |0=>by simp[cutL]
 |k+1=>by
  have:=qLv l s k;rw[qI2];split<;>simp<;>omega
theorem Cut_eq {l:List qB} (h:VSol l) (s:Span):qGg l s=some (cutL l s l.length):=by
 have hl:=h.len;unfold qGg;rw[(UK l).2,(KR l).2 h];simp only[kg,kA,kr];have k:=zA l.length (λn (t:List qB×Int) i=>UG l s n t.1 t.2 i) (λi t=>(cutL l s (i+1),lenTo l (i+1))) (λt=>t.1)
  (λi t=>t.1=cutL l s i/\t.2=lenTo l i) 0 (by omega) (by omega)
  (λn i t hi ht=>by
   obtain⟨t1,t2⟩:=t;obtain⟨e1,e2⟩:=ht;simp only at e1 e2;have bd:=h.bd (i:=i) (by omega);have at':=(h.at hi).2.2;rw[zZ] at at';refine⟨?_,rfl,rfl⟩;simp only;rw[UG,ka (by omega),qJ (by omega)];simp only[kp,ko,qM (show i<4611686018427387904 by omega),e2,qOO h hi s,kg,qBp];rw[qD (n:=lenTo l i+(l.getD i daa).Len) (by omega),<-zZ,qI2];have cl:=qLv l s i;by_cases c:ml (ext l i) s>0
   ·rw[ka c,if_pos c,QH (by rw[e1];omega) (by omega),e1];rfl
   ·rw[ke c,if_neg c,e1];rfl)
  (λn t _=>by rw[UG,ke (by omega)];rfl) ([],0) ⟨rfl,rfl⟩
 rw[show((0:Nat):Int)=0 from rfl,kO] at k;simp only at k;rw[k.1,k.2.1];rfl
theorem qXR {l:List qB} {s:Span} {k:Nat}:∀x∈cutL l s k,∃i,i<k/\x.Sec=(l.getD i daa).Sec:=by
 intro x hx;unfold cutL at hx;rw[List.mem_filterMap] at hx;obtain⟨i,hi,e⟩:=hx;refine⟨i,by simpa using hi,?_⟩;split at e
 ·cases e;rfl
 ·cases e
theorem wane_eq {l:List qB} (h:VSol l) {r:Rect} (hr:VR r) {s:Span} (hs:s.A<s.B):qEx l ⟨r.X,r.Y,s⟩=some (worst (zones l r) s):=by
 have hl:=h.len;have ha:=qUR hr;have eA:w64 (w64 (r.X.B-r.X.A)*w64 (r.Y.B-r.Y.A))=ZF r:=by
  have hr':=hr;unfold VR at hr';rw[qD (n:=r.X.B-r.X.A) (by omega),qD (n:=r.Y.B-r.Y.A) (by omega)];unfold ZF at ha⊢;exact qD (by omega)
 unfold qEx;rw[Cut_eq h];simp only[kg];have cl:=qLv l s l.length;have k:=jJ (cutL l s l.length) (λn (m:Int) i=>GK ⟨r.X,r.Y,s⟩ (cutL l s l.length) n m i) (λx=>(x:Int)) (λ_ a m=>imax m (IJ (ZF r) (zJ a.Sec r.X r.Y))) (λm=>m) (λ_ _=>True) (by omega)
  (λn x m hx _=>by
   refine⟨?_,trivial⟩;obtain⟨i,hi,es⟩:=qXR _ (zK hx);have vs:=(h.at hi).1;rw[GK,ka (by omega),qJ (by omega)];simp only[kp,ko,qM (show x<4611686018427387904 by omega),qM9,kg,eA,es];have wb:=qLz vs r.X r.Y;rw[ST vs,nz_t (by omega),qD (n:=ZF r-zJ (l.getD i daa).Sec r.X r.Y) (by omega),qD (n:=1000*_) (by omega),qD (n:=1000*_+_) (by omega),qD (n:=1000*_+_-1) (by omega)];simp only[kp];have tb: -2000000000<=IJ (ZF r) (zJ (l.getD i daa).Sec r.X r.Y)/\IJ (ZF r) (zJ (l.getD i daa).Sec r.X r.Y)<=2000000000:=by
    unfold IJ;generalize hu:1000*(ZF r-zJ (l.getD i daa).Sec r.X r.Y)+ZF r-1=u;have hub: -1440000000<=u/\u<=1441440000:=by omega
    have ab:=Int.natAbs_tdiv_le_natAbs u (ZF r);omega
   unfold IJ at tb⊢;rw[qD (by omega)])
  (λn m _=>by rw[GK,ke (by omega)];rfl) (i:=0) rfl 0 trivial
 rw[k.1,qGx];simp only[kg];unfold worst;rw[qPl];have key:∀j,j<=l.length->(cutL l s j).foldl (λm a=>imax m (IJ (ZF r) (zJ a.Sec r.X r.Y))) 0=foldN (λi m=>bif hitZ ((zones l r).getD i daa).z s then imax m ((zones l r).getD i daa).lack else m) 0 j 0:=by
  intro j
  induction j with
  |zero=>intro _;rfl
  |succ j ih=>
   intro hj;have hz:(zones l r).getD j daa=⟨ext l j,IJ (ZF r) (zJ (l.getD j daa).Sec r.X r.Y)⟩:=by unfold zones;exact wI _ (by omega)
   rw[yK,<-ih (by omega),kz,hz,qI2];simp only;rw[<-hit_ml h (by omega) hs];by_cases c:ml (ext l j) s>0
   ·rw[if_pos c,ka c,List.foldl_append];rfl
   ·rw[if_neg c,ke c];rfl
 rw[key _ (kq _)]
theorem qOX {x:Span} (h: -600<=x.A/\x.A<x.B/\x.B<=600):EY x=some true:=by
 unfold EY DS;rw[ka (show x.A≥-600 by omega),ka h.2.1,ka h.2.2];rfl
theorem qWn {l:List qB} (h:VSol l) {r:Rect} (hr:VR r) (s:Span):qBI l ⟨r.X,r.Y,s⟩=some (decide (0<=s.A/\s.A<s.B/\s.B<=solLen l)):=by
 unfold qBI YK;rw[qOX hr.1,qOX hr.2,(TH l).2,PL h];simp only[kg,kp];by_cases c1:s.A≥0
 ·rw[ka c1];by_cases c2:s.A<s.B
  ·rw[ka c2];simp only[kp]
   congr 1
   rw[decide_eq_decide];omega
  ·rw[ke c2,ke (show¬(0<=s.A/\s.A<s.B/\s.B<=solLen l) by omega)];rfl
 ·rw[ke c1,ke (show¬(0<=s.A/\s.A<s.B/\s.B<=solLen l) by omega)];rfl
theorem qXq {l:List qB} (h:VSol l) {ds:List qC} (hd:ds.length<=64) {p:Product} (hv:VP p) {r:Rect} (hr:VR r) (fine:Int) (s:Span):qB0 l ds p ⟨r.X,r.Y,s⟩=some (dimOk r p&&(worthV (viewOf l ds p r) s fine).2):=by
 have hr':=hr;unfold VR at hr';have hll:=hv.ll;have sb:=qCh h;unfold qB0;rw[qWn h hr];simp only[kg];unfold worthV;rw[show(viewOf l ds p r).length=solLen l from rfl];by_cases c':¬(0<=s.A/\s.A<s.B/\s.B<=solLen l)
 ·rw[ke c',if_neg c',Bool.and_false];rfl
 have c:0<=s.A/\s.A<s.B/\s.B<=solLen l:=Decidable.not_not.1 c';rw[ka c,if_pos c,(AE p).2,qD (n:=s.B-s.A) (by omega),qPb p _ (by omega),qD (n:=r.X.B-r.X.A) (by omega),qD (n:=r.Y.B-r.Y.A) (by omega)];simp only[kg,kG,kr];rw[show(viewOf l ds p r).product=p from rfl,show(viewOf l ds p r).zones=zones l r from rfl,show(viewOf l ds p r).rect=r from rfl,show(viewOf l ds p r).defects=near ds ⟨r.X,r.Y,⟨0,solLen l⟩⟩ from rfl,qKF fine _ (qTY c.1 c.2.2)];have K:jC l ds p ⟨r.X,r.Y,s⟩ false=some ((if worst (zones l r) s>p.Wane then((0:Int),false) else JZ ds ⟨r.X,r.Y,s⟩ fine (price p (s.B-s.A)).1).2):=by
  unfold jC;have L:ZV ds ⟨r.X,r.Y,s⟩ FUEL ((0:Nat):Int)=some (findN (bad3 ds ⟨r.X,r.Y,s⟩) 0 (ds.length-0)):=by
   refine QI ds.length (ZV ds ⟨r.X,r.Y,s⟩) _ 0 (by omega) (by omega) (λm i hi hN=>?_) (λm=>?_)
   ·rw[ZV,ka (by omega),qJ (by omega)];simp only[kp,ko,qM (show i<4611686018427387904 by omega),qKQ,kg,HZ,bad3];cases (ds.getD i daa).Kind==3<;>cases tch (ds.getD i daa).Box ⟨r.X,r.Y,s⟩<;>rfl
   ·rw[ZV,ke (by omega)];rfl
  rw[show((0:Nat):Int)=0 from rfl,kO] at L;rw[L,wane_eq h hr c.2.1];unfold JZ;rw[qF8];simp only[kr,kg];cases hf:findN (bad3 ds ⟨r.X,r.Y,s⟩) 0 ds.length with
  |inl e=>
   rw[qUW _ _ _ _ _ hf];simp only[Sum.elim_inl];split<;>rfl
  |inr u=>
   simp only[Sum.elim_inr];by_cases c4:worst (zones l r) s>p.Wane
   ·rw[if_pos c4,ke (by omega)]
   ·rw[if_neg c4,ka (by omega)]
 have KT:jC l ds p ⟨r.X,r.Y,s⟩ true=some false:=rfl;have KB:∀q,jC l ds p ⟨r.X,r.Y,s⟩ q=some (!q&&((if worst (zones l r) s>p.Wane then((0:Int),false) else JZ ds ⟨r.X,r.Y,s⟩ fine (price p (s.B-s.A)).1).2)):=λq=>by
  cases q with
  |true=>exact KT
  |false=>rw[K];rfl
 simp only[KB];cases hq:(price p (s.B-s.A)).2 with
 |false=>simp only[uC,kp,kG,Bool.false_and,kr,Bool.and_false]
 |true=>
  simp only[kG,kr,kp,dimOk];generalize (if worst (zones l r) s>p.Wane then((0:Int),false) else JZ ds ⟨r.X,r.Y,s⟩ fine (price p (s.B-s.A)).1).2=W;cases r.X.B-r.X.A==(qT p).1<;>cases r.Y.B-r.Y.A==(qT p).2<;>cases r.X.B-r.X.A==(qT p).2<;>cases r.Y.B-r.Y.A==(qT p).1<;>rfl
theorem qWG {l:List qB} (h:VSol l) {ds:List qC} (hd:ds.length<=64) {p:Product} (hv:VP p) {r:Rect} {fine:Int} (hf:0<=fine/\fine<=1000000) {s:Span} (ha:(worthV (viewOf l ds p r) s fine).2=true):qCJ ds p ⟨r.X,r.Y,s⟩ fine=some (worthV (viewOf l ds p r) s fine).1:=by
 have hll:=hv.ll;have sb:=qCh h;unfold qCJ;unfold worthV at ha⊢;rw[show(viewOf l ds p r).length=solLen l from rfl] at ha⊢;by_cases c':¬(0<=s.A/\s.A<s.B/\s.B<=solLen l)
 ·rw[if_neg c'] at ha;cases ha
 have c:0<=s.A/\s.A<s.B/\s.B<=solLen l:=Decidable.not_not.1 c';rw[if_pos c] at ha⊢;rw[show(viewOf l ds p r).product=p from rfl,show(viewOf l ds p r).zones=zones l r from rfl,show(viewOf l ds p r).rect=r from rfl,show(viewOf l ds p r).defects=near ds ⟨r.X,r.Y,⟨0,solLen l⟩⟩ from rfl,qKF fine _ (qTY c.1 c.2.2)] at ha⊢;rw[qD (n:=s.B-s.A) (by omega),qPb p _ (by omega)];simp only[kg];have pb:=qN8 hv (s.B-s.A);cases hq:(price p (s.B-s.A)).2 with
 |false=>rw[hq] at ha;cases ha
 |true=>
  rw[hq] at ha;simp only[kp] at ha⊢;by_cases c4:worst (zones l r) s>p.Wane
  ·rw[if_pos c4] at ha;cases ha
  rw[if_neg c4] at ha⊢;have k:=zA ds.length (λn (v:Int) i=>KE ds ⟨r.X,r.Y,s⟩ fine n v i) (qGd ds ⟨r.X,r.Y,s⟩ fine) (λv=>v) (λi v=> -(1000000*(i:Int))<=v/\v<=1000000) 0 (by omega) (by omega)
   (λn i v hi hv'=>by
    refine⟨?_,?_⟩
    ·rw[KE,ka (by omega),qJ (by omega)];simp only[kp,ko,qM (show i<4611686018427387904 by omega),qKQ,kg,OS,qGd];rw[qD (n:=v-fine) (by omega)];cases tch (ds.getD i daa).Box ⟨r.X,r.Y,s⟩<;>rfl
    ·unfold qGd;cases tch (ds.getD i daa).Box ⟨r.X,r.Y,s⟩ with
     |true=>simp only[kp];omega
     |false=>simp only[kr];omega)
   (λn v _=>by rw[KE,ke (by omega)];rfl) (price p (s.B-s.A)).1 (by omega)
  rw[show((0:Nat):Int)=0 from rfl,kO] at k;rw[k.1];unfold JZ at ha⊢;rw[qF8] at ha⊢;cases hf2:findN (bad3 ds ⟨r.X,r.Y,s⟩) 0 ds.length with
  |inl e=>rw[hf2] at ha;cases ha
  |inr u=>
   simp only[kg]
   congr 1
   unfold imax;split<;>split<;>omega
theorem qVq {l:List qB} (h:VSol l) {ds:List qC} (hd:ds.length<=64) {p:Product} (hv:VP p) {r:Rect} (hr:VR r) {fine z:Int} (hf:0<=fine/\fine<=1000000) (h0:0<=z) (h1:z<=20000) (st:Int×Bool×Span):
  WM l ds p r fine z FUEL st.1 st.2.1 0 st.2.2=some (bif dimOk r p then qDq (viewOf l ds p r) fine z st else st):=by
 have hll:=hv.ll;have k:=zA p.Lengths.length (λn (s:Int×Bool×Span) i=>WM l ds p r fine z n s.1 s.2.1 i s.2.2) (λi st=>bif dimOk r p then CE st (worthV (viewOf l ds p r) (spanAt p z i) fine) (spanAt p z i) else st) (λs=>s) (λ_ _=>True) 0 (by omega) (by omega)
  (λn i s hi _=>⟨by
   obtain⟨s1,s2,s3⟩:=s;have lb:=hv.lb i hi
   try simp only
   rw[WM,ka (by omega),qJ (by omega)];simp only[kp,ko,qM (show i<4611686018427387904 by omega)];rw[qD (n:=z+p.Lengths.getD i daa) (by omega)];rw[show(Box.mk r.X r.Y ⟨z,z+p.Lengths.getD i daa⟩)=⟨r.X,r.Y,spanAt p z i⟩ from rfl,qXq h hd hv hr fine];simp only[kg];cases hdm:dimOk r p with
   |false=>simp only[Bool.false_and,uC,kp,kr,RF,qM (show i<4611686018427387904 by omega)]
   |true=>
    simp only[Bool.true_and,kp];cases ha:(worthV (viewOf l ds p r) (spanAt p z i) fine).2 with
    |false=>
     have:CE (s1,s2,s3) (worthV (viewOf l ds p r) (spanAt p z i) fine) (spanAt p z i)=(s1,s2,s3):=by unfold CE;rw[ha];rfl
     rw[this];simp only[uC,kp,RF,qM (show i<4611686018427387904 by omega)]
    |true=>
     rw[qWG h hd hv hf ha];simp only[kg,kG,kr,qAi,RF,CE,ko,qM (show i<4611686018427387904 by omega)];rw[ha,qD (n:=z+p.Lengths.getD i daa) (by omega)];cases s2<;>cases decide ((worthV (viewOf l ds p r) (spanAt p z i) fine).1>s1)<;>rfl,trivial⟩)
  (λn s _=>by rw[WM,ke (by omega)];rfl) st trivial
 rw[show((0:Nat):Int)=0 from rfl,kO] at k;rw[k.1];cases dimOk r p with
 |true=>rfl
 |false=>
  have:∀m,foldN (λi (st:Int×Bool×Span)=>bif false then CE st (worthV (viewOf l ds p r) (spanAt p z i) fine) (spanAt p z i) else st) 0 m st=st:=λm=>by
   induction m with
   |zero=>rfl
   |succ m ih=>rw[yK,ih];rfl
  rw[this];rfl
theorem qVW {l:List qB} {ds:List qC} {p:Product} {r:Rect} {step fine:Int} (hs:VSol l) (hd:QD ds=0) (hp:wF [p]=0) (hv:VP p) (hr:VR r) (hst:1<=step/\step<=20000) (hf:0<=fine/\fine<=1000000):
  qEe l ds p r step fine=some ((bestR l ds p r step fine).2.2,(bestR l ds p r step fine).1,(bestR l ds p r step fine).2.1):=by
 have hdl:=((yO ds).1 hd).1;have sb:=qCh hs;unfold qEe ML qGt NB;rw[qLI,qLI,ka hst,ka hf,(UK l).2,(KR l).2 hs,qFo,hd,qBQ,hp];simp only[kg,kG,kr,uU,kp];have hN:EW (solLen l) step<=1000000000:=by
  unfold EW;have:=Int.ediv_le_self step (show 0<=solLen l+step-1 by omega);omega
 have k:=qHC (EW (solLen l) step) (λn (s:Int×Bool×Span) (z:Int)=>VT l ds p r step fine n s.1 s.2.1 z s.2.2) (λk=>(k:Int)*step) (λk st=>bif dimOk r p then qDq (viewOf l ds p r) fine ((k:Int)*step) st else st) (λs=>s) (λ_ _=>True) hN
  (λn i s hi _=>⟨by
   have h1:=(qFI (by omega) hst.1).1 hi;have h0:0<=(i:Int)*step:=ky (by omega) (by omega);have e:(i:Int)*step+step=((i+1:Nat):Int)*step:=by rw[Int.natCast_add,gy];simp
   try simp only
   rw[VT,(TH l).2,PL hs];simp only[kg];rw[ka h1,qVq hs hdl hv hr hf h0 (by omega) s,qD (by omega),e];rfl,trivial⟩)
  (λn s _=>by
   have h1:¬((EW (solLen l) step:Nat):Int)*step<solLen l:=λh=>by have:=(qFI (by omega) hst.1).2 h;omega
   try simp only
   rw[VT,(TH l).2,PL hs];simp only[kg];rw[ke h1];rfl) (0,false,⟨0,0⟩) trivial
 simp only[Int.natCast_zero,dO] at k;rw[k.1];unfold bestR qM8;cases dimOk r p with
 |true=>rfl
 |false=>
  have:∀m,foldN (λk (st:Int×Bool×Span)=>bif false then qDq (viewOf l ds p r) fine ((k:Int)*step) st else st) 0 m (0,false,⟨0,0⟩)=(0,false,⟨0,0⟩):=λm=>by
   induction m with
   |zero=>rfl
   |succ m ih=>rw[yK,ih];rfl
  rw[this];rfl
theorem qX4 {l:List qB} {ds:List qC} {p:Product} {r:Rect} {w:Saw} {t:Rates} (hs:VSol l) (hd:QD ds=0) (hp:wF [p]=0) (hv:VP p) (hr:VR r) (hw:VW w t):qEi l ds p r w t=some (qBG l ds p r w t):=by
 unfold qEi qBG;rw[qVW hs hd hp hv hr hw.step hw.fine];have B:=qLl (l:=l) (ds:=ds) (p:=p) (r:=r) (step:=w.Step) hw.fine.1 hv;generalize bestR l ds p r w.Step t.Fine=b at*;obtain⟨v,f,z⟩:=b;simp only[kg] at*;cases f with
 |false=>rfl
 |true=>
  obtain⟨b1,b2,b3⟩:=B;have b3:=b3 rfl;simp only at b1 b2 b3;simp only[kG,kr,kp];have sb:=qCh hs;have tr:=hw.trim;rw[(TH l).2,PL hs];simp only[kg,qPK hs,qL9 hs];rw[qD (n:=z.A-w.Trim) (by omega),qD (n:=z.B+w.Trim) (by omega)];have v1:=SA hs r.X r.Y ⟨0,solLen l⟩;have v2:=SA hs r.X r.Y z;have v3:=SA hs r.X r.Y ⟨imax 0 (z.A-w.Trim),z.A⟩;have v4:=SA hs r.X r.Y ⟨z.B,imin (z.B+w.Trim) (solLen l)⟩;generalize volS l r.X r.Y ⟨0,solLen l⟩=x1 at*;generalize volS l r.X r.Y z=x2 at*;generalize volS l r.X r.Y ⟨imax 0 (z.A-w.Trim),z.A⟩=x3 at*;generalize volS l r.X r.Y ⟨z.B,imin (z.B+w.Trim) (solLen l)⟩=x4 at*
  have m1:=wS (a:=t.Dust) (b:=x3+x4) (m:=1000) (n:=57600000000) (by have:=hw.dust;omega) (by have:=hw.dust;omega) (by omega) (by omega) (by omega) (by omega);have m2:=wS (a:=t.Chip) (b:=x1-x2-(x3+x4)) (m:=1000) (n:=86400000000) (by have:=hw.chip;omega) (by have:=hw.chip;omega) (by omega) (by omega) (by omega) (by omega);rw[qD (n:=1000000*v) (by omega),qD (n:=x3+x4) (by omega),qD (n:=x1-x2) (by omega),qD (n:=x1-x2-(x3+x4)) (by omega)];generalize t.Dust*(x3+x4)=y1 at*;generalize t.Chip*(x1-x2-(x3+x4))=y2 at*
  rw[qD (n:=y1) (by omega),qD (n:=y2) (by omega),qD (n:=1000000*v+y1) (by omega),qD (by omega)]
theorem qTj {l:List qB} {ds:List qC} {ps:List Product} {r:Rect} {w:Saw} {t:Rates} (h:VE l ds ps r w t) (z:Int) {j:Nat} (hj:j<(zF ps z).1.length):
  XD l ds ps r w t (zF ps z) (j:Int) FUEL [] 0=some (OR l ds (ps.getD ((zF ps z).2.getD j daa).toNat daa) r w t ((zF ps z).1.getD j daa)):=by
 obtain⟨s1,s2,i,hi,ei,vp,c1⟩:=qIn h.pr z hj;have hsl:=(qNR h.pr z).len;have hr:=h.vr;have hr':=hr;unfold VR at hr';have hw:=h.vw;have hp:=hw.pitch;have hd:QD ds=0:=(yO ds).2 ⟨h.dl,h.dd⟩;rw[ei,ko];generalize hsz:(zF ps z).1.getD j daa=sz at*;have k:=zA (wid r-sz+1).toNat (λn (s:List Int) x=>XD l ds ps r w t (zF ps z) (j:Int) n s x) (λx s=>s++[CJ l ds (ps.getD i daa) r w t sz x]) (λs=>s)
  (λx s=>s=(List.range x).map (CJ l ds (ps.getD i daa) r w t sz)) 0 (by omega) (by unfold wid;omega)
  (λn x s hx hs=>by
   unfold wid at hx;have hlen:s.length=x:=by rw[hs];simp
   refine⟨?_,by rw[hs,ul,kU];rfl⟩;rw[XD];simp only[ko,hsz,ei];rw[ZT (show(0:Int)<=(j:Int) by omega) (show(j:Int)<((zF ps z).1.length:Int) by omega),qD (n:=(x:Int)+sz) (by omega),qD (n:=r.X.B-r.X.A) (by omega),ka (by omega),nz_t (by omega),qJ (by omega),qJ (by omega),qK8 hr (by omega) (by omega)];simp only[kp,kg,qAI,qM (show x<4611686018427387904 by omega)];rw[wJ (by omega),qX4 h.sol hd c1 vp (qNX hr (a:=(x:Int)) (b:=(x:Int)+sz) (by omega) (by omega) (by omega)) hw];simp only[kp,kg,CJ];have em:Int.tmod (x:Int) w.Pitch=(x:Int) % w.Pitch:=gc (by omega);rw[em];by_cases c:(x:Int) % w.Pitch=0
   ·rw[if_pos c,c];rfl
   ·rw[if_neg c,show((x:Int) % w.Pitch==0)=false by rw[kC];exact c];rfl)
  (λn s _=>by
   rw[XD];simp only[ko,hsz];unfold wid;rw[ZT (show(0:Int)<=(j:Int) by omega) (show(j:Int)<((zF ps z).1.length:Int) by omega),qD (n:=(((r.X.B-r.X.A-sz+1).toNat:Nat):Int)+sz) (by omega),qD (n:=r.X.B-r.X.A) (by omega),ke (by omega)];rfl) [] rfl
 rw[show((0:Nat):Int)=0 from rfl,kO] at k;rw[k.1,k.2];rfl
theorem qXx {l:List qB} {ds:List qC} {ps:List Product} {r:Rect} {w:Saw} {t:Rates} (h:VE l ds ps r w t) (z:Int):RU l ds ps r w t (zF ps z) FUEL 0 []=some (qFC l ds ps r w t z):=by
 have hl:=(qDe ps z).1
 let g:Nat->List Int:=λj=>OR l ds (ps.getD ((zF ps z).2.getD j daa).toNat daa) r w t ((zF ps z).1.getD j daa)
 have k:=zA (zF ps z).1.length (λn (s:List (List Int)) x=>RU l ds ps r w t (zF ps z) n x s) (λj s=>s++[g j]) (λs=>s) (λj s=>s=(List.range j).map g) 0 (by omega) (by omega)
  (λn j s hj hs=>by
   have hlen:s.length=j:=by rw[hs];simp
   refine⟨?_,by rw[hs,ul,kU];rfl⟩;rw[RU,ka (by omega),qTj h z hj];simp only[kp,kg];rw[wJ (by omega),qM (by omega)];rfl)
  (λn s _=>by rw[RU,ke (by omega)];rfl) [] rfl
 rw[show((0:Nat):Int)=0 from rfl,kO] at k;rw[k.1,k.2];rfl
theorem qWY {l:List qB} {ds:List qC} {ps:List Product} {r:Rect} {w:Saw} {t:Rates} (h:VE l ds ps r w t):RX l r t FUEL 0 [] []=some ((List.range (wid r).toNat).map (λx=>t.Chip*sliv l r x),(List.range (wid r).toNat).map (λx=>t.Dust*sliv l r x)):=by
 have hr:=h.vr;unfold VR at hr;have hw:=h.vw;have k:=zA (wid r).toNat (λn (s:List Int×List Int) x=>RX l r t n x s.1 s.2) (λx s=>(s.1++[t.Chip*sliv l r x],s.2++[t.Dust*sliv l r x])) (λs=>s)
  (λx s=>s=((List.range x).map (λx=>t.Chip*sliv l r x),(List.range x).map (λx=>t.Dust*sliv l r x))) 0 (by omega) (by unfold wid;omega)
  (λn x s hx hs=>by
   unfold wid at hx;subst hs;have sb:=qNF h.sol r x;have m1:=wS (a:=t.Chip) (b:=sliv l r x) (m:=1000) (n:=28800000000) (by have:=hw.chip;omega) (by have:=hw.chip;omega) (by omega) (by omega) (by omega) (by omega);have m2:=wS (a:=t.Dust) (b:=sliv l r x) (m:=1000) (n:=28800000000) (by have:=hw.dust;omega) (by have:=hw.dust;omega) (by omega) (by omega) (by omega) (by omega);refine⟨?_,by simp only[ul,kU];rfl⟩;simp only;rw[RX,qD (n:=r.X.B-r.X.A) (by omega),ka (by omega),qD (n:=(x:Int)+1) (by omega),qK8 h.vr (by omega) (by omega)];simp only[kp,kg,qL9 h.sol,kP,uc];rw[wJ (by omega)];simp only[kp]
   rw[show volS l (BR r (x:Int) ((x:Int)+1)).X (BR r (x:Int) ((x:Int)+1)).Y ⟨0,solLen l⟩=sliv l r x from rfl,qD (n:=t.Chip*sliv l r x) (by omega),qD (n:=t.Dust*sliv l r x) (by omega),show(x:Int)+1=((x+1:Nat):Int) by omega])
  (λn s _=>by
   try simp only
   unfold wid;rw[RX,qD (n:=r.X.B-r.X.A) (by omega),ke (by omega)];rfl) ([],[]) rfl
 rw[show((0:Nat):Int)=0 from rfl,kO] at k;rw[k.1,k.2]
theorem qYd (l:List qB) (ds:List qC) (ps:List Product) (r:Rect) (w:Saw) (t:Rates):qD5 l ds ps r w t=some (qJ2 l ds ps r w t):=by
 unfold qD5 qJ2;rw[qRf];simp only[kg];by_cases c:chkE l ds ps r w t=0
 ·have h:=DT.1 c;have hr:=h.vr;unfold VR at hr;rw[if_pos c,c,qD (n:=r.Y.B-r.Y.A) (by omega),(qHG ps _).2,qD (n:=r.X.B-r.X.A) (by omega)];simp only[kA,kr,kg,qXx h,qWY h];rfl
 ·rw[if_neg c,show(chkE l ds ps r w t !=0)=true by rw[ua];exact c];rfl
theorem qMj (l:List qB) (ds:List qC) (ps:List Product) (r:Rect) (w:Saw) (t:Rates):qBw l ds ps r w t=some (yL l ds ps r w t):=by
 unfold qBw yL;rw[qYd];unfold qJ2;by_cases c:chkE l ds ps r w t=0
 ·have h:=DT.1 c;have hr:=h.vr;have hr':=hr;unfold VR at hr';have vl:=qCc h;rw[if_pos c,if_pos c];have sl:=qDe ps (r.Y.B-r.Y.A);have sl2:=qNg (ps:=ps) (r.Y.B-r.Y.A);have kf:=vl.kerf;have hsz:(lineS l ds ps r w t).Sizes=(zF ps (r.Y.B-r.Y.A)).1:=rfl;have hlen:(lineS l ds ps r w t).Len=r.X.B-r.X.A:=rfl;simp only[kg,kA,kr];rw[show(Line.mk (lineS l ds ps r w t).Len (lineS l ds ps r w t).Kerf (lineS l ds ps r w t).Pitch (lineS l ds ps r w t).Sizes (lineS l ds ps r w t).Gain (lineS l ds ps r w t).Chip (lineS l ds ps r w t).Dust)=lineS l ds ps r w t from rfl,qRr vl];simp only[kg,kA,kr]
  rw[qD (n:=r.Y.B-r.Y.A) (by omega),(qHG ps _).2];simp only[kg];generalize ha:lineS l ds ps r w t=a at*;have ek:w.Kerf=a.Kerf:=by rw[<-ha];rfl
  have bl:(wD a).length<=3000:=qEP a 3000 0;have bm:=qCf vl 3000 0 (by have:=vl.len;omega);have k:=zA (wD a).length (λn (s:List Span×List (List Node)) x=>GJ r (a,0) (zF ps (r.Y.B-r.Y.A)) (wD a,(bst a 0).value,0) n s.1 s.2 x)
   (λj s=>(s.1++[(ptOf a r.X.A (bdN ps (r.Y.B-r.Y.A)) ((wD a).getD j daa)).1],s.2++[(ptOf a r.X.A (bdN ps (r.Y.B-r.Y.A)) ((wD a).getD j daa)).2])) (λs=>s)
   (λj s=>s.1=((wD a).take j).map (λx=>(ptOf a r.X.A (bdN ps (r.Y.B-r.Y.A)) x).1)/\s.2=((wD a).take j).map (λx=>(ptOf a r.X.A (bdN ps (r.Y.B-r.Y.A)) x).2)) 0 (by omega) (by omega)
   (λn j s hj hs=>by
    obtain⟨s1,s2⟩:=s;obtain⟨e1,e2⟩:=hs;simp only at e1 e2;have tk:(wD a).take (j+1)=(wD a).take j++[(wD a).getD j daa]:=by rw[ge,ki,ks hj];rfl
    refine⟨?_,by simp only[e1,tk,kU];rfl,by simp only[e2,tk,kU];rfl⟩;obtain⟨i,q,ex,hi,hq,hg⟩:=bm _ (zK hj);have sz:=vl.sz i hi;rw[hsz] at sz hi;have hq':(q:Int)+(zF ps (r.Y.B-r.Y.A)).1.getD i daa<=r.X.B-r.X.A:=by
     unfold szAt at hq;rw[hsz,hlen] at hq;omega
    simp only;rw[GJ];simp only[ko,show(wD a).getD j daa=⟨(i:Int),(q:Int)⟩ from ex,hsz];rw[ka (by omega),qJ (by omega),qJ (by omega),qJ (by omega),qD (n:=(q:Int)+_) (by omega),qK8 hr (by omega) (by omega),QH (by rw[e1];simp;omega) (by omega)];simp only[kp,kg,qM (show j<4611686018427387904 by omega)];rw[QH (by rw[e2];simp;omega) (by omega)];simp only[kp,kg,ptOf,bdN,ko,BR,hsz])
   (λn s _=>by rw[GJ];simp only;rw[ke (by omega)];rfl) ([],[]) ⟨rfl,rfl⟩
  rw[show((0:Nat):Int)=0 from rfl,kO] at k;rw[k.1];obtain⟨k2,k3⟩:=k.2;rw[de] at k2 k3;simp only[kg];rw[k2,k3,show(wD a).map (λx=>(ptOf a r.X.A (bdN ps (r.Y.B-r.Y.A)) x).1)=(wA ps r a).map Prod.fst by unfold wA;rw[du];rfl,show(wD a).map (λx=>(ptOf a r.X.A (bdN ps (r.Y.B-r.Y.A)) x).2)=(wA ps r a).map Prod.snd by unfold wA;rw[du];rfl,ek];have gd:=qDm vl r.X.A (bdN ps (r.Y.B-r.Y.A)) 3000 0 (by have:=vl.len;omega);have nc:=qHp a r.X.A (bdN ps (r.Y.B-r.Y.A)) 1 (wD a) (λx _=>by simp[bdN]);rw[hlen,show r.X.A+(r.X.B-r.X.A)=r.X.B by omega,show r.X.A+((0:Nat):Int)=r.X.A by omega] at gd
  replace gd:GX a.Kerf (axS r 2).B (axS r 2).A (wA ps r a):=gd;rw[qUH hr (.inl rfl) kf (by unfold wA;simp;omega) gd (by unfold wA;omega)];unfold qKa rowR;rw[show axS r 2=r.X from rfl];simp only[kg];split
  ·rfl
  ·rfl
 ·rw[if_neg c,if_neg c];simp only[kg];rw[show(chkE l ds ps r w t !=0)=true by rw[ua];exact c];rfl
end Saw
end Go.SL

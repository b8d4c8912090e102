/- Edge's plain mathematics over the reference, part 1: the reference's best pieces of a line. -/
import Derived.Test.YtidlfgiogdjkaaaGreatDoorEMa6
set_option linter.unusedVariables false
set_option linter.unusedSimpArgs false
namespace Go.SL
namespace Saw
theorem qWY {a:Line} (h:VL a) {j:Nat} (hj:(j:Int)<=a.Len):BV a j (bst a j).value/\BV a j (stt a j).value:=by
 have ln:=h.len;obtain⟨s,e,t⟩:=CE h (a.Len.toNat+1) 0 FUEL (List.replicate (a.Len.toNat+1) ⟨⟨0,0⟩,0⟩,List.replicate (a.Len.toNat+1) ⟨⟨0,0⟩,0⟩) (by omega) (by rw[jF];omega) (TI0 h);exact t.b1 j (by omega) hj
theorem qOM {c:List Int} (hl:c.length<=2000) (h:∀j,j<c.length->okN (c.getD j du)):BG c=some (sums c):=by
 unfold BG;have k:=zR c.length (λn (s:List Int) i=>KK c n s i) (λi s=>s++[pre c (i+1)]) (λs=>s) (λi s=>s=(List.range (i+1)).map (pre c)) 0 (by omega) (by omega)
  (λn i s hi hs=>by
   have q:=qAQ h (k:=i+1) (by omega);rw[qCm] at q;refine⟨?_,by rw[hs,kW (n:=i+1),kH];rfl⟩;have sl:s.length=i+1:=by rw[hs];simp
   rw[KK,kd (by omega),qU (by omega),qU (by omega),wO (by omega),qY (by omega)];simp only[kn,ko];rw[show s.getD i du=pre c i by rw[hs];exact wT _ (by omega),qK (by omega),qCm])
  (λn s _=>by rw[KK,ka (by omega)];rfl) [0] rfl
 rw[show((0:Nat):Int)=0 from rfl,kF] at k;rw[k.1,k.2];rfl
theorem qKE {c:List Int} (hl:c.length<=1000000) (h:∀j,j<c.length->okN (c.getD j du)):GB c=some true:=by
 unfold GB;rw[BI c.length (WF c) (by omega) (λn i hi=>?_) (λn=>?_)]
 ·rfl
 ·have o:=h i hi;unfold okN at o;rw[WF,kd (by omega),qU (by omega)];simp only[kn,ko,SV,qY (show i<4611686018427387904 by omega)];rw[ka (show¬c.getD i du< -1125899906842624 by omega),ka (show¬c.getD i du>1125899906842624 by omega)];rfl
 ·rw[WF,ka (by omega)];rfl
theorem q0i {a:Line} (h:VL a):OR a=some 0:=by
 have h1:=h.len;have h2:=h.kerf;have h3:=h.pitch;have h4:=h.szl;have h5:=h.gl;have h6:=h.cl;have h7:=h.dl;unfold OR WD GV AE;rw[ka (show¬a.Len<0 by omega),ka (show¬a.Len>2000 by omega),ka (show¬a.Kerf<0 by omega),ka (show¬a.Kerf>20 by omega),ka (show¬a.Pitch<1 by omega),ka (show¬a.Pitch>2000 by omega),ka (show¬(a.Sizes.length:Int)>32 by omega)];simp only[kp];rw[BI a.Sizes.length (WC a) (by omega) (λn i hi=>?_) (λn=>?_)]
 ·simp only[ke,Sum.elim_inr];rw[show((a.Gain.length:Int) !=(a.Sizes.length:Int))=false by rw[kG];omega,show((a.Chip.length:Int) !=a.Len)=false by rw[kG];omega,show((a.Dust.length:Int) !=a.Len)=false by rw[kG];omega];simp only[kp];rw[BI a.Gain.length (PZ a) (by omega) (λn i hi=>?_) (λn=>?_),qKE (by omega) h.cb,qKE (by omega) h.db]
  ·simp only[ke,Sum.elim_inr,kn];have k:=zR a.Gain.length (λn (s:Bool) i=>WB a n s i) (λ_ s=>s) (λs=>s) (λ_ s=>s=true) 0 (by omega) (by omega)
    (λn i s hi hs=>by
     refine⟨?_,hs⟩;have:=h.sz i (by omega);rw[WB,kd (by omega),qU (by omega),hs,ko,qKE (by rw[h.gr i (by omega)];omega) (h.gb i (by omega))];simp only[kn,ke,EP,qY (show i<4611686018427387904 by omega)])
    (λn s _=>by rw[WB,ka (by omega)];rfl) true rfl
   rw[show((0:Nat):Int)=0 from rfl,kF] at k;rw[k.1,k.2];rfl
  ·have s:=h.sz i (by omega);have g:=h.gr i (by omega);rw[PZ,kd (by omega),qU (by omega),qU (by omega)];simp only[kn,ko,qY (show i<4611686018427387904 by omega)];rw[qK (n:=a.Len-a.Sizes.getD i du) (by omega),qK (by omega),g];have m:=jN 0 (a.Len-a.Sizes.getD i du+1);rw[show((((a.Len-a.Sizes.getD i du+1).toNat:Nat):Int) !=imax 0 (a.Len-a.Sizes.getD i du+1))=false by rw[kG];omega];rfl
  ·rw[PZ,ka (by omega)];rfl
 ·have:=h.sz i hi;rw[WC,kd (by omega),qU (by omega)];simp only[kn,ko,SY,qY (show i<4611686018427387904 by omega)];rw[ka (show¬a.Sizes.getD i du<1 by omega),ka (show¬a.Sizes.getD i du>2000 by omega)];rfl
 ·rw[WC,ka (by omega)];rfl
abbrev Sp :=qS
def stp (c:Ch):Sp:=⟨c.value,if isNo c then⟨-1,0⟩ else c.piece⟩
def inn (paid:Int) (o:Sp) (s:Ch):Sp:=bif !isNo s&&decide (s.value+paid>o.value) then⟨s.value+paid,s.piece⟩ else o
def qIh (a:Line) (best:Nat->Ch) (q:Nat) (paid:Int) (i:Nat) (o:Sp):Sp:=
 if(q:Int)+szAt a i>a.Len\/gnAt a i q<0 then o else if paid+candV a best q i>o.value then⟨paid+candV a best q i,⟨(i:Int),(q:Int)⟩⟩ else o
theorem q2j (a:Line) (best:Nat->Ch) (q:Nat) (paid:Int) (i:Nat) (o:Sp) (c:Ch):inn paid o (PX a best q i c)=qIh a best q paid i (inn paid o c):=by
 unfold PX qIh;by_cases c1:(q:Int)+szAt a i>a.Len\/gnAt a i q<0
 ·rw[if_pos c1,if_pos c1]
 rw[if_neg c1,if_neg c1];generalize candV a best q i=v;have e1:∀z,inn paid o ⟨⟨(i:Int),(q:Int)⟩,z⟩=if z+paid>o.value then⟨z+paid,⟨(i:Int),(q:Int)⟩⟩ else o:=λz=>by
  unfold inn;rw[isNo_mk];by_cases h:z+paid>o.value
  ·rw[kd (show(qD.mk ⟨(i:Int),(q:Int)⟩ z).value+paid>o.value from h),if_pos h];rfl
  ·rw[ka (show¬(qD.mk ⟨(i:Int),(q:Int)⟩ z).value+paid>o.value from h),if_neg h];rfl
 rw[show paid+v=v+paid by omega];cases hn:isNo c with
 |true=>
  have e2:inn paid o c=o:=by unfold inn;rw[hn];rfl
  rw[e2];simp only[Bool.true_or,kn];rw[e1]
 |false=>
  by_cases h2:c.value+paid>o.value
  ·have e2:inn paid o c=⟨c.value+paid,c.piece⟩:=by unfold inn;rw[hn,kd h2];rfl
   rw[e2];by_cases h3:v>c.value
   ·rw[kd h3];simp only[Bool.or_true,kn];rw[e1,if_pos (by omega),if_pos (by omega)]
   ·rw[ka h3];simp only[Bool.or_false,kp];rw[e2,if_neg (by omega)]
  ·have e2:inn paid o c=o:=by unfold inn;rw[hn,ka h2];rfl
   rw[e2];by_cases h3:v>c.value
   ·rw[kd h3];simp only[Bool.or_true,kn];rw[e1]
   ·rw[ka h3];simp only[Bool.or_false,kp];rw[e2,if_neg (by omega)]
theorem qW8 (a:Line) (best:Nat->Ch) (q:Nat) (paid:Int) (o:Sp):∀k,foldN (qIh a best q paid) 0 k o=inn paid o (foldN (PX a best q) 0 k (noCh 0))
 |0=>rfl
 |k+1=>by rw[yE,yE,qW8 a best q paid o k,q2j]
theorem q0Y {a:Line} (h:VL a) {i q:Nat} (hi:i<a.Sizes.length) (hq:¬((q:Int)+szAt a i>a.Len)) {l:List Sp} (hl:(l.length:Int)=a.Len+1) (he:∀x:Nat,q<x->(x:Int)<=a.Len->l.getD x du=stp (bst a x)):OQ a ⟨(i:Int),(q:Int)⟩ (sums a.Dust) l=some (candV a (bst a) q i):=by
 have ln:=h.len;have kf:=h.kerf;have sz:=h.sz i hi;have gl:=h.gl;have dl:=h.dl;have gr:=h.gr i hi;have e:(endN a q i:Int)=q+a.Sizes.getD i du:=by unfold endN szAt;omega
 have cb:=qQh h hi (show(q:Int)+szAt a i<=a.Len by omega) (λx h1 h2=>(qWY h h2).1);have hq':(q:Int)+a.Sizes.getD i du<=a.Len:=by unfold szAt at hq;omega
 unfold OQ;simp only[ko];rw[qU (by omega),qU (by omega),qU (by omega)];simp only[kn,qK (n:=(q:Int)+a.Sizes.getD i du) (by omega)];rw[<-e];have gb:=h.gb i hi q (by omega);unfold okN at gb;by_cases c3:(endN a q i:Int)=a.Len
 ·rw[show((endN a q i:Int)==a.Len)=true by rw[uG];exact c3];unfold candV;rw[if_pos c3];simp[gnAt]
 ·have nb:=qUK h hi hq c3;have m:=imin_or ((endN a q i:Int)+a.Kerf) a.Len;have en:imin ((endN a q i:Int)+a.Kerf) a.Len=(nxtN a (endN a q i):Int):=by unfold nxtN;omega
  rw[show((endN a q i:Int)==a.Len)=false by rw[kL];exact c3];simp only[kp,qK (n:=(endN a q i:Int)+a.Kerf) (by omega),en,VO];rw[qU (by omega),qU (by omega),qU (by omega)];simp only[kn,ko,JO (c:=a.Dust) (show nxtN a (endN a q i)<=a.Dust.length by omega),JO (c:=a.Dust) (show endN a q i<=a.Dust.length by omega),he _ nb.1 nb.2.1,stp];have p1:=qAQ h.db (k:=nxtN a (endN a q i)) (by omega);have p2:=qAQ h.db (k:=endN a q i) (by omega);have b1:=(qWY h nb.2.1).1;unfold BV at b1 cb;unfold candV at cb⊢;rw[if_neg c3] at cb⊢;unfold gnAt at cb⊢
  have pd:=RY h.db (i:=endN a q i) (k:=nxtN a (endN a q i)-endN a q i) (by omega);rw[show endN a q i+(nxtN a (endN a q i)-endN a q i)=nxtN a (endN a q i) by omega] at pd;rw[qK (n:=(a.Gain.getD i du).getD q du+_) (by omega),qK (n:=(a.Gain.getD i du).getD q du+_-_) (by omega),qK (by omega)]
  congr 1
  omega
theorem qPY {a:Line} (h:VL a) {q:Nat} (hq:(q:Int)<=a.Len) {l:List Sp} (hl:(l.length:Int)=a.Len+1) (he:∀x:Nat,q<x->(x:Int)<=a.Len->l.getD x du=stp (bst a x)) {paid:Int} (hp: -9000000000000000000<=paid-2251799813685248*(a.Len-q)/\paid+2251799813685248*(a.Len-q)<=9000000000000000000) (o:Sp):
  QF a (sums a.Dust) l (q:Int) paid FUEL 0 o=some (inn paid o (stt a q)):=by
 have szl:=h.szl;have ln:=h.len;have gl:=h.gl;have k:=zR a.Sizes.length (λn (o:Sp) i=>QF a (sums a.Dust) l (q:Int) paid n i o) (qIh a (bst a) q paid) (λo=>o) (λ_ _=>True) 0 (by omega) (by omega)
  (λn i o hi _=>⟨by
   have sz:=h.sz i hi;have gr:=h.gr i hi;rw[QF,kd (by omega),qU (by omega)];simp only[kn,ko,CS,FR,qY (show i<4611686018427387904 by omega),qK (n:=a.Len-a.Sizes.getD i du) (by omega)];unfold qIh;by_cases c1:(q:Int)>a.Len-a.Sizes.getD i du
   ·rw[kd c1,if_pos (.inl (by unfold szAt;omega))];rfl
   rw[ka c1,qU (by omega),qU (by omega)];simp only[kn,kp];by_cases c2:(a.Gain.getD i du).getD q du<0
   ·rw[kd c2,if_pos (.inr c2)];rfl
   rw[ka c2,if_neg (by unfold szAt gnAt;omega),q0Y h hi (by unfold szAt;omega) hl he];simp only[kp,ke];have cb:=qQh h hi (show(q:Int)+szAt a i<=a.Len by unfold szAt;omega) (λx h1 h2=>(qWY h h2).1);unfold BV at cb;rw[qK (n:=paid+candV a (bst a) q i) (by omega)];by_cases c3:paid+candV a (bst a) q i>o.value
   ·rw[kd c3,if_pos c3];rfl
   ·rw[ka c3,if_neg c3];rfl,trivial⟩)
  (λn o _=>by rw[QF,ka (by omega)];rfl) o trivial
 rw[show((0:Nat):Int)=0 from rfl,kF] at k;rw[k.1,qW8,qWc h hq];rfl
theorem qZf (p:qX) (v w:Int):isNo ⟨p,v⟩=isNo ⟨p,w⟩:=rfl
theorem q1y (a:Line) (st:Nat->Ch) (p x:Nat) (c:Ch):inn (restV a p x) (stp c) (st x)=stp (KX a st p x c):=by
 rw[qJW];unfold inn;rw[show(stp c).value=c.value from rfl];cases hn:isNo (st x) with
 |true=>rfl
 |false=>
  cases decide ((st x).value+restV a p x>c.value) with
  |false=>rfl
  |true=>
   simp only[uq,Bool.and_self,kn];unfold stp;rw[qZf _ _ (st x).value,show(⟨(st x).piece,(st x).value⟩:Ch)=st x from rfl,hn];rfl
theorem q0u (a:Line) (st:Nat->Ch) (p:Nat):inn 0 (stp (noCh (pre a.Chip a.Len.toNat-pre a.Chip p))) (st p)=stp (qEF a st p):=by
 unfold inn qEF;rw[show(stp (noCh (pre a.Chip a.Len.toNat-pre a.Chip p))).value=pre a.Chip a.Len.toNat-pre a.Chip p from rfl,Int.add_zero];cases hn:isNo (st p) with
 |true=>rfl
 |false=>
  cases decide ((st p).value>pre a.Chip a.Len.toNat-pre a.Chip p) with
  |false=>rfl
  |true=>
   simp only[uq,Bool.and_self,kn];unfold stp;rw[hn];rfl
theorem from_eq {a:Line} (h:VL a) {p:Nat} (hp:(p:Int)<=a.Len) {l:List Sp} (hl:(l.length:Int)=a.Len+1) (he:∀x:Nat,p<x->(x:Int)<=a.Len->l.getD x du=stp (bst a x)):
  qA4 a (p:Int) (sums a.Chip) (sums a.Dust) l=some (stp (bst a p)):=by
 have ln:=h.len;have kf:=h.kerf;have pt:=h.pitch;have cl:=h.cl;have dl:=h.dl;have cr:=qJO h hp;unfold BV at cr;unfold qA4;simp only[VO,ko];rw[qU (by omega),qU (by omega),JO (c:=a.Chip) (by omega),JO (c:=a.Chip) (by omega),qK (by omega)];simp only[kn];have wst:∀k:Nat,((((k+1)*a.Pitch.toNat:Nat)):Int)=((k*a.Pitch.toNat:Nat):Int)+a.Pitch:=λk=>by rw[Nat.succ_mul];omega
 -- the places behind the edge
 have key:∀(d k n:Nat) (c:Ch),k+d=yU a p->d<n->QE a (p:Int) (sums a.Chip) (sums a.Dust) l n (((k+1)*a.Pitch.toNat:Nat):Int) (stp c)=some (stp (foldN (λk c=>KX a (stt a) p (placeN a p k) c) k d c)):=by
  intro d
  induction d with
  |zero=>
   intro k n c hk hn;obtain⟨n,rfl⟩:∃m,n=m+1:=⟨n-1,by omega⟩
   have hx:¬((placeN a p k:Nat):Int)<=a.Len:=λq=>by have:=(BJ h).2 q;omega
   unfold placeN at hx;have pos:1<=(k+1)*a.Pitch.toNat:=Nat.mul_pos (by omega) (by omega);have kb:(k:Int)<=2000:=by
    have:yU a p<=a.Len.toNat:=by unfold yU;exact ux (Nat.div_le_self _ _) (by omega)
    omega
   have wb:(k+1)*a.Pitch.toNat<=2001*2000:=Nat.mul_le_mul (by omega) (by omega);rw[QE,qK (n:=(p:Int)+_) (by omega),qK (by omega),kd (show((((k+1)*a.Pitch.toNat:Nat)):Int)>0 by omega),kd (show(p:Int)+(((k+1)*a.Pitch.toNat:Nat):Int)+a.Kerf>a.Len by omega)];cases decide ((p:Int)+(((k+1)*a.Pitch.toNat:Nat):Int)<=a.Len)<;>rfl
  |succ d ih=>
   intro k n c hk hn;obtain⟨n,rfl⟩:∃m,n=m+1:=⟨n-1,by omega⟩
   have hx:=(BJ h (k:=k)).1 (show k<yU a p by omega);have lo:=HA h p k;have pe:placeN a p k=p+a.Kerf.toNat+(k+1)*a.Pitch.toNat:=rfl;have pos:1<=(k+1)*a.Pitch.toNat:=Nat.mul_pos (by omega) (by omega);have ex:(p:Int)+(((k+1)*a.Pitch.toNat:Nat):Int)=((placeN a p k-a.Kerf.toNat:Nat):Int):=by omega
   have ex2:((placeN a p k-a.Kerf.toNat:Nat):Int)+a.Kerf=(placeN a p k:Int):=by omega
   have nx:=wst (k+1);rw[QE,qK (n:=(p:Int)+_) (by omega),ex,qK (n:=((placeN a p k-a.Kerf.toNat:Nat):Int)+a.Kerf) (by omega),ex2,kd (by omega),kd (show((((k+1)*a.Pitch.toNat:Nat)):Int)>0 by omega),ka (by omega)];simp only[VO,ko,kn,kp,FP];generalize hxe:placeN a p k=x at*;rw[qU (by omega),qU (by omega),qU (by omega),qU (by omega),JO (c:=a.Chip) (by omega),JO (c:=a.Chip) (by omega),JO (c:=a.Dust) (by omega),JO (c:=a.Dust) (by omega)];have p1:=RY h.cb (i:=p) (k:=x-a.Kerf.toNat-p) (by omega);rw[show p+(x-a.Kerf.toNat-p)=x-a.Kerf.toNat by omega] at p1
   have p2:=RY h.db (i:=x-a.Kerf.toNat) (k:=a.Kerf.toNat) (by omega);rw[show x-a.Kerf.toNat+a.Kerf.toNat=x by omega] at p2;have b3:=qAQ h.db (k:=x) (by omega);have rv:pre a.Chip (x-a.Kerf.toNat)-pre a.Chip p+pre a.Dust x-pre a.Dust (x-a.Kerf.toNat)=restV a p x:=rfl;simp only[kn,qK (n:=pre a.Chip (x-a.Kerf.toNat)-pre a.Chip p) (by omega),qK (n:=pre a.Chip (x-a.Kerf.toNat)-pre a.Chip p+pre a.Dust x) (by omega),qK (n:=pre a.Chip (x-a.Kerf.toNat)-pre a.Chip p+pre a.Dust x-pre a.Dust (x-a.Kerf.toNat)) (by omega)];rw[rv,qPY h hx hl (λy h1 h2=>he y (by omega) h2) (by rw[<-rv];omega)];simp only[ke]
   rw[q1y,qK (by omega),<-nx,ih (k+1) n _ (by omega) (by omega)];have pf:foldN (λk c=>KX a (stt a) p (placeN a p k) c) k (d+1) c=foldN (λk c=>KX a (stt a) p (placeN a p k) c) (k+1) d (KX a (stt a) p (placeN a p k) c):=rfl;rw[pf,hxe]
 -- the edge itself
 obtain⟨f,hf⟩:∃f,FUEL=f+1:=⟨FUEL-1,by rw[jF]⟩
 have st0:QE a (p:Int) (sums a.Chip) (sums a.Dust) l FUEL 0 (stp (noCh (pre a.Chip a.Len.toNat-pre a.Chip p)))=some (stp (bst a p)):=by
  conv=>lhs;rw[hf]
  rw[QE,Int.add_zero,qK (n:=(p:Int)) (by omega),kd hp,show decide ((0:Int)>0)=false from rfl];simp only[kn,kp,FP];rw[qPY h hp hl he (by omega),q0u];simp only[ke];have k0:=key (yU a p) 0 f (qEF a (stt a) p) (by omega) (by
   have:yU a p<=a.Len.toNat:=by unfold yU;exact ux (Nat.div_le_self _ _) (by omega)
   have:=jF;omega)
  rw[show(((0+1)*a.Pitch.toNat:Nat):Int)=a.Pitch by simp;omega] at k0;rw[uC,qK (n:=a.Pitch) (by omega),k0,qOK h hp];rfl
 rw[show(qS.mk (pre a.Chip a.Len.toNat-pre a.Chip p) ⟨-1,0⟩)=stp (noCh (pre a.Chip a.Len.toNat-pre a.Chip p)) from rfl,st0];rfl
theorem qMw {a:Line} (h:VL a):∀(p n:Nat) (l:List Sp),p<n->(p:Int)<=a.Len+1->(l.length:Int)=a.Len+1->(∀x:Nat,p<=x->(x:Int)<=a.Len->l.getD x du=stp (bst a x))->
  ∃l',UC a (sums a.Chip) (sums a.Dust) n l ((p:Int)-1)=some l'/\(l'.length:Int)=a.Len+1/\∀x:Nat,(x:Int)<=a.Len->l'.getD x du=stp (bst a x)
 |0,n,l,hn,hp,hl,he=>by
  obtain⟨n,rfl⟩:∃m,n=m+1:=⟨n-1,by omega⟩
  refine⟨l,?_,hl,λx hx=>he x (by omega) hx⟩;rw[UC,ka (by omega)];rfl
 |p+1,n,l,hn,hp,hl,he=>by
  have ln:=h.len;obtain⟨n,rfl⟩:∃m,n=m+1:=⟨n-1,by omega⟩
  have ep:((p+1:Nat):Int)-1=(p:Int):=by omega
  obtain⟨l',e1,e2,e3⟩:=qMw h p n (l.set p (stp (bst a p))) (by omega) (by omega) (by simpa using hl) (λx h1 h2=>by
   by_cases c:x=p
   ·subst c;rw[OV _ (by omega)]
   ·rw[LB _ (λe=>c e.symm)];exact he x (by omega) h2)
  refine⟨l',?_,e2,e3⟩;rw[UC,ep,kd (by omega),from_eq h (by omega) hl (λx h1 h2=>he x (by omega) h2),qU (by omega),ko,qK (by omega)];exact e1
theorem qMF {a:Line} (h:VL a) {c:List Sp} (hl:(c.length:Int)=a.Len+1) (hc:∀x:Nat,(x:Int)<=a.Len->c.getD x du=stp (bst a x)):
  ∀(d n m p:Nat) (l:List qX),a.Len.toNat-p<d->d<n->d<m->(p:Int)<=a.Len->l.length+d<=5000->FD a c n l (p:Int)=some (l++walk a m p)
 |0,n,m,p,l,hd,_,_,_,_=>by omega
 |d+1,n,m,p,l,hd,hn,hm,hp,hll=>by
  have ln:=h.len;obtain⟨n,rfl⟩:∃k,n=k+1:=⟨n-1,by omega⟩
  obtain⟨m,rfl⟩:∃k,m=k+1:=⟨m-1,by omega⟩
  rw[FD,qU (by omega),walk];simp only[kn,ko,hc p hp,stp];cases hn':isNo (bst a p) with
  |true=>simp
  |false=>
   obtain⟨i,q,e,hi,hq,hg,hw⟩:=qGD h hp hn';have sz:=h.sz i hi;have hpq:p<=q:=by
    rcases hw with rfl|⟨k,hk,rfl⟩
    ·exact ki _
    ·have:=HA h p k;omega
   clear hw;have en:(endN a q i:Int)=q+szAt a i:=by unfold endN szAt;omega
   simp only[ub,if_false,kp,e,ko];rw[kd (show(i:Int)≥0 by omega),wO (by omega),qU (by omega),qIc (n:=(q:Int)+a.Sizes.getD i du) (by unfold szAt at*;omega) (by unfold szAt at*;omega)];simp only[kn];rw[show(q:Int)+a.Sizes.getD i du=(endN a q i:Int) by rw[en];rfl];by_cases c1:(endN a q i:Int)=a.Len
   ·rw[if_pos c1,show((endN a q i:Int)==a.Len)=true by rw[uG];exact c1];rfl
   ·rw[if_neg c1,show((endN a q i:Int)==a.Len)=false by rw[kL];exact c1];have kf:=h.kerf;have ws:=qF5 h hi hq hpq c1;have mm:=imin_or ((endN a q i:Int)+a.Kerf) a.Len;have en2:imin ((endN a q i:Int)+a.Kerf) a.Len=(nxtN a (endN a q i):Int):=by unfold nxtN;omega
    simp only[kp,qIc (n:=(endN a q i:Int)+a.Kerf) (by unfold szAt at*;omega) (by unfold szAt at*;omega),en2];rw[qMF h hl hc d n m (nxtN a (endN a q i)) _ (by omega) (by omega) (by omega) ws.2 (by simp;omega)];simp
theorem qUY {a:Line} (h:VL a):EB a=some (wE a,(bst a 0).value,0):=by
 have ln:=h.len;have cl:=h.cl;have dl:=h.dl;unfold EB;rw[q0i h,qOM (by omega) h.cb,qOM (by omega) h.db];simp only[ke,kv,kp];rw[qK (n:=a.Len+1) (by omega),show a.Len+1=((a.Len.toNat+1:Nat):Int) by omega,qKr (by omega) (by omega),ko];simp only[kn];obtain⟨c,e1,e2,e3⟩:=qMw h (a.Len.toNat+1) FUEL (List.replicate (a.Len.toNat+1) ⟨0,⟨0,0⟩⟩) (by rw[jF];omega) (by omega) (by simp;omega) (λx h1 h2=>by omega);rw[show((a.Len.toNat+1:Nat):Int)-1=a.Len by omega] at e1;rw[e1];simp only[ke];have:=qMF h e2 e3 2500 FUEL 3000 0 [] (by omega) (by rw[jF];omega) (by omega) (by omega) (by simp)
 rw[show((0:Nat):Int)=0 from rfl] at this;rw[this,qU (by omega)];simp only[ke,kn,show(0:Int).toNat=0 from rfl,e3 0 (by omega)];rfl
theorem qZr {r:Rect} (h:VR r):HK r=some true:=by
 unfold VR at h;unfold HK;simp only[kd (show r.X.A<r.X.B by omega),kd (show r.Y.A<r.Y.B by omega),kd (show r.X.A≥-600 by omega),kd (show r.X.B<=600 by omega),kd (show r.Y.A≥-600 by omega),kd (show r.Y.B<=600 by omega)];rfl
theorem qQy {axis kerf:Int} (hk:0<=kerf/\kerf<=20) {s:Span} (hs: -600<=s.A/\s.B<=600) {L:List Pt} (hL:L.length<=100000):
  ∀(rest:List Pt) (i n:Nat) (e:Int) (T:List Node),L.drop i=rest->i<=L.length->rest.length<n->-600<=e->e<=600->VB kerf s.B e rest->T.length+ndC rest<=1000000->
  jT axis kerf (L.map Prod.fst) (L.map Prod.snd) s n T e false (i:Int)=some (.inr (T++(rowB axis kerf s.B e rest).1,(rowB axis kerf s.B e rest).2))
 |[],i,n,e,T,hd,hi,hn,he1,he2,hg,hb=>by
  obtain⟨n,rfl⟩:∃m,n=m+1:=⟨n-1,by omega⟩
  have hi':i=L.length:=by have:=gm.1 hd;omega
  rw[jT,kN,ka (by omega)];simp[rowB]
 |x::r,i,n,e,T,hd,hi,hn,he1,he2,hg,hb=>by
  obtain⟨n,rfl⟩:∃m,n=m+1:=⟨n-1,by omega⟩
  have hi':i<L.length:=by
   by_cases c:i<L.length
   ·exact c
   ·rw[ug (by omega)] at hd;cases hd
  have hx:L.getD i du=x:=by rw[VM L i hi'] at hd;exact(List.cons.inj hd).1
  have hr:L.drop (i+1)=r:=by rw[VM L i hi'] at hd;exact(List.cons.inj hd).2
  have hxa:(L.map Prod.fst).getD i du=x.1:=by rw[qFQ.getD_map'' Prod.fst hi',hx]
  have hxb:(L.map Prod.snd).getD i du=x.2:=by rw[qFQ.getD_map'' Prod.snd hi',hx]
  obtain⟨g1,g2,g3,g4⟩:=hg;have hc:ndC (x::r)=3+x.2.length+ndC r:=by simp[ndC]
  rw[hc] at hb;rw[jT,kN,kd (by omega),qU (by omega)];simp only[kn,kp,ko,hxa,HI];rw[ka (show¬x.1.A≥x.1.B by omega),qK (n:=e+kerf) (by omega),qK (n:=e+kerf+1) (by omega),ka (show¬x.1.B>s.B by omega)];simp only[kp];have gA:∀{β:Type} (u v:β),(bif x.1.A !=e then(bif decide (x.1.A<e+kerf+1) then u else v) else(bif false then u else v))=v:=λu v=>by
   by_cases c:x.1.A=e
   ·rw[show(x.1.A !=e)=false by rw[kG];exact c];rfl
   ·rw[show(x.1.A !=e)=true by rw[ua];exact c,ka (show¬x.1.A<e+kerf+1 by omega)];rfl
  simp only[kp] at gA;rw[gA];have mi:=imin_or (x.1.B+kerf) s.B
  -- behind the first nodes
  have key:∀(T2:List Node),T2.length+1+x.2.length+ndC r<=1000000->MW axis kerf (L.map Prod.fst) (L.map Prod.snd) s (i:Int) (jT axis kerf (L.map Prod.fst) (L.map Prod.snd) s n) T2
    =some (.inr (T2++(if x.1.B<s.B then(⟨axis,x.1.B⟩::x.2++(rowB axis kerf s.B (imin (x.1.B+kerf) s.B) r).1) else x.2),(if x.1.B<s.B then(rowB axis kerf s.B (imin (x.1.B+kerf) s.B) r).2 else true))):=by
   intro T2 hb2;unfold MW qBV;simp only[ko,hxa,hxb,kN,qY (show i<4611686018427387904 by omega),qK (n:=x.1.B+kerf) (by omega)];rw[ZQ (show(0:Int)<=(i:Int) by omega) (show(i:Int)<(L.length:Int) by omega)];simp only[kn];by_cases c:x.1.B<s.B
   ·rw[if_pos c,if_pos c,show(x.1.B==s.B)=false by rw[kL];omega];rw[if_pos c] at g4;rw[wO (by omega),yT (by simp;omega) (by omega)];simp only[uq,kn];rw[qQy hk hs hL r (i+1) n (imin (x.1.B+kerf) s.B) _ hr (by omega) (by simp at hn;omega) (by omega) (by omega) g4 (by simp;omega)];simp
   ·rw[if_neg c,if_neg c,show(x.1.B==s.B)=true by rw[uG];omega];rw[if_neg c] at g4;subst g4;rw[wO (n:=T2.length+x.2.length) (by omega)];simp only[ky,kp,kn];obtain⟨n,rfl⟩:∃m,n=m+1:=⟨n-1,by simp at hn;omega⟩
    have hi2:i+1=L.length:=by have:=gm.1 hr;omega
    rw[jT,kN,ka (by omega)];rfl
  by_cases c:x.1.A=e
  ·rw[show(x.1.A !=e)=false by rw[kG];exact c];simp only[kp];rw[key T (by omega),HY,if_neg (show¬x.1.A>e by omega)];split<;>simp
  ·rw[show(x.1.A !=e)=true by rw[ua];exact c,wO (by omega),qK (n:=x.1.A-kerf) (by omega)];simp only[kn];rw[key _ (by simp;omega),HY,if_pos (show x.1.A>e by omega)];split<;>simp
theorem qYb {r:Rect} (hr:VR r) {axis kerf:Int} (ha:axis=2\/axis=3) (hk:0<=kerf/\kerf<=20) {L:List Pt} (hL:L.length<=100000) (hg:VB kerf (axS r axis).B (axS r axis).A L) (hb:ndC L+1<=1000000):
  UO r axis kerf (L.map Prod.fst) (L.map Prod.snd)=some (rowR (rowN axis kerf (axS r axis) L)):=by
 have hs: -600<=(axS r axis).A/\(axS r axis).B<=600/\(axS r axis).A<(axS r axis).B:=by
  unfold VR at hr;unfold axS;split<;>omega
 have e0:UO r axis kerf (L.map Prod.fst) (L.map Prod.snd)=MU axis kerf (L.map Prod.fst) (L.map Prod.snd) (axS r axis):=by
  unfold UO qBw qA8 qBE;rw[qZr hr];simp only[ke,ky,kp,kN,kv];rw[ka (show¬kerf<0 by omega),ka (show¬kerf>20 by omega)];rcases ha with rfl|rfl<;>rfl
 rw[e0];unfold MU;have k1:=qQy (axis:=axis) hk ⟨hs.1,hs.2.1⟩ hL L 0 FUEL (axS r axis).A [] (by simp) (by omega) (by rw[jF];omega) hs.1 (by omega) hg (by simp;omega);rw[show((0:Nat):Int)=0 from rfl] at k1;rw[k1];simp only[ke,Sum.elim_inr,ur];have bl:=qN2 axis kerf (axS r axis).B L (axS r axis).A;unfold rowN;generalize rowB axis kerf (axS r axis).B (axS r axis).A L=B at*;obtain⟨b1,b2⟩:=B;simp only at bl⊢;have fin:∀T:List Node,MZ T=some (rowR T):=λT=>by
  unfold MZ rowR;by_cases c:T.length<=127
  ·rw[ka (by omega),if_pos c];rfl
  ·rw[kd (by omega),if_neg c];rfl
 cases b2 with
 |true=>
  simp only[ky,kp,if_true,uw];exact fin _
 |false=>
  simp only[uq,kn,ub,if_false];rw[wO (by omega)];exact fin _
theorem qOj (n a b:Int):QU n a b=some (decide (a<=n/\n<=b)):=by
 unfold QU CO;by_cases h1:n≥a
 ·rw[kd h1];by_cases h2:n<=b
  ·rw[kd h2,kd ⟨h1,h2⟩];rfl
  ·rw[ka h2,ka (λh=>h2 h.2)];rfl
 ·rw[ka h1,ka (show¬(a<=n/\n<=b) from λh=>h1 h.1)];rfl
theorem qZW (s:Saw) (r:Rates):LE s r=some (NM s r):=by
 unfold LE RB GX;simp only[qOj,ke];have no:¬VW s r->NM s r=9:=λh=>by unfold NM;rw[if_neg h]
 by_cases c1':¬(0<=s.Kerf/\s.Kerf<=20)
 ·rw[ka c1',no (λh=>c1' h.kerf)];rfl
 have c1:0<=s.Kerf/\s.Kerf<=20:=Decidable.not_not.1 c1';by_cases c2':¬(0<=s.Trim/\s.Trim<=20)
 ·rw[kd c1,ka c2',no (λh=>c2' h.trim)];rfl
 have c2:0<=s.Trim/\s.Trim<=20:=Decidable.not_not.1 c2';by_cases c3':¬(1<=s.Pitch/\s.Pitch<=2000)
 ·rw[kd c1,kd c2,ka c3',no (λh=>c3' h.pitch)];rfl
 have c3:1<=s.Pitch/\s.Pitch<=2000:=Decidable.not_not.1 c3';by_cases c4':¬(1<=s.Step/\s.Step<=20000)
 ·rw[kd c1,kd c2,kd c3,ka c4',no (λh=>c4' h.step)];rfl
 have c4:1<=s.Step/\s.Step<=20000:=Decidable.not_not.1 c4';by_cases c5':¬(0<=r.Chip/\r.Chip<=1000)
 ·rw[kd c1,kd c2,kd c3,kd c4,ka c5',no (λh=>c5' h.chip)];rfl
 have c5:0<=r.Chip/\r.Chip<=1000:=Decidable.not_not.1 c5';by_cases c6':¬(0<=r.Dust/\r.Dust<=1000)
 ·rw[kd c1,kd c2,kd c3,kd c4,kd c5,ka c6',no (λh=>c6' h.dust)];rfl
 have c6:0<=r.Dust/\r.Dust<=1000:=Decidable.not_not.1 c6';by_cases c7':¬(0<=r.Fine/\r.Fine<=1000000)
 ·rw[kd c1,kd c2,kd c3,kd c4,kd c5,kd c6,ka c7',no (λh=>c7' h.fine)];rfl
 have c7:0<=r.Fine/\r.Fine<=1000000:=Decidable.not_not.1 c7';rw[kd c1,kd c2,kd c3,kd c4,kd c5,kd c6,kd c7,(AM s r).2 ⟨c1,c2,c3,c4,c5,c6,c7⟩];rfl
theorem qTo (b:Box):FZ b=some (empS b.X||(empS b.Y||empS b.Z)):=by
 unfold FZ GR empS;show(bif decide (b.X.B<=b.X.A) then _ else bif decide (b.Y.B<=b.Y.A) then _ else some (decide (b.Z.B<=b.Z.A)))=_;cases decide (b.X.B<=b.X.A)<;>cases decide (b.Y.B<=b.Y.A)<;>rfl
theorem qVs {s:Span} (h:empS s=false) (a b:Int):qAz s a b=some (insS s a b):=by
 have h':¬s.B<=s.A:=of_decide_eq_false h;unfold qAz qCU insS;by_cases c1:a<=s.A
 ·rw[kd c1];simp only[kn]
  congr 1
  rw[decide_eq_decide];omega
 ·rw[ka c1,ka (show¬((a<=s.A/\a<=s.B)/\(s.A<=b/\s.B<=b)) from λq=>c1 q.1.1)];rfl
theorem qZv {b:Box} (h:(empS b.X||(empS b.Y||empS b.Z))=false):MT b=some (insS b.X (-600) 600&&(insS b.Y (-600) 600&&insS b.Z 0 20000)):=by
 have h1:empS b.X=false:=by cases e:empS b.X with|false=>rfl|true=>rw[e] at h;cases h
 have h2:empS b.Y=false:=by cases e:empS b.Y with|false=>rfl|true=>rw[h1,e] at h;cases h
 have h3:empS b.Z=false:=by cases e:empS b.Z with|false=>rfl|true=>rw[h1,h2,e] at h;cases h
 unfold MT VH;simp only[qVs h1,qVs h2,qVs h3,ke];cases insS b.X (-600) 600<;>cases insS b.Y (-600) 600<;>rfl
theorem qSz (l:List qF):VZ l=some (WK l):=by
 unfold VZ WK;by_cases h:64<l.length
 ·rw[if_pos h,kd (by omega)];rfl
 rw[if_neg h,ka (by omega)];have L:QJ l FUEL 0=some (findE badD l):=by
  refine PU l (QJ l) badD (by omega) (λn x hx=>?_) (λn=>?_)
  ·rw[QJ,kd (by omega),qU (by omega)];simp only[kn,ko,qY (show x<4611686018427387904 by omega),EN,qTo,ke];rw[qU (by omega)];unfold badD chkD;by_cases h1:(l.getD x du).Kind<1
   ·rw[kd h1,if_pos (.inl h1)];rfl
   rw[ka h1];by_cases h2:(l.getD x du).Kind>6
   ·rw[kd h2,if_pos (.inr h2)];rfl
   rw[ka h2,if_neg (by omega)];simp only[kp,kn];cases he:(empS (l.getD x du).Box.X||(empS (l.getD x du).Box.Y||empS (l.getD x du).Box.Z)) with
   |true=>rfl
   |false=>
    rw[qZv he];cases (insS (l.getD x du).Box.X (-600) 600&&(insS (l.getD x du).Box.Y (-600) 600&&insS (l.getD x du).Box.Z 0 20000))<;>rfl
  ·rw[QJ,ka (by omega)];rfl
 rw[L];simp only[kp,ke];cases findE badD l<;>rfl
theorem qY7 (s:Span):DT s=some (decide (s.A< -600\/600<s.A\/s.B< -600\/600<s.B)):=by
 unfold DT KD;by_cases c1:s.A< -600
 ·rw[kd c1,kd (show s.A< -600\/600<s.A\/s.B< -600\/600<s.B by omega)];rfl
 rw[ka c1];by_cases c2:s.A>600
 ·rw[kd c2,kd (show s.A< -600\/600<s.A\/s.B< -600\/600<s.B by omega)];rfl
 rw[ka c2];by_cases c3:s.B< -600
 ·rw[kd c3,kd (show s.A< -600\/600<s.A\/s.B< -600\/600<s.B by omega)];rfl
 rw[ka c3];by_cases c4:s.B>600
 ·rw[kd c4,kd (show s.A< -600\/600<s.A\/s.B< -600\/600<s.B by omega)];rfl
 rw[ka c4,ka (show¬(s.A< -600\/600<s.A\/s.B< -600\/600<s.B) by omega)];rfl
theorem qWu (s:List qC) (d:List qF) (p:List Product) (r:Rect) (w:Saw) (t:Rates):OG s d p r w t=some (chkE s d p r w t):=by
 unfold OG chkE ES EU;rw[(RT s).2,qSz,qBn,qZW];simp only[ke,qY7];have bt:∀{n:Int},n≠0->(n !=0)=true:=λh=>by rw[ua];exact h
 have bf:∀{n:Int},¬n≠0->(n !=0)=false:=λh=>by rw[kG];omega
 by_cases h1:UF s≠0
 ·rw[if_pos h1,bt h1];rfl
 rw[if_neg h1,bf h1];by_cases h2:WK d≠0
 ·rw[if_pos h2,bt h2];rfl
 rw[if_neg h2,bf h2];by_cases h3:wI p≠0
 ·rw[if_pos h3,bt h3];rfl
 rw[if_neg h3,bf h3];by_cases h4:NM w t≠0
 ·rw[if_pos h4,bt h4];rfl
 rw[if_neg h4,bf h4];simp only[kp];by_cases h5:r.X.A≥r.X.B
 ·rw[if_pos (.inl h5),kd h5];rfl
 rw[ka h5];by_cases h6:r.Y.A≥r.Y.B
 ·rw[if_pos (.inr h6),kd h6];rfl
 rw[ka h6,if_neg (by omega)];simp only[kp];by_cases h7:r.X.A< -600\/600<r.X.A\/r.X.B< -600\/600<r.X.B
 ·rw[kd h7,if_pos (by omega)];rfl
 rw[ka h7];by_cases h8:r.Y.A< -600\/600<r.Y.A\/r.Y.B< -600\/600<r.Y.B
 ·rw[kd h8,if_pos (by omega)];rfl
 rw[ka h8,if_neg (by omega)];rfl
theorem qNm {r:Rect} (h:VR r) {a b:Int} (h1: -2000<=a/\a<=2000) (h2: -2000<=b/\b<=2000):BU r a b=some (GN r a b):=by
 unfold VR at h;unfold BU GN;rw[qK (by omega),qK (by omega)]
theorem qSV (s:qQ):FX s=some (GL s):=by
 unfold FX GL;rw[(qIL s).2];simp only[ke];by_cases h:KN s=0
 ·rw[h];rfl
 ·have:(KN s !=0)=true:=by simpa using h
  rw[this,if_neg h];rfl
theorem qTt {x:Span} (y:Span) (h:rngS x=true):DK x y=some (ml x y):=by
 have b:=mx_b (y:=y) h;have a1:=jN x.A y.A;have a2:=imin_or x.B y.B;unfold DK LY PP;simp only[ke];unfold ml lenS empS mxS;simp only;by_cases c:imin x.B y.B<=imax x.A y.A
 ·rw[kd c];cases decide (y.A≥y.B)<;>simp[c]
 ·rw[ka c,ka (show¬y.A≥y.B by omega)];rw[qAa] at h;simp only[kp];rw[qK (by omega)]
theorem rhgt_eq {r:Int} (h1: -60<=r) (h2:r<60):FC r=some (hgt r):=by
 unfold FC hgt;rw[qK (n:=r+1) (by omega),qK (by omega),qK (by omega)]
theorem qPf (s:qQ) (R:Rect):DV s R=some (zM (GL s) R.X R.Y):=by
 have h:=qIR s;unfold DV;rw[qSV s];simp only[ke];generalize GL s=t at*;have b:=h.len;have b1:=h.low;have b2:=h.high;have pb:∀x,x<t.Rows.length->0<=ml (t.Rows.getD x du) R.X*ml (hgt (t.Low+x)) R.Y/\ml (t.Rows.getD x du) R.X*ml (hgt (t.Low+x)) R.Y<=1440000:=λx hx=>by
  have m1:=ml_b R.X (h.rng _ (jE hx));have m2:=ml_b R.Y (qLf (r:=t.Low+x) (by omega) (by omega));have:=jL (a:=ml (t.Rows.getD x du) R.X) (b:=ml (hgt (t.Low+x)) R.Y) (m:=1200) (n:=1200) (by omega) (by omega) (by omega) (by omega) (by omega) (by omega);exact⟨kC m1.1 m2.1,by omega⟩
 have k2:=ZC t.Rows (λn (a:Int) x=>XS R t n a x) (λx=>(x:Int)) (λx a s=>s+ml a R.X*ml (hgt (t.Low+x)) R.Y) (λs=>s) (λx s=>0<=s/\s<=1440000*(x:Int)) (by omega)
  (λn x a hx hi=>by
   have p:=pb x hx;refine⟨?_,by omega⟩;rw[XS,kd (show(x:Int)<_ by omega),qU (by omega),qY (by omega),qK (n:=t.Low+x) (by omega),rhgt_eq (r:=t.Low+x) (by omega) (by omega)];simp only[kn,ko,ke];rw[qTt R.X (h.rng _ (jE hx)),qTt R.Y (qLf (r:=t.Low+x) (by omega) (by omega))];simp only[ke];rw[qK (n:=_*_) (by omega),qK (by omega)])
  (λn a _=>by rw[XS];simp) (i:=0) rfl 0 (by omega)
 rw[HT (λx a=>ml a R.X*ml (hgt (t.Low+x)) R.Y)] at k2;have e:=qI0 h (λr a=>ml a R.X*ml (hgt r) R.Y) (λr=>by
  have:ml ⟨0,0⟩ R.X=0:=by have:=ml_b (x:=⟨0,0⟩) R.X rfl;have e:lenS ⟨0,0⟩=0:=rfl;omega
  rw[this];simp)
 simp only[kw,uC] at k2;rw[e] at k2;rw[k2.1];rfl
theorem qSG {l:List qC} (h:VSol l) {i:Nat} (hi:i<l.length) (z:Span):EK ⟨imax z.A 0,imin z.B 20000⟩ (lenTo l i) (l.getD i du).Len=some (ml (ext l i) z):=by
 have b:=h.bd (i:=i) (by omega);have b':=h.bd (i:=i+1) (by omega);have at':=(h.at hi).2.2;rw[wF] at b';unfold EK;rw[qK (n:=lenTo l i+(l.getD i du).Len) (by omega),qC2];rw[show(ext l i).A=lenTo l i from rfl,show(ext l i).B=lenTo l i+(l.getD i du).Len from wF l i];have a1:=jN z.A 0;have a2:=imin_or z.B 20000;have a3:=jN (imax z.A 0) (lenTo l i);have a4:=imin_or (imin z.B 20000) (lenTo l i+(l.getD i du).Len);have a5:=jN (lenTo l i) z.A;have a6:=imin_or (lenTo l i+(l.getD i du).Len) z.B;simp only;by_cases c:imax (imax z.A 0) (lenTo l i)≥imin (imin z.B 20000) (lenTo l i+(l.getD i du).Len)
 ·rw[kd c,if_pos (by omega)];rfl
 ·rw[ka c,if_neg (by omega),qK (by omega)];simp only[kp]
  congr 1
  omega
theorem qSq {x y:Span} (h:y.B<=y.A):ml x y=0:=by
 rw[qC2];have a5:=jN x.A y.A;have a6:=imin_or x.B y.B;rw[if_pos (by omega)]
theorem qNp (l:List qC) {x y z:Span} (h:x.B<=x.A\/y.B<=y.A\/z.B<=z.A):volS l x y z=0:=by
 unfold volS;refine BK (λi _=>?_);rcases h with h|h|h
 ·have:zM (l.getD i du).Sec x y=0:=by unfold zM;exact BK (λj _=>by simp only;rw[qSq h];simp)
  rw[this];simp
 ·have:zM (l.getD i du).Sec x y=0:=by unfold zM;exact BK (λj _=>by simp only;rw[qSq h];simp)
  rw[this];simp
 ·rw[qSq h];simp
theorem qJm {l:List qC} (h:VSol l) (b:Box):DU l b=some (volS l b.X b.Y b.Z):=by
 have hl:=h.len;unfold DU;rw[(RT l).2,(WX l).2 h];simp only[ke,kv,kp];have K:∀q,(q=true->volS l b.X b.Y b.Z=0)->WP l b q=some (volS l b.X b.Y b.Z):=λq hq=>by
  unfold WP;cases q with
  |true=>rw[hq rfl];rfl
  |false=>
   have k:=zR l.length (λn (s:Int×Int) i=>QZ l b n s.1 s.2 i) (λi s=>(s.1+ml (ext l i) b.Z*zM (l.getD i du).Sec b.X b.Y,lenTo l (i+1))) (λs=>s.1)
    (λi s=>s.1=sumN i (λi=>ml (ext l i) b.Z*zM (l.getD i du).Sec b.X b.Y)/\s.2=lenTo l i) 0 (by omega) (by omega)
    (λn i s hi hs=>by
     obtain⟨s1,s2⟩:=s;obtain⟨e1,e2⟩:=hs;simp only at e1 e2;have p:=qIv h b.X b.Y b.Z (k:=i) (by omega);have t:=qNM h b.X b.Y b.Z hi;have bd:=h.bd (i:=i) (by omega);have at':=(h.at hi).2.2;rw[wF] at at';refine⟨?_,by simp only;rw[e1];rfl,rfl⟩;simp only;rw[QZ,kd (by omega),qU (by omega)];simp only[kn,ko,qY (show i<4611686018427387904 by omega),e2,qSG h hi b.Z,ke,LX,qPf];rw[qCh (h.at hi).1,qK (n:=lenTo l i+(l.getD i du).Len) (by omega),<-wF];by_cases c:ml (ext l i) b.Z>0
     ·rw[kd c];simp only[kn];rw[qK (n:=ml (ext l i) b.Z*zM (l.getD i du).Sec b.X b.Y) (by omega),qK (by omega)]
     ·have z:ml (ext l i) b.Z=0:=by have:=qEw (ext l i) b.Z;omega
      rw[ka c,z];simp)
    (λn s _=>by
     try simp only
     rw[QZ,ka (by omega)];rfl) (0,0) ⟨rfl,rfl⟩
   rw[show((0:Nat):Int)=0 from rfl,kF] at k;simp only at k;rw[k.1,k.2.1];rfl
 by_cases c1:b.X.A≥b.X.B
 ·rw[kd c1];exact K true (λ_=>qNp l (.inl c1))
 rw[ka c1];by_cases c2:b.Y.A≥b.Y.B
 ·rw[kd c2];exact K true (λ_=>qNp l (.inr (.inl c2)))
 rw[ka c2];exact K _ (λq=>qNp l (.inr (.inr (uj q))))
theorem qTr {l:List qC} (h:VSol l) (r:Rect) (z:Span):PV l r z=some (volS l r.X r.Y z):=by
 unfold PV;rw[qJm h];rfl
theorem qP9 {l:List qC} (h:VSol l) (r:Rect):BA l r=some (volS l r.X r.Y ⟨0,solLen l⟩):=by
 unfold BA;rw[(YA l).2,KF h];simp only[ke,qTr h]
end Saw
end Go.SL

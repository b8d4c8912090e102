/- The ring laws' plain mathematics, part 2: the measured readings, their rg_gaps. -/
import Derived.Test.YthbamnkheinbgaaGreatDoorSMa8
set_option linter.unusedVariables false
set_option linter.unusedSimpArgs false
namespace Go.SL
namespace Saw
def rg_okAt (a:Ring) (i:Nat):Bool:=(a.Read.getD i dd).Ok
def rg_meas (a:Ring):List Nat:=(List.range a.Read.length).filter (rg_okAt a)
theorem PX (x:Nat) (h:x<=1000000):w64 ((x:Int)+1)=((x+1:Nat):Int):=by rw[zG (by omega) (by omega)];omega
theorem IP {x n:Nat} (h:x<n):decide ((x:Int)<((n:Nat):Int))=true:=kq (by omega)
theorem IV {x n:Nat} (h:¬x<n):decide ((x:Int)<((n:Nat):Int))=false:=ki (by omega)
end Saw
end Go.SL

set_option linter.unusedSectionVars false
namespace Go.SL
namespace Saw
section
variable (a :Ring) (r:Int) (h:a.Read.length<=1000)
include h
end
theorem BJ {α:Type} [Inhabited α] {l t:List α} (h:l.length=t.length) (hj:∀j,j<l.length->l.getD j dd=t.getD j dd):l=t:=by
 apply uO h;intro i h1 h2;have:=hj i h1
 rwa [ka,ka,ko h1,ko h2] at this
theorem KX {α:Type} [Inhabited α] {l:List α} {x:Nat} (v:α) (h:x<l.length):(l.set x v).getD x dd=v:=by
 rw[ka,List.getElem?_set_self h];rfl
theorem QG {α:Type} [Inhabited α] {l:List α} {x j:Nat} (v:α) (h:x≠j):(l.set x v).getD j dd=l.getD j dd:=by
 rw[ka,List.getElem?_set_ne h,<-ka]
theorem YS {α β:Type} [Inhabited α] [Inhabited β] (f:α->β) (l:List α) {j:Nat} (h:j<l.length):(l.map f).getD j dd=f (l.getD j dd):=by
 rw[ka,ka,kE,ko h];rfl
def wB (q:Nat) (p:qA):qA:=match q with
 |0=>p
 |1=>⟨-p.Y,p.X⟩
 |2=>⟨-p.X,-p.Y⟩
 |_=>⟨p.Y,-p.X⟩
def JM (p:qA):Prop:= -600<=p.X/\p.X<=600/\-600<=p.Y/\p.Y<=600
theorem qAi {r:qC} (h:ZZ r=0):JM r.P/\(r.Ok=false->r.P=⟨0,0⟩):=by
 unfold ZZ at h;cases ho:r.Ok with
 |true=>
  rw[ho] at h;cases hr:JO r.P with
  |false=>rw[hr] at h;simp at h
  |true=>
   simp only[JO,kf,decide_eq_true_eq] at hr;exact⟨⟨hr.1.1,hr.1.2,hr.2.1,hr.2.2⟩,λh=>by cases h⟩
 |false=>
  rw[ho] at h;cases hz:BY r.P with
  |false=>rw[hz] at h;simp at h
  |true=>
   have:r.P=⟨0,0⟩:=by
    obtain⟨⟨x,y⟩,o⟩:=r;simp only[BY,Bool.and_true,kf,beq_iff_eq] at hz;simp only at hz⊢;rw[hz.1,hz.2]
   rw[this];exact⟨⟨by decide,by decide,by decide,by decide⟩,λ_=>rfl⟩
theorem qGz (r:Int):∃q:Nat,q<4/\Int.tmod (w64 (Int.tmod r 4+4)) 4=(q:Int):=by
 have h1:=ga r (show(0:Int)<4 by decide);have h2: -4<Int.tmod r 4:=by
  rcases Int.le_total 0 r with h|h
  ·have:=Int.tmod_nonneg 4 h;omega
  ·have:=Int.tmod_nonneg 4 (show 0<=-r by omega);have h3:=ga (-r) (show(0:Int)<4 by decide);rw[Int.neg_tmod] at this h3;omega
 rw[zG (by omega) (by omega)];obtain⟨n,hn⟩:=Int.eq_ofNat_of_zero_le (show 0<=Int.tmod r 4+4 by omega);rw[hn];exact⟨n % 4,uE _ (by decide),rfl⟩
theorem AD (l:List qA) (hs:∀p∈l,JM p) (h:l.length<=1000):∀(n x:Nat),l.length<x+n->x<=l.length->wS l n (x:Int)=some (.inr ())
 |0,x,h1,h2=>by omega
 |n+1,x,h1,h2=>by
  unfold wS;by_cases hx:x<l.length
  ·have hm:JM (l.getD x dd):=hs _ (by rw[ka,ko hx];exact uh hx);rw[IP hx,QX (by omega) (by omega)];simp only[ks,kw,XG,PX x (by omega)];have e1:((l.getD x dd).X== -9223372036854775808)=false:=uB.2 (by have:=hm.1;omega);have e2:((l.getD x dd).Y== -9223372036854775808)=false:=uB.2 (by have:=hm.2.2.1;omega);rw[e1,e2];exact AD l hs h n (x+1) (by omega) (by omega)
  ·rw[IV hx];rfl
theorem qDQ (l:List qA) (hs:∀p∈l,JM p) (h:l.length<=1000):XZ l=some true:=by
 unfold XZ;have:=AD l hs h FUEL 0 (by rw[QB];omega) (by omega);have h':wS l FUEL 0=some (.inr ()):=this;rw[h'];rfl
theorem qD2 (q:Nat) (hq:q<4) (p:qA) (hs:JM p):
  qA.mk (w64 (w64 ((qT.getD q dd).X*p.X)-w64 ((qT.getD q dd).Y*p.Y))) (w64 (w64 ((qT.getD q dd).Y*p.X)+w64 ((qT.getD q dd).X*p.Y)))=wB q p:=by
 obtain⟨h1,h2,h3,h4⟩:=hs;obtain⟨x,y⟩:=p;simp only at h1 h2 h3 h4
 match q,hq with
 |0,_=>
  simp only[qT,kU,wB,Int.one_mul,Int.zero_mul];rw[zG (n:=x) (by omega) (by omega),zG (n:=y) (by omega) (by omega),zG (n:=0) (by omega) (by omega),zG (by omega) (by omega),zG (by omega) (by omega)]
  congr 1<;>omega
 |1,_=>
  simp only[qT,kU,uA,wB,Int.one_mul,Int.zero_mul];rw[zG (n:=x) (by omega) (by omega),zG (n:=y) (by omega) (by omega),zG (n:=0) (by omega) (by omega),zG (by omega) (by omega),zG (by omega) (by omega)]
  congr 1<;>omega
 |2,_=>
  simp only[qT,kU,uA,wB,Int.zero_mul];rw[zG (n:= -1*x) (by omega) (by omega),zG (n:= -1*y) (by omega) (by omega),zG (n:=0) (by omega) (by omega),zG (by omega) (by omega),zG (by omega) (by omega)]
  congr 1<;>omega
 |3,_=>
  simp only[qT,kU,uA,wB,Int.zero_mul];rw[zG (n:= -1*x) (by omega) (by omega),zG (n:= -1*y) (by omega) (by omega),zG (n:=0) (by omega) (by omega),zG (by omega) (by omega),zG (by omega) (by omega)]
  congr 1<;>omega
theorem MQ (l:List qA) (hs:∀p∈l,JM p) (h:l.length<=1000) (r:Int) (q:Nat) (hq:q<4) (hr:Int.tmod (w64 (Int.tmod r 4+4)) 4=(q:Int)):
  ∀(n x:Nat) (t:List qA),l.length<x+n->x<=l.length->t.length=l.length->(∀j,j<x->t.getD j dd=wB q (l.getD j dd))->WR l r n t (x:Int)=some (l.map (wB q))
 |0,x,t,h1,h2,_,_=>by omega
 |n+1,x,t,h1,h2,h3,h4=>by
  unfold WR;by_cases hx:x<l.length
  ·have hm:JM (l.getD x dd):=hs _ (by rw[ka,ko hx];exact uh hx);rw[IP hx,QX (by omega) (by omega),QX (by omega) (by omega),hr];simp only[ks,kw,PX x (by omega)];rw[qD2 q hq _ hm];refine MQ l hs h r q hq hr n (x+1) _ (by omega) (by omega) (by rw[uV];exact h3) (λj hj=>?_);by_cases he:x=j
   ·subst he;rw[KX _ (by omega)]
   ·rw[QG _ he];exact h4 j (by omega)
  ·rw[IV hx];have:t=l.map (wB q):=BJ (by simp[h3]) (λj hj=>by rw[h4 j (by omega),YS _ _ (by omega)]);rw[this];rfl
theorem qE6 (l:List qA) (hs:∀p∈l,JM p) (h:l.length<=1000) (r:Int) (q:Nat) (hq:q<4) (hr:Int.tmod (w64 (Int.tmod r 4+4)) 4=(q:Int)):NG l r=some (l.map (wB q)):=by
 unfold NG;have hmk:mkOk (l.length:Int) 16=true:=by unfold mkOk;exact kq ⟨by omega,by omega,by omega⟩
 have hL:=MQ l hs h r q hq hr FUEL 0 (List.replicate l.length (qA.mk 0 0)) (by rw[QB];omega) (by omega) (by simp) (λj hj=>by omega);have hL':WR l r FUEL (List.replicate l.length (qA.mk 0 0)) 0=some (l.map (wB q)):=hL;rw[qDQ l hs h,hr,hmk,QX (by omega) (by omega)];simp only[kr,ua,ku,ks,kw,hL']
def QM (q:Nat) (r:qC):qC:=⟨wB q r.P,r.Ok⟩
def qBk (q:Nat) (a:Ring):Ring:=⟨a.Z,a.Read.map (QM q)⟩
theorem OD (a:Ring) (h:a.Read.length<=1000):∀(n x:Nat) (t:List qA),a.Read.length<x+n->x<=a.Read.length->t.length=a.Read.length->(∀j,j<x->t.getD j dd=(a.Read.getD j dd).P)->
  WI a n t (x:Int)=some (a.Read.map (·.P))
 |0,x,t,h1,h2,_,_=>by omega
 |n+1,x,t,h1,h2,h3,h4=>by
  unfold WI;by_cases hx:x<a.Read.length
  ·rw[IP hx,QX (by omega) (by omega),QX (by omega) (by omega)];simp only[ks,kw,PX x (by omega)];refine OD a h n (x+1) _ (by omega) (by omega) (by rw[uV];exact h3) (λj hj=>?_);by_cases he:x=j
   ·subst he;rw[KX _ (by omega)]
   ·rw[QG _ he];exact h4 j (by omega)
  ·rw[IV hx];have:t=a.Read.map (·.P):=BJ (by simp[h3]) (λj hj=>by rw[h4 j (by omega),YS _ _ (by omega)]);rw[this];rfl
theorem ON (a:Ring) (h:a.Read.length<=1000) (q:Nat):∀(n x:Nat) (t:List qC),a.Read.length<x+n->x<=a.Read.length->t.length=a.Read.length->(∀j,j<x->t.getD j dd=QM q (a.Read.getD j dd))->(∀j,x<=j->t.getD j dd=a.Read.getD j dd)->
  JA ((a.Read.map (·.P)).map (wB q)) n (x:Int) t=some (a.Read.map (QM q))
 |0,x,t,h1,h2,_,_,_=>by omega
 |n+1,x,t,h1,h2,h3,h4,h5=>by
  unfold JA;rw[uU,uU];by_cases hx:x<a.Read.length
  ·rw[IP hx,QX (by omega) (by omega),QX (by omega) (by omega)];simp only[ks,kw,PX x (by omega)];rw[h5 x (kg _),YS _ _ (by simpa using hx),YS _ _ hx];refine ON a h q n (x+1) _ (by omega) (by omega) (by rw[uV];exact h3) (λj hj=>?_) (λj hj=>?_)
   ·by_cases he:x=j
    ·subst he;rw[KX _ (by omega)];rfl
    ·rw[QG _ he];exact h4 j (by omega)
   ·rw[QG _ (by omega)];exact h5 j (by omega)
  ·rw[IV hx];have:t=a.Read.map (QM q):=BJ (by simp[h3]) (λj hj=>by rw[h4 j (by omega),YS _ _ (by omega)]);rw[this];rfl
theorem qHC (a:Ring) (r:Int) (g:WJ a) (q:Nat) (hq:q<4) (hr:Int.tmod (w64 (Int.tmod r 4+4)) 4=(q:Int)):wE a r=some (qBk q a):=by
 have hn:=g.hi;unfold wE;have hmk:mkOk (a.Read.length:Int) 16=true:=by unfold mkOk;exact kq ⟨by omega,by omega,by omega⟩
 have hL:WI a FUEL (List.replicate a.Read.length (qA.mk 0 0)) 0=some (a.Read.map (·.P)):=OD a (by omega) FUEL 0 _ (by rw[QB];omega) (by omega) (by simp) (λj hj=>by omega);have hL2:JA ((a.Read.map (·.P)).map (wB q)) FUEL 0 a.Read=some (a.Read.map (QM q)):=ON a (by omega) q FUEL 0 _ (by rw[QB];omega) (by omega) rfl (λj hj=>by omega) (λ_ _=>rfl);have hp:=qE6 (a.Read.map (·.P)) (λp hp=>by
  obtain⟨x,hx,rfl⟩:=uY.1 hp;exact(qAi (g.all x hx)).1) (by simpa using by omega) r q hq hr
 rw[qCr a (by omega),NZ,(YN a).2 g,hmk];simp only[kr,kZ,ku,ks,kw,hL,hp,hL2];rfl
theorem qCN (a:Ring) (r:Int) (h:a.Read.length<=1000) (hb:¬WJ a):wE a r=some a:=by
 unfold wE;have:(QN a !=0)=true:=uP.2 (λh=>hb ((YN a).1 h));rw[qCr a h,NZ];simp only[kr,this,ks]
theorem qFd (q:Nat) (hq:q<4) (p:qA) (hs:JM p):XS p (q:Int)=some (wB q p):=by
 unfold XS;rw[QB,show(4611686018427387904:Nat)=4611686018427387899+1+1+1+1+1 from rfl];obtain⟨h1,h2,h3,h4⟩:=hs;obtain⟨x,y⟩:=p;simp only at h1 h2 h3 h4;have ws:∀z:Int,-600<=z->z<=600->w64 (0-z)= -z:=λz h1 h2=>by rw[zG (by omega) (by omega)];omega
 have e1:w64 (0+1)=1:=by kernel_rfl
 have e2:w64 (1+1)=2:=by kernel_rfl
 have e3:w64 (2+1)=3:=by kernel_rfl
 have stop:∀(n:Nat) (z:qA),wT (q:Int) (n+1) (q:Int) z=some z:=λn z=>by
  rw[wT];simp
 have go:∀(n:Nat) (i:Int) (z:qA),i<(q:Int)->wT (q:Int) (n+1) i z=wT (q:Int) n (w64 (i+1)) ⟨w64 (0-z.Y),z.X⟩:=λn i z hi=>by
  rw[wT,kq hi];rfl
 match q,hq with
 |0,_=>rw[show(0:Int)=((0:Nat):Int) from rfl,stop];rfl
 |1,_=>
  rw[go _ _ _ (by decide),e1,show(1:Int)=((1:Nat):Int) from rfl,stop];simp only[kr,wB,ws y h3 h4]
 |2,_=>
  rw[go _ _ _ (by decide),e1,go _ _ _ (by decide),e2,show(2:Int)=((2:Nat):Int) from rfl,stop];simp only[kr,wB,ws y h3 h4,ws x h1 h2]
 |3,_=>
  rw[go _ _ _ (by decide),e1,go _ _ _ (by decide),e2,go _ _ _ (by decide),e3,show(3:Int)=((3:Nat):Int) from rfl,stop];simp only[kr,wB,ws y h3 h4,ws x h1 h2,ws (-y) (by omega) (by omega),Int.neg_neg]
theorem qGg (q:Nat):wB q ⟨0,0⟩=⟨0,0⟩:=by
 unfold wB;split<;>rfl
theorem VF (a:Ring) (g:WJ a) (r:Int) (q:Nat) (hq:q<4) (hr:Int.tmod (w64 (Int.tmod r 4+4)) 4=(q:Int)):∀(n x:Nat) (t:List qC),a.Read.length<x+n->x<=a.Read.length->t.length=a.Read.length->(∀j,j<x->t.getD j dd=QM q (a.Read.getD j dd))->(∀j,x<=j->t.getD j dd=a.Read.getD j dd)->
  jW r n (x:Int) t=some (a.Read.map (QM q))
 |0,x,t,h1,h2,_,_,_=>by omega
 |n+1,x,t,h1,h2,h3,h4,h5=>by
  have hn:=g.hi;unfold jW;rw[h3];by_cases hx:x<a.Read.length
  ·have hmem:a.Read.getD x dd∈a.Read:=by rw[ka,ko hx];exact uh hx
   have hm:=qAi (g.all _ hmem);rw[IP hx,QX (by omega) (by omega)];simp only[ks,kw,PX x (by omega),RS,h5 x (kg _),yE,hr,kr,qFd q hq _ hm.1];cases ho:(a.Read.getD x dd).Ok with
   |true=>
    refine VF a g r q hq hr n (x+1) _ (by omega) (by omega) (by rw[uV];exact h3) (λj hj=>?_) (λj hj=>?_)
    ·by_cases he:x=j
     ·subst he;rw[KX _ (by omega)];unfold QM;rw[ho]
     ·rw[QG _ he];exact h4 j (by omega)
    ·rw[QG _ (by omega)];exact h5 j (by omega)
   |false=>
    refine VF a g r q hq hr n (x+1) t (by omega) (by omega) h3 (λj hj=>?_) (λj hj=>h5 j (by omega));by_cases he:x=j
    ·subst he;rw[h5 x (kg _)];unfold QM;rw[hm.2 ho,qGg,<-hm.2 ho]
    ·exact h4 j (by omega)
  ·rw[IV hx];have:t=a.Read.map (QM q):=BJ (by simp[h3]) (λj hj=>by rw[h4 j (by omega),YS _ _ (by omega)]);rw[this];rfl
theorem qID (a:Ring) (r:Int) (g:WJ a) (q:Nat) (hq:q<4) (hr:Int.tmod (w64 (Int.tmod r 4+4)) 4=(q:Int)):QD a r=some (qBk q a):=by
 have hn:=g.hi;unfold QD;have hL:jW r FUEL 0 a.Read=some (a.Read.map (QM q)):=VF a g r q hq hr FUEL 0 _ (by rw[QB];omega) (by omega) rfl (λj hj=>by omega) (λ_ _=>rfl);rw[qAA a (by omega),MR,(YN a).2 g];simp only[kr,kZ,ku,hL];rfl
theorem qDx (a:Ring) (r:Int) (h:a.Read.length<=1000) (hb:¬WJ a):QD a r=some a:=by
 unfold QD;have:(QN a !=0)=true:=uP.2 (λh=>hb ((YN a).1 h));rw[qAA a h,MR];simp only[kr,this,ks]
theorem qFZ (a:Ring) (r:Int) (h:a.Read.length<=1000):∃b,wE a r=some b/\QD a r=some b/\b.Read.length=a.Read.length:=by
 obtain⟨q,hq,hr⟩:=qGz r;by_cases g:WJ a
 ·exact⟨_,qHC a r g q hq hr,qID a r g q hq hr,by simp[qBk]⟩
 ·exact⟨_,qCN a r h g,qDx a r h g,rfl⟩
end Saw
end Go.SL

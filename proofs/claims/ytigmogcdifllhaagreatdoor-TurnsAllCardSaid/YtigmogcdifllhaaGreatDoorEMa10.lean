/- Edge's plain mathematics, part 26: a log moved sideways. -/
import Derived.Test.YtigmogcdifllhaaGreatDoorEMa9
import Derived.Test.YtigmogcdifllhaaGreatDoorEMa8
import Derived.Test.YtigmogcdifllhaaGreatDoorEMod
set_option linter.unusedVariables false
set_option linter.unusedSimpArgs false
namespace Go.SL
namespace Saw
def mvX (dx:Int) (x:Span):Span:=⟨x.A+dx,x.B+dx⟩
def mvR (dx:Int) (r:Rect):Rect:=⟨mvX dx r.X,r.Y⟩
def mvD (dx:Int) (d:qC):qC:=⟨d.Kind,⟨mvX dx d.Box.X,d.Box.Y,d.Box.Z⟩⟩
theorem ml_mv (dx:Int) (x y:Span):ml (shS dx x) (mvX dx y)=ml x y:=by
 by_cases c:x.B<=x.A
 ·have e:empS x=true:=ka c;rw[qWF _ (by rw[sh_emp];exact e),qWF _ e]
 ·have e:shS dx x=mvX dx x:=by unfold shS empS mvX;rw[ke c];rfl
  rw[e,qDi,qDi];unfold mvX;have a1:=imin_or x.B y.B;have a2:=wZ x.A y.A;have a3:=imin_or (x.B+dx) (y.B+dx);have a4:=wZ (x.A+dx) (y.A+dx);simp only;split<;>split<;>omega
theorem emp_mv (dx:Int) (x y:Span):empS (mxS (mvX dx x) (mvX dx y))=empS (mxS x y):=by
 unfold mvX mxS empS;have a1:=imin_or x.B y.B;have a2:=wZ x.A y.A;have a3:=imin_or (x.B+dx) (y.B+dx);have a4:=wZ (x.A+dx) (y.A+dx);simp only;rw[decide_eq_decide];omega
theorem row_sh {s:qF} (dx:Int) (r:Int):row ⟨s.Low,s.Rows.map (shS dx)⟩ r=shS dx (row s r):=by
 have z:shS dx ⟨0,0⟩=⟨0,0⟩:=rfl;unfold row;simp only;by_cases c:r<s.Low
 ·rw[if_pos c,if_pos c,z]
 ·rw[if_neg c,if_neg c];by_cases k:(r-s.Low).toNat<s.Rows.length
  ·rw[ki,kI,ki,ks k];rfl
  ·rw[qCl (by simpa using k),qCl (by omega)];rfl
theorem qWS (dx:Int) (s:qF) (x y:Span):zJ ⟨s.Low,s.Rows.map (shS dx)⟩ (mvX dx x) y=zJ s x y:=by
 unfold zJ;exact qEr (λr _ _=>by rw[row_sh,ml_mv])
structure Mv (dx:Int) (l l':List qB):Prop where
 len:l'.length=l.length
 at':∀i,i<l.length->(l'.getD i daa).Len=(l.getD i daa).Len/\(l'.getD i daa).Sec=⟨(l.getD i daa).Sec.Low,(l.getD i daa).Sec.Rows.map (shS dx)⟩
theorem Mv.lenTo {dx:Int} {l l':List qB} (h:Mv dx l l') {k:Nat} (hk:k<=l.length):lenTo l' k=lenTo l k:=by
 unfold Saw.lenTo;exact ZC (λi hi=>(h.at' i (by omega)).1)
theorem Mv.solLen {dx:Int} {l l':List qB} (h:Mv dx l l'):solLen l'=solLen l:=by
 unfold Saw.solLen;rw[h.len,h.lenTo (kq _)]
theorem Mv.ext {dx:Int} {l l':List qB} (h:Mv dx l l') {i:Nat} (hi:i<l.length):Saw.ext l' i=Saw.ext l i:=by
 unfold Saw.ext;rw[h.lenTo (by omega),h.lenTo (by omega)]
theorem Mv.zones {dx:Int} {l l':List qB} (h:Mv dx l l') (r:Rect):zones l' (mvR dx r)=zones l r:=by
 unfold Saw.zones;rw[h.len];refine List.map_congr_left (λi hi=>?_);have hi':i<l.length:=by simpa using hi
 have a:ZF (mvR dx r)=ZF r:=by unfold ZF mvR mvX;simp only;rw[show r.X.B+dx-(r.X.A+dx)=r.X.B-r.X.A by omega]
 have e:zJ (l'.getD i daa).Sec (mvR dx r).X (mvR dx r).Y=zJ (l.getD i daa).Sec r.X r.Y:=by
  rw[(h.at' i hi').2];exact qWS dx _ r.X r.Y
 rw[h.ext hi',e,a]
theorem qV2 (dx:Int) (d b:Box):tch ⟨mvX dx d.X,d.Y,d.Z⟩ ⟨mvX dx b.X,b.Y,b.Z⟩=tch d b:=by
 unfold tch;rw[emp_mv]
theorem qPe {α β:Type} [Inhabited α] [Inhabited β] (f:α->β) {l:List α} {i:Nat} (h:i<l.length):(l.map f).getD i daa=f (l.getD i daa):=by
 rw[ki,kI,ki,ks h];rfl
theorem near_mv (dx:Int) (ds:List qC) (b:Box):near (ds.map (mvD dx)) ⟨mvX dx b.X,b.Y,b.Z⟩=(near ds b).map (mvD dx):=by
 unfold near;have key:∀k,k<=ds.length->foldN (λi t=>bif tch ((ds.map (mvD dx)).getD i daa).Box ⟨mvX dx b.X,b.Y,b.Z⟩ then t++[(ds.map (mvD dx)).getD i daa] else t) 0 k ([]:List qC)=(foldN (λi t=>bif tch (ds.getD i daa).Box b then t++[ds.getD i daa] else t) 0 k ([]:List qC)).map (mvD dx):=by
  intro k
  induction k with
  |zero=>intro _;rfl
  |succ k ih=>
   intro hk;rw[yK,yK,ih (by omega),kz,qPe _ (by omega),show tch (mvD dx (ds.getD k daa)).Box ⟨mvX dx b.X,b.Y,b.Z⟩=tch (ds.getD k daa).Box b from qV2 dx _ b];cases tch (ds.getD k daa).Box b with
   |true=>simp only[kp,kU,ut,dI]
   |false=>rfl
 rw[kP];exact key _ (kq _)
theorem qV6 (dx:Int) (ds:List qC) (b:Box) (fine v:Int):JZ (ds.map (mvD dx)) ⟨mvX dx b.X,b.Y,b.Z⟩ fine v=JZ ds b fine v:=by
 unfold JZ;rw[kP];have key:∀k x w,x+k=ds.length->runN (dstep (ds.map (mvD dx)) ⟨mvX dx b.X,b.Y,b.Z⟩ fine) x k w=runN (dstep ds b fine) x k w:=by
  intro k
  induction k with
  |zero=>intro x w _;rfl
  |succ k ih=>
   intro x w hx;have e:dstep (ds.map (mvD dx)) ⟨mvX dx b.X,b.Y,b.Z⟩ fine x w=dstep ds b fine x w:=by
    unfold dstep;rw[qPe _ (by omega),show tch (mvD dx (ds.getD x daa)).Box ⟨mvX dx b.X,b.Y,b.Z⟩=tch (ds.getD x daa).Box b from qV2 dx _ b];rfl
   unfold runN;rw[e];cases dstep ds b fine x w with
   |inl r=>rfl
   |inr s=>exact ih _ _ (by omega)
 rw[key _ 0 _ (by omega)]
theorem Mv.view {dx:Int} {l l':List qB} (h:Mv dx l l') (ds:List qC) (p:Product) (r:Rect):viewOf l' (ds.map (mvD dx)) p (mvR dx r)=⟨p,mvR dx r,Saw.solLen l,Saw.zones l r,(near ds ⟨r.X,r.Y,⟨0,Saw.solLen l⟩⟩).map (mvD dx)⟩:=by
 unfold viewOf;rw[h.solLen,h.zones,<-near_mv];rfl
theorem Mv.worthV {dx:Int} {l l':List qB} (h:Mv dx l l') (ds:List qC) (p:Product) (r:Rect) (s:Span) (fine:Int):worthV (viewOf l' (ds.map (mvD dx)) p (mvR dx r)) s fine=worthV (viewOf l ds p r) s fine:=by
 rw[h.view];unfold Saw.worthV;have e:∀v,JZ ((near ds ⟨r.X,r.Y,⟨0,Saw.solLen l⟩⟩).map (mvD dx)) ⟨(mvR dx r).X,(mvR dx r).Y,s⟩ fine v=JZ (near ds ⟨r.X,r.Y,⟨0,Saw.solLen l⟩⟩) ⟨r.X,r.Y,s⟩ fine v:=λv=>qV6 dx _ ⟨r.X,r.Y,s⟩ fine v;simp only[e];rfl
theorem Mv.bestR {dx:Int} {l l':List qB} (h:Mv dx l l') (ds:List qC) (p:Product) (r:Rect) (step fine:Int):bestR l' (ds.map (mvD dx)) p (mvR dx r) step fine=bestR l ds p r step fine:=by
 unfold Saw.bestR;have d:dimOk (mvR dx r) p=dimOk r p:=by unfold dimOk mvR mvX;simp only;rw[show r.X.B+dx-(r.X.A+dx)=r.X.B-r.X.A by omega]
 rw[d];cases dimOk r p with
 |false=>rfl
 |true=>
  simp only[kp];unfold qM8;have e1:(viewOf l' (ds.map (mvD dx)) p (mvR dx r)).length=(viewOf l ds p r).length:=h.solLen;rw[e1];refine MY (λk _ _ st=>?_);unfold qDq;refine MY (λi _ _ st=>?_);rw[show(viewOf l' (ds.map (mvD dx)) p (mvR dx r)).product=(viewOf l ds p r).product from rfl,h.worthV]
theorem qYP {l:List qB} {ds:List qC} {ps:List Product} {r:Rect} {w:Saw} {t:Rates} (h:(yL l ds ps r w t).2.2=0):VE l ds ps r w t/\(yL l ds ps r w t).2.1=(bst (lineS l ds ps r w t) 0).value:=by
 unfold yL at h⊢;by_cases c:chkE l ds ps r w t=0
 ·rw[if_pos c] at h⊢;refine⟨DT.1 c,?_⟩;unfold qKa at h⊢;by_cases c2:(rowN 2 (lineS l ds ps r w t).Kerf r.X (wA ps r (lineS l ds ps r w t))).length<=127
  ·rw[if_pos c2]
  ·rw[if_neg c2] at h;exact absurd h (by decide)
 ·rw[if_neg c] at h;exact absurd h c
def tot (c:List Int) (l:List Span):Int:=(l.map (λs=>pre c s.B.toNat-pre c s.A.toNat)).sum
def okSp (N:Int) (s:Span):Prop:=0<=s.A/\s.A<=s.B/\s.B<=N
structure Leg (a:Line) (e:Int) (x:zR) (i q:Nat):Prop where
 eq:x=⟨(i:Int),(q:Int)⟩
 hi:i<a.Sizes.length
 hq:¬((q:Int)+szAt a i>a.Len)
 e0:0<=e
 wh:(q:Int)=e\/∃k,k<QK a e.toNat/\q=placeN a e.toNat k
 hg:¬gnAt a i q<0
def gnOf (a:Line) (p:List zR) (j:Nat):Int:=gnAt a (p.getD j daa).Size.toNat (p.getD j daa).At.toNat
structure CI (a:Line) (p:List zR) (i:Nat) (s:List Span×List Span×Int):Prop where
 l1:s.1.length<=2*i
 l2:s.2.1.length<=i
 o1:∀x∈s.1,okSp a.Len x
 o2:∀x∈s.2.1,okSp a.Len x
 ed:s.2.2= -1\/(0<=s.2.2/\s.2.2<=a.Len)
 pc:∀j,j<i->∃k q:Nat,p.getD j daa=⟨(k:Int),(q:Int)⟩/\k<a.Sizes.length/\¬((q:Int)+szAt a k>a.Len)
 up:tot a.Dust s.1+tot a.Chip s.2.1+sumN i (gnOf a p)+(if s.2.2<0 then 0 else(bst a s.2.2.toNat).value)<=(bst a 0).value
 lo: -(1125899906842624*(if s.2.2<0 then a.Len else s.2.2))<=tot a.Dust s.1+tot a.Chip s.2.1+sumN i (gnOf a p)
theorem qTL (s:qF) {A m B:Int} (y:Span) (h1:A<=m) (h2:m<=B):zJ s ⟨A,m⟩ y+zJ s ⟨m,B⟩ y=zJ s ⟨A,B⟩ y:=by
 unfold zJ;rw[<-qLC];refine qEr (λr _ _=>?_);rw[<-qMl (row s r) h1 h2,gy]
theorem qS4 (l:List qB) {A m B:Int} (y z:Span) (h1:A<=m) (h2:m<=B):volS l ⟨A,m⟩ y z+volS l ⟨m,B⟩ y z=volS l ⟨A,B⟩ y z:=by
 unfold volS;rw[<-qCs];refine ZC (λi _=>?_);rw[<-qTL _ y h1 h2,uS]
theorem vol_nil (l:List qB) (A:Int) (y z:Span):volS l ⟨A,A⟩ y z=0:=by
 have:=qS4 l (A:=A) (m:=A) (B:=A) y z (kM _) (kM _);omega
theorem qSX (l:List qB) (r:Rect):∀k:Nat,sumN k (sliv l r)=volS l ⟨r.X.A,r.X.A+k⟩ r.Y ⟨0,solLen l⟩
 |0=>by rw[sumN,show r.X.A+((0:Nat):Int)=r.X.A by omega,vol_nil]
 |k+1=>by
  rw[sumN,qSX l r k];unfold sliv BR;simp only;rw[show r.X.A+((k+1:Nat):Int)=r.X.A+((k:Int)+1) by omega];exact qS4 l r.Y _ (by omega) (by omega)
theorem qUA {a:Line} (h:VL a): -2251799813685248*2000<=(bst a 0).value/\(bst a 0).value<=2251799813685248*2000:=by
 have ln:=h.len;obtain⟨s,e,t⟩:=qAF h (a.Len.toNat+1) 0 FUEL (List.replicate (a.Len.toNat+1) ⟨⟨0,0⟩,0⟩,List.replicate (a.Len.toNat+1) ⟨⟨0,0⟩,0⟩) (by omega) (by rw[FUEL_eq];omega) (TI0 h);have:=(t.b1 0 (by omega) (by omega)).1;unfold BV at this;unfold bst;omega
variable {l :List qB} {ds:List qC} {ps:List Product} {r:Rect} {w:Saw} {t:Rates}
def lvV (s:List qB) (d:List qC) (p:List Product) (w:Saw) (t:Rates) (x:Leaf):Int:=
 if x.Product= -1 then t.Chip*qZ s x.Rect
 else bif (bestR s d (p.getD x.Product.toNat daa) x.Rect w.Step t.Fine).2.1 then qBG s d (p.getD x.Product.toNat daa) x.Rect w t else t.Chip*qZ s x.Rect
theorem qUs (s:List qB) (d:List qC) (p:List Product) (w:Saw) (t:Rates):∀(lv:List Leaf) (i:Nat),
  sumL (lvV s d p w t) lv=sumL (λc:jZ=>1000000*c.Worth) (bdsFrom s d p w.Step t.Fine i lv)+t.Dust*sumL (trmV s w.Trim) (bdsFrom s d p w.Step t.Fine i lv)
   +t.Chip*(sumL (λx=>qZ s x.Rect) lv-sumL (brdV s) (bdsFrom s d p w.Step t.Fine i lv)-sumL (trmV s w.Trim) (bdsFrom s d p w.Step t.Fine i lv))
 |[],i=>by simp[sumL,bdsFrom]
 |x::lv,i=>by
  rw[YZ,YZ,qUs s d p w t lv (i+1)];show _=sumL _ (bdOf s d p w.Step t.Fine i x++bdsFrom s d p w.Step t.Fine (i+1) lv)+t.Dust*sumL _ (bdOf s d p w.Step t.Fine i x++bdsFrom s d p w.Step t.Fine (i+1) lv)+t.Chip*(_-sumL _ (bdOf s d p w.Step t.Fine i x++bdsFrom s d p w.Step t.Fine (i+1) lv)-sumL _ (bdOf s d p w.Step t.Fine i x++bdsFrom s d p w.Step t.Fine (i+1) lv));rw[EI,EI,EI]
  have e:lvV s d p w t x=sumL (λc:jZ=>1000000*c.Worth) (bdOf s d p w.Step t.Fine i x)+t.Dust*sumL (trmV s w.Trim) (bdOf s d p w.Step t.Fine i x)+t.Chip*(qZ s x.Rect-sumL (brdV s) (bdOf s d p w.Step t.Fine i x)-sumL (trmV s w.Trim) (bdOf s d p w.Step t.Fine i x)):=by
   unfold lvV bdOf;by_cases c:x.Product= -1
   ·rw[if_pos c,if_pos c];simp[sumL]
   ·rw[if_neg c,if_neg c];unfold qBG;cases hb:(bestR s d (p.getD x.Product.toNat daa) x.Rect w.Step t.Fine).2.1 with
    |false=>simp[sumL]
    |true=>
     simp only[kp,YZ,qSQ,Int.add_zero];rfl
  rw[e];generalize sumL (λc:jZ=>1000000*c.Worth) (bdOf s d p w.Step t.Fine i x)=a1;generalize sumL (trmV s w.Trim) (bdOf s d p w.Step t.Fine i x)=a2;generalize sumL (brdV s) (bdOf s d p w.Step t.Fine i x)=a3;generalize sumL (λc:jZ=>1000000*c.Worth) (bdsFrom s d p w.Step t.Fine (i+1) lv)=b1;generalize sumL (trmV s w.Trim) (bdsFrom s d p w.Step t.Fine (i+1) lv)=b2;generalize sumL (brdV s) (bdsFrom s d p w.Step t.Fine (i+1) lv)=b3;simp only[uS,gL];omega
theorem qWi {pt:Pattern} (h:VY l ds ps pt w t):(qRX l ds ps pt w t).Value=sumL (lvV l ds ps w t) (lvP pt w.Kerf)+sumL (λc=>t.Dust*qZ l c) (ctP pt w.Kerf)+t.Chip*(volT l-qZ l pt.Frame):=by
 have hs:=h.parts.sum (qZ l) (qI6 l);have e:=qUs l ds ps w t (lvP pt w.Kerf) 0;rw[e,show sumL (λc=>t.Dust*qZ l c) (ctP pt w.Kerf)=t.Dust*sumL (qZ l) (ctP pt w.Kerf) from qSu _ _ _];show yW _ _ _ _ _ _+(t.Chip*yC _ _ _ _ _ _+t.Dust*yD _ _ _ _ _ _)=_;unfold yW yC yB yD qQR bds;rw[<-hs];simp only[uS,gL];omega
structure SzD (l:List Product) (z:Int) (x:Nat) (s:List Int×List Int):Prop where
 len:s.1.length=s.2.length
 le:s.1.length<=x
 at_:∀j,j<s.1.length->∃i:Nat,i<x/\s.2.getD j daa=(i:Int)/\(((qT (l.getD i daa)).1=z/\s.1.getD j daa=(qT (l.getD i daa)).2)\/((qT (l.getD i daa)).2=z/\s.1.getD j daa=(qT (l.getD i daa)).1))
theorem qQ5 {l:List Product} {z:Int} {x:Nat} {s:List Int×List Int} (h:SzD l z x s) {v:Int} (hv:((qT (l.getD x daa)).1=z/\v=(qT (l.getD x daa)).2)\/((qT (l.getD x daa)).2=z/\v=(qT (l.getD x daa)).1)):SzD l z (x+1) (s.1++[v],s.2++[(x:Int)]):=by
 have h1:=h.len;have h2:=h.le;refine⟨by simp[h1],by simp;omega,λj hj=>?_⟩;simp only[ub,ue,gg] at hj;simp only;rw[qA8 (by omega),qA8 (by omega)];by_cases c:j<s.1.length
 ·rw[if_pos c,if_pos (by omega)];obtain⟨i,a,b,d⟩:=h.at_ j c;exact⟨i,by omega,b,d⟩
 ·rw[if_neg c,if_neg (by omega)];exact⟨x,by omega,rfl,hv⟩
theorem qUC {l:List Product} (hc:wF l=0) (z:Int):SzD l z l.length (zF l z):=by
 unfold zF;rw[if_neg (by simpa using hc)];have:∀k,SzD l z k (foldN (sizStep l z) 0 k ([],[])):=by
  intro k
  induction k with
  |zero=>exact⟨rfl,kq _,λj hj=>by simp[foldN] at hj⟩
  |succ k ih=>
   rw[yK,kz];generalize foldN (sizStep l z) 0 k ([],[])=s at*;unfold sizStep;by_cases c1:(qT (l.getD k daa)).1=z
   ·have e1:((qT (l.getD k daa)).1==z)=true:=by simpa using c1
    rw[e1];exact qQ5 ih (.inl ⟨c1,rfl⟩)
   ·have e1:((qT (l.getD k daa)).1==z)=false:=by simpa using c1
    rw[e1,kr];by_cases c2:(qT (l.getD k daa)).2=z
    ·have e2:((qT (l.getD k daa)).2==z)=true:=by simpa using c2
     rw[e2];exact qQ5 ih (.inr ⟨c2,rfl⟩)
    ·have e2:((qT (l.getD k daa)).2==z)=false:=by simpa using c2
     rw[e2,kr];exact⟨ih.len,by have:=ih.le;omega,λj hj=>by obtain⟨i,a,b⟩:=ih.at_ j hj;exact⟨i,by omega,b⟩⟩
 exact this _
def pqOf (ps:List Product) (z:Int) (a:Line) (A:Int) (x:zR):Pq:=(⟨A+x.At,A+(x.At+a.Sizes.getD x.Size.toNat daa)⟩,.leaf ⟨1,(zF ps z).2.getD x.Size.toNat daa⟩)
theorem pq_pt (ps:List Product) (z:Int) (a:Line) (A:Int) (L:List zR):(L.map (pqOf ps z a A)).map ptP=L.map (ptOf a A (bdN ps z)):=by
 rw[du];rfl
theorem bst_val {a:Line} (h:VL a) {p:Nat} (hp:(p:Int)<=a.Len) (hn:isNo (bst a p)=false):
  ∃i q:Nat,(bst a p).piece=⟨(i:Int),(q:Int)⟩/\i<a.Sizes.length/\¬((q:Int)+szAt a i>a.Len)/\¬gnAt a i q<0/\(q=p\/p+a.Kerf.toNat+1<=q)/\(bst a p).value=(if q=p then 0 else restV a p q)+candV a (bst a) q i:=by
 rw[qNM h hp] at hn⊢;have st:∀q:Nat,(q:Int)<=a.Len->isNo (stt a q)=false->∃i:Nat,(stt a q).piece=⟨(i:Int),(q:Int)⟩/\i<a.Sizes.length/\¬((q:Int)+szAt a i>a.Len)/\¬gnAt a i q<0/\(stt a q).value=candV a (bst a) q i:=λq hq hn=>by
  rw[qSs h hq] at hn⊢;rcases startS_is a (bst a) q with e|⟨i,h1,h2,h3,e⟩
  ·rw[e] at hn;cases hn
  ·exact⟨i,by rw[e],h1,h2,h3,by rw[e]⟩
 rcases bestS_is a (stt a) p with e|⟨h1,e⟩|⟨k,hk,h1,e⟩
 ·rw[e] at hn;cases hn
 ·rw[e];obtain⟨i,a1,a2,a3,a4,a5⟩:=st p hp h1;exact⟨i,p,a1,a2,a3,a4,.inl rfl,by rw[if_pos rfl,a5,dy]⟩
 ·rw[e];obtain⟨i,a1,a2,a3,a4,a5⟩:=st _ ((FJ h).1 hk) h1;have hlo:=SR h p k;refine⟨i,_,a1,a2,a3,a4,.inr hlo,?_⟩;rw[if_neg (by omega)];show(stt a (placeN a p k)).value+restV a p (placeN a p k)=_;rw[a5];omega
theorem bst_no {a:Line} (h:VL a) {p:Nat} (hp:(p:Int)<=a.Len) (hn:isNo (bst a p)=true):(bst a p).value=pre a.Chip a.Len.toNat-pre a.Chip p:=by
 rw[qNM h hp] at hn⊢;rcases bestS_is a (stt a) p with e|⟨h1,e⟩|⟨k,hk,h1,e⟩
 ·rw[e];rfl
 ·rw[e,h1] at hn;cases hn
 ·rw[e] at hn;have:isNo (stt a (placeN a p k))=true:=hn;rw[h1] at this;cases this
theorem qSc (c:Int) (l:List qB) (r:Rect) {k:Nat} (hk:(k:Int)<=wid r):pre ((List.range (wid r).toNat).map (λx=>c*sliv l r x)) k=c*qZ l ⟨⟨r.X.A,r.X.A+k⟩,r.Y⟩:=by
 unfold pre qZ;rw[ZC (g:=λi=>c*sliv l r i) (λi hi=>wI _ (by omega)),qIj,qSX]
theorem qVk (l:List qB) (r:Rect) {i j:Int} (h0:0<=i) (h:i<=j):qZ l ⟨⟨r.X.A,r.X.A+j⟩,r.Y⟩-qZ l ⟨⟨r.X.A,r.X.A+i⟩,r.Y⟩=qZ l ⟨⟨r.X.A+i,r.X.A+j⟩,r.Y⟩:=by
 have:=(qI6 l).x (A:=r.X.A) (m:=r.X.A+i) (B:=r.X.A+j) r.Y (by omega) (by omega);omega
theorem qF6 (c:Int) (l:List qB) (r:Rect) {i j:Nat} (h:i<=j) (hj:(j:Int)<=wid r):pre ((List.range (wid r).toNat).map (λx=>c*sliv l r x)) j-pre ((List.range (wid r).toNat).map (λx=>c*sliv l r x)) i=c*qZ l ⟨⟨r.X.A+i,r.X.A+j⟩,r.Y⟩:=by
 rw[qSc c l r hj,qSc c l r (by omega),<-gL,qVk l r (by omega) (by omega)]
theorem gn_of (h:VE l ds ps r w t) {i q:Nat} (hi:i<(lineS l ds ps r w t).Sizes.length) (hq:¬((q:Int)+szAt (lineS l ds ps r w t) i>(lineS l ds ps r w t).Len)) (hg:¬gnAt (lineS l ds ps r w t) i q<0):
  gnAt (lineS l ds ps r w t) i q=qBG l ds (ps.getD ((zF ps (r.Y.B-r.Y.A)).2.getD i daa).toNat daa) ⟨⟨r.X.A+q,r.X.A+(q+szAt (lineS l ds ps r w t) i)⟩,r.Y⟩ w t
  /\(bestR l ds (ps.getD ((zF ps (r.Y.B-r.Y.A)).2.getD i daa).toNat daa) ⟨⟨r.X.A+q,r.X.A+(q+szAt (lineS l ds ps r w t) i)⟩,r.Y⟩ w.Step t.Fine).2.1=true:=by
 have e:gnAt (lineS l ds ps r w t) i q=CJ l ds (ps.getD ((zF ps (r.Y.B-r.Y.A)).2.getD i daa).toNat daa) r w t (szAt (lineS l ds ps r w t) i) q:=by
  unfold gnAt;show((qFC l ds ps r w t (r.Y.B-r.Y.A)).getD i daa).getD q daa=_;unfold qFC;rw[wI _ (show i<(zF ps (r.Y.B-r.Y.A)).1.length from hi)];unfold OR;rw[wI _ (by unfold szAt at hq;simp only[lineS] at hq;omega)];rfl
 rw[e] at hg⊢;unfold CJ at hg⊢;by_cases c:(q:Int) % w.Pitch=0
 ·rw[if_pos c] at hg⊢;have ep:BR r (q:Int) ((q:Int)+szAt (lineS l ds ps r w t) i)=⟨⟨r.X.A+q,r.X.A+(q+szAt (lineS l ds ps r w t) i)⟩,r.Y⟩:=rfl;rw[ep] at hg⊢;refine⟨rfl,?_⟩;cases hb:(bestR l ds (ps.getD ((zF ps (r.Y.B-r.Y.A)).2.getD i daa).toNat daa) ⟨⟨r.X.A+q,r.X.A+(q+szAt (lineS l ds ps r w t) i)⟩,r.Y⟩ w.Step t.Fine).2.1 with
  |true=>rfl
  |false=>unfold qBG at hg;rw[hb,kr] at hg;omega
 ·rw[if_neg c] at hg;omega
theorem qRT (h:VE l ds ps r w t):∀(m p:Nat),(p:Int)<=(lineS l ds ps r w t).Len->(lineS l ds ps r w t).Len.toNat<p+m->
  rowV (lvV l ds ps w t) (λc=>t.Dust*qZ l c) 2 w.Kerf r (r.X.A+wid r) (r.X.A+p) ((walk (lineS l ds ps r w t) m p).map (pqOf ps (r.Y.B-r.Y.A) (lineS l ds ps r w t) r.X.A))=(bst (lineS l ds ps r w t) p).value
 |0,p,hp,hm=>by omega
 |m+1,p,hp,hm=>by
  have vl:=qCc h;have kf:=vl.kerf;have hlen:(lineS l ds ps r w t).Len=wid r:=rfl;have hkf:(lineS l ds ps r w t).Kerf=w.Kerf:=rfl;have hsz:(lineS l ds ps r w t).Sizes=(zF ps (r.Y.B-r.Y.A)).1:=rfl;have hch:(lineS l ds ps r w t).Chip=(List.range (wid r).toNat).map (λx=>t.Chip*sliv l r x):=rfl;have hdu:(lineS l ds ps r w t).Dust=(List.range (wid r).toNat).map (λx=>t.Dust*sliv l r x):=rfl;have ln:=vl.len;rw[walk];cases hn:isNo (bst (lineS l ds ps r w t) p) with
  |true=>
   rw[bst_no vl hp hn,hch,qF6 _ l r (by omega) (by omega)];simp only[kp,dI,rowV];unfold lvV;rw[if_pos rfl];show t.Chip*qZ l ⟨⟨r.X.A+p,r.X.A+wid r⟩,r.Y⟩=_;rw[hlen,show((wid r).toNat:Int)=wid r by omega]
  |false=>
   obtain⟨i,q,e,hi,hq,hg,hw,hv⟩:=bst_val vl hp hn;obtain⟨g1,g2⟩:=gn_of h hi hq hg;rw[hv,e];simp only[kr,ko,ut];have sz:=vl.sz i hi;have en:(endN (lineS l ds ps r w t) q i:Int)=q+szAt (lineS l ds ps r w t) i:=by unfold endN szAt;omega
   have hqs:(q:Int)+szAt (lineS l ds ps r w t) i<=wid r:=by omega
   have szp:1<=szAt (lineS l ds ps r w t) i:=sz.1;obtain⟨ip,hip,eip,_⟩:=(qUC h.pr (r.Y.B-r.Y.A)).at_ i hi;have hne:¬(zF ps (r.Y.B-r.Y.A)).2.getD i daa= -1:=by rw[eip];omega
   have pq:pqOf ps (r.Y.B-r.Y.A) (lineS l ds ps r w t) r.X.A ⟨(i:Int),(q:Int)⟩=(⟨r.X.A+q,r.X.A+(q+szAt (lineS l ds ps r w t) i)⟩,.leaf ⟨1,(zF ps (r.Y.B-r.Y.A)).2.getD i daa⟩):=rfl;rw[pq];unfold rowV;simp only;rw[qYe];have ev:lvV l ds ps w t ⟨wiP r 2 ⟨r.X.A+q,r.X.A+(q+szAt (lineS l ds ps r w t) i)⟩,(zF ps (r.Y.B-r.Y.A)).2.getD i daa⟩=gnAt (lineS l ds ps r w t) i q:=by
    unfold lvV;rw[if_neg hne];have ew:wiP r 2 ⟨r.X.A+q,r.X.A+(q+szAt (lineS l ds ps r w t) i)⟩=⟨⟨r.X.A+q,r.X.A+(q+szAt (lineS l ds ps r w t) i)⟩,r.Y⟩:=rfl;simp only[ew];rw[g2,kp,g1]
   rw[ev];unfold candV;have egap:(if r.X.A+(q:Int)>r.X.A+p then lvV l ds ps w t ⟨wiP r 2 ⟨r.X.A+p,r.X.A+q-w.Kerf⟩,-1⟩+t.Dust*qZ l (wiP r 2 ⟨r.X.A+q-w.Kerf,r.X.A+q⟩) else 0)=(if q=p then 0 else restV (lineS l ds ps r w t) p q):=by
    by_cases c:q=p
    ·rw[if_pos c,if_neg (by omega)]
    ·rw[if_neg c,if_pos (by omega)];have hk2:((q-w.Kerf.toNat:Nat):Int)=q-w.Kerf:=by omega
     unfold restV;rw[hch,hdu,hkf];have d1:=qF6 t.Chip l r (i:=p) (j:=q-w.Kerf.toNat) (by omega) (by omega);have d2:=qF6 t.Dust l r (i:=q-w.Kerf.toNat) (j:=q) (by omega) (by omega);unfold lvV;rw[if_pos rfl];show t.Chip*qZ l ⟨⟨r.X.A+p,r.X.A+q-w.Kerf⟩,r.Y⟩+t.Dust*qZ l ⟨⟨r.X.A+q-w.Kerf,r.X.A+q⟩,r.Y⟩=_;rw[hk2] at d1 d2;rw[show r.X.A+(q:Int)-w.Kerf=r.X.A+(q-w.Kerf) by omega,<-d1,<-d2];omega
   rw[egap];have etail:(if r.X.A+((q:Int)+szAt (lineS l ds ps r w t) i)<r.X.A+wid r then t.Dust*qZ l (wiP r 2 ⟨r.X.A+(q+szAt (lineS l ds ps r w t) i),imin (r.X.A+(q+szAt (lineS l ds ps r w t) i)+w.Kerf) (r.X.A+wid r)⟩)+rowV (lvV l ds ps w t) (λc=>t.Dust*qZ l c) 2 w.Kerf r (r.X.A+wid r) (imin (r.X.A+(q+szAt (lineS l ds ps r w t) i)+w.Kerf) (r.X.A+wid r)) (List.map (pqOf ps (r.Y.B-r.Y.A) (lineS l ds ps r w t) r.X.A) (if(endN (lineS l ds ps r w t) q i:Int)=(lineS l ds ps r w t).Len then[] else walk (lineS l ds ps r w t) m (nxtN (lineS l ds ps r w t) (endN (lineS l ds ps r w t) q i)))) else 0)
     =(if(endN (lineS l ds ps r w t) q i:Int)=(lineS l ds ps r w t).Len then 0 else(pre (lineS l ds ps r w t).Dust (nxtN (lineS l ds ps r w t) (endN (lineS l ds ps r w t) q i))-pre (lineS l ds ps r w t).Dust (endN (lineS l ds ps r w t) q i))+(bst (lineS l ds ps r w t) (nxtN (lineS l ds ps r w t) (endN (lineS l ds ps r w t) q i))).value):=by
    by_cases c:(endN (lineS l ds ps r w t) q i:Int)=(lineS l ds ps r w t).Len
    ·rw[if_neg (by omega),if_pos c]
    ·rw[if_pos (by omega),if_neg c,if_neg c];have nb:=qQL vl hi hq c;have en2:(nxtN (lineS l ds ps r w t) (endN (lineS l ds ps r w t) q i):Int)=imin ((endN (lineS l ds ps r w t) q i:Int)+w.Kerf) (wid r):=by
      have mm:=imin_or ((endN (lineS l ds ps r w t) q i:Int)+w.Kerf) (wid r);unfold nxtN;rw[hkf,hlen];omega
     have m1:=imin_or ((endN (lineS l ds ps r w t) q i:Int)+w.Kerf) (wid r);have m2:=imin_or (r.X.A+(q+szAt (lineS l ds ps r w t) i)+w.Kerf) (r.X.A+wid r);have en3:imin (r.X.A+(q+szAt (lineS l ds ps r w t) i)+w.Kerf) (r.X.A+wid r)=r.X.A+(nxtN (lineS l ds ps r w t) (endN (lineS l ds ps r w t) q i):Int):=by omega
     rw[en3,qRT h m _ nb.2.1 (by omega)];rw[hdu,qF6 t.Dust l r nb.2.2 (by omega)];show t.Dust*qZ l ⟨⟨r.X.A+(q+szAt (lineS l ds ps r w t) i),r.X.A+(nxtN (lineS l ds ps r w t) (endN (lineS l ds ps r w t) q i):Int)⟩,r.Y⟩+_=_;rw[en]
   rw[etail];omega
end Saw
end Go.SL
namespace Go.SL
namespace Saw
variable {l :List qB} {ds:List qC} {ps:List Product} {r:Rect} {w:Saw} {t:Rates}
def qKj (ps:List Product) (r:Rect) (a:Line):List Pq:=(wD a).map (pqOf ps (r.Y.B-r.Y.A) a r.X.A)
theorem qSi (ps:List Product) (r:Rect) (a:Line):(qKj ps r a).map ptP=wA ps r a:=pq_pt _ _ _ _ _
theorem qUk (r:Rect):r.X.A+wid r=r.X.B:=by unfold wid;omega
theorem qIQ (h:VE l ds ps r w t):GX w.Kerf r.X.B r.X.A ((qKj ps r (lineS l ds ps r w t)).map ptP):=by
 have vl:=qCc h;have:=qDm vl r.X.A (bdN ps (r.Y.B-r.Y.A)) 3000 0 (by have:=vl.len;omega);rw[qSi];unfold wA wD;have e1:(lineS l ds ps r w t).Len=wid r:=rfl;have e2:(lineS l ds ps r w t).Kerf=w.Kerf:=rfl;rw[e1,e2,qUk,show r.X.A+((0:Nat):Int)=r.X.A by omega] at this;exact this
def qJb (ps:List Product) (r:Rect) (a:Line) (kerf:Int):T:=rowT 2 kerf r.X.B r.X.A (qKj ps r a)
theorem qJd (h:VE l ds ps r w t):wR (qJb ps r (lineS l ds ps r w t) w.Kerf)=rowN 2 (lineS l ds ps r w t).Kerf r.X (wA ps r (lineS l ds ps r w t)):=by
 unfold qJb rowN;rw[qNm 2 w.Kerf r.X.B _ _ (qIQ h),qSi];rfl
theorem qIV (h:VE l ds ps r w t):okS (qBX ps) w.Kerf (qJb ps r (lineS l ds ps r w t) w.Kerf) r:=by
 have vl:=qCc h;have hr:=h.vr;unfold VR at hr;have e:wiP r 2 ⟨r.X.A,r.X.B⟩=r:=rfl;have key:=qWU (bd:=qBX ps) (R:=r) (axis:=2) (B:=r.X.B) (.inl rfl) h.vw.kerf hr.1.2.2 (qKj ps r (lineS l ds ps r w t)) r.X.A hr.1.1 (by omega) (qIQ h) ?_
 ·rw[e] at key;exact key
 ·intro x hx;unfold qKj wD at hx;obtain⟨y,hy,rfl⟩:=di.1 hx;obtain⟨i,q,ey,hi,hq,hg⟩:=qCf vl 3000 0 (by have:=vl.len;omega) y hy;subst ey;obtain⟨ip,hip,eip,hd⟩:=(qUC h.pr (r.Y.B-r.Y.A)).at_ i hi;show ripB 1=false/\chkN (qBX ps) ⟨1,(zF ps (r.Y.B-r.Y.A)).2.getD ((i:Int)).toNat daa⟩ ⟨wiP r 2 ⟨r.X.A+q,r.X.A+(q+(zF ps (r.Y.B-r.Y.A)).1.getD ((i:Int)).toNat daa)⟩,1⟩=0;refine⟨rfl,?_⟩;rw[ko,eip];unfold chkN;simp only;rw[if_neg (by omega),if_neg (by omega),if_neg (by rw[show ripB 1=false from rfl];simp),if_pos trivial];unfold qBX;rw[if_neg (by omega),ko]
  have hdm:dimOk (wiP r 2 ⟨r.X.A+q,r.X.A+(q+(zF ps (r.Y.B-r.Y.A)).1.getD i daa)⟩) (ps.getD ip daa)=true:=by
   show dimOk ⟨⟨r.X.A+q,r.X.A+(q+(zF ps (r.Y.B-r.Y.A)).1.getD i daa)⟩,r.Y⟩ (ps.getD ip daa)=true;unfold dimOk;simp only[dp,kv,gh];rcases hd with⟨d1,d2⟩|⟨d1,d2⟩
   ·right;omega
   ·left;omega
  rw[hdm];rfl
theorem qUB (h:VE l ds ps r w t) (hn:(rowN 2 (lineS l ds ps r w t).Kerf r.X (wA ps r (lineS l ds ps r w t))).length<=127):VY l ds ps ⟨r,rowN 2 (lineS l ds ps r w t).Kerf r.X (wA ps r (lineS l ds ps r w t))⟩ w t:=by
 refine⟨h.sol,(yO ds).2 ⟨h.dl,h.dd⟩,h.pr,h.vw,?_⟩;rw[CF];refine⟨h.vr,h.vw.kerf,hn,?_⟩;simp only;rw[<-qJd h] at hn⊢;exact qYa (qIV h) hn
theorem edge_tv (h:VE l ds ps r w t):tv (lvV l ds ps w t) (λc=>t.Dust*qZ l c) w.Kerf (qJb ps r (lineS l ds ps r w t) w.Kerf) r=(bst (lineS l ds ps r w t) 0).value:=by
 have vl:=qCc h;have hr:=h.vr;unfold VR at hr;have ln:=vl.len;have e:wiP r 2 ⟨r.X.A,r.X.B⟩=r:=rfl;have key:=qVX (lvV l ds ps w t) (λc=>t.Dust*qZ l c) (R:=r) (axis:=2) (B:=r.X.B) (.inl rfl) h.vw.kerf hr.1.2.2 (qKj ps r (lineS l ds ps r w t)) r.X.A hr.1.1 (by omega) (qIQ h);rw[e] at key;unfold qJb;rw[key];have:=qRT h 3000 0 (by omega) (by omega);rw[qUk,show r.X.A+((0:Nat):Int)=r.X.A by omega] at this;exact this
theorem qU0 (h:VE l ds ps r w t) (hn:(rowN 2 (lineS l ds ps r w t).Kerf r.X (wA ps r (lineS l ds ps r w t))).length<=127):
  (qRX l ds ps ⟨r,rowN 2 (lineS l ds ps r w t).Kerf r.X (wA ps r (lineS l ds ps r w t))⟩ w t).Value=(bst (lineS l ds ps r w t) 0).value+t.Chip*(volT l-qZ l r):=by
 rw[qWi (qUB h hn),<-edge_tv h];unfold tv lvP ctP lvT ctT;simp only;rw[<-qJd h,qHK qDY _ _ (qFK (qIV h)),qHK (cutG w.Kerf) _ _ (qFK (qIV h))]
end Saw
end Go.SL
namespace Go.SL
namespace Saw
variable {l :List qB} {ds:List qC} {ps:List Product} {F:Rect} {w:Saw} {t:Rates}
theorem qSD (r:Rect):HM r=some (if r.X.A≥r.X.B\/r.Y.A≥r.Y.B then 19 else if r.X.A< -600\/600<r.X.A\/r.X.B< -600\/600<r.X.B\/r.Y.A< -600\/600<r.Y.A\/r.Y.B< -600\/600<r.Y.B then 9 else 0):=by
 have s:∀n,wC r (n+1) 0=(bif decide (r.X.A< -600)||decide (r.X.A>600) then some (.inl 9) else wC r n 1)
   /\wC r (n+1) 1=(bif decide (r.X.B< -600)||decide (r.X.B>600) then some (.inl 9) else wC r n 2)
   /\wC r (n+1) 2=(bif decide (r.Y.A< -600)||decide (r.Y.A>600) then some (.inl 9) else wC r n 3)
   /\wC r (n+1) 3=(bif decide (r.Y.B< -600)||decide (r.Y.B>600) then some (.inl 9) else wC r n 4)
   /\wC r (n+1) 4=some (.inr ()):=by
  intro n;have bo:∀(a b:Bool) (x y:Option (Int⊕Unit)),(bif a||b then x else y)=bif a then x else bif b then x else y:=by intro a b x y;cases a<;>rfl
  simp only[bo];exact⟨by kernel_rfl,by kernel_rfl,by kernel_rfl,by kernel_rfl,by kernel_rfl⟩
 have bt:∀x:Int,(decide (x< -600)||decide (x>600))=decide (x< -600\/600<x):=by
  intro x;rw[dX,dp,decide_eq_true_eq,decide_eq_true_eq,decide_eq_true_eq]
 simp only[bt] at s;obtain⟨k,hk⟩:∃k,FUEL=k+5:=⟨4611686018427387899,by rw[FUEL_eq]⟩
 unfold HM DQ;by_cases h1:r.X.A≥r.X.B
 ·rw[ka h1,if_pos (.inl h1)];rfl
 by_cases h2:r.Y.A≥r.Y.B
 ·rw[ke h1,ka h2,if_pos (.inr h2)];rfl
 rw[ke h1,ke h2,if_neg (by omega)];simp only[kr];rw[hk,(s _).1,(s _).2.1,(s _).2.2.1,(s _).2.2.2.1,(s _).2.2.2.2];by_cases a1:r.X.A< -600\/600<r.X.A
 ·rw[ka a1,if_pos (by omega)];rfl
 by_cases a2:r.X.B< -600\/600<r.X.B
 ·rw[ke a1,ka a2,if_pos (by omega)];rfl
 by_cases a3:r.Y.A< -600\/600<r.Y.A
 ·rw[ke a1,ke a2,ka a3,if_pos (by omega)];rfl
 by_cases a4:r.Y.B< -600\/600<r.Y.B
 ·rw[ke a1,ke a2,ke a3,ka a4,if_pos (by omega)];rfl
 rw[ke a1,ke a2,ke a3,ke a4,if_neg (by omega)];rfl
theorem qSl (l:List qB) (ds:List qC) (ps:List Product) (F:Rect) (w:Saw) (t:Rates):LO l ds ps F w t=some (chkE l ds ps F w t):=by
 unfold LO chkE;simp only[(UK l).1,qEQ,qE7,qRI,qSD,kg];have k:∀(n:Int) (a b:Option Int),(bif n !=0 then a else b)=if n≠0 then a else b:=by
  intro n a b;by_cases h:n=0
  ·rw[h];rfl
  ·have:(n !=0)=true:=by simpa using h
   rw[this,if_pos h];rfl
 simp only[k];split
 ·rfl
 ·split
  ·rfl
  ·split
   ·rfl
   ·split<;>rfl
def strR (F:Rect) (p q:Int):Rect:=⟨F.X,⟨F.Y.A+p,F.Y.A+q⟩⟩
def hei (F:Rect):Int:=F.Y.B-F.Y.A
theorem qK7 (h:VR F) {p q:Int} (h1: -2000<=p/\p<=2000) (h2: -2000<=q/\q<=2000):LV F p q=some (strR F p q):=by
 unfold VR at h;unfold LV strR;rw[qD (n:=F.Y.A+p) (by omega),qD (n:=F.Y.A+q) (by omega)]
def hasB (n:List Node):Bool:=n.any (λx=>x.Kind==1)
theorem hasB_eq (n:List Node) (hl:n.length<=1000000):MJ n=some (hasB n):=by
 unfold MJ TD BA;have key:∀(d i m:Nat),i+d=n.length->d<m->∃u,jH n m (i:Int)=some u/\(match u with| .inl v=>v≥0/\(n.drop i).any (λx=>x.Kind==1)=true| .inr _=>(n.drop i).any (λx=>x.Kind==1)=false):=by
  intro d
  induction d with
  |zero=>
   intro i m hi hm;obtain⟨m,rfl⟩:∃q,m=q+1:=⟨m-1,by omega⟩
   refine⟨.inr (),?_,?_⟩
   ·rw[jH,ke (by omega)];rfl
   ·rw[dF (by omega)];rfl
  |succ d ih=>
   intro i m hi hm;obtain⟨m,rfl⟩:∃q,m=q+1:=⟨m-1,by omega⟩
   rw[jH,ka (by omega),qJ (by omega),qM (by omega)];unfold qBW;simp only[kp,ko,kg];rw[JE n i (by omega)];cases hb:(n.getD i daa).Kind==1 with
   |true=>exact⟨.inl (i:Int),rfl,by omega,by rw[List.any_cons,hb];rfl⟩
   |false=>
    obtain⟨u,e,hu⟩:=ih (i+1) m (by omega) (by omega);refine⟨u,e,?_⟩;cases u with
    |inl v=>exact⟨hu.1,by rw[List.any_cons,hb];exact hu.2⟩
    |inr v=>show(_::_).any _=false;rw[List.any_cons,hb];exact hu
 obtain⟨u,e,hu⟩:=key n.length 0 FUEL (by omega) (by rw[FUEL_eq];omega);rw[uI] at hu;rw[show((0:Nat):Int)=0 from rfl] at e;rw[e];unfold hasB;cases u with
 |inl v=>simp only[kg,Sum.elim_inl];rw[ka hu.1,hu.2]
 |inr v=>simp only[kg,Sum.elim_inr];rw[hu];rfl
noncomputable def stG (l:List qB) (ds:List qC) (ps:List Product) (F:Rect) (w:Saw) (t:Rates) (h:Int) (p:Nat):Int×List Node:=
 if(p:Int) % w.Pitch=0 then
  (if(yL l ds ps (strR F p (p+h)) w t).2.2=0/\hasB (yL l ds ps (strR F p (p+h)) w t).1=true then((yL l ds ps (strR F p (p+h)) w t).2.1,(yL l ds ps (strR F p (p+h)) w t).1) else(-1,[]))
 else(-1,[])
theorem qO6 (l:List qB) (ds:List qC) (ps:List Product) (r:Rect) (w:Saw) (t:Rates):(yL l ds ps r w t).1.length<=127:=by
 unfold yL qKa;split
 ·split
  ·rename_i h;exact h
  ·simp
 ·simp
def nRow (F:Rect) (h:Int):Nat:=(hei F-h+1).toNat
theorem qMs {ps:List Product} (h:wF ps=0) {x:Int} (hx:x∈hts ps):5<=x/\x<=721:=by
 rw[qUE h,qYK] at hx;obtain⟨i,hi,e⟩:=hx;have g:=qOS (qLm h hi);rcases e with rfl|rfl<;>omega
theorem qVh (h:VE l ds ps F w t) {j:Nat} (hj:j<(hts ps).length):
  zU l ds ps F w t (hts ps) (j:Int) FUEL [] [] 0=some ((List.range (nRow F ((hts ps).getD j daa))).map (λp=>(stG l ds ps F w t ((hts ps).getD j daa) p).1),(List.range (nRow F ((hts ps).getD j daa))).map (λp=>(stG l ds ps F w t ((hts ps).getD j daa) p).2)):=by
 have hb:=qMs h.pr (zK hj);have hr:=h.vr;have hr':=hr;unfold VR at hr';have hp:=h.vw.pitch;generalize hsz:(hts ps).getD j daa=sz at*;have k:=zA (nRow F sz) (λn (s:List Int×List (List Node)) x=>zU l ds ps F w t (hts ps) (j:Int) n s.1 s.2 x) (λx s=>(s.1++[(stG l ds ps F w t sz x).1],s.2++[(stG l ds ps F w t sz x).2])) (λs=>s)
  (λx s=>s=((List.range x).map (λp=>(stG l ds ps F w t sz p).1),(List.range x).map (λp=>(stG l ds ps F w t sz p).2))) 0 (by omega) (by unfold nRow hei;omega)
  (λn x s hx hs=>by
   unfold nRow hei at hx;have hl1:s.1.length=x:=by rw[hs];simp
   have hl2:s.2.length=x:=by rw[hs];simp
   refine⟨?_,by rw[hs,ul,kU,kU];rfl⟩;rw[zU];unfold EV UZ;simp only[ko,hsz];rw[qD (n:=(x:Int)+sz) (by omega),qD (n:=F.Y.B-F.Y.A) (by omega),ka (by omega),nz_t (by omega),qK7 hr (by omega) (by omega),wJ (by omega),wJ (by omega),qM (by omega)];simp only[kp,kg,qTh];rw[hasB_eq _ (by have:=qO6 l ds ps (strR F x (x+sz)) w t;omega)];have em:Int.tmod (x:Int) w.Pitch=(x:Int) % w.Pitch:=gc (by omega);rw[em];unfold stG;simp only[kg];by_cases c:(x:Int) % w.Pitch=0
   ·rw[if_pos c,c];simp only[uU,kp];by_cases c2:(yL l ds ps (strR F x (x+sz)) w t).2.2=0
    ·have c2':((yL l ds ps (strR F x (x+sz)) w t).2.2==0)=true:=by simpa using c2
     rw[c2',kp];cases hbb:hasB (yL l ds ps (strR F x (x+sz)) w t).1 with
     |true=>rw[if_pos ⟨c2,rfl⟩];rfl
     |false=>rw[if_neg (by simp)];rfl
    ·have c2':((yL l ds ps (strR F x (x+sz)) w t).2.2==0)=false:=by simpa using c2
     rw[c2',kr,if_neg (λhh=>c2 hh.1)];simp only[kr]
   ·rw[if_neg c,show((x:Int) % w.Pitch==0)=false by rw[kC];exact c];simp only[kr])
  (λn s _=>by
   rw[zU];simp only[ko,hsz];unfold nRow hei;rw[qD (n:=F.Y.B-F.Y.A) (by omega),qD (n:=_+sz) (by omega),ke (by omega)];rfl) ([],[]) rfl
 have k1:=k.1;rw[k.2] at k1;exact k1
noncomputable def zM (l:List qB) (ds:List qC) (ps:List Product) (F:Rect) (w:Saw) (t:Rates):Line:=
 ⟨hei F,w.Kerf,1,hts ps,(List.range (hts ps).length).map (λj=>(List.range (nRow F ((hts ps).getD j daa))).map (λp=>(stG l ds ps F w t ((hts ps).getD j daa) p).1)),
  (List.range (hei F).toNat).map (λp:Nat=>t.Chip*qZ l (strR F p (p+1))),(List.range (hei F).toNat).map (λp:Nat=>t.Dust*qZ l (strR F p (p+1)))⟩
noncomputable def SN (l:List qB) (ds:List qC) (ps:List Product) (F:Rect) (w:Saw) (t:Rates):List (List (List Node)):=
 (List.range (hts ps).length).map (λj=>(List.range (nRow F ((hts ps).getD j daa))).map (λp=>(stG l ds ps F w t ((hts ps).getD j daa) p).2))
theorem qNl (h:VSol l) (r:Rect):TJ l r=some (qZ l r):=by
 unfold TJ;rw[(TH l).1,PL h];simp only[kg,qJy h];rfl
theorem qTy (h:VE l ds ps F w t):GQ l ds ps F w t=some (zM l ds ps F w t,SN l ds ps F w t):=by
 have hr:=h.vr;have hr':=hr;unfold VR at hr';have hh:=qOx ps;unfold GQ;rw[qVF];simp only[kg];have k1:=zA (hts ps).length (λn (s:List (List (List Node))×List (List Int)) x=>yU l ds ps F w t (hts ps) n s.1 x s.2) (λj s=>(s.1++[(List.range (nRow F ((hts ps).getD j daa))).map (λp=>(stG l ds ps F w t ((hts ps).getD j daa) p).2)],s.2++[(List.range (nRow F ((hts ps).getD j daa))).map (λp=>(stG l ds ps F w t ((hts ps).getD j daa) p).1)])) (λs=>s)
  (λx s=>s=((List.range x).map (λj=>(List.range (nRow F ((hts ps).getD j daa))).map (λp=>(stG l ds ps F w t ((hts ps).getD j daa) p).2)),(List.range x).map (λj=>(List.range (nRow F ((hts ps).getD j daa))).map (λp=>(stG l ds ps F w t ((hts ps).getD j daa) p).1)))) 0 (by omega) (by omega)
  (λn x s hx hs=>by
   have hl1:s.1.length=x:=by rw[hs];simp
   have hl2:s.2.length=x:=by rw[hs];simp
   refine⟨?_,by rw[hs,ul,kU,kU];rfl⟩;rw[yU,ka (by omega),qJ (by omega),qVh h hx,wJ (by omega),wJ (by omega),qM (by omega)];rfl)
  (λn s _=>by rw[yU,ke (by omega)];rfl) ([],[]) rfl
 have e1:=k1.1;rw[k1.2] at e1;have k2:=zA (hei F).toNat (λn (s:List Int×List Int) x=>UI l F t n x s.1 s.2) (λp s=>(s.1++[t.Chip*qZ l (strR F p (p+1))],s.2++[t.Dust*qZ l (strR F p (p+1))])) (λs=>s)
  (λx s=>s=((List.range x).map (λp=>t.Chip*qZ l (strR F (p:Nat) ((p:Nat)+1))),(List.range x).map (λp=>t.Dust*qZ l (strR F (p:Nat) ((p:Nat)+1))))) 0 (by omega) (by unfold hei;omega)
  (λn x s hx hs=>by
   unfold hei at hx;have hl1:s.1.length=x:=by rw[hs];simp
   have hl2:s.2.length=x:=by rw[hs];simp
   refine⟨?_,by rw[hs,ul,kU,kU];rfl⟩;have wb:=qCm h.sol (strR F x (x+1));have m1:=wS (a:=t.Chip) (b:=qZ l (strR F x (x+1))) (m:=1000) (n:=28800000000) (by have:=h.vw.chip;omega) (by have:=h.vw.chip;omega) (by omega) wb.2 (by omega) (by omega);have m2:=wS (a:=t.Dust) (b:=qZ l (strR F x (x+1))) (m:=1000) (n:=28800000000) (by have:=h.vw.dust;omega) (by have:=h.vw.dust;omega) (by omega) wb.2 (by omega) (by omega);rw[UI,qD (n:=F.Y.B-F.Y.A) (by omega),ka (by omega),qD (n:=(x:Int)+1) (by omega),qK7 hr (by omega) (by omega),wJ (by omega),wJ (by omega)];simp only[kp,kg,qNl h.sol]
   rw[qD (n:=t.Chip*_) (by omega),qD (n:=t.Dust*_) (by omega)];rfl)
  (λn s _=>by
   rw[UI,qD (n:=F.Y.B-F.Y.A) (by omega)];unfold hei;rw[ke (by omega)];rfl) ([],[]) rfl
 have e2:=k2.1;rw[k2.2] at e2;rw[show((0:Nat):Int)=0 from rfl] at e1 e2;rw[e1];simp only[kg];rw[e2,qD (n:=F.Y.B-F.Y.A) (by omega)];rfl
end Saw
end Go.SL
namespace Go.SL
namespace Saw
theorem qLW :∀{a b:List Int},a.Pairwise (·<·)->b.Pairwise (·<·)->(∀x,x∈a↔x∈b)->a=b
 |[],[],_,_,_=>rfl
 |[],y::b,_,_,h=>by have:=(h y).2 kF;cases this
 |x::a,[],_,_,h=>by have:=(h x).1 kF;cases this
 |x::a,y::b,ha,hb,h=>by
  obtain⟨a1,a2⟩:=kK.1 ha;obtain⟨b1,b2⟩:=kK.1 hb;have e:x=y:=by
   rcases kN.1 ((h x).1 kF) with e|e
   ·exact e
   ·rcases kN.1 ((h y).2 kF) with f|f
    ·exact f.symm
    ·have:=b1 x e;have:=a1 y f;omega
  subst e;rw[qLW a2 b2 λz=>⟨λhz=>?_,λhz=>?_⟩]
  ·rcases kN.1 ((h z).1 (kD _ hz)) with e|e
   ·have:=a1 z hz;omega
   ·exact e
  ·rcases kN.1 ((h z).2 (kD _ hz)) with e|e
   ·have:=b1 z hz;omega
   ·exact e
def insI (n:Int):List Int->List Int
 |[]=>[n]
 |x::r=>if x<n then x::insI n r else if x=n then x::r else n::x::r
theorem insI_mem (n:Int):∀(l:List Int) (x:Int),x∈insI n l↔x=n\/x∈l
 |[],x=>by simp[insI]
 |y::r,x=>by
  unfold insI;split
  ·rw[kN,insI_mem n r,kN,or_left_comm]
  ·split
   ·rename_i h;subst h;rw[kN];simp
   ·rw[kN]
theorem qGn (n:Int):∀(l:List Int),l.Pairwise (·<·)->(insI n l).Pairwise (·<·)
 |[],_=>by simp[insI]
 |y::r,h=>by
  obtain⟨h1,h2⟩:=kK.1 h;unfold insI;split
  ·rename_i c;refine kK.2 ⟨λx hx=>?_,qGn n r h2⟩;rcases(insI_mem n r x).1 hx with e|e
   ·omega
   ·exact h1 x e
  ·split
   ·exact h
   ·refine kK.2 ⟨λx hx=>?_,h⟩;rcases kN.1 hx with e|e
    ·omega
    ·have:=h1 x e;omega
theorem qK3 (n:Int):∀(l:List Int),(insI n l).length<=l.length+1
 |[]=>by simp[insI]
 |y::r=>by
  have:=qK3 n r;unfold insI;split
  ·simp;omega
  ·split<;>simp
theorem qKV :∀(l:List Int),l.Pairwise (·<=·)->(comp l).Pairwise (·<·)
 |[],_=>List.Pairwise.nil
 |[a],_=>by simp[comp]
 |a::b::l,h=>by
  obtain⟨h1,h2⟩:=kK.1 h;have ih:=qKV (b::l) h2;show(if a=b then comp (b::l) else a::comp (b::l)).Pairwise _;split
  ·exact ih
  ·rename_i c;refine kK.2 ⟨λx hx=>?_,ih⟩;have hx':=(qLD (b::l) x).1 hx;have hb:=h1 b kF;rcases kN.1 hx' with e|e
   ·omega
   ·have:=(kK.1 h2).1 x e;omega
def insG :List Product->List Int->List Int
 |[],s=>s
 |p::l,s=>insG l (insI (qT p).2 (insI (qT p).1 s))
theorem qSy :∀(l:List Product) (s:List Int) (x:Int),x∈insG l s↔x∈s\/x∈allG l
 |[],s,x=>by simp[insG,allG]
 |p::l,s,x=>by
  unfold insG allG;rw[qSy l,insI_mem,insI_mem];unfold allG;simp only[gq,um,kN,dc,or_false];constructor
  ·rintro((h|h|h)|h)
   ·exact .inr (.inl (.inr h))
   ·exact .inr (.inl (.inl h))
   ·exact .inl h
   ·exact .inr (.inr h)
  ·rintro(h|(h|h)|h)
   ·exact .inl (.inr (.inr h))
   ·exact .inl (.inr (.inl h))
   ·exact .inl (.inl h)
   ·exact .inr h
theorem qKz :∀(l:List Product) (s:List Int),s.Pairwise (·<·)->(insG l s).Pairwise (·<·)
 |[],s,h=>h
 |p::l,s,h=>qKz l _ (qGn _ _ (qGn _ _ h))
theorem qYA {ps:List Product} (h:wF ps=0):insG ps []=hts ps:=by
 refine qLW (qKz ps [] List.Pairwise.nil) ?_ λx=>?_
 ·unfold hts;rw[if_pos h];apply qKV;have:=EC (le:=λx y:Int=>decide (x<=y)) (λx y z h1 h2=>by simp at*;omega) (λx y=>by simp;omega) (allG ps);exact this.imp λh=>by simpa using h
 ·rw[qSy,qUE h];simp
variable {s :List qB} {d:List qC} {p:List Product} {pt:Pattern} {w:Saw} {t:Rates}
theorem brd_trm (_hs:VSol s) {trim:Int} (ht:0<=trim) {c:jZ} (hc:qQF s c):brdV s c+trmV s trim c<=qZ s ⟨c.Box.X,c.Box.Y⟩:=by
 obtain⟨z1,z2,z3⟩:=hc.z;unfold brdV trmV qR3 backS qZ;have m1:=wZ 0 (c.Box.Z.A-trim);have m2:=imin_or (c.Box.Z.B+trim) (solLen s);have e1:=qMi s c.Box.X c.Box.Y (A:=imax 0 (c.Box.Z.A-trim)) (m:=c.Box.Z.A) (B:=c.Box.Z.B) (by omega) (by omega);have e2:=qMi s c.Box.X c.Box.Y (A:=imax 0 (c.Box.Z.A-trim)) (m:=c.Box.Z.B) (B:=imin (c.Box.Z.B+trim) (solLen s)) (by omega) (by omega);have e3:=qYy s c.Box.X c.Box.Y (A:=imax 0 (c.Box.Z.A-trim)) (B:=imin (c.Box.Z.B+trim) (solLen s)) (C:=0) (D:=solLen s) (by omega) (by omega);have ez:c.Box.Z=⟨c.Box.Z.A,c.Box.Z.B⟩:=rfl;rw[ez];simp only;omega
theorem qUM (hs:VSol s) (hp:wF p=0) {step fine trim:Int} (hf:0<=fine) (ht:0<=trim):∀{lv:List Leaf} {i:Nat},(∀x∈lv,qMo p x)->sumL (λc=>brdV s c+trmV s trim c) (bdsFrom s d p step fine i lv)<=sumL (λx=>qZ s x.Rect) lv
 |[],_,_=>kM _
 |x::l,i,hg=>by
  have ih:=qUM hs hp (step:=step) hf ht (i:=i+1) (λy hy=>hg y (kD _ hy));show sumL _ (bdOf s d p step fine i x++bdsFrom s d p step fine (i+1) l)<=_;rw[EI,YZ];have h1:sumL (λc=>brdV s c+trmV s trim c) (bdOf s d p step fine i x)<=qZ s x.Rect:=by
   have hl:=qQ8 (s:=s) (d:=d) (p:=p) step fine i x
   match hm:bdOf s d p step fine i x with
   |[]=>exact qSm _ _
   |[a]=>
    obtain⟨g,_,e3,e4,_⟩:=qSI (s:=s) (d:=d) hp hf (hg x kF) (c:=a) (by rw[hm];exact kF);have:=brd_trm hs ht g;rw[e3,e4] at this;rw[YZ,qSQ];simp only[Int.add_zero];exact this
   |a::b::l=>rw[hm] at hl;simp at hl
  omega
theorem yC_nn (h:VY s d p pt w t):0<=yC s d p pt w t.Fine:=by
 have h1:=qUM h.sol h.pr (d:=d) (step:=w.Step) (trim:=w.Trim) h.vw.fine.1 h.vw.trim.1 (i:=0) (qTU h);rw[qSF] at h1;have h2:=h.parts.sum (qZ s) (qI6 s);have h3:=qH6 h.sol pt.Frame;unfold yC yB yD qQR bds;omega
end Saw
end Go.SL
namespace Go.SL
namespace Saw
variable {l :List qB} {ds:List qC} {ps:List Product} {F:Rect} {w:Saw} {t:Rates}
theorem qXz (h:(yL l ds ps F w t).2.2=0): -200000000000000<=(yL l ds ps F w t).2.1/\(yL l ds ps F w t).2.1<=200000000000000/\(yL l ds ps F w t).1=rowN 2 (lineS l ds ps F w t).Kerf F.X (wA ps F (lineS l ds ps F w t))/\(yL l ds ps F w t).1.length<=127:=by
 obtain⟨hv,e⟩:=qYP h;have hn:(rowN 2 (lineS l ds ps F w t).Kerf F.X (wA ps F (lineS l ds ps F w t))).length<=127/\(yL l ds ps F w t).1=rowN 2 (lineS l ds ps F w t).Kerf F.X (wA ps F (lineS l ds ps F w t)):=by
  unfold yL at h⊢;rw[if_pos (DT.2 hv)] at h⊢;unfold qKa at h⊢;by_cases c2:(rowN 2 (lineS l ds ps F w t).Kerf F.X (wA ps F (lineS l ds ps F w t))).length<=127
  ·rw[if_pos c2];exact⟨c2,rfl⟩
  ·rw[if_neg c2] at h;exact absurd h (by decide)
 have vy:=qUB hv hn.1;have val:=qU0 hv hn.1;have bd:=YBnd_of vy;have c0:=yC_nn vy;have bv:=qRd hv.sol;have wl:=qH6 hv.sol F;have wn:=qSm l F;have hb:=bd.nB;have hd:=bd.nD;have hw:=bd.nW;have hch:=hv.vw.chip;have hdu:=hv.vw.dust
 have val2:(qRX l ds ps ⟨F,rowN 2 (lineS l ds ps F w t).Kerf F.X (wA ps F (lineS l ds ps F w t))⟩ w t).Value=yW l ds ps ⟨F,rowN 2 (lineS l ds ps F w t).Kerf F.X (wA ps F (lineS l ds ps F w t))⟩ w t.Fine+(t.Chip*yC l ds ps ⟨F,rowN 2 (lineS l ds ps F w t).Kerf F.X (wA ps F (lineS l ds ps F w t))⟩ w t.Fine+t.Dust*yD l ds ps ⟨F,rowN 2 (lineS l ds ps F w t).Kerf F.X (wA ps F (lineS l ds ps F w t))⟩ w t.Fine):=rfl
 have hC:yC l ds ps ⟨F,rowN 2 (lineS l ds ps F w t).Kerf F.X (wA ps F (lineS l ds ps F w t))⟩ w t.Fine<=28800000000/\yD l ds ps ⟨F,rowN 2 (lineS l ds ps F w t).Kerf F.X (wA ps F (lineS l ds ps F w t))⟩ w t.Fine<=28800000000:=by unfold yC at*;omega
 generalize yC l ds ps ⟨F,rowN 2 (lineS l ds ps F w t).Kerf F.X (wA ps F (lineS l ds ps F w t))⟩ w t.Fine=C at*;generalize yD l ds ps ⟨F,rowN 2 (lineS l ds ps F w t).Kerf F.X (wA ps F (lineS l ds ps F w t))⟩ w t.Fine=D at*;have m1:0<=t.Chip*C/\t.Chip*C<=1000*28800000000:=⟨ky hch.1 c0,uP hch.2 hC.1 c0 (by omega)⟩
 have m2:0<=t.Dust*D/\t.Dust*D<=1000*28800000000:=⟨ky hdu.1 hd.1,uP hdu.2 hC.2 hd.1 (by omega)⟩
 have m3:0<=t.Chip*(volT l-qZ l F)/\t.Chip*(volT l-qZ l F)<=1000*28800000000:=⟨ky hch.1 (by omega),uP hch.2 (by omega) (by omega) (by omega)⟩
 rw[e,hn.2];refine⟨by omega,by omega,rfl,hn.1⟩
theorem stG_b (l:List qB) (ds:List qC) (ps:List Product) (F:Rect) (w:Saw) (t:Rates) (h:Int) (p:Nat):okN (stG l ds ps F w t h p).1/\(stG l ds ps F w t h p).2.length<=127:=by
 unfold okN stG;split
 ·split
  ·rename_i c;have:=qXz c.1;exact⟨by omega,this.2.2.2⟩
  ·simp
 ·simp
theorem qLL (h:VE l ds ps F w t):VL (zM l ds ps F w t):=by
 have hr:=h.vr;unfold VR at hr;have hh:=qOx ps;have rate:∀c:Int,0<=c/\c<=1000->∀j,j<((List.range (hei F).toNat).map (λp:Nat=>c*qZ l (strR F p (p+1)))).length->okN (((List.range (hei F).toNat).map (λp:Nat=>c*qZ l (strR F p (p+1)))).getD j daa):=by
  intro c hc j hj;simp only[kP,uc] at hj;rw[wI _ hj];have wb:=qCm h.sol (strR F j (j+1));have m1:0<=c*qZ l (strR F j (j+1))/\c*qZ l (strR F j (j+1))<=1000*28800000000:=⟨ky hc.1 wb.1,uP hc.2 wb.2 wb.1 (by omega)⟩
  unfold okN;omega
 unfold zM;refine⟨by unfold hei;simp only;omega,h.vw.kerf,by simp,hh,λi hi=>by have:=qMs h.pr (zK hi);simp only;omega,by simp,by simp only[kP,uc];unfold hei;omega,by simp only[kP,uc];unfold hei;omega,?_,?_,rate t.Chip h.vw.chip,rate t.Dust h.vw.dust⟩
 ·intro i hi;simp only at hi⊢;rw[wI _ hi];simp only[kP,uc];rfl
 ·intro i hi j hj;simp only at hi hj⊢;rw[wI _ hi] at hj⊢;simp only[kP,uc] at hj;rw[wI _ hj];exact(stG_b l ds ps F w t _ _).1
noncomputable def stN (l:List qB) (ds:List qC) (ps:List Product) (F:Rect) (w:Saw) (t:Rates) (x:zR):List Node:=(stG l ds ps F w t ((hts ps).getD x.Size.toNat daa) x.At.toNat).2
noncomputable def JC (l:List qB) (ds:List qC) (ps:List Product) (F:Rect) (w:Saw) (t:Rates):List Pt:=(wD (zM l ds ps F w t)).map (ptOf (zM l ds ps F w t) F.Y.A (stN l ds ps F w t))
noncomputable def qEt (l:List qB) (ds:List qC) (ps:List Product) (F:Rect) (w:Saw) (t:Rates):List Node:=rowN 3 w.Kerf F.Y (JC l ds ps F w t)
def zeroP :Pattern:=⟨⟨⟨0,0⟩,⟨0,0⟩⟩,[]⟩
open Classical in
noncomputable def qAg (l:List qB) (ds:List qC) (ps:List Product) (F:Rect) (w:Saw) (t:Rates):Pattern×Int×Int:=
 if chkE l ds ps F w t=0 then(if(qEt l ds ps F w t).length<=127 then(⟨F,qEt l ds ps F w t⟩,(bst (zM l ds ps F w t) 0).value+t.Chip*(volT l-qZ l F),0) else(zeroP,0,13)) else(zeroP,0,chkE l ds ps F w t)
theorem qO3 (h:VE l ds ps F w t) (g:zR->List Node):GX w.Kerf F.Y.B F.Y.A ((wD (zM l ds ps F w t)).map (ptOf (zM l ds ps F w t) F.Y.A g)):=by
 have vl:=qLL h;have:=qDm vl F.Y.A g 3000 0 (by have:=vl.len;omega);have e1:(zM l ds ps F w t).Len=hei F:=rfl;have e2:(zM l ds ps F w t).Kerf=w.Kerf:=rfl;unfold wD;rw[e1,e2,show F.Y.A+hei F=F.Y.B by unfold hei;omega,show F.Y.A+((0:Nat):Int)=F.Y.A by omega] at this;exact this
theorem qKw (l:List qB) (ds:List qC) (ps:List Product) (F:Rect) (w:Saw) (t:Rates):DL l ds ps F w t=some (qAg l ds ps F w t):=by
 unfold DL qAg;rw[qSl];simp only[kg];by_cases c:chkE l ds ps F w t=0
 ·have h:=DT.1 c;have hr:=h.vr;have hr':=hr;unfold VR at hr';have vl:=qLL h;have ln:=vl.len;rw[c,if_pos rfl,qTy h];simp only[kg,kA,kr];rw[show(Line.mk (zM l ds ps F w t).Len (zM l ds ps F w t).Kerf (zM l ds ps F w t).Pitch (zM l ds ps F w t).Sizes (zM l ds ps F w t).Gain (zM l ds ps F w t).Chip (zM l ds ps F w t).Dust)=zM l ds ps F w t from rfl,qL2 vl];simp only[kg,kA,kr];have hbl:(wD (zM l ds ps F w t)).length<=3000:=qEP _ _ _;have hsz:(zM l ds ps F w t).Sizes=hts ps:=rfl;have hlen:(zM l ds ps F w t).Len=hei F:=rfl
  have k:=jJ (wD (zM l ds ps F w t)) (λn (s:List Span×List (List Node)) x=>YM F (zM l ds ps F w t,SN l ds ps F w t) (wD (zM l ds ps F w t),(bst (zM l ds ps F w t) 0).value,0) n s.1 s.2 x) (λx=>(x:Int)) (λ_ x s=>(s.1++[(ptOf (zM l ds ps F w t) F.Y.A (stN l ds ps F w t) x).1],s.2++[(ptOf (zM l ds ps F w t) F.Y.A (stN l ds ps F w t) x).2])) (λs=>s)
   (λx s=>s.1.length=x/\s.2.length=x) (by omega)
   (λn x s hx hs=>by
    obtain⟨i,q,ey,hi,hq,hg⟩:=qCf vl 3000 0 (by omega) _ (zK hx);have ey':(wD (zM l ds ps F w t)).getD x daa=⟨(i:Int),(q:Int)⟩:=ey;have sb:=qMs h.pr (zK hi);have hi':i<(hts ps).length:=hi;have hq':(q:Int)+(hts ps).getD i daa<=hei F:=by unfold szAt at hq;rw[hlen] at hq;have:(zM l ds ps F w t).Sizes.getD i daa=(hts ps).getD i daa:=rfl;omega
    have hb:hei F<=1200:=by unfold hei;omega
    refine⟨?_,by simp[hs.1],by simp[hs.2]⟩;rw[YM,ka (show(x:Int)<_ by simp only;omega),ZT (by omega) (by simp only;omega)];simp only[ko,ey'];have hnr:q<nRow F ((hts ps).getD i daa):=by unfold nRow;omega
    have hst:(SN l ds ps F w t).getD i daa=(List.range (nRow F ((hts ps).getD i daa))).map (λp=>(stG l ds ps F w t ((hts ps).getD i daa) p).2):=by unfold SN;rw[wI _ hi']
    have hsl:(SN l ds ps F w t).length=(hts ps).length:=by unfold SN;simp
    rw[hsz,qJ (by omega),qD (n:=(q:Int)+(hts ps).getD i daa) (by omega),qK7 hr (by omega) (by omega),wJ (by omega),ZT (by omega) (by rw[hsl];omega)];simp only[ko,hst,kP,uc];rw[qJ (by omega)];unfold qBE;rw[wJ (by omega),qM (by omega)];simp only[kp,kg];rw[wI _ hnr];rfl)
   (λn s _=>by rw[YM];simp) (i:=0) rfl ([],[]) ⟨rfl,rfl⟩
  rw[k.1];have fold2:∀(L:List zR) (i:Nat) (s:List Span×List (List Node)),foldi (λ_ x (s:List Span×List (List Node))=>(s.1++[(ptOf (zM l ds ps F w t) F.Y.A (stN l ds ps F w t) x).1],s.2++[(ptOf (zM l ds ps F w t) F.Y.A (stN l ds ps F w t) x).2])) i L s=(s.1++(L.map (ptOf (zM l ds ps F w t) F.Y.A (stN l ds ps F w t))).map Prod.fst,s.2++(L.map (ptOf (zM l ds ps F w t) F.Y.A (stN l ds ps F w t))).map Prod.snd):=by
   intro L
   induction L with
   |nil=>intro i s;simp[foldi]
   |cons x L ih=>
    intro i s;show foldi _ (i+1) L _=_;rw[ih];simp
  rw[fold2];simp only[kg,uj];have hnd:ndC (JC l ds ps F w t)+1<=1000000000:=by
   have:=qHp (zM l ds ps F w t) F.Y.A (stN l ds ps F w t) 127 (wD (zM l ds ps F w t)) (λx _=>(stG_b l ds ps F w t _ _).2);unfold JC;have h3:(3+127)*(wD (zM l ds ps F w t)).length<=(3+127)*3000:=dz _ hbl;omega
  have hrow:=qV5 hr (axis:=3) (kerf:=w.Kerf) (.inr rfl) h.vw.kerf (L:=JC l ds ps F w t) (by unfold JC;simp;omega) (qO3 h (stN l ds ps F w t)) hnd;have hrow':WD F 3 w.Kerf ((JC l ds ps F w t).map Prod.fst) ((JC l ds ps F w t).map Prod.snd)=some (rowR (qEt l ds ps F w t)):=hrow;show((WD F 3 w.Kerf ((JC l ds ps F w t).map Prod.fst) ((JC l ds ps F w t).map Prod.snd)).bind _)=_;rw[hrow'];unfold rowR;simp only[kg];by_cases c2:(qEt l ds ps F w t).length<=127
  ·rw[if_pos c2,if_pos c2,qWu h.sol,qNl h.sol];simp only[kA,kr,kg];have bv:=qRd h.sol;have b0:=qUA vl;have bw:=qCm h.sol F;have wl:=qH6 h.sol F;have m3:0<=t.Chip*(volT l-qZ l F)/\t.Chip*(volT l-qZ l F)<=1000*28800000000:=⟨ky h.vw.chip.1 (by omega),uP h.vw.chip.2 (by omega) (by omega) (by omega)⟩
   rw[qD (n:=volT l-_) (by omega),qD (n:=t.Chip*_) (by omega),qD (by omega)]
  ·rw[if_neg c2,if_neg c2];rfl
 ·have c':(chkE l ds ps F w t !=0)=true:=by simpa using c
  rw[c',if_neg c];rfl
end Saw
end Go.SL
namespace Go.SL
namespace Saw
variable {l :List qB} {ds:List qC} {ps:List Product} {F:Rect} {w:Saw} {t:Rates}
end Saw
end Go.SL
namespace Go.SL
namespace Saw
theorem qYz {l:List qB} {ds:List qC} {ps:List Product} {F:Rect} {w:Saw} {t:Rates} (h:(qAg l ds ps F w t).2.2=0):VE l ds ps F w t/\(qEt l ds ps F w t).length<=127/\qAg l ds ps F w t=(⟨F,qEt l ds ps F w t⟩,(bst (zM l ds ps F w t) 0).value+t.Chip*(volT l-qZ l F),0):=by
 unfold qAg at h⊢;by_cases c:chkE l ds ps F w t=0
 ·rw[if_pos c] at h⊢;by_cases c2:(qEt l ds ps F w t).length<=127
  ·rw[if_pos c2];exact⟨DT.1 c,c2,rfl⟩
  ·rw[if_neg c2] at h;exact absurd h (by decide)
 ·rw[if_neg c] at h;exact absurd h c
end Saw
end Go.SL

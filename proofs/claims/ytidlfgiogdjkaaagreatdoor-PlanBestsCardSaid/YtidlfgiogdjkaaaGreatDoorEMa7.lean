/- Rows of parts as trees: their nodes, that they have no error, and the sum of what their leaves and cuts are worth. -/
import Derived.Test.YtidlfgiogdjkaaaGreatDoorEMa5
import Derived.Test.YtidlfgiogdjkaaaGreatDoorEMa6
set_option linter.unusedVariables false
set_option linter.unusedSimpArgs false
namespace Go.SL.Saw
def okS (bd:Rect->Int->Int) (kerf:Int):T->Rect->Prop
 | .leaf n,r=>ripB n.Kind=false/\chkN bd n ⟨r,1⟩=0
 | .rip n a b,r=>ripB n.Kind=true/\chkN bd n ⟨r,1⟩=0/\okS bd kerf a (fiP r n)/\okS bd kerf b (seP r n kerf)
def dT :T->Nat
 | .leaf _=>1
 | .rip _ a b=>1+max (dT a) (dT b)
theorem qNQ :∀(t:T),2*dT t<=(wX t).length+1
 | .leaf _=>by simp[dT,wX]
 | .rip _ a b=>by
  have:=qNQ a;have:=qNQ b;have:=qOE a;have:=qOE b;simp only[dT,wX,um,kS];omega
theorem qWZ {bd:Rect->Int->Int} {n:Node} {r:Rect} {l:Int} (h:chkN bd n ⟨r,1⟩=0) (hl:l<=64):chkN bd n ⟨r,l⟩=0:=by
 unfold chkN at h⊢;simp only at h⊢;split at h
 ·cases h
 ·rename_i c;rw[if_neg c,if_neg (by omega)];rw[if_neg (by omega)] at h;exact h
theorem qQ9 {bd:Rect->Int->Int} {kerf:Int}:∀{t:T} {r:Rect} {l:Int},okS bd kerf t r->l+dT t<=65->okT bd kerf t ⟨r,l⟩
 | .leaf n,r,l,h,hl=>⟨h.1,qWZ h.2 (by simp only[dT] at hl;omega)⟩
 | .rip n a b,r,l,h,hl=>by
  simp only[dT] at hl;exact⟨h.1,qWZ h.2.1 (by omega),qQ9 h.2.2.1 (by simp only;omega),qQ9 h.2.2.2 (by simp only;omega)⟩
theorem qFV {bd:Rect->Int->Int} {kerf:Int}:∀{t:T} {r:Rect},okS bd kerf t r->qHT t
 | .leaf _,_,h=>h.1
 | .rip _ _ _,_,h=>⟨h.1,qFV h.2.2.1,qFV h.2.2.2⟩
theorem q1x {bd:Rect->Int->Int} {kerf:Int} {t:T} {r:Rect} (h:okS bd kerf t r) (hl:(wX t).length<=127):chkP bd kerf (wX t) [⟨r,1⟩]=0:=
 qXZ (qQ9 h (by have:=qNQ t;omega))
abbrev Pq :=Span×T
def rowT (axis kerf B:Int):Int->List Pq->T
 |_,[]=> .leaf ⟨0,0⟩
 |e,x::r=>
  if x.1.A>e then .rip ⟨axis,x.1.A-kerf⟩ (.leaf ⟨0,0⟩) (if x.1.B<B then .rip ⟨axis,x.1.B⟩ x.2 (rowT axis kerf B (imin (x.1.B+kerf) B) r) else x.2)
  else if x.1.B<B then .rip ⟨axis,x.1.B⟩ x.2 (rowT axis kerf B (imin (x.1.B+kerf) B) r) else x.2
def ptP (x:Pq):Pt:=(x.1,wX x.2)
theorem qQk (axis kerf B:Int):∀(L:List Pq) (e:Int),VB kerf B e (L.map ptP)->wX (rowT axis kerf B e L)=(rowB axis kerf B e (L.map ptP)).1++(if(rowB axis kerf B e (L.map ptP)).2 then[] else[⟨0,0⟩])
 |[],e,_=>rfl
 |x::r,e,h=>by
  obtain⟨h1,h2,h3,h4⟩:=h;rw[uh,HY];unfold rowT;by_cases c:x.1.B<B
  ·have c':(ptP x).1.B<B:=c;rw[if_pos c'] at h4;have ih:=qQk axis kerf B r (imin (x.1.B+kerf) B) h4;rw[if_pos c,if_pos c'];by_cases ca:x.1.A>e
   ·rw[if_pos ca,if_pos (show(ptP x).1.A>e from ca)];simp only[wX,ih];simp[ptP];rfl
   ·rw[if_neg ca,if_neg (show¬(ptP x).1.A>e from ca)];simp only[wX,ih];simp[ptP];rfl
  ·have c':¬(ptP x).1.B<B:=c;rw[if_neg c,if_neg c'];by_cases ca:x.1.A>e
   ·rw[if_pos ca,if_pos (show(ptP x).1.A>e from ca)];simp[wX,ptP]
   ·rw[if_neg ca,if_neg (show¬(ptP x).1.A>e from ca)];simp[ptP]
theorem qUT (R:Rect) (k:Int) (s:Span):alP (wiP R k s) k=s:=by unfold alP wiP;cases k==2<;>rfl
theorem wi_wi (R:Rect) (k:Int) (s u:Span):wiP (wiP R k s) k u=wiP R k u:=by unfold wiP;cases k==2<;>rfl
theorem fi_wi (R:Rect) (k at_:Int) (s:Span):fiP (wiP R k s) ⟨k,at_⟩=wiP R k ⟨s.A,at_⟩:=by unfold fiP;simp only[qUT,wi_wi]
theorem en_wi (R:Rect) (k at_ kerf:Int) (s:Span) (h: -1000<=at_/\at_<=1000) (hk:0<=kerf/\kerf<=20):enP (wiP R k s) ⟨k,at_⟩ kerf=imin (at_+kerf) s.B:=by
 unfold enP;simp only[qUT];rw[qK (by omega)]
theorem cu_wi (R:Rect) (k at_ kerf:Int) (s:Span) (h: -1000<=at_/\at_<=1000) (hk:0<=kerf/\kerf<=20):cuP (wiP R k s) ⟨k,at_⟩ kerf=wiP R k ⟨at_,imin (at_+kerf) s.B⟩:=by
 unfold cuP;rw[en_wi R k at_ kerf s h hk];simp only[wi_wi]
theorem qUM (R:Rect) (k at_ kerf:Int) (s:Span) (h: -1000<=at_/\at_<=1000) (hk:0<=kerf/\kerf<=20):seP (wiP R k s) ⟨k,at_⟩ kerf=wiP R k ⟨imin (at_+kerf) s.B,s.B⟩:=by
 unfold seP;rw[en_wi R k at_ kerf s h hk];simp only[wi_wi,qUT]
theorem qVG {bd:Rect->Int->Int} {R:Rect} {k at_:Int} {s:Span} (hk:k=2\/k=3) (h:s.A<at_/\at_<s.B):ripB k=true/\chkN bd ⟨k,at_⟩ ⟨wiP R k s,1⟩=0:=by
 have hr:ripB k=true:=ripB_iff.2 hk;refine⟨hr,?_⟩;unfold chkN;simp only[qUT];rw[if_neg (by omega),if_neg (by omega),if_neg (by omega),if_neg (by omega)]
theorem qPa {bd:Rect->Int->Int} (r:Rect):ripB 0=false/\chkN bd ⟨0,0⟩ ⟨r,1⟩=0:=by
 refine⟨rfl,?_⟩;unfold chkN;simp[ripB]
theorem q0q {bd:Rect->Int->Int} {kerf axis B:Int} {R:Rect} (ha:axis=2\/axis=3) (hk:0<=kerf/\kerf<=20) (hB:B<=600):∀(L:List Pq) (e:Int),-600<=e->e<=B->VB kerf B e (L.map ptP)->(∀x∈L,okS bd kerf x.2 (wiP R axis x.1))->okS bd kerf (rowT axis kerf B e L) (wiP R axis ⟨e,B⟩)
 |[],e,_,_,_,_=>qPa _
 |x::r,e,he,heB,h,hx=>by
  obtain⟨h1,h2,h3,h4⟩:=h;have h1':x.1.A<x.1.B:=h1;have h2':x.1.A=e\/e+kerf+1<=x.1.A:=h2;have h3':x.1.B<=B:=h3;have o1:=hx x kK;have inner:okS bd kerf (if x.1.B<B then .rip ⟨axis,x.1.B⟩ x.2 (rowT axis kerf B (imin (x.1.B+kerf) B) r) else x.2) (wiP R axis ⟨x.1.A,B⟩):=by
   by_cases c:x.1.B<B
   ·rw[if_pos c];rw[if_pos (show(ptP x).1.B<B from c)] at h4;obtain⟨r1,r2⟩:=qVG (bd:=bd) (R:=R) (at_:=x.1.B) (s:=⟨x.1.A,B⟩) ha ⟨h1',c⟩;have mm:=imin_or (x.1.B+kerf) B;refine⟨r1,r2,?_,?_⟩
    ·rw[fi_wi];exact o1
    ·rw[qUM R axis x.1.B kerf ⟨x.1.A,B⟩ (by omega) hk];exact q0q ha hk hB r _ (by omega) (by omega) h4 λy hy=>hx y (kM _ hy)
   ·rw[if_neg c];have:x.1.B=B:=by omega
    have e2:(⟨x.1.A,B⟩:Span)=x.1:=by rw[<-this]
    rw[e2];exact o1
  unfold rowT;by_cases ca:x.1.A>e
  ·rw[if_pos ca];obtain⟨r1,r2⟩:=qVG (bd:=bd) (R:=R) (at_:=x.1.A-kerf) (s:=⟨e,B⟩) ha ⟨by simp only;omega,by simp only;omega⟩;refine⟨r1,r2,qPa _,?_⟩;rw[qUM R axis (x.1.A-kerf) kerf ⟨e,B⟩ (by omega) hk];have mm:=imin_or (x.1.A-kerf+kerf) B;rw[show imin (x.1.A-kerf+kerf) B=x.1.A by omega];exact inner
  ·rw[if_neg ca];have:x.1.A=e:=by omega
   rw[<-this];exact inner
def tv (φ:Leaf->Int) (κ:Rect->Int) (kerf:Int) (t:T) (r:Rect):Int:=sumL φ (lvT kerf t ⟨r,1⟩)+sumL κ (ctT kerf t ⟨r,1⟩)
theorem qHZ (kerf:Int):∀(T:T) (r:Rect) (l m:Int),lvT kerf T ⟨r,l⟩=lvT kerf T ⟨r,m⟩/\ctT kerf T ⟨r,l⟩=ctT kerf T ⟨r,m⟩
 | .leaf n,r,l,m=>⟨rfl,rfl⟩
 | .rip n a b,r,l,m=>by
  have a1:=qHZ kerf a (fiP r n) (l+1) (m+1);have b1:=qHZ kerf b (seP r n kerf) (l+1) (m+1);unfold lvT ctT at*;simp only[allT];rw[a1.1,a1.2,b1.1,b1.2];exact⟨rfl,rfl⟩
theorem q0v (φ:Leaf->Int) (κ:Rect->Int) {kerf:Int} {n:Node} (hr:ripB n.Kind=true) (a b:T) (r:Rect):tv φ κ kerf (.rip n a b) r=κ (cuP r n kerf)+tv φ κ kerf a (fiP r n)+tv φ κ kerf b (seP r n kerf):=by
 unfold tv;rw[(qQB hr).1,(qQB hr).2,SG,ZB,SG];simp only;rw[(qHZ kerf a (fiP r n) (1+1) 1).1,(qHZ kerf a (fiP r n) (1+1) 1).2,(qHZ kerf b (seP r n kerf) (1+1) 1).1,(qHZ kerf b (seP r n kerf) (1+1) 1).2];omega
theorem qW2 (φ:Leaf->Int) (κ:Rect->Int) (kerf:Int) (r:Rect):tv φ κ kerf (.leaf ⟨0,0⟩) r=φ ⟨r,-1⟩:=by
 unfold tv lvT ctT allT CT cutG;simp[sumL,ripB]
theorem q1P (φ:Leaf->Int) (κ:Rect->Int) (kerf at_:Int) (r:Rect):tv φ κ kerf (.leaf ⟨1,at_⟩) r=φ ⟨r,at_⟩:=by
 unfold tv lvT ctT allT CT cutG;simp[sumL,ripB]
def rowV (φ:Leaf->Int) (κ:Rect->Int) (axis kerf:Int) (R:Rect) (B:Int):Int->List Pq->Int
 |e,[]=>φ ⟨wiP R axis ⟨e,B⟩,-1⟩
 | e,x::r=>(if x.1.A>e then φ ⟨wiP R axis ⟨e,x.1.A-kerf⟩,-1⟩+κ (wiP R axis ⟨x.1.A-kerf,x.1.A⟩) else 0)+tv φ κ kerf x.2 (wiP R axis x.1)
   +(if x.1.B<B then κ (wiP R axis ⟨x.1.B,imin (x.1.B+kerf) B⟩)+rowV φ κ axis kerf R B (imin (x.1.B+kerf) B) r else 0)
theorem qZN (φ:Leaf->Int) (κ:Rect->Int) {kerf axis B:Int} {R:Rect} (ha:axis=2\/axis=3) (hk:0<=kerf/\kerf<=20) (hB:B<=600):∀(L:List Pq) (e:Int),-600<=e->e<=B->VB kerf B e (L.map ptP)->tv φ κ kerf (rowT axis kerf B e L) (wiP R axis ⟨e,B⟩)=rowV φ κ axis kerf R B e L
 |[],e,_,_,_=>qW2 _ _ _ _
 |x::r,e,he,heB,h=>by
  obtain⟨h1,h2,h3,h4⟩:=h;have h1':x.1.A<x.1.B:=h1;have h2':x.1.A=e\/e+kerf+1<=x.1.A:=h2;have h3':x.1.B<=B:=h3;have hr:ripB axis=true:=ripB_iff.2 ha;have inner:tv φ κ kerf (if x.1.B<B then .rip ⟨axis,x.1.B⟩ x.2 (rowT axis kerf B (imin (x.1.B+kerf) B) r) else x.2) (wiP R axis ⟨x.1.A,B⟩)=tv φ κ kerf x.2 (wiP R axis x.1)+(if x.1.B<B then κ (wiP R axis ⟨x.1.B,imin (x.1.B+kerf) B⟩)+rowV φ κ axis kerf R B (imin (x.1.B+kerf) B) r else 0):=by
   by_cases c:x.1.B<B
   ·rw[if_pos c,if_pos c];rw[if_pos (show(ptP x).1.B<B from c)] at h4;have mm:=imin_or (x.1.B+kerf) B;rw[q0v φ κ (n:=⟨axis,x.1.B⟩) hr,cu_wi R axis x.1.B kerf ⟨x.1.A,B⟩ (by omega) hk,fi_wi,qUM R axis x.1.B kerf ⟨x.1.A,B⟩ (by omega) hk];have ih:=qZN φ κ (R:=R) ha hk hB r (imin (x.1.B+kerf) B) (by omega) (by omega) h4;simp only;rw[ih];rw[show(⟨x.1.A,x.1.B⟩:Span)=x.1 from rfl];omega
   ·rw[if_neg c,if_neg c];have:x.1.B=B:=by omega
    have e2:(⟨x.1.A,B⟩:Span)=x.1:=by rw[<-this]
    rw[e2,Int.add_zero]
  unfold rowT rowV;by_cases ca:x.1.A>e
  ·rw[if_pos ca,if_pos ca,q0v φ κ (n:=⟨axis,x.1.A-kerf⟩) hr,cu_wi R axis (x.1.A-kerf) kerf ⟨e,B⟩ (by omega) hk,fi_wi,qUM R axis (x.1.A-kerf) kerf ⟨e,B⟩ (by omega) hk,qW2];have mm:=imin_or (x.1.A-kerf+kerf) B;simp only;rw[show imin (x.1.A-kerf+kerf) B=x.1.A by omega,inner];omega
  ·rw[if_neg ca,if_neg ca];have:x.1.A=e:=by omega
   rw[<-this,inner];omega
end Go.SL.Saw

namespace Go.SL.Saw
theorem qZV (s:qQ) {A m B:Int} (y:Span) (h1:A<=m) (h2:m<=B):zM s ⟨A,m⟩ y+zM s ⟨m,B⟩ y=zM s ⟨A,B⟩ y:=by
 unfold zM;rw[<-qOz];refine qEv (λr _ _=>?_);rw[<-qPe (row s r) h1 h2,uF]
theorem qZL (s:qQ) {A m B:Int} (x:Span) (h1:A<=m) (h2:m<=B):zM s x ⟨A,m⟩+zM s x ⟨m,B⟩=zM s x ⟨A,B⟩:=by
 unfold zM;rw[<-qOz];refine qEv (λr _ _=>?_);rw[<-qPe (hgt r) h1 h2,uz]
theorem vol_aX (l:List qC) {A m B:Int} (y z:Span) (h1:A<=m) (h2:m<=B):volS l ⟨A,m⟩ y z+volS l ⟨m,B⟩ y z=volS l ⟨A,B⟩ y z:=by
 unfold volS;rw[<-qE3];refine XG (λi _=>?_);rw[<-qZV _ y h1 h2,uz]
theorem vol_aY (l:List qC) {A m B:Int} (x z:Span) (h1:A<=m) (h2:m<=B):volS l x ⟨A,m⟩ z+volS l x ⟨m,B⟩ z=volS l x ⟨A,B⟩ z:=by
 unfold volS;rw[<-qE3];refine XG (λi _=>?_);rw[<-qZL _ x h1 h2,uz]
theorem qQt (l:List qC) {A m B:Int} (x y:Span) (h1:A<=m) (h2:m<=B):volS l x y ⟨A,m⟩+volS l x y ⟨m,B⟩=volS l x y ⟨A,B⟩:=by
 unfold volS;rw[<-qE3];refine XG (λi _=>?_);rw[<-qPe (ext l i) h1 h2,uF]
theorem qQq (l:List qC) (x y z:Span):0<=volS l x y z:=by
 unfold volS;have:=qQ8 (n:=l.length) (f:=λ_=>0) (g:=λi=>ml (ext l i) z*zM (l.getD i du).Sec x y) (λi _=>kC (qEw _ _) (qGT _ _ _));rw[BK (λ_ _=>rfl)] at this;exact this
theorem q1O (l:List qC) (x y:Span) {A B:Int} (h:B<=A):volS l x y ⟨A,B⟩=0:=by
 unfold volS;refine BK (λi _=>?_);have:ml (ext l i) ⟨A,B⟩=0:=by
  rw[qC2];have a1:=imin_or (ext l i).B B;have a2:=jN (ext l i).A A;simp only;split<;>omega
 rw[this,uJ]
theorem q1w (l:List qC) (x y:Span) {A B C D:Int} (h1:C<=A) (h2:B<=D):volS l x y ⟨A,B⟩<=volS l x y ⟨C,D⟩:=by
 by_cases h:A<=B
 ·have e1:=qQt l x y h1 h;have e2:=qQt l x y (show C<=B by omega) h2;have:=qQq l x y ⟨C,A⟩;have:=qQq l x y ⟨B,D⟩;omega
 ·rw[q1O l x y (by omega)];exact qQq _ _ _ _
def zD (l:List qC) (r:Rect):Int:=volS l r.X r.Y ⟨0,solLen l⟩
theorem qKk (l:List qC):AddR (zD l):=⟨λy h1 h2=>vol_aX l y _ h1 h2,λx h1 h2=>vol_aY l x _ h1 h2⟩
theorem qVL (l:List qC) (r:Rect):0<=zD l r:=qQq _ _ _ _
def volT (l:List qC):Int:=sumN l.length (λi=>(l.getD i du).Len*TE (l.getD i du).Sec)
theorem qIN {l:List qC} (h:VSol l) (r:Rect):zD l r<=volT l:=by
 unfold zD volS volT;refine qQ8 (λi hi=>?_);have hlen:=qXW h hi;have h1:=qPK (ext l i) ⟨0,solLen l⟩;rw[hlen] at h1;have h2:=qKO (l.getD i du).Sec r.X r.Y;have h3:=qGT (l.getD i du).Sec r.X r.Y;have h4:=qEw (ext l i) ⟨0,solLen l⟩;have h5:=(h.at hi).2.2.1;exact uo h1 h2 h3 (by omega)
theorem Area_eq (s:qQ):HQ s=some (TE (GL s)):=by
 have h:=qIR s;unfold HQ;rw[qWi s];simp only[ke];generalize GL s=t at*;have b:=h.len;have k1:=ZC t.Rows (λn (a:Int) x=>KO t n a x) (λx=>(x:Int)) (λ_ a s=>s+lenS a) (λs=>s) (λx s=>0<=s/\s<=1200*(x:Int)) (by omega)
  (λn x a hx hi=>by
   have l:=h.len_b hx;refine⟨?_,by omega⟩;rw[KO,kd (show(x:Int)<_ by omega),qU (by omega),qY (by omega)];simp only[kn,ko];rw[OK (by omega)];simp only[ke];rw[qK (by omega)])
  (λn a _=>by rw[KO];simp) (i:=0) rfl 0 (by omega)
 rw[HT (λ_ a=>lenS a)] at k1;have e:=qI0 h (λ_ a=>lenS a) (λ_=>rfl);rw[e,uC] at k1;rw[k1.1];simp only[ke];unfold TE;have:=k1.2;rw[qK (by omega)]
theorem qAG {l:List qC} (h:VSol l):∀{k:Nat},k<=l.length->0<=sumN k (λi=>(l.getD i du).Len*TE (l.getD i du).Sec)/\sumN k (λi=>(l.getD i du).Len*TE (l.getD i du).Sec)<=1440000*lenTo l k
 |0,_=>by simp[sumN,lenTo]
 |k+1,hk=>by
  have ih:=qAG h (k:=k) (by omega);have a:=qPA (h.at (i:=k) (by omega)).1;have b:=(h.at (i:=k) (by omega)).2.2.1;have c:=uV a.2 (show 0<=(l.getD k du).Len by omega);have d:=kC (show 0<=(l.getD k du).Len by omega) a.1;rw[wF];show 0<=sumN k _+_/\sumN k _+_<=_;simp only at ih⊢;rw[uz];constructor<;>omega
theorem qOT {l:List qC} (h:VSol l):0<=volT l/\volT l<=28800000000:=by
 have:=qAG h (ki _);have b:=(h.bd (ki _)).2;unfold volT;have:(1440000:Int)*lenTo l l.length<=1440000*20000:=uV b (by omega);omega
theorem qS5 {l:List qC} (h:VSol l):DI l=some (volT l):=by
 have hl:=h.len;unfold DI;rw[qRN,KF h];simp only[ke];have k1:=ZC l (λn (a:Int) x=>KP l n a x) (λx=>(x:Int)) (λ_ a s=>s+a.Len*TE a.Sec) (λs=>s) (λx s=>s=sumN x (λi=>(l.getD i du).Len*TE (l.getD i du).Sec)) (by omega)
  (λn x a hx hi=>by
   have p:=qAG h (k:=x) (by omega);have p':=qAG h (k:=x+1) (by omega);have b1:=(h.bd (i:=x) (by omega)).2;have b2:=(h.bd (i:=x+1) (by omega)).2;have vs:=(h.at hx).1;have ar:=qPA vs;have ln:=(h.at hx).2.2.1;have l2:(l.getD x du).Len<=20000:=by have:=wF l x;have:=(h.bd (i:=x) (by omega)).1;omega
   have pr:=uo l2 ar.2 ar.1 (by omega);have pn:=kC (show 0<=(l.getD x du).Len by omega) ar.1;refine⟨?_,by rw[hi];rfl⟩;rw[KP,kd (show(x:Int)<_ by omega),qU (by omega),qY (by omega)];simp only[kn,ko,Area_eq,ke];rw[qCh vs];rw[qK (n:=(l.getD x du).Len*TE (l.getD x du).Sec) (by omega),qK (by omega)])
  (λn a _=>by rw[KP];simp) (i:=0) rfl 0 rfl
 rw[k1.1,HT (λ_ (a:qC)=>a.Len*TE a.Sec),uC];simp only[ke,kw];rfl
end Go.SL.Saw

namespace Go.SL.Saw
theorem qY1 {p:Product} (h:VP p):5<=(qZ p).1/\(qZ p).1<=721/\5<=(qZ p).2/\(qZ p).2<=600:=by
 have b:=qWI p;have g:=h.gr;have t:=h.th;have w:=h.wd;have a:=h.al;have e:okG p=true:=qLm.2 ⟨by omega,by omega,a⟩;have g1:=qAP (n:=p.Thick) (a:=p.Allow) (by omega) (by omega) a.1 a.2;have g2:=qAP (n:=p.Width) (a:=p.Allow) (by omega) (by omega) a.1 a.2;have eg:qZ p=(qCR p.Thick p.Allow,qCR p.Width p.Allow):=by unfold qZ;rw[e];rfl
 rw[eg] at b g⊢;simp only at b g⊢;omega
noncomputable def chkY (s:List qC) (d:List qF) (p:List Product) (pt:qN) (w:Saw) (t:Rates):Int:=
 if UF s≠0 then UF s else if WK d≠0 then WK d else if wI p≠0 then wI p else if NM w t≠0 then NM w t else XO (PH p) pt w.Kerf
structure VY (s:List qC) (d:List qF) (p:List Product) (pt:qN) (w:Saw) (t:Rates):Prop where
 sol:VSol s
 df:WK d=0
 pr:wI p=0
 vw:VW w t
 pat:XO (PH p) pt w.Kerf=0
theorem qSU (s:List qC) (d:List qF) (p:List Product) (pt:qN) (w:Saw) (t:Rates):qCT s d p pt w t=some (chkY s d p pt w t):=by
 unfold qCT chkY;simp only[(RT s).1,qIQ,qCb,qNX,qXo,ke];have k:∀(n:Int) (a b:Option Int),(bif n !=0 then a else b)=if n≠0 then a else b:=by
  intro n a b;by_cases h:n=0
  ·rw[h];rfl
  ·have:(n !=0)=true:=by simpa using h
   rw[this,if_pos h];rfl
 simp only[k];split
 ·rfl
 ·split
  ·rfl
  ·split
   ·rfl
   ·split<;>rfl
theorem qS1 {s:List qC} {d:List qF} {p:List Product} {pt:qN} {w:Saw} {t:Rates}:chkY s d p pt w t=0↔VY s d p pt w t:=by
 unfold chkY;constructor
 ·intro h;split at h
  ·rename_i c;exact(c h).elim
  ·rename_i c1;split at h
   ·rename_i c;exact(c h).elim
   ·rename_i c2;split at h
    ·rename_i c;exact(c h).elim
    ·rename_i c3;split at h
     ·rename_i c;exact(c h).elim
     ·rename_i c4;exact⟨(WX s).1 (by simpa using c1),by simpa using c2,by simpa using c3,(AM w t).1 (by simpa using c4),h⟩
 ·rintro⟨h1,h2,h3,h4,h5⟩;rw[if_neg (by simpa using(WX s).2 h1),if_neg (by simpa using h2),if_neg (by simpa using h3),if_neg (by simpa using(AM w t).2 h4),h5]
variable {s :List qC} {d:List qF} {p:List Product} {pt:qN} {w:Saw} {t:Rates}
theorem bd_any {p:List Product} (h:wI p=0) (r:Rect) (a:Int) (hb:PH p r a=0):KG r a=0:=by
 have hl:=qAJ (l:=p) (by simpa using h);unfold PH at hb;unfold KG;split at hb
 ·cases hb
 ·rw[if_neg (by omega)]
theorem VY.any (h:VY s d p pt w t):XO KG pt w.Kerf=0:=by
 have hz:=GH.1 h.pat;obtain⟨T,e1,e2⟩:=qWC hz.2.2.2;rw[GH];refine⟨hz.1,hz.2.1,hz.2.2.1,?_⟩;rw[e1];exact qXZ (qNE (bd_any h.pr) e2)
theorem VY.tree (h:VY s d p pt w t):∃T,pt.Nodes=wX T/\okT (PH p) w.Kerf T ⟨pt.Frame,1⟩/\lvP pt w.Kerf=lvT w.Kerf T ⟨pt.Frame,1⟩/\ctP pt w.Kerf=ctT w.Kerf T ⟨pt.Frame,1⟩:=by
 have hz:=GH.1 h.pat;obtain⟨T,e1,e2⟩:=qWC hz.2.2.2;refine⟨T,e1,e2,?_,?_⟩
 ·unfold lvP lvT;rw[e1,qIz CT w.Kerf _ (qF4 e2)]
 ·unfold ctP ctT;rw[e1,qIz (cutG w.Kerf) w.Kerf _ (qF4 e2)]
theorem VY.parts (h:VY s d p pt w t):Parts (PH p) pt.Frame (lvP pt w.Kerf) (ctP pt w.Kerf) 127:=by
 have hz:=GH.1 h.pat;obtain⟨T,e1,e2,e3,e4⟩:=h.tree;have q:=qSt hz.2.1 T _ e2 (VR_WR hz.1);rw[e3,e4];have hl:(wX T).length<=127:=by rw[<-e1];exact hz.2.2.1
 exact⟨q.wl,q.wc,q.ap,by have:=q.ll;omega,by have:=q.lc;omega,q.sum⟩
def bdOf (s:List qC) (d:List qF) (p:List Product) (step fine:Int) (i:Nat) (x:Leaf):List zV:=
 if x.Product= -1 then[] else
  bif (bestR s d (p.getD x.Product.toNat du) x.Rect step fine).2.1 then[⟨(i:Int),x.Product,⟨x.Rect.X,x.Rect.Y,(bestR s d (p.getD x.Product.toNat du) x.Rect step fine).2.2⟩,(bestR s d (p.getD x.Product.toNat du) x.Rect step fine).1⟩] else[]
def bdsFrom (s:List qC) (d:List qF) (p:List Product) (step fine:Int):Nat->List Leaf->List zV
 |_,[]=>[]
 |i,x::l=>bdOf s d p step fine i x++bdsFrom s d p step fine (i+1) l
theorem qU0 (step fine:Int) (i:Nat) (x:Leaf):(bdOf s d p step fine i x).length<=1:=by
 unfold bdOf;split
 ·simp
 ·cases (bestR s d (p.getD x.Product.toNat du) x.Rect step fine).2.1<;>simp
theorem qMq (step fine:Int):∀(l:List Leaf) (i:Nat),(bdsFrom s d p step fine i l).length<=l.length
 |[],_=>ki _
 |x::l,i=>by
  have:=qMq step fine l (i+1);have:=qU0 (s:=s) (d:=d) (p:=p) step fine i x;simp[bdsFrom];omega
structure qLa (p:List Product) (x:Leaf):Prop where
 w:WR x.Rect
 b:x.Product= -1\/PH p x.Rect x.Product=0
theorem qYo {x:Leaf} (hp:wI p=0) (h:qLa p x) (hx:x.Product≠-1):0<=x.Product/\x.Product<(p.length:Int)/\VP (p.getD x.Product.toNat du)/\wI [p.getD x.Product.toNat du]=0/\VR x.Rect/\dimOk x.Rect (p.getD x.Product.toNat du)=true:=by
 have hb:=h.b.resolve_left hx;unfold PH at hb;split at hb
 ·cases hb
 ·rename_i c;have hd:dimOk x.Rect (p.getD x.Product.toNat du)=true:=by
   cases hh:dimOk x.Rect (p.getD x.Product.toNat du) with
   |true=>rfl
   |false=>rw[hh] at hb;cases hb
  have hi:x.Product.toNat<p.length:=by omega
  have hv:=qOd hp hi;refine⟨by omega,by omega,hv,qS0 hp hi,?_,hd⟩;have g:=qY1 hv;obtain⟨⟨x1,x2,x3⟩,y1,y2,y3⟩:=h.w;unfold dimOk at hd;simp only[uK,kr,uG] at hd;refine⟨⟨x1,?_,x3⟩,y1,?_,y3⟩<;>omega
theorem q0e (hs:VSol s) (hd:WK d=0) (hp:wI p=0) (hw:1<=w.Step/\w.Step<=20000) {fine:Int} (hf:0<=fine/\fine<=1000000) {lv:List Leaf} (hl:lv.length<=1000) (hg:∀x∈lv,qLa p x):
  LQ s d p w fine lv []=some (0,bdsFrom s d p w.Step fine 0 lv):=by
 have key:∀(k i n:Nat) (acc:List zV),i+k=lv.length->k<n->acc.length<=i->wZ s d p w fine lv n (i:Int) acc=some (.inr (acc++bdsFrom s d p w.Step fine i (lv.drop i))):=by
  intro k
  induction k with
  |zero=>
   intro i n acc hi hn _;obtain⟨n,rfl⟩:∃m,n=m+1:=⟨n-1,by omega⟩
   unfold wZ;rw[ka (by omega),ug (by omega)];simp[bdsFrom]
  |succ k ih=>
   intro i n acc hi hn ha;obtain⟨n,rfl⟩:∃m,n=m+1:=⟨n-1,by omega⟩
   have hil:i<lv.length:=by omega
   unfold wZ;rw[kd (by omega),qU (by omega),VM lv i hil];have hx:=hg _ (jE hil);unfold GA;rw[qY (by omega)];simp only[kn,ko,bdsFrom];unfold bdOf;by_cases c:(lv.getD i du).Product= -1
   ·have e:((lv.getD i du).Product != -1)=false:=by simpa using c
    rw[e,if_pos c,kp,ih (i+1) n acc (by omega) (by omega) (by omega)];rfl
   ·have e:((lv.getD i du).Product != -1)=true:=by simpa using c
    obtain⟨g1,g2,g3,g4,g5,_⟩:=qYo hp hx c;rw[e,if_neg c,kn];unfold qDk SD;rw[ZQ g1 g2,kn,qWN hs hd g4 g3 g5 hw hf];simp only[ke];rw[wO (by omega)];cases hb:(bestR s d (p.getD (lv.getD i du).Product.toNat du) (lv.getD i du).Rect w.Step fine).2.1 with
    |false=>
     simp only[kp,ke];show wZ s d p w fine lv n ((i+1:Nat):Int) acc=_;rw[ih (i+1) n acc (by omega) (by omega) (by omega)];rfl
    |true=>
     simp only[kn,ke];show wZ s d p w fine lv n ((i+1:Nat):Int) _=_;rw[ih (i+1) n _ (by omega) (by omega) (by simp;omega)];simp
 unfold LQ;have e:=key lv.length 0 FUEL [] (by omega) (by rw[jF];omega) (ki _);rw[show(0:Int)=((0:Nat):Int) from rfl,e];simp
def bds (s:List qC) (d:List qF) (p:List Product) (pt:qN) (w:Saw) (fine:Int):List zV:=bdsFrom s d p w.Step fine 0 (lvP pt w.Kerf)
theorem VW.fine0 (h:VW w t):VW w ⟨0,0,t.Fine⟩:=⟨h.kerf,h.trim,h.pitch,h.step,by simp,by simp,h.fine⟩
theorem qRQ (h:VY s d p pt w t):∀x∈lvP pt w.Kerf,qLa p x:=λx hx=>⟨(h.parts.wl x hx).1,(h.parts.wl x hx).2.2⟩
theorem qZR (h:VY s d p pt w t):qEX s d p pt w t.Fine=some (bds s d p pt w t.Fine,0):=by
 have hv:VY s d p pt w ⟨0,0,t.Fine⟩:=⟨h.sol,h.df,h.pr,h.vw.fine0,h.pat⟩
 unfold qEX;rw[qSU,qS1.2 hv,q0z,if_pos h.any];simp only[ke,kv,kp];unfold qDY;simp only[ke];rw[q0e h.sol h.df h.pr h.vw.step h.vw.fine (by have:=h.parts.ll;omega) (qRQ h)];rfl
end Go.SL.Saw

namespace Go.SL.Saw
variable {s :List qC} {d:List qF} {p:List Product} {pt:qN} {w:Saw} {t:Rates}
def qKB (z:Span) (trim:Int):Span:=⟨imax 0 (z.A-trim),z.A⟩
def qOZ (z:Span) (trim len:Int):Span:=⟨z.B,imin (z.B+trim) len⟩
def brdV (s:List qC) (c:zV):Int:=volS s c.Box.X c.Box.Y c.Box.Z
def trmV (s:List qC) (trim:Int) (c:zV):Int:=volS s c.Box.X c.Box.Y (qKB c.Box.Z trim)+volS s c.Box.X c.Box.Y (qOZ c.Box.Z trim (solLen s))
structure qOG (s:List qC) (c:zV):Prop where
 z:0<=c.Box.Z.A/\c.Box.Z.A<c.Box.Z.B/\c.Box.Z.B<=solLen s
 wth:0<=c.Worth/\c.Worth<=1000000
theorem qU6 (hp:wI p=0) {step fine:Int} (hf:0<=fine) {i:Nat} {x:Leaf} (hx:qLa p x) {c:zV} (h:c∈bdOf s d p step fine i x):qOG s c/\c.Leaf=(i:Int)/\c.Box.X=x.Rect.X/\c.Box.Y=x.Rect.Y/\c.Product=x.Product/\x.Product≠-1:=by
 unfold bdOf at h;split at h
 ·exact(uQ h).elim
 ·rename_i c0;obtain⟨_,_,g3,_,_,_⟩:=qYo hp hx c0;have bi:=qOi (l:=s) (ds:=d) (p:=p.getD x.Product.toNat du) (r:=x.Rect) (step:=step) (fine:=fine) hf g3;cases hb:(bestR s d (p.getD x.Product.toNat du) x.Rect step fine).2.1 with
  |false=>rw[hb,kp] at h;exact(uQ h).elim
  |true=>
   rw[hb,kn] at h;simp at h;subst h;exact⟨⟨bi.2.2 hb,bi.1,bi.2.1⟩,rfl,rfl,rfl,rfl,c0⟩
theorem qYj (hp:wI p=0) {step fine:Int} (hf:0<=fine):∀{lv:List Leaf} {i:Nat},(∀x∈lv,qLa p x)->∀c∈bdsFrom s d p step fine i lv,qOG s c/\(i:Int)<=c.Leaf/\∃x∈lv,c.Box.X=x.Rect.X/\c.Box.Y=x.Rect.Y/\c.Product=x.Product/\x.Product≠-1
 |[],_,_,c,hc=>(uQ hc).elim
 |x::l,i,hg,c,hc=>by
  rcases List.mem_append.1 hc with hc|hc
  ·obtain⟨a,b,e⟩:=qU6 hp hf (hg x kK) hc;exact⟨a,by omega,x,kK,e⟩
  ·obtain⟨a,b,y,hy,e⟩:=qYj hp hf (λy hy=>hg y (kM _ hy)) c hc;exact⟨a,by omega,y,kM _ hy,e⟩
def qGE (s:List qC) (ct:List Rect):Int:=sumL (zD s) ct
theorem qPW {α:Type} (F:α->Int):∀(l:List α) (x:Nat) (s:Int),foldi (λ_ a s=>s+F a) x l s=s+sumL F l
 |[],_,s=>by simp[foldi,sumL]
 |a::l,x,s=>by
  show foldi _ (x+1) l (s+F a)=_;rw[qPW F l (x+1) (s+F a),ZB];omega
theorem qSW {α:Type} (F G H:α->Int):∀(l:List α) (x:Nat) (s:Int×Int×Int),foldi (λ_ a s=>(s.1+F a,s.2.1+G a,s.2.2+H a)) x l s=(s.1+sumL F l,s.2.1+sumL G l,s.2.2+sumL H l)
 |[],_,s=>by simp[foldi,sumL]
 |a::l,x,s=>by
  show foldi _ (x+1) l (s.1+F a,s.2.1+G a,s.2.2+H a)=_;rw[qSW F G H l (x+1) _,ZB,ZB,ZB];simp only[Int.add_assoc]
theorem qEL (h:VSol s) (r:Rect):0<=zD s r/\zD s r<=28800000000:=EI h _ _ _
theorem q2l (hs:VSol s) {ct:List Rect} (hl:ct.length<=1000) (e v:Int):LD s (ct,e) (solLen s) v FUEL 0 0=some ⟨v,0,0,qGE s ct,0⟩/\0<=qGE s ct/\qGE s ct<=28800000000*ct.length:=by
 have k1:=ZC ct (λn (a:Int) x=>LD s (ct,e) (solLen s) v n x a) (λx=>(x:Int)) (λ_ a s'=>s'+zD s a) (λq=>(⟨v,0,0,q,0⟩:NE)) (λx q=>0<=q/\q<=28800000000*(x:Int)) (by omega)
  (λn x a hx hi=>by
   have b:=qEL hs (ct.getD x du);refine⟨?_,by omega⟩;rw[LD,kd (show(x:Int)<_ by simp only;omega),ZQ (by omega) (by simp only;omega),qY (by omega)];unfold SD;simp only[kn,ko,ke,qBY hs];unfold zD at*;rw[qK (by omega)])
  (λn a _=>by rw[LD];simp) (i:=0) rfl 0 (by omega)
 rw[qPW (zD s),uC] at k1;exact⟨k1.1,k1.2⟩
theorem q1b (hs:VSol s) (ht:0<=w.Trim/\w.Trim<=20) {b:List zV} (hl:b.length<=1000) (hg:∀c∈b,qOG s c) (e v dd:Int) (hd:0<=dd/\dd<=28800000000*1000):
  FW s w (b,e) (solLen s) ⟨v,0,0,dd,0⟩ FUEL 0 0 dd 0=some ⟨v,sumL (brdV s) b,0,dd+sumL (trmV s w.Trim) b,sumL (λc=>1000000*c.Worth) b⟩
   /\(0<=sumL (brdV s) b/\sumL (brdV s) b<=28800000000*b.length)/\(0<=sumL (trmV s w.Trim) b/\sumL (trmV s w.Trim) b<=57600000000*b.length)/\(0<=sumL (λc:zV=>1000000*c.Worth) b/\sumL (λc:zV=>1000000*c.Worth) b<=1000000000000*b.length):=by
 have sl:=qAl hs;have k1:=ZC b (λn (q:Int×Int×Int) x=>FW s w (b,e) (solLen s) ⟨v,0,0,dd,0⟩ n x q.1 q.2.1 q.2.2) (λx=>(x:Int)) (λ_ a q=>(q.1+brdV s a,q.2.1+trmV s w.Trim a,q.2.2+1000000*a.Worth)) (λq=>(⟨v,q.1,0,q.2.1,q.2.2⟩:NE))
  (λx q=>(0<=q.1/\q.1<=28800000000*(x:Int))/\(dd<=q.2.1/\q.2.1<=dd+57600000000*(x:Int))/\(0<=q.2.2/\q.2.2<=1000000000000*(x:Int))) (by omega)
  (λn x q hx hi=>by
   have b1:=EI hs (b.getD x du).Box.X (b.getD x du).Box.Y (b.getD x du).Box.Z;have b2:=EI hs (b.getD x du).Box.X (b.getD x du).Box.Y (qKB (b.getD x du).Box.Z w.Trim);have b3:=EI hs (b.getD x du).Box.X (b.getD x du).Box.Y (qOZ (b.getD x du).Box.Z w.Trim (solLen s));have g:=hg _ (jE hx);obtain⟨z1,z2,z3⟩:=g.z;have gw:=g.wth;have eb:brdV s (b.getD x du)=volS s (b.getD x du).Box.X (b.getD x du).Box.Y (b.getD x du).Box.Z:=rfl
   have et:trmV s w.Trim (b.getD x du)=volS s (b.getD x du).Box.X (b.getD x du).Box.Y (qKB (b.getD x du).Box.Z w.Trim)+volS s (b.getD x du).Box.X (b.getD x du).Box.Y (qOZ (b.getD x du).Box.Z w.Trim (solLen s)):=rfl;refine⟨?_,by simp only;rw[eb,et];omega⟩;simp only;rw[FW,kd (show(x:Int)<_ by simp only;omega),ZQ (by omega) (by simp only;omega),qY (by omega)];unfold SD;simp only[kn,ko,ke,qBY hs];rw[qK (n:=(b.getD x du).Box.Z.A-w.Trim) (by omega),qK (n:=(b.getD x du).Box.Z.B+w.Trim) (by omega)];rw[eb,et];unfold qKB qOZ at*
   rw[qK (n:=1000000*(b.getD x du).Worth) (by omega),qK (n:=q.1+_) (by omega),qK (n:=q.2.1+_) (by omega),qK (n:=q.2.1+_+_) (by omega),qK (n:=q.2.2+_) (by omega),Int.add_assoc])
  (λn q _=>by rw[FW];simp) (i:=0) rfl (0,dd,0) (by simp only;omega)
 rw[qSW (brdV s) (trmV s w.Trim) (λc=>1000000*c.Worth)] at k1;simp only[uC] at k1;exact⟨k1.1,k1.2.1,by have:=k1.2.2.1;omega,k1.2.2.2⟩
def yB (s:List qC) (d:List qF) (p:List Product) (pt:qN) (w:Saw) (fine:Int):Int:=sumL (brdV s) (bds s d p pt w fine)
def yD (s:List qC) (d:List qF) (p:List Product) (pt:qN) (w:Saw) (fine:Int):Int:=qGE s (ctP pt w.Kerf)+sumL (trmV s w.Trim) (bds s d p pt w fine)
def yW (s:List qC) (d:List qF) (p:List Product) (pt:qN) (w:Saw) (fine:Int):Int:=sumL (λc:zV=>1000000*c.Worth) (bds s d p pt w fine)
def yC (s:List qC) (d:List qF) (p:List Product) (pt:qN) (w:Saw) (fine:Int):Int:=volT s-yB s d p pt w fine-yD s d p pt w fine
def qQI (s:List qC) (d:List qF) (p:List Product) (pt:qN) (w:Saw) (t:Rates):NE:=
 ⟨volT s,yB s d p pt w t.Fine,yC s d p pt w t.Fine,yD s d p pt w t.Fine,yW s d p pt w t.Fine+(t.Chip*yC s d p pt w t.Fine+t.Dust*yD s d p pt w t.Fine)⟩
theorem bds_len (h:VY s d p pt w t) (fine:Int):(bds s d p pt w fine).length<=127:=by
 have:=qMq (s:=s) (d:=d) (p:=p) w.Step fine (lvP pt w.Kerf) 0;have:=h.parts.ll;unfold bds;omega
theorem q1i (h:VY s d p pt w t):∀c∈bds s d p pt w t.Fine,qOG s c:=λc hc=>(qYj h.pr h.vw.fine.1 (qRQ h) c hc).1
structure YBnd (s:List qC) (d:List qF) (p:List Product) (pt:qN) (w:Saw) (fine:Int):Prop where
 nB:0<=yB s d p pt w fine/\yB s d p pt w fine<=28800000000*127
 nD:0<=yD s d p pt w fine/\yD s d p pt w fine<=28800000000*127+57600000000*127
 nW:0<=yW s d p pt w fine/\yW s d p pt w fine<=1000000000000*127
theorem Of_ok (h:VY s d p pt w t):qVP s d p pt w t=some (qQI s d p pt w t,0)/\YBnd s d p pt w t.Fine:=by
 have lb:=bds_len h t.Fine;have lc:=h.parts.lc;have ev:valL s=s:=KF h.sol;obtain⟨e1,c1,c2⟩:=q2l h.sol (ct:=ctP pt w.Kerf) (by omega) 0 (volT s);obtain⟨e2,b1,b2,b3⟩:=q1b (w:=w) h.sol h.vw.trim (b:=bds s d p pt w t.Fine) (by omega) (q1i h) 0 (volT s) (qGE s (ctP pt w.Kerf)) (by omega);have bd:YBnd s d p pt w t.Fine:=⟨by unfold yB;omega,by unfold yD;omega,by unfold yW;omega⟩
 refine⟨?_,bd⟩;unfold qVP;rw[qSU,qS1.2 h,qZR h,Cuts_eq,if_pos h.any,(YA s).1,ev,qS5 h.sol];simp only[ke,kv,kp,e1,e2];have bv:=qOT h.sol;have bb:=bd.nB;have b4:=bd.nD;have b5:=bd.nW;have eC:w64 (w64 (volT s-sumL (brdV s) (bds s d p pt w t.Fine))-(qGE s (ctP pt w.Kerf)+sumL (trmV s w.Trim) (bds s d p pt w t.Fine)))=yC s d p pt w t.Fine:=by
  unfold yC yB yD at*;rw[qK (n:=volT s-_) (by omega),qK (by omega)]
 rw[eC];have hC: -28800000000*1000<=yC s d p pt w t.Fine/\yC s d p pt w t.Fine<=28800000000*1000:=by unfold yC;omega
 have m1:=jL (a:=t.Chip) (b:=yC s d p pt w t.Fine) (m:=1000) (n:=28800000000*1000) (by have:=h.vw.chip;omega) (by have:=h.vw.chip;omega) (by omega) hC.2 (by omega) (by omega);have m2:=jL (a:=t.Dust) (b:=yD s d p pt w t.Fine) (m:=1000) (n:=28800000000*1000) (by have:=h.vw.dust;omega) (by have:=h.vw.dust;omega) (by omega) (by omega) (by omega) (by omega);show some ((⟨volT s,yB s d p pt w t.Fine,_,yD s d p pt w t.Fine,w64 (yW s d p pt w t.Fine+w64 (w64 (t.Chip*yC s d p pt w t.Fine)+w64 (t.Dust*yD s d p pt w t.Fine)))⟩:NE),(0:Int))=_
 rw[qK (n:=t.Chip*_) (by omega),qK (n:=t.Dust*_) (by omega),qK (n:=t.Chip*_+_) (by omega),qK (by omega)];rfl
end Go.SL.Saw

namespace Go.SL
namespace Saw
def mvX (dx:Int) (x:Span):Span:=⟨x.A+dx,x.B+dx⟩
def mvR (dx:Int) (r:Rect):Rect:=⟨mvX dx r.X,r.Y⟩
def mvD (dx:Int) (d:qF):qF:=⟨d.Kind,⟨mvX dx d.Box.X,d.Box.Y,d.Box.Z⟩⟩
theorem ml_mv (dx:Int) (x y:Span):ml (shS dx x) (mvX dx y)=ml x y:=by
 by_cases c:x.B<=x.A
 ·have e:empS x=true:=kd c;rw[q0V _ (by rw[sh_emp];exact e),q0V _ e]
 ·have e:shS dx x=mvX dx x:=by unfold shS empS mvX;rw[ka c];rfl
  rw[e,qC2,qC2];unfold mvX;have a1:=imin_or x.B y.B;have a2:=jN x.A y.A;have a3:=imin_or (x.B+dx) (y.B+dx);have a4:=jN (x.A+dx) (y.A+dx);simp only;split<;>split<;>omega
theorem emp_mv (dx:Int) (x y:Span):empS (mxS (mvX dx x) (mvX dx y))=empS (mxS x y):=by
 unfold mvX mxS empS;have a1:=imin_or x.B y.B;have a2:=jN x.A y.A;have a3:=imin_or (x.B+dx) (y.B+dx);have a4:=jN (x.A+dx) (y.A+dx);simp only;rw[decide_eq_decide];omega
theorem row_sh {s:qQ} (dx:Int) (r:Int):row ⟨s.Low,s.Rows.map (shS dx)⟩ r=shS dx (row s r):=by
 have z:shS dx ⟨0,0⟩=⟨0,0⟩:=rfl;unfold row;simp only;by_cases c:r<s.Low
 ·rw[if_pos c,if_pos c,z]
 ·rw[if_neg c,if_neg c];by_cases k:(r-s.Low).toNat<s.Rows.length
  ·rw[kg,kE,kg,kt k];rfl
  ·rw[qLi (by simpa using k),qLi (by omega)];rfl
theorem qZE (dx:Int) (s:qQ) (x y:Span):zM ⟨s.Low,s.Rows.map (shS dx)⟩ (mvX dx x) y=zM s x y:=by
 unfold zM;exact qEv (λr _ _=>by rw[row_sh,ml_mv])
structure Mv (dx:Int) (l l':List qC):Prop where
 len:l'.length=l.length
 at':∀i,i<l.length->(l'.getD i du).Len=(l.getD i du).Len/\(l'.getD i du).Sec=⟨(l.getD i du).Sec.Low,(l.getD i du).Sec.Rows.map (shS dx)⟩
theorem Mv.lenTo {dx:Int} {l l':List qC} (h:Mv dx l l') {k:Nat} (hk:k<=l.length):lenTo l' k=lenTo l k:=by
 unfold Saw.lenTo;exact XG (λi hi=>(h.at' i (by omega)).1)
theorem Mv.solLen {dx:Int} {l l':List qC} (h:Mv dx l l'):solLen l'=solLen l:=by
 unfold Saw.solLen;rw[h.len,h.lenTo (ki _)]
theorem Mv.ext {dx:Int} {l l':List qC} (h:Mv dx l l') {i:Nat} (hi:i<l.length):Saw.ext l' i=Saw.ext l i:=by
 unfold Saw.ext;rw[h.lenTo (by omega),h.lenTo (by omega)]
theorem Mv.zones {dx:Int} {l l':List qC} (h:Mv dx l l') (r:Rect):zones l' (mvR dx r)=zones l r:=by
 unfold Saw.zones;rw[h.len];refine List.map_congr_left (λi hi=>?_);have hi':i<l.length:=by simpa using hi
 have a:QH (mvR dx r)=QH r:=by unfold QH mvR mvX;simp only;rw[show r.X.B+dx-(r.X.A+dx)=r.X.B-r.X.A by omega]
 have e:zM (l'.getD i du).Sec (mvR dx r).X (mvR dx r).Y=zM (l.getD i du).Sec r.X r.Y:=by
  rw[(h.at' i hi').2];exact qZE dx _ r.X r.Y
 rw[h.ext hi',e,a]
theorem qZ0 (dx:Int) (d b:Box):tch ⟨mvX dx d.X,d.Y,d.Z⟩ ⟨mvX dx b.X,b.Y,b.Z⟩=tch d b:=by
 unfold tch;rw[emp_mv]
theorem qTi {α β:Type} [Inhabited α] [Inhabited β] (f:α->β) {l:List α} {i:Nat} (h:i<l.length):(l.map f).getD i du=f (l.getD i du):=by
 rw[kg,kE,kg,kt h];rfl
theorem near_mv (dx:Int) (ds:List qF) (b:Box):near (ds.map (mvD dx)) ⟨mvX dx b.X,b.Y,b.Z⟩=(near ds b).map (mvD dx):=by
 unfold near;have key:∀k,k<=ds.length->foldN (λi t=>bif tch ((ds.map (mvD dx)).getD i du).Box ⟨mvX dx b.X,b.Y,b.Z⟩ then t++[(ds.map (mvD dx)).getD i du] else t) 0 k ([]:List qF)=(foldN (λi t=>bif tch (ds.getD i du).Box b then t++[ds.getD i du] else t) 0 k ([]:List qF)).map (mvD dx):=by
  intro k
  induction k with
  |zero=>intro _;rfl
  |succ k ih=>
   intro hk;rw[yE,yE,ih (by omega),kw,qTi _ (by omega),show tch (mvD dx (ds.getD k du)).Box ⟨mvX dx b.X,b.Y,b.Z⟩=tch (ds.getD k du).Box b from qZ0 dx _ b];cases tch (ds.getD k du).Box b with
   |true=>simp only[kn,kH,uh,uX]
   |false=>rfl
 rw[kN];exact key _ (ki _)
theorem q0r (dx:Int) (ds:List qF) (b:Box) (fine v:Int):WL (ds.map (mvD dx)) ⟨mvX dx b.X,b.Y,b.Z⟩ fine v=WL ds b fine v:=by
 unfold WL;rw[kN];have key:∀k x w,x+k=ds.length->runN (dstep (ds.map (mvD dx)) ⟨mvX dx b.X,b.Y,b.Z⟩ fine) x k w=runN (dstep ds b fine) x k w:=by
  intro k
  induction k with
  |zero=>intro x w _;rfl
  |succ k ih=>
   intro x w hx;have e:dstep (ds.map (mvD dx)) ⟨mvX dx b.X,b.Y,b.Z⟩ fine x w=dstep ds b fine x w:=by
    unfold dstep;rw[qTi _ (by omega),show tch (mvD dx (ds.getD x du)).Box ⟨mvX dx b.X,b.Y,b.Z⟩=tch (ds.getD x du).Box b from qZ0 dx _ b];rfl
   unfold runN;rw[e];cases dstep ds b fine x w with
   |inl r=>rfl
   |inr s=>exact ih _ _ (by omega)
 rw[key _ 0 _ (by omega)]
theorem Mv.view {dx:Int} {l l':List qC} (h:Mv dx l l') (ds:List qF) (p:Product) (r:Rect):viewOf l' (ds.map (mvD dx)) p (mvR dx r)=⟨p,mvR dx r,Saw.solLen l,Saw.zones l r,(near ds ⟨r.X,r.Y,⟨0,Saw.solLen l⟩⟩).map (mvD dx)⟩:=by
 unfold viewOf;rw[h.solLen,h.zones,<-near_mv];rfl
theorem Mv.worthV {dx:Int} {l l':List qC} (h:Mv dx l l') (ds:List qF) (p:Product) (r:Rect) (s:Span) (fine:Int):worthV (viewOf l' (ds.map (mvD dx)) p (mvR dx r)) s fine=worthV (viewOf l ds p r) s fine:=by
 rw[h.view];unfold Saw.worthV;have e:∀v,WL ((near ds ⟨r.X,r.Y,⟨0,Saw.solLen l⟩⟩).map (mvD dx)) ⟨(mvR dx r).X,(mvR dx r).Y,s⟩ fine v=WL (near ds ⟨r.X,r.Y,⟨0,Saw.solLen l⟩⟩) ⟨r.X,r.Y,s⟩ fine v:=λv=>q0r dx _ ⟨r.X,r.Y,s⟩ fine v;simp only[e];rfl
theorem Mv.bestR {dx:Int} {l l':List qC} (h:Mv dx l l') (ds:List qF) (p:Product) (r:Rect) (step fine:Int):bestR l' (ds.map (mvD dx)) p (mvR dx r) step fine=bestR l ds p r step fine:=by
 unfold Saw.bestR;have d:dimOk (mvR dx r) p=dimOk r p:=by unfold dimOk mvR mvX;simp only;rw[show r.X.B+dx-(r.X.A+dx)=r.X.B-r.X.A by omega]
 rw[d];cases dimOk r p with
 |false=>rfl
 |true=>
  simp only[kn];unfold qPJ;have e1:(viewOf l' (ds.map (mvD dx)) p (mvR dx r)).length=(viewOf l ds p r).length:=h.solLen;rw[e1];refine OX (λk _ _ st=>?_);unfold qDn;refine OX (λi _ _ st=>?_);rw[show(viewOf l' (ds.map (mvD dx)) p (mvR dx r)).product=(viewOf l ds p r).product from rfl,h.worthV]
end Saw
end Go.SL

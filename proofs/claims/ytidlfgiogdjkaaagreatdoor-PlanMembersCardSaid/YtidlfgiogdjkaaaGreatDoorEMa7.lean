/- Rows of parts as trees: their nodes, that they have no error, and the sum of what their leaves and cuts are worth. -/
import Derived.Test.YtidlfgiogdjkaaaGreatDoorEMa5
import Derived.Test.YtidlfgiogdjkaaaGreatDoorEMa6
set_option linter.unusedVariables false
set_option linter.unusedSimpArgs false
namespace Go.SL.Saw
def okS (bd:Rect->Int->Int) (kerf:Int):T->Rect->Prop
 | .leaf n,r=>ripB n.Kind=false/\chkN bd n ⟨r,1⟩=0
 | .rip n a b,r=>ripB n.Kind=true/\chkN bd n ⟨r,1⟩=0/\okS bd kerf a (fiP r n)/\okS bd kerf b (seP r n kerf)
def dT :T->Nat
 | .leaf _=>1
 | .rip _ a b=>1+max (dT a) (dT b)
theorem qJf :∀(t:T),2*dT t<=(qQ t).length+1
 | .leaf _=>by simp[dT,qQ]
 | .rip _ a b=>by
  have:=qJf a;have:=qJf b;have:=qEJ a;have:=qEJ b;simp only[dT,qQ,List.length_cons,List.length_append];omega
theorem qPw {bd:Rect->Int->Int} {n:Node} {r:Rect} {l:Int} (h:chkN bd n ⟨r,1⟩=0) (hl:l<=64):chkN bd n ⟨r,l⟩=0:=by
 unfold chkN at h⊢;simp only at h⊢;split at h
 ·cases h
 ·rename_i c;rw[if_neg c,if_neg (by omega)];rw[if_neg (by omega)] at h;exact h
theorem qLV {bd:Rect->Int->Int} {kerf:Int}:∀{t:T} {r:Rect} {l:Int},okS bd kerf t r->l+dT t<=65->okT bd kerf t ⟨r,l⟩
 | .leaf n,r,l,h,hl=>⟨h.1,qPw h.2 (by simp only[dT] at hl;omega)⟩
 | .rip n a b,r,l,h,hl=>by
  simp only[dT] at hl;exact⟨h.1,qPw h.2.1 (by omega),qLV h.2.2.1 (by simp only;omega),qLV h.2.2.2 (by simp only;omega)⟩
theorem qDf {bd:Rect->Int->Int} {kerf:Int}:∀{t:T} {r:Rect},okS bd kerf t r->UW t
 | .leaf _,_,h=>h.1
 | .rip _ _ _,_,h=>⟨h.1,qDf h.2.2.1,qDf h.2.2.2⟩
theorem qUL {bd:Rect->Int->Int} {kerf:Int} {t:T} {r:Rect} (h:okS bd kerf t r) (hl:(qQ t).length<=127):chkP bd kerf (qQ t) [⟨r,1⟩]=0:=
 qRv (qLV h (by have:=qJf t;omega))
abbrev Pq :=Span×T
def rowT (axis kerf B:Int):Int->List Pq->T
 |_,[]=> .leaf ⟨0,0⟩
 |e,x::r=>
  if x.1.A>e then .rip ⟨axis,x.1.A-kerf⟩ (.leaf ⟨0,0⟩) (if x.1.B<B then .rip ⟨axis,x.1.B⟩ x.2 (rowT axis kerf B (imin (x.1.B+kerf) B) r) else x.2)
  else if x.1.B<B then .rip ⟨axis,x.1.B⟩ x.2 (rowT axis kerf B (imin (x.1.B+kerf) B) r) else x.2
def ptP (x:Pq):Pt:=(x.1,qQ x.2)
theorem qER (axis kerf B:Int):∀(L:List Pq) (e:Int),goodL kerf B e (L.map ptP)->qQ (rowT axis kerf B e L)=(rowB axis kerf B e (L.map ptP)).1++(if(rowB axis kerf B e (L.map ptP)).2 then[] else[⟨0,0⟩])
 |[],e,_=>rfl
 |x::r,e,h=>by
  obtain⟨h1,h2,h3,h4⟩:=h;rw[List.map_cons,JU];unfold rowT;by_cases c:x.1.B<B
  ·have c':(ptP x).1.B<B:=c;rw[if_pos c'] at h4;have ih:=qER axis kerf B r (imin (x.1.B+kerf) B) h4;rw[if_pos c,if_pos c'];by_cases ca:x.1.A>e
   ·rw[if_pos ca,if_pos (show(ptP x).1.A>e from ca)];simp only[qQ,ih];simp[ptP];rfl
   ·rw[if_neg ca,if_neg (show¬(ptP x).1.A>e from ca)];simp only[qQ,ih];simp[ptP];rfl
  ·have c':¬(ptP x).1.B<B:=c;rw[if_neg c,if_neg c'];by_cases ca:x.1.A>e
   ·rw[if_pos ca,if_pos (show(ptP x).1.A>e from ca)];simp[qQ,ptP]
   ·rw[if_neg ca,if_neg (show¬(ptP x).1.A>e from ca)];simp[ptP]
theorem qOq (R:Rect) (k:Int) (s:Span):alP (wiP R k s) k=s:=by unfold alP wiP;cases k==2<;>rfl
theorem wi_wi (R:Rect) (k:Int) (s u:Span):wiP (wiP R k s) k u=wiP R k u:=by unfold wiP;cases k==2<;>rfl
theorem fi_wi (R:Rect) (k at_:Int) (s:Span):fiP (wiP R k s) ⟨k,at_⟩=wiP R k ⟨s.A,at_⟩:=by unfold fiP;simp only[qOq,wi_wi]
theorem en_wi (R:Rect) (k at_ kerf:Int) (s:Span) (h: -1000<=at_/\at_<=1000) (hk:0<=kerf/\kerf<=20):enP (wiP R k s) ⟨k,at_⟩ kerf=imin (at_+kerf) s.B:=by
 unfold enP;simp only[qOq];rw[qD (by omega) (by omega)]
theorem cu_wi (R:Rect) (k at_ kerf:Int) (s:Span) (h: -1000<=at_/\at_<=1000) (hk:0<=kerf/\kerf<=20):cuP (wiP R k s) ⟨k,at_⟩ kerf=wiP R k ⟨at_,imin (at_+kerf) s.B⟩:=by
 unfold cuP;rw[en_wi R k at_ kerf s h hk];simp only[wi_wi]
theorem qOj (R:Rect) (k at_ kerf:Int) (s:Span) (h: -1000<=at_/\at_<=1000) (hk:0<=kerf/\kerf<=20):seP (wiP R k s) ⟨k,at_⟩ kerf=wiP R k ⟨imin (at_+kerf) s.B,s.B⟩:=by
 unfold seP;rw[en_wi R k at_ kerf s h hk];simp only[wi_wi,qOq]
theorem qP9 {bd:Rect->Int->Int} {R:Rect} {k at_:Int} {s:Span} (hk:k=2\/k=3) (h:s.A<at_/\at_<s.B):ripB k=true/\chkN bd ⟨k,at_⟩ ⟨wiP R k s,1⟩=0:=by
 have hr:ripB k=true:=ripB_iff.2 hk;refine⟨hr,?_⟩;unfold chkN;simp only[qOq];rw[if_neg (by omega),if_neg (by omega),if_neg (by omega),if_neg (by omega)]
theorem qJV {bd:Rect->Int->Int} (r:Rect):ripB 0=false/\chkN bd ⟨0,0⟩ ⟨r,1⟩=0:=by
 refine⟨rfl,?_⟩;unfold chkN;simp[ripB]
theorem qTU {bd:Rect->Int->Int} {kerf axis B:Int} {R:Rect} (ha:axis=2\/axis=3) (hk:0<=kerf/\kerf<=20) (hB:B<=600):∀(L:List Pq) (e:Int),-600<=e->e<=B->goodL kerf B e (L.map ptP)->(∀x∈L,okS bd kerf x.2 (wiP R axis x.1))->okS bd kerf (rowT axis kerf B e L) (wiP R axis ⟨e,B⟩)
 |[],e,_,_,_,_=>qJV _
 |x::r,e,he,heB,h,hx=>by
  obtain⟨h1,h2,h3,h4⟩:=h;have h1':x.1.A<x.1.B:=h1;have h2':x.1.A=e\/e+kerf+1<=x.1.A:=h2;have h3':x.1.B<=B:=h3;have o1:=hx x List.mem_cons_self;have inner:okS bd kerf (if x.1.B<B then .rip ⟨axis,x.1.B⟩ x.2 (rowT axis kerf B (imin (x.1.B+kerf) B) r) else x.2) (wiP R axis ⟨x.1.A,B⟩):=by
   by_cases c:x.1.B<B
   ·rw[if_pos c];rw[if_pos (show(ptP x).1.B<B from c)] at h4;obtain⟨r1,r2⟩:=qP9 (bd:=bd) (R:=R) (at_:=x.1.B) (s:=⟨x.1.A,B⟩) ha ⟨h1',c⟩;have mm:=imin_or (x.1.B+kerf) B;refine⟨r1,r2,?_,?_⟩
    ·rw[fi_wi];exact o1
    ·rw[qOj R axis x.1.B kerf ⟨x.1.A,B⟩ (by omega) hk];exact qTU ha hk hB r _ (by omega) (by omega) h4 λy hy=>hx y (List.mem_cons_of_mem _ hy)
   ·rw[if_neg c];have:x.1.B=B:=by omega
    have e2:(⟨x.1.A,B⟩:Span)=x.1:=by rw[<-this]
    rw[e2];exact o1
  unfold rowT;by_cases ca:x.1.A>e
  ·rw[if_pos ca];obtain⟨r1,r2⟩:=qP9 (bd:=bd) (R:=R) (at_:=x.1.A-kerf) (s:=⟨e,B⟩) ha ⟨by simp only;omega,by simp only;omega⟩;refine⟨r1,r2,qJV _,?_⟩;rw[qOj R axis (x.1.A-kerf) kerf ⟨e,B⟩ (by omega) hk];have mm:=imin_or (x.1.A-kerf+kerf) B;rw[show imin (x.1.A-kerf+kerf) B=x.1.A by omega];exact inner
  ·rw[if_neg ca];have:x.1.A=e:=by omega
   rw[<-this];exact inner
def tv (φ:Leaf->Int) (κ:Rect->Int) (kerf:Int) (t:T) (r:Rect):Int:=sumL φ (lvT kerf t ⟨r,1⟩)+sumL κ (ctT kerf t ⟨r,1⟩)
theorem qEq (kerf:Int):∀(T:T) (r:Rect) (l m:Int),lvT kerf T ⟨r,l⟩=lvT kerf T ⟨r,m⟩/\ctT kerf T ⟨r,l⟩=ctT kerf T ⟨r,m⟩
 | .leaf n,r,l,m=>⟨rfl,rfl⟩
 | .rip n a b,r,l,m=>by
  have a1:=qEq kerf a (fiP r n) (l+1) (m+1);have b1:=qEq kerf b (seP r n kerf) (l+1) (m+1);unfold lvT ctT at*;simp only[allT];rw[a1.1,a1.2,b1.1,b1.2];exact⟨rfl,rfl⟩
theorem qTj (φ:Leaf->Int) (κ:Rect->Int) {kerf:Int} {n:Node} (hr:ripB n.Kind=true) (a b:T) (r:Rect):tv φ κ kerf (.rip n a b) r=κ (cuP r n kerf)+tv φ κ kerf a (fiP r n)+tv φ κ kerf b (seP r n kerf):=by
 unfold tv;rw[(qLi hr).1,(qLi hr).2,FZ,yQ,FZ];simp only;rw[(qEq kerf a (fiP r n) (1+1) 1).1,(qEq kerf a (fiP r n) (1+1) 1).2,(qEq kerf b (seP r n kerf) (1+1) 1).1,(qEq kerf b (seP r n kerf) (1+1) 1).2];omega
theorem qQm (φ:Leaf->Int) (κ:Rect->Int) (kerf:Int) (r:Rect):tv φ κ kerf (.leaf ⟨0,0⟩) r=φ ⟨r,-1⟩:=by
 unfold tv lvT ctT allT HT cutG;simp[sumL,ripB]
theorem qU9 (φ:Leaf->Int) (κ:Rect->Int) (kerf at_:Int) (r:Rect):tv φ κ kerf (.leaf ⟨1,at_⟩) r=φ ⟨r,at_⟩:=by
 unfold tv lvT ctT allT HT cutG;simp[sumL,ripB]
def rowV (φ:Leaf->Int) (κ:Rect->Int) (axis kerf:Int) (R:Rect) (B:Int):Int->List Pq->Int
 |e,[]=>φ ⟨wiP R axis ⟨e,B⟩,-1⟩
 | e,x::r=>(if x.1.A>e then φ ⟨wiP R axis ⟨e,x.1.A-kerf⟩,-1⟩+κ (wiP R axis ⟨x.1.A-kerf,x.1.A⟩) else 0)+tv φ κ kerf x.2 (wiP R axis x.1)
   +(if x.1.B<B then κ (wiP R axis ⟨x.1.B,imin (x.1.B+kerf) B⟩)+rowV φ κ axis kerf R B (imin (x.1.B+kerf) B) r else 0)
theorem qTo (φ:Leaf->Int) (κ:Rect->Int) {kerf axis B:Int} {R:Rect} (ha:axis=2\/axis=3) (hk:0<=kerf/\kerf<=20) (hB:B<=600):∀(L:List Pq) (e:Int),-600<=e->e<=B->goodL kerf B e (L.map ptP)->tv φ κ kerf (rowT axis kerf B e L) (wiP R axis ⟨e,B⟩)=rowV φ κ axis kerf R B e L
 |[],e,_,_,_=>qQm _ _ _ _
 |x::r,e,he,heB,h=>by
  obtain⟨h1,h2,h3,h4⟩:=h;have h1':x.1.A<x.1.B:=h1;have h2':x.1.A=e\/e+kerf+1<=x.1.A:=h2;have h3':x.1.B<=B:=h3;have hr:ripB axis=true:=ripB_iff.2 ha;have inner:tv φ κ kerf (if x.1.B<B then .rip ⟨axis,x.1.B⟩ x.2 (rowT axis kerf B (imin (x.1.B+kerf) B) r) else x.2) (wiP R axis ⟨x.1.A,B⟩)=tv φ κ kerf x.2 (wiP R axis x.1)+(if x.1.B<B then κ (wiP R axis ⟨x.1.B,imin (x.1.B+kerf) B⟩)+rowV φ κ axis kerf R B (imin (x.1.B+kerf) B) r else 0):=by
   by_cases c:x.1.B<B
   ·rw[if_pos c,if_pos c];rw[if_pos (show(ptP x).1.B<B from c)] at h4;have mm:=imin_or (x.1.B+kerf) B;rw[qTj φ κ (n:=⟨axis,x.1.B⟩) hr,cu_wi R axis x.1.B kerf ⟨x.1.A,B⟩ (by omega) hk,fi_wi,qOj R axis x.1.B kerf ⟨x.1.A,B⟩ (by omega) hk];have ih:=qTo φ κ (R:=R) ha hk hB r (imin (x.1.B+kerf) B) (by omega) (by omega) h4;simp only;rw[ih];rw[show(⟨x.1.A,x.1.B⟩:Span)=x.1 from rfl];omega
   ·rw[if_neg c,if_neg c];have:x.1.B=B:=by omega
    have e2:(⟨x.1.A,B⟩:Span)=x.1:=by rw[<-this]
    rw[e2,Int.add_zero]
  unfold rowT rowV;by_cases ca:x.1.A>e
  ·rw[if_pos ca,if_pos ca,qTj φ κ (n:=⟨axis,x.1.A-kerf⟩) hr,cu_wi R axis (x.1.A-kerf) kerf ⟨e,B⟩ (by omega) hk,fi_wi,qOj R axis (x.1.A-kerf) kerf ⟨e,B⟩ (by omega) hk,qQm];have mm:=imin_or (x.1.A-kerf+kerf) B;simp only;rw[show imin (x.1.A-kerf+kerf) B=x.1.A by omega,inner];omega
  ·rw[if_neg ca,if_neg ca];have:x.1.A=e:=by omega
   rw[<-this,inner];omega
end Go.SL.Saw

namespace Go.SL.Saw
theorem qS1 (s:qI) {A m B:Int} (y:Span) (h1:A<=m) (h2:m<=B):zF s ⟨A,m⟩ y+zF s ⟨m,B⟩ y=zF s ⟨A,B⟩ y:=by
 unfold zF;rw[<-qI7];refine qBl (λr _ _=>?_);rw[<-qLp (row s r) h1 h2,Int.add_mul]
theorem qTA (s:qI) {A m B:Int} (x:Span) (h1:A<=m) (h2:m<=B):zF s x ⟨A,m⟩+zF s x ⟨m,B⟩=zF s x ⟨A,B⟩:=by
 unfold zF;rw[<-qI7];refine qBl (λr _ _=>?_);rw[<-qLp (hgt r) h1 h2,Int.mul_add]
theorem vol_aX (l:List qB) {A m B:Int} (y z:Span) (h1:A<=m) (h2:m<=B):volS l ⟨A,m⟩ y z+volS l ⟨m,B⟩ y z=volS l ⟨A,B⟩ y z:=by
 unfold volS;rw[<-qBP];refine JI (λi _=>?_);rw[<-qS1 _ y h1 h2,Int.mul_add]
theorem vol_aY (l:List qB) {A m B:Int} (x z:Span) (h1:A<=m) (h2:m<=B):volS l x ⟨A,m⟩ z+volS l x ⟨m,B⟩ z=volS l x ⟨A,B⟩ z:=by
 unfold volS;rw[<-qBP];refine JI (λi _=>?_);rw[<-qTA _ x h1 h2,Int.mul_add]
theorem qJY (l:List qB) {A m B:Int} (x y:Span) (h1:A<=m) (h2:m<=B):volS l x y ⟨A,m⟩+volS l x y ⟨m,B⟩=volS l x y ⟨A,B⟩:=by
 unfold volS;rw[<-qBP];refine JI (λi _=>?_);rw[<-qLp (ext l i) h1 h2,Int.add_mul]
theorem qK0 (l:List qB) (x y z:Span):0<=volS l x y z:=by
 unfold volS;have:=qMu (n:=l.length) (f:=λ_=>0) (g:=λi=>ml (ext l i) z*zF (l.getD i default).Sec x y) (λi _=>Int.mul_nonneg (qCy _ _) (qCE _ _ _));rw[qAk (λ_ _=>rfl)] at this;exact this
theorem qUu (l:List qB) (x y:Span) {A B:Int} (h:B<=A):volS l x y ⟨A,B⟩=0:=by
 unfold volS;refine qAk (λi _=>?_);have:ml (ext l i) ⟨A,B⟩=0:=by
  rw[qGE];have a1:=imin_or (ext l i).B B;have a2:=WU (ext l i).A A;simp only;split<;>omega
 rw[this,Int.zero_mul]
theorem qUl (l:List qB) (x y:Span) {A B C D:Int} (h1:C<=A) (h2:B<=D):volS l x y ⟨A,B⟩<=volS l x y ⟨C,D⟩:=by
 by_cases h:A<=B
 ·have e1:=qJY l x y h1 h;have e2:=qJY l x y (show C<=B by omega) h2;have:=qK0 l x y ⟨C,A⟩;have:=qK0 l x y ⟨B,D⟩;omega
 ·rw[qUu l x y (by omega)];exact qK0 _ _ _ _
def wholeR (l:List qB) (r:Rect):Int:=volS l r.X r.Y ⟨0,solLen l⟩
theorem qFX (l:List qB):AddR (wholeR l):=⟨λy h1 h2=>vol_aX l y _ h1 h2,λx h1 h2=>vol_aY l x _ h1 h2⟩
theorem qOK (l:List qB) (r:Rect):0<=wholeR l r:=qK0 _ _ _ _
def volT (l:List qB):Int:=sumN l.length (λi=>(l.getD i default).Len*LG (l.getD i default).Sec)
theorem qJq {l:List qB} (h:VSol l) (r:Rect):wholeR l r<=volT l:=by
 unfold wholeR volS volT;refine qMu (λi hi=>?_);have hlen:=qRL h hi;have h1:=qKn (ext l i) ⟨0,solLen l⟩;rw[hlen] at h1;have h2:=qGH (l.getD i default).Sec r.X r.Y;have h3:=qCE (l.getD i default).Sec r.X r.Y;have h4:=qCy (ext l i) ⟨0,solLen l⟩;have h5:=(h.at hi).2.2.1;exact Int.mul_le_mul h1 h2 h3 (by omega)
theorem Area_eq (s:qI):NZ s=some (LG (CV s)):=by
 have h:=qOF s;unfold NZ;rw[qQl s];simp only[Option.bind_some];generalize CV s=t at*;have b:=h.len;have k1:=JR t.Rows (λn (a:Int) x=>YO t n a x) (λx=>(x:Int)) (λ_ a s=>s+lenS a) (λs=>s) (λx s=>0<=s/\s<=1200*(x:Int)) (by omega)
  (λn x a hx hi=>by
   have l:=h.len_b hx;refine⟨?_,by omega⟩;rw[YO,decide_eq_true (show(x:Int)<_ by omega),qG (by omega) (by omega),qO (by omega)];simp only[cond_true,Int.toNat_natCast];rw[HC (by omega)];simp only[Option.bind_some];rw[qD (by omega) (by omega)])
  (λn a _=>by rw[YO];simp) (i:=0) rfl 0 (by omega)
 rw[qC3 (λ_ a=>lenS a)] at k1;have e:=qPj h (λ_ a=>lenS a) (λ_=>rfl);rw[e,Int.zero_add] at k1;rw[k1.1];simp only[Option.bind_some];unfold LG;have:=k1.2;rw[qD (by omega) (by omega)]
theorem qCH {l:List qB} (h:VSol l):∀{k:Nat},k<=l.length->0<=sumN k (λi=>(l.getD i default).Len*LG (l.getD i default).Sec)/\sumN k (λi=>(l.getD i default).Len*LG (l.getD i default).Sec)<=1440000*lenTo l k
 |0,_=>by simp[sumN,lenTo]
 |k+1,hk=>by
  have ih:=qCH h (k:=k) (by omega);have a:=qPk (h.at (i:=k) (by omega)).1;have b:=(h.at (i:=k) (by omega)).2.2.1;have c:=Int.mul_le_mul_of_nonneg_left a.2 (show 0<=(l.getD k default).Len by omega);have d:=Int.mul_nonneg (show 0<=(l.getD k default).Len by omega) a.1;rw[wM];show 0<=sumN k _+_/\sumN k _+_<=_;simp only at ih⊢;rw[Int.mul_add];constructor<;>omega
theorem qQc {l:List qB} (h:VSol l):0<=volT l/\volT l<=28800000000:=by
 have:=qCH h (Nat.le_refl _);have b:=(h.bd (Nat.le_refl _)).2;unfold volT;have:(1440000:Int)*lenTo l l.length<=1440000*20000:=Int.mul_le_mul_of_nonneg_left b (by omega);omega
theorem qNb {l:List qB} (h:VSol l):TZ l=some (volT l):=by
 have hl:=h.len;unfold TZ;rw[qLP,EC h];simp only[Option.bind_some];have k1:=JR l (λn (a:Int) x=>YM l n a x) (λx=>(x:Int)) (λ_ a s=>s+a.Len*LG a.Sec) (λs=>s) (λx s=>s=sumN x (λi=>(l.getD i default).Len*LG (l.getD i default).Sec)) (by omega)
  (λn x a hx hi=>by
   have p:=qCH h (k:=x) (by omega);have p':=qCH h (k:=x+1) (by omega);have b1:=(h.bd (i:=x) (by omega)).2;have b2:=(h.bd (i:=x+1) (by omega)).2;have vs:=(h.at hx).1;have ar:=qPk vs;have ln:=(h.at hx).2.2.1;have l2:(l.getD x default).Len<=20000:=by have:=wM l x;have:=(h.bd (i:=x) (by omega)).1;omega
   have pr:=Int.mul_le_mul l2 ar.2 ar.1 (by omega);have pn:=Int.mul_nonneg (show 0<=(l.getD x default).Len by omega) ar.1;refine⟨?_,by rw[hi];rfl⟩;rw[YM,decide_eq_true (show(x:Int)<_ by omega),qG (by omega) (by omega),qO (by omega)];simp only[cond_true,Int.toNat_natCast,Area_eq,Option.bind_some];rw[qIZ vs];rw[qD (n:=(l.getD x default).Len*LG (l.getD x default).Sec) (by omega) (by omega),qD (by omega) (by omega)])
  (λn a _=>by rw[YM];simp) (i:=0) rfl 0 rfl
 rw[k1.1,qC3 (λ_ (a:qB)=>a.Len*LG a.Sec),Int.zero_add];simp only[Option.bind_some,Nat.zero_add];rfl
end Go.SL.Saw

namespace Go.SL.Saw
theorem qSe {p:Product} (h:VP p):5<=(qP p).1/\(qP p).1<=721/\5<=(qP p).2/\(qP p).2<=600:=by
 have b:=qPq p;have g:=h.gr;have t:=h.th;have w:=h.wd;have a:=h.al;have e:okG p=true:=qHj.2 ⟨by omega,by omega,a⟩;have g1:=ED (n:=p.Thick) (a:=p.Allow) (by omega) (by omega) a.1 a.2;have g2:=ED (n:=p.Width) (a:=p.Allow) (by omega) (by omega) a.1 a.2;have eg:qP p=(CO p.Thick p.Allow,CO p.Width p.Allow):=by unfold qP;rw[e];rfl
 rw[eg] at b g⊢;simp only at b g⊢;omega
noncomputable def chkY (s:List qB) (d:List Defect) (p:List Product) (pt:Pattern) (w:Saw) (t:Rates):Int:=
 if TT s≠0 then TT s else if RN d≠0 then RN d else if qY p≠0 then qY p else if YQ w t≠0 then YQ w t else JO (bdCat p) pt w.Kerf
structure VY (s:List qB) (d:List Defect) (p:List Product) (pt:Pattern) (w:Saw) (t:Rates):Prop where
 sol:VSol s
 df:RN d=0
 pr:qY p=0
 vw:VW w t
 pat:JO (bdCat p) pt w.Kerf=0
theorem qMY (s:List qB) (d:List Defect) (p:List Product) (pt:Pattern) (w:Saw) (t:Rates):CT s d p pt w t=some (chkY s d p pt w t):=by
 unfold CT chkY;simp only[(OM s).1,qFh,SE,qE8,qQV,Option.bind_some];have k:∀(n:Int) (a b:Option Int),(bif n !=0 then a else b)=if n≠0 then a else b:=by
  intro n a b;by_cases h:n=0
  ·rw[h];rfl
  ·have:(n !=0)=true:=by simpa using h
   rw[this,if_pos h];rfl
 simp only[k];split
 ·rfl
 ·split
  ·rfl
  ·split
   ·rfl
   ·split<;>rfl
theorem qMQ {s:List qB} {d:List Defect} {p:List Product} {pt:Pattern} {w:Saw} {t:Rates}:chkY s d p pt w t=0↔VY s d p pt w t:=by
 unfold chkY;constructor
 ·intro h;split at h
  ·rename_i c;exact(c h).elim
  ·rename_i c1;split at h
   ·rename_i c;exact(c h).elim
   ·rename_i c2;split at h
    ·rename_i c;exact(c h).elim
    ·rename_i c3;split at h
     ·rename_i c;exact(c h).elim
     ·rename_i c4;exact⟨(VH s).1 (by simpa using c1),by simpa using c2,by simpa using c3,(JL w t).1 (by simpa using c4),h⟩
 ·rintro⟨h1,h2,h3,h4,h5⟩;rw[if_neg (by simpa using(VH s).2 h1),if_neg (by simpa using h2),if_neg (by simpa using h3),if_neg (by simpa using(JL w t).2 h4),h5]
variable {s :List qB} {d:List Defect} {p:List Product} {pt:Pattern} {w:Saw} {t:Rates}
theorem bd_any {p:List Product} (h:qY p=0) (r:Rect) (a:Int) (hb:bdCat p r a=0):bdAny r a=0:=by
 have hl:=VA (l:=p) (by simpa using h);unfold bdCat at hb;unfold bdAny;split at hb
 ·cases hb
 ·rw[if_neg (by omega)]
theorem VY.any (h:VY s d p pt w t):JO bdAny pt w.Kerf=0:=by
 have hz:=TL.1 h.pat;obtain⟨T,e1,e2⟩:=qPl hz.2.2.2;rw[TL];refine⟨hz.1,hz.2.1,hz.2.2.1,?_⟩;rw[e1];exact qRv (qJn (bd_any h.pr) e2)
theorem VY.tree (h:VY s d p pt w t):∃T,pt.Nodes=qQ T/\okT (bdCat p) w.Kerf T ⟨pt.Frame,1⟩/\lvP pt w.Kerf=lvT w.Kerf T ⟨pt.Frame,1⟩/\ctP pt w.Kerf=ctT w.Kerf T ⟨pt.Frame,1⟩:=by
 have hz:=TL.1 h.pat;obtain⟨T,e1,e2⟩:=qPl hz.2.2.2;refine⟨T,e1,e2,?_,?_⟩
 ·unfold lvP lvT;rw[e1,qEK HT w.Kerf _ (qCB e2)]
 ·unfold ctP ctT;rw[e1,qEK (cutG w.Kerf) w.Kerf _ (qCB e2)]
theorem VY.parts (h:VY s d p pt w t):Parts (bdCat p) pt.Frame (lvP pt w.Kerf) (ctP pt w.Kerf) 127:=by
 have hz:=TL.1 h.pat;obtain⟨T,e1,e2,e3,e4⟩:=h.tree;have q:=qMH hz.2.1 T _ e2 (VR_WR hz.1);rw[e3,e4];have hl:(qQ T).length<=127:=by rw[<-e1];exact hz.2.2.1
 exact⟨q.wl,q.wc,q.ap,by have:=q.ll;omega,by have:=q.lc;omega,q.sum⟩
def bdOf (s:List qB) (d:List Defect) (p:List Product) (step fine:Int) (i:Nat) (x:Leaf):List Yield_Cut:=
 if x.Product= -1 then[] else
  bif (bestR s d (p.getD x.Product.toNat default) x.Rect step fine).2.1 then[⟨(i:Int),x.Product,⟨x.Rect.X,x.Rect.Y,(bestR s d (p.getD x.Product.toNat default) x.Rect step fine).2.2⟩,(bestR s d (p.getD x.Product.toNat default) x.Rect step fine).1⟩] else[]
def bdsFrom (s:List qB) (d:List Defect) (p:List Product) (step fine:Int):Nat->List Leaf->List Yield_Cut
 |_,[]=>[]
 |i,x::l=>bdOf s d p step fine i x++bdsFrom s d p step fine (i+1) l
theorem qOE (step fine:Int) (i:Nat) (x:Leaf):(bdOf s d p step fine i x).length<=1:=by
 unfold bdOf;split
 ·simp
 ·cases (bestR s d (p.getD x.Product.toNat default) x.Rect step fine).2.1<;>simp
theorem qIr (step fine:Int):∀(l:List Leaf) (i:Nat),(bdsFrom s d p step fine i l).length<=l.length
 |[],_=>Nat.le_refl _
 |x::l,i=>by
  have:=qIr step fine l (i+1);have:=qOE (s:=s) (d:=d) (p:=p) step fine i x;simp[bdsFrom];omega
structure qHh (p:List Product) (x:Leaf):Prop where
 w:WR x.Rect
 b:x.Product= -1\/bdCat p x.Rect x.Product=0
theorem qRf {x:Leaf} (hp:qY p=0) (h:qHh p x) (hx:x.Product≠-1):0<=x.Product/\x.Product<(p.length:Int)/\VP (p.getD x.Product.toNat default)/\qY [p.getD x.Product.toNat default]=0/\VR x.Rect/\dimOk x.Rect (p.getD x.Product.toNat default)=true:=by
 have hb:=h.b.resolve_left hx;unfold bdCat at hb;split at hb
 ·cases hb
 ·rename_i c;have hd:dimOk x.Rect (p.getD x.Product.toNat default)=true:=by
   cases hh:dimOk x.Rect (p.getD x.Product.toNat default) with
   |true=>rfl
   |false=>rw[hh] at hb;cases hb
  have hi:x.Product.toNat<p.length:=by omega
  have hv:=qIy hp hi;refine⟨by omega,by omega,hv,qMI hp hi,?_,hd⟩;have g:=qSe hv;obtain⟨⟨x1,x2,x3⟩,y1,y2,y3⟩:=h.w;unfold dimOk at hd;simp only[Bool.or_eq_true,Bool.and_eq_true,beq_iff_eq] at hd;refine⟨⟨x1,?_,x3⟩,y1,?_,y3⟩<;>omega
theorem qSN (hs:VSol s) (hd:RN d=0) (hp:qY p=0) (hw:1<=w.Step/\w.Step<=20000) {fine:Int} (hf:0<=fine/\fine<=1000000) {lv:List Leaf} (hl:lv.length<=1000) (hg:∀x∈lv,qHh p x):
  DU s d p w fine lv []=some (0,bdsFrom s d p w.Step fine 0 lv):=by
 have key:∀(k i n:Nat) (acc:List Yield_Cut),i+k=lv.length->k<n->acc.length<=i->wE s d p w fine lv n (i:Int) acc=some (.inr (acc++bdsFrom s d p w.Step fine i (lv.drop i))):=by
  intro k
  induction k with
  |zero=>
   intro i n acc hi hn _;obtain⟨n,rfl⟩:∃m,n=m+1:=⟨n-1,by omega⟩
   unfold wE;rw[decide_eq_false (by omega),List.drop_eq_nil_of_le (by omega)];simp[bdsFrom]
  |succ k ih=>
   intro i n acc hi hn ha;obtain⟨n,rfl⟩:∃m,n=m+1:=⟨n-1,by omega⟩
   have hil:i<lv.length:=by omega
   unfold wE;rw[decide_eq_true (by omega),qG (by omega) (by omega),jP lv i hil];have hx:=hg _ (wK hil);unfold TG;rw[qO (by omega)];simp only[cond_true,Int.toNat_natCast,bdsFrom];unfold bdOf;by_cases c:(lv.getD i default).Product= -1
   ·have e:((lv.getD i default).Product != -1)=false:=by simpa using c
    rw[e,if_pos c,cond_false,ih (i+1) n acc (by omega) (by omega) (by omega)];rfl
   ·have e:((lv.getD i default).Product != -1)=true:=by simpa using c
    obtain⟨g1,g2,g3,g4,g5,_⟩:=qRf hp hx c;rw[e,if_neg c,cond_true];unfold qAn NB;rw[qG g1 g2,cond_true,qPX hs hd g4 g3 g5 hw hf];simp only[Option.bind_some];rw[qN (by omega) (by omega)];cases hb:(bestR s d (p.getD (lv.getD i default).Product.toNat default) (lv.getD i default).Rect w.Step fine).2.1 with
    |false=>
     simp only[cond_false,Option.bind_some];show wE s d p w fine lv n ((i+1:Nat):Int) acc=_;rw[ih (i+1) n acc (by omega) (by omega) (by omega)];rfl
    |true=>
     simp only[cond_true,Option.bind_some];show wE s d p w fine lv n ((i+1:Nat):Int) _=_;rw[ih (i+1) n _ (by omega) (by omega) (by simp;omega)];simp
 unfold DU;have e:=key lv.length 0 FUEL [] (by omega) (by rw[FUEL_eq];omega) (Nat.le_refl _);rw[show(0:Int)=((0:Nat):Int) from rfl,e];simp
def bds (s:List qB) (d:List Defect) (p:List Product) (pt:Pattern) (w:Saw) (fine:Int):List Yield_Cut:=bdsFrom s d p w.Step fine 0 (lvP pt w.Kerf)
theorem VW.fine0 (h:VW w t):VW w ⟨0,0,t.Fine⟩:=⟨h.kerf,h.trim,h.pitch,h.step,by simp,by simp,h.fine⟩
theorem qLK (h:VY s d p pt w t):∀x∈lvP pt w.Kerf,qHh p x:=λx hx=>⟨(h.parts.wl x hx).1,(h.parts.wl x hx).2.2⟩
theorem qTy (h:VY s d p pt w t):qB3 s d p pt w t.Fine=some (bds s d p pt w t.Fine,0):=by
 have hv:VY s d p pt w ⟨0,0,t.Fine⟩:=⟨h.sol,h.df,h.pr,h.vw.fine0,h.pat⟩
 unfold qB3;rw[qMY,qMQ.2 hv,qTC,if_pos h.any];simp only[Option.bind_some,bne_self_eq_false,cond_false];unfold qA9;simp only[Option.bind_some];rw[qSN h.sol h.df h.pr h.vw.step h.vw.fine (by have:=h.parts.ll;omega) (qLK h)];rfl
end Go.SL.Saw

namespace Go.SL.Saw
variable {s :List qB} {d:List Defect} {p:List Product} {pt:Pattern} {w:Saw} {t:Rates}
def qGU (z:Span) (trim:Int):Span:=⟨imax 0 (z.A-trim),z.A⟩
def qKk (z:Span) (trim len:Int):Span:=⟨z.B,imin (z.B+trim) len⟩
def brdV (s:List qB) (c:Yield_Cut):Int:=volS s c.Box.X c.Box.Y c.Box.Z
def trmV (s:List qB) (trim:Int) (c:Yield_Cut):Int:=volS s c.Box.X c.Box.Y (qGU c.Box.Z trim)+volS s c.Box.X c.Box.Y (qKk c.Box.Z trim (solLen s))
structure qJT (s:List qB) (c:Yield_Cut):Prop where
 z:0<=c.Box.Z.A/\c.Box.Z.A<c.Box.Z.B/\c.Box.Z.B<=solLen s
 wth:0<=c.Worth/\c.Worth<=1000000
theorem qOS (hp:qY p=0) {step fine:Int} (hf:0<=fine) {i:Nat} {x:Leaf} (hx:qHh p x) {c:Yield_Cut} (h:c∈bdOf s d p step fine i x):qJT s c/\c.Leaf=(i:Int)/\c.Box.X=x.Rect.X/\c.Box.Y=x.Rect.Y/\c.Product=x.Product/\x.Product≠-1:=by
 unfold bdOf at h;split at h
 ·exact(List.not_mem_nil h).elim
 ·rename_i c0;obtain⟨_,_,g3,_,_,_⟩:=qRf hp hx c0;have bi:=qPF (l:=s) (ds:=d) (p:=p.getD x.Product.toNat default) (r:=x.Rect) (step:=step) (fine:=fine) hf g3;cases hb:(bestR s d (p.getD x.Product.toNat default) x.Rect step fine).2.1 with
  |false=>rw[hb,cond_false] at h;exact(List.not_mem_nil h).elim
  |true=>
   rw[hb,cond_true] at h;simp at h;subst h;exact⟨⟨bi.2.2 hb,bi.1,bi.2.1⟩,rfl,rfl,rfl,rfl,c0⟩
theorem qRt (hp:qY p=0) {step fine:Int} (hf:0<=fine):∀{lv:List Leaf} {i:Nat},(∀x∈lv,qHh p x)->∀c∈bdsFrom s d p step fine i lv,qJT s c/\(i:Int)<=c.Leaf/\∃x∈lv,c.Box.X=x.Rect.X/\c.Box.Y=x.Rect.Y/\c.Product=x.Product/\x.Product≠-1
 |[],_,_,c,hc=>(List.not_mem_nil hc).elim
 |x::l,i,hg,c,hc=>by
  rcases List.mem_append.1 hc with hc|hc
  ·obtain⟨a,b,e⟩:=qOS hp hf (hg x List.mem_cons_self) hc;exact⟨a,by omega,x,List.mem_cons_self,e⟩
  ·obtain⟨a,b,y,hy,e⟩:=qRt hp hf (λy hy=>hg y (List.mem_cons_of_mem _ hy)) c hc;exact⟨a,by omega,y,List.mem_cons_of_mem _ hy,e⟩
def qCZ (s:List qB) (ct:List Rect):Int:=sumL (wholeR s) ct
theorem qJ6 {α:Type} (F:α->Int):∀(l:List α) (x:Nat) (s:Int),foldi (λ_ a s=>s+F a) x l s=s+sumL F l
 |[],_,s=>by simp[foldi,sumL]
 |a::l,x,s=>by
  show foldi _ (x+1) l (s+F a)=_;rw[qJ6 F l (x+1) (s+F a),yQ];omega
theorem qNk {α:Type} (F G H:α->Int):∀(l:List α) (x:Nat) (s:Int×Int×Int),foldi (λ_ a s=>(s.1+F a,s.2.1+G a,s.2.2+H a)) x l s=(s.1+sumL F l,s.2.1+sumL G l,s.2.2+sumL H l)
 |[],_,s=>by simp[foldi,sumL]
 |a::l,x,s=>by
  show foldi _ (x+1) l (s.1+F a,s.2.1+G a,s.2.2+H a)=_;rw[qNk F G H l (x+1) _,yQ,yQ,yQ];simp only[Int.add_assoc]
theorem qHq (h:VSol s) (r:Rect):0<=wholeR s r/\wholeR s r<=28800000000:=qBp h _ _ _
theorem qUH (hs:VSol s) {ct:List Rect} (hl:ct.length<=1000) (e v:Int):DK s (ct,e) (solLen s) v FUEL 0 0=some ⟨v,0,0,qCZ s ct,0⟩/\0<=qCZ s ct/\qCZ s ct<=28800000000*ct.length:=by
 have k1:=JR ct (λn (a:Int) x=>DK s (ct,e) (solLen s) v n x a) (λx=>(x:Int)) (λ_ a s'=>s'+wholeR s a) (λq=>(⟨v,0,0,q,0⟩:Yield)) (λx q=>0<=q/\q<=28800000000*(x:Int)) (by omega)
  (λn x a hx hi=>by
   have b:=qHq hs (ct.getD x default);refine⟨?_,by omega⟩;rw[DK,decide_eq_true (show(x:Int)<_ by simp only;omega),qG (by omega) (by simp only;omega),qO (by omega)];unfold NB;simp only[cond_true,Int.toNat_natCast,Option.bind_some,AQ hs];unfold wholeR at*;rw[qD (by omega) (by omega)])
  (λn a _=>by rw[DK];simp) (i:=0) rfl 0 (by omega)
 rw[qJ6 (wholeR s),Int.zero_add] at k1;exact⟨k1.1,k1.2⟩
theorem qUK (hs:VSol s) (ht:0<=w.Trim/\w.Trim<=20) {b:List Yield_Cut} (hl:b.length<=1000) (hg:∀c∈b,qJT s c) (e v dd:Int) (hd:0<=dd/\dd<=28800000000*1000):
  DO s w (b,e) (solLen s) ⟨v,0,0,dd,0⟩ FUEL 0 0 dd 0=some ⟨v,sumL (brdV s) b,0,dd+sumL (trmV s w.Trim) b,sumL (λc=>1000000*c.Worth) b⟩
   /\(0<=sumL (brdV s) b/\sumL (brdV s) b<=28800000000*b.length)/\(0<=sumL (trmV s w.Trim) b/\sumL (trmV s w.Trim) b<=57600000000*b.length)/\(0<=sumL (λc:Yield_Cut=>1000000*c.Worth) b/\sumL (λc:Yield_Cut=>1000000*c.Worth) b<=1000000000000*b.length):=by
 have sl:=qIV hs;have k1:=JR b (λn (q:Int×Int×Int) x=>DO s w (b,e) (solLen s) ⟨v,0,0,dd,0⟩ n x q.1 q.2.1 q.2.2) (λx=>(x:Int)) (λ_ a q=>(q.1+brdV s a,q.2.1+trmV s w.Trim a,q.2.2+1000000*a.Worth)) (λq=>(⟨v,q.1,0,q.2.1,q.2.2⟩:Yield))
  (λx q=>(0<=q.1/\q.1<=28800000000*(x:Int))/\(dd<=q.2.1/\q.2.1<=dd+57600000000*(x:Int))/\(0<=q.2.2/\q.2.2<=1000000000000*(x:Int))) (by omega)
  (λn x q hx hi=>by
   have b1:=qBp hs (b.getD x default).Box.X (b.getD x default).Box.Y (b.getD x default).Box.Z;have b2:=qBp hs (b.getD x default).Box.X (b.getD x default).Box.Y (qGU (b.getD x default).Box.Z w.Trim);have b3:=qBp hs (b.getD x default).Box.X (b.getD x default).Box.Y (qKk (b.getD x default).Box.Z w.Trim (solLen s));have g:=hg _ (wK hx);obtain⟨z1,z2,z3⟩:=g.z;have gw:=g.wth;have eb:brdV s (b.getD x default)=volS s (b.getD x default).Box.X (b.getD x default).Box.Y (b.getD x default).Box.Z:=rfl
   have et:trmV s w.Trim (b.getD x default)=volS s (b.getD x default).Box.X (b.getD x default).Box.Y (qGU (b.getD x default).Box.Z w.Trim)+volS s (b.getD x default).Box.X (b.getD x default).Box.Y (qKk (b.getD x default).Box.Z w.Trim (solLen s)):=rfl;refine⟨?_,by simp only;rw[eb,et];omega⟩;simp only;rw[DO,decide_eq_true (show(x:Int)<_ by simp only;omega),qG (by omega) (by simp only;omega),qO (by omega)];unfold NB;simp only[cond_true,Int.toNat_natCast,Option.bind_some,AQ hs]
   rw[qD (n:=(b.getD x default).Box.Z.A-w.Trim) (by omega) (by omega),qD (n:=(b.getD x default).Box.Z.B+w.Trim) (by omega) (by omega)];rw[eb,et];unfold qGU qKk at*;rw[qD (n:=1000000*(b.getD x default).Worth) (by omega) (by omega),qD (n:=q.1+_) (by omega) (by omega),qD (n:=q.2.1+_) (by omega) (by omega),qD (n:=q.2.1+_+_) (by omega) (by omega),qD (n:=q.2.2+_) (by omega) (by omega),Int.add_assoc])
  (λn q _=>by rw[DO];simp) (i:=0) rfl (0,dd,0) (by simp only;omega)
 rw[qNk (brdV s) (trmV s w.Trim) (λc=>1000000*c.Worth)] at k1;simp only[Int.zero_add] at k1;exact⟨k1.1,k1.2.1,by have:=k1.2.2.1;omega,k1.2.2.2⟩
def yB (s:List qB) (d:List Defect) (p:List Product) (pt:Pattern) (w:Saw) (fine:Int):Int:=sumL (brdV s) (bds s d p pt w fine)
def yD (s:List qB) (d:List Defect) (p:List Product) (pt:Pattern) (w:Saw) (fine:Int):Int:=qCZ s (ctP pt w.Kerf)+sumL (trmV s w.Trim) (bds s d p pt w fine)
def yW (s:List qB) (d:List Defect) (p:List Product) (pt:Pattern) (w:Saw) (fine:Int):Int:=sumL (λc:Yield_Cut=>1000000*c.Worth) (bds s d p pt w fine)
def yC (s:List qB) (d:List Defect) (p:List Product) (pt:Pattern) (w:Saw) (fine:Int):Int:=volT s-yB s d p pt w fine-yD s d p pt w fine
def qKS (s:List qB) (d:List Defect) (p:List Product) (pt:Pattern) (w:Saw) (t:Rates):Yield:=
 ⟨volT s,yB s d p pt w t.Fine,yC s d p pt w t.Fine,yD s d p pt w t.Fine,yW s d p pt w t.Fine+(t.Chip*yC s d p pt w t.Fine+t.Dust*yD s d p pt w t.Fine)⟩
theorem bds_len (h:VY s d p pt w t) (fine:Int):(bds s d p pt w fine).length<=127:=by
 have:=qIr (s:=s) (d:=d) (p:=p) w.Step fine (lvP pt w.Kerf) 0;have:=h.parts.ll;unfold bds;omega
theorem qUv (h:VY s d p pt w t):∀c∈bds s d p pt w t.Fine,qJT s c:=λc hc=>(qRt h.pr h.vw.fine.1 (qLK h) c hc).1
structure YBnd (s:List qB) (d:List Defect) (p:List Product) (pt:Pattern) (w:Saw) (fine:Int):Prop where
 nB:0<=yB s d p pt w fine/\yB s d p pt w fine<=28800000000*127
 nD:0<=yD s d p pt w fine/\yD s d p pt w fine<=28800000000*127+57600000000*127
 nW:0<=yW s d p pt w fine/\yW s d p pt w fine<=1000000000000*127
theorem Of_ok (h:VY s d p pt w t):qOU s d p pt w t=some (qKS s d p pt w t,0)/\YBnd s d p pt w t.Fine:=by
 have lb:=bds_len h t.Fine;have lc:=h.parts.lc;have ev:valL s=s:=EC h.sol;obtain⟨e1,c1,c2⟩:=qUH h.sol (ct:=ctP pt w.Kerf) (by omega) 0 (volT s);obtain⟨e2,b1,b2,b3⟩:=qUK (w:=w) h.sol h.vw.trim (b:=bds s d p pt w t.Fine) (by omega) (qUv h) 0 (volT s) (qCZ s (ctP pt w.Kerf)) (by omega);have bd:YBnd s d p pt w t.Fine:=⟨by unfold yB;omega,by unfold yD;omega,by unfold yW;omega⟩
 refine⟨?_,bd⟩;unfold qOU;rw[qMY,qMQ.2 h,qTy h,Cuts_eq,if_pos h.any,(qAC s).1,ev,qNb h.sol];simp only[Option.bind_some,bne_self_eq_false,cond_false,e1,e2];have bv:=qQc h.sol;have bb:=bd.nB;have b4:=bd.nD;have b5:=bd.nW;have eC:w64 (w64 (volT s-sumL (brdV s) (bds s d p pt w t.Fine))-(qCZ s (ctP pt w.Kerf)+sumL (trmV s w.Trim) (bds s d p pt w t.Fine)))=yC s d p pt w t.Fine:=by
  unfold yC yB yD at*;rw[qD (n:=volT s-_) (by omega) (by omega),qD (by omega) (by omega)]
 rw[eC];have hC: -28800000000*1000<=yC s d p pt w t.Fine/\yC s d p pt w t.Fine<=28800000000*1000:=by unfold yC;omega
 have m1:=WA (a:=t.Chip) (b:=yC s d p pt w t.Fine) (m:=1000) (n:=28800000000*1000) (by have:=h.vw.chip;omega) (by have:=h.vw.chip;omega) (by omega) hC.2 (by omega) (by omega);have m2:=WA (a:=t.Dust) (b:=yD s d p pt w t.Fine) (m:=1000) (n:=28800000000*1000) (by have:=h.vw.dust;omega) (by have:=h.vw.dust;omega) (by omega) (by omega) (by omega) (by omega);show some ((⟨volT s,yB s d p pt w t.Fine,_,yD s d p pt w t.Fine,w64 (yW s d p pt w t.Fine+w64 (w64 (t.Chip*yC s d p pt w t.Fine)+w64 (t.Dust*yD s d p pt w t.Fine)))⟩:Yield),(0:Int))=_
 rw[qD (n:=t.Chip*_) (by omega) (by omega),qD (n:=t.Dust*_) (by omega) (by omega),qD (n:=t.Chip*_+_) (by omega) (by omega),qD (by omega) (by omega)];rfl
end Go.SL.Saw

namespace Go.SL
namespace Saw
def mvX (dx:Int) (x:Span):Span:=⟨x.A+dx,x.B+dx⟩
def mvR (dx:Int) (r:Rect):Rect:=⟨mvX dx r.X,r.Y⟩
def mvD (dx:Int) (d:Defect):Defect:=⟨d.Kind,⟨mvX dx d.Box.X,d.Box.Y,d.Box.Z⟩⟩
theorem ml_mv (dx:Int) (x y:Span):ml (shS dx x) (mvX dx y)=ml x y:=by
 by_cases c:x.B<=x.A
 ·have e:empS x=true:=decide_eq_true c;rw[qTW _ (by rw[sh_emp];exact e),qTW _ e]
 ·have e:shS dx x=mvX dx x:=by unfold shS empS mvX;rw[decide_eq_false c];rfl
  rw[e,qGE,qGE];unfold mvX;have a1:=imin_or x.B y.B;have a2:=WU x.A y.A;have a3:=imin_or (x.B+dx) (y.B+dx);have a4:=WU (x.A+dx) (y.A+dx);simp only;split<;>split<;>omega
theorem emp_mv (dx:Int) (x y:Span):empS (mxS (mvX dx x) (mvX dx y))=empS (mxS x y):=by
 unfold mvX mxS empS;have a1:=imin_or x.B y.B;have a2:=WU x.A y.A;have a3:=imin_or (x.B+dx) (y.B+dx);have a4:=WU (x.A+dx) (y.A+dx);simp only;rw[decide_eq_decide];omega
theorem row_sh {s:qI} (dx:Int) (r:Int):row ⟨s.Low,s.Rows.map (shS dx)⟩ r=shS dx (row s r):=by
 have z:shS dx ⟨0,0⟩=⟨0,0⟩:=rfl;unfold row;simp only;by_cases c:r<s.Low
 ·rw[if_pos c,if_pos c,z]
 ·rw[if_neg c,if_neg c];by_cases k:(r-s.Low).toNat<s.Rows.length
  ·rw[List.getD_eq_getElem?_getD,List.getElem?_map,List.getD_eq_getElem?_getD,List.getElem?_eq_getElem k];rfl
  ·rw[qHk (by simpa using k),qHk (by omega)];rfl
theorem qSR (dx:Int) (s:qI) (x y:Span):zF ⟨s.Low,s.Rows.map (shS dx)⟩ (mvX dx x) y=zF s x y:=by
 unfold zF;exact qBl (λr _ _=>by rw[row_sh,ml_mv])
structure Mv (dx:Int) (l l':List qB):Prop where
 len:l'.length=l.length
 at':∀i,i<l.length->(l'.getD i default).Len=(l.getD i default).Len/\(l'.getD i default).Sec=⟨(l.getD i default).Sec.Low,(l.getD i default).Sec.Rows.map (shS dx)⟩
theorem Mv.lenTo {dx:Int} {l l':List qB} (h:Mv dx l l') {k:Nat} (hk:k<=l.length):lenTo l' k=lenTo l k:=by
 unfold Saw.lenTo;exact JI (λi hi=>(h.at' i (by omega)).1)
theorem Mv.solLen {dx:Int} {l l':List qB} (h:Mv dx l l'):solLen l'=solLen l:=by
 unfold Saw.solLen;rw[h.len,h.lenTo (Nat.le_refl _)]
theorem Mv.ext {dx:Int} {l l':List qB} (h:Mv dx l l') {i:Nat} (hi:i<l.length):Saw.ext l' i=Saw.ext l i:=by
 unfold Saw.ext;rw[h.lenTo (by omega),h.lenTo (by omega)]
theorem Mv.zones {dx:Int} {l l':List qB} (h:Mv dx l l') (r:Rect):zones l' (mvR dx r)=zones l r:=by
 unfold Saw.zones;rw[h.len];refine List.map_congr_left (λi hi=>?_);have hi':i<l.length:=by simpa using hi
 have a:TP (mvR dx r)=TP r:=by unfold TP mvR mvX;simp only;rw[show r.X.B+dx-(r.X.A+dx)=r.X.B-r.X.A by omega]
 have e:zF (l'.getD i default).Sec (mvR dx r).X (mvR dx r).Y=zF (l.getD i default).Sec r.X r.Y:=by
  rw[(h.at' i hi').2];exact qSR dx _ r.X r.Y
 rw[h.ext hi',e,a]
theorem qTl (dx:Int) (d b:Box):tch ⟨mvX dx d.X,d.Y,d.Z⟩ ⟨mvX dx b.X,b.Y,b.Z⟩=tch d b:=by
 unfold tch;rw[emp_mv]
theorem qM8 {α β:Type} [Inhabited α] [Inhabited β] (f:α->β) {l:List α} {i:Nat} (h:i<l.length):(l.map f).getD i default=f (l.getD i default):=by
 rw[List.getD_eq_getElem?_getD,List.getElem?_map,List.getD_eq_getElem?_getD,List.getElem?_eq_getElem h];rfl
theorem near_mv (dx:Int) (ds:List Defect) (b:Box):near (ds.map (mvD dx)) ⟨mvX dx b.X,b.Y,b.Z⟩=(near ds b).map (mvD dx):=by
 unfold near;have key:∀k,k<=ds.length->foldN (λi t=>bif tch ((ds.map (mvD dx)).getD i default).Box ⟨mvX dx b.X,b.Y,b.Z⟩ then t++[(ds.map (mvD dx)).getD i default] else t) 0 k ([]:List Defect)=(foldN (λi t=>bif tch (ds.getD i default).Box b then t++[ds.getD i default] else t) 0 k ([]:List Defect)).map (mvD dx):=by
  intro k
  induction k with
  |zero=>intro _;rfl
  |succ k ih=>
   intro hk;rw[XJ,XJ,ih (by omega),Nat.zero_add,qM8 _ (by omega),show tch (mvD dx (ds.getD k default)).Box ⟨mvX dx b.X,b.Y,b.Z⟩=tch (ds.getD k default).Box b from qTl dx _ b];cases tch (ds.getD k default).Box b with
   |true=>simp only[cond_true,List.map_append,List.map_cons,List.map_nil]
   |false=>rfl
 rw[List.length_map];exact key _ (Nat.le_refl _)
theorem qSS (dx:Int) (ds:List Defect) (b:Box) (fine v:Int):zaQ (ds.map (mvD dx)) ⟨mvX dx b.X,b.Y,b.Z⟩ fine v=zaQ ds b fine v:=by
 unfold zaQ;rw[List.length_map];have key:∀k x w,x+k=ds.length->runN (dstep (ds.map (mvD dx)) ⟨mvX dx b.X,b.Y,b.Z⟩ fine) x k w=runN (dstep ds b fine) x k w:=by
  intro k
  induction k with
  |zero=>intro x w _;rfl
  |succ k ih=>
   intro x w hx;have e:dstep (ds.map (mvD dx)) ⟨mvX dx b.X,b.Y,b.Z⟩ fine x w=dstep ds b fine x w:=by
    unfold dstep;rw[qM8 _ (by omega),show tch (mvD dx (ds.getD x default)).Box ⟨mvX dx b.X,b.Y,b.Z⟩=tch (ds.getD x default).Box b from qTl dx _ b];rfl
   unfold runN;rw[e];cases dstep ds b fine x w with
   |inl r=>rfl
   |inr s=>exact ih _ _ (by omega)
 rw[key _ 0 _ (by omega)]
theorem Mv.view {dx:Int} {l l':List qB} (h:Mv dx l l') (ds:List Defect) (p:Product) (r:Rect):RF l' (ds.map (mvD dx)) p (mvR dx r)=⟨p,mvR dx r,Saw.solLen l,Saw.zones l r,(near ds ⟨r.X,r.Y,⟨0,Saw.solLen l⟩⟩).map (mvD dx)⟩:=by
 unfold RF;rw[h.solLen,h.zones,<-near_mv];rfl
theorem Mv.worthV {dx:Int} {l l':List qB} (h:Mv dx l l') (ds:List Defect) (p:Product) (r:Rect) (s:Span) (fine:Int):worthV (RF l' (ds.map (mvD dx)) p (mvR dx r)) s fine=worthV (RF l ds p r) s fine:=by
 rw[h.view];unfold Saw.worthV;have e:∀v,zaQ ((near ds ⟨r.X,r.Y,⟨0,Saw.solLen l⟩⟩).map (mvD dx)) ⟨(mvR dx r).X,(mvR dx r).Y,s⟩ fine v=zaQ (near ds ⟨r.X,r.Y,⟨0,Saw.solLen l⟩⟩) ⟨r.X,r.Y,s⟩ fine v:=λv=>qSS dx _ ⟨r.X,r.Y,s⟩ fine v;simp only[e];rfl
theorem Mv.bestR {dx:Int} {l l':List qB} (h:Mv dx l l') (ds:List Defect) (p:Product) (r:Rect) (step fine:Int):bestR l' (ds.map (mvD dx)) p (mvR dx r) step fine=bestR l ds p r step fine:=by
 unfold Saw.bestR;have d:dimOk (mvR dx r) p=dimOk r p:=by unfold dimOk mvR mvX;simp only;rw[show r.X.B+dx-(r.X.A+dx)=r.X.B-r.X.A by omega]
 rw[d];cases dimOk r p with
 |false=>rfl
 |true=>
  simp only[cond_true];unfold bestV;have e1:(RF l' (ds.map (mvD dx)) p (mvR dx r)).length=(RF l ds p r).length:=h.solLen;rw[e1];refine HI (λk _ _ st=>?_);unfold qGG;refine HI (λi _ _ st=>?_);rw[show(RF l' (ds.map (mvD dx)) p (mvR dx r)).product=(RF l ds p r).product from rfl,h.worthV]
end Saw
end Go.SL

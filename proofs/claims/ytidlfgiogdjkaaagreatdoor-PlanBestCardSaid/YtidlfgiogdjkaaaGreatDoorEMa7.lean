import Derived.Test.YtidlfgiogdjkaaaGreatDoorEMa5
import Derived.Test.YtidlfgiogdjkaaaGreatDoorEMa6
set_option linter.unusedVariables false
set_option linter.unusedSimpArgs false
namespace Go.SL.Saw
def okS (bd:Rect->Int->Int) (kerf:Int):T->Rect->Prop
 | .leaf n,r=>ripB n.Kind=false/\chkN bd n ⟨r,1⟩=0
 | .rip n a b,r=>ripB n.Kind=true/\chkN bd n ⟨r,1⟩=0/\okS bd kerf a (fiP r n)/\okS bd kerf b (seP r n kerf)
def dT :T->Nat
 | .leaf _=>1
 | .rip _ a b=>1+max (dT a) (dT b)
theorem qIj :∀(t:T),2*dT t<=(qX t).length+1
 | .leaf _=>by simp[dT,qX]
 | .rip _ a b=>by
  have:=qIj a;have:=qIj b;have:=qEj a;have:=qEj b;simp only[dT,qX,List.length_cons,List.length_append];omega
theorem qPf {bd:Rect->Int->Int} {n:Node} {r:Rect} {l:Int} (h:chkN bd n ⟨r,1⟩=0) (hl:l<=64):chkN bd n ⟨r,l⟩=0:=by
 unfold chkN at h⊢;simp only at h⊢;split at h
 ·cases h
 ·rename_i c;rw[if_neg c,if_neg (by omega)];rw[if_neg (by omega)] at h;exact h
theorem qLd {bd:Rect->Int->Int} {kerf:Int}:∀{t:T} {r:Rect} {l:Int},okS bd kerf t r->l+dT t<=65->okT bd kerf t ⟨r,l⟩
 | .leaf n,r,l,h,hl=>⟨h.1,qPf h.2 (by simp only[dT] at hl;omega)⟩
 | .rip n a b,r,l,h,hl=>by
  simp only[dT] at hl;exact⟨h.1,qPf h.2.1 (by omega),qLd h.2.2.1 (by simp only;omega),qLd h.2.2.2 (by simp only;omega)⟩
theorem EI {bd:Rect->Int->Int} {kerf:Int}:∀{t:T} {r:Rect},okS bd kerf t r->FY t
 | .leaf _,_,h=>h.1
 | .rip _ _ _,_,h=>⟨h.1,EI h.2.2.1,EI h.2.2.2⟩
theorem qO6 {bd:Rect->Int->Int} {kerf:Int} {t:T} {r:Rect} (h:okS bd kerf t r) (hl:(qX t).length<=127):chkP bd kerf (qX t) [⟨r,1⟩]=0:=
 qQZ (qLd h (by have:=qIj t;omega))
abbrev Pq :=Span×T
def rowT (axis kerf B:Int):Int->List Pq->T
 |_,[]=> .leaf ⟨0,0⟩
 |e,x::r=>
  if x.1.A>e then .rip ⟨axis,x.1.A-kerf⟩ (.leaf ⟨0,0⟩) (if x.1.B<B then .rip ⟨axis,x.1.B⟩ x.2 (rowT axis kerf B (imin (x.1.B+kerf) B) r) else x.2)
  else if x.1.B<B then .rip ⟨axis,x.1.B⟩ x.2 (rowT axis kerf B (imin (x.1.B+kerf) B) r) else x.2
def ptP (x:Pq):Pt:=(x.1,qX x.2)
theorem ER (axis kerf B:Int):∀(L:List Pq) (e:Int),goodL kerf B e (L.map ptP)->qX (rowT axis kerf B e L)=(rowB axis kerf B e (L.map ptP)).1++(if(rowB axis kerf B e (L.map ptP)).2 then[] else[⟨0,0⟩])
 |[],e,_=>rfl
 |x::r,e,h=>by
  obtain⟨h1,h2,h3,h4⟩:=h;rw[List.map_cons,PU];unfold rowT;by_cases c:x.1.B<B
  ·have c':(ptP x).1.B<B:=c;rw[if_pos c'] at h4;have ih:=ER axis kerf B r (imin (x.1.B+kerf) B) h4;rw[if_pos c,if_pos c'];by_cases ca:x.1.A>e
   ·rw[if_pos ca,if_pos (show(ptP x).1.A>e from ca)];simp only[qX,ih];simp[ptP];rfl
   ·rw[if_neg ca,if_neg (show¬(ptP x).1.A>e from ca)];simp only[qX,ih];simp[ptP];rfl
  ·have c':¬(ptP x).1.B<B:=c;rw[if_neg c,if_neg c'];by_cases ca:x.1.A>e
   ·rw[if_pos ca,if_pos (show(ptP x).1.A>e from ca)];simp[qX,ptP]
   ·rw[if_neg ca,if_neg (show¬(ptP x).1.A>e from ca)];simp[ptP]
theorem qNL (R:Rect) (k:Int) (s:Span):alP (wiP R k s) k=s:=by unfold alP wiP;cases k==2<;>rfl
theorem wi_wi (R:Rect) (k:Int) (s u:Span):wiP (wiP R k s) k u=wiP R k u:=by unfold wiP;cases k==2<;>rfl
theorem qNO (R:Rect) (k at_:Int) (s:Span):fiP (wiP R k s) ⟨k,at_⟩=wiP R k ⟨s.A,at_⟩:=by unfold fiP;simp only[qNL,wi_wi]
theorem en_wi (R:Rect) (k at_ kerf:Int) (s:Span) (h: -1000<=at_/\at_<=1000) (hk:0<=kerf/\kerf<=20):enP (wiP R k s) ⟨k,at_⟩ kerf=imin (at_+kerf) s.B:=by
 unfold enP;simp only[qNL];rw[qF (by omega) (by omega)]
theorem cu_wi (R:Rect) (k at_ kerf:Int) (s:Span) (h: -1000<=at_/\at_<=1000) (hk:0<=kerf/\kerf<=20):cuP (wiP R k s) ⟨k,at_⟩ kerf=wiP R k ⟨at_,imin (at_+kerf) s.B⟩:=by
 unfold cuP;rw[en_wi R k at_ kerf s h hk];simp only[wi_wi]
theorem qHd (R:Rect) (k at_ kerf:Int) (s:Span) (h: -1000<=at_/\at_<=1000) (hk:0<=kerf/\kerf<=20):seP (wiP R k s) ⟨k,at_⟩ kerf=wiP R k ⟨imin (at_+kerf) s.B,s.B⟩:=by
 unfold seP;rw[en_wi R k at_ kerf s h hk];simp only[wi_wi,qNL]
theorem qOj {bd:Rect->Int->Int} {R:Rect} {k at_:Int} {s:Span} (hk:k=2\/k=3) (h:s.A<at_/\at_<s.B):ripB k=true/\chkN bd ⟨k,at_⟩ ⟨wiP R k s,1⟩=0:=by
 have hr:ripB k=true:=ripB_iff.2 hk;refine⟨hr,?_⟩;unfold chkN;simp only[qNL];rw[if_neg (by omega),if_neg (by omega),if_neg (by omega),if_neg (by omega)]
theorem qJB {bd:Rect->Int->Int} (r:Rect):ripB 0=false/\chkN bd ⟨0,0⟩ ⟨r,1⟩=0:=by
 refine⟨rfl,?_⟩;unfold chkN;simp[ripB]
theorem qKW {bd:Rect->Int->Int} {kerf axis B:Int} {R:Rect} (ha:axis=2\/axis=3) (hk:0<=kerf/\kerf<=20) (hB:B<=600):∀(L:List Pq) (e:Int),-600<=e->e<=B->goodL kerf B e (L.map ptP)->(∀x∈L,okS bd kerf x.2 (wiP R axis x.1))->okS bd kerf (rowT axis kerf B e L) (wiP R axis ⟨e,B⟩)
 |[],e,_,_,_,_=>qJB _
 |x::r,e,he,heB,h,hx=>by
  obtain⟨h1,h2,h3,h4⟩:=h;have h1':x.1.A<x.1.B:=h1;have h2':x.1.A=e\/e+kerf+1<=x.1.A:=h2;have h3':x.1.B<=B:=h3;have o1:=hx x List.mem_cons_self;have inner:okS bd kerf (if x.1.B<B then .rip ⟨axis,x.1.B⟩ x.2 (rowT axis kerf B (imin (x.1.B+kerf) B) r) else x.2) (wiP R axis ⟨x.1.A,B⟩):=by
   by_cases c:x.1.B<B
   ·rw[if_pos c];rw[if_pos (show(ptP x).1.B<B from c)] at h4;obtain⟨r1,r2⟩:=qOj (bd:=bd) (R:=R) (at_:=x.1.B) (s:=⟨x.1.A,B⟩) ha ⟨h1',c⟩;have mm:=imin_or (x.1.B+kerf) B;refine⟨r1,r2,?_,?_⟩
    ·rw[qNO];exact o1
    ·rw[qHd R axis x.1.B kerf ⟨x.1.A,B⟩ (by omega) hk];exact qKW ha hk hB r _ (by omega) (by omega) h4 λy hy=>hx y (List.mem_cons_of_mem _ hy)
   ·rw[if_neg c];have:x.1.B=B:=by omega
    have e2:(⟨x.1.A,B⟩:Span)=x.1:=by rw[<-this]
    rw[e2];exact o1
  unfold rowT;by_cases ca:x.1.A>e
  ·rw[if_pos ca];obtain⟨r1,r2⟩:=qOj (bd:=bd) (R:=R) (at_:=x.1.A-kerf) (s:=⟨e,B⟩) ha ⟨by simp only;omega,by simp only;omega⟩;refine⟨r1,r2,qJB _,?_⟩;rw[qHd R axis (x.1.A-kerf) kerf ⟨e,B⟩ (by omega) hk];have mm:=imin_or (x.1.A-kerf+kerf) B;rw[show imin (x.1.A-kerf+kerf) B=x.1.A by omega];exact inner
  ·rw[if_neg ca];have:x.1.A=e:=by omega
   rw[<-this];exact inner
def tv (φ:Leaf->Int) (κ:Rect->Int) (kerf:Int) (t:T) (r:Rect):Int:=sumL φ (lvT kerf t ⟨r,1⟩)+sumL κ (ctT kerf t ⟨r,1⟩)
theorem EU (kerf:Int):∀(T:T) (r:Rect) (l m:Int),lvT kerf T ⟨r,l⟩=lvT kerf T ⟨r,m⟩/\ctT kerf T ⟨r,l⟩=ctT kerf T ⟨r,m⟩
 | .leaf n,r,l,m=>⟨rfl,rfl⟩
 | .rip n a b,r,l,m=>by
  have a1:=EU kerf a (fiP r n) (l+1) (m+1);have b1:=EU kerf b (seP r n kerf) (l+1) (m+1);unfold lvT ctT at*;simp only[allT];rw[a1.1,a1.2,b1.1,b1.2];exact⟨rfl,rfl⟩
theorem qS3 (φ:Leaf->Int) (κ:Rect->Int) {kerf:Int} {n:Node} (hr:ripB n.Kind=true) (a b:T) (r:Rect):tv φ κ kerf (.rip n a b) r=κ (cuP r n kerf)+tv φ κ kerf a (fiP r n)+tv φ κ kerf b (seP r n kerf):=by
 unfold tv;rw[(qBN hr).1,(qBN hr).2,FH,QA,FH];simp only;rw[(EU kerf a (fiP r n) (1+1) 1).1,(EU kerf a (fiP r n) (1+1) 1).2,(EU kerf b (seP r n kerf) (1+1) 1).1,(EU kerf b (seP r n kerf) (1+1) 1).2];omega
theorem qOU (φ:Leaf->Int) (κ:Rect->Int) (kerf:Int) (r:Rect):tv φ κ kerf (.leaf ⟨0,0⟩) r=φ ⟨r,-1⟩:=by
 unfold tv lvT ctT allT TR cutG;simp[sumL,ripB]
theorem qPI (φ:Leaf->Int) (κ:Rect->Int) (kerf at_:Int) (r:Rect):tv φ κ kerf (.leaf ⟨1,at_⟩) r=φ ⟨r,at_⟩:=by
 unfold tv lvT ctT allT TR cutG;simp[sumL,ripB]
def rowV (φ:Leaf->Int) (κ:Rect->Int) (axis kerf:Int) (R:Rect) (B:Int):Int->List Pq->Int
 |e,[]=>φ ⟨wiP R axis ⟨e,B⟩,-1⟩
 | e,x::r=>(if x.1.A>e then φ ⟨wiP R axis ⟨e,x.1.A-kerf⟩,-1⟩+κ (wiP R axis ⟨x.1.A-kerf,x.1.A⟩) else 0)+tv φ κ kerf x.2 (wiP R axis x.1)
   +(if x.1.B<B then κ (wiP R axis ⟨x.1.B,imin (x.1.B+kerf) B⟩)+rowV φ κ axis kerf R B (imin (x.1.B+kerf) B) r else 0)
theorem qJ0 (φ:Leaf->Int) (κ:Rect->Int) {kerf axis B:Int} {R:Rect} (ha:axis=2\/axis=3) (hk:0<=kerf/\kerf<=20) (hB:B<=600):∀(L:List Pq) (e:Int),-600<=e->e<=B->goodL kerf B e (L.map ptP)->tv φ κ kerf (rowT axis kerf B e L) (wiP R axis ⟨e,B⟩)=rowV φ κ axis kerf R B e L
 |[],e,_,_,_=>qOU _ _ _ _
 |x::r,e,he,heB,h=>by
  obtain⟨h1,h2,h3,h4⟩:=h;have h1':x.1.A<x.1.B:=h1;have h2':x.1.A=e\/e+kerf+1<=x.1.A:=h2;have h3':x.1.B<=B:=h3;have hr:ripB axis=true:=ripB_iff.2 ha;have inner:tv φ κ kerf (if x.1.B<B then .rip ⟨axis,x.1.B⟩ x.2 (rowT axis kerf B (imin (x.1.B+kerf) B) r) else x.2) (wiP R axis ⟨x.1.A,B⟩)=tv φ κ kerf x.2 (wiP R axis x.1)+(if x.1.B<B then κ (wiP R axis ⟨x.1.B,imin (x.1.B+kerf) B⟩)+rowV φ κ axis kerf R B (imin (x.1.B+kerf) B) r else 0):=by
   by_cases c:x.1.B<B
   ·rw[if_pos c,if_pos c];rw[if_pos (show(ptP x).1.B<B from c)] at h4;have mm:=imin_or (x.1.B+kerf) B;rw[qS3 φ κ (n:=⟨axis,x.1.B⟩) hr,cu_wi R axis x.1.B kerf ⟨x.1.A,B⟩ (by omega) hk,qNO,qHd R axis x.1.B kerf ⟨x.1.A,B⟩ (by omega) hk];have ih:=qJ0 φ κ (R:=R) ha hk hB r (imin (x.1.B+kerf) B) (by omega) (by omega) h4;simp only;rw[ih];rw[show(⟨x.1.A,x.1.B⟩:Span)=x.1 from rfl];omega
   ·rw[if_neg c,if_neg c];have:x.1.B=B:=by omega
    have e2:(⟨x.1.A,B⟩:Span)=x.1:=by rw[<-this]
    rw[e2,Int.add_zero]
  unfold rowT rowV;by_cases ca:x.1.A>e
  ·rw[if_pos ca,if_pos ca,qS3 φ κ (n:=⟨axis,x.1.A-kerf⟩) hr,cu_wi R axis (x.1.A-kerf) kerf ⟨e,B⟩ (by omega) hk,qNO,qHd R axis (x.1.A-kerf) kerf ⟨e,B⟩ (by omega) hk,qOU];have mm:=imin_or (x.1.A-kerf+kerf) B;simp only;rw[show imin (x.1.A-kerf+kerf) B=x.1.A by omega,inner];omega
  ·rw[if_neg ca,if_neg ca];have:x.1.A=e:=by omega
   rw[<-this,inner];omega
end Go.SL.Saw
namespace Go.SL.Saw
theorem qSX (s:qK) {A m B:Int} (y:Span) (h1:A<=m) (h2:m<=B):zG s ⟨A,m⟩ y+zG s ⟨m,B⟩ y=zG s ⟨A,B⟩ y:=by
 unfold zG;rw[<-qIq];refine qBj (λr _ _=>?_);rw[<-qJR (row s r) h1 h2,Int.add_mul]
theorem qTA (s:qK) {A m B:Int} (x:Span) (h1:A<=m) (h2:m<=B):zG s x ⟨A,m⟩+zG s x ⟨m,B⟩=zG s x ⟨A,B⟩:=by
 unfold zG;rw[<-qIq];refine qBj (λr _ _=>?_);rw[<-qJR (hgt r) h1 h2,Int.mul_add]
theorem vol_aX (l:List qB) {A m B:Int} (y z:Span) (h1:A<=m) (h2:m<=B):volS l ⟨A,m⟩ y z+volS l ⟨m,B⟩ y z=volS l ⟨A,B⟩ y z:=by
 unfold volS;rw[<-qBB];refine yJ (λi _=>?_);rw[<-qSX _ y h1 h2,Int.mul_add]
theorem vol_aY (l:List qB) {A m B:Int} (x z:Span) (h1:A<=m) (h2:m<=B):volS l x ⟨A,m⟩ z+volS l x ⟨m,B⟩ z=volS l x ⟨A,B⟩ z:=by
 unfold volS;rw[<-qBB];refine yJ (λi _=>?_);rw[<-qTA _ x h1 h2,Int.mul_add]
theorem qKh (l:List qB) {A m B:Int} (x y:Span) (h1:A<=m) (h2:m<=B):volS l x y ⟨A,m⟩+volS l x y ⟨m,B⟩=volS l x y ⟨A,B⟩:=by
 unfold volS;rw[<-qBB];refine yJ (λi _=>?_);rw[<-qJR (ext l i) h1 h2,Int.add_mul]
theorem qKU (l:List qB) (x y z:Span):0<=volS l x y z:=by
 unfold volS;have:=qMg (n:=l.length) (f:=λ_=>0) (g:=λi=>ml (ext l i) z*zG (l.getD i default).Sec x y) (λi _=>Int.mul_nonneg (qCM _ _) (qCy _ _ _));rw[qAl (λ_ _=>rfl)] at this;exact this
theorem qT9 (l:List qB) (x y:Span) {A B:Int} (h:B<=A):volS l x y ⟨A,B⟩=0:=by
 unfold volS;refine qAl (λi _=>?_);have:ml (ext l i) ⟨A,B⟩=0:=by
  rw[qF1];have a1:=imin_or (ext l i).B B;have a2:=JA (ext l i).A A;simp only;split<;>omega
 rw[this,Int.zero_mul]
theorem qUI (l:List qB) (x y:Span) {A B C D:Int} (h1:C<=A) (h2:B<=D):volS l x y ⟨A,B⟩<=volS l x y ⟨C,D⟩:=by
 by_cases h:A<=B
 ·have e1:=qKh l x y h1 h;have e2:=qKh l x y (show C<=B by omega) h2;have:=qKU l x y ⟨C,A⟩;have:=qKU l x y ⟨B,D⟩;omega
 ·rw[qT9 l x y (by omega)];exact qKU _ _ _ _
def wholeR (l:List qB) (r:Rect):Int:=volS l r.X r.Y ⟨0,solLen l⟩
theorem EF (l:List qB):AddR (wholeR l):=⟨λy h1 h2=>vol_aX l y _ h1 h2,λx h1 h2=>vol_aY l x _ h1 h2⟩
theorem qEG (l:List qB) (r:Rect):0<=wholeR l r:=qKU _ _ _ _
def volT (l:List qB):Int:=sumN l.length (λi=>(l.getD i default).Len*LH (l.getD i default).Sec)
theorem qIQ {l:List qB} (h:VSol l) (r:Rect):wholeR l r<=volT l:=by
 unfold wholeR volS volT;refine qMg (λi hi=>?_);have hlen:=qQW h hi;have h1:=qJY (ext l i) ⟨0,solLen l⟩;rw[hlen] at h1;have h2:=qGs (l.getD i default).Sec r.X r.Y;have h3:=qCy (l.getD i default).Sec r.X r.Y;have h4:=qCM (ext l i) ⟨0,solLen l⟩;have h5:=(h.at hi).2.2.1;exact Int.mul_le_mul h1 h2 h3 (by omega)
theorem Area_eq (s:qK):FQ s=some (LH (CU s)):=by
 have h:=qOx s;unfold FQ;rw[qOd s];simp only[Option.bind_some];generalize CU s=t at*;have b:=h.len;have k1:=VU t.Rows (λn (a:Int) x=>YL t n a x) (λx=>(x:Int)) (λ_ a s=>s+lenS a) (λs=>s) (λx s=>0<=s/\s<=1200*(x:Int)) (by omega)
  (λn x a hx hi=>by
   have l:=h.len_b hx;refine⟨?_,by omega⟩;rw[YL,decide_eq_true (show(x:Int)<_ by omega),qL (by omega) (by omega),qP (by omega)];simp only[cond_true,Int.toNat_natCast];rw[HF (by omega)];simp only[Option.bind_some];rw[qF (by omega) (by omega)])
  (λn a _=>by rw[YL];simp) (i:=0) rfl 0 (by omega)
 rw[qCW (λ_ a=>lenS a)] at k1;have e:=qPn h (λ_ a=>lenS a) (λ_=>rfl);rw[e,Int.zero_add] at k1;rw[k1.1];simp only[Option.bind_some];unfold LH;have:=k1.2;rw[qF (by omega) (by omega)]
theorem qCj {l:List qB} (h:VSol l):∀{k:Nat},k<=l.length->0<=sumN k (λi=>(l.getD i default).Len*LH (l.getD i default).Sec)/\sumN k (λi=>(l.getD i default).Len*LH (l.getD i default).Sec)<=1440000*lenTo l k
 |0,_=>by simp[sumN,lenTo]
 |k+1,hk=>by
  have ih:=qCj h (k:=k) (by omega);have a:=qOB (h.at (i:=k) (by omega)).1;have b:=(h.at (i:=k) (by omega)).2.2.1;have c:=Int.mul_le_mul_of_nonneg_left a.2 (show 0<=(l.getD k default).Len by omega);have d:=Int.mul_nonneg (show 0<=(l.getD k default).Len by omega) a.1;rw[wJ];show 0<=sumN k _+_/\sumN k _+_<=_;simp only at ih⊢;rw[Int.mul_add];constructor<;>omega
theorem qOP {l:List qB} (h:VSol l):0<=volT l/\volT l<=28800000000:=by
 have:=qCj h (Nat.le_refl _);have b:=(h.bd (Nat.le_refl _)).2;unfold volT;have:(1440000:Int)*lenTo l l.length<=1440000*20000:=Int.mul_le_mul_of_nonneg_left b (by omega);omega
theorem qMM {l:List qB} (h:VSol l):UN l=some (volT l):=by
 have hl:=h.len;unfold UN;rw[qLs,ED h];simp only[Option.bind_some];have k1:=VU l (λn (a:Int) x=>YO l n a x) (λx=>(x:Int)) (λ_ a s=>s+a.Len*LH a.Sec) (λs=>s) (λx s=>s=sumN x (λi=>(l.getD i default).Len*LH (l.getD i default).Sec)) (by omega)
  (λn x a hx hi=>by
   have p:=qCj h (k:=x) (by omega);have p':=qCj h (k:=x+1) (by omega);have b1:=(h.bd (i:=x) (by omega)).2;have b2:=(h.bd (i:=x+1) (by omega)).2;have vs:=(h.at hx).1;have ar:=qOB vs;have ln:=(h.at hx).2.2.1;have l2:(l.getD x default).Len<=20000:=by have:=wJ l x;have:=(h.bd (i:=x) (by omega)).1;omega
   have pr:=Int.mul_le_mul l2 ar.2 ar.1 (by omega);have pn:=Int.mul_nonneg (show 0<=(l.getD x default).Len by omega) ar.1;refine⟨?_,by rw[hi];rfl⟩;rw[YO,decide_eq_true (show(x:Int)<_ by omega),qL (by omega) (by omega),qP (by omega)];simp only[cond_true,Int.toNat_natCast,Area_eq,Option.bind_some];rw[qJe vs];rw[qF (n:=(l.getD x default).Len*LH (l.getD x default).Sec) (by omega) (by omega),qF (by omega) (by omega)])
  (λn a _=>by rw[YO];simp) (i:=0) rfl 0 rfl
 rw[k1.1,qCW (λ_ (a:qB)=>a.Len*LH a.Sec),Int.zero_add];simp only[Option.bind_some,Nat.zero_add];rfl
end Go.SL.Saw
namespace Go.SL.Saw
theorem qR4 {p:Product} (h:VP p):5<=(qN p).1/\(qN p).1<=721/\5<=(qN p).2/\(qN p).2<=600:=by
 have b:=qOV p;have g:=h.gr;have t:=h.th;have w:=h.wd;have a:=h.al;have e:okG p=true:=qG1.2 ⟨by omega,by omega,a⟩;have g1:=SY (n:=p.Thick) (a:=p.Allow) (by omega) (by omega) a.1 a.2;have g2:=SY (n:=p.Width) (a:=p.Allow) (by omega) (by omega) a.1 a.2;have eg:qN p=(CS p.Thick p.Allow,CS p.Width p.Allow):=by unfold qN;rw[e];rfl
 rw[eg] at b g⊢;simp only at b g⊢;omega
noncomputable def chkY (s:List qB) (d:List Defect) (p:List Product) (pt:Pattern) (w:Saw) (t:Rates):Int:=
 if TP s≠0 then TP s else if PT d≠0 then PT d else if zO p≠0 then zO p else if BK w t≠0 then BK w t else YB (bdCat p) pt w.Kerf
structure VY (s:List qB) (d:List Defect) (p:List Product) (pt:Pattern) (w:Saw) (t:Rates):Prop where
 sol:VSol s
 df:PT d=0
 pr:zO p=0
 vw:VW w t
 pat:YB (bdCat p) pt w.Kerf=0
theorem qMw (s:List qB) (d:List Defect) (p:List Product) (pt:Pattern) (w:Saw) (t:Rates):DY s d p pt w t=some (chkY s d p pt w t):=by
 unfold DY chkY;simp only[(OO s).1,qEa,SE,qEw,qQB,Option.bind_some];have k:∀(n:Int) (a b:Option Int),(bif n !=0 then a else b)=if n≠0 then a else b:=by
  intro n a b;by_cases h:n=0
  ·rw[h];rfl
  ·have:(n !=0)=true:=by simpa using h
   rw[this,if_pos h];rfl
 simp only[k];split
 ·rfl
 ·split
  ·rfl
  ·split
   ·rfl
   ·split<;>rfl
theorem qM9 {s:List qB} {d:List Defect} {p:List Product} {pt:Pattern} {w:Saw} {t:Rates}:chkY s d p pt w t=0↔VY s d p pt w t:=by
 unfold chkY;constructor
 ·intro h;split at h
  ·rename_i c;exact(c h).elim
  ·rename_i c1;split at h
   ·rename_i c;exact(c h).elim
   ·rename_i c2;split at h
    ·rename_i c;exact(c h).elim
    ·rename_i c3;split at h
     ·rename_i c;exact(c h).elim
     ·rename_i c4;exact⟨(GU s).1 (by simpa using c1),by simpa using c2,by simpa using c3,(DF w t).1 (by simpa using c4),h⟩
 ·rintro⟨h1,h2,h3,h4,h5⟩;rw[if_neg (by simpa using(GU s).2 h1),if_neg (by simpa using h2),if_neg (by simpa using h3),if_neg (by simpa using(DF w t).2 h4),h5]
variable {s :List qB} {d:List Defect} {p:List Product} {pt:Pattern} {w:Saw} {t:Rates}
theorem bd_any {p:List Product} (h:zO p=0) (r:Rect) (a:Int) (hb:bdCat p r a=0):bdAny r a=0:=by
 have hl:=EG (l:=p) (by simpa using h);unfold bdCat at hb;unfold bdAny;split at hb
 ·cases hb
 ·rw[if_neg (by omega)]
theorem VY.any (h:VY s d p pt w t):YB bdAny pt w.Kerf=0:=by
 have hz:=XM.1 h.pat;obtain⟨T,e1,e2⟩:=qPO hz.2.2.2;rw[XM];refine⟨hz.1,hz.2.1,hz.2.2.1,?_⟩;rw[e1];exact qQZ (qIO (bd_any h.pr) e2)
theorem VY.tree (h:VY s d p pt w t):∃T,pt.Nodes=qX T/\okT (bdCat p) w.Kerf T ⟨pt.Frame,1⟩/\lvP pt w.Kerf=lvT w.Kerf T ⟨pt.Frame,1⟩/\ctP pt w.Kerf=ctT w.Kerf T ⟨pt.Frame,1⟩:=by
 have hz:=XM.1 h.pat;obtain⟨T,e1,e2⟩:=qPO hz.2.2.2;refine⟨T,e1,e2,?_,?_⟩
 ·unfold lvP lvT;rw[e1,IZ TR w.Kerf _ (qCq e2)]
 ·unfold ctP ctT;rw[e1,IZ (cutG w.Kerf) w.Kerf _ (qCq e2)]
theorem VY.parts (h:VY s d p pt w t):Parts (bdCat p) pt.Frame (lvP pt w.Kerf) (ctP pt w.Kerf) 127:=by
 have hz:=XM.1 h.pat;obtain⟨T,e1,e2,e3,e4⟩:=h.tree;have q:=qL2 hz.2.1 T _ e2 (VR_WR hz.1);rw[e3,e4];have hl:(qX T).length<=127:=by rw[<-e1];exact hz.2.2.1
 exact⟨q.wl,q.wc,q.ap,by have:=q.ll;omega,by have:=q.lc;omega,q.sum⟩
def bdOf (s:List qB) (d:List Defect) (p:List Product) (step fine:Int) (i:Nat) (x:Leaf):List Yield_Cut:=
 if x.Product= -1 then[] else
  bif (bestR s d (p.getD x.Product.toNat default) x.Rect step fine).2.1 then[⟨(i:Int),x.Product,⟨x.Rect.X,x.Rect.Y,(bestR s d (p.getD x.Product.toNat default) x.Rect step fine).2.2⟩,(bestR s d (p.getD x.Product.toNat default) x.Rect step fine).1⟩] else[]
def bdsFrom (s:List qB) (d:List Defect) (p:List Product) (step fine:Int):Nat->List Leaf->List Yield_Cut
 |_,[]=>[]
 |i,x::l=>bdOf s d p step fine i x++bdsFrom s d p step fine (i+1) l
theorem qI7 (step fine:Int) (i:Nat) (x:Leaf):(bdOf s d p step fine i x).length<=1:=by
 unfold bdOf;split
 ·simp
 ·cases (bestR s d (p.getD x.Product.toNat default) x.Rect step fine).2.1<;>simp
theorem qH5 (step fine:Int):∀(l:List Leaf) (i:Nat),(bdsFrom s d p step fine i l).length<=l.length
 |[],_=>Nat.le_refl _
 |x::l,i=>by
  have:=qH5 step fine l (i+1);have:=qI7 (s:=s) (d:=d) (p:=p) step fine i x;simp[bdsFrom];omega
structure qG0 (p:List Product) (x:Leaf):Prop where
 w:WR x.Rect
 b:x.Product= -1\/bdCat p x.Rect x.Product=0
theorem qQI {x:Leaf} (hp:zO p=0) (h:qG0 p x) (hx:x.Product≠-1):0<=x.Product/\x.Product<(p.length:Int)/\VP (p.getD x.Product.toNat default)/\zO [p.getD x.Product.toNat default]=0/\VR x.Rect/\dimOk x.Rect (p.getD x.Product.toNat default)=true:=by
 have hb:=h.b.resolve_left hx;unfold bdCat at hb;split at hb
 ·cases hb
 ·rename_i c;have hd:dimOk x.Rect (p.getD x.Product.toNat default)=true:=by
   cases hh:dimOk x.Rect (p.getD x.Product.toNat default) with
   |true=>rfl
   |false=>rw[hh] at hb;cases hb
  have hi:x.Product.toNat<p.length:=by omega
  have hv:=chk19_VP hp hi;refine⟨by omega,by omega,hv,qMK hp hi,?_,hd⟩;have g:=qR4 hv;obtain⟨⟨x1,x2,x3⟩,y1,y2,y3⟩:=h.w;unfold dimOk at hd;simp only[Bool.or_eq_true,Bool.and_eq_true,beq_iff_eq] at hd;refine⟨⟨x1,?_,x3⟩,y1,?_,y3⟩<;>omega
theorem qTi (hs:VSol s) (hd:PT d=0) (hp:zO p=0) (hw:1<=w.Step/\w.Step<=20000) {fine:Int} (hf:0<=fine/\fine<=1000000) {lv:List Leaf} (hl:lv.length<=1000) (hg:∀x∈lv,qG0 p x):
  WM s d p w fine lv []=some (0,bdsFrom s d p w.Step fine 0 lv):=by
 have key:∀(k i n:Nat) (acc:List Yield_Cut),i+k=lv.length->k<n->acc.length<=i->zR s d p w fine lv n (i:Int) acc=some (.inr (acc++bdsFrom s d p w.Step fine i (lv.drop i))):=by
  intro k
  induction k with
  |zero=>
   intro i n acc hi hn _;obtain⟨n,rfl⟩:∃m,n=m+1:=⟨n-1,by omega⟩
   unfold zR;rw[decide_eq_false (by omega),List.drop_eq_nil_of_le (by omega)];simp[bdsFrom]
  |succ k ih=>
   intro i n acc hi hn ha;obtain⟨n,rfl⟩:∃m,n=m+1:=⟨n-1,by omega⟩
   have hil:i<lv.length:=by omega
   unfold zR;rw[decide_eq_true (by omega),qL (by omega) (by omega),XQ lv i hil];have hx:=hg _ (jS hil);unfold JX;rw[qP (by omega)];simp only[cond_true,Int.toNat_natCast,bdsFrom];unfold bdOf;by_cases c:(lv.getD i default).Product= -1
   ·have e:((lv.getD i default).Product != -1)=false:=by simpa using c
    rw[e,if_pos c,cond_false,ih (i+1) n acc (by omega) (by omega) (by omega)];rfl
   ·have e:((lv.getD i default).Product != -1)=true:=by simpa using c
    obtain⟨g1,g2,g3,g4,g5,_⟩:=qQI hp hx c;rw[e,if_neg c,cond_true];unfold TD RV;rw[qL g1 g2,cond_true,qPj hs hd g4 g3 g5 hw hf];simp only[Option.bind_some];rw[qW (by omega) (by omega)];cases hb:(bestR s d (p.getD (lv.getD i default).Product.toNat default) (lv.getD i default).Rect w.Step fine).2.1 with
    |false=>
     simp only[cond_false,Option.bind_some];show zR s d p w fine lv n ((i+1:Nat):Int) acc=_;rw[ih (i+1) n acc (by omega) (by omega) (by omega)];rfl
    |true=>
     simp only[cond_true,Option.bind_some];show zR s d p w fine lv n ((i+1:Nat):Int) _=_;rw[ih (i+1) n _ (by omega) (by omega) (by simp;omega)];simp
 unfold WM;have e:=key lv.length 0 FUEL [] (by omega) (by rw[FUEL_eq];omega) (Nat.le_refl _);rw[show(0:Int)=((0:Nat):Int) from rfl,e];simp
def bds (s:List qB) (d:List Defect) (p:List Product) (pt:Pattern) (w:Saw) (fine:Int):List Yield_Cut:=bdsFrom s d p w.Step fine 0 (lvP pt w.Kerf)
theorem VW.fine0 (h:VW w t):VW w ⟨0,0,t.Fine⟩:=⟨h.kerf,h.trim,h.pitch,h.step,by simp,by simp,h.fine⟩
theorem qLQ (h:VY s d p pt w t):∀x∈lvP pt w.Kerf,qG0 p x:=λx hx=>⟨(h.parts.wl x hx).1,(h.parts.wl x hx).2.2⟩
theorem qMD (h:VY s d p pt w t):KK s d p pt w t.Fine=some (bds s d p pt w t.Fine,0):=by
 have hv:VY s d p pt w ⟨0,0,t.Fine⟩:=⟨h.sol,h.df,h.pr,h.vw.fine0,h.pat⟩
 unfold KK;rw[qMw,qM9.2 hv,qTh,if_pos h.any];simp only[Option.bind_some,bne_self_eq_false,cond_false];unfold TM;simp only[Option.bind_some];rw[qTi h.sol h.df h.pr h.vw.step h.vw.fine (by have:=h.parts.ll;omega) (qLQ h)];rfl
end Go.SL.Saw
namespace Go.SL.Saw
variable {s :List qB} {d:List Defect} {p:List Product} {pt:Pattern} {w:Saw} {t:Rates}
def qDU (z:Span) (trim:Int):Span:=⟨imax 0 (z.A-trim),z.A⟩
def qHc (z:Span) (trim len:Int):Span:=⟨z.B,imin (z.B+trim) len⟩
def brdV (s:List qB) (c:Yield_Cut):Int:=volS s c.Box.X c.Box.Y c.Box.Z
def trmV (s:List qB) (trim:Int) (c:Yield_Cut):Int:=volS s c.Box.X c.Box.Y (qDU c.Box.Z trim)+volS s c.Box.X c.Box.Y (qHc c.Box.Z trim (solLen s))
structure qG9 (s:List qB) (c:Yield_Cut):Prop where
 z:0<=c.Box.Z.A/\c.Box.Z.A<c.Box.Z.B/\c.Box.Z.B<=solLen s
 wth:0<=c.Worth/\c.Worth<=1000000
theorem qPZ (hp:zO p=0) {step fine:Int} (hf:0<=fine) {i:Nat} {x:Leaf} (hx:qG0 p x) {c:Yield_Cut} (h:c∈bdOf s d p step fine i x):qG9 s c/\c.Leaf=(i:Int)/\c.Box.X=x.Rect.X/\c.Box.Y=x.Rect.Y/\c.Product=x.Product/\x.Product≠-1:=by
 unfold bdOf at h;split at h
 ·exact(List.not_mem_nil h).elim
 ·rename_i c0;obtain⟨_,_,g3,_,_,_⟩:=qQI hp hx c0;have bi:=qJm (l:=s) (ds:=d) (p:=p.getD x.Product.toNat default) (r:=x.Rect) (step:=step) (fine:=fine) hf g3;cases hb:(bestR s d (p.getD x.Product.toNat default) x.Rect step fine).2.1 with
  |false=>rw[hb,cond_false] at h;exact(List.not_mem_nil h).elim
  |true=>
   rw[hb,cond_true] at h;simp at h;subst h;exact⟨⟨bi.2.2 hb,bi.1,bi.2.1⟩,rfl,rfl,rfl,rfl,c0⟩
theorem qRw (hp:zO p=0) {step fine:Int} (hf:0<=fine):∀{lv:List Leaf} {i:Nat},(∀x∈lv,qG0 p x)->∀c∈bdsFrom s d p step fine i lv,qG9 s c/\(i:Int)<=c.Leaf/\∃x∈lv,c.Box.X=x.Rect.X/\c.Box.Y=x.Rect.Y/\c.Product=x.Product/\x.Product≠-1
 |[],_,_,c,hc=>(List.not_mem_nil hc).elim
 |x::l,i,hg,c,hc=>by
  rcases List.mem_append.1 hc with hc|hc
  ·obtain⟨a,b,e⟩:=qPZ hp hf (hg x List.mem_cons_self) hc;exact⟨a,by omega,x,List.mem_cons_self,e⟩
  ·obtain⟨a,b,y,hy,e⟩:=qRw hp hf (λy hy=>hg y (List.mem_cons_of_mem _ hy)) c hc;exact⟨a,by omega,y,List.mem_cons_of_mem _ hy,e⟩
def qCt (s:List qB) (ct:List Rect):Int:=sumL (wholeR s) ct
theorem qJt {α:Type} (F:α->Int):∀(l:List α) (x:Nat) (s:Int),foldi (λ_ a s=>s+F a) x l s=s+sumL F l
 |[],_,s=>by simp[foldi,sumL]
 |a::l,x,s=>by
  show foldi _ (x+1) l (s+F a)=_;rw[qJt F l (x+1) (s+F a),QA];omega
theorem qMB {α:Type} (F G H:α->Int):∀(l:List α) (x:Nat) (s:Int×Int×Int),foldi (λ_ a s=>(s.1+F a,s.2.1+G a,s.2.2+H a)) x l s=(s.1+sumL F l,s.2.1+sumL G l,s.2.2+sumL H l)
 |[],_,s=>by simp[foldi,sumL]
 |a::l,x,s=>by
  show foldi _ (x+1) l (s.1+F a,s.2.1+G a,s.2.2+H a)=_;rw[qMB F G H l (x+1) _,QA,QA,QA];simp only[Int.add_assoc]
theorem qHa (h:VSol s) (r:Rect):0<=wholeR s r/\wholeR s r<=28800000000:=ET h _ _ _
theorem qT7 (hs:VSol s) {ct:List Rect} (hl:ct.length<=1000) (e v:Int):TG s (ct,e) (solLen s) v FUEL 0 0=some ⟨v,0,0,qCt s ct,0⟩/\0<=qCt s ct/\qCt s ct<=28800000000*ct.length:=by
 have k1:=VU ct (λn (a:Int) x=>TG s (ct,e) (solLen s) v n x a) (λx=>(x:Int)) (λ_ a s'=>s'+wholeR s a) (λq=>(⟨v,0,0,q,0⟩:Yield)) (λx q=>0<=q/\q<=28800000000*(x:Int)) (by omega)
  (λn x a hx hi=>by
   have b:=qHa hs (ct.getD x default);refine⟨?_,by omega⟩;rw[TG,decide_eq_true (show(x:Int)<_ by simp only;omega),qL (by omega) (by simp only;omega),qP (by omega)];unfold RV;simp only[cond_true,Int.toNat_natCast,Option.bind_some,AG hs];unfold wholeR at*;rw[qF (by omega) (by omega)])
  (λn a _=>by rw[TG];simp) (i:=0) rfl 0 (by omega)
 rw[qJt (wholeR s),Int.zero_add] at k1;exact⟨k1.1,k1.2⟩
theorem trm_b (h:VSol s) (trim:Int) (c:Yield_Cut):0<=trmV s trim c/\trmV s trim c<=57600000000:=by
 have a:=ET h c.Box.X c.Box.Y (qDU c.Box.Z trim);have b:=ET h c.Box.X c.Box.Y (qHc c.Box.Z trim (solLen s));unfold trmV;omega
theorem qT5 (hs:VSol s) (ht:0<=w.Trim/\w.Trim<=20) {b:List Yield_Cut} (hl:b.length<=1000) (hg:∀c∈b,qG9 s c) (e v dd:Int) (hd:0<=dd/\dd<=28800000000*1000):
  TH s w (b,e) (solLen s) ⟨v,0,0,dd,0⟩ FUEL 0 0 dd 0=some ⟨v,sumL (brdV s) b,0,dd+sumL (trmV s w.Trim) b,sumL (λc=>1000000*c.Worth) b⟩
   /\(0<=sumL (brdV s) b/\sumL (brdV s) b<=28800000000*b.length)/\(0<=sumL (trmV s w.Trim) b/\sumL (trmV s w.Trim) b<=57600000000*b.length)/\(0<=sumL (λc:Yield_Cut=>1000000*c.Worth) b/\sumL (λc:Yield_Cut=>1000000*c.Worth) b<=1000000000000*b.length):=by
 have sl:=qIz hs;have k1:=VU b (λn (q:Int×Int×Int) x=>TH s w (b,e) (solLen s) ⟨v,0,0,dd,0⟩ n x q.1 q.2.1 q.2.2) (λx=>(x:Int)) (λ_ a q=>(q.1+brdV s a,q.2.1+trmV s w.Trim a,q.2.2+1000000*a.Worth)) (λq=>(⟨v,q.1,0,q.2.1,q.2.2⟩:Yield))
  (λx q=>(0<=q.1/\q.1<=28800000000*(x:Int))/\(dd<=q.2.1/\q.2.1<=dd+57600000000*(x:Int))/\(0<=q.2.2/\q.2.2<=1000000000000*(x:Int))) (by omega)
  (λn x q hx hi=>by
   have b1:=ET hs (b.getD x default).Box.X (b.getD x default).Box.Y (b.getD x default).Box.Z;have b2:=ET hs (b.getD x default).Box.X (b.getD x default).Box.Y (qDU (b.getD x default).Box.Z w.Trim);have b3:=ET hs (b.getD x default).Box.X (b.getD x default).Box.Y (qHc (b.getD x default).Box.Z w.Trim (solLen s));have g:=hg _ (jS hx);obtain⟨z1,z2,z3⟩:=g.z;have gw:=g.wth;have eb:brdV s (b.getD x default)=volS s (b.getD x default).Box.X (b.getD x default).Box.Y (b.getD x default).Box.Z:=rfl
   have et:trmV s w.Trim (b.getD x default)=volS s (b.getD x default).Box.X (b.getD x default).Box.Y (qDU (b.getD x default).Box.Z w.Trim)+volS s (b.getD x default).Box.X (b.getD x default).Box.Y (qHc (b.getD x default).Box.Z w.Trim (solLen s)):=rfl;refine⟨?_,by simp only;rw[eb,et];omega⟩;simp only;rw[TH,decide_eq_true (show(x:Int)<_ by simp only;omega),qL (by omega) (by simp only;omega),qP (by omega)];unfold RV;simp only[cond_true,Int.toNat_natCast,Option.bind_some,AG hs]
   rw[qF (n:=(b.getD x default).Box.Z.A-w.Trim) (by omega) (by omega),qF (n:=(b.getD x default).Box.Z.B+w.Trim) (by omega) (by omega)];rw[eb,et];unfold qDU qHc at*;rw[qF (n:=1000000*(b.getD x default).Worth) (by omega) (by omega),qF (n:=q.1+_) (by omega) (by omega),qF (n:=q.2.1+_) (by omega) (by omega),qF (n:=q.2.1+_+_) (by omega) (by omega),qF (n:=q.2.2+_) (by omega) (by omega),Int.add_assoc])
  (λn q _=>by rw[TH];simp) (i:=0) rfl (0,dd,0) (by simp only;omega)
 rw[qMB (brdV s) (trmV s w.Trim) (λc=>1000000*c.Worth)] at k1;simp only[Int.zero_add] at k1;exact⟨k1.1,k1.2.1,by have:=k1.2.2.1;omega,k1.2.2.2⟩
def yB (s:List qB) (d:List Defect) (p:List Product) (pt:Pattern) (w:Saw) (fine:Int):Int:=sumL (brdV s) (bds s d p pt w fine)
def yD (s:List qB) (d:List Defect) (p:List Product) (pt:Pattern) (w:Saw) (fine:Int):Int:=qCt s (ctP pt w.Kerf)+sumL (trmV s w.Trim) (bds s d p pt w fine)
def yW (s:List qB) (d:List Defect) (p:List Product) (pt:Pattern) (w:Saw) (fine:Int):Int:=sumL (λc:Yield_Cut=>1000000*c.Worth) (bds s d p pt w fine)
def yC (s:List qB) (d:List Defect) (p:List Product) (pt:Pattern) (w:Saw) (fine:Int):Int:=volT s-yB s d p pt w fine-yD s d p pt w fine
def qDE (s:List qB) (d:List Defect) (p:List Product) (pt:Pattern) (w:Saw) (t:Rates):Yield:=
 ⟨volT s,yB s d p pt w t.Fine,yC s d p pt w t.Fine,yD s d p pt w t.Fine,yW s d p pt w t.Fine+(t.Chip*yC s d p pt w t.Fine+t.Dust*yD s d p pt w t.Fine)⟩
theorem bds_len (h:VY s d p pt w t) (fine:Int):(bds s d p pt w fine).length<=127:=by
 have:=qH5 (s:=s) (d:=d) (p:=p) w.Step fine (lvP pt w.Kerf) 0;have:=h.parts.ll;unfold bds;omega
theorem qT8 (h:VY s d p pt w t):∀c∈bds s d p pt w t.Fine,qG9 s c:=λc hc=>(qRw h.pr h.vw.fine.1 (qLQ h) c hc).1
structure YBnd (s:List qB) (d:List Defect) (p:List Product) (pt:Pattern) (w:Saw) (fine:Int):Prop where
 nB:0<=yB s d p pt w fine/\yB s d p pt w fine<=28800000000*127
 nD:0<=yD s d p pt w fine/\yD s d p pt w fine<=28800000000*127+57600000000*127
 nW:0<=yW s d p pt w fine/\yW s d p pt w fine<=1000000000000*127
theorem Of_ok (h:VY s d p pt w t):qBQ s d p pt w t=some (qDE s d p pt w t,0)/\YBnd s d p pt w t.Fine:=by
 have lb:=bds_len h t.Fine;have lc:=h.parts.lc;have ev:valL s=s:=ED h.sol;obtain⟨e1,c1,c2⟩:=qT7 h.sol (ct:=ctP pt w.Kerf) (by omega) 0 (volT s);obtain⟨e2,b1,b2,b3⟩:=qT5 (w:=w) h.sol h.vw.trim (b:=bds s d p pt w t.Fine) (by omega) (qT8 h) 0 (volT s) (qCt s (ctP pt w.Kerf)) (by omega);have bd:YBnd s d p pt w t.Fine:=⟨by unfold yB;omega,by unfold yD;omega,by unfold yW;omega⟩
 refine⟨?_,bd⟩;unfold qBQ;rw[qMw,qM9.2 h,qMD h,Cuts_eq,if_pos h.any,(EB s).1,ev,qMM h.sol];simp only[Option.bind_some,bne_self_eq_false,cond_false,e1,e2];have bv:=qOP h.sol;have bb:=bd.nB;have b4:=bd.nD;have b5:=bd.nW;have eC:w64 (w64 (volT s-sumL (brdV s) (bds s d p pt w t.Fine))-(qCt s (ctP pt w.Kerf)+sumL (trmV s w.Trim) (bds s d p pt w t.Fine)))=yC s d p pt w t.Fine:=by
  unfold yC yB yD at*;rw[qF (n:=volT s-_) (by omega) (by omega),qF (by omega) (by omega)]
 rw[eC];have hC: -28800000000*1000<=yC s d p pt w t.Fine/\yC s d p pt w t.Fine<=28800000000*1000:=by unfold yC;omega
 have m1:=WC (a:=t.Chip) (b:=yC s d p pt w t.Fine) (m:=1000) (n:=28800000000*1000) (by have:=h.vw.chip;omega) (by have:=h.vw.chip;omega) (by omega) hC.2 (by omega) (by omega);have m2:=WC (a:=t.Dust) (b:=yD s d p pt w t.Fine) (m:=1000) (n:=28800000000*1000) (by have:=h.vw.dust;omega) (by have:=h.vw.dust;omega) (by omega) (by omega) (by omega) (by omega);show some ((⟨volT s,yB s d p pt w t.Fine,_,yD s d p pt w t.Fine,w64 (yW s d p pt w t.Fine+w64 (w64 (t.Chip*yC s d p pt w t.Fine)+w64 (t.Dust*yD s d p pt w t.Fine)))⟩:Yield),(0:Int))=_
 rw[qF (n:=t.Chip*_) (by omega) (by omega),qF (n:=t.Dust*_) (by omega) (by omega),qF (n:=t.Chip*_+_) (by omega) (by omega),qF (by omega) (by omega)];rfl
end Go.SL.Saw
namespace Go.SL
namespace Saw
def mvX (dx:Int) (x:Span):Span:=⟨x.A+dx,x.B+dx⟩
def mvR (dx:Int) (r:Rect):Rect:=⟨mvX dx r.X,r.Y⟩
def mvD (dx:Int) (d:Defect):Defect:=⟨d.Kind,⟨mvX dx d.Box.X,d.Box.Y,d.Box.Z⟩⟩
theorem ml_mv (dx:Int) (x y:Span):ml (shS dx x) (mvX dx y)=ml x y:=by
 by_cases c:x.B<=x.A
 ·have e:empS x=true:=decide_eq_true c;rw[qTg _ (by rw[sh_emp];exact e),qTg _ e]
 ·have e:shS dx x=mvX dx x:=by unfold shS empS mvX;rw[decide_eq_false c];rfl
  rw[e,qF1,qF1];unfold mvX;have a1:=imin_or x.B y.B;have a2:=JA x.A y.A;have a3:=imin_or (x.B+dx) (y.B+dx);have a4:=JA (x.A+dx) (y.A+dx);simp only;split<;>split<;>omega
theorem emp_mv (dx:Int) (x y:Span):empS (mxS (mvX dx x) (mvX dx y))=empS (mxS x y):=by
 unfold mvX mxS empS;have a1:=imin_or x.B y.B;have a2:=JA x.A y.A;have a3:=imin_or (x.B+dx) (y.B+dx);have a4:=JA (x.A+dx) (y.A+dx);simp only;rw[decide_eq_decide];omega
theorem row_sh {s:qK} (dx:Int) (r:Int):row ⟨s.Low,s.Rows.map (shS dx)⟩ r=shS dx (row s r):=by
 have z:shS dx ⟨0,0⟩=⟨0,0⟩:=rfl;unfold row;simp only;by_cases c:r<s.Low
 ·rw[if_pos c,if_pos c,z]
 ·rw[if_neg c,if_neg c];by_cases k:(r-s.Low).toNat<s.Rows.length
  ·rw[List.getD_eq_getElem?_getD,List.getElem?_map,List.getD_eq_getElem?_getD,List.getElem?_eq_getElem k];rfl
  ·rw[qGW (by simpa using k),qGW (by omega)];rfl
theorem qSS (dx:Int) (s:qK) (x y:Span):zG ⟨s.Low,s.Rows.map (shS dx)⟩ (mvX dx x) y=zG s x y:=by
 unfold zG;exact qBj (λr _ _=>by rw[row_sh,ml_mv])
structure Mv (dx:Int) (l l':List qB):Prop where
 len:l'.length=l.length
 at':∀i,i<l.length->(l'.getD i default).Len=(l.getD i default).Len/\(l'.getD i default).Sec=⟨(l.getD i default).Sec.Low,(l.getD i default).Sec.Rows.map (shS dx)⟩
theorem Mv.lenTo {dx:Int} {l l':List qB} (h:Mv dx l l') {k:Nat} (hk:k<=l.length):lenTo l' k=lenTo l k:=by
 unfold Saw.lenTo;exact yJ (λi hi=>(h.at' i (by omega)).1)
theorem Mv.solLen {dx:Int} {l l':List qB} (h:Mv dx l l'):solLen l'=solLen l:=by
 unfold Saw.solLen;rw[h.len,h.lenTo (Nat.le_refl _)]
theorem Mv.ext {dx:Int} {l l':List qB} (h:Mv dx l l') {i:Nat} (hi:i<l.length):Saw.ext l' i=Saw.ext l i:=by
 unfold Saw.ext;rw[h.lenTo (by omega),h.lenTo (by omega)]
theorem Mv.zones {dx:Int} {l l':List qB} (h:Mv dx l l') (r:Rect):zones l' (mvR dx r)=zones l r:=by
 unfold Saw.zones;rw[h.len];refine List.map_congr_left (λi hi=>?_);have hi':i<l.length:=by simpa using hi
 have a:TQ (mvR dx r)=TQ r:=by unfold TQ mvR mvX;simp only;rw[show r.X.B+dx-(r.X.A+dx)=r.X.B-r.X.A by omega]
 have e:zG (l'.getD i default).Sec (mvR dx r).X (mvR dx r).Y=zG (l.getD i default).Sec r.X r.Y:=by
  rw[(h.at' i hi').2];exact qSS dx _ r.X r.Y
 rw[h.ext hi',e,a]
theorem qSW (dx:Int) (d b:Box):tch ⟨mvX dx d.X,d.Y,d.Z⟩ ⟨mvX dx b.X,b.Y,b.Z⟩=tch d b:=by
 unfold tch;rw[emp_mv]
theorem qMu {α β:Type} [Inhabited α] [Inhabited β] (f:α->β) {l:List α} {i:Nat} (h:i<l.length):(l.map f).getD i default=f (l.getD i default):=by
 rw[List.getD_eq_getElem?_getD,List.getElem?_map,List.getD_eq_getElem?_getD,List.getElem?_eq_getElem h];rfl
theorem near_mv (dx:Int) (ds:List Defect) (b:Box):near (ds.map (mvD dx)) ⟨mvX dx b.X,b.Y,b.Z⟩=(near ds b).map (mvD dx):=by
 unfold near;have key:∀k,k<=ds.length->foldN (λi t=>bif tch ((ds.map (mvD dx)).getD i default).Box ⟨mvX dx b.X,b.Y,b.Z⟩ then t++[(ds.map (mvD dx)).getD i default] else t) 0 k ([]:List Defect)=(foldN (λi t=>bif tch (ds.getD i default).Box b then t++[ds.getD i default] else t) 0 k ([]:List Defect)).map (mvD dx):=by
  intro k
  induction k with
  |zero=>intro _;rfl
  |succ k ih=>
   intro hk;rw[JZ,JZ,ih (by omega),Nat.zero_add,qMu _ (by omega),show tch (mvD dx (ds.getD k default)).Box ⟨mvX dx b.X,b.Y,b.Z⟩=tch (ds.getD k default).Box b from qSW dx _ b];cases tch (ds.getD k default).Box b with
   |true=>simp only[cond_true,List.map_append,List.map_cons,List.map_nil]
   |false=>rfl
 rw[List.length_map];exact key _ (Nat.le_refl _)
theorem qTy (dx:Int) (ds:List Defect) (b:Box) (fine v:Int):NL (ds.map (mvD dx)) ⟨mvX dx b.X,b.Y,b.Z⟩ fine v=NL ds b fine v:=by
 unfold NL;rw[List.length_map];have key:∀k x w,x+k=ds.length->runN (dstep (ds.map (mvD dx)) ⟨mvX dx b.X,b.Y,b.Z⟩ fine) x k w=runN (dstep ds b fine) x k w:=by
  intro k
  induction k with
  |zero=>intro x w _;rfl
  |succ k ih=>
   intro x w hx;have e:dstep (ds.map (mvD dx)) ⟨mvX dx b.X,b.Y,b.Z⟩ fine x w=dstep ds b fine x w:=by
    unfold dstep;rw[qMu _ (by omega),show tch (mvD dx (ds.getD x default)).Box ⟨mvX dx b.X,b.Y,b.Z⟩=tch (ds.getD x default).Box b from qSW dx _ b];rfl
   unfold runN;rw[e];cases dstep ds b fine x w with
   |inl r=>rfl
   |inr s=>exact ih _ _ (by omega)
 rw[key _ 0 _ (by omega)]
theorem Mv.view {dx:Int} {l l':List qB} (h:Mv dx l l') (ds:List Defect) (p:Product) (r:Rect):RU l' (ds.map (mvD dx)) p (mvR dx r)=⟨p,mvR dx r,Saw.solLen l,Saw.zones l r,(near ds ⟨r.X,r.Y,⟨0,Saw.solLen l⟩⟩).map (mvD dx)⟩:=by
 unfold RU;rw[h.solLen,h.zones,<-near_mv];rfl
theorem Mv.worthV {dx:Int} {l l':List qB} (h:Mv dx l l') (ds:List Defect) (p:Product) (r:Rect) (s:Span) (fine:Int):worthV (RU l' (ds.map (mvD dx)) p (mvR dx r)) s fine=worthV (RU l ds p r) s fine:=by
 rw[h.view];unfold Saw.worthV;have e:∀v,NL ((near ds ⟨r.X,r.Y,⟨0,Saw.solLen l⟩⟩).map (mvD dx)) ⟨(mvR dx r).X,(mvR dx r).Y,s⟩ fine v=NL (near ds ⟨r.X,r.Y,⟨0,Saw.solLen l⟩⟩) ⟨r.X,r.Y,s⟩ fine v:=λv=>qTy dx _ ⟨r.X,r.Y,s⟩ fine v;simp only[e];rfl
theorem Mv.bestR {dx:Int} {l l':List qB} (h:Mv dx l l') (ds:List Defect) (p:Product) (r:Rect) (step fine:Int):bestR l' (ds.map (mvD dx)) p (mvR dx r) step fine=bestR l ds p r step fine:=by
 unfold Saw.bestR;have d:dimOk (mvR dx r) p=dimOk r p:=by unfold dimOk mvR mvX;simp only;rw[show r.X.B+dx-(r.X.A+dx)=r.X.B-r.X.A by omega]
 rw[d];cases dimOk r p with
 |false=>rfl
 |true=>
  simp only[cond_true];unfold bestV;have e1:(RU l' (ds.map (mvD dx)) p (mvR dx r)).length=(RU l ds p r).length:=h.solLen;rw[e1];refine HD (λk _ _ st=>?_);unfold qFW;refine HD (λi _ _ st=>?_);rw[show(RU l' (ds.map (mvD dx)) p (mvR dx r)).product=(RU l ds p r).product from rfl,h.worthV]
end Saw
end Go.SL

/- PlanHeights. -/
import Derived.Test.YtidlfgiogdjkaaaGreatDoorEMa8
import Derived.Test.YtidlfgiogdjkaaaGreatDoorEMa9
import Derived.Test.YtidlfgiogdjkaaaGreatDoorEMa10
set_option linter.unusedVariables false
set_option linter.unusedSimpArgs false
namespace Go.SL.Saw
def UU (n:Int) (a:Int) (s:List Int×Bool):List Int×Bool:=if s.2=true then(s.1++[a],true) else if a≥n then((if a>n then s.1++[n] else s.1)++[a],true) else(s.1++[a],false)
theorem qYl (n:Int):∀(l:List Int) (x:Nat) (o:List Int),foldi (λ_=>UU n) x l (o,true)=(o++l,true)
 |[],x,o=>by simp[foldi]
 |a::l,x,o=>by
  have ea:UU n a (o,true)=(o++[a],true):=by unfold UU;rw[if_pos rfl]
  show foldi _ (x+1) l (UU n a (o,true))=_;rw[ea,qYl n l (x+1) (o++[a])];simp
theorem qYE (n:Int):∀(l:List Int) (x:Nat) (o:List Int),(if(foldi (λ_=>UU n) x l (o,false)).2=true then(foldi (λ_=>UU n) x l (o,false)).1 else(foldi (λ_=>UU n) x l (o,false)).1++[n])=o++insI n l
 |[],x,o=>by simp[foldi,insI]
 |a::l,x,o=>by
  have e:foldi (λ_=>UU n) x (a::l) (o,false)=foldi (λ_=>UU n) (x+1) l (UU n a (o,false)):=rfl;rw[e];by_cases c:a≥n
  ·have ea:UU n a (o,false)=((if a>n then o++[n] else o)++[a],true):=by unfold UU;rw[if_neg (by simp),if_pos c]
   have ei:insI n (a::l)=if a=n then a::l else n::a::l:=by unfold insI;rw[if_neg (by omega)]
   rw[ea,qYl,ei];simp only[if_true];by_cases c2:a>n
   ·rw[if_pos c2,if_neg (by omega)];simp
   ·rw[if_neg c2,if_pos (by omega)];simp
  ·have ea:UU n a (o,false)=(o++[a],false):=by unfold UU;rw[if_neg (by simp),if_neg c]
   rw[ea,qYE n l (x+1) (o++[a])];have ei:insI n (a::l)=a::insI n l:=by
    conv=>lhs;unfold insI
    rw[if_pos (by omega)]
   rw[ei];simp
theorem qYB (l:List Int) (n:Int) (hl:l.length<=100000):qAO l n=some (insI n l):=by
 unfold qAO;have k:=ZC l (λm (s:List Int×Bool) x=>ZI l n m s.1 s.2 x) (λx=>(x:Int)) (λ_=>UU n) (λs=>s) (λx s=>s.1.length<=x+1/\(s.2=false->s.1.length<=x)) (by omega)
  (λm x s hx hi=>by
   obtain⟨o,d⟩:=s;simp only at hi;rw[ZI,kd (by omega),qU (by omega)];unfold UU;cases d with
   |true=>
    simp only[ky,kp,kn,if_true];unfold SP MY;rw[qU (by omega),wO (by omega),qY (by omega)];simp only[kn,kp,ko];exact⟨trivial,by simp;omega,λh=>by cases h⟩
   |false=>
    have hi2:=hi.2 rfl;simp only[uq,kn,ko,ub,if_false];unfold SP qBa MY;rw[qU (by omega),qY (by omega)];simp only[kn,ko];by_cases c:l.getD x du≥n
    ·rw[kd c,if_pos c];by_cases c2:l.getD x du>n
     ·rw[kd c2,if_pos c2,wO (by omega),yT (by simp;omega) (by omega)];exact⟨rfl,by simp;omega,λh=>by cases h⟩
     ·rw[ka c2,if_neg c2,wO (by omega)];exact⟨rfl,by simp;omega,λh=>by cases h⟩
    ·rw[ka c,if_neg c,wO (by omega)];exact⟨rfl,by simp;omega,λ_=>by simp;omega⟩)
  (λm s _=>by rw[ZI];simp) (i:=0) rfl ([],false) (by simp)
 simp only at k;rw[k.1];simp only[ke];have f:=qYE n l 0 [];rw[ur] at f;have kl:=k.2.1;generalize foldi (λ_=>UU n) 0 l ([],false)=q at f kl;unfold qAS;obtain⟨q1,q2⟩:=q;cases q2 with
 |true=>simp only[ky,kp];rw[<-f];rfl
 |false=>
  simp only[uq,kn];rw[yT (by simp only at kl;omega) (by omega),<-f];rfl
theorem qPy :∀(l:List Product) (x:Nat) (s:List Int),foldi (λ_ (p:Product) s=>insI (qZ p).2 (insI (qZ p).1 s)) x l s=insG l s
 |[],_,s=>rfl
 |p::l,x,s=>qPy l (x+1) _
theorem qXH (ps:List Product):FN ps=some (hts ps):=by
 unfold FN;rw[qBn];simp only[ke];by_cases h:wI ps=0
 ·have hl:=qAJ (l:=ps) (by simpa using h);rw[h,kv,kp];have k:=ZC ps (λn (s:List Int) x=>YN ps n s x) (λx=>(x:Int)) (λ_ p s=>insI (qZ p).2 (insI (qZ p).1 s)) (λs=>s) (λx s=>s.length<=2*x) (by omega)
   (λn x s hx hi=>by
    have i1:=qNR (qZ (ps.getD x du)).1 s;have i2:=qNR (qZ (ps.getD x du)).2 (insI (qZ (ps.getD x du)).1 s);refine⟨?_,by omega⟩;rw[YN,kd (by omega),qU (by omega),qY (by omega)];simp only[kn,ko,(NU _).2,ke];rw[qYB _ _ (by omega)];simp only[ke];rw[qYB _ _ (by omega)];rfl)
   (λn s _=>by rw[YN];simp) (i:=0) rfl [] (ki _)
  rw[k.1,qPy,q1q h];rfl
 ·have h':(wI ps !=0)=true:=by simpa using h
  rw[h',kn];unfold hts;rw[if_neg h]
end Go.SL.Saw

namespace Go.SL.Saw
variable {l :List qC} {ds:List qF} {ps:List Product} {F:Rect} {w:Saw} {t:Rates}
theorem gnP_eq (l:List qC) (ds:List qF) (ps:List Product) (F:Rect) (w:Saw) (t:Rates) {i q:Nat} (hi:i<(hts ps).length) (hq:(q:Int)+(hts ps).getD i du<=hei F):gnAt (zP l ds ps F w t) i q=(stG l ds ps F w t ((hts ps).getD i du) q).1:=by
 unfold gnAt zP;simp only;rw[wT _ hi,wT _ (by unfold nRow;omega)]
end Go.SL.Saw

namespace Go.SL
namespace Saw
theorem qSN (p:Product) (n:Int) (h:p.Lengths.length<=1000000):LC p n=some (price p n):=by
 unfold LC price;have L:YW p n FUEL ((0:Nat):Int)=some (findN (priceAt p n) 0 (p.Lengths.length-0)):=by
  refine QN p.Lengths.length (YW p n) _ 0 (by omega) (by omega) (λm i hi hN=>?_) (λm=>?_)
  ·rw[YW,kd (by omega),qU (by omega)];simp only[kn,ko,qY (show i<4611686018427387904 by omega),priceAt];by_cases c:p.Lengths.getD i du≠n
   ·rw[if_pos c,show(p.Lengths.getD i du==n)=false by rw[kL];exact c];rfl
   rw[if_neg c,show(p.Lengths.getD i du==n)=true by rw[uG];omega];by_cases c2:p.Prices.length<=i
   ·rw[if_pos c2,kd (show(i:Int)≥(p.Prices.length:Int) by omega)];rfl
   ·rw[if_neg c2,ka (show¬(i:Int)≥(p.Prices.length:Int) by omega),qU (by omega)];rfl
  ·rw[YW,ka (by omega)];rfl
 rw[show((0:Nat):Int)=0 from rfl,kF] at L;rw[L];simp only[ke];cases findN (priceAt p n) 0 p.Lengths.length<;>rfl
theorem q1F (x y:Span):NG x y=some (nrm (mxS x y)):=by
 unfold NG nrm mxS empS;simp only;show(bif decide (imin x.B y.B<=imax x.A y.A) then _ else _)=_;cases decide (imin x.B y.B<=imax x.A y.A)<;>rfl
theorem qMs (d:qF) (b:Box):TY d b=some (tch d.Box b):=by
 unfold TY qEC tch;simp only[q1F,ke,qTo,qQQ]
def wdL (b:Box) (fine:Int):List qF->Int->(Int×Bool)⊕Int
 |[],v=> .inr v
 |d::ds,v=>bif tch d.Box b then(bif d.Kind==3 then .inl (0,false) else wdL b fine ds (v-fine)) else wdL b fine ds v
theorem qLh (ds:List qF) (b:Box) (fine:Int):∀(k x:Nat) (v:Int),x+k=ds.length->runN (dstep ds b fine) x k v=wdL b fine (ds.drop x) v
 |0,x,v,h=>by rw[ug (by omega)];rfl
 |k+1,x,v,h=>by
  rw[VM ds x (by omega)];unfold runN wdL dstep;cases tch (ds.getD x du).Box b with
  |false=>exact qLh ds b fine k (x+1) v (by omega)
  |true=>cases (ds.getD x du).Kind==3 with
   |true=>rfl
   |false=>exact qLh ds b fine k (x+1) (v-fine) (by omega)
theorem qXq (ds:List qF) (b:Box):near ds b=ds.filter (λd=>tch d.Box b):=by
 unfold near;have key:∀k,k<=ds.length->foldN (λi t=>bif tch (ds.getD i du).Box b then t++[ds.getD i du] else t) 0 k ([]:List qF)=(ds.take k).filter (λd=>tch d.Box b):=by
  intro k
  induction k with
  |zero=>intro _;rfl
  |succ k ih=>
   intro hk;have tk:ds.take (k+1)=ds.take k++[ds.getD k du]:=by rw[List.take_add_one,kg,kt (by omega)];rfl
   rw[yE,ih (by omega),kw,tk,List.filter_append];generalize ds.getD k du=d;cases h:tch d.Box b<;>simp[List.filter,h]
 rw[key _ (ki _),gj]
theorem qEs {b W:Box} (fine:Int) (h:∀d:Box,tch d b=true->tch d W=true):∀(ds:List qF) (v:Int),wdL b fine (ds.filter (λd=>tch d.Box W)) v=wdL b fine ds v
 |[],v=>rfl
 |d::ds,v=>by
  cases hW:tch d.Box W with
  |true=>
   rw[List.filter_cons,hW];simp only[if_true];unfold wdL;rw[qEs fine h ds,qEs fine h ds]
  |false=>
   have hb:tch d.Box b=false:=by cases e:tch d.Box b with|false=>rfl|true=>rw[h _ e] at hW;cases hW
   rw[List.filter_cons,hW];simp only[ub,if_false];rw[qEs fine h ds]
   conv=>rhs;unfold wdL
   rw[hb];rfl
theorem qME {ds:List qF} {b W:Box} (fine v:Int) (h:∀d:Box,tch d b=true->tch d W=true):WL (near ds W) b fine v=WL ds b fine v:=by
 unfold WL;rw[qLh _ _ _ _ 0 _ (by omega),qLh _ _ _ _ 0 _ (by omega),gc,gc,qXq,qEs fine h]
theorem qYa {x y s:Span} {n:Int} (h1:0<=s.A) (h2:s.B<=n) (d:Box):tch d ⟨x,y,s⟩=true->tch d ⟨x,y,⟨0,n⟩⟩=true:=by
 unfold tch;simp only;have e:empS (mxS d.Z s)=false->empS (mxS d.Z ⟨0,n⟩)=false:=λh=>by
  have h':¬imin d.Z.B s.B<=imax d.Z.A s.A:=of_decide_eq_false h;have a1:=imin_or d.Z.B s.B;have a2:=jN d.Z.A s.A;have a3:=imin_or d.Z.B n;have a4:=jN d.Z.A 0;refine ka (show¬imin d.Z.B n<=imax d.Z.A 0 from ?_);omega
 cases empS (mxS d.X x)<;>cases empS (mxS d.Y y)<;>cases hz:empS (mxS d.Z s)<;>simp;exact e hz
def bad3 (ds:List qF) (b:Box) (i:Nat):Option Bool:=bif (ds.getD i du).Kind==3&&tch (ds.getD i du).Box b then some false else none
def qF9 (ds:List qF) (b:Box) (fine:Int) (i:Nat) (v:Int):Int:=bif tch (ds.getD i du).Box b then v-fine else v
theorem qGH (ds:List qF) (b:Box) (fine:Int):∀(k x:Nat) (v:Int),runN (dstep ds b fine) x k v=match findN (bad3 ds b) x k with| .inl _=> .inl (0,false)| .inr _=> .inr (foldN (qF9 ds b fine) x k v)
 |0,x,v=>rfl
 |k+1,x,v=>by
  unfold runN findN foldN;cases h1:tch (ds.getD x du).Box b with
  |false=>
   have e1:dstep ds b fine x v= .inr v:=by unfold dstep;rw[h1];rfl
   have e2:bad3 ds b x=none:=by unfold bad3;rw[h1,Bool.and_false];rfl
   have e3:qF9 ds b fine x v=v:=by unfold qF9;rw[h1];rfl
   rw[e1,e2,e3];exact qGH ds b fine k (x+1) v
  |true=>cases h2:(ds.getD x du).Kind==3 with
   |true=>
    have e1:dstep ds b fine x v= .inl (0,false):=by unfold dstep;rw[h1,h2];rfl
    have e2:bad3 ds b x=some false:=by unfold bad3;rw[h1,h2];rfl
    rw[e1,e2]
   |false=>
    have e1:dstep ds b fine x v= .inr (v-fine):=by unfold dstep;rw[h1,h2];rfl
    have e2:bad3 ds b x=none:=by unfold bad3;rw[h1,h2];rfl
    have e3:qF9 ds b fine x v=v-fine:=by unfold qF9;rw[h1];rfl
    rw[e1,e2,e3];exact qGH ds b fine k (x+1) (v-fine)
theorem qZA (ds:List qF) (b:Box):∀(k x:Nat) (e:Bool),findN (bad3 ds b) x k= .inl e->e=false:=by
 intro k x e h;obtain⟨i,_,_,c,_⟩:=XD h;unfold bad3 at c;cases hc:(ds.getD i du).Kind==3&&tch (ds.getD i du).Box b with
 |true=>rw[hc] at c;cases c;rfl
 |false=>rw[hc] at c;cases c
theorem hit_ml {l:List qC} (h:VSol l) {i:Nat} (hi:i<l.length) {s:Span} (hs:s.A<s.B):decide (ml (ext l i) s>0)=hitZ (ext l i) s:=by
 have at':=(h.at hi).2.2;have e2:(ext l i).B=lenTo l i+(l.getD i du).Len:=wF l i;have e1:(ext l i).A=lenTo l i:=rfl;unfold hitZ;rw[qC2,e1,e2];have a1:=imin_or (lenTo l i+(l.getD i du).Len) s.B;have a2:=jN (lenTo l i) s.A;rw[gp];simp only[decide_eq_true_eq,kr];split<;>omega
def cutL (l:List qC) (s:Span) (k:Nat):List qC:=(List.range k).filterMap (λi=>if ml (ext l i) s>0 then some ⟨ml (ext l i) s,(l.getD i du).Sec⟩ else none)
theorem qKp (l:List qC) (s:Span) (k:Nat):cutL l s (k+1)=if ml (ext l k) s>0 then cutL l s k++[⟨ml (ext l k) s,(l.getD k du).Sec⟩] else cutL l s k:=by
 unfold cutL;rw[kW,List.filterMap_append];by_cases c:ml (ext l k) s>0
 ·rw[if_pos c];simp[c]
 ·rw[if_neg c];simp[c]
theorem qNu (l:List qC) (s:Span):∀k,(cutL l s k).length<=k
 |0=>by simp[cutL]
 |k+1=>by
  have:=qNu l s k;rw[qKp];split<;>simp<;>omega
theorem Cut_eq {l:List qC} (h:VSol l) (s:Span):qDf l s=some (cutL l s l.length):=by
 have hl:=h.len;unfold qDf;rw[(RT l).2,(WX l).2 h];simp only[ke,kv,kp];have k:=zR l.length (λn (t:List qC×Int) i=>XQ l s n t.1 t.2 i) (λi t=>(cutL l s (i+1),lenTo l (i+1))) (λt=>t.1)
  (λi t=>t.1=cutL l s i/\t.2=lenTo l i) 0 (by omega) (by omega)
  (λn i t hi ht=>by
   obtain⟨t1,t2⟩:=t;obtain⟨e1,e2⟩:=ht;simp only at e1 e2;have bd:=h.bd (i:=i) (by omega);have at':=(h.at hi).2.2;rw[wF] at at';refine⟨?_,rfl,rfl⟩;simp only;rw[XQ,kd (by omega),qU (by omega)];simp only[kn,ko,qY (show i<4611686018427387904 by omega),e2,qSG h hi s,ke,qA2];rw[qK (n:=lenTo l i+(l.getD i du).Len) (by omega),<-wF,qKp];have cl:=qNu l s i;by_cases c:ml (ext l i) s>0
   ·rw[kd c,if_pos c,yT (by rw[e1];omega) (by omega),e1];rfl
   ·rw[ka c,if_neg c,e1];rfl)
  (λn t _=>by rw[XQ,ka (by omega)];rfl) ([],0) ⟨rfl,rfl⟩
 rw[show((0:Nat):Int)=0 from rfl,kF] at k;simp only at k;rw[k.1,k.2.1];rfl
theorem q2k {l:List qC} {s:Span} {k:Nat}:∀x∈cutL l s k,∃i,i<k/\x.Sec=(l.getD i du).Sec:=by
 intro x hx;unfold cutL at hx;rw[List.mem_filterMap] at hx;obtain⟨i,hi,e⟩:=hx;refine⟨i,by simpa using hi,?_⟩;split at e
 ·cases e;rfl
 ·cases e
theorem wane_eq {l:List qC} (h:VSol l) {r:Rect} (hr:VR r) {s:Span} (hs:s.A<s.B):qAT l ⟨r.X,r.Y,s⟩=some (worst (zones l r) s):=by
 have hl:=h.len;have ha:=qX6 hr;have eA:w64 (w64 (r.X.B-r.X.A)*w64 (r.Y.B-r.Y.A))=QH r:=by
  have hr':=hr;unfold VR at hr';rw[qK (n:=r.X.B-r.X.A) (by omega),qK (n:=r.Y.B-r.Y.A) (by omega)];unfold QH at ha⊢;exact qK (by omega)
 unfold qAT;rw[Cut_eq h];simp only[ke];have cl:=qNu l s l.length;have k:=ZC (cutL l s l.length) (λn (m:Int) i=>TX ⟨r.X,r.Y,s⟩ (cutL l s l.length) n m i) (λx=>(x:Int)) (λ_ a m=>imax m (EW (QH r) (zM a.Sec r.X r.Y))) (λm=>m) (λ_ _=>True) (by omega)
  (λn x m hx _=>by
   refine⟨?_,trivial⟩;obtain⟨i,hi,es⟩:=q2k _ (jE hx);have vs:=(h.at hi).1;rw[TX,kd (by omega),qU (by omega)];simp only[kn,ko,qY (show x<4611686018427387904 by omega),qPf,ke,eA,es];have wb:=qNb vs r.X r.Y;rw[qCh vs,nz_t (by omega),qK (n:=QH r-zM (l.getD i du).Sec r.X r.Y) (by omega),qK (n:=1000*_) (by omega),qK (n:=1000*_+_) (by omega),qK (n:=1000*_+_-1) (by omega)];simp only[kn];have tb: -2000000000<=EW (QH r) (zM (l.getD i du).Sec r.X r.Y)/\EW (QH r) (zM (l.getD i du).Sec r.X r.Y)<=2000000000:=by
    unfold EW;generalize hu:1000*(QH r-zM (l.getD i du).Sec r.X r.Y)+QH r-1=u;have hub: -1440000000<=u/\u<=1441440000:=by omega
    have ab:=Int.natAbs_tdiv_le_natAbs u (QH r);omega
   unfold EW at tb⊢;rw[qK (by omega)])
  (λn m _=>by rw[TX,ka (by omega)];rfl) (i:=0) rfl 0 trivial
 rw[k.1,qMo];simp only[ke];unfold worst;rw[qTp];have key:∀j,j<=l.length->(cutL l s j).foldl (λm a=>imax m (EW (QH r) (zM a.Sec r.X r.Y))) 0=foldN (λi m=>bif hitZ ((zones l r).getD i du).z s then imax m ((zones l r).getD i du).lack else m) 0 j 0:=by
  intro j
  induction j with
  |zero=>intro _;rfl
  |succ j ih=>
   intro hj;have hz:(zones l r).getD j du=⟨ext l j,EW (QH r) (zM (l.getD j du).Sec r.X r.Y)⟩:=by unfold zones;exact wT _ (by omega)
   rw[yE,<-ih (by omega),kw,hz,qKp];simp only;rw[<-hit_ml h (by omega) hs];by_cases c:ml (ext l j) s>0
   ·rw[if_pos c,kd c,List.foldl_append];rfl
   ·rw[if_neg c,ka c];rfl
 rw[key _ (ki _)]
theorem qS7 {x:Span} (h: -600<=x.A/\x.A<x.B/\x.B<=600):DB x=some true:=by
 unfold DB UL;rw[kd (show x.A≥-600 by omega),kd h.2.1,kd h.2.2];rfl
theorem q0N {l:List qC} (h:VSol l) {r:Rect} (hr:VR r) (s:Span):MX l ⟨r.X,r.Y,s⟩=some (decide (0<=s.A/\s.A<s.B/\s.B<=solLen l)):=by
 unfold MX WU;rw[qS7 hr.1,qS7 hr.2,(YA l).2,KF h];simp only[ke,kn];by_cases c1:s.A≥0
 ·rw[kd c1];by_cases c2:s.A<s.B
  ·rw[kd c2];simp only[kn]
   congr 1
   rw[decide_eq_decide];omega
  ·rw[ka c2,ka (show¬(0<=s.A/\s.A<s.B/\s.B<=solLen l) by omega)];rfl
 ·rw[ka c1,ka (show¬(0<=s.A/\s.A<s.B/\s.B<=solLen l) by omega)];rfl
theorem qZI {l:List qC} (h:VSol l) {ds:List qF} (hd:ds.length<=64) {p:Product} (hv:VP p) {r:Rect} (hr:VR r) (fine:Int) (s:Span):SI l ds p ⟨r.X,r.Y,s⟩=some (dimOk r p&&(worthV (viewOf l ds p r) s fine).2):=by
 have hr':=hr;unfold VR at hr';have hll:=hv.ll;have sb:=qAl h;unfold SI;rw[q0N h hr];simp only[ke];unfold worthV;rw[show(viewOf l ds p r).length=solLen l from rfl];by_cases c':¬(0<=s.A/\s.A<s.B/\s.B<=solLen l)
 ·rw[ka c',if_neg c',Bool.and_false];rfl
 have c:0<=s.A/\s.A<s.B/\s.B<=solLen l:=Decidable.not_not.1 c';rw[kd c,if_pos c,(NU p).2,qK (n:=s.B-s.A) (by omega),qSN p _ (by omega),qK (n:=r.X.B-r.X.A) (by omega),qK (n:=r.Y.B-r.Y.A) (by omega)];simp only[ke,ky,kp];rw[show(viewOf l ds p r).product=p from rfl,show(viewOf l ds p r).zones=zones l r from rfl,show(viewOf l ds p r).rect=r from rfl,show(viewOf l ds p r).defects=near ds ⟨r.X,r.Y,⟨0,solLen l⟩⟩ from rfl,qME fine _ (qYa c.1 c.2.2)];have K:jK l ds p ⟨r.X,r.Y,s⟩ false=some ((if worst (zones l r) s>p.Wane then((0:Int),false) else WL ds ⟨r.X,r.Y,s⟩ fine (price p (s.B-s.A)).1).2):=by
  unfold jK;have L:yS ds ⟨r.X,r.Y,s⟩ FUEL ((0:Nat):Int)=some (findN (bad3 ds ⟨r.X,r.Y,s⟩) 0 (ds.length-0)):=by
   refine QN ds.length (yS ds ⟨r.X,r.Y,s⟩) _ 0 (by omega) (by omega) (λm i hi hN=>?_) (λm=>?_)
   ·rw[yS,kd (by omega),qU (by omega)];simp only[kn,ko,qY (show i<4611686018427387904 by omega),qMs,ke,ME,bad3];cases (ds.getD i du).Kind==3<;>cases tch (ds.getD i du).Box ⟨r.X,r.Y,s⟩<;>rfl
   ·rw[yS,ka (by omega)];rfl
  rw[show((0:Nat):Int)=0 from rfl,kF] at L;rw[L,wane_eq h hr c.2.1];unfold WL;rw[qGH];simp only[kp,ke];cases hf:findN (bad3 ds ⟨r.X,r.Y,s⟩) 0 ds.length with
  |inl e=>
   rw[qZA _ _ _ _ _ hf];simp only[Sum.elim_inl];split<;>rfl
  |inr u=>
   simp only[Sum.elim_inr];by_cases c4:worst (zones l r) s>p.Wane
   ·rw[if_pos c4,ka (by omega)]
   ·rw[if_neg c4,kd (by omega)]
 have KT:jK l ds p ⟨r.X,r.Y,s⟩ true=some false:=rfl;have KB:∀q,jK l ds p ⟨r.X,r.Y,s⟩ q=some (!q&&((if worst (zones l r) s>p.Wane then((0:Int),false) else WL ds ⟨r.X,r.Y,s⟩ fine (price p (s.B-s.A)).1).2)):=λq=>by
  cases q with
  |true=>exact KT
  |false=>rw[K];rfl
 simp only[KB];cases hq:(price p (s.B-s.A)).2 with
 |false=>simp only[uq,kn,ky,Bool.false_and,kp,Bool.and_false]
 |true=>
  simp only[ky,kp,kn,dimOk];generalize (if worst (zones l r) s>p.Wane then((0:Int),false) else WL ds ⟨r.X,r.Y,s⟩ fine (price p (s.B-s.A)).1).2=W;cases r.X.B-r.X.A==(qZ p).1<;>cases r.Y.B-r.Y.A==(qZ p).2<;>cases r.X.B-r.X.A==(qZ p).2<;>cases r.Y.B-r.Y.A==(qZ p).1<;>rfl
theorem qZY {l:List qC} (h:VSol l) {ds:List qF} (hd:ds.length<=64) {p:Product} (hv:VP p) {r:Rect} {fine:Int} (hf:0<=fine/\fine<=1000000) {s:Span} (ha:(worthV (viewOf l ds p r) s fine).2=true):OJ ds p ⟨r.X,r.Y,s⟩ fine=some (worthV (viewOf l ds p r) s fine).1:=by
 have hll:=hv.ll;have sb:=qAl h;unfold OJ;unfold worthV at ha⊢;rw[show(viewOf l ds p r).length=solLen l from rfl] at ha⊢;by_cases c':¬(0<=s.A/\s.A<s.B/\s.B<=solLen l)
 ·rw[if_neg c'] at ha;cases ha
 have c:0<=s.A/\s.A<s.B/\s.B<=solLen l:=Decidable.not_not.1 c';rw[if_pos c] at ha⊢;rw[show(viewOf l ds p r).product=p from rfl,show(viewOf l ds p r).zones=zones l r from rfl,show(viewOf l ds p r).rect=r from rfl,show(viewOf l ds p r).defects=near ds ⟨r.X,r.Y,⟨0,solLen l⟩⟩ from rfl,qME fine _ (qYa c.1 c.2.2)] at ha⊢;rw[qK (n:=s.B-s.A) (by omega),qSN p _ (by omega)];simp only[ke];have pb:=qRd hv (s.B-s.A);cases hq:(price p (s.B-s.A)).2 with
 |false=>rw[hq] at ha;cases ha
 |true=>
  rw[hq] at ha;simp only[kn] at ha⊢;by_cases c4:worst (zones l r) s>p.Wane
  ·rw[if_pos c4] at ha;cases ha
  rw[if_neg c4] at ha⊢;have k:=zR ds.length (λn (v:Int) i=>ZW ds ⟨r.X,r.Y,s⟩ fine n v i) (qF9 ds ⟨r.X,r.Y,s⟩ fine) (λv=>v) (λi v=> -(1000000*(i:Int))<=v/\v<=1000000) 0 (by omega) (by omega)
   (λn i v hi hv'=>by
    refine⟨?_,?_⟩
    ·rw[ZW,kd (by omega),qU (by omega)];simp only[kn,ko,qY (show i<4611686018427387904 by omega),qMs,ke,EM,qF9];rw[qK (n:=v-fine) (by omega)];cases tch (ds.getD i du).Box ⟨r.X,r.Y,s⟩<;>rfl
    ·unfold qF9;cases tch (ds.getD i du).Box ⟨r.X,r.Y,s⟩ with
     |true=>simp only[kn];omega
     |false=>simp only[kp];omega)
   (λn v _=>by rw[ZW,ka (by omega)];rfl) (price p (s.B-s.A)).1 (by omega)
  rw[show((0:Nat):Int)=0 from rfl,kF] at k;rw[k.1];unfold WL at ha⊢;rw[qGH] at ha⊢;cases hf2:findN (bad3 ds ⟨r.X,r.Y,s⟩) 0 ds.length with
  |inl e=>rw[hf2] at ha;cases ha
  |inr u=>
   simp only[ke]
   congr 1
   unfold imax;split<;>split<;>omega
theorem qY5 {l:List qC} (h:VSol l) {ds:List qF} (hd:ds.length<=64) {p:Product} (hv:VP p) {r:Rect} (hr:VR r) {fine z:Int} (hf:0<=fine/\fine<=1000000) (h0:0<=z) (h1:z<=20000) (st:Int×Bool×Span):
  yJ l ds p r fine z FUEL st.1 st.2.1 0 st.2.2=some (bif dimOk r p then qDn (viewOf l ds p r) fine z st else st):=by
 have hll:=hv.ll;have k:=zR p.Lengths.length (λn (s:Int×Bool×Span) i=>yJ l ds p r fine z n s.1 s.2.1 i s.2.2) (λi st=>bif dimOk r p then OF st (worthV (viewOf l ds p r) (spanAt p z i) fine) (spanAt p z i) else st) (λs=>s) (λ_ _=>True) 0 (by omega) (by omega)
  (λn i s hi _=>⟨by
   obtain⟨s1,s2,s3⟩:=s;have lb:=hv.lb i hi
   try simp only
   rw[yJ,kd (by omega),qU (by omega)];simp only[kn,ko,qY (show i<4611686018427387904 by omega)];rw[qK (n:=z+p.Lengths.getD i du) (by omega)];rw[show(Box.mk r.X r.Y ⟨z,z+p.Lengths.getD i du⟩)=⟨r.X,r.Y,spanAt p z i⟩ from rfl,qZI h hd hv hr fine];simp only[ke];cases hdm:dimOk r p with
   |false=>simp only[Bool.false_and,uq,kn,kp,KY,qY (show i<4611686018427387904 by omega)]
   |true=>
    simp only[Bool.true_and,kn];cases ha:(worthV (viewOf l ds p r) (spanAt p z i) fine).2 with
    |false=>
     have:OF (s1,s2,s3) (worthV (viewOf l ds p r) (spanAt p z i) fine) (spanAt p z i)=(s1,s2,s3):=by unfold OF;rw[ha];rfl
     rw[this];simp only[uq,kn,KY,qY (show i<4611686018427387904 by omega)]
    |true=>
     rw[qZY h hd hv hf ha];simp only[ke,ky,kp,CN,KY,OF,ko,qY (show i<4611686018427387904 by omega)];rw[ha,qK (n:=z+p.Lengths.getD i du) (by omega)];cases s2<;>cases decide ((worthV (viewOf l ds p r) (spanAt p z i) fine).1>s1)<;>rfl,trivial⟩)
  (λn s _=>by rw[yJ,ka (by omega)];rfl) st trivial
 rw[show((0:Nat):Int)=0 from rfl,kF] at k;rw[k.1];cases dimOk r p with
 |true=>rfl
 |false=>
  have:∀m,foldN (λi (st:Int×Bool×Span)=>bif false then OF st (worthV (viewOf l ds p r) (spanAt p z i) fine) (spanAt p z i) else st) 0 m st=st:=λm=>by
   induction m with
   |zero=>rfl
   |succ m ih=>rw[yE,ih];rfl
  rw[this];rfl
theorem qZJ {l:List qC} {ds:List qF} {p:Product} {r:Rect} {step fine:Int} (hs:VSol l) (hd:WK ds=0) (hp:wI [p]=0) (hv:VP p) (hr:VR r) (hst:1<=step/\step<=20000) (hf:0<=fine/\fine<=1000000):
  qAU l ds p r step fine=some ((bestR l ds p r step fine).2.2,(bestR l ds p r step fine).1,(bestR l ds p r step fine).2.1):=by
 have hdl:=((PO ds).1 hd).1;have sb:=qAl hs;unfold qAU FH qCS DY;rw[qOj,qOj,kd hst,kd hf,(RT l).2,(WX l).2 hs,qSz,hd,qBn,hp];simp only[ke,ky,kp,ut,kn];have hN:HB (solLen l) step<=1000000000:=by
  unfold HB;have:=Int.ediv_le_self step (show 0<=solLen l+step-1 by omega);omega
 have k:=qI3 (HB (solLen l) step) (λn (s:Int×Bool×Span) (z:Int)=>TQ l ds p r step fine n s.1 s.2.1 z s.2.2) (λk=>(k:Int)*step) (λk st=>bif dimOk r p then qDn (viewOf l ds p r) fine ((k:Int)*step) st else st) (λs=>s) (λ_ _=>True) hN
  (λn i s hi _=>⟨by
   have h1:=(qGA (by omega) hst.1).1 hi;have h0:0<=(i:Int)*step:=kC (by omega) (by omega);have e:(i:Int)*step+step=((i+1:Nat):Int)*step:=by rw[Int.natCast_add,uF];simp
   try simp only
   rw[TQ,(YA l).2,KF hs];simp only[ke];rw[kd h1,qY5 hs hdl hv hr hf h0 (by omega) s,qK (by omega),e];rfl,trivial⟩)
  (λn s _=>by
   have h1:¬((HB (solLen l) step:Nat):Int)*step<solLen l:=λh=>by have:=(qGA (by omega) hst.1).2 h;omega
   try simp only
   rw[TQ,(YA l).2,KF hs];simp only[ke];rw[ka h1];rfl) (0,false,⟨0,0⟩) trivial
 simp only[Int.natCast_zero,uJ] at k;rw[k.1];unfold bestR qPJ;cases dimOk r p with
 |true=>rfl
 |false=>
  have:∀m,foldN (λk (st:Int×Bool×Span)=>bif false then qDn (viewOf l ds p r) fine ((k:Int)*step) st else st) 0 m (0,false,⟨0,0⟩)=(0,false,⟨0,0⟩):=λm=>by
   induction m with
   |zero=>rfl
   |succ m ih=>rw[yE,ih];rfl
  rw[this];rfl
theorem q1X {l:List qC} {ds:List qF} {p:Product} {r:Rect} {w:Saw} {t:Rates} (hs:VSol l) (hd:WK ds=0) (hp:wI [p]=0) (hv:VP p) (hr:VR r) (hw:VW w t):qBp l ds p r w t=some (AR l ds p r w t):=by
 unfold qBp AR;rw[qZJ hs hd hp hv hr hw.step hw.fine];have B:=qOi (l:=l) (ds:=ds) (p:=p) (r:=r) (step:=w.Step) hw.fine.1 hv;generalize bestR l ds p r w.Step t.Fine=b at*;obtain⟨v,f,z⟩:=b;simp only[ke] at*;cases f with
 |false=>rfl
 |true=>
  obtain⟨b1,b2,b3⟩:=B;have b3:=b3 rfl;simp only at b1 b2 b3;simp only[ky,kp,kn];have sb:=qAl hs;have tr:=hw.trim;rw[(YA l).2,KF hs];simp only[ke,qTr hs,qP9 hs];rw[qK (n:=z.A-w.Trim) (by omega),qK (n:=z.B+w.Trim) (by omega)];have v1:=EI hs r.X r.Y ⟨0,solLen l⟩;have v2:=EI hs r.X r.Y z;have v3:=EI hs r.X r.Y ⟨imax 0 (z.A-w.Trim),z.A⟩;have v4:=EI hs r.X r.Y ⟨z.B,imin (z.B+w.Trim) (solLen l)⟩;generalize volS l r.X r.Y ⟨0,solLen l⟩=x1 at*;generalize volS l r.X r.Y z=x2 at*;generalize volS l r.X r.Y ⟨imax 0 (z.A-w.Trim),z.A⟩=x3 at*;generalize volS l r.X r.Y ⟨z.B,imin (z.B+w.Trim) (solLen l)⟩=x4 at*
  have m1:=jL (a:=t.Dust) (b:=x3+x4) (m:=1000) (n:=57600000000) (by have:=hw.dust;omega) (by have:=hw.dust;omega) (by omega) (by omega) (by omega) (by omega);have m2:=jL (a:=t.Chip) (b:=x1-x2-(x3+x4)) (m:=1000) (n:=86400000000) (by have:=hw.chip;omega) (by have:=hw.chip;omega) (by omega) (by omega) (by omega) (by omega);rw[qK (n:=1000000*v) (by omega),qK (n:=x3+x4) (by omega),qK (n:=x1-x2) (by omega),qK (n:=x1-x2-(x3+x4)) (by omega)];generalize t.Dust*(x3+x4)=y1 at*;generalize t.Chip*(x1-x2-(x3+x4))=y2 at*
  rw[qK (n:=y1) (by omega),qK (n:=y2) (by omega),qK (n:=1000000*v+y1) (by omega),qK (by omega)]
theorem qXv {l:List qC} {ds:List qF} {ps:List Product} {r:Rect} {w:Saw} {t:Rates} (h:VE l ds ps r w t) (z:Int) {j:Nat} (hj:j<(zH ps z).1.length):
  ZN l ds ps r w t (zH ps z) (j:Int) FUEL [] 0=some (BC l ds (ps.getD ((zH ps z).2.getD j du).toNat du) r w t ((zH ps z).1.getD j du)):=by
 obtain⟨s1,s2,i,hi,ei,vp,c1⟩:=qIJ h.pr z hj;have hsl:=(qQ1 h.pr z).len;have hr:=h.vr;have hr':=hr;unfold VR at hr';have hw:=h.vw;have hp:=hw.pitch;have hd:WK ds=0:=(PO ds).2 ⟨h.dl,h.dd⟩;rw[ei,ko];generalize hsz:(zH ps z).1.getD j du=sz at*;have k:=zR (wid r-sz+1).toNat (λn (s:List Int) x=>ZN l ds ps r w t (zH ps z) (j:Int) n s x) (λx s=>s++[YI l ds (ps.getD i du) r w t sz x]) (λs=>s)
  (λx s=>s=(List.range x).map (YI l ds (ps.getD i du) r w t sz)) 0 (by omega) (by unfold wid;omega)
  (λn x s hx hs=>by
   unfold wid at hx;have hlen:s.length=x:=by rw[hs];simp
   refine⟨?_,by rw[hs,kW,kH];rfl⟩;rw[ZN];simp only[ko,hsz,ei];rw[ZQ (show(0:Int)<=(j:Int) by omega) (show(j:Int)<((zH ps z).1.length:Int) by omega),qK (n:=(x:Int)+sz) (by omega),qK (n:=r.X.B-r.X.A) (by omega),kd (by omega),nz_t (by omega),qU (by omega),qU (by omega),qNm hr (by omega) (by omega)];simp only[kn,ke,CG,qY (show x<4611686018427387904 by omega)];rw[wO (by omega),q1X h.sol hd c1 vp (qQY hr (a:=(x:Int)) (b:=(x:Int)+sz) (by omega) (by omega) (by omega)) hw];simp only[kn,ke,YI];have em:Int.tmod (x:Int) w.Pitch=(x:Int) % w.Pitch:=uM (by omega);rw[em];by_cases c:(x:Int) % w.Pitch=0
   ·rw[if_pos c,c];rfl
   ·rw[if_neg c,show((x:Int) % w.Pitch==0)=false by rw[kL];exact c];rfl)
  (λn s _=>by
   rw[ZN];simp only[ko,hsz];unfold wid;rw[ZQ (show(0:Int)<=(j:Int) by omega) (show(j:Int)<((zH ps z).1.length:Int) by omega),qK (n:=(((r.X.B-r.X.A-sz+1).toNat:Nat):Int)+sz) (by omega),qK (n:=r.X.B-r.X.A) (by omega),ka (by omega)];rfl) [] rfl
 rw[show((0:Nat):Int)=0 from rfl,kF] at k;rw[k.1,k.2];rfl
theorem q0O {l:List qC} {ds:List qF} {ps:List Product} {r:Rect} {w:Saw} {t:Rates} (h:VE l ds ps r w t) (z:Int):KZ l ds ps r w t (zH ps z) FUEL 0 []=some (qCQ l ds ps r w t z):=by
 have hl:=(qCZ ps z).1
 let g:Nat->List Int:=λj=>BC l ds (ps.getD ((zH ps z).2.getD j du).toNat du) r w t ((zH ps z).1.getD j du)
 have k:=zR (zH ps z).1.length (λn (s:List (List Int)) x=>KZ l ds ps r w t (zH ps z) n x s) (λj s=>s++[g j]) (λs=>s) (λj s=>s=(List.range j).map g) 0 (by omega) (by omega)
  (λn j s hj hs=>by
   have hlen:s.length=j:=by rw[hs];simp
   refine⟨?_,by rw[hs,kW,kH];rfl⟩;rw[KZ,kd (by omega),qXv h z hj];simp only[kn,ke];rw[wO (by omega),qY (by omega)];rfl)
  (λn s _=>by rw[KZ,ka (by omega)];rfl) [] rfl
 rw[show((0:Nat):Int)=0 from rfl,kF] at k;rw[k.1,k.2];rfl
theorem qZT {l:List qC} {ds:List qF} {ps:List Product} {r:Rect} {w:Saw} {t:Rates} (h:VE l ds ps r w t):PA l r t FUEL 0 [] []=some ((List.range (wid r).toNat).map (λx=>t.Chip*sliv l r x),(List.range (wid r).toNat).map (λx=>t.Dust*sliv l r x)):=by
 have hr:=h.vr;unfold VR at hr;have hw:=h.vw;have k:=zR (wid r).toNat (λn (s:List Int×List Int) x=>PA l r t n x s.1 s.2) (λx s=>(s.1++[t.Chip*sliv l r x],s.2++[t.Dust*sliv l r x])) (λs=>s)
  (λx s=>s=((List.range x).map (λx=>t.Chip*sliv l r x),(List.range x).map (λx=>t.Dust*sliv l r x))) 0 (by omega) (by unfold wid;omega)
  (λn x s hx hs=>by
   unfold wid at hx;subst hs;have sb:=qQl h.sol r x;have m1:=jL (a:=t.Chip) (b:=sliv l r x) (m:=1000) (n:=28800000000) (by have:=hw.chip;omega) (by have:=hw.chip;omega) (by omega) (by omega) (by omega) (by omega);have m2:=jL (a:=t.Dust) (b:=sliv l r x) (m:=1000) (n:=28800000000) (by have:=hw.dust;omega) (by have:=hw.dust;omega) (by omega) (by omega) (by omega) (by omega);refine⟨?_,by simp only[kW,kH];rfl⟩;simp only;rw[PA,qK (n:=r.X.B-r.X.A) (by omega),kd (by omega),qK (n:=(x:Int)+1) (by omega),qNm h.vr (by omega) (by omega)];simp only[kn,ke,qP9 h.sol,kN,uf];rw[wO (by omega)];simp only[kn]
   rw[show volS l (GN r (x:Int) ((x:Int)+1)).X (GN r (x:Int) ((x:Int)+1)).Y ⟨0,solLen l⟩=sliv l r x from rfl,qK (n:=t.Chip*sliv l r x) (by omega),qK (n:=t.Dust*sliv l r x) (by omega),show(x:Int)+1=((x+1:Nat):Int) by omega])
  (λn s _=>by
   try simp only
   unfold wid;rw[PA,qK (n:=r.X.B-r.X.A) (by omega),ka (by omega)];rfl) ([],[]) rfl
 rw[show((0:Nat):Int)=0 from rfl,kF] at k;rw[k.1,k.2]
theorem q1E (l:List qC) (ds:List qF) (ps:List Product) (r:Rect) (w:Saw) (t:Rates):qBU l ds ps r w t=some (qK9 l ds ps r w t):=by
 unfold qBU qK9;rw[qWu];simp only[ke];by_cases c:chkE l ds ps r w t=0
 ·have h:=JW.1 c;have hr:=h.vr;unfold VR at hr;rw[if_pos c,c,qK (n:=r.Y.B-r.Y.A) (by omega),(qIY ps _).2,qK (n:=r.X.B-r.X.A) (by omega)];simp only[kv,kp,ke,q0O h,qZT h];rfl
 ·rw[if_neg c,show(chkE l ds ps r w t !=0)=true by rw[ua];exact c];rfl
theorem qPT (l:List qC) (ds:List qF) (ps:List Product) (r:Rect) (w:Saw) (t:Rates):EH l ds ps r w t=some (jR l ds ps r w t):=by
 unfold EH jR;rw[q1E];unfold qK9;by_cases c:chkE l ds ps r w t=0
 ·have h:=JW.1 c;have hr:=h.vr;have hr':=hr;unfold VR at hr';have vl:=CW h;rw[if_pos c,if_pos c];have sl:=qCZ ps (r.Y.B-r.Y.A);have sl2:=qPu (ps:=ps) (r.Y.B-r.Y.A);have kf:=vl.kerf;have hsz:(lineS l ds ps r w t).Sizes=(zH ps (r.Y.B-r.Y.A)).1:=rfl;have hlen:(lineS l ds ps r w t).Len=r.X.B-r.X.A:=rfl;simp only[ke,kv,kp];rw[show(Line.mk (lineS l ds ps r w t).Len (lineS l ds ps r w t).Kerf (lineS l ds ps r w t).Pitch (lineS l ds ps r w t).Sizes (lineS l ds ps r w t).Gain (lineS l ds ps r w t).Chip (lineS l ds ps r w t).Dust)=lineS l ds ps r w t from rfl,qUY vl];simp only[ke,kv,kp]
  rw[qK (n:=r.Y.B-r.Y.A) (by omega),(qIY ps _).2];simp only[ke];generalize ha:lineS l ds ps r w t=a at*;have ek:w.Kerf=a.Kerf:=by rw[<-ha];rfl
  have bl:(wE a).length<=3000:=qEQ a 3000 0;have bm:=qB2 vl 3000 0 (by have:=vl.len;omega);have k:=zR (wE a).length (λn (s:List Span×List (List Node)) x=>UA r (a,0) (zH ps (r.Y.B-r.Y.A)) (wE a,(bst a 0).value,0) n s.1 s.2 x)
   (λj s=>(s.1++[(ptOf a r.X.A (bdN ps (r.Y.B-r.Y.A)) ((wE a).getD j du)).1],s.2++[(ptOf a r.X.A (bdN ps (r.Y.B-r.Y.A)) ((wE a).getD j du)).2])) (λs=>s)
   (λj s=>s.1=((wE a).take j).map (λx=>(ptOf a r.X.A (bdN ps (r.Y.B-r.Y.A)) x).1)/\s.2=((wE a).take j).map (λx=>(ptOf a r.X.A (bdN ps (r.Y.B-r.Y.A)) x).2)) 0 (by omega) (by omega)
   (λn j s hj hs=>by
    obtain⟨s1,s2⟩:=s;obtain⟨e1,e2⟩:=hs;simp only at e1 e2;have tk:(wE a).take (j+1)=(wE a).take j++[(wE a).getD j du]:=by rw[List.take_add_one,kg,kt hj];rfl
    refine⟨?_,by simp only[e1,tk,kH];rfl,by simp only[e2,tk,kH];rfl⟩;obtain⟨i,q,ex,hi,hq,hg⟩:=bm _ (jE hj);have sz:=vl.sz i hi;rw[hsz] at sz hi;have hq':(q:Int)+(zH ps (r.Y.B-r.Y.A)).1.getD i du<=r.X.B-r.X.A:=by
     unfold szAt at hq;rw[hsz,hlen] at hq;omega
    simp only;rw[UA];simp only[ko,show(wE a).getD j du=⟨(i:Int),(q:Int)⟩ from ex,hsz];rw[kd (by omega),qU (by omega),qU (by omega),qU (by omega),qK (n:=(q:Int)+_) (by omega),qNm hr (by omega) (by omega),yT (by rw[e1];simp;omega) (by omega)];simp only[kn,ke,qY (show j<4611686018427387904 by omega)];rw[yT (by rw[e2];simp;omega) (by omega)];simp only[kn,ke,ptOf,bdN,ko,GN,hsz])
   (λn s _=>by rw[UA];simp only;rw[ka (by omega)];rfl) ([],[]) ⟨rfl,rfl⟩
  rw[show((0:Nat):Int)=0 from rfl,kF] at k;rw[k.1];obtain⟨k2,k3⟩:=k.2;rw[gj] at k2 k3;simp only[ke];rw[k2,k3,show(wE a).map (λx=>(ptOf a r.X.A (bdN ps (r.Y.B-r.Y.A)) x).1)=(wD ps r a).map Prod.fst by unfold wD;rw[List.map_map];rfl,show(wE a).map (λx=>(ptOf a r.X.A (bdN ps (r.Y.B-r.Y.A)) x).2)=(wD ps r a).map Prod.snd by unfold wD;rw[List.map_map];rfl,ek];have gd:=qC5 vl r.X.A (bdN ps (r.Y.B-r.Y.A)) 3000 0 (by have:=vl.len;omega);have nc:=qHL a r.X.A (bdN ps (r.Y.B-r.Y.A)) 1 (wE a) (λx _=>by simp[bdN])
  rw[hlen,show r.X.A+(r.X.B-r.X.A)=r.X.B by omega,show r.X.A+((0:Nat):Int)=r.X.A by omega] at gd;replace gd:VB a.Kerf (axS r 2).B (axS r 2).A (wD ps r a):=gd;rw[qYb hr (.inl rfl) kf (by unfold wD;simp;omega) gd (by unfold wD;omega)];unfold qI2 rowR;rw[show axS r 2=r.X from rfl];simp only[ke];split
  ·rfl
  ·rfl
 ·rw[if_neg c,if_neg c];simp only[ke];rw[show(chkE l ds ps r w t !=0)=true by rw[ua];exact c];rfl
end Saw
end Go.SL

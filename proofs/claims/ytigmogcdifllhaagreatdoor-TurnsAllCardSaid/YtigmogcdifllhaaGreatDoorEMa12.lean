/- PlanBests. -/
import Derived.Test.YtigmogcdifllhaaGreatDoorEMa11
import Derived.Test.YtigmogcdifllhaaGreatDoorEMa7
import Derived.Test.YtigmogcdifllhaaGreatDoorEMod
set_option linter.unusedVariables false
set_option linter.unusedSimpArgs false
namespace Go.SL
namespace Saw
theorem qXI (s:qF):qDV s=some (VF (QO s)):=by
 have h:=LA s;unfold qDV;rw[qOV s];simp only[kg];generalize QO s=t at*;have b:=h.len;have k2:=jJ t.Rows (λn (a:Int) x=>GH t n a x) (λx=>(x:Int)) (λ_ a s=>s+10*lenS a) (λs=>s) (λx s=>0<=s/\s<=12000*(x:Int)) (by omega)
  (λn x a hx hi=>by
   have l:=h.len_b hx;refine⟨?_,by omega⟩;rw[GH,ka (show(x:Int)<_ by omega),qJ (by omega),qM (by omega)];simp only[kp,ko];rw[l.2.2,qD (n:=lenS _) (by omega),qD (n:=10*lenS _) (by omega),qD (by omega)])
  (λn a _=>by rw[GH];simp) (i:=0) rfl 0 (by omega)
 rw[DV (λ_ a=>10*lenS a),qIj] at k2;have e:=qHS h (λ_ a=>lenS a) (λ_=>rfl);rw[e,dy] at k2;rw[k2.1];rfl
theorem qVy {l:List qB} (h:VSol l):qBv l=some (volT l):=by
 have hl:=h.len;unfold qBv;rw[(UK l).2,(KR l).2 h];simp only[kg,kA,kr];have k1:=jJ l (λn (a:Int) x=>PQ l n a x) (λx=>(x:Int)) (λ_ a s=>s+a.Len*VF a.Sec) (λs=>s) (λx s=>s=sumN x (λi=>(l.getD i daa).Len*VF (l.getD i daa).Sec)) (by omega)
  (λn x a hx hi=>by
   have p:=qBc h (k:=x) (by omega);have p':=qBc h (k:=x+1) (by omega);have b1:=(h.bd (i:=x) (by omega)).2;have b2:=(h.bd (i:=x+1) (by omega)).2;have vs:=(h.at hx).1;have ar:=qNC vs;have ln:=(h.at hx).2.2.1;have l2:(l.getD x daa).Len<=20000:=by have:=zZ l x;have:=(h.bd (i:=x) (by omega)).1;omega
   have pr:=uP l2 ar.2 ar.1 (by omega);have pn:=ky (show 0<=(l.getD x daa).Len by omega) ar.1;refine⟨?_,by rw[hi];rfl⟩;rw[PQ,ka (show(x:Int)<_ by omega),qJ (by omega),qM (by omega)];simp only[kp,ko,qXI,kg];rw[ST vs];rw[qD (n:=(l.getD x daa).Len*VF (l.getD x daa).Sec) (by omega),qD (by omega)])
  (λn a _=>by rw[PQ];simp) (i:=0) rfl 0 rfl
 rw[k1.1,DV (λ_ (a:qB)=>a.Len*VF a.Sec),dy];simp only[kg,kz];rfl
variable {l :List qB} {ds:List qC} {ps:List Product} {F:Rect} {w:Saw} {t:Rates}
theorem qTe (l:List qB) (ds:List qC) (ps:List Product) (F:Rect) (w:Saw) (t:Rates):qGA l ds ps F w t=some (chkE l ds ps F w t):=by
 rw[<-qRf];rfl
theorem qJF (h:VR F) {p q:Int} (h1: -2000<=p/\p<=2000) (h2: -2000<=q/\q<=2000):MU F p q=some (strR F p q):=by
 unfold VR at h;unfold MU strR;rw[qD (n:=F.Y.A+p) (by omega),qD (n:=F.Y.A+q) (by omega)]
theorem qU6 (n:List Node) (hl:n.length<=1000000):qBC n=some (hasB n):=by
 unfold qBC hasB;have:=YW n (λm x=>PI n m x) (λa=>if a.Kind==1 then some true else none) hl
  (λm x hx=>by
   rw[PI,ka (by omega),qJ (by omega),qM (by omega)];simp only[kp,ko];cases (n.getD x daa).Kind==1<;>rfl)
  (λm=>by rw[PI];simp)
 rw[this];simp only[kg];clear this hl
 induction n with
 |nil=>rfl
 |cons a n ih=>
  rw[findE,List.any_cons];cases h:a.Kind==1 with
  |true=>rfl
  |false=>simpa using ih
theorem qWX (h:VE l ds ps F w t) {j:Nat} (hj:j<(hts ps).length):
  WN l ds ps F w t (hts ps) (j:Int) FUEL [] 0=some ((List.range (nRow F ((hts ps).getD j daa))).map (λp=>(stG l ds ps F w t ((hts ps).getD j daa) p).1)):=by
 have hb:=qMs h.pr (zK hj);have hr:=h.vr;have hr':=hr;unfold VR at hr';have hp:=h.vw.pitch;have hin:inb (j:Int) (hts ps).length=true:=qJ (by omega);generalize hsz:(hts ps).getD j daa=sz at*;have k:=zA (nRow F sz) (λn (s:List Int) x=>WN l ds ps F w t (hts ps) (j:Int) n s x) (λx s=>s++[(stG l ds ps F w t sz x).1]) (λs=>s)
  (λx s=>s=(List.range x).map (λp=>(stG l ds ps F w t sz p).1)) 0 (by omega) (by unfold nRow hei;omega)
  (λn x s hx hs=>by
   unfold nRow hei at hx;have hl1:s.length=x:=by rw[hs];simp
   refine⟨?_,by rw[hs,ul,kU];rfl⟩;rw[WN,hin];unfold qAA MB;simp only[ko,hsz];rw[qD (n:=(x:Int)+sz) (by omega),qD (n:=F.Y.B-F.Y.A) (by omega),ka (by omega),nz_t (by omega),qJF hr (by omega) (by omega),wJ (by omega),qM (by omega)];simp only[kp,kg,qMj];rw[qU6 _ (by have:=qO6 l ds ps (strR F x (x+sz)) w t;omega)];have em:Int.tmod (x:Int) w.Pitch=(x:Int) % w.Pitch:=gc (by omega);rw[em];unfold stG;simp only[kg];by_cases c:(x:Int) % w.Pitch=0
   ·rw[if_pos c,c];simp only[uU,kp];by_cases c2:(yL l ds ps (strR F x (x+sz)) w t).2.2=0
    ·have c2':((yL l ds ps (strR F x (x+sz)) w t).2.2==0)=true:=by simpa using c2
     rw[c2',kp];cases hbb:hasB (yL l ds ps (strR F x (x+sz)) w t).1 with
     |true=>rw[if_pos ⟨c2,rfl⟩];rfl
     |false=>rw[if_neg (by simp)];rfl
    ·have c2':((yL l ds ps (strR F x (x+sz)) w t).2.2==0)=false:=by simpa using c2
     rw[c2',kr,if_neg (λhh=>c2 hh.1)];simp only[kr]
   ·rw[if_neg c,show((x:Int) % w.Pitch==0)=false by rw[kC];exact c];simp only[kr])
  (λn s _=>by
   rw[WN,hin];simp only[ko,hsz];unfold nRow hei;rw[qD (n:=F.Y.B-F.Y.A) (by omega),qD (n:=_+sz) (by omega),ke (by omega)];rfl) [] rfl
 have k1:=k.1;rw[k.2] at k1;exact k1
theorem qPh (h:VSol l) (r:Rect):EP l r=some (qZ l r):=by
 unfold EP;rw[(TH l).2,PL h];simp only[kg,qIE h];rfl
theorem qUV (h:VE l ds ps F w t):qEc l ds ps F w t=some (zM l ds ps F w t):=by
 have hr:=h.vr;have hr':=hr;unfold VR at hr';have hh:=qOx ps;unfold qEc;rw[qTk];simp only[kg];have k1:=zA (hts ps).length (λn (s:List (List Int)) x=>GI l ds ps F w t (hts ps) n x s) (λj s=>s++[(List.range (nRow F ((hts ps).getD j daa))).map (λp=>(stG l ds ps F w t ((hts ps).getD j daa) p).1)]) (λs=>s)
  (λx s=>s=(List.range x).map (λj=>(List.range (nRow F ((hts ps).getD j daa))).map (λp=>(stG l ds ps F w t ((hts ps).getD j daa) p).1))) 0 (by omega) (by omega)
  (λn x s hx hs=>by
   have hl1:s.length=x:=by rw[hs];simp
   refine⟨?_,by rw[hs,ul,kU];rfl⟩;rw[GI,ka (by omega),qWX h hx,qM (by omega)];simp only[kp,kg];rw[wJ (by omega)];rfl)
  (λn s _=>by rw[GI,ke (by omega)];rfl) [] rfl
 have e1:=k1.1;rw[k1.2] at e1;have k2:=zA (hei F).toNat (λn (s:List Int×List Int) x=>VM l F t n x s.1 s.2) (λp s=>(s.1++[t.Chip*qZ l (strR F p (p+1))],s.2++[t.Dust*qZ l (strR F p (p+1))])) (λs=>s)
  (λx s=>s=((List.range x).map (λp=>t.Chip*qZ l (strR F (p:Nat) ((p:Nat)+1))),(List.range x).map (λp=>t.Dust*qZ l (strR F (p:Nat) ((p:Nat)+1))))) 0 (by omega) (by unfold hei;omega)
  (λn x s hx hs=>by
   unfold hei at hx;have hl1:s.1.length=x:=by rw[hs];simp
   have hl2:s.2.length=x:=by rw[hs];simp
   refine⟨?_,by rw[hs,ul,kU,kU];rfl⟩;have wb:=qCm h.sol (strR F x (x+1));have m1:=wS (a:=t.Chip) (b:=qZ l (strR F x (x+1))) (m:=1000) (n:=28800000000) (by have:=h.vw.chip;omega) (by have:=h.vw.chip;omega) (by omega) wb.2 (by omega) (by omega);have m2:=wS (a:=t.Dust) (b:=qZ l (strR F x (x+1))) (m:=1000) (n:=28800000000) (by have:=h.vw.dust;omega) (by have:=h.vw.dust;omega) (by omega) wb.2 (by omega) (by omega);rw[VM,qD (n:=F.Y.B-F.Y.A) (by omega),ka (by omega),qD (n:=(x:Int)+1) (by omega),qJF hr (by omega) (by omega),wJ (by omega),wJ (by omega)];simp only[kp,kg,qPh h.sol]
   rw[qD (n:=t.Chip*_) (by omega),qD (n:=t.Dust*_) (by omega)];rfl)
  (λn s _=>by
   rw[VM,qD (n:=F.Y.B-F.Y.A) (by omega)];unfold hei;rw[ke (by omega)];rfl) ([],[]) rfl
 have e2:=k2.1;rw[k2.2] at e2;rw[show((0:Nat):Int)=0 from rfl] at e1 e2;rw[e1];simp only[kg];rw[e2,qD (n:=F.Y.B-F.Y.A) (by omega)];rfl
theorem qYR {h:Int} {q:Nat} (hg:¬(stG l ds ps F w t h q).1<0):(stG l ds ps F w t h q).2=(yL l ds ps (strR F q (q+h)) w t).1:=by
 unfold stG at hg⊢;by_cases c:(q:Int) % w.Pitch=0
 ·rw[if_pos c] at hg⊢;by_cases c1:(yL l ds ps (strR F q (q+h)) w t).2.2=0/\hasB (yL l ds ps (strR F q (q+h)) w t).1=true
  ·rw[if_pos c1]
  ·rw[if_neg c1] at hg;simp at hg
 ·rw[if_neg c] at hg;simp at hg
theorem qVA (l:List qB) (ds:List qC) (ps:List Product) (F:Rect) (w:Saw) (t:Rates):qEm l ds ps F w t=some (qAg l ds ps F w t):=by
 unfold qEm qAg;rw[qTe];simp only[kg];by_cases c:chkE l ds ps F w t=0
 ·have h:=DT.1 c;have hr:=h.vr;have hr':=hr;unfold VR at hr';have vl:=qLL h;have ln:=vl.len;rw[c,if_pos rfl,qUV h];simp only[kg,kA,kr];rw[show(Line.mk (zM l ds ps F w t).Len (zM l ds ps F w t).Kerf (zM l ds ps F w t).Pitch (zM l ds ps F w t).Sizes (zM l ds ps F w t).Gain (zM l ds ps F w t).Chip (zM l ds ps F w t).Dust)=zM l ds ps F w t from rfl,qRr vl];simp only[kg,kA,kr];have hbl:(wD (zM l ds ps F w t)).length<=3000:=qEP _ _ _;have hsz:(zM l ds ps F w t).Sizes=hts ps:=rfl;have hlen:(zM l ds ps F w t).Len=hei F:=rfl
  have k:=jJ (wD (zM l ds ps F w t)) (λn (s:List Span×List (List Node)) x=>VK l ds ps F w t (zM l ds ps F w t) (wD (zM l ds ps F w t),(bst (zM l ds ps F w t) 0).value,0) n s.1 s.2 x) (λx=>(x:Int)) (λ_ x s=>(s.1++[(ptOf (zM l ds ps F w t) F.Y.A (stN l ds ps F w t) x).1],s.2++[(ptOf (zM l ds ps F w t) F.Y.A (stN l ds ps F w t) x).2])) (λs=>s)
   (λx s=>s.1.length=x/\s.2.length=x) (by omega)
   (λn x s hx hs=>by
    obtain⟨i,q,ey,hi,hq,hg⟩:=qCf vl 3000 0 (by omega) _ (zK hx);have ey':(wD (zM l ds ps F w t)).getD x daa=⟨(i:Int),(q:Int)⟩:=ey;have sb:=qMs h.pr (zK hi);have hi':i<(hts ps).length:=hi;have hq':(q:Int)+(hts ps).getD i daa<=hei F:=by unfold szAt at hq;rw[hlen] at hq;have:(zM l ds ps F w t).Sizes.getD i daa=(hts ps).getD i daa:=rfl;omega
    have hb:hei F<=1200:=by unfold hei;omega
    refine⟨?_,by simp[hs.1],by simp[hs.2]⟩;rw[VK,ka (show(x:Int)<_ by simp only;omega),ZT (by omega) (by simp only;omega)];simp only[ko,ey'];have hg':=hg;rw[gnP_eq l ds ps F w t hi' hq'] at hg';have es:=qYR hg';rw[hsz,qJ (by omega),qD (n:=(q:Int)+(hts ps).getD i daa) (by omega),qJF hr (by omega) (by omega),qM (by omega)];simp only[kp,kg,qMj];rw[wJ (by omega),wJ (by omega),<-es];rfl)
   (λn s _=>by rw[VK];simp) (i:=0) rfl ([],[]) ⟨rfl,rfl⟩
  rw[k.1];have fold2:∀(L:List zR) (i:Nat) (s:List Span×List (List Node)),foldi (λ_ x (s:List Span×List (List Node))=>(s.1++[(ptOf (zM l ds ps F w t) F.Y.A (stN l ds ps F w t) x).1],s.2++[(ptOf (zM l ds ps F w t) F.Y.A (stN l ds ps F w t) x).2])) i L s=(s.1++(L.map (ptOf (zM l ds ps F w t) F.Y.A (stN l ds ps F w t))).map Prod.fst,s.2++(L.map (ptOf (zM l ds ps F w t) F.Y.A (stN l ds ps F w t))).map Prod.snd):=by
   intro L
   induction L with
   |nil=>intro i s;simp[foldi]
   |cons x L ih=>
    intro i s;show foldi _ (i+1) L _=_;rw[ih];simp
  rw[fold2];simp only[kg,uj];have hnd:ndC (JC l ds ps F w t)+1<=1000000:=by
   have:=qHp (zM l ds ps F w t) F.Y.A (stN l ds ps F w t) 127 (wD (zM l ds ps F w t)) (λx _=>(stG_b l ds ps F w t _ _).2);unfold JC;have h3:(3+127)*(wD (zM l ds ps F w t)).length<=(3+127)*3000:=dz _ hbl;omega
  have hrow:=qUH hr (axis:=3) (kerf:=w.Kerf) (.inr rfl) h.vw.kerf (L:=JC l ds ps F w t) (by unfold JC;simp;omega) (qO3 h (stN l ds ps F w t)) hnd;have hrow':FL F 3 w.Kerf ((JC l ds ps F w t).map Prod.fst) ((JC l ds ps F w t).map Prod.snd)=some (rowR (qEt l ds ps F w t)):=hrow;show((FL F 3 w.Kerf ((JC l ds ps F w t).map Prod.fst) ((JC l ds ps F w t).map Prod.snd)).bind _)=_;rw[hrow'];unfold rowR;simp only[kg];by_cases c2:(qEt l ds ps F w t).length<=127
  ·rw[if_pos c2,if_pos c2,qVy h.sol,qPh h.sol];simp only[kA,kr,kg];have bv:=qRd h.sol;have b0:=qUA vl;have bw:=qCm h.sol F;have wl:=qH6 h.sol F;have m3:0<=t.Chip*(volT l-qZ l F)/\t.Chip*(volT l-qZ l F)<=1000*28800000000:=⟨ky h.vw.chip.1 (by omega),uP h.vw.chip.2 (by omega) (by omega) (by omega)⟩
   rw[qD (n:=volT l-_) (by omega),qD (n:=t.Chip*_) (by omega),qD (by omega)]
  ·rw[if_neg c2,if_neg c2];rfl
 ·have c':(chkE l ds ps F w t !=0)=true:=by simpa using c
  rw[c',if_neg c];rfl
end Saw
end Go.SL
namespace Go.SL
namespace Saw
theorem qRY {s t:Scan} (l m q:Int) (h:qA2 s q=some t) (ht:CP t):QW s q l m=some (VV t l m):=by
 unfold QW VV;rw[h];have hd:=ht.d;simp only[kg,qYm,yR];rw[QG (by omega)];simp only[kp,kg];by_cases c:(BX t l m).2=0
 ·rw[c];rfl
 ·rw[if_pos c,show((BX t l m).2 !=0)=true from ua.2 c];rfl
theorem qXh {s t:Scan} (l m q:Int) (h:qBs s q=some t):qCV s q l m=some (VV t l m):=by
 unfold qCV VV;rw[h];simp only[kg,qWK];by_cases c:(BX t l m).2=0
 ·rw[c];rfl
 ·rw[if_pos c,show((BX t l m).2 !=0)=true from ua.2 c];rfl
def cv25 (c:qQ):zN:=⟨c.Quarters,c.Pattern,c.Value⟩
def cvL (u:(List qQ×Int)⊕List qQ):(List zN×Int)⊕List zN:=Sum.elim (λr=> .inl (r.1.map cv25,r.2)) (λl=> .inr (l.map cv25)) u
theorem qTX {x:Scan} (hs:CP x) (c:List Product) (s:Saw) (r:Rates) (l m:Int):∀(n:Nat) (out:List qQ) (k:Int),SP x c s r l m n (out.map cv25) k=(jR x c s r l m n out k).map cvL
 |0,_,_=>rfl
 |n+1,out,k=>by
  rw[SP,jR];cases decide (k<4) with
  |false=>rfl
  |true=>
   obtain⟨t,e1,e2,ht⟩:=qUl x k hs;rw[qRY _ _ _ e1 ht,qXh _ _ _ e2];simp only[kp,kg];cases (VV t l m).2.2 !=0 with
   |true=>rfl
   |false=>
    rw[(qK1 _).1,(qK1 _).2];simp only[kr,kg];rw[qKw,qVA];simp only[kg,kP];cases (qAg (VV t l m).1 (VV t l m).2.1 c (bndL (valL (VV t l m).1)) s r).2.2 !=0 with
    |true=>rfl
    |false=>
     simp only[kr];cases room (out.length+1) 72 with
     |false=>rfl
     |true=>
      simp only[kp];rw[<-qTX hs c s r l m n _ _,kU];rfl
theorem qWM (l:List qB) (ds:List qC) (ps:List Product) (F:Rect) (w:Saw) (t:Rates):(qAg l ds ps F w t).1.Nodes.length<=1000000:=by
 by_cases c:(qAg l ds ps F w t).2.2=0
 ·obtain⟨_,hn,er⟩:=qYz c;rw[er];simp only;omega
 ·unfold qAg at c⊢;split
  ·rename_i h1;rw[if_pos h1] at c;split
   ·rename_i h2;rw[if_pos h2] at c;exact absurd rfl c
   ·exact ud _
  ·exact ud _
def qQS (out:List qQ):Prop:=∀p∈out,p.Pattern.Nodes.length<=1000000
def resOk (u:(List qQ×Int)⊕List qQ):Prop:=(∀v,u= .inl v->v.1=[])/\∀o,u= .inr o->qQS o/\o.length<=4
theorem qRw {x:Scan} (hs:CP x) (c:List Product) (s:Saw) (r:Rates) (l m:Int):∀(j n:Nat) (out:List qQ) (k:Int),k=4-(j:Int)->out.length+j<=4->qQS out->∃u,jR x c s r l m (n+j+1) out k=some u/\resOk u
 |0,n,out,k,hk,hl,ho=>by
  subst hk;refine⟨.inr out,?_,λ_ e=>(by cases e),λo e=>(by cases e;exact⟨ho,hl⟩)⟩;rw[jR];rfl
 |j+1,n,out,k,hk,hl,ho=>by
  rw[jR,ka (show k<4 by omega)];obtain⟨t,e1,e2,ht⟩:=qUl x k hs;rw[qRY _ _ _ e1 ht];simp only[kp,kg];have er:∀e:Int,resOk (.inl (([]:List qQ),e)):=λe=>⟨λ_ q=>(by cases q;rfl),λ_ q=>(by cases q)⟩
  cases (VV t l m).2.2 !=0 with
  |true=>exact⟨_,rfl,er _⟩
  |false=>
   rw[(qK1 _).1];simp only[kr,kg];rw[qKw];simp only[kg];cases (qAg (VV t l m).1 (VV t l m).2.1 c (bndL (valL (VV t l m).1)) s r).2.2 !=0 with
   |true=>exact⟨_,rfl,er _⟩
   |false=>
    rw[QG (show(out.length+1)*72<=140737488355328 by omega),qD (n:=k+1) (by omega)];simp only[kp,kr];rw[show n+(j+1)=n+j+1 by omega];refine qRw hs c s r l m j n _ (k+1) (by omega) (by simp;omega) λp hp=>?_;rcases um.1 hp with h|h
    ·exact ho p h
    ·rw[uH.1 h];exact qWM _ _ _ _ _ _
theorem qL7 (a:Pattern) (h:a.Nodes.length<=1000000):qD1 a a=some true:=by
 unfold qD1;simp only[uU,Bool.and_self,kG,kr,kA];unfold qAB;rw[kr];have:=YW a.Nodes (λn x=>VU a a n x) (λ_=>(none:Option Bool)) h
  (λn x hx=>by
   rw[VU,ka (by omega),qJ (by omega),qM (by omega)];simp only[kp,uU,Bool.and_self,kG,kr])
  (λn=>by rw[VU];simp)
 rw[this,DA.2 λ_ _=>rfl];rfl
theorem qW8 (a:qQ) (h:a.Pattern.Nodes.length<=1000000):qEd a (cv25 a)=some true:=by
 unfold qEd qHU cv25;simp only[uU,kp,qL7 _ h,kg,MG]
theorem sameAll (o:List qQ) (e:Int) (ho:qQS o) (hl:o.length<=4):ZI (o,e) (o.map cv25,e) FUEL 0=some (.inr ()):=by
 have:=YW o (λn x=>ZI (o,e) (o.map cv25,e) n x) (λ_=>(none:Option Bool)) (by omega)
  (λn x hx=>by
   have g:(o.map cv25).getD x daa=cv25 (o.getD x daa):=by
    simp[ki,ks hx]
   rw[ZI,ka (by simp only;omega),ZT (by omega) (by simp only;omega),ZT (by omega) (by simp only[kP];omega),qM (by omega)];simp only[kp,ko,g,qW8 _ (ho _ (zK hx)),kg,kG,kr])
  (λn=>by rw[ZI];simp)
 rw[this,DA.2 λ_ _=>rfl]
theorem qXD {x:Scan} (hs:CP x) (c:List Product) (s:Saw) (r:Rates) (l m:Int):∃o e,TM x c s r l m=some (o,e)/\qFV x c s r l m=some (o.map cv25,e)/\qQS o/\o.length<=4:=by
 obtain⟨u,eu,h1,h2⟩:=qRw hs c s r l m 4 4611686018427387899 [] 0 (by omega) (by simp) (λ_ h=>by cases h);have ef:4611686018427387899+4+1=FUEL:=FUEL_eq.symm;rw[ef] at eu;have er:=qTX hs c s r l m FUEL [] 0;rw[dI,eu] at er;unfold TM qFV;rw[er,eu];cases u with
 |inl v=>
  obtain⟨v1,v2⟩:=v;obtain rfl:v1=[]:=h1 _ rfl;exact⟨[],v2,rfl,rfl,λ_ h=>(by cases h),by simp⟩
 |inr o=>exact⟨o,0,rfl,rfl,(h2 _ rfl).1,(h2 _ rfl).2⟩
theorem qTg (aw:MZ=some true) (a:jY) (b:yP):AZ a b=some true:=by
 unfold AZ BM;rw[aw];obtain⟨v,e,hv⟩:=tLight a b;rw[e];cases v with
 |false=>rfl
 |true=>
  obtain⟨o,e,e1,e2,ho,hl⟩:=qXD (hv rfl) b.Products b.Saw b.Rates a.Limit a.Most;rw[kg,kG,kr,e1,e2,kg,kg];simp only[kA,kr,kP];rw[sameAll o e ho hl];rfl
def bm :Scan:=⟨[⟨0,[⟨⟨60,30⟩,true⟩,⟨⟨0,30⟩,true⟩,⟨⟨-60,30⟩,true⟩,⟨⟨-60,0⟩,true⟩,⟨⟨-60,-30⟩,true⟩,⟨⟨0,-30⟩,true⟩,⟨⟨60,-30⟩,true⟩,⟨⟨60,0⟩,true⟩]⟩,⟨3000,[⟨⟨60,30⟩,true⟩,⟨⟨0,30⟩,true⟩,⟨⟨-60,30⟩,true⟩,⟨⟨-60,0⟩,true⟩,⟨⟨-60,-30⟩,true⟩,⟨⟨0,-30⟩,true⟩,⟨⟨60,-30⟩,true⟩,⟨⟨60,0⟩,true⟩]⟩],[]⟩
def sl0 :List qB:=[⟨3000,⟨-3,[⟨-60,60⟩,⟨-60,60⟩,⟨-60,60⟩,⟨-60,60⟩,⟨-60,60⟩,⟨-60,60⟩]⟩⟩]
def sl1 :List qB:=[⟨3000,⟨-6,[⟨-30,30⟩,⟨-30,30⟩,⟨-30,30⟩,⟨-30,30⟩,⟨-30,30⟩,⟨-30,30⟩,⟨-30,30⟩,⟨-30,30⟩,⟨-30,30⟩,⟨-30,30⟩,⟨-30,30⟩,⟨-30,30⟩]⟩⟩]
def f0 :Rect:=⟨⟨-60,60⟩,⟨-30,30⟩⟩
def f1 :Rect:=⟨⟨-30,30⟩,⟨-60,60⟩⟩
def c25 :List Product:=[⟨ByteArray.mk #[112,108,97,110,107],50,100,0,0,[3000],[80]⟩]
def w25 :Saw:=⟨4,0,10,1000⟩
def r25 :Rates:=⟨0,0,0⟩
def nd0 :List Node:=[⟨2,40⟩,⟨1,0⟩,⟨0,0⟩]
def nd1 :List Node:=[⟨2,20⟩,⟨1,0⟩,⟨0,0⟩]
def z60 :List Int:=List.replicate 60 0
def z120 :List Int:=List.replicate 120 0
def g0r :List Int:=[80000000,-1,-1,-1,-1,-1,-1,-1,-1,-1,80000000]
def g1r :List Int:=[80000000,-1,-1,-1,-1,-1,-1,-1,-1,-1,80000000,-1,-1,-1,-1,-1,-1,-1,-1,-1,80000000]
def LP0 :Line:=⟨60,4,1,[50,100],[g0r,[]],z60,z60⟩
def LP1 :Line:=⟨120,4,1,[50,100],[List.replicate 71 (-1),g1r],z120,z120⟩
def pt0 :List Node:=[⟨3,20⟩,⟨2,40⟩,⟨1,0⟩,⟨0,0⟩,⟨0,0⟩]
def pt1 :List Node:=[⟨3,40⟩,⟨2,20⟩,⟨1,0⟩,⟨0,0⟩,⟨0,0⟩]
theorem beam_eq :AL=some bm:=by kernel_rfl
theorem place_0 :QW bm 0 200 2=some (sl0,[],0):=by kernel_rfl
theorem qUg :QW bm 1 200 2=some (sl1,[],0):=by kernel_rfl
theorem place_2 :QW bm 2 200 2=some (sl0,[],0):=by kernel_rfl
theorem place_3 :QW bm 3 200 2=some (sl1,[],0):=by kernel_rfl
theorem fr_0 :LK sl0=some f0:=by kernel_rfl
theorem fr_1 :LK sl1=some f1:=by kernel_rfl
theorem ck_0 :LO sl0 [] c25 f0 w25 r25=some 0:=by kernel_rfl
theorem ck_1 :LO sl1 [] c25 f1 w25 r25=some 0:=by kernel_rfl
theorem rest_0 :YM f0 (LP0,[[nd0,[],[],[],[],[],[],[],[],[],nd0],[]]) ([⟨0,0⟩],80000000,0) FUEL [] [] 0=some ([⟨-30,20⟩],[nd0]):=by kernel_rfl
theorem rest_1 :YM f1 (LP1,[List.replicate 71 ([]:List Node),[nd1,[],[],[],[],[],[],[],[],[],nd1,[],[],[],[],[],[],[],[],[],nd1]]) ([⟨1,0⟩],80000000,0) FUEL [] [] 0=some ([⟨-60,40⟩],[nd1]):=by kernel_rfl
theorem row_0 :WD f0 3 4 [⟨-30,20⟩] [nd0]=some (pt0,0):=by kernel_rfl
theorem row_1 :WD f1 3 4 [⟨-60,40⟩] [nd1]=some (pt1,0):=by kernel_rfl
theorem vol_0 :UU sl0=some 21600000:=by kernel_rfl
theorem vol_1 :UU sl1=some 21600000:=by kernel_rfl
theorem whole_0 :TJ sl0 f0=some 21600000:=by kernel_rfl
theorem whole_1 :TJ sl1 f1=some 21600000:=by kernel_rfl
theorem short_0 :FN ⟨[],[]⟩ c25 w25 r25 200 2=some (⟨0,⟨⟨⟨0,0⟩,⟨0,0⟩⟩,[]⟩,0⟩,3):=by kernel_rfl
theorem cut_0 :yV LP0=some ([⟨0,0⟩],80000000,0):=by kernel_rfl
end Saw
end Go.SL

/- PlanBests. -/
import Derived.Test.YtidlfgiogdjkaaaGreatDoorEMa11
import Derived.Test.YtidlfgiogdjkaaaGreatDoorEMa9
set_option linter.unusedVariables false
set_option linter.unusedSimpArgs false
namespace Go.SL.Saw
theorem q2e (s:qQ):qBB s=some (TE (GL s)):=by
 have h:=qIR s;unfold qBB;rw[qSV s];simp only[ke];generalize GL s=t at*;have b:=h.len;have k2:=ZC t.Rows (λn (a:Int) x=>TT t n a x) (λx=>(x:Int)) (λ_ a s=>s+10*lenS a) (λs=>s) (λx s=>0<=s/\s<=12000*(x:Int)) (by omega)
  (λn x a hx hi=>by
   have l:=h.len_b hx;refine⟨?_,by omega⟩;rw[TT,kd (show(x:Int)<_ by omega),qU (by omega),qY (by omega)];simp only[kn,ko];rw[l.2.2,qK (n:=lenS _) (by omega),qK (n:=10*lenS _) (by omega),qK (by omega)])
  (λn a _=>by rw[TT];simp) (i:=0) rfl 0 (by omega)
 rw[HT (λ_ a=>10*lenS a),qNx] at k2;have e:=qI0 h (λ_ a=>lenS a) (λ_=>rfl);rw[e,uC] at k2;rw[k2.1];rfl
theorem qY0 {l:List qC} (h:VSol l):HR l=some (volT l):=by
 have hl:=h.len;unfold HR;rw[(RT l).2,(WX l).2 h];simp only[ke,kv,kp];have k1:=ZC l (λn (a:Int) x=>KH l n a x) (λx=>(x:Int)) (λ_ a s=>s+a.Len*TE a.Sec) (λs=>s) (λx s=>s=sumN x (λi=>(l.getD i du).Len*TE (l.getD i du).Sec)) (by omega)
  (λn x a hx hi=>by
   have p:=qAG h (k:=x) (by omega);have p':=qAG h (k:=x+1) (by omega);have b1:=(h.bd (i:=x) (by omega)).2;have b2:=(h.bd (i:=x+1) (by omega)).2;have vs:=(h.at hx).1;have ar:=qPA vs;have ln:=(h.at hx).2.2.1;have l2:(l.getD x du).Len<=20000:=by have:=wF l x;have:=(h.bd (i:=x) (by omega)).1;omega
   have pr:=uo l2 ar.2 ar.1 (by omega);have pn:=kC (show 0<=(l.getD x du).Len by omega) ar.1;refine⟨?_,by rw[hi];rfl⟩;rw[KH,kd (show(x:Int)<_ by omega),qU (by omega),qY (by omega)];simp only[kn,ko,q2e,ke];rw[qCh vs];rw[qK (n:=(l.getD x du).Len*TE (l.getD x du).Sec) (by omega),qK (by omega)])
  (λn a _=>by rw[KH];simp) (i:=0) rfl 0 rfl
 rw[k1.1,HT (λ_ (a:qC)=>a.Len*TE a.Sec),uC];simp only[ke,kw];rfl
variable {l :List qC} {ds:List qF} {ps:List Product} {F:Rect} {w:Saw} {t:Rates}
theorem qXk (l:List qC) (ds:List qF) (ps:List Product) (F:Rect) (w:Saw) (t:Rates):qCV l ds ps F w t=some (chkE l ds ps F w t):=by
 rw[<-qWu];rfl
theorem qKg (h:VR F) {p q:Int} (h1: -2000<=p/\p<=2000) (h2: -2000<=q/\q<=2000):VX F p q=some (strR F p q):=by
 unfold VR at h;unfold VX strR;rw[qK (n:=F.Y.A+p) (by omega),qK (n:=F.Y.A+q) (by omega)]
theorem qYV (n:List Node) (hl:n.length<=1000000):SR n=some (hasB n):=by
 unfold SR hasB;have:=PU n (λm x=>KM n m x) (λa=>if a.Kind==1 then some true else none) hl
  (λm x hx=>by
   rw[KM,kd (by omega),qU (by omega),qY (by omega)];simp only[kn,ko];cases (n.getD x du).Kind==1<;>rfl)
  (λm=>by rw[KM];simp)
 rw[this];simp only[ke];clear this hl
 induction n with
 |nil=>rfl
 |cons a n ih=>
  rw[findE,List.any_cons];cases h:a.Kind==1 with
  |true=>rfl
  |false=>simpa using ih
theorem q0y (h:VE l ds ps F w t) {j:Nat} (hj:j<(hts ps).length):
  yI l ds ps F w t (hts ps) (j:Int) FUEL [] 0=some ((List.range (nRow F ((hts ps).getD j du))).map (λp=>(stG l ds ps F w t ((hts ps).getD j du) p).1)):=by
 have hb:=qPS h.pr (jE hj);have hr:=h.vr;have hr':=hr;unfold VR at hr';have hp:=h.vw.pitch;have hin:inb (j:Int) (hts ps).length=true:=qU (by omega);generalize hsz:(hts ps).getD j du=sz at*;have k:=zR (nRow F sz) (λn (s:List Int) x=>yI l ds ps F w t (hts ps) (j:Int) n s x) (λx s=>s++[(stG l ds ps F w t sz x).1]) (λs=>s)
  (λx s=>s=(List.range x).map (λp=>(stG l ds ps F w t sz p).1)) 0 (by omega) (by unfold nRow hei;omega)
  (λn x s hx hs=>by
   unfold nRow hei at hx;have hl1:s.length=x:=by rw[hs];simp
   refine⟨?_,by rw[hs,kW,kH];rfl⟩;rw[yI,hin];unfold CF FQ;simp only[ko,hsz];rw[qK (n:=(x:Int)+sz) (by omega),qK (n:=F.Y.B-F.Y.A) (by omega),kd (by omega),nz_t (by omega),qKg hr (by omega) (by omega),wO (by omega),qY (by omega)];simp only[kn,ke,qPT];rw[qYV _ (by have:=qSx l ds ps (strR F x (x+sz)) w t;omega)];have em:Int.tmod (x:Int) w.Pitch=(x:Int) % w.Pitch:=uM (by omega);rw[em];unfold stG;simp only[ke];by_cases c:(x:Int) % w.Pitch=0
   ·rw[if_pos c,c];simp only[ut,kn];by_cases c2:(jR l ds ps (strR F x (x+sz)) w t).2.2=0
    ·have c2':((jR l ds ps (strR F x (x+sz)) w t).2.2==0)=true:=by simpa using c2
     rw[c2',kn];cases hbb:hasB (jR l ds ps (strR F x (x+sz)) w t).1 with
     |true=>rw[if_pos ⟨c2,rfl⟩];rfl
     |false=>rw[if_neg (by simp)];rfl
    ·have c2':((jR l ds ps (strR F x (x+sz)) w t).2.2==0)=false:=by simpa using c2
     rw[c2',kp,if_neg (λhh=>c2 hh.1)];simp only[kp]
   ·rw[if_neg c,show((x:Int) % w.Pitch==0)=false by rw[kL];exact c];simp only[kp])
  (λn s _=>by
   rw[yI,hin];simp only[ko,hsz];unfold nRow hei;rw[qK (n:=F.Y.B-F.Y.A) (by omega),qK (n:=_+sz) (by omega),ka (by omega)];rfl) [] rfl
 have k1:=k.1;rw[k.2] at k1;exact k1
theorem qST (h:VSol l) (r:Rect):DE l r=some (zD l r):=by
 unfold DE;rw[(YA l).2,KF h];simp only[ke,qJm h];rfl
theorem qZw (h:VE l ds ps F w t):qBF l ds ps F w t=some (zP l ds ps F w t):=by
 have hr:=h.vr;have hr':=hr;unfold VR at hr';have hh:=qSd ps;unfold qBF;rw[qXH];simp only[ke];have k1:=zR (hts ps).length (λn (s:List (List Int)) x=>TS l ds ps F w t (hts ps) n x s) (λj s=>s++[(List.range (nRow F ((hts ps).getD j du))).map (λp=>(stG l ds ps F w t ((hts ps).getD j du) p).1)]) (λs=>s)
  (λx s=>s=(List.range x).map (λj=>(List.range (nRow F ((hts ps).getD j du))).map (λp=>(stG l ds ps F w t ((hts ps).getD j du) p).1))) 0 (by omega) (by omega)
  (λn x s hx hs=>by
   have hl1:s.length=x:=by rw[hs];simp
   refine⟨?_,by rw[hs,kW,kH];rfl⟩;rw[TS,kd (by omega),q0y h hx,qY (by omega)];simp only[kn,ke];rw[wO (by omega)];rfl)
  (λn s _=>by rw[TS,ka (by omega)];rfl) [] rfl
 have e1:=k1.1;rw[k1.2] at e1;have k2:=zR (hei F).toNat (λn (s:List Int×List Int) x=>UB l F t n x s.1 s.2) (λp s=>(s.1++[t.Chip*zD l (strR F p (p+1))],s.2++[t.Dust*zD l (strR F p (p+1))])) (λs=>s)
  (λx s=>s=((List.range x).map (λp=>t.Chip*zD l (strR F (p:Nat) ((p:Nat)+1))),(List.range x).map (λp=>t.Dust*zD l (strR F (p:Nat) ((p:Nat)+1))))) 0 (by omega) (by unfold hei;omega)
  (λn x s hx hs=>by
   unfold hei at hx;have hl1:s.1.length=x:=by rw[hs];simp
   have hl2:s.2.length=x:=by rw[hs];simp
   refine⟨?_,by rw[hs,kW,kH,kH];rfl⟩;have wb:=qEL h.sol (strR F x (x+1));have m1:=jL (a:=t.Chip) (b:=zD l (strR F x (x+1))) (m:=1000) (n:=28800000000) (by have:=h.vw.chip;omega) (by have:=h.vw.chip;omega) (by omega) wb.2 (by omega) (by omega);have m2:=jL (a:=t.Dust) (b:=zD l (strR F x (x+1))) (m:=1000) (n:=28800000000) (by have:=h.vw.dust;omega) (by have:=h.vw.dust;omega) (by omega) wb.2 (by omega) (by omega);rw[UB,qK (n:=F.Y.B-F.Y.A) (by omega),kd (by omega),qK (n:=(x:Int)+1) (by omega),qKg hr (by omega) (by omega),wO (by omega),wO (by omega)];simp only[kn,ke,qST h.sol]
   rw[qK (n:=t.Chip*_) (by omega),qK (n:=t.Dust*_) (by omega)];rfl)
  (λn s _=>by
   rw[UB,qK (n:=F.Y.B-F.Y.A) (by omega)];unfold hei;rw[ka (by omega)];rfl) ([],[]) rfl
 have e2:=k2.1;rw[k2.2] at e2;rw[show((0:Nat):Int)=0 from rfl] at e1 e2;rw[e1];simp only[ke];rw[e2,qK (n:=F.Y.B-F.Y.A) (by omega)];rfl
theorem q1m {h:Int} {q:Nat} (hg:¬(stG l ds ps F w t h q).1<0):(stG l ds ps F w t h q).2=(jR l ds ps (strR F q (q+h)) w t).1:=by
 unfold stG at hg⊢;by_cases c:(q:Int) % w.Pitch=0
 ·rw[if_pos c] at hg⊢;by_cases c1:(jR l ds ps (strR F q (q+h)) w t).2.2=0/\hasB (jR l ds ps (strR F q (q+h)) w t).1=true
  ·rw[if_pos c1]
  ·rw[if_neg c1] at hg;simp at hg
 ·rw[if_neg c] at hg;simp at hg
theorem qZx (l:List qC) (ds:List qF) (ps:List Product) (F:Rect) (w:Saw) (t:Rates):AT l ds ps F w t=some (GM l ds ps F w t):=by
 unfold AT GM;rw[qXk];simp only[ke];by_cases c:chkE l ds ps F w t=0
 ·have h:=JW.1 c;have hr:=h.vr;have hr':=hr;unfold VR at hr';have vl:=qFp h;have ln:=vl.len;rw[c,if_pos rfl,qZw h];simp only[ke,kv,kp];rw[show(Line.mk (zP l ds ps F w t).Len (zP l ds ps F w t).Kerf (zP l ds ps F w t).Pitch (zP l ds ps F w t).Sizes (zP l ds ps F w t).Gain (zP l ds ps F w t).Chip (zP l ds ps F w t).Dust)=zP l ds ps F w t from rfl,qUY vl];simp only[ke,kv,kp];have hbl:(wE (zP l ds ps F w t)).length<=3000:=qEQ _ _ _;have hsz:(zP l ds ps F w t).Sizes=hts ps:=rfl;have hlen:(zP l ds ps F w t).Len=hei F:=rfl
  have k:=ZC (wE (zP l ds ps F w t)) (λn (s:List Span×List (List Node)) x=>TZ l ds ps F w t (zP l ds ps F w t) (wE (zP l ds ps F w t),(bst (zP l ds ps F w t) 0).value,0) n s.1 s.2 x) (λx=>(x:Int)) (λ_ x s=>(s.1++[(ptOf (zP l ds ps F w t) F.Y.A (stN l ds ps F w t) x).1],s.2++[(ptOf (zP l ds ps F w t) F.Y.A (stN l ds ps F w t) x).2])) (λs=>s)
   (λx s=>s.1.length=x/\s.2.length=x) (by omega)
   (λn x s hx hs=>by
    obtain⟨i,q,ey,hi,hq,hg⟩:=qB2 vl 3000 0 (by omega) _ (jE hx);have ey':(wE (zP l ds ps F w t)).getD x du=⟨(i:Int),(q:Int)⟩:=ey;have sb:=qPS h.pr (jE hi);have hi':i<(hts ps).length:=hi;have hq':(q:Int)+(hts ps).getD i du<=hei F:=by unfold szAt at hq;rw[hlen] at hq;have:(zP l ds ps F w t).Sizes.getD i du=(hts ps).getD i du:=rfl;omega
    have hb:hei F<=1200:=by unfold hei;omega
    refine⟨?_,by simp[hs.1],by simp[hs.2]⟩;rw[TZ,kd (show(x:Int)<_ by simp only;omega),ZQ (by omega) (by simp only;omega)];simp only[ko,ey'];have hg':=hg;rw[gnP_eq l ds ps F w t hi' hq'] at hg';have es:=q1m hg';rw[hsz,qU (by omega),qK (n:=(q:Int)+(hts ps).getD i du) (by omega),qKg hr (by omega) (by omega),qY (by omega)];simp only[kn,ke,qPT];rw[wO (by omega),wO (by omega),<-es];rfl)
   (λn s _=>by rw[TZ];simp) (i:=0) rfl ([],[]) ⟨rfl,rfl⟩
  rw[k.1];have fold2:∀(L:List qX) (i:Nat) (s:List Span×List (List Node)),foldi (λ_ x (s:List Span×List (List Node))=>(s.1++[(ptOf (zP l ds ps F w t) F.Y.A (stN l ds ps F w t) x).1],s.2++[(ptOf (zP l ds ps F w t) F.Y.A (stN l ds ps F w t) x).2])) i L s=(s.1++(L.map (ptOf (zP l ds ps F w t) F.Y.A (stN l ds ps F w t))).map Prod.fst,s.2++(L.map (ptOf (zP l ds ps F w t) F.Y.A (stN l ds ps F w t))).map Prod.snd):=by
   intro L
   induction L with
   |nil=>intro i s;simp[foldi]
   |cons x L ih=>
    intro i s;show foldi _ (i+1) L _=_;rw[ih];simp
  rw[fold2];simp only[ke,ur];have hnd:ndC (QL l ds ps F w t)+1<=1000000:=by
   have:=qHL (zP l ds ps F w t) F.Y.A (stN l ds ps F w t) 127 (wE (zP l ds ps F w t)) (λx _=>(stG_b l ds ps F w t _ _).2);unfold QL;have h3:(3+127)*(wE (zP l ds ps F w t)).length<=(3+127)*3000:=uR _ hbl;omega
  have hrow:=qYb hr (axis:=3) (kerf:=w.Kerf) (.inr rfl) h.vw.kerf (L:=QL l ds ps F w t) (by unfold QL;simp;omega) (qSC h (stN l ds ps F w t)) hnd;have hrow':UO F 3 w.Kerf ((QL l ds ps F w t).map Prod.fst) ((QL l ds ps F w t).map Prod.snd)=some (rowR (AI l ds ps F w t)):=hrow;show((UO F 3 w.Kerf ((QL l ds ps F w t).map Prod.fst) ((QL l ds ps F w t).map Prod.snd)).bind _)=_;rw[hrow'];unfold rowR;simp only[ke];by_cases c2:(AI l ds ps F w t).length<=127
  ·rw[if_pos c2,if_pos c2,qY0 h.sol,qST h.sol];simp only[kv,kp,ke];have bv:=qOT h.sol;have b0:=qYp vl;have bw:=qEL h.sol F;have wl:=qIN h.sol F;have m3:0<=t.Chip*(volT l-zD l F)/\t.Chip*(volT l-zD l F)<=1000*28800000000:=⟨kC h.vw.chip.1 (by omega),uo h.vw.chip.2 (by omega) (by omega) (by omega)⟩
   rw[qK (n:=volT l-_) (by omega),qK (n:=t.Chip*_) (by omega),qK (by omega)]
  ·rw[if_neg c2,if_neg c2];rfl
 ·have c':(chkE l ds ps F w t !=0)=true:=by simpa using c
  rw[c',if_neg c];rfl
theorem qXd (a:qN) (h:a.Nodes.length<=1000000):EA a a=some true:=by
 unfold EA;simp only[ut,Bool.and_self,ky,kp,kv];unfold CA;rw[kp];have:=PU a.Nodes (λn x=>UD a a n x) (λ_=>(none:Option Bool)) h
  (λn x hx=>by
   rw[UD,kd (by omega),qU (by omega),qY (by omega)];simp only[kn,ut,Bool.and_self,ky,kp])
  (λn=>by rw[UD];simp)
 rw[this,AF.2 λ_ _=>rfl];rfl
theorem qQC (a:zB):qAE (some true) a=some true:=by
 unfold qAE;obtain⟨b,e⟩:=q1c a;rw[e];simp only[ke];cases b with
 |false=>rfl
 |true=>
  have hl:(GM a.Solid a.Defects a.Products a.Frame a.Saw a.Rates).1.Nodes.length<=1000000:=by
   by_cases c:(GM a.Solid a.Defects a.Products a.Frame a.Saw a.Rates).2.2=0
   ·obtain⟨_,hn,er⟩:=q1k c;rw[er];simp only;omega
   ·unfold GM at c⊢;split
    ·rename_i h1;rw[if_pos h1] at c;split
     ·rename_i h2;rw[if_pos h2] at c;exact absurd rfl c
     ·exact ud _
    ·exact ud _
  simp only[ky,kp];rw[qZH,qZx];simp only[ke];rw[qXd _ hl];simp only[ke,ut,kn];rfl
end Go.SL.Saw

namespace Go.SL.Saw
def gS :List qC:=[⟨3000,⟨-10,List.replicate 20 ⟨-100,100⟩⟩⟩]
def gP :List Product:=[⟨⟨#[112,108,97,110,107]⟩,40,100,50,0,[2000],[70]⟩]
def gW :Saw:=⟨4,5,5,500⟩
def g0 :Rates:=⟨0,0,0⟩
def gF (h:Int):Rect:=⟨⟨-100,10⟩,⟨0,h⟩⟩
def gN :List Node:=[⟨2,5⟩,⟨1,0⟩,⟨0,0⟩]
def LS :Line:=⟨110,4,1,[105],[[70000000,-1,-1,-1,-1,70000000]],List.replicate 110 0,List.replicate 110 0⟩
def LP (h n:Nat):Line:=⟨h,4,1,[42,105],[(List.range n).map (λp=>if p % 5=0 then 70000000 else-1),[]],List.replicate h 0,List.replicate h 0⟩
theorem gain_k :(List.range 12).all (λk=>decide (AR gS [] (gP.getD 0 du) ⟨⟨-100,5⟩,⟨5*(k:Int),5*(k:Int)+42⟩⟩ gW g0=70000000)&&decide (AR gS [] (gP.getD 0 du) ⟨⟨-95,10⟩,⟨5*(k:Int),5*(k:Int)+42⟩⟩ gW g0=70000000))=true:=by kernel_rfl
theorem qQ3 :zH gP 42=([105],[0]):=by kernel_rfl
theorem qPG :hts gP=[42,105]:=by kernel_rfl
theorem qYF :chkE gS [] gP (gF 97) gW g0=0:=by
 have e:BW gS [] gP (gF 97) gW g0=some 0:=by kernel_rfl
 rw[qEZ] at e;exact kJ e
theorem qYr :chkE gS [] gP (gF 96) gW g0=0:=by
 have e:BW gS [] gP (gF 96) gW g0=some 0:=by kernel_rfl
 rw[qEZ] at e;exact kJ e
end Go.SL.Saw

namespace Go.SL.Saw
theorem cut_S :JC LS=some ([⟨0,0⟩],70000000,0):=by kernel_rfl
end Go.SL.Saw

namespace Go.SL.Saw
theorem cut_97 :JC (LP 97 56)=some ([⟨0,0⟩,⟨0,55⟩],140000000,0):=by kernel_rfl
end Go.SL.Saw

namespace Go.SL.Saw
theorem cut_96 :JC (LP 96 55)=some ([⟨0,0⟩],70000000,0):=by kernel_rfl
end Go.SL.Saw

namespace Go.SL.Saw
theorem strip_g (h:Int) (p:Nat):strR (gF h) (p:Int) ((p:Int)+42)=⟨⟨-100,10⟩,⟨(p:Int),(p:Int)+42⟩⟩:=by
 unfold strR gF;simp only[uC]
theorem q0l {k:Nat} (hk:k<12):lineS gS [] gP ⟨⟨-100,10⟩,⟨((5*k:Nat):Int),((5*k:Nat):Int)+42⟩⟩ gW g0=LS:=by
 have hz:(((5*k:Nat):Int)+42)-((5*k:Nat):Int)=42:=by omega
 have gk:=ku.1 gain_k k (uP.2 hk);rw[kr,decide_eq_true_eq,decide_eq_true_eq] at gk;have ek:((5*k:Nat):Int)=5*(k:Int):=by omega
 unfold lineS;have hw:wid ⟨⟨-100,10⟩,⟨((5*k:Nat):Int),((5*k:Nat):Int)+42⟩⟩=110:=rfl;simp only[hz,qQ3,hw];have hg:qCQ gS [] gP ⟨⟨-100,10⟩,⟨((5*k:Nat):Int),((5*k:Nat):Int)+42⟩⟩ gW g0 42=[[70000000,-1,-1,-1,-1,70000000]]:=by
  unfold qCQ;rw[qQ3];show[BC gS [] (gP.getD 0 du) ⟨⟨-100,10⟩,⟨((5*k:Nat):Int),((5*k:Nat):Int)+42⟩⟩ gW g0 105]=_;unfold BC;rw[hw];show[[YI _ _ _ _ _ _ _ 0,YI _ _ _ _ _ _ _ 1,YI _ _ _ _ _ _ _ 2,YI _ _ _ _ _ _ _ 3,YI _ _ _ _ _ _ _ 4,YI _ _ _ _ _ _ _ 5]]=_;have a0:YI gS [] (gP.getD 0 du) ⟨⟨-100,10⟩,⟨((5*k:Nat):Int),((5*k:Nat):Int)+42⟩⟩ gW g0 105 0=70000000:=by
   rw[ek];exact gk.1
  have a5:YI gS [] (gP.getD 0 du) ⟨⟨-100,10⟩,⟨((5*k:Nat):Int),((5*k:Nat):Int)+42⟩⟩ gW g0 105 5=70000000:=by
   rw[ek];exact gk.2
  rw[a0,a5];rfl
 rw[hg];have hz2:∀f:Nat->Int,(List.range (110:Int).toNat).map (λx=>g0.Chip*f x)=List.replicate 110 0:=by
  intro f;have:(λx=>g0.Chip*f x)=λ_=>(0:Int):=by funext x;show 0*f x=0;rw[uJ]
  rw[this,List.map_const'];rfl
 have hz3:∀f:Nat->Int,(List.range (110:Int).toNat).map (λx=>g0.Dust*f x)=List.replicate 110 0:=by
  intro f;have:(λx=>g0.Dust*f x)=λ_=>(0:Int):=by funext x;show 0*f x=0;rw[uJ]
  rw[this,List.map_const'];rfl
 rw[hz2,hz3];rfl
theorem qQw :VE gS [] gP (gF 97) gW g0:=JW.1 qYF
theorem qVn :VE gS [] gP (gF 96) gW g0:=JW.1 qYr
theorem edge_g {h:Int} (hv:VE gS [] gP (gF h) gW g0) {k:Nat} (hk:k<12) (hh:5*(k:Int)+42<=h):jR gS [] gP (strR (gF h) ((5*k:Nat):Int) (((5*k:Nat):Int)+42)) gW g0=(gN,70000000,0):=by
 have ve:=q1R hv (p:=((5*k:Nat):Int)) (q:=((5*k:Nat):Int)+42) (by omega) (by omega) (by unfold hei gF;simp only;omega);rw[strip_g] at ve⊢;unfold jR;rw[if_pos (JW.2 ve),q0l hk];have vl:=CW ve;rw[q0l hk] at vl;have cb:=qBu vl;rw[cut_S] at cb;have cb':=Prod.mk.inj (kJ cb);have c1:wE LS=[⟨0,0⟩]:=cb'.1.symm;have c2:(bst LS 0).value=70000000:=(Prod.mk.inj cb'.2).1.symm;unfold qI2 wD;simp only;have hz:(((5*k:Nat):Int)+42)-((5*k:Nat):Int)=42:=by omega
 rw[hz,c1,c2];have e:rowN 2 LS.Kerf ⟨-100,10⟩ (List.map (ptOf LS (-100) (bdN gP 42)) [⟨0,0⟩])=gN:=by
  unfold bdN;rw[qQ3];rfl
 rw[e];rfl
theorem qUR {h:Int} (hv:VE gS [] gP (gF h) gW g0) {p:Nat} (hp:p<56) (hh:(p:Int)+42<=h):stG gS [] gP (gF h) gW g0 42 p=if p % 5=0 then(70000000,gN) else(-1,[]):=by
 unfold stG;by_cases c:p % 5=0
 ·obtain⟨k,rfl⟩:∃k,p=5*k:=⟨p/5,by omega⟩
  have c':((5*k:Nat):Int) % gW.Pitch=0:=by show((5*k:Nat):Int) % 5=0;omega
  rw[if_pos c',if_pos c,edge_g hv (by omega) (by omega)];rw[if_pos ⟨rfl,rfl⟩]
 ·have c':¬(p:Int) % gW.Pitch=0:=by show¬(p:Int) % 5=0;omega
  rw[if_neg c',if_neg c]
theorem qYt {h n:Nat} (hn:n+41=h) (hn2:n<=56) (h0:h<=104) (hv:VE gS [] gP (gF h) gW g0):zP gS [] gP (gF h) gW g0=LP h n:=by
 have hh:hei (gF (h:Int))=(h:Int):=by unfold hei gF;simp
 unfold zP LP;rw[hh,qPG];have r0:nRow (gF h) 42=n:=by unfold nRow;rw[hh];omega
 have r1:nRow (gF h) 105=0:=by unfold nRow;rw[hh];omega
 have hz2:∀f:Nat->Int,(List.range ((h:Int)).toNat).map (λx=>g0.Chip*f x)=List.replicate h 0:=by
  intro f;have:(λx=>g0.Chip*f x)=λ_=>(0:Int):=by funext x;show 0*f x=0;rw[uJ]
  rw[this,List.map_const',ko,uf]
 have hz3:∀f:Nat->Int,(List.range ((h:Int)).toNat).map (λx=>g0.Dust*f x)=List.replicate h 0:=by
  intro f;have:(λx=>g0.Dust*f x)=λ_=>(0:Int):=by funext x;show 0*f x=0;rw[uJ]
  rw[this,List.map_const',ko,uf]
 rw[hz2,hz3];have hg:(List.range ([42,105]:List Int).length).map (λj=>(List.range (nRow (gF h) (([42,105]:List Int).getD j du))).map (λp=>(stG gS [] gP (gF h) gW g0 (([42,105]:List Int).getD j du) p).1))=[(List.range n).map (λp=>if p % 5=0 then 70000000 else-1),[]]:=by
  show[(List.range (nRow (gF h) 42)).map (λp=>(stG gS [] gP (gF h) gW g0 42 p).1),(List.range (nRow (gF h) 105)).map (λp=>(stG gS [] gP (gF h) gW g0 105 p).1)]=_;rw[r0,r1]
  congr 1
  apply List.map_congr_left;intro p hp;have hp':=uP.1 hp;rw[qUR hv (by omega) (by omega)];split<;>rfl
 rw[hg];rfl
theorem q2g :BM gS [] gP (gF 97) gW g0=some (⟨gF 97,[⟨3,42⟩,⟨2,5⟩,⟨1,0⟩,⟨0,0⟩,⟨3,51⟩,⟨0,0⟩,⟨2,5⟩,⟨1,0⟩,⟨0,0⟩]⟩,140000000,0):=by
 have el:=qYt (h:=97) (n:=56) (by omega) (by omega) (by omega) qQw;have el':zP gS [] gP (gF 97) gW g0=LP 97 56:=el;have vl:=qFp qQw;rw[el'] at vl;have cb:=qBu vl;rw[cut_97] at cb;have cb':=Prod.mk.inj (kJ cb);have c1:wE (LP 97 56)=[⟨0,0⟩,⟨0,55⟩]:=cb'.1.symm;have c2:(bst (LP 97 56) 0).value=140000000:=(Prod.mk.inj cb'.2).1.symm;have n0:stN gS [] gP (gF 97) gW g0 ⟨0,0⟩=gN:=by
  unfold stN;rw[qPG];show(stG gS [] gP (gF 97) gW g0 42 0).2=_;rw[qUR qQw (by omega) (by omega)];rfl
 have n1:stN gS [] gP (gF 97) gW g0 ⟨0,55⟩=gN:=by
  unfold stN;rw[qPG];show(stG gS [] gP (gF 97) gW g0 42 55).2=_;rw[qUR qQw (by omega) (by omega)];rfl
 rw[qG1];unfold GM;rw[if_pos qYF];have en:AI gS [] gP (gF 97) gW g0=[⟨3,42⟩,⟨2,5⟩,⟨1,0⟩,⟨0,0⟩,⟨3,51⟩,⟨0,0⟩,⟨2,5⟩,⟨1,0⟩,⟨0,0⟩]:=by
  unfold AI QL;rw[el',c1];simp only[uh,uX,ptOf,n0,n1];rfl
 rw[en,el',c2];have e0:g0.Chip*(volT gS-zD gS (gF 97))=0:=by show 0*_=(0:Int);rw[uJ]
 rw[e0];rfl
theorem q1A :∃p,BM gS [] gP (gF 96) gW g0=some (p,70000000,0):=by
 have el:=qYt (h:=96) (n:=55) (by omega) (by omega) (by omega) qVn;have el':zP gS [] gP (gF 96) gW g0=LP 96 55:=el;have vl:=qFp qVn;rw[el'] at vl;have cb:=qBu vl;rw[cut_96] at cb;have cb':=Prod.mk.inj (kJ cb);have c1:wE (LP 96 55)=[⟨0,0⟩]:=cb'.1.symm;have c2:(bst (LP 96 55) 0).value=70000000:=(Prod.mk.inj cb'.2).1.symm;have n0:stN gS [] gP (gF 96) gW g0 ⟨0,0⟩=gN:=by
  unfold stN;rw[qPG];show(stG gS [] gP (gF 96) gW g0 42 0).2=_;rw[qUR qVn (by omega) (by omega)];rfl
 rw[qG1];unfold GM;rw[if_pos qYr];have en:AI gS [] gP (gF 96) gW g0=[⟨3,42⟩,⟨2,5⟩,⟨1,0⟩,⟨0,0⟩,⟨0,0⟩]:=by
  unfold AI QL;rw[el',c1];simp only[uh,uX,ptOf,n0];rfl
 rw[en,el',c2];have e0:g0.Chip*(volT gS-zD gS (gF 96))=0:=by show 0*_=(0:Int);rw[uJ]
 rw[e0];exact⟨_,rfl⟩
theorem qVB (h:Int):TC h=some ⟨gS,[],gP,gF h,gW,g0⟩:=by
 unfold TC;have e:MJ FUEL 0 []=some (List.replicate 20 ⟨-100,100⟩):=by kernel_rfl
 rw[e];rfl
theorem mem_g :OW ⟨gF 97,[⟨3,42⟩,⟨2,5⟩,⟨1,0⟩,⟨0,0⟩,⟨3,51⟩,⟨0,0⟩,⟨2,5⟩,⟨1,0⟩,⟨0,0⟩]⟩ gP gW=some true:=by kernel_rfl
theorem frame_g :qBL gS=some ⟨⟨-100,100⟩,⟨-100,100⟩⟩:=by kernel_rfl
theorem qX9 (g:zB) (r:qN×Int×Int) (h:BM g.Solid g.Defects g.Products g.Frame g.Saw g.Rates=some r):WO g=some (⟨r.1.Frame,r.1.Nodes⟩,r.2.1,r.2.2):=by
 unfold WO;rw[h];rfl
def awB (fs:Int->Option zB) (fb:zB->Option (qN×Int×Int)) (fh:List Product->Option (List Int)) (ff:List qC->Option Rect) (fm:qN->List Product->Saw->Option Bool):Option Bool:=
 (fs 97).bind λv1=>
 (fb (zB.mk v1.Solid v1.Defects v1.Products v1.Frame v1.Saw v1.Rates)).bind λv3=>
 (fs 96).bind λv5=>
 (fb (zB.mk v5.Solid v5.Defects v5.Products v5.Frame v5.Saw v5.Rates)).bind λv7=>
 (fh v1.Products).bind λv9=>
 (ff v1.Solid).bind λv11=>
 bif v3.2.2==0 then
  bif v3.2.1==140000000 then
   bif v7.2.2==0 then
    bif v7.2.1==70000000 then
     bif (v9.length:Int)==2 then
      bif inb 0 v9.length then
       bif (v9.getD ((0:Int).toNat) du)==42 then
        bif inb 1 v9.length then
         bif (v9.getD ((1:Int).toNat) du)==105 then
          bif (((v11.X.A==(-100))&&((v11.X.B==100)&&true))&&(((v11.Y.A==(-100))&&((v11.Y.B==100)&&true))&&true)) then
           bif (v3.1.Nodes.length:Int)==9 then
            bif inb 0 v3.1.Nodes.length then
             bif ((((v3.1.Nodes.getD ((0:Int).toNat) du).Kind)==3)&&((((v3.1.Nodes.getD ((0:Int).toNat) du).At)==42)&&true)) then
              (fm (qN.mk v3.1.Frame v3.1.Nodes) v1.Products v1.Saw).bind λv26=>
              zS v26
             else
              zS false
            else none
           else
            zS false
          else
           zS false
         else
          zS false
        else none
       else
        zS false
      else none
     else
      zS false
    else
     zS false
   else
    zS false
  else
   zS false
 else
  zS false
theorem q1N {fs:Int->Option zB} {fb:zB->Option (qN×Int×Int)} {fh:List Product->Option (List Int)} {ff:List qC->Option Rect} {fm:qN->List Product->Saw->Option Bool} (g g':zB) (p p':qN) (s1:fs 97=some g) (s2:fs 96=some g') (b1:fb g=some (p,140000000,0)) (b2:fb g'=some (p',70000000,0))
  (hh:fh g.Products=some [42,105]) (hf:ff g.Solid=some ⟨⟨-100,100⟩,⟨-100,100⟩⟩) (hm:fm p g.Products g.Saw=some true) (hl:p.Nodes.length=9) (hn:p.Nodes.getD 0 du=⟨3,42⟩):awB fs fb fh ff fm=some true:=by
 unfold awB;rw[s1];simp only[ke];rw[show(zB.mk g.Solid g.Defects g.Products g.Frame g.Saw g.Rates)=g from rfl,b1];simp only[ke];rw[s2];simp only[ke];rw[show(zB.mk g'.Solid g'.Defects g'.Products g'.Frame g'.Saw g'.Rates)=g' from rfl,b2];simp only[ke];rw[hh];simp only[ke];rw[hf];simp only[ke,hl];rw[show((0:Int).toNat)=0 from rfl,hn,show(qN.mk p.Frame p.Nodes)=p from rfl,hm];rfl
theorem awake_B :VQ=awB TC WO XJ qBL OW:=rfl
theorem qWS :VQ=some true:=by
 obtain⟨p,e96⟩:=q1A;exact awake_B.trans (q1N _ _ ⟨gF 97,[⟨3,42⟩,⟨2,5⟩,⟨1,0⟩,⟨0,0⟩,⟨3,51⟩,⟨0,0⟩,⟨2,5⟩,⟨1,0⟩,⟨0,0⟩]⟩ ⟨p.Frame,p.Nodes⟩ (qVB 97) (qVB 96) (qX9 ⟨gS,[],gP,gF 97,gW,g0⟩ _ q2g) (qX9 ⟨gS,[],gP,gF 96,gW,g0⟩ _ e96) ((qQL gP).trans (congrArg some qPG)) frame_g mem_g rfl rfl)
end Go.SL.Saw

namespace Go.SL.Saw
theorem qRq (a:zB) {w:Prop} (_:w):MG a=some true:=by
 rw[qLI,qWS];exact qQC a
end Go.SL.Saw

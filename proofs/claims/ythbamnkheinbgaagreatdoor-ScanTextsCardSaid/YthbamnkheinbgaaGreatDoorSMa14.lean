/- Wire: scans are read alike; ScanTexts. -/
import Derived.Test.YthbamnkheinbgaaGreatDoorSMa13
set_option linter.unusedVariables false
set_option linter.unusedSimpArgs false
namespace Go.SL
namespace Saw
theorem qJn {l:List Nat} {lo hi:Int}:∀{k p:Nat} {acc t:List Int} {q:Nat},rdL l lo hi k p acc= .inr (t,q)->t.length=acc.length+k
 |0,p,acc,t,q,h=>by cases h;omega
 |k+1,p,acc,t,q,h=>by
  rw[rdL] at h;cases hs:sg l p lo hi with
  |inl e=>rw[hs] at h;cases h
  |inr r=>
   rw[hs] at h;have:=qJn h;rw[ky] at this;simp only[kv,kL] at this;omega
theorem rdL_q {l:List Nat} (hl:∀k,l.getD k 0<256) {lo hi:Int}:∀{k p:Nat} {acc t:List Int} {q:Nat},p<=l.length->rdL l lo hi k p acc= .inr (t,q)->q<=l.length
 |0,p,acc,t,q,hp,h=>by cases h;exact hp
 |k+1,p,acc,t,q,hp,h=>by
  rw[rdL] at h;cases hs:sg l p lo hi with
  |inl e=>rw[hs] at h;cases h
  |inr r=>
   obtain⟨n,q'⟩:=r;rw[hs] at h;exact rdL_q hl (sg_q hl hs) h
theorem rdInts_ok (l:List Nat) (hl:∀k,l.getD k 0<256) (m p:Nat) (e:Int) (hp:p<=l.length):(qU l m p e).1.length<=m/\(qU l m p e).2.1<=l.length:=by
 unfold qU;split
 ·exact⟨ui _,hp⟩
 ·cases hn:num l p with
  |inl e'=>exact⟨ui _,hp⟩
  |inr r=>
   obtain⟨v,q⟩:=r;simp only;split
   ·exact⟨ui _,hp⟩
   ·cases hr:rdL l (-1099511627776) 1099511627776 v q [] with
    |inl e'=>exact⟨ui _,hp⟩
    |inr t=>
     obtain⟨t,q'⟩:=t;have h1:=qJn hr;have h2:=rdL_q hl (num_inr hl hn).2.2.1 hr;simp only[kL] at h1;exact⟨by show t.length<=m;omega,h2⟩
def rdg :List Int->Option (List qB)
 |[]=>some []
 |a::t=>if a=0 then(rdg t).map (λr=>qB.mk (qA.mk 0 0) false::r) else if a=1 then(match t with
  |x::y::u=>(rdg u).map (λr=>qB.mk (qA.mk x y) true::r)
  |_=>none) else none
theorem qIE (t:List Int):rdg (0::t)=(rdg t).map (λr=>qB.mk (qA.mk 0 0) false::r):=by rw[rdg.eq_def];exact if_pos rfl
theorem qHD (x y:Int) (u:List Int):rdg (1::x::y::u)=(rdg u).map (λr=>qB.mk (qA.mk x y) true::r):=rfl
theorem qDi :∀(n:Nat) (l:List Int) (acc:List qB),l.length<n->l.length+acc.length<=1000->zT n l acc=some (match rdg l with|some t=> .inr (acc++t)|none=> .inl ([],false))
 |0,l,acc,h,_=>by omega
 |n+1,[],acc,h,ha=>by rw[zT];simp[rdg]
 |n+1,a::t,acc,h,ha=>by
  simp only[kv] at h ha;rw[zT,kf (by simp only[kv];omega),inb_t (by omega) (by simp only[kv];omega)];simp only[kq,show(List.getD (a::t) (0:Int).toNat dd)=a from rfl];by_cases h0:a=0
  ·subst h0;rw[show((0:Int)==0)=true from rfl,jK (by omega),show slOk 1 (((0::t:List Int).length:Nat):Int) (0::t:List Int).length=true from kf ⟨by omega,by simp only[kv];omega,gg _⟩];simp only[kq];rw[show List.drop ((1:Int).toNat) (0::t)=t from rfl,qDi n t _ (by omega) (by rw[ky];simp only[kv,kL];omega)];rw[qIE];cases rdg t<;>simp
  ·rw[show(a==0)=false from kV.2 h0];simp only[ks];by_cases h1:a=1
   ·subst h1;rw[show((1:Int)==1)=true from rfl];simp only[kq,yP]
    match t,h,ha with
    |[],_,_=>rfl
    |[x],_,_=>rfl
    |x::y::u,h,ha=>
     simp only[kv] at h ha;rw[kf (show(((1::x::y::u:List Int).length:Nat):Int)≥3 by simp only[kv];omega),inb_t (by omega) (by simp only[kv];omega),inb_t (by omega) (by simp only[kv];omega),jK (by omega),show slOk 3 (((1::x::y::u:List Int).length:Nat):Int) (1::x::y::u:List Int).length=true from kf ⟨by omega,by simp only[kv];omega,gg _⟩];simp only[kq];rw[show List.drop ((3:Int).toNat) (1::x::y::u)=u from rfl,show(List.getD (1::x::y::u) (1:Int).toNat dd)=x from rfl,show(List.getD (1::x::y::u) (2:Int).toNat dd)=y from rfl,qDi n u _ (by omega) (by rw[ky];simp only[kv,kL];omega),qHD]
     cases rdg u<;>simp
   ·rw[show(a==1)=false from kV.2 h1];simp only[ks,yP];rw[rdg.eq_def];simp only[if_neg h0,if_neg h1]
theorem toR_eq (l:List Int) (h:l.length<=500):WE l=some (match rdg l with|some t=>(t,true)|none=>([],false)):=by
 unfold WE;rw[qDi FUEL l [] (by rw[jF];omega) (by simp;omega)];cases rdg l<;>rfl
theorem qBo (a:List Int) (hl:a.length<=500):∀(n x:Nat) (acc:List qB),a.length-x<n->x<=a.length->acc.length<=x->wE a n acc (x:Int)=some (match rdg (a.drop x) with|some t=> .inr (acc++t)|none=> .inl ([],false))
 |0,x,acc,h,_,_=>by omega
 |n+1,x,acc,h,hx,ha=>by
  rw[wE];by_cases hxl:x<a.length
  ·have hd:=wJ a x hxl;rw[kf (by omega),zL (by omega),kB,wL (by omega),wF (n:=(x:Int)+2) (by omega),hd];generalize hb:a.getD x dd=b;simp only[kq];by_cases h0:b=0
   ·subst h0;rw[show((0:Int)==0)=true from rfl,jK (by omega)];simp only[kq];rw[qBo a hl n (x+1) _ (by omega) (by omega) (by rw[ky];simp only[kv,kL];omega),qIE];cases rdg (a.drop (x+1))<;>simp
   ·rw[show(b==0)=false from kV.2 h0];simp only[ks];by_cases h1:b=1
    ·subst h1;simp only[kM,ks,QK];rw[wL (by omega),wF (n:=(x:Int)+2) (by omega),wF (n:=(x:Int)+3) (by omega)];by_cases h2:x+2<a.length
     ·have hd1:=wJ a (x+1) (by omega);have hd2:=wJ a (x+2) h2;rw[ke (show¬(x:Int)+2≥(a.length:Int) by omega),zL (by omega),zL (by omega),jK (by omega),hd1,hd2,qHD];simp only[kq,ks];rw[show(x:Int)+3=((x+3:Nat):Int) by omega,show((x:Int)+2).toNat=x+2 by omega,kB,qBo a hl n (x+3) _ (by omega) (by omega) (by rw[ky];simp only[kv,kL];omega)];cases rdg (a.drop (x+3))<;>simp
     ·rw[kf (show(x:Int)+2≥(a.length:Int) by omega)];simp only[kq];by_cases h3:x+1<a.length
      ·have hd1:=wJ a (x+1) h3;rw[hd1,uf (by omega:a.length<=x+1+1)];rfl
      ·rw[uf (by omega)];rfl
    ·rw[show(b !=1)=true from uv.2 h1];simp only[kq,QK];rw[rdg.eq_def];simp only[if_neg h0,if_neg h1]
  ·rw[ke (by omega),uf (by omega)];simp[rdg]
theorem rtoR_eq (l:List Int) (h:l.length<=500):JJ l=some (match rdg l with|some t=>(t,true)|none=>([],false)):=by
 unfold JJ;have k:=qBo l h FUEL 0 [] (by rw[jF];omega) (by omega) (by simp);rw[show((0:Nat):Int)=0 from rfl,uI] at k;rw[k];cases rdg l<;>rfl
def rdd :List Int->List qG
 |k::a::b::c::d::e::f::t=>qG.mk k (Box.mk (Span.mk a b) (Span.mk c d) (Span.mk e f))::rdd t
 |_=>[]
theorem seven {l:List Int} (h:l.length % 7=0) (h0:0<l.length):∃k a b c d e f t,l=k::a::b::c::d::e::f::t:=by
 match l,h,h0 with
 |[],_,h0=>simp at h0
 |[_],h,_=>simp at h
 |[_,_],h,_=>simp at h
 |[_,_,_],h,_=>simp at h
 |[_,_,_,_],h,_=>simp at h
 |[_,_,_,_,_],h,_=>simp at h
 |[_,_,_,_,_,_],h,_=>simp at h
 |k::a::b::c::d::e::f::t,_,_=>exact⟨k,a,b,c,d,e,f,t,rfl⟩
theorem qIC :∀(n:Nat) (l:List Int) (acc:List qG),l.length<n->l.length % 7=0->l.length+acc.length<=1000->QJ n l acc=some (acc++rdd l)
 |0,l,acc,h,_,_=>by omega
 |n+1,l,acc,h,h7,ha=>by
  rw[QJ];by_cases h0:0<l.length
  ·obtain⟨k,a,b,c,d,e,f,t,rfl⟩:=seven h7 h0;simp only[kv] at h h7 ha;have hL:(k::a::b::c::d::e::f::t).length=t.length+7:=by simp only[kv]
   rw[hL,kf (by omega),zL (by omega),zL (by omega),zL (by omega),zL (by omega),zL (by omega),zL (by omega),zL (by omega),jK (by omega),show slOk 7 (((t.length+7:Nat)):Int) (t.length+7)=true from kf ⟨by omega,by omega,gg _⟩];simp only[kq];refine(qIC n t _ (by omega) (by omega) (by rw[ky];simp only[kv,kL];omega)).trans ?_;rw[rdd,ua];rfl
  ·rw[ke (by omega)];rw[show l=[] from List.length_eq_zero_iff.1 (by omega)];simp[rdd]
theorem tmod7 (n:Nat):(Int.tmod ((n:Nat):Int) 7 !=0)=decide (n % 7≠0):=by
 rw[uN (by omega)];by_cases h:n % 7=0
 ·rw[ke (by omega)];rw[bne_eq_false_iff_eq];omega
 ·rw[kf h];rw[uv];omega
theorem toD_eq (l:List Int) (h:l.length<=500):JO l=some (if l.length % 7≠0 then([],false) else(rdd l,true)):=by
 unfold JO;rw[tmod7];by_cases h7:l.length % 7≠0
 ·rw[kf h7,if_pos h7];rfl
 ·rw[ke h7,if_neg h7,qIC FUEL l [] (by rw[jF];omega) (by omega) (by simp;omega)];rfl
theorem qFT (v:qI×List Int) (hl:v.2.length<=500) (h7:v.2.length % 7=0):∀(n x:Nat) (acc:List qG),v.2.length-x<n->x<=v.2.length->x % 7=0->acc.length<=x->XF v n (x:Int) acc=some (acc++rdd (v.2.drop x))
 |0,x,acc,h,_,_,_=>by omega
 |n+1,x,acc,h,hx,hx7,ha=>by
  rw[XF];by_cases hxl:x<v.2.length
  ·have h6:x+7<=v.2.length:=by omega
   have e0:=wJ v.2 x hxl;have e1:=wJ v.2 (x+1) (by omega);have e2:=wJ v.2 (x+1+1) (by omega);have e3:=wJ v.2 (x+1+1+1) (by omega);have e4:=wJ v.2 (x+1+1+1+1) (by omega);have e5:=wJ v.2 (x+1+1+1+1+1) (by omega);have e6:=wJ v.2 (x+1+1+1+1+1+1) (by omega);rw[kf (by omega),wF (n:=(x:Int)+1) (by omega),wF (n:=(x:Int)+2) (by omega),wF (n:=(x:Int)+3) (by omega),wF (n:=(x:Int)+4) (by omega),wF (n:=(x:Int)+5) (by omega),wF (n:=(x:Int)+6) (by omega),wF (n:=(x:Int)+7) (by omega),
    zL (by omega),zL (by omega),zL (by omega),zL (by omega),zL (by omega),zL (by omega),zL (by omega),jK (by omega),e0,e1,e2,e3,e4,e5,e6,rdd]
   simp only[kq];rw[show((x:Int)+1).toNat=x+1 by omega,show((x:Int)+2).toNat=x+1+1 by omega,show((x:Int)+3).toNat=x+1+1+1 by omega,show((x:Int)+4).toNat=x+1+1+1+1 by omega,show((x:Int)+5).toNat=x+1+1+1+1+1 by omega,show((x:Int)+6).toNat=x+1+1+1+1+1+1 by omega,kB,show(x:Int)+7=((x+7:Nat):Int) by omega,
    qFT v hl h7 n (x+7) _ (by omega) (by omega) (by omega) (by rw[ky];simp only[kv,kL];omega),ua]
   rfl
  ·rw[ke (by omega),uf (by omega)];simp[rdd]
def rdR (l:List Nat):List Int->Nat->Int->List Ring->Option (List Ring×Nat×Int)
 |[],p,e,acc=>some (acc,p,e)
 |z::zs,p,e,acc=>match rdg (qU l 96 p e).1 with
  |none=>none
  |some t=>rdR l zs (qU l 96 p e).2.1 (qU l 96 p e).2.2 (acc++[Ring.mk z t])
theorem qDL (s:ByteArray) (hs:(bl s).length<=1000000) (r0:qF) (h0:r0.s=s) (v:List Int×Int×Int) (hv:v.1.length<=24):∀(k x n p:Nat) (e:Int) (acc:List Ring),x+k=v.1.length->k<n->p<=(bl s).length->acc.length<=x->
  ZX r0 v n (x:Int) acc (p:Int) e=some (match rdR (bl s) (v.1.drop x) p e acc with|none=> .inl (Scan.mk [] [],false)|some (t,q,e')=> .inr (t,qF.mk s (q:Int) e'))
 |k,x,0,p,e,acc,_,h,_,_=>by omega
 |0,x,n+1,p,e,acc,hx,h,hp,ha=>by
  rw[ZX,ke (by omega),uf (by omega),h0];rfl
 |k+1,x,n+1,p,e,acc,hx,h,hp,ha=>by
  have kk:=rdInts_ok (bl s) (wX s) 96 p e hp;rw[ZX,kf (by omega),zL (by omega),h0,wJ v.1 x (by omega),rdR];simp only[kq];rw[show(96:Int)=((96:Nat):Int) from rfl,qH0 s 96 p e hs (by omega) (by omega)];simp only[ki];rw[toR_eq _ (by omega)];simp only[ki];cases hr:rdg (qU (bl s) 96 p e).1 with
  |none=>rfl
  |some t=>
   simp only[uj,ks];rw[jK (by omega),wL (by omega),kB];simp only[kq];exact qDL s hs r0 h0 v hv k (x+1) n _ _ _ (by omega) (by omega) kk.2 (by rw[ky];simp only[kv,kL];omega)
theorem qFC (s:ByteArray) (hs:(bl s).length<=1000000) (v:qI×List Int) (hv:v.2.length<=24):∀(k x n p:Nat) (e:Int) (acc:List Ring),x+k=v.2.length->k<n->p<=(bl s).length->acc.length<=x->
  ZW v n (x:Int) acc (qI.mk s (p:Int) e)=some (match rdR (bl s) (v.2.drop x) p e acc with|none=> .inl (Scan.mk [] [],false)|some (t,q,e')=> .inr (qI.mk s (q:Int) e',t))
 |k,x,0,p,e,acc,_,h,_,_=>by omega
 |0,x,n+1,p,e,acc,hx,h,hp,ha=>by
  rw[ZW,ke (by omega),uf (by omega)];rfl
 |k+1,x,n+1,p,e,acc,hx,h,hp,ha=>by
  have kk:=rdInts_ok (bl s) (wX s) 96 p e hp;rw[ZW,kf (by omega),wJ v.2 x (by omega),rdR];simp only[kq];rw[show(96:Int)=((96:Nat):Int) from rfl,qHY s 96 p e hs (by omega) (by omega)];simp only[ki];rw[rtoR_eq _ (by omega)];simp only[ki];cases hr:rdg (qU (bl s) 96 p e).1 with
  |none=>rfl
  |some t=>
   simp only[uj,ks];rw[zL (by omega),jK (by omega),wL (by omega),kB];simp only[kq];exact qFC s hs v hv k (x+1) n _ _ _ (by omega) (by omega) kk.2 (by rw[ky];simp only[kv,kL];omega)
theorem rdR_q (l:List Nat) (hl:∀k,l.getD k 0<256):∀{zs:List Int} {p q:Nat} {e e':Int} {acc t:List Ring},p<=l.length->rdR l zs p e acc=some (t,q,e')->q<=l.length
 |[],p,q,e,e',acc,t,hp,h=>by cases h;exact hp
 |z::zs,p,q,e,e',acc,t,hp,h=>by
  rw[rdR] at h;cases hr:rdg (qU l 96 p e).1 with
  |none=>rw[hr] at h;cases h
  |some u=>rw[hr] at h;exact rdR_q l hl (rdInts_ok l hl 96 p e hp).2 h
def parse15 (l:List Nat):Option Scan:=match rdR l (qU l 24 0 0).1 (qU l 24 0 0).2.1 (qU l 24 0 0).2.2 [] with
 |none=>none
 |some (rs,p,e)=>if(qU l 448 p e).1.length % 7≠0 then none else if(qU l 448 p e).2.2≠0\/(qU l 448 p e).2.1<l.length then none else some (Scan.mk rs (rdd (qU l 448 p e).1))
def qIt (o:Option Scan):Scan×Bool:=match o with|none=>(Scan.mk [] [],false)|some s=>(s,true)
theorem qLA (s:ByteArray) (hs:(bl s).length<=1000000):VM s=some (qIt (parse15 (bl s))):=by
 have hl:=wX s;have k1:=rdInts_ok (bl s) hl 24 0 0 (by omega);unfold VM PE parse15;simp only[ki];have e1:=qH0 s 24 0 0 hs (by omega) (by omega);rw[show((24:Nat):Int)=24 from rfl,show((0:Nat):Int)=0 from rfl] at e1;rw[e1];simp only[ki];have e2:=qDL s hs (qF.mk s 0 0) rfl ((qU (bl s) 24 0 0).1,((qU (bl s) 24 0 0).2.1:Int),(qU (bl s) 24 0 0).2.2) k1.1 (qU (bl s) 24 0 0).1.length 0 FUEL _ (qU (bl s) 24 0 0).2.2 [] (by simp) (by rw[jF];omega) k1.2 (by simp);rw[show((0:Nat):Int)=0 from rfl] at e2;rw[e2];simp only[uI]
 cases hr:rdR (bl s) (qU (bl s) 24 0 0).1 (qU (bl s) 24 0 0).2.1 (qU (bl s) 24 0 0).2.2 [] with
 |none=>rfl
 |some t=>
  obtain⟨rs,p,e⟩:=t;have hp:=rdR_q (bl s) hl k1.2 hr;have k2:=rdInts_ok (bl s) hl 448 p e hp;simp only[ki,Sum.elim_inr];have e3:=qH0 s 448 p e hs (by omega) (by omega);rw[show((448:Nat):Int)=448 from rfl] at e3;rw[e3];simp only[ki];rw[toD_eq _ (by omega)];by_cases h7:(qU (bl s) 448 p e).1.length % 7≠0
  ·rw[if_pos h7,if_pos h7];rfl
  ·rw[if_neg h7,if_neg h7];simp only[ki,uj,ks,KD,XU,YN];by_cases he:(qU (bl s) 448 p e).2.2=0
   ·rw[he];simp only[kM,ks];rw[IL,wF (by omega)];by_cases hq:(qU (bl s) 448 p e).2.1<(bl s).length
    ·rw[kf (show((bl s).length:Int)-((qU (bl s) 448 p e).2.1:Int)>0 by omega),if_pos (.inr hq)];rfl
    ·rw[ke (show¬((bl s).length:Int)-((qU (bl s) 448 p e).2.1:Int)>0 by omega),if_neg (λq=>q.elim (λq=>q rfl) hq)];rfl
   ·rw[show((qU (bl s) 448 p e).2.2 !=0)=true from uv.2 he,if_pos (.inl he)];simp only[kq,ki];rw[show((qU (bl s) 448 p e).2.2 !=0)=true from uv.2 he];rfl
theorem form_eq (s:ByteArray) (hs:(bl s).length<=1000000):GD s=some (qIt (parse15 (bl s))):=by
 have hl:=wX s;have k1:=rdInts_ok (bl s) hl 24 0 0 (by omega);unfold GD XW parse15;simp only[ki];have e1:=qHY s 24 0 0 hs (by omega) (by omega);rw[show((24:Nat):Int)=24 from rfl,show((0:Nat):Int)=0 from rfl] at e1;rw[e1];simp only[ki];have e2:=qFC s hs (qI.mk s ((qU (bl s) 24 0 0).2.1:Int) (qU (bl s) 24 0 0).2.2,(qU (bl s) 24 0 0).1) k1.1 (qU (bl s) 24 0 0).1.length 0 FUEL _ (qU (bl s) 24 0 0).2.2 [] (by simp) (by rw[jF];omega) k1.2 (by simp);rw[show((0:Nat):Int)=0 from rfl] at e2;rw[e2];simp only[uI]
 cases hr:rdR (bl s) (qU (bl s) 24 0 0).1 (qU (bl s) 24 0 0).2.1 (qU (bl s) 24 0 0).2.2 [] with
 |none=>rfl
 |some t=>
  obtain⟨rs,p,e⟩:=t;have hp:=rdR_q (bl s) hl k1.2 hr;have k2:=rdInts_ok (bl s) hl 448 p e hp;simp only[ki,Sum.elim_inr];have e3:=qHY s 448 p e hs (by omega) (by omega);rw[show((448:Nat):Int)=448 from rfl] at e3;rw[e3];simp only[ki,EO,LL,VR];rw[tmod7];by_cases he:(qU (bl s) 448 p e).2.2=0
  ·rw[he];simp only[uP,kq,ki];rw[IL,wF (by omega)];by_cases hq:(qU (bl s) 448 p e).2.1<(bl s).length
   ·rw[kf (show((bl s).length:Int)-((qU (bl s) 448 p e).2.1:Int)>0 by omega),if_pos (show(0:Int)≠0\/_ from .inr hq)];simp only[kq,ki,ZY];split<;>rfl
   ·rw[ke (show¬((bl s).length:Int)-((qU (bl s) 448 p e).2.1:Int)>0 by omega),if_neg (show¬((0:Int)≠0\/_) from λq=>q.elim (λq=>q rfl) hq)];simp only[ks,ki,kM,ZY];by_cases h7:(qU (bl s) 448 p e).1.length % 7≠0
    ·rw[kf h7,if_pos h7];rfl
    ·rw[ke h7,if_neg h7];have e4:=qFT (qI.mk s ((qU (bl s) 448 p e).2.1:Int) 0,(qU (bl s) 448 p e).1) (show(qU (bl s) 448 p e).1.length<=500 by omega) (show(qU (bl s) 448 p e).1.length % 7=0 by omega) FUEL 0 [] (by rw[jF];show(qU (bl s) 448 p e).1.length-0<_;omega) (by omega) (by omega) (by simp);rw[show((0:Nat):Int)=0 from rfl] at e4;simp only[ks];rw[e4];rfl
  ·rw[show((qU (bl s) 448 p e).2.2==0)=false from kV.2 he];simp only[ks,ki];rw[show((qU (bl s) 448 p e).2.2 !=0)=true from uv.2 he,if_pos (show(qU (bl s) 448 p e).2.2≠0\/_ from .inl he)];simp only[kq,ZY];split<;>rfl
def MF (b:ByteArray):Scan×Int:=match parse15 (bl b) with
 |none=>(Scan.mk [] [],5)
 |some s=>if WA s≠0 then(Scan.mk [] [],WA s) else(s,0)
theorem qKz (b:ByteArray) (hs:(bl b).length<=1000000):yM b=some (MF b)/\PB b=some (MF b):=by
 unfold yM PB MF;rw[qLA b hs,form_eq b hs];simp only[ki];cases parse15 (bl b) with
 |none=>exact⟨rfl,rfl⟩
 |some s=>
  simp only[qIt,uj,ks];have e:Scan.mk s.Rings s.Defects=s:=rfl;rw[e,qH9,qFB];simp only[ki];by_cases hc:WA s≠0
  ·rw[show(WA s !=0)=true from uv.2 hc,if_pos hc];exact⟨rfl,rfl⟩
  ·rw[if_neg hc,show WA s=0 from Classical.not_not.1 hc];exact⟨rfl,rfl⟩
theorem qE5 (b:ByteArray):qEc (MF b).1:=by
 unfold MF;cases parse15 (bl b) with
 |none=>exact qFA
 |some s=>
  simp only;by_cases hc:WA s≠0
  ·rw[if_pos hc];exact qFA
  ·rw[if_neg hc];exact((qD7 s).1 (Classical.not_not.1 hc)).small
theorem qEv (s:Scan) (b:ByteArray):WF s b=some true:=by
 unfold WF;rw[qLB];simp only[ki];have kT:jI s b true=some true:=by unfold jI;rw[qAT];rfl
 cases h1:fewB s with
 |false=>exact kT
 |true=>
  simp only[uj,ks];by_cases hb:(b.size:Int)>20000
  ·rw[kf hb];exact kT
  ·rw[ke hb];have hs:(bl b).length<=1000000:=by rw[<-IL];omega
   obtain⟨e1,e2⟩:=qKh s;obtain⟨d1,d2⟩:=qKz b hs;have e:∀x:Scan,Scan.mk x.Rings x.Defects=x:=λ_=>rfl;unfold jI;rw[e1,e2,d1,d2];simp only[ks,ki,e,(qKE _ _).2 rfl,kq,uP,qDK _ (qE5 b),qAT,wH]
theorem qEX (s:Scan) (b:ByteArray) {P Q:Prop} (_:P) (_:Q):WF s b=some true:=qEv s b
end Saw
end Go.SL

/- Wire: scans are read alike; ScanTexts. -/
import Derived.Test.YthbamnkheinbgaaGreatDoorSMa13
set_option linter.unusedVariables false
set_option linter.unusedSimpArgs false
namespace Go.SL
namespace Saw
theorem qHj {l:List Nat} {lo hi:Int}:∀{k p:Nat} {acc t:List Int} {q:Nat},rdL l lo hi k p acc= .inr (t,q)->t.length=acc.length+k
 |0,p,acc,t,q,h=>by cases h;omega
 |k+1,p,acc,t,q,h=>by
  rw[rdL] at h;cases hs:sg l p lo hi with
  |inl e=>rw[hs] at h;cases h
  |inr r=>
   rw[hs] at h;have:=qHj h;rw[kv] at this;simp only[kw,kN] at this;omega
theorem rdL_q {l:List Nat} (hl:∀k,l.getD k 0<256) {lo hi:Int}:∀{k p:Nat} {acc t:List Int} {q:Nat},p<=l.length->rdL l lo hi k p acc= .inr (t,q)->q<=l.length
 |0,p,acc,t,q,hp,h=>by cases h;exact hp
 |k+1,p,acc,t,q,hp,h=>by
  rw[rdL] at h;cases hs:sg l p lo hi with
  |inl e=>rw[hs] at h;cases h
  |inr r=>
   obtain⟨n,q'⟩:=r;rw[hs] at h;exact rdL_q hl (sg_q hl hs) h
theorem rdInts_ok (l:List Nat) (hl:∀k,l.getD k 0<256) (m p:Nat) (e:Int) (hp:p<=l.length):(qN l m p e).1.length<=m/\(qN l m p e).2.1<=l.length:=by
 unfold qN;split
 ·exact⟨ul _,hp⟩
 ·cases hn:num l p with
  |inl e'=>exact⟨ul _,hp⟩
  |inr r=>
   obtain⟨v,q⟩:=r;simp only;split
   ·exact⟨ul _,hp⟩
   ·cases hr:rdL l (-1099511627776) 1099511627776 v q [] with
    |inl e'=>exact⟨ul _,hp⟩
    |inr t=>
     obtain⟨t,q'⟩:=t;have h1:=qHj hr;have h2:=rdL_q hl (num_inr hl hn).2.2.1 hr;simp only[kN] at h1;exact⟨by show t.length<=m;omega,h2⟩
def rdg :List Int->Option (List qC)
 |[]=>some []
 |a::t=>if a=0 then(rdg t).map (λr=>qC.mk (qA.mk 0 0) false::r) else if a=1 then(match t with
  |x::y::u=>(rdg u).map (λr=>qC.mk (qA.mk x y) true::r)
  |_=>none) else none
theorem AY (t:List Int):rdg (0::t)=(rdg t).map (λr=>qC.mk (qA.mk 0 0) false::r):=by rw[rdg.eq_def];exact if_pos rfl
theorem EV (x y:Int) (u:List Int):rdg (1::x::y::u)=(rdg u).map (λr=>qC.mk (qA.mk x y) true::r):=rfl
theorem qBu :∀(n:Nat) (l:List Int) (acc:List qC),l.length<n->l.length+acc.length<=1000->zO n l acc=some (match rdg l with|some t=> .inr (acc++t)|none=> .inl ([],false))
 |0,l,acc,h,_=>by omega
 |n+1,[],acc,h,ha=>by rw[zO];simp[rdg]
 |n+1,a::t,acc,h,ha=>by
  simp only[kw] at h ha;rw[zO,kg (by simp only[kw];omega),inb_t (by omega) (by simp only[kw];omega)];simp only[kp,show(List.getD (a::t) (0:Int).toNat dd)=a from rfl];by_cases h0:a=0
  ·subst h0;rw[show((0:Int)==0)=true from rfl,jC (by omega),show slOk 1 (((0::t:List Int).length:Nat):Int) (0::t:List Int).length=true from kg ⟨by omega,by simp only[kw];omega,gk _⟩];simp only[kp];rw[show List.drop ((1:Int).toNat) (0::t)=t from rfl,qBu n t _ (by omega) (by rw[kv];simp only[kw,kN];omega)];rw[AY];cases rdg t<;>simp
  ·rw[show(a==0)=false from kU.2 h0];simp only[kq];by_cases h1:a=1
   ·subst h1;rw[show((1:Int)==1)=true from rfl];simp only[kp,yM]
    match t,h,ha with
    |[],_,_=>rfl
    |[x],_,_=>rfl
    |x::y::u,h,ha=>
     simp only[kw] at h ha;rw[kg (show(((1::x::y::u:List Int).length:Nat):Int)≥3 by simp only[kw];omega),inb_t (by omega) (by simp only[kw];omega),inb_t (by omega) (by simp only[kw];omega),jC (by omega),show slOk 3 (((1::x::y::u:List Int).length:Nat):Int) (1::x::y::u:List Int).length=true from kg ⟨by omega,by simp only[kw];omega,gk _⟩];simp only[kp];rw[show List.drop ((3:Int).toNat) (1::x::y::u)=u from rfl,show(List.getD (1::x::y::u) (1:Int).toNat dd)=x from rfl,show(List.getD (1::x::y::u) (2:Int).toNat dd)=y from rfl,qBu n u _ (by omega) (by rw[kv];simp only[kw,kN];omega),EV]
     cases rdg u<;>simp
   ·rw[show(a==1)=false from kU.2 h1];simp only[kq,yM];rw[rdg.eq_def];simp only[if_neg h0,if_neg h1]
theorem toR_eq (l:List Int) (h:l.length<=500):ZS l=some (match rdg l with|some t=>(t,true)|none=>([],false)):=by
 unfold ZS;rw[qBu FUEL l [] (by rw[jA];omega) (by simp;omega)];cases rdg l<;>rfl
theorem qAj (a:List Int) (hl:a.length<=500):∀(n x:Nat) (acc:List qC),a.length-x<n->x<=a.length->acc.length<=x->jU a n acc (x:Int)=some (match rdg (a.drop x) with|some t=> .inr (acc++t)|none=> .inl ([],false))
 |0,x,acc,h,_,_=>by omega
 |n+1,x,acc,h,hx,ha=>by
  rw[jU];by_cases hxl:x<a.length
  ·have hd:=wD a x hxl;rw[kg (by omega),zD (by omega),kB,wF (by omega),wB (n:=(x:Int)+2) (by omega),hd];generalize hb:a.getD x dd=b;simp only[kp];by_cases h0:b=0
   ·subst h0;rw[show((0:Int)==0)=true from rfl,jC (by omega)];simp only[kp];rw[qAj a hl n (x+1) _ (by omega) (by omega) (by rw[kv];simp only[kw,kN];omega),AY];cases rdg (a.drop (x+1))<;>simp
   ·rw[show(b==0)=false from kU.2 h0];simp only[kq];by_cases h1:b=1
    ·subst h1;simp only[kJ,kq,WI];rw[wF (by omega),wB (n:=(x:Int)+2) (by omega),wB (n:=(x:Int)+3) (by omega)];by_cases h2:x+2<a.length
     ·have hd1:=wD a (x+1) (by omega);have hd2:=wD a (x+2) h2;rw[kf (show¬(x:Int)+2≥(a.length:Int) by omega),zD (by omega),zD (by omega),jC (by omega),hd1,hd2,EV];simp only[kp,kq];rw[show(x:Int)+3=((x+3:Nat):Int) by omega,show((x:Int)+2).toNat=x+2 by omega,kB,qAj a hl n (x+3) _ (by omega) (by omega) (by rw[kv];simp only[kw,kN];omega)];cases rdg (a.drop (x+3))<;>simp
     ·rw[kg (show(x:Int)+2≥(a.length:Int) by omega)];simp only[kp];by_cases h3:x+1<a.length
      ·have hd1:=wD a (x+1) h3;rw[hd1,kZ (by omega:a.length<=x+1+1)];rfl
      ·rw[kZ (by omega)];rfl
    ·rw[show(b !=1)=true from ui.2 h1];simp only[kp,WI];rw[rdg.eq_def];simp only[if_neg h0,if_neg h1]
  ·rw[kf (by omega),kZ (by omega)];simp[rdg]
theorem rtoR_eq (l:List Int) (h:l.length<=500):VX l=some (match rdg l with|some t=>(t,true)|none=>([],false)):=by
 unfold VX;have k:=qAj l h FUEL 0 [] (by rw[jA];omega) (by omega) (by simp);rw[show((0:Nat):Int)=0 from rfl,uB] at k;rw[k];cases rdg l<;>rfl
def rdd :List Int->List qI
 |k::a::b::c::d::e::f::t=>qI.mk k (Box.mk (Span.mk a b) (Span.mk c d) (Span.mk e f))::rdd t
 |_=>[]
theorem seven {l:List Int} (h:l.length % 7=0) (h0:0<l.length):∃k a b c d e f t,l=k::a::b::c::d::e::f::t:=by
 match l,h,h0 with
 |[],_,h0=>simp at h0
 |[_],h,_=>simp at h
 |[_,_],h,_=>simp at h
 |[_,_,_],h,_=>simp at h
 |[_,_,_,_],h,_=>simp at h
 |[_,_,_,_,_],h,_=>simp at h
 |[_,_,_,_,_,_],h,_=>simp at h
 |k::a::b::c::d::e::f::t,_,_=>exact⟨k,a,b,c,d,e,f,t,rfl⟩
theorem qE2 :∀(n:Nat) (l:List Int) (acc:List qI),l.length<n->l.length % 7=0->l.length+acc.length<=1000->QH n l acc=some (acc++rdd l)
 |0,l,acc,h,_,_=>by omega
 |n+1,l,acc,h,h7,ha=>by
  rw[QH];by_cases h0:0<l.length
  ·obtain⟨k,a,b,c,d,e,f,t,rfl⟩:=seven h7 h0;simp only[kw] at h h7 ha;have hL:(k::a::b::c::d::e::f::t).length=t.length+7:=by simp only[kw]
   rw[hL,kg (by omega),zD (by omega),zD (by omega),zD (by omega),zD (by omega),zD (by omega),zD (by omega),zD (by omega),jC (by omega),show slOk 7 (((t.length+7:Nat)):Int) (t.length+7)=true from kg ⟨by omega,by omega,gk _⟩];simp only[kp];refine(qE2 n t _ (by omega) (by omega) (by rw[kv];simp only[kw,kN];omega)).trans ?_;rw[rdd,kW];rfl
  ·rw[kf (by omega)];rw[show l=[] from List.length_eq_zero_iff.1 (by omega)];simp[rdd]
theorem tmod7 (n:Nat):(Int.tmod ((n:Nat):Int) 7 !=0)=decide (n % 7≠0):=by
 rw[uR (by omega)];by_cases h:n % 7=0
 ·rw[kf (by omega)];rw[bne_eq_false_iff_eq];omega
 ·rw[kg h];rw[ui];omega
theorem toD_eq (l:List Int) (h:l.length<=500):WR l=some (if l.length % 7≠0 then([],false) else(rdd l,true)):=by
 unfold WR;rw[tmod7];by_cases h7:l.length % 7≠0
 ·rw[kg h7,if_pos h7];rfl
 ·rw[kf h7,if_neg h7,qE2 FUEL l [] (by rw[jA];omega) (by omega) (by simp;omega)];rfl
theorem qDL (v:qR×List Int) (hl:v.2.length<=500) (h7:v.2.length % 7=0):∀(n x:Nat) (acc:List qI),v.2.length-x<n->x<=v.2.length->x % 7=0->acc.length<=x->PM v n (x:Int) acc=some (acc++rdd (v.2.drop x))
 |0,x,acc,h,_,_,_=>by omega
 |n+1,x,acc,h,hx,hx7,ha=>by
  rw[PM];by_cases hxl:x<v.2.length
  ·have h6:x+7<=v.2.length:=by omega
   have e0:=wD v.2 x hxl;have e1:=wD v.2 (x+1) (by omega);have e2:=wD v.2 (x+1+1) (by omega);have e3:=wD v.2 (x+1+1+1) (by omega);have e4:=wD v.2 (x+1+1+1+1) (by omega);have e5:=wD v.2 (x+1+1+1+1+1) (by omega);have e6:=wD v.2 (x+1+1+1+1+1+1) (by omega);rw[kg (by omega),wB (n:=(x:Int)+1) (by omega),wB (n:=(x:Int)+2) (by omega),wB (n:=(x:Int)+3) (by omega),wB (n:=(x:Int)+4) (by omega),wB (n:=(x:Int)+5) (by omega),wB (n:=(x:Int)+6) (by omega),wB (n:=(x:Int)+7) (by omega),
    zD (by omega),zD (by omega),zD (by omega),zD (by omega),zD (by omega),zD (by omega),zD (by omega),jC (by omega),e0,e1,e2,e3,e4,e5,e6,rdd]
   simp only[kp];rw[show((x:Int)+1).toNat=x+1 by omega,show((x:Int)+2).toNat=x+1+1 by omega,show((x:Int)+3).toNat=x+1+1+1 by omega,show((x:Int)+4).toNat=x+1+1+1+1 by omega,show((x:Int)+5).toNat=x+1+1+1+1+1 by omega,show((x:Int)+6).toNat=x+1+1+1+1+1+1 by omega,kB,show(x:Int)+7=((x+7:Nat):Int) by omega,
    qDL v hl h7 n (x+7) _ (by omega) (by omega) (by omega) (by rw[kv];simp only[kw,kN];omega),kW]
   rfl
  ·rw[kf (by omega),kZ (by omega)];simp[rdd]
def rdR (l:List Nat):List Int->Nat->Int->List Ring->Option (List Ring×Nat×Int)
 |[],p,e,acc=>some (acc,p,e)
 |z::zs,p,e,acc=>match rdg (qN l 96 p e).1 with
  |none=>none
  |some t=>rdR l zs (qN l 96 p e).2.1 (qN l 96 p e).2.2 (acc++[Ring.mk z t])
theorem qCf (s:ByteArray) (hs:(bl s).length<=1000000) (r0:qD) (h0:r0.s=s) (v:List Int×Int×Int) (hv:v.1.length<=24):∀(k x n p:Nat) (e:Int) (acc:List Ring),x+k=v.1.length->k<n->p<=(bl s).length->acc.length<=x->
  ZN r0 v n (x:Int) acc (p:Int) e=some (match rdR (bl s) (v.1.drop x) p e acc with|none=> .inl (Scan.mk [] [],false)|some (t,q,e')=> .inr (t,qD.mk s (q:Int) e'))
 |k,x,0,p,e,acc,_,h,_,_=>by omega
 |0,x,n+1,p,e,acc,hx,h,hp,ha=>by
  rw[ZN,kf (by omega),kZ (by omega),h0];rfl
 |k+1,x,n+1,p,e,acc,hx,h,hp,ha=>by
  have kk:=rdInts_ok (bl s) (wJ s) 96 p e hp;rw[ZN,kg (by omega),zD (by omega),h0,wD v.1 x (by omega),rdR];simp only[kp];rw[show(96:Int)=((96:Nat):Int) from rfl,qFT s 96 p e hs (by omega) (by omega)];simp only[ke];rw[toR_eq _ (by omega)];simp only[ke];cases hr:rdg (qN (bl s) 96 p e).1 with
  |none=>rfl
  |some t=>
   simp only[uj,kq];rw[jC (by omega),wF (by omega),kB];simp only[kp];exact qCf s hs r0 h0 v hv k (x+1) n _ _ _ (by omega) (by omega) kk.2 (by rw[kv];simp only[kw,kN];omega)
theorem qDR (s:ByteArray) (hs:(bl s).length<=1000000) (v:qR×List Int) (hv:v.2.length<=24):∀(k x n p:Nat) (e:Int) (acc:List Ring),x+k=v.2.length->k<n->p<=(bl s).length->acc.length<=x->
  YL v n (x:Int) acc (qR.mk s (p:Int) e)=some (match rdR (bl s) (v.2.drop x) p e acc with|none=> .inl (Scan.mk [] [],false)|some (t,q,e')=> .inr (qR.mk s (q:Int) e',t))
 |k,x,0,p,e,acc,_,h,_,_=>by omega
 |0,x,n+1,p,e,acc,hx,h,hp,ha=>by
  rw[YL,kf (by omega),kZ (by omega)];rfl
 |k+1,x,n+1,p,e,acc,hx,h,hp,ha=>by
  have kk:=rdInts_ok (bl s) (wJ s) 96 p e hp;rw[YL,kg (by omega),wD v.2 x (by omega),rdR];simp only[kp];rw[show(96:Int)=((96:Nat):Int) from rfl,qFI s 96 p e hs (by omega) (by omega)];simp only[ke];rw[rtoR_eq _ (by omega)];simp only[ke];cases hr:rdg (qN (bl s) 96 p e).1 with
  |none=>rfl
  |some t=>
   simp only[uj,kq];rw[zD (by omega),jC (by omega),wF (by omega),kB];simp only[kp];exact qDR s hs v hv k (x+1) n _ _ _ (by omega) (by omega) kk.2 (by rw[kv];simp only[kw,kN];omega)
theorem rdR_q (l:List Nat) (hl:∀k,l.getD k 0<256):∀{zs:List Int} {p q:Nat} {e e':Int} {acc t:List Ring},p<=l.length->rdR l zs p e acc=some (t,q,e')->q<=l.length
 |[],p,q,e,e',acc,t,hp,h=>by cases h;exact hp
 |z::zs,p,q,e,e',acc,t,hp,h=>by
  rw[rdR] at h;cases hr:rdg (qN l 96 p e).1 with
  |none=>rw[hr] at h;cases h
  |some u=>rw[hr] at h;exact rdR_q l hl (rdInts_ok l hl 96 p e hp).2 h
def parse15 (l:List Nat):Option Scan:=match rdR l (qN l 24 0 0).1 (qN l 24 0 0).2.1 (qN l 24 0 0).2.2 [] with
 |none=>none
 |some (rs,p,e)=>if(qN l 448 p e).1.length % 7≠0 then none else if(qN l 448 p e).2.2≠0\/(qN l 448 p e).2.1<l.length then none else some (Scan.mk rs (rdd (qN l 448 p e).1))
def qF6 (o:Option Scan):Scan×Bool:=match o with|none=>(Scan.mk [] [],false)|some s=>(s,true)
theorem qJI (s:ByteArray) (hs:(bl s).length<=1000000):UK s=some (qF6 (parse15 (bl s))):=by
 have hl:=wJ s;have k1:=rdInts_ok (bl s) hl 24 0 0 (by omega);unfold UK KC parse15;simp only[ke];have e1:=qFT s 24 0 0 hs (by omega) (by omega);rw[show((24:Nat):Int)=24 from rfl,show((0:Nat):Int)=0 from rfl] at e1;rw[e1];simp only[ke];have e2:=qCf s hs (qD.mk s 0 0) rfl ((qN (bl s) 24 0 0).1,((qN (bl s) 24 0 0).2.1:Int),(qN (bl s) 24 0 0).2.2) k1.1 (qN (bl s) 24 0 0).1.length 0 FUEL _ (qN (bl s) 24 0 0).2.2 [] (by simp) (by rw[jA];omega) k1.2 (by simp);rw[show((0:Nat):Int)=0 from rfl] at e2;rw[e2];simp only[uB]
 cases hr:rdR (bl s) (qN (bl s) 24 0 0).1 (qN (bl s) 24 0 0).2.1 (qN (bl s) 24 0 0).2.2 [] with
 |none=>rfl
 |some t=>
  obtain⟨rs,p,e⟩:=t;have hp:=rdR_q (bl s) hl k1.2 hr;have k2:=rdInts_ok (bl s) hl 448 p e hp;simp only[ke,Sum.elim_inr];have e3:=qFT s 448 p e hs (by omega) (by omega);rw[show((448:Nat):Int)=448 from rfl] at e3;rw[e3];simp only[ke];rw[toD_eq _ (by omega)];by_cases h7:(qN (bl s) 448 p e).1.length % 7≠0
  ·rw[if_pos h7,if_pos h7];rfl
  ·rw[if_neg h7,if_neg h7];simp only[ke,uj,kq,YX,XH,JQ];by_cases he:(qN (bl s) 448 p e).2.2=0
   ·rw[he];simp only[kJ,kq];rw[SG,wB (by omega)];by_cases hq:(qN (bl s) 448 p e).2.1<(bl s).length
    ·rw[kg (show((bl s).length:Int)-((qN (bl s) 448 p e).2.1:Int)>0 by omega),if_pos (.inr hq)];rfl
    ·rw[kf (show¬((bl s).length:Int)-((qN (bl s) 448 p e).2.1:Int)>0 by omega),if_neg (λq=>q.elim (λq=>q rfl) hq)];rfl
   ·rw[show((qN (bl s) 448 p e).2.2 !=0)=true from ui.2 he,if_pos (.inl he)];simp only[kp,ke];rw[show((qN (bl s) 448 p e).2.2 !=0)=true from ui.2 he];rfl
theorem form_eq (s:ByteArray) (hs:(bl s).length<=1000000):AQ s=some (qF6 (parse15 (bl s))):=by
 have hl:=wJ s;have k1:=rdInts_ok (bl s) hl 24 0 0 (by omega);unfold AQ MC parse15;simp only[ke];have e1:=qFI s 24 0 0 hs (by omega) (by omega);rw[show((24:Nat):Int)=24 from rfl,show((0:Nat):Int)=0 from rfl] at e1;rw[e1];simp only[ke];have e2:=qDR s hs (qR.mk s ((qN (bl s) 24 0 0).2.1:Int) (qN (bl s) 24 0 0).2.2,(qN (bl s) 24 0 0).1) k1.1 (qN (bl s) 24 0 0).1.length 0 FUEL _ (qN (bl s) 24 0 0).2.2 [] (by simp) (by rw[jA];omega) k1.2 (by simp);rw[show((0:Nat):Int)=0 from rfl] at e2;rw[e2];simp only[uB]
 cases hr:rdR (bl s) (qN (bl s) 24 0 0).1 (qN (bl s) 24 0 0).2.1 (qN (bl s) 24 0 0).2.2 [] with
 |none=>rfl
 |some t=>
  obtain⟨rs,p,e⟩:=t;have hp:=rdR_q (bl s) hl k1.2 hr;have k2:=rdInts_ok (bl s) hl 448 p e hp;simp only[ke,Sum.elim_inr];have e3:=qFI s 448 p e hs (by omega) (by omega);rw[show((448:Nat):Int)=448 from rfl] at e3;rw[e3];simp only[ke,qD0,qCr,FX];rw[tmod7];by_cases he:(qN (bl s) 448 p e).2.2=0
  ·rw[he];simp only[uG,kp,ke];rw[SG,wB (by omega)];by_cases hq:(qN (bl s) 448 p e).2.1<(bl s).length
   ·rw[kg (show((bl s).length:Int)-((qN (bl s) 448 p e).2.1:Int)>0 by omega),if_pos (show(0:Int)≠0\/_ from .inr hq)];simp only[kp,ke,JZ];split<;>rfl
   ·rw[kf (show¬((bl s).length:Int)-((qN (bl s) 448 p e).2.1:Int)>0 by omega),if_neg (show¬((0:Int)≠0\/_) from λq=>q.elim (λq=>q rfl) hq)];simp only[kq,ke,kJ,JZ];by_cases h7:(qN (bl s) 448 p e).1.length % 7≠0
    ·rw[kg h7,if_pos h7];rfl
    ·rw[kf h7,if_neg h7];have e4:=qDL (qR.mk s ((qN (bl s) 448 p e).2.1:Int) 0,(qN (bl s) 448 p e).1) (show(qN (bl s) 448 p e).1.length<=500 by omega) (show(qN (bl s) 448 p e).1.length % 7=0 by omega) FUEL 0 [] (by rw[jA];show(qN (bl s) 448 p e).1.length-0<_;omega) (by omega) (by omega) (by simp);rw[show((0:Nat):Int)=0 from rfl] at e4;simp only[kq];rw[e4];rfl
  ·rw[show((qN (bl s) 448 p e).2.2==0)=false from kU.2 he];simp only[kq,ke];rw[show((qN (bl s) 448 p e).2.2 !=0)=true from ui.2 he,if_pos (show(qN (bl s) 448 p e).2.2≠0\/_ from .inl he)];simp only[kp,JZ];split<;>rfl
def GA (b:ByteArray):Scan×Int:=match parse15 (bl b) with
 |none=>(Scan.mk [] [],5)
 |some s=>if yK s≠0 then(Scan.mk [] [],yK s) else(s,0)
theorem CV (b:ByteArray) (hs:(bl b).length<=1000000):jG b=some (GA b)/\CZ b=some (GA b):=by
 unfold jG CZ GA;rw[qJI b hs,form_eq b hs];simp only[ke];cases parse15 (bl b) with
 |none=>exact⟨rfl,rfl⟩
 |some s=>
  simp only[qF6,uj,kq];have e:Scan.mk s.Rings s.Defects=s:=rfl;rw[e,qBF,qD9];simp only[ke];by_cases hc:yK s≠0
  ·rw[show(yK s !=0)=true from ui.2 hc,if_pos hc];exact⟨rfl,rfl⟩
  ·rw[if_neg hc,show yK s=0 from Classical.not_not.1 hc];exact⟨rfl,rfl⟩
theorem qIJ {α:Type} {a b X:List α}:(a++b)<+:X↔a<+:X/\b<+:X.drop a.length:=by
 constructor
 ·rintro⟨t,rfl⟩;exact⟨⟨b++t,by simp⟩,⟨t,by simp⟩⟩
 ·rintro⟨⟨t,rfl⟩,u,h⟩;rw[List.drop_left] at h;exact⟨u,by rw[<-h];simp⟩
theorem yE {a b l:List Nat} {p:Nat}:(a++b)<+:l.drop p↔a<+:l.drop p/\b<+:l.drop (p+a.length):=by
 rw[qIJ,List.drop_drop]
theorem qIC {i w:Nat} (hi:i=9) (h:w*128^i<18446744073709551616):w<=1:=by subst hi;omega
theorem qGl {l:List Nat} {p:Nat}:∀{f i v w:Nat},f+1+i=10->encN w<+:l.drop (p+i)->(0<i->w≠0)->w*128^i<18446744073709551616->numF l p (f+1) i v= .inr (v+w*128^i,p+i+(encN w).length)
 |f,i,v,w,hf,hp,h0,hw=>by
  by_cases h1:w<128
  ·rw[VI h1] at hp⊢;have hsz:p+i<l.length:=by
    obtain⟨t,ht⟩:=hp;refine Classical.byContradiction λhn=>?_;rw[kZ (by omega)] at ht;cases ht
   rw[OU hsz,ge] at hp;rw[numF,if_neg (by omega),<-hp.1,if_neg (λq=>by have:=qIC q.1 hw;omega),if_neg (by omega),if_neg (λq=>h0 q.2 q.1)];rfl
  ·rw[SS h1] at hp⊢;have hsz:p+i<l.length:=by
    obtain⟨t,ht⟩:=hp;refine Classical.byContradiction λhn=>?_;rw[kZ (by omega)] at ht;cases ht
   rw[OU hsz,ge] at hp;have h9:i≠9:=λq=>by have:=qIC q hw;omega
   obtain⟨f',rfl⟩:∃f',f=f'+1:=⟨f-1,by omega⟩
   have hw':w/128*128^(i+1)<=w*128^i:=by
    rw[gc,ur (128^i),<-Nat.mul_assoc];exact kE _ (by omega)
   have e5:encN (w/128)<+:l.drop (p+(i+1)):=by rw[show p+(i+1)=p+i+1 by omega];exact hp.2
   rw[numF,if_neg (by omega),<-hp.1,if_neg (λq=>h9 q.1),if_pos (by omega),qGl (f:=f') (by omega) e5 (λ_=>by omega) (by omega)]
   congr 2
   ·rw[show 128+w % 128-128=w % 128 by omega,gc,ur (128^i),<-Nat.mul_assoc,uq,<-kP]
    congr 2
    omega
   ·simp only[kw];omega
theorem qG5 {l:List Nat} {p v:Nat} (h:encN v<+:l.drop p) (hv:v<18446744073709551616):num l p= .inr (v,p+(encN v).length):=by
 unfold num;rw[qGl (f:=9) (by omega) h (by omega) (by omega)];simp
theorem unzz_zz (n:Int):unzz (zz n)=n:=by
 unfold unzz zz;split<;>split<;>omega
theorem zz_unzz (v:Nat):zz (unzz v)=v:=by
 unfold unzz zz;split<;>split<;>omega
def b40 (n:Int):Prop:= -1099511627776<=n/\n<=1099511627776
theorem sg_enc {l:List Nat} {p:Nat} {n:Int} (h:encN (zz n)<+:l.drop p) (hn:b40 n):sg l p (-1099511627776) 1099511627776= .inr (n,p+(encN (zz n)).length):=by
 have h1:=hn.1;have h2:=hn.2;unfold sg;rw[qG5 h (qAw (by omega) (by omega))];simp only;rw[unzz_zz,if_neg (by omega)]
def UN (t:List Int):List Nat:=(t.map λn=>encN (zz n)).flatten
theorem NC (n:Int) (t:List Int):UN (n::t)=encN (zz n)++UN t:=by simp[UN]
theorem qHf {l:List Nat}:∀{t:List Int} {p:Nat} {acc:List Int},UN t<+:l.drop p->(∀n∈t,b40 n)->rdL l (-1099511627776) 1099511627776 t.length p acc= .inr (acc++t,p+(UN t).length)
 |[],p,acc,_,_=>by simp[rdL,UN]
 |n::t,p,acc,h,hb=>by
  rw[NC,yE] at h;rw[kw,rdL,sg_enc h.1 (hb n (kO ..))];simp only;rw[qHf h.2 (λx hx=>hb x (kL _ hx)),NC,kv];simp[uq]
theorem AF {l:List Nat} {t:List Int} {m p:Nat} (h:encI t<+:l.drop p) (hb:∀n∈t,b40 n) (hm:t.length<=m) (hm':m<=1000):qN l m p 0=(t,p+(encI t).length,0):=by
 have h':encN t.length++UN t<+:l.drop p:=h;rw[yE] at h';unfold qN;rw[if_neg (by simp),qG5 h'.1 (by omega)];simp only;rw[if_neg (by omega),qHf h'.2 hb];simp only[uu];rw[show encI t=encN t.length++UN t from rfl,kv,uq]
theorem qF3 :∀(r:List qC),(∀x∈r,x.Ok=false->x.P=⟨0,0⟩)->rdg (nums r)=some r
 |[],_=>rfl
 |x::r,h=>by
  have ih:=qF3 r (λy hy=>h y (kL _ hy));have e:nums (x::r)=numR x++nums r:=by simp[nums]
  have hx:=h x (kO ..);obtain⟨⟨px,py⟩,ok⟩:=x;rw[e];cases ok with
  |true=>
   show rdg (1::px::py::nums r)=_;rw[EV,ih];rfl
  |false=>
   show rdg (0::nums r)=_;rw[AY,ih];have:=hx rfl;simp only at this;rw[this];rfl
theorem qBo :∀(n:Nat) (t:List Int) (r:List qC),t.length<n->rdg t=some r->nums r=t
 |0,t,r,h,_=>by omega
 |n+1,[],r,_,h=>by rw[rdg] at h;cases h;rfl
 |n+1,a::t,r,hn,h=>by
  simp only[kw] at hn;by_cases h0:a=0
  ·subst h0;rw[AY] at h;cases hr:rdg t with
   |none=>rw[hr] at h;cases h
   |some u=>
    rw[hr] at h;cases h;have e:nums (qC.mk ⟨0,0⟩ false::u)=0::nums u:=by simp[nums,numR]
    rw[e,qBo n t u (by omega) hr]
  ·by_cases h1:a=1
   ·subst h1
    match t,hn,h with
    |[],_,h=>rw[rdg.eq_def] at h;simp at h
    |[x],_,h=>rw[rdg.eq_def] at h;simp at h
    |x::y::u,hn,h=>
     simp only[kw] at hn;rw[EV] at h;cases hr:rdg u with
     |none=>rw[hr] at h;cases h
     |some w=>
      rw[hr] at h;cases h;have e:nums (qC.mk ⟨x,y⟩ true::w)=1::x::y::nums w:=by simp[nums,numR]
      rw[e,qBo n u w (by omega) hr]
   ·rw[rdg.eq_def] at h;simp only[if_neg h0,if_neg h1] at h;cases h
theorem qD5 :∀(l:List qI),rdd (yR l)=l
 |[]=>rfl
 |d::l=>by
  have e:yR (d::l)=numD d++yR l:=by simp[yR]
  rw[e];show rdd (d.Kind::d.Box.X.A::d.Box.X.B::d.Box.Y.A::d.Box.Y.B::d.Box.Z.A::d.Box.Z.B::yR l)=_;rw[rdd,qD5 l]
theorem qD3 :∀(n:Nat) (l:List Int),l.length<n->l.length % 7=0->yR (rdd l)=l
 |0,l,h,_=>by omega
 |n+1,l,h,h7=>by
  by_cases h0:0<l.length
  ·obtain⟨k,a,b,c,d,e,f,t,rfl⟩:=seven h7 h0;simp only[kw] at h h7;rw[rdd];have ee:yR (qI.mk k (Box.mk (Span.mk a b) (Span.mk c d) (Span.mk e f))::rdd t)=[k,a,b,c,d,e,f]++yR (rdd t):=by simp[yR,numD]
   rw[ee,qD3 n t (by omega) (by omega)];rfl
  ·rw[show l=[] from List.length_eq_zero_iff.1 (by omega)];rfl
theorem MG (r:Ring) (rs:List Ring):encR (r::rs)=encI (nums r.Read)++encR rs:=by simp[encR]
theorem bnd.b40 {l:List Int} (h:bnd l):∀n∈l,Saw.b40 n:=λn hn=>by have:=h n hn;unfold Saw.b40;omega
theorem qIE {r:Ring} (g:YO r):∀x∈r.Read,x.Ok=false->x.P=⟨0,0⟩:=λx hx ho=>by
 have h:=g.all x hx;unfold WC at h;rw[ho] at h;obtain⟨⟨px,py⟩,ok⟩:=x;cases hz:DU ⟨px,py⟩ with
 |false=>rw[hz] at h;exact absurd h (show¬((19:Int)=0) by decide)
 |true=>
  unfold DU at hz;simp only[Bool.and_true,ko,beq_iff_eq] at hz;rw[hz.1,hz.2]
theorem qHz {l:List Nat}:∀{rs:List Ring} {p:Nat} {acc:List Ring},encR rs<+:l.drop p->(∀r∈rs,YO r)->rdR l (rs.map λr=>r.Z) p 0 acc=some (acc++rs,p+(encR rs).length,0)
 |[],p,acc,_,_=>by simp[rdR,encR]
 |r::rs,p,acc,h,hg=>by
  have g:=hg r (kO ..);have hl:=GB r.Read;have hi:=g.hi;rw[MG,yE] at h;rw[kV,rdR,AF h.1 (RN g).b40 (by omega) (by omega)];simp only;rw[qF3 r.Read (qIE g)];simp only;rw[qHz h.2 (λx hx=>hg x (kL _ hx)),MG,kv];simp[uq]
theorem qIU {s:Scan} (v:V15 s):parse15 (enc15 s)=some s:=by
 have v24:=v.many;have d:=(JT _).1 v.def13;have dl:=qAh s.Defects;have zl:(zsS s).length=s.Rings.length:=by simp[zsS]
 have pf:encI (zsS s)++encR s.Rings++encI (yR s.Defects)<+:(enc15 s).drop 0:=by rw[uB];exact List.prefix_refl _
 have p1:=(yE.1 (yE.1 pf).1).1;have p2:=(yE.1 (yE.1 pf).1).2;have p3:=(yE.1 pf).2;rw[kv,<-uq] at p3;unfold parse15;rw[AF p1 (SH v).b40 (by omega) (by omega)];simp only;rw[show zsS s=s.Rings.map λr=>r.Z from rfl] at p2 p3⊢;rw[qHz p2 v.mem];simp only[uu];rw[AF p3 (CY d.2).b40 (by omega) (by omega)];simp only;have e:0+(encI (s.Rings.map λr=>r.Z)).length+(encR s.Rings).length+(encI (yR s.Defects)).length=(enc15 s).length:=by
  unfold enc15 zsS;simp only[kv];omega
 rw[if_neg (by omega),if_neg (λq=>q.elim (λq=>q rfl) (λq=>by omega)),qD5]
theorem sg_inv {l:List Nat} (hl:∀k,l.getD k 0<256) {p q:Nat} {lo hi n:Int} (h:sg l p lo hi= .inr (n,q)):encN (zz n)<+:l.drop p/\q=p+(encN (zz n)).length:=by
 unfold sg at h;cases hn:num l p with
 |inl e=>rw[hn] at h;cases h
 |inr r=>
  obtain⟨v,q'⟩:=r;obtain⟨_,e1,_,e2⟩:=num_inr hl hn;rw[hn] at h;simp only at h;split at h
  ·cases h
  ·cases h;rw[zz_unzz];exact⟨e2,e1⟩
theorem qHh {l:List Nat} (hl:∀k,l.getD k 0<256) {lo hi:Int}:∀{k p q:Nat} {acc t:List Int},rdL l lo hi k p acc= .inr (t,q)->∃u,t=acc++u/\u.length=k/\UN u<+:l.drop p/\q=p+(UN u).length
 |0,p,q,acc,t,h=>by cases h;exact⟨[],by simp,rfl,List.nil_prefix,rfl⟩
 |k+1,p,q,acc,t,h=>by
  rw[rdL] at h;cases hs:sg l p lo hi with
  |inl e=>rw[hs] at h;cases h
  |inr r=>
   obtain⟨n,q'⟩:=r;rw[hs] at h;obtain⟨e1,e2⟩:=sg_inv hl hs;obtain⟨u,h1,h2,h3,h4⟩:=qHh hl h;refine⟨n::u,by rw[h1,kW];rfl,by rw[kw,h2],?_,?_⟩
   ·rw[NC,yE];exact⟨e1,e2▸h3⟩
   ·rw[NC,kv];omega
theorem AC {l:List Nat} (hl:∀k,l.getD k 0<256) {m p:Nat} {e:Int} (h:(qN l m p e).2.2=0):e=0/\encI (qN l m p e).1<+:l.drop p/\(qN l m p e).2.1=p+(encI (qN l m p e).1).length:=by
 unfold qN at h⊢;by_cases he:e≠0
 ·rw[if_pos he] at h;exact absurd h he
 rw[if_neg he] at h⊢;refine⟨Classical.not_not.1 he,?_⟩;cases hn:num l p with
 |inl e'=>
  rw[hn] at h;exact absurd h (ui.1 (inl_ne hn))
 |inr r=>
  obtain⟨v,q⟩:=r;obtain⟨_,e1,_,e2⟩:=num_inr hl hn;rw[hn] at h;simp only at h⊢;by_cases hm:m<v
  ·rw[if_pos hm] at h;exact absurd h (show¬((4:Int)=0) by decide)
  rw[if_neg hm] at h⊢;cases hr:rdL l (-1099511627776) 1099511627776 v q [] with
  |inl e'=>
   rw[hr] at h;have ne:∀{k p:Nat} {acc:List Int} {e':Int},rdL l (-1099511627776) 1099511627776 k p acc= .inl e'->(e' !=0)=true:=by
    intro k
    induction k with
    |zero=>intro p acc e' h;cases h
    |succ k ih=>
     intro p acc e' h;rw[rdL] at h;cases hs:sg l p (-1099511627776) 1099511627776 with
     |inl x=>rw[hs] at h;cases h;exact sg_inl hs
     |inr x=>rw[hs] at h;exact ih h
   exact absurd h (ui.1 (ne hr))
  |inr t=>
   obtain⟨t,q'⟩:=t;obtain⟨u,h1,h2,h3,h4⟩:=qHh hl hr;simp only[uu] at h1;subst h1;simp only;have ee:encI t=encN v++UN t:=by unfold encI;rw[h2];rfl
   rw[ee,yE,kv];exact⟨⟨e2,e1▸h3⟩,by omega⟩
theorem qHd {l:List Nat} (hl:∀k,l.getD k 0<256):∀{zs:List Int} {p q:Nat} {e:Int} {acc t:List Ring},rdR l zs p e acc=some (t,q,0)->e=0/\∃u,t=acc++u/\(u.map λr=>r.Z)=zs/\encR u<+:l.drop p/\q=p+(encR u).length
 |[],p,q,e,acc,t,h=>by
  rw[rdR] at h;cases h;exact⟨rfl,[],by simp,rfl,List.nil_prefix,rfl⟩
 |z::zs,p,q,e,acc,t,h=>by
  rw[rdR] at h;cases hr:rdg (qN l 96 p e).1 with
  |none=>rw[hr] at h;cases h
  |some w=>
   rw[hr] at h;simp only at h;obtain⟨e0,u,h1,h2,h3,h4⟩:=qHd hl h;obtain⟨i0,i1,i2⟩:=AC hl e0;have hn:=qBo _ _ _ (Nat.lt_succ_self _) hr;refine⟨i0,Ring.mk z w::u,by rw[h1,kW];rfl,by rw[kV,h2],?_,?_⟩
   ·rw[MG,yE];show encI (nums w)<+:_/\encR u<+:l.drop (p+(encI (nums w)).length);rw[hn];exact⟨i1,i2▸h3⟩
   ·rw[MG,kv];show q=p+((encI (nums w)).length+_);rw[hn];omega
theorem qIT {l:List Nat} (hl:∀k,l.getD k 0<256) {s:Scan} (h:parse15 l=some s):enc15 s=l:=by
 have k1:=rdInts_ok l hl 24 0 0 (by omega);unfold parse15 at h;cases hr:rdR l (qN l 24 0 0).1 (qN l 24 0 0).2.1 (qN l 24 0 0).2.2 [] with
 |none=>rw[hr] at h;cases h
 |some t=>
  obtain⟨rs,p,e⟩:=t;have hp:=rdR_q l hl k1.2 hr;have k2:=rdInts_ok l hl 448 p e hp;rw[hr] at h;simp only at h;by_cases h7:(qN l 448 p e).1.length % 7≠0
  ·rw[if_pos h7] at h;cases h
  rw[if_neg h7] at h;by_cases hq:(qN l 448 p e).2.2≠0\/(qN l 448 p e).2.1<l.length
  ·rw[if_pos hq] at h;cases h
  rw[if_neg hq] at h;cases h;have hz:(qN l 448 p e).2.2=0:=Classical.byContradiction λq=>hq (.inl q);obtain⟨e0,d1,d2⟩:=AC hl hz;subst e0;obtain⟨e1,u,u1,u2,u3,u4⟩:=qHd hl hr;obtain⟨_,z1,z2⟩:=AC hl e1;simp only[uu] at u1;subst u1;have en:enc15 (Scan.mk rs (rdd (qN l 448 p 0).1))=encI (qN l 24 0 0).1++encR rs++encI (qN l 448 p 0).1:=by
   unfold enc15 zsS;simp only;rw[u2,qD3 _ _ (Nat.lt_succ_self _) (by omega)]
  rw[en];have hp2:p=(encI (qN l 24 0 0).1++encR rs).length:=by rw[kv];omega
  have pf:encI (qN l 24 0 0).1++encR rs++encI (qN l 448 p 0).1<+:l.drop 0:=by
   refine yE.2 ⟨yE.2 ⟨z1,z2▸u3⟩,?_⟩;rw[<-hp2,kF];exact d1
  rw[uB] at pf;refine List.IsPrefix.eq_of_length pf ?_;have:¬(qN l 448 p 0).2.1<l.length:=λq=>hq (.inr q);rw[kv,<-hp2];omega
theorem qDy {t:List Int} (h:Okl t) (hl:t.length<=1000000):∀x∈encI t,x<256:=by
 intro x hx;rcases uW.1 hx with h1|h1
 ·exact(DP (v:=t.length) (by omega)).2 x h1
 ·obtain⟨y,hy,hm⟩:=List.mem_flatten.1 h1;obtain⟨n,hn,rfl⟩:=uD.1 hy;exact(DP (qAw (h n hn).1 (h n hn).2)).2 x hm
theorem qBv {s:Scan} (v:V15 s):(∀x∈enc15 s,x<256)/\(enc15 s).length<=1000000:=by
 have v24:=v.many;have d:=(JT _).1 v.def13;have dl:=qAh s.Defects;have dok:=(CY d.2).ok;have zl:(zsS s).length=s.Rings.length:=by simp[zsS]
 have a1:=RG (SH v).ok (by omega);have a2:=qBd v.mem;have a3:=RG dok (by omega);constructor
 ·intro x hx;rcases uW.1 hx with h|h
  ·rcases uW.1 h with h|h
   ·exact qDy (SH v).ok (by omega) x h
   ·obtain⟨y,hy,hm⟩:=List.mem_flatten.1 h;obtain⟨r,hr,rfl⟩:=uD.1 hy;have g:=v.mem r hr;have gl:=GB r.Read;have gi:=g.hi;exact qDy (RN g).ok (by omega) x hm
  ·exact qDy dok (by omega) x h
 ·unfold enc15;simp only[kv];omega
theorem qH0 {s:Scan} (v:V15 s):GA (bOf (enc15 s))=(s,0):=by
 unfold GA;rw[qFj (qBv v).1,qIU v];simp only;rw[if_neg (by simp[(AZ s).2 v])]
theorem qDi (s:Scan) (b:ByteArray):WS s b=some true:=by
 unfold WS;rw[qJe];simp only[ke];have kT:jQ s b true=some true:=by unfold jQ;rw[TQ];rfl
 cases h1:fewB s with
 |false=>exact kT
 |true=>
  simp only[uj,kq];by_cases hb:(b.size:Int)>20000
  ·rw[kg hb];exact kT
  ·rw[kf hb];have hs:(bl b).length<=1000000:=by rw[<-SG];omega
   have e:∀x:Scan,Scan.mk x.Rings x.Defects=x:=λ_=>rfl;have k2:jS b false=some true:=by
    unfold jS;rw[(CV b hs).1];simp only[kq,ke];unfold GA;cases hp:parse15 (bl b) with
    |none=>simp only[TQ,ke,QF];rfl
    |some t=>
     simp only;by_cases hc:yK t≠0
     ·rw[if_pos hc];simp only;rw[show(yK t !=0)=true from ui.2 hc];simp only[TQ,ke,QF];rfl
     ·rw[if_neg hc];simp only[kJ,kq,e];rw[(qEd t).1];unfold FC;rw[if_neg hc];simp only[ke,uG,kp];rw[qIT (wJ b) hp,bOf_bl,(qIv _ _).2 rfl];simp only[kp,TQ,ke,QJ]
   unfold jQ;rw[(qEd s).1,qBF];simp only[kq,ke];unfold FC;by_cases hc:yK s≠0
   ·rw[if_pos hc];simp only[kJ,kq];rw[(CV (ByteArray.mk #[]) (by simp[bl])).1,show(yK s==0)=false from kU.2 hc];simp only[ke,kq];exact k2
   ·rw[if_neg hc];have hc':yK s=0:=Classical.not_not.1 hc;have v:=(AZ s).1 hc';rw[hc'];simp only[kJ,kq];rw[(CV (bOf (enc15 s)) (by rw[qFj (qBv v).1];exact(qBv v).2)).1,qH0 v];simp only[ke,uG,kp,kJ,kq,e,qDq s (qIG h1),uj];exact k2
theorem qEn (s:Scan) (b:ByteArray) {P Q:Prop} (_:P) (_:Q):WS s b=some true:=qDi s b
end Saw
end Go.SL

/- PlanHeights. -/
import Derived.Test.YtidlfgiogdjkaaaGreatDoorEMa8
import Derived.Test.YtidlfgiogdjkaaaGreatDoorEMa9
import Derived.Test.YtidlfgiogdjkaaaGreatDoorEMa10
set_option linter.unusedVariables false
set_option linter.unusedSimpArgs false
namespace Go.SL.Saw
def KH (n:Int) (a:Int) (s:List Int×Bool):List Int×Bool:=if s.2=true then(s.1++[a],true) else if a≥n then((if a>n then s.1++[n] else s.1)++[a],true) else(s.1++[a],false)
theorem qPk (n:Int):∀(l:List Int) (x:Nat) (o:List Int),foldi (λ_=>KH n) x l (o,true)=(o++l,true)
 |[],x,o=>by simp[foldi]
 |a::l,x,o=>by
  have ea:KH n a (o,true)=(o++[a],true):=by unfold KH;rw[if_pos rfl]
  show foldi _ (x+1) l (KH n a (o,true))=_;rw[ea,qPk n l (x+1) (o++[a])];simp
theorem qPG (n:Int):∀(l:List Int) (x:Nat) (o:List Int),(if(foldi (λ_=>KH n) x l (o,false)).2=true then(foldi (λ_=>KH n) x l (o,false)).1 else(foldi (λ_=>KH n) x l (o,false)).1++[n])=o++insI n l
 |[],x,o=>by simp[foldi,insI]
 |a::l,x,o=>by
  have e:foldi (λ_=>KH n) x (a::l) (o,false)=foldi (λ_=>KH n) (x+1) l (KH n a (o,false)):=rfl;rw[e];by_cases c:a≥n
  ·have ea:KH n a (o,false)=((if a>n then o++[n] else o)++[a],true):=by unfold KH;rw[if_neg (by simp),if_pos c]
   have ei:insI n (a::l)=if a=n then a::l else n::a::l:=by unfold insI;rw[if_neg (by omega)]
   rw[ea,qPk,ei];simp only[if_true];by_cases c2:a>n
   ·rw[if_pos c2,if_neg (by omega)];simp
   ·rw[if_neg c2,if_pos (by omega)];simp
  ·have ea:KH n a (o,false)=(o++[a],false):=by unfold KH;rw[if_neg (by simp),if_neg c]
   rw[ea,qPG n l (x+1) (o++[a])];have ei:insI n (a::l)=a::insI n l:=by
    conv=>lhs;unfold insI
    rw[if_pos (by omega)]
   rw[ei];simp
theorem qPj (l:List Int) (n:Int) (hl:l.length<=100000):HP l n=some (insI n l):=by
 unfold HP;have k:=WO l (λm (s:List Int×Bool) x=>yM l n m s.1 s.2 x) (λx=>(x:Int)) (λ_=>KH n) (λs=>s) (λx s=>s.1.length<=x+1/\(s.2=false->s.1.length<=x)) (by omega)
  (λm x s hx hi=>by
   obtain⟨o,d⟩:=s;simp only at hi;rw[yM,decide_eq_true (by omega),qL (by omega) (by omega)];unfold KH;cases d with
   |true=>
    simp only[Bool.not_true,cond_false,cond_true,if_true];unfold DJ DK;rw[qL (by omega) (by omega),qV (by omega) (by omega),qP (by omega)];simp only[cond_true,cond_false,Int.toNat_natCast];exact⟨trivial,by simp;omega,λh=>by cases h⟩
   |false=>
    have hi2:=hi.2 rfl;simp only[Bool.not_false,cond_true,Int.toNat_natCast,Bool.false_eq_true,if_false];unfold DJ HU DK;rw[qL (by omega) (by omega),qP (by omega)];simp only[cond_true,Int.toNat_natCast];by_cases c:l.getD x default≥n
    ·rw[decide_eq_true c,if_pos c];by_cases c2:l.getD x default>n
     ·rw[decide_eq_true c2,if_pos c2,qV (by omega) (by omega),qV (by simp;omega) (by omega)];exact⟨rfl,by simp;omega,λh=>by cases h⟩
     ·rw[decide_eq_false c2,if_neg c2,qV (by omega) (by omega)];exact⟨rfl,by simp;omega,λh=>by cases h⟩
    ·rw[decide_eq_false c,if_neg c,qV (by omega) (by omega)];exact⟨rfl,by simp;omega,λ_=>by simp;omega⟩)
  (λm s _=>by rw[yM];simp) (i:=0) rfl ([],false) (by simp)
 simp only at k;rw[k.1];simp only[Option.bind_some];have f:=qPG n l 0 [];rw[List.nil_append] at f;have kl:=k.2.1;generalize foldi (λ_=>KH n) 0 l ([],false)=q at f kl;unfold EJ;obtain⟨q1,q2⟩:=q;cases q2 with
 |true=>simp only[Bool.not_true,cond_false];rw[<-f];rfl
 |false=>
  simp only[Bool.not_false,cond_true];rw[qV (by simp only at kl;omega) (by omega),<-f];rfl
theorem qIV :∀(l:List Product) (x:Nat) (s:List Int),foldi (λ_ (p:Product) s=>insI (qN p).2 (insI (qN p).1 s)) x l s=insG l s
 |[],_,s=>rfl
 |p::l,x,s=>qIV l (x+1) _
theorem qOQ (ps:List Product):XW ps=some (hts ps):=by
 unfold XW;rw[qFR];simp only[Option.bind_some];by_cases h:zH ps=0
 ·have hl:=HA (l:=ps) (by simpa using h);rw[h,bne_self_eq_false,cond_false];have k:=WO ps (λn (s:List Int) x=>ZP ps n s x) (λx=>(x:Int)) (λ_ p s=>insI (qN p).2 (insI (qN p).1 s)) (λs=>s) (λx s=>s.length<=2*x) (by omega)
   (λn x s hx hi=>by
    have i1:=qH4 (qN (ps.getD x default)).1 s;have i2:=qH4 (qN (ps.getD x default)).2 (insI (qN (ps.getD x default)).1 s);refine⟨?_,by omega⟩;rw[ZP,decide_eq_true (by omega),qL (by omega) (by omega),qP (by omega)];simp only[cond_true,Int.toNat_natCast,(DF _).2,Option.bind_some];rw[qPj _ _ (by omega)];simp only[Option.bind_some];rw[qPj _ _ (by omega)];rfl)
   (λn s _=>by rw[ZP];simp) (i:=0) rfl [] (Nat.le_refl _)
  rw[k.1,qIV,qRY h];rfl
 ·have h':(zH ps !=0)=true:=by simpa using h
  rw[h',cond_true];unfold hts;rw[if_neg h]
def bndS (a:Span) (x:Span):Span:=bif empS a then x else⟨imin x.A a.A,imax x.B a.B⟩
def qDz (s:qF):Rect:=if s.Rows=[] then⟨⟨0,0⟩,⟨0,0⟩⟩ else⟨s.Rows.foldl (λx a=>bndS a x) (s.Rows.getD 0 default),⟨10*s.Low,10*(s.Low+s.Rows.length)⟩⟩
theorem qF8 (s:qF):RM s=some (qDz (KG s))/\PV s=some (qDz (KG s)):=by
 have h:=qHE s;unfold RM PV;rw[qHK s,qQ8 s];simp only[Option.bind_some];generalize KG s=t at*;have b:=h.len;have b1:=h.low;have b2:=h.high;unfold qDz;by_cases h0:t.Rows=[]
 ·rw[if_pos h0,h0];exact⟨rfl,rfl⟩
 have e0:(((t.Rows.length:Nat):Int)==0)=false:=by
  have:0<t.Rows.length:=List.length_pos_iff.2 h0;rw[beq_eq_false_iff_ne];omega
 have hb:0<t.Rows.length:=List.length_pos_iff.2 h0;have k1:=WO t.Rows (λn (a:Span) x=>jD t n x a) (λx=>(x:Int)) (λ_ a s=>bndS a s) (λs=>s) (λ_ _=>True) (by omega)
  (λn x a hx hi=>by
   refine⟨?_,trivial⟩;rw[jD,decide_eq_true (show(x:Int)<_ by omega),qL (by omega) (by omega)];simp only[cond_true,Int.toNat_natCast,DC,Option.bind_some,PP,qP (show x<4611686018427387904 by omega),bndS];cases empS (t.Rows.getD x default)<;>rfl)
  (λn a _=>by rw[jD];simp) (i:=0) rfl (t.Rows.getD 0 default) trivial
 have k2:=WO t.Rows (λn (a:Span) x=>jZ t n x a) (λx=>(x:Int)) (λ_ a s=>bndS a s) (λs=>s) (λ_ _=>True) (by omega)
  (λn x a hx hi=>by
   refine⟨?_,trivial⟩;rw[jZ,decide_eq_true (show(x:Int)<_ by omega),qL (by omega) (by omega)];simp only[cond_true,Int.toNat_natCast,AP,Option.bind_some,VX,qP (show x<4611686018427387904 by omega),bndS];cases empS (t.Rows.getD x default)<;>rfl)
  (λn a _=>by rw[jZ];simp) (i:=0) rfl (t.Rows.getD 0 default) trivial
 rw[qHb] at k1 k2;rw[if_neg h0,e0,qL (by omega) (by omega)];simp only[cond_false,cond_true,Int.toNat_zero,k1.1,k2.1,Option.bind_some,QT];rw[qI (n:=t.Low+_) (by omega) (by omega),qI (by omega) (by omega),qI (by omega) (by omega)];exact⟨rfl,rfl⟩
def mrg (x v:Rect):Rect:=⟨⟨imin x.X.A v.X.A,imax x.X.B v.X.B⟩,⟨imin x.Y.A v.Y.A,imax x.Y.B v.Y.B⟩⟩
def bndI (l:List qB) (i:Nat):Rect:=qDz (KG (l.getD i default).Sec)
def bndL (l:List qB):Rect:=foldN (λi s=>if i=0 then mrg (bndI l 0) (bndI l 0) else mrg s (bndI l i)) 0 l.length ⟨⟨0,0⟩,⟨0,0⟩⟩
theorem qQQ (a:Int):imin a a=a:=by rcases imin_or a a with h|h<;>omega
theorem qQT (a:Int):imax a a=a:=by unfold imax;split<;>rfl
theorem qRM (r:Rect):mrg r r=r:=by unfold mrg;simp only[qQQ,qQT]
theorem qOc (l:List qB):JV l=some (bndL (valL l))/\UZ l=some (bndL (valL l)):=by
 unfold JV UZ SH EG;rw[qGI,(MR l).2];simp only[Option.bind_some];by_cases h:XL l=0
 ·have hv:=(KT l).1 h;have hl:=hv.len;have hne:=hv.ne;have e1:valL l=l:=NB hv;rw[e1,h,bne_self_eq_false,cond_false,qL (by omega) (by omega)];simp only[cond_true,show(0:Int).toNat=0 from rfl,(qF8 _).2,Option.bind_some];have k1:=zO l.length (λn (s:Rect) x=>jE l n x s) (λi s=>if i=0 then mrg (bndI l 0) (bndI l 0) else mrg s (bndI l i)) (λs=>s) (λ_ _=>True) 0 (by omega) (by omega)
   (λn i s hi _=>by
    refine⟨?_,trivial⟩;rw[jE,decide_eq_true (by omega),qL (by omega) (by omega)];simp only[cond_true,Int.toNat_natCast,(qF8 _).1,Option.bind_some,GK,qP (show i<4611686018427387904 by omega)];by_cases c:i=0
    ·subst c;rfl
    ·rw[if_neg c,show((i:Int)==0)=false by rw[beq_eq_false_iff_ne];omega];rfl)
   (λn s _=>by rw[jE];simp) ⟨⟨0,0⟩,⟨0,0⟩⟩ trivial
  have k2:=zO l.length (λn (s:Rect) x=>JI l n x s) (λi s=>mrg s (bndI l i)) (λs=>s) (λ_ _=>True) 1 (by omega) (by omega)
   (λn i s hi _=>by
    refine⟨?_,trivial⟩;rw[JI,decide_eq_true (by omega),qL (by omega) (by omega)];simp only[cond_true,Int.toNat_natCast,(qF8 _).2,Option.bind_some,qP (show i<4611686018427387904 by omega)];rfl)
   (λn s _=>by rw[JI];simp) (bndI l 0) trivial
  rw[show((0:Nat):Int)=0 from rfl] at k1;rw[show((1:Nat):Int)=1 from rfl] at k2;have e2:qDz (KG (l.getD 0 default).Sec)=bndI l 0:=rfl;rw[k1.1,e2,k2.1];refine⟨rfl,?_⟩;simp only[Option.bind_some];unfold bndL;obtain⟨m,hm⟩:∃m,l.length=m+1:=⟨l.length-1,by omega⟩
  rw[hm,foldN,if_pos rfl,qRM]
  congr 1
  exact VF λi hi _ s=>by rw[if_neg (by omega)]
 ·have h':(XL l !=0)=true:=by simpa using h
  have e1:valL l=[]:=by unfold valL;rw[if_neg h]
  rw[e1,h',cond_true];refine⟨?_,rfl⟩;obtain⟨k,hk⟩:∃k,FUEL=k+1:=⟨FUEL-1,by rw[FUEL_eq]⟩
  rw[hk,jE];rfl
theorem qQh (l:List Int) (hl:l.length<=100000):YV l l=some true:=by
 unfold YV;rw[bne_self_eq_false,cond_false];have:=RW l (λn x=>QY l l n x) (λ_=>(none:Option Bool)) (by omega)
  (λn x hx=>by
   rw[QY,decide_eq_true (by omega),qL (by omega) (by omega),qP (by omega)];simp only[cond_true,bne_self_eq_false,cond_false])
  (λn=>by rw[QY];simp)
 rw[this,NE.2 λ_ _=>rfl];rfl
theorem qGT (c:List Product) (l:List qB):BC (some true) c l=some true:=by
 unfold BC;have k:∀b,WZ (some true) c l b=some true:=λb=>by
  unfold WZ;cases b with
  |true=>rfl
  |false=>
   rw[cond_false,qEu,qOQ];simp only[Option.bind_some];rw[qQh _ (by have:=qJ9 c;omega),(qOc l).1,(qOc l).2];simp only[Option.bind_some,beq_self_eq_true,Bool.and_self,cond_true];rfl
 obtain⟨b,e⟩:=few_ex c;rw[e];simp only[Option.bind_some];cases b with
 |false=>exact k true
 |true=>
  obtain⟨b2,e2⟩:=qSi l;rw[Bool.not_true,cond_false,e2];exact k _
end Go.SL.Saw

namespace Go.SL.Saw
def gS :List qB:=[⟨3000,⟨-10,List.replicate 20 ⟨-100,100⟩⟩⟩]
def gP :List Product:=[⟨⟨#[112,108,97,110,107]⟩,40,100,50,0,[2000],[70]⟩]
def gW :Saw:=⟨4,5,5,500⟩
def g0 :Rates:=⟨0,0,0⟩
def gF (h:Int):Rect:=⟨⟨-100,10⟩,⟨0,h⟩⟩
def gN :List Node:=[⟨2,5⟩,⟨1,0⟩,⟨0,0⟩]
def LS :Line:=⟨110,4,1,[105],[[70000000,-1,-1,-1,-1,70000000]],List.replicate 110 0,List.replicate 110 0⟩
def LP (h n:Nat):Line:=⟨h,4,1,[42,105],[(List.range n).map (λp=>if p % 5=0 then 70000000 else-1),[]],List.replicate h 0,List.replicate h 0⟩
theorem gain_k :(List.range 12).all (λk=>decide (gainS gS [] (gP.getD 0 default) ⟨⟨-100,5⟩,⟨5*(k:Int),5*(k:Int)+42⟩⟩ gW g0=70000000)&&decide (gainS gS [] (gP.getD 0 default) ⟨⟨-95,10⟩,⟨5*(k:Int),5*(k:Int)+42⟩⟩ gW g0=70000000))=true:=by kernel_rfl
theorem qJS :sizes gP 42=([105],[0]):=by kernel_rfl
theorem qJL :hts gP=[42,105]:=by kernel_rfl
theorem qO6 :chkE gS [] gP (gF 97) gW g0=0:=by
 have e:TG gS [] gP (gF 97) gW g0=some 0:=by kernel_rfl
 rw[qBb] at e;exact Option.some.inj e
theorem qO3 :chkE gS [] gP (gF 96) gW g0=0:=by
 have e:TG gS [] gP (gF 96) gW g0=some 0:=by kernel_rfl
 rw[qBb] at e;exact Option.some.inj e
end Go.SL.Saw

namespace Go.SL.Saw
theorem cut_S :QI LS=some ([⟨0,0⟩],70000000,0):=by kernel_rfl
end Go.SL.Saw

namespace Go.SL.Saw
theorem cut_97 :QI (LP 97 56)=some ([⟨0,0⟩,⟨0,55⟩],140000000,0):=by kernel_rfl
end Go.SL.Saw

namespace Go.SL.Saw
theorem cut_96 :QI (LP 96 55)=some ([⟨0,0⟩],70000000,0):=by kernel_rfl
end Go.SL.Saw

namespace Go.SL.Saw
theorem strip_g (h:Int) (p:Nat):strR (gF h) (p:Int) ((p:Int)+42)=⟨⟨-100,10⟩,⟨(p:Int),(p:Int)+42⟩⟩:=by
 unfold strR gF;simp only[Int.zero_add]
theorem qRD {k:Nat} (hk:k<12):lineS gS [] gP ⟨⟨-100,10⟩,⟨((5*k:Nat):Int),((5*k:Nat):Int)+42⟩⟩ gW g0=LS:=by
 have hz:(((5*k:Nat):Int)+42)-((5*k:Nat):Int)=42:=by omega
 have gk:=List.all_eq_true.1 gain_k k (List.mem_range.2 hk);rw[Bool.and_eq_true,decide_eq_true_eq,decide_eq_true_eq] at gk;have ek:((5*k:Nat):Int)=5*(k:Int):=by omega
 unfold lineS;have hw:wid ⟨⟨-100,10⟩,⟨((5*k:Nat):Int),((5*k:Nat):Int)+42⟩⟩=110:=rfl;simp only[hz,qJS,hw];have hg:qA0 gS [] gP ⟨⟨-100,10⟩,⟨((5*k:Nat):Int),((5*k:Nat):Int)+42⟩⟩ gW g0 42=[[70000000,-1,-1,-1,-1,70000000]]:=by
  unfold qA0;rw[qJS];show[NF gS [] (gP.getD 0 default) ⟨⟨-100,10⟩,⟨((5*k:Nat):Int),((5*k:Nat):Int)+42⟩⟩ gW g0 105]=_;unfold NF;rw[hw];show[[YX _ _ _ _ _ _ _ 0,YX _ _ _ _ _ _ _ 1,YX _ _ _ _ _ _ _ 2,YX _ _ _ _ _ _ _ 3,YX _ _ _ _ _ _ _ 4,YX _ _ _ _ _ _ _ 5]]=_;have a0:YX gS [] (gP.getD 0 default) ⟨⟨-100,10⟩,⟨((5*k:Nat):Int),((5*k:Nat):Int)+42⟩⟩ gW g0 105 0=70000000:=by
   rw[ek];exact gk.1
  have a5:YX gS [] (gP.getD 0 default) ⟨⟨-100,10⟩,⟨((5*k:Nat):Int),((5*k:Nat):Int)+42⟩⟩ gW g0 105 5=70000000:=by
   rw[ek];exact gk.2
  rw[a0,a5];rfl
 rw[hg];have hz2:∀f:Nat->Int,(List.range (110:Int).toNat).map (λx=>g0.Chip*f x)=List.replicate 110 0:=by
  intro f;have:(λx=>g0.Chip*f x)=λ_=>(0:Int):=by funext x;show 0*f x=0;rw[Int.zero_mul]
  rw[this,List.map_const'];rfl
 have hz3:∀f:Nat->Int,(List.range (110:Int).toNat).map (λx=>g0.Dust*f x)=List.replicate 110 0:=by
  intro f;have:(λx=>g0.Dust*f x)=λ_=>(0:Int):=by funext x;show 0*f x=0;rw[Int.zero_mul]
  rw[this,List.map_const'];rfl
 rw[hz2,hz3];rfl
theorem qI6 :VE gS [] gP (gF 97) gW g0:=RX.1 qO6
theorem qOg :VE gS [] gP (gF 96) gW g0:=RX.1 qO3
theorem edge_g {h:Int} (hv:VE gS [] gP (gF h) gW g0) {k:Nat} (hk:k<12) (hh:5*(k:Int)+42<=h):QD gS [] gP (strR (gF h) ((5*k:Nat):Int) (((5*k:Nat):Int)+42)) gW g0=(gN,70000000,0):=by
 have ve:=qSy hv (p:=((5*k:Nat):Int)) (q:=((5*k:Nat):Int)+42) (by omega) (by omega) (by unfold hei gF;simp only;omega);rw[strip_g] at ve⊢;unfold QD;rw[if_pos (RX.2 ve),qRD hk];have vl:=AZ ve;rw[qRD hk] at vl;have cb:=SS vl;rw[cut_S] at cb;have cb':=Prod.mk.inj (Option.some.inj cb);have c1:wU LS=[⟨0,0⟩]:=cb'.1.symm;have c2:(bst LS 0).value=70000000:=(Prod.mk.inj cb'.2).1.symm;unfold qGA zP;simp only;have hz:(((5*k:Nat):Int)+42)-((5*k:Nat):Int)=42:=by omega
 rw[hz,c1,c2];have e:rowN 2 LS.Kerf ⟨-100,10⟩ (List.map (ptOf LS (-100) (bdN gP 42)) [⟨0,0⟩])=gN:=by
  unfold bdN;rw[qJS];rfl
 rw[e];rfl
theorem qMi {h:Int} (hv:VE gS [] gP (gF h) gW g0) {p:Nat} (hp:p<56) (hh:(p:Int)+42<=h):stG gS [] gP (gF h) gW g0 42 p=if p % 5=0 then(70000000,gN) else(-1,[]):=by
 unfold stG;by_cases c:p % 5=0
 ·obtain⟨k,rfl⟩:∃k,p=5*k:=⟨p/5,by omega⟩
  have c':((5*k:Nat):Int) % gW.Pitch=0:=by show((5*k:Nat):Int) % 5=0;omega
  rw[if_pos c',if_pos c,edge_g hv (by omega) (by omega)];rw[if_pos ⟨rfl,rfl⟩]
 ·have c':¬((p:Nat):Int) % gW.Pitch=0:=by show¬((p:Nat):Int) % 5=0;omega
  rw[if_neg c',if_neg c]
theorem qPy {h n:Nat} (hn:n+41=h) (hn2:n<=56) (h0:h<=104) (hv:VE gS [] gP (gF h) gW g0):zS gS [] gP (gF h) gW g0=LP h n:=by
 have hh:hei (gF (h:Int))=(h:Int):=by unfold hei gF;simp
 unfold zS LP;rw[hh,qJL];have r0:nRow (gF h) 42=n:=by unfold nRow;rw[hh];omega
 have r1:nRow (gF h) 105=0:=by unfold nRow;rw[hh];omega
 have hz2:∀f:Nat->Int,(List.range ((h:Int)).toNat).map (λx=>g0.Chip*f x)=List.replicate h 0:=by
  intro f;have:(λx=>g0.Chip*f x)=λ_=>(0:Int):=by funext x;show 0*f x=0;rw[Int.zero_mul]
  rw[this,List.map_const',Int.toNat_natCast,List.length_range]
 have hz3:∀f:Nat->Int,(List.range ((h:Int)).toNat).map (λx=>g0.Dust*f x)=List.replicate h 0:=by
  intro f;have:(λx=>g0.Dust*f x)=λ_=>(0:Int):=by funext x;show 0*f x=0;rw[Int.zero_mul]
  rw[this,List.map_const',Int.toNat_natCast,List.length_range]
 rw[hz2,hz3];have hg:(List.range ([42,105]:List Int).length).map (λj=>(List.range (nRow (gF h) (([42,105]:List Int).getD j default))).map (λp=>(stG gS [] gP (gF h) gW g0 (([42,105]:List Int).getD j default) p).1))=[(List.range n).map (λp=>if p % 5=0 then 70000000 else-1),[]]:=by
  show[(List.range (nRow (gF h) 42)).map (λp=>(stG gS [] gP (gF h) gW g0 42 p).1),(List.range (nRow (gF h) 105)).map (λp=>(stG gS [] gP (gF h) gW g0 105 p).1)]=_;rw[r0,r1]
  congr 1
  apply List.map_congr_left;intro p hp;have hp':=List.mem_range.1 hp;rw[qMi hv (by omega) (by omega)];split<;>rfl
 rw[hg];rfl
theorem qSx :RV gS [] gP (gF 97) gW g0=some (⟨gF 97,[⟨3,42⟩,⟨2,5⟩,⟨1,0⟩,⟨0,0⟩,⟨3,51⟩,⟨0,0⟩,⟨2,5⟩,⟨1,0⟩,⟨0,0⟩]⟩,140000000,0):=by
 have el:=qPy (h:=97) (n:=56) (by omega) (by omega) (by omega) qI6;have el':zS gS [] gP (gF 97) gW g0=LP 97 56:=el;have vl:=qEE qI6;rw[el'] at vl;have cb:=SS vl;rw[cut_97] at cb;have cb':=Prod.mk.inj (Option.some.inj cb);have c1:wU (LP 97 56)=[⟨0,0⟩,⟨0,55⟩]:=cb'.1.symm;have c2:(bst (LP 97 56) 0).value=140000000:=(Prod.mk.inj cb'.2).1.symm;have n0:stN gS [] gP (gF 97) gW g0 ⟨0,0⟩=gN:=by
  unfold stN;rw[qJL];show(stG gS [] gP (gF 97) gW g0 42 0).2=_;rw[qMi qI6 (by omega) (by omega)];rfl
 have n1:stN gS [] gP (gF 97) gW g0 ⟨0,55⟩=gN:=by
  unfold stN;rw[qJL];show(stG gS [] gP (gF 97) gW g0 42 55).2=_;rw[qMi qI6 (by omega) (by omega)];rfl
 rw[qHo];unfold qMs;rw[if_pos qO6];have en:qCm gS [] gP (gF 97) gW g0=[⟨3,42⟩,⟨2,5⟩,⟨1,0⟩,⟨0,0⟩,⟨3,51⟩,⟨0,0⟩,⟨2,5⟩,⟨1,0⟩,⟨0,0⟩]:=by
  unfold qCm RB;rw[el',c1];simp only[List.map_cons,List.map_nil,ptOf,n0,n1];rfl
 rw[en,el',c2];have e0:g0.Chip*(volT gS-wholeR gS (gF 97))=0:=by show 0*_=(0:Int);rw[Int.zero_mul]
 rw[e0];rfl
theorem qSp :∃p,RV gS [] gP (gF 96) gW g0=some (p,70000000,0):=by
 have el:=qPy (h:=96) (n:=55) (by omega) (by omega) (by omega) qOg;have el':zS gS [] gP (gF 96) gW g0=LP 96 55:=el;have vl:=qEE qOg;rw[el'] at vl;have cb:=SS vl;rw[cut_96] at cb;have cb':=Prod.mk.inj (Option.some.inj cb);have c1:wU (LP 96 55)=[⟨0,0⟩]:=cb'.1.symm;have c2:(bst (LP 96 55) 0).value=70000000:=(Prod.mk.inj cb'.2).1.symm;have n0:stN gS [] gP (gF 96) gW g0 ⟨0,0⟩=gN:=by
  unfold stN;rw[qJL];show(stG gS [] gP (gF 96) gW g0 42 0).2=_;rw[qMi qOg (by omega) (by omega)];rfl
 rw[qHo];unfold qMs;rw[if_pos qO3];have en:qCm gS [] gP (gF 96) gW g0=[⟨3,42⟩,⟨2,5⟩,⟨1,0⟩,⟨0,0⟩,⟨0,0⟩]:=by
  unfold qCm RB;rw[el',c1];simp only[List.map_cons,List.map_nil,ptOf,n0];rfl
 rw[en,el',c2];have e0:g0.Chip*(volT gS-wholeR gS (gF 96))=0:=by show 0*_=(0:Int);rw[Int.zero_mul]
 rw[e0];exact⟨_,rfl⟩
theorem qNq (h:Int):YW h=some ⟨gS,[],gP,gF h,gW,g0⟩:=by
 unfold YW;have e:GD FUEL 0 []=some (List.replicate 20 ⟨-100,100⟩):=by kernel_rfl
 rw[e];rfl
theorem mem_g :LD ⟨gF 97,[⟨3,42⟩,⟨2,5⟩,⟨1,0⟩,⟨0,0⟩,⟨3,51⟩,⟨0,0⟩,⟨2,5⟩,⟨1,0⟩,⟨0,0⟩]⟩ gP gW=some true:=by kernel_rfl
theorem frame_g :JV gS=some ⟨⟨-100,100⟩,⟨-100,100⟩⟩:=by kernel_rfl
theorem qPD (g:Law24_Given) (r:Pattern×Int×Int) (h:RV g.Solid g.Defects g.Products g.Frame g.Saw g.Rates=some r):TJ g=some (⟨r.1.Frame,r.1.Nodes⟩,r.2.1,r.2.2):=by
 unfold TJ;rw[h];rfl
def awB (fs:Int->Option Law24_Given) (fb:Law24_Given->Option (Pattern×Int×Int)) (fh:List Product->Option (List Int)) (ff:List qB->Option Rect) (fm:Pattern->List Product->Saw->Option Bool):Option Bool:=
 (fs 97).bind λv1=>
 (fb (Law24_Given.mk v1.Solid v1.Defects v1.Products v1.Frame v1.Saw v1.Rates)).bind λv3=>
 (fs 96).bind λv5=>
 (fb (Law24_Given.mk v5.Solid v5.Defects v5.Products v5.Frame v5.Saw v5.Rates)).bind λv7=>
 (fh v1.Products).bind λv9=>
 (ff v1.Solid).bind λv11=>
 bif v3.2.2==0 then
  bif v3.2.1==140000000 then
   bif v7.2.2==0 then
    bif v7.2.1==70000000 then
     bif ((v9.length:Nat):Int)==2 then
      bif inb 0 v9.length then
       bif (v9.getD ((0:Int).toNat) default)==42 then
        bif inb 1 v9.length then
         bif (v9.getD ((1:Int).toNat) default)==105 then
          bif (((v11.X.A==(-100))&&((v11.X.B==100)&&true))&&(((v11.Y.A==(-100))&&((v11.Y.B==100)&&true))&&true)) then
           bif ((v3.1.Nodes.length:Nat):Int)==9 then
            bif inb 0 v3.1.Nodes.length then
             bif ((((v3.1.Nodes.getD ((0:Int).toNat) default).Kind)==3)&&((((v3.1.Nodes.getD ((0:Int).toNat) default).At)==42)&&true)) then
              (fm (Pattern.mk v3.1.Frame v3.1.Nodes) v1.Products v1.Saw).bind λv26=>
              qU v26
             else
              qU false
            else none
           else
            qU false
          else
           qU false
         else
          qU false
        else none
       else
        qU false
      else none
     else
      qU false
    else
     qU false
   else
    qU false
  else
   qU false
 else
  qU false
theorem qRU {fs:Int->Option Law24_Given} {fb:Law24_Given->Option (Pattern×Int×Int)} {fh:List Product->Option (List Int)} {ff:List qB->Option Rect} {fm:Pattern->List Product->Saw->Option Bool} (g g':Law24_Given) (p p':Pattern) (s1:fs 97=some g) (s2:fs 96=some g') (b1:fb g=some (p,140000000,0)) (b2:fb g'=some (p',70000000,0))
  (hh:fh g.Products=some [42,105]) (hf:ff g.Solid=some ⟨⟨-100,100⟩,⟨-100,100⟩⟩) (hm:fm p g.Products g.Saw=some true) (hl:p.Nodes.length=9) (hn:p.Nodes.getD 0 default=⟨3,42⟩):awB fs fb fh ff fm=some true:=by
 unfold awB;rw[s1];simp only[Option.bind_some];rw[show(Law24_Given.mk g.Solid g.Defects g.Products g.Frame g.Saw g.Rates)=g from rfl,b1];simp only[Option.bind_some];rw[s2];simp only[Option.bind_some];rw[show(Law24_Given.mk g'.Solid g'.Defects g'.Products g'.Frame g'.Saw g'.Rates)=g' from rfl,b2];simp only[Option.bind_some];rw[hh];simp only[Option.bind_some];rw[hf];simp only[Option.bind_some,hl];rw[show((0:Int).toNat)=0 from rfl,hn,show(Pattern.mk p.Frame p.Nodes)=p from rfl,hm];rfl
theorem awake_B :PC=awB YW TJ yI JV LD:=rfl
theorem qM8 :PC=some true:=by
 obtain⟨p,e96⟩:=qSp;exact awake_B.trans (qRU _ _ ⟨gF 97,[⟨3,42⟩,⟨2,5⟩,⟨1,0⟩,⟨0,0⟩,⟨3,51⟩,⟨0,0⟩,⟨2,5⟩,⟨1,0⟩,⟨0,0⟩]⟩ ⟨p.Frame,p.Nodes⟩ (qNq 97) (qNq 96) (qPD ⟨gS,[],gP,gF 97,gW,g0⟩ _ qSx) (qPD ⟨gS,[],gP,gF 96,gW,g0⟩ _ e96) ((qEu gP).trans (congrArg some qJL)) frame_g mem_g rfl rfl)
end Go.SL.Saw

namespace Go.SL.Saw
theorem qHy (c:List Product) (l:List qB) {w w':Prop} (_:w) (_:w'):PN c l=some true:=by
 rw[qFc,qM8];exact qGT c l
end Go.SL.Saw

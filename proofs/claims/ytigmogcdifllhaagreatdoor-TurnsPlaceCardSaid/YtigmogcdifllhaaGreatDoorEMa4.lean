/- Section's plain mathematics, part 5: Shift, Dropped, Meet, Equal. -/
import Derived.Test.YtigmogcdifllhaaGreatDoorEMa3
set_option linter.unusedVariables false
set_option linter.unusedSimpArgs false
namespace Go.SL
namespace Saw
theorem qOg (l:List Span) (hl:l.length<=1000):∀(n x:Nat),l.length<x+n->x<=l.length->(∀j,j<x->empS (l.getD j dd)=true)->
  ∃f:Nat,WG l n (x:Int)=some (f:Int)/\f<=l.length/\(∀j,j<f->empS (l.getD j dd)=true)/\(f<l.length->empS (l.getD f dd)=false)
 |0,x,h1,h2,_=>by omega
 |n+1,x,h1,h2,h3=>by
  rw[WG];by_cases hx:x<l.length
  ·rw[kf (show(x:Int)<_ by omega),zQ (by omega)];simp only[kq,kr,RX,kd,EA,wI (show x<4611686018427387904 by omega)];cases he:empS (l.getD x dd) with
   |true=>
    exact qOg l hl n (x+1) (by omega) (by omega) (λj hj=>by
     by_cases hjx:j=x
     ·rw[hjx];exact he
     ·exact h3 j (by omega))
   |false=>exact⟨x,rfl,by omega,h3,λ_=>he⟩
  ·rw[ki (show¬(x:Int)<_ by omega)];exact⟨x,rfl,by omega,h3,λh=>absurd h hx⟩
theorem qOG (l:List Span) (hl:l.length<=1000) (f:Nat):∀(n x:Nat),x<n+f->f<=x->x<=l.length->(∀j,x<=j->j<l.length->empS (l.getD j dd)=true)->
  ∃t:Nat,XS l (f:Int) n (x:Int)=some (t:Int)/\f<=t/\t<=l.length/\(∀j,t<=j->j<l.length->empS (l.getD j dd)=true)/\(f<t->empS (l.getD (t-1) dd)=false)
 |0,x,h1,h2,_,_=>by omega
 |n+1,x,h1,h2,h3,h4=>by
  rw[XS];by_cases hx:f<x
  ·rw[kf (show(x:Int)>(f:Int) by omega),zF (by omega),zQ (by omega),show(x:Int)-1=((x-1:Nat):Int) by omega];simp only[kq,kr,RX,kd,SW];cases he:empS (l.getD (x-1) dd) with
   |true=>
    rw[zF (by omega),show(x:Int)-1=((x-1:Nat):Int) by omega];exact qOG l hl f n (x-1) (by omega) (by omega) (by omega) (λj h5 h6=>by
     by_cases hjx:j=x-1
     ·rw[hjx];exact he
     ·exact h4 j (by omega) h6)
   |false=>exact⟨x,rfl,by omega,by omega,h4,λ_=>he⟩
  ·rw[ki (show¬(x:Int)>(f:Int) by omega)];exact⟨x,rfl,by omega,by omega,h4,λh=>by omega⟩
theorem qNZ (l:List Span) (hl:l.length<=1000) (t:Nat) (ht:t<=l.length):∀(n x:Nat) (o:List Span),t<x+n->x<=t->o.length<=x->∃o',yF l (t:Int) n (x:Int) o=some (o++o')/\o'.length=t-x/\∀i,i<t-x->o'.getD i dd=nrm (l.getD (x+i) dd)
 |0,x,o,h1,h2,_=>by omega
 |n+1,x,o,h1,h2,h3=>by
  rw[yF];by_cases hx:x<t
  ·rw[kf (show(x:Int)<(t:Int) by omega),zQ (by omega)];have e:(bif empS (l.getD x dd) then XF (x:Int) o (yF l (t:Int) n) ⟨0,0⟩ else XF (x:Int) o (yF l (t:Int) n) (l.getD x dd))=yF l (t:Int) n ((x+1:Nat):Int) (o++[nrm (l.getD x dd)]):=by
    unfold XF nrm;rw[WZ (by omega),wI (by omega)];cases empS (l.getD x dd)<;>rfl
   simp only[kq,kr,RX,kd];rw[e];obtain⟨o',k1,k2,k3⟩:=qNZ l hl t ht n (x+1) (o++[nrm (l.getD x dd)]) (by omega) (by omega) (by simp;omega);refine⟨nrm (l.getD x dd)::o',by rw[k1];simp,by simp;omega,λi hi=>?_⟩;cases i with
   |zero=>rfl
   |succ i=>
    have:=k3 i (by omega);rw[show x+(i+1)=x+1+i by omega];simpa using this
  ·rw[ki (show¬(x:Int)<(t:Int) by omega)];exact⟨[],by simp,by simp;omega,λi hi=>by omega⟩
theorem qNX (l:List Span) (hl:l.length=120):KQ (-60) l=some (IX λj=>l.getD j dd):=by
 obtain⟨f,f1,f2,f3,f4⟩:=qOg l (by omega) FUEL 0 (by rw[FUEL_eq];omega) (by omega) (λj hj=>by omega);obtain⟨t,t1,t2,t3,t4,t5⟩:=qOG l (by omega) f FUEL l.length (by rw[FUEL_eq];omega) f2 (ke _) (λj h1 h2=>by omega);have f1':WG l FUEL 0=some (f:Int):=f1;unfold KQ;rw[f1'];simp only[kd];rw[t1];simp only[kd];obtain⟨g1,g2⟩:=FJ (λj=>l.getD j dd);by_cases hft:f=t
 ·rw[show((f:Int)==(t:Int))=true by rw[hft];simp];simp only[kq]
  congr 1
  refine qQh (s:=nilS) qJR.toTrim g1 (λr=>?_);have:row nilS r=⟨0,0⟩:=by unfold row nilS;split<;>rfl
  rw[this,g2 r];unfold qEq;split
  ·rw[NW];by_cases hj:(r+60).toNat<f
   ·exact f3 _ hj
   ·exact t4 _ (by omega) (by omega)
  ·rfl
 ·obtain⟨o,o1,o2,o3⟩:=qNZ l (by omega) t t3 FUEL f [] (by rw[FUEL_eq];omega) t2 (by simp);rw[show((f:Int)==(t:Int))=false by rw[kX];omega];simp only[ku];rw[o1,zF (by omega)];simp only[kd,um]
  congr 1
  refine qQh ⟨λe=>?_,λ_=>?_,λ_=>?_⟩ g1 (λr=>?_)
  ·have e':o=[]:=e;rw[e'] at o2;simp at o2;omega
  ·show empS (o.getD 0 dd)=false;rw[o3 0 (by omega),qGw];exact f4 (by omega)
  ·show empS (o.getD (o.length-1) dd)=false;rw[o2,o3 _ (by omega),qGw,show f+(t-f-1)=t-1 by omega];exact t5 (by omega)
  ·rw[g2 r];unfold row qEq;simp only;by_cases c1:r< -60+(f:Int)
   ·rw[if_pos c1];split
    ·rw[NW (f3 _ (by omega))]
    ·rfl
   ·rw[if_neg c1];by_cases c2:(r-(-60+(f:Int))).toNat<t-f
    ·rw[o3 _ c2,if_pos (by omega)]
     congr 2
     omega
    ·rw[qKJ (by omega)];split
     ·rw[NW (t4 _ (by omega) (by omega))];rfl
     ·rfl
def mxS (x y:Span):Span:=⟨imax x.A y.A,imin x.B y.B⟩
theorem qUD (x y:Span):JA x y=some (nrm (mxS x y)):=by
 unfold JA nrm mxS empS;simp only[ge_iff_le];cases decide (imin x.B y.B<=imax x.A y.A)<;>rfl
noncomputable def qBk (a b:qG):qG:=IX (λj=>mxS (row a ((j:Int)-60)) (row b ((j:Int)-60)))
theorem qF7 {g g':Nat->Span} (h:∀j,j<120->nrm (g j)=nrm (g' j)):IX g=IX g':=by
 refine qQh (FJ g).1 (FJ g').1 (λr=>?_);rw[(FJ g).2,(FJ g').2];unfold qEq;split
 ·exact h _ (by omega)
 ·rfl
theorem meet_eq {a b:qG} (ha:VS a) (hb:VS b):XE a b=some (qBk a b):=by
 have m1:∀r:Int,-60<=r->r<60->RS r a b=some (nrm (mxS (row a r) (row b r))):=λr h1 h2=>by
  unfold RS;rw[(qSm ha h1 h2).1,(qSm hb h1 h2).1];simp only[kd,qUD]
 unfold XE qBk;rw[qF7 (g':=λj=>nrm (mxS (row a ((j:Int)-60)) (row b ((j:Int)-60)))) (λj _=>(nrm_nrm _).symm)];refine qQ8 (λj=>nrm (mxS (row a ((j:Int)-60)) (row b ((j:Int)-60)))) (wC a b) (λn x u w l hx=>?_) (λn u w l=>?_)
 ·rw[wC,kf (show(x:Int)-60<60 by omega),m1 _ (by omega) (by omega)];simp only[kq,kd,KW,XY,ZY]
 ·rw[wC];rfl
theorem qWH {a b:qG} (ha:VS a) (hb:VS b):((KH a b FUEL [] (-60)).bind λo=>(KQ (-60) o).bind λv=>some (qG.mk v.Low v.Rows))=some (qBk a b):=by
 have k:=qFL (List.range 120) (λn (l:List Span) x=>KH a b n l x) (λx=>(x:Int)-60) (λx (_:Nat) l=>l++[mxS (row a ((x:Int)-60)) (row b ((x:Int)-60))]) (λl=>l) (λx l=>l.length=x) (by simp)
  (λn x l hx hi=>by
   have hx':x<120:=by simpa using hx
   refine⟨?_,by simp[hi]⟩;rw[KH,kf (show(x:Int)-60<60 by omega),(qSm ha (by omega) (by omega)).2,(qSm hb (by omega) (by omega)).2];simp only[kq,kd];rw[WZ (by omega),zF (by omega),show(x:Int)-60+1=((x+1:Nat):Int)-60 by omega];rfl)
  (λn l _=>by
   have e:(((List.range 120).length:Nat):Int)-60=60:=by rw[ui];rfl
   simp only[e];rw[KH];rfl) (i:= -60) rfl [] rfl
 rw[qJr (λx (_:Nat)=>mxS (row a ((x:Int)-60)) (row b ((x:Int)-60))),um] at k;rw[k.1];simp only[kd];rw[qNX _ (by rw[qL9];simp)];simp only[kd];have e:IX (λj=>(mapi (λx (_:Nat)=>mxS (row a ((x:Int)-60)) (row b ((x:Int)-60))) 0 (List.range 120)).getD j dd)=qBk a b:=by
  unfold qBk;refine qF7 (λj hj=>?_);rw[qMU _ _ _ _ (by rw[ui];exact hj),ky]
 rw[qG.eta,e]
theorem Meet_eq (a b:qG):TT a b=some (qBk (CH a) (CH b))/\qH8 a b=some (qBk (CH a) (CH b)):=by
 unfold TT qH8;rw[(qHC a).1,(qHC a).2,(qHC b).1,(qHC b).2];simp only[kd];rw[meet_eq (qIn a) (qIn b)];exact⟨rfl,qWH (qIn a) (qIn b)⟩
theorem qYB {x y:Span} (h1:rngS x=true) (h2:rngS y=true):rngS (nrm (mxS x y))=true:=by
 cases he:empS (mxS x y) with
 |true=>rw[NW he];rfl
 |false=>
  rw[qOP he];rw[qMv] at*;have a1:=qP7 x.A y.A;have a2:=qP5 x.B y.B;unfold mxS;simp only;omega
theorem VS_meet {a b:qG} (ha:VS a) (hb:VS b):VS (qBk a b):=qUL (λj _=>qYB (ha.row_rng _) (hb.row_rng _))
end Saw
end Go.SL

/- Section's plain mathematics, part 5: Shift, Dropped, Meet, Equal. -/
import Derived.Test.YtigmogcdifllhaaGreatDoorEMa3
set_option linter.unusedVariables false
set_option linter.unusedSimpArgs false
namespace Go.SL
namespace Saw
theorem qP4 (l:List Span) (hl:l.length<=1000):∀(n x:Nat),l.length<x+n->x<=l.length->(∀j,j<x->empS (l.getD j dd)=true)->
  ∃f:Nat,YM l n (x:Int)=some (f:Int)/\f<=l.length/\(∀j,j<f->empS (l.getD j dd)=true)/\(f<l.length->empS (l.getD f dd)=false)
 |0,x,h1,h2,_=>by omega
 |n+1,x,h1,h2,h3=>by
  rw[YM];by_cases hx:x<l.length
  ·rw[ki (show(x:Int)<_ by omega),zS (by omega)];simp only[kp,kg,VZ,kd,CA,wF (show x<4611686018427387904 by omega)];cases he:empS (l.getD x dd) with
   |true=>
    exact qP4 l hl n (x+1) (by omega) (by omega) (λj hj=>by
     by_cases hjx:j=x
     ·rw[hjx];exact he
     ·exact h3 j (by omega))
   |false=>exact⟨x,rfl,by omega,h3,λ_=>he⟩
  ·rw[kf (show¬(x:Int)<_ by omega)];exact⟨x,rfl,by omega,h3,λh=>absurd h hx⟩
theorem qPI (l:List Span) (hl:l.length<=1000) (f:Nat):∀(n x:Nat),x<n+f->f<=x->x<=l.length->(∀j,x<=j->j<l.length->empS (l.getD j dd)=true)->
  ∃t:Nat,RA l (f:Int) n (x:Int)=some (t:Int)/\f<=t/\t<=l.length/\(∀j,t<=j->j<l.length->empS (l.getD j dd)=true)/\(f<t->empS (l.getD (t-1) dd)=false)
 |0,x,h1,h2,_,_=>by omega
 |n+1,x,h1,h2,h3,h4=>by
  rw[RA];by_cases hx:f<x
  ·rw[ki (show(x:Int)>(f:Int) by omega),w64_o (by omega),zS (by omega),show(x:Int)-1=((x-1:Nat):Int) by omega];simp only[kp,kg,VZ,kd,CC];cases he:empS (l.getD (x-1) dd) with
   |true=>
    rw[w64_o (by omega),show(x:Int)-1=((x-1:Nat):Int) by omega];exact qPI l hl f n (x-1) (by omega) (by omega) (by omega) (λj h5 h6=>by
     by_cases hjx:j=x-1
     ·rw[hjx];exact he
     ·exact h4 j (by omega) h6)
   |false=>exact⟨x,rfl,by omega,by omega,h4,λ_=>he⟩
  ·rw[kf (show¬(x:Int)>(f:Int) by omega)];exact⟨x,rfl,by omega,by omega,h4,λh=>by omega⟩
theorem qPz (l:List Span) (hl:l.length<=1000) (t:Nat) (ht:t<=l.length):∀(n x:Nat) (o:List Span),t<x+n->x<=t->o.length<=x->∃o',QJ l (t:Int) n (x:Int) o=some (o++o')/\o'.length=t-x/\∀i,i<t-x->o'.getD i dd=nrm (l.getD (x+i) dd)
 |0,x,o,h1,h2,_=>by omega
 |n+1,x,o,h1,h2,h3=>by
  rw[QJ];by_cases hx:x<t
  ·rw[ki (show(x:Int)<(t:Int) by omega),zS (by omega)];have e:(bif empS (l.getD x dd) then PX (x:Int) o (QJ l (t:Int) n) ⟨0,0⟩ else PX (x:Int) o (QJ l (t:Int) n) (l.getD x dd))=QJ l (t:Int) n ((x+1:Nat):Int) (o++[nrm (l.getD x dd)]):=by
    unfold PX nrm;rw[ZF (by omega),wF (by omega)];cases empS (l.getD x dd)<;>rfl
   simp only[kp,kg,VZ,kd];rw[e];obtain⟨o',k1,k2,k3⟩:=qPz l hl t ht n (x+1) (o++[nrm (l.getD x dd)]) (by omega) (by omega) (by simp;omega);refine⟨nrm (l.getD x dd)::o',by rw[k1];simp,by simp;omega,λi hi=>?_⟩;cases i with
   |zero=>rfl
   |succ i=>
    have:=k3 i (by omega);rw[show x+(i+1)=x+1+i by omega];simpa using this
  ·rw[kf (show¬(x:Int)<(t:Int) by omega)];exact⟨[],by simp,by simp;omega,λi hi=>by omega⟩
theorem qOq (l:List Span) (hl:l.length=120):TB (-60) l=some (qAN λj=>l.getD j dd):=by
 obtain⟨f,f1,f2,f3,f4⟩:=qP4 l (by omega) FUEL 0 (by rw[FUEL_eq];omega) (by omega) (λj hj=>by omega);obtain⟨t,t1,t2,t3,t4,t5⟩:=qPI l (by omega) f FUEL l.length (by rw[FUEL_eq];omega) f2 (ke _) (λj h1 h2=>by omega);have f1':YM l FUEL 0=some (f:Int):=f1;unfold TB;rw[f1'];simp only[kd];rw[t1];simp only[kd];obtain⟨g1,g2⟩:=SP (λj=>l.getD j dd);by_cases hft:f=t
 ·rw[show((f:Int)==(t:Int))=true by rw[hft];simp];simp only[kp]
  congr 1
  refine qQ1 (s:=nilS) qKV.toTrim g1 (λr=>?_);have:row nilS r=⟨0,0⟩:=by unfold row nilS;split<;>rfl
  rw[this,g2 r];unfold qFd;split
  ·rw[CI];by_cases hj:(r+60).toNat<f
   ·exact f3 _ hj
   ·exact t4 _ (by omega) (by omega)
  ·rfl
 ·obtain⟨o,o1,o2,o3⟩:=qPz l (by omega) t t3 FUEL f [] (by rw[FUEL_eq];omega) t2 (by simp);rw[show((f:Int)==(t:Int))=false by rw[kL];omega];simp only[ku];rw[o1,w64_o (by omega)];simp only[kd,ur]
  congr 1
  refine qQ1 ⟨λe=>?_,λ_=>?_,λ_=>?_⟩ g1 (λr=>?_)
  ·have e':o=[]:=e;rw[e'] at o2;simp at o2;omega
  ·show empS (o.getD 0 dd)=false;rw[o3 0 (by omega),qHT];exact f4 (by omega)
  ·show empS (o.getD (o.length-1) dd)=false;rw[o2,o3 _ (by omega),qHT,show f+(t-f-1)=t-1 by omega];exact t5 (by omega)
  ·rw[g2 r];unfold row qFd;simp only;by_cases c1:r< -60+(f:Int)
   ·rw[if_pos c1];split
    ·rw[CI (f3 _ (by omega))]
    ·rfl
   ·rw[if_neg c1];by_cases c2:(r-(-60+(f:Int))).toNat<t-f
    ·rw[o3 _ c2,if_pos (by omega)]
     congr 2
     omega
    ·rw[qQ0 (by omega)];split
     ·rw[CI (t4 _ (by omega) (by omega))];rfl
     ·rfl
def mxS (x y:Span):Span:=⟨imax x.A y.A,imin x.B y.B⟩
theorem qVK (x y:Span):WH x y=some (nrm (mxS x y)):=by
 unfold WH nrm mxS empS;simp only[ge_iff_le];cases decide (imin x.B y.B<=imax x.A y.A)<;>rfl
noncomputable def qF9 (a b:qH):qH:=qAN (λj=>mxS (row a ((j:Int)-60)) (row b ((j:Int)-60)))
theorem qGU {g g':Nat->Span} (h:∀j,j<120->nrm (g j)=nrm (g' j)):qAN g=qAN g':=by
 refine qQ1 (SP g).1 (SP g').1 (λr=>?_);rw[(SP g).2,(SP g').2];unfold qFd;split
 ·exact h _ (by omega)
 ·rfl
theorem meet_eq {a b:qH} (ha:VS a) (hb:VS b):RL a b=some (qF9 a b):=by
 have m1:∀r:Int,-60<=r->r<60->DB r a b=some (nrm (mxS (row a r) (row b r))):=λr h1 h2=>by
  unfold DB;rw[(qTj ha h1 h2).1,(qTj hb h1 h2).1];simp only[kd,qVK]
 unfold RL qF9;rw[qGU (g':=λj=>nrm (mxS (row a ((j:Int)-60)) (row b ((j:Int)-60)))) (λj _=>(nrm_nrm _).symm)];refine qRX (λj=>nrm (mxS (row a ((j:Int)-60)) (row b ((j:Int)-60)))) (wI a b) (λn x u w l hx=>?_) (λn u w l=>?_)
 ·rw[wI,ki (show(x:Int)-60<60 by omega),m1 _ (by omega) (by omega)];simp only[kp,kd,UA,RZ,JW]
 ·rw[wI];rfl
theorem qXQ {a b:qH} (ha:VS a) (hb:VS b):((TR a b FUEL [] (-60)).bind λo=>(TB (-60) o).bind λv=>some (qH.mk v.Low v.Rows))=some (qF9 a b):=by
 have k:=qGp (List.range 120) (λn (l:List Span) x=>TR a b n l x) (λx=>(x:Int)-60) (λx (_:Nat) l=>l++[mxS (row a ((x:Int)-60)) (row b ((x:Int)-60))]) (λl=>l) (λx l=>l.length=x) (by simp)
  (λn x l hx hi=>by
   have hx':x<120:=by simpa using hx
   refine⟨?_,by simp[hi]⟩;rw[TR,ki (show(x:Int)-60<60 by omega),(qTj ha (by omega) (by omega)).2,(qTj hb (by omega) (by omega)).2];simp only[kp,kd];rw[ZF (by omega),w64_o (by omega),show(x:Int)-60+1=((x+1:Nat):Int)-60 by omega];rfl)
  (λn l _=>by
   have e:(((List.range 120).length:Nat):Int)-60=60:=by rw[uB];rfl
   simp only[e];rw[TR];rfl) (i:= -60) rfl [] rfl
 rw[qKy (λx (_:Nat)=>mxS (row a ((x:Int)-60)) (row b ((x:Int)-60))),ur] at k;rw[k.1];simp only[kd];rw[qOq _ (by rw[qM3];simp)];simp only[kd];have e:qAN (λj=>(mapi (λx (_:Nat)=>mxS (row a ((x:Int)-60)) (row b ((x:Int)-60))) 0 (List.range 120)).getD j dd)=qF9 a b:=by
  unfold qF9;refine qGU (λj hj=>?_);rw[qNX _ _ _ _ (by rw[uB];exact hj),kz]
 rw[qH.eta,e]
theorem Meet_eq (a b:qH):GT a b=some (qF9 (AZ a) (AZ b))/\qII a b=some (qF9 (AZ a) (AZ b)):=by
 unfold GT qII;rw[(qEX a).1,(qEX a).2,(qEX b).1,(qEX b).2];simp only[kd];rw[meet_eq (qIj a) (qIj b)];exact⟨rfl,qXQ (qIj a) (qIj b)⟩
def lenS (x:Span):Int:=bif empS x then 0 else x.B-x.A
theorem qT2 (n:Int):IntKind.u64.wrap n=n % 18446744073709551616:=by
 unfold IntKind.wrap;simp only[IntKind.bits,IntKind.signed,Bool.false_and];simp
theorem qMo {x:Span} (h:x.B-x.A<=9223372036854775807):XX x=some (lenS x):=by
 unfold XX qCD HD lenS empS;by_cases he:x.B<=x.A
 ·rw[ki (show x.A≥x.B from he)];rfl
 ·rw[kf (show¬x.A≥x.B from he),qT2,qT2,qT2];simp only[ku,kd];rw[show(x.B % 18446744073709551616-x.A % 18446744073709551616) % 18446744073709551616=x.B-x.A by omega];have:imin (x.B-x.A) 9223372036854775807=x.B-x.A:=by have:=qB0 (x.B-x.A) 9223372036854775807;omega
  rw[this,w64_o (by omega)]
end Saw
end Go.SL

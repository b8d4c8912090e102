/- Section's plain mathematics, part 5: Shift, Dropped, Meet, Equal. -/
import Derived.Test.YtigmogcdifllhaaGreatDoorEMa3
set_option linter.unusedVariables false
set_option linter.unusedSimpArgs false
namespace Go.SL
namespace Saw
theorem qP3 (l:List Span) (hl:l.length<=1000):∀(n x:Nat),l.length<x+n->x<=l.length->(∀j,j<x->empS (l.getD j dd)=true)->
  ∃f:Nat,JY l n (x:Int)=some (f:Int)/\f<=l.length/\(∀j,j<f->empS (l.getD j dd)=true)/\(f<l.length->empS (l.getD f dd)=false)
 |0,x,h1,h2,_=>by omega
 |n+1,x,h1,h2,h3=>by
  rw[JY];by_cases hx:x<l.length
  ·rw[kf (show(x:Int)<_ by omega),zU (by omega)];simp only[kp,ki,VU,kd,IQ,wH (show x<4611686018427387904 by omega)];cases he:empS (l.getD x dd) with
   |true=>
    exact qP3 l hl n (x+1) (by omega) (by omega) (λj hj=>by
     by_cases hjx:j=x
     ·rw[hjx];exact he
     ·exact h3 j (by omega))
   |false=>exact⟨x,rfl,by omega,h3,λ_=>he⟩
  ·rw[ko (show¬(x:Int)<_ by omega)];exact⟨x,rfl,by omega,h3,λh=>absurd h hx⟩
theorem qOo (l:List Span) (hl:l.length<=1000) (f:Nat):∀(n x:Nat),x<n+f->f<=x->x<=l.length->(∀j,x<=j->j<l.length->empS (l.getD j dd)=true)->
  ∃t:Nat,PZ l (f:Int) n (x:Int)=some (t:Int)/\f<=t/\t<=l.length/\(∀j,t<=j->j<l.length->empS (l.getD j dd)=true)/\(f<t->empS (l.getD (t-1) dd)=false)
 |0,x,h1,h2,_,_=>by omega
 |n+1,x,h1,h2,h3,h4=>by
  rw[PZ];by_cases hx:f<x
  ·rw[kf (show(x:Int)>(f:Int) by omega),qX (by omega),zU (by omega),show(x:Int)-1=((x-1:Nat):Int) by omega];simp only[kp,ki,VU,kd,IK];cases he:empS (l.getD (x-1) dd) with
   |true=>
    rw[qX (by omega),show(x:Int)-1=((x-1:Nat):Int) by omega];exact qOo l hl f n (x-1) (by omega) (by omega) (by omega) (λj h5 h6=>by
     by_cases hjx:j=x-1
     ·rw[hjx];exact he
     ·exact h4 j (by omega) h6)
   |false=>exact⟨x,rfl,by omega,by omega,h4,λ_=>he⟩
  ·rw[ko (show¬(x:Int)>(f:Int) by omega)];exact⟨x,rfl,by omega,by omega,h4,λh=>by omega⟩
theorem qPW (l:List Span) (hl:l.length<=1000) (t:Nat) (ht:t<=l.length):∀(n x:Nat) (o:List Span),t<x+n->x<=t->o.length<=x->∃o',QC l (t:Int) n (x:Int) o=some (o++o')/\o'.length=t-x/\∀i,i<t-x->o'.getD i dd=nrm (l.getD (x+i) dd)
 |0,x,o,h1,h2,_=>by omega
 |n+1,x,o,h1,h2,h3=>by
  rw[QC];by_cases hx:x<t
  ·rw[kf (show(x:Int)<(t:Int) by omega),zU (by omega)];have e:(bif empS (l.getD x dd) then RG (x:Int) o (QC l (t:Int) n) ⟨0,0⟩ else RG (x:Int) o (QC l (t:Int) n) (l.getD x dd))=QC l (t:Int) n ((x+1:Nat):Int) (o++[nrm (l.getD x dd)]):=by
    unfold RG nrm;rw[ZK (by omega),wH (by omega)];cases empS (l.getD x dd)<;>rfl
   simp only[kp,ki,VU,kd];rw[e];obtain⟨o',k1,k2,k3⟩:=qPW l hl t ht n (x+1) (o++[nrm (l.getD x dd)]) (by omega) (by omega) (by simp;omega);refine⟨nrm (l.getD x dd)::o',by rw[k1];simp,by simp;omega,λi hi=>?_⟩;cases i with
   |zero=>rfl
   |succ i=>
    have:=k3 i (by omega);rw[show x+(i+1)=x+1+i by omega];simpa using this
  ·rw[ko (show¬(x:Int)<(t:Int) by omega)];exact⟨[],by simp,by simp;omega,λi hi=>by omega⟩
theorem qPp (l:List Span) (hl:l.length=120):RT (-60) l=some (qAh λj=>l.getD j dd):=by
 obtain⟨f,f1,f2,f3,f4⟩:=qP3 l (by omega) FUEL 0 (by rw[FUEL_eq];omega) (by omega) (λj hj=>by omega);obtain⟨t,t1,t2,t3,t4,t5⟩:=qOo l (by omega) f FUEL l.length (by rw[FUEL_eq];omega) f2 (ke _) (λj h1 h2=>by omega);have f1':JY l FUEL 0=some (f:Int):=f1;unfold RT;rw[f1'];simp only[kd];rw[t1];simp only[kd];obtain⟨g1,g2⟩:=HQ (λj=>l.getD j dd);by_cases hft:f=t
 ·rw[show((f:Int)==(t:Int))=true by rw[hft];simp];simp only[kp]
  congr 1
  refine qQE (s:=nilS) qKc.toTrim g1 (λr=>?_);have:row nilS r=⟨0,0⟩:=by unfold row nilS;split<;>rfl
  rw[this,g2 r];unfold qEA;split
  ·rw[CA];by_cases hj:(r+60).toNat<f
   ·exact f3 _ hj
   ·exact t4 _ (by omega) (by omega)
  ·rfl
 ·obtain⟨o,o1,o2,o3⟩:=qPW l (by omega) t t3 FUEL f [] (by rw[FUEL_eq];omega) t2 (by simp);rw[show((f:Int)==(t:Int))=false by rw[kR];omega];simp only[ku];rw[o1,qX (by omega)];simp only[kd,uq]
  congr 1
  refine qQE ⟨λe=>?_,λ_=>?_,λ_=>?_⟩ g1 (λr=>?_)
  ·have e':o=[]:=e;rw[e'] at o2;simp at o2;omega
  ·show empS (o.getD 0 dd)=false;rw[o3 0 (by omega),qHb];exact f4 (by omega)
  ·show empS (o.getD (o.length-1) dd)=false;rw[o2,o3 _ (by omega),qHb,show f+(t-f-1)=t-1 by omega];exact t5 (by omega)
  ·rw[g2 r];unfold row qEA;simp only;by_cases c1:r< -60+(f:Int)
   ·rw[if_pos c1];split
    ·rw[CA (f3 _ (by omega))]
    ·rfl
   ·rw[if_neg c1];by_cases c2:(r-(-60+(f:Int))).toNat<t-f
    ·rw[o3 _ c2,if_pos (by omega)]
     congr 2
     omega
    ·rw[qQD (by omega)];split
     ·rw[CA (t4 _ (by omega) (by omega))];rfl
     ·rfl
def mxS (x y:Span):Span:=⟨imax x.A y.A,imin x.B y.B⟩
theorem qTh (x y:Span):ZX x y=some (nrm (mxS x y)):=by
 unfold ZX nrm mxS empS;simp only[ge_iff_le];cases decide (imin x.B y.B<=imax x.A y.A)<;>rfl
noncomputable def qFQ (a b:qH):qH:=qAh (λj=>mxS (row a ((j:Int)-60)) (row b ((j:Int)-60)))
theorem qGT {g g':Nat->Span} (h:∀j,j<120->nrm (g j)=nrm (g' j)):qAh g=qAh g':=by
 refine qQE (HQ g).1 (HQ g').1 (λr=>?_);rw[(HQ g).2,(HQ g').2];unfold qEA;split
 ·exact h _ (by omega)
 ·rfl
theorem meet_eq {a b:qH} (ha:VS a) (hb:VS b):PQ a b=some (qFQ a b):=by
 have m1:∀r:Int,-60<=r->r<60->GB r a b=some (nrm (mxS (row a r) (row b r))):=λr h1 h2=>by
  unfold GB;rw[(qSS ha h1 h2).1,(qSS hb h1 h2).1];simp only[kd,qTh]
 unfold PQ qFQ;rw[qGT (g':=λj=>nrm (mxS (row a ((j:Int)-60)) (row b ((j:Int)-60)))) (λj _=>(nrm_nrm _).symm)];refine qRH (λj=>nrm (mxS (row a ((j:Int)-60)) (row b ((j:Int)-60)))) (wI a b) (λn x u w l hx=>?_) (λn u w l=>?_)
 ·rw[wI,kf (show(x:Int)-60<60 by omega),m1 _ (by omega) (by omega)];simp only[kp,kd,UM,RL,JR]
 ·rw[wI];rfl
theorem qXx {a b:qH} (ha:VS a) (hb:VS b):((TI a b FUEL [] (-60)).bind λo=>(RT (-60) o).bind λv=>some (qH.mk v.Low v.Rows))=some (qFQ a b):=by
 have k:=qGk (List.range 120) (λn (l:List Span) x=>TI a b n l x) (λx=>(x:Int)-60) (λx (_:Nat) l=>l++[mxS (row a ((x:Int)-60)) (row b ((x:Int)-60))]) (λl=>l) (λx l=>l.length=x) (by simp)
  (λn x l hx hi=>by
   have hx':x<120:=by simpa using hx
   refine⟨?_,by simp[hi]⟩;rw[TI,kf (show(x:Int)-60<60 by omega),(qSS ha (by omega) (by omega)).2,(qSS hb (by omega) (by omega)).2];simp only[kp,kd];rw[ZK (by omega),qX (by omega),show(x:Int)-60+1=((x+1:Nat):Int)-60 by omega];rfl)
  (λn l _=>by
   have e:(((List.range 120).length:Nat):Int)-60=60:=by rw[uA];rfl
   simp only[e];rw[TI];rfl) (i:= -60) rfl [] rfl
 rw[qKE (λx (_:Nat)=>mxS (row a ((x:Int)-60)) (row b ((x:Int)-60))),uq] at k;rw[k.1];simp only[kd];rw[qPp _ (by rw[qME];simp)];simp only[kd];have e:qAh (λj=>(mapi (λx (_:Nat)=>mxS (row a ((x:Int)-60)) (row b ((x:Int)-60))) 0 (List.range 120)).getD j dd)=qFQ a b:=by
  unfold qFQ;refine qGT (λj hj=>?_);rw[qNR _ _ _ _ (by rw[uA];exact hj),kz]
 rw[qH.eta,e]
theorem Meet_eq (a b:qH):GG a b=some (qFQ (AM a) (AM b))/\qIp a b=some (qFQ (AM a) (AM b)):=by
 unfold GG qIp;rw[(qE6 a).1,(qE6 a).2,(qE6 b).1,(qE6 b).2];simp only[kd];rw[meet_eq (qIn a) (qIn b)];exact⟨rfl,qXx (qIn a) (qIn b)⟩
end Saw
end Go.SL

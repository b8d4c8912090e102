/- Section's plain mathematics, part 5: Shift, Dropped, Meet, Equal. -/
import Derived.Test.YtigmogcdifllhaaGreatDoorEMa3
set_option linter.unusedVariables false
set_option linter.unusedSimpArgs false
namespace Go.SL
namespace Saw
theorem qRG (l:List Span) (hl:l.length<=1000):∀(n x:Nat),l.length<x+n->x<=l.length->(∀j,j<x->empS (l.getD j dd)=true)->
  ∃f:Nat,yP l n (x:Int)=some (f:Int)/\f<=l.length/\(∀j,j<f->empS (l.getD j dd)=true)/\(f<l.length->empS (l.getD f dd)=false)
 |0,x,h1,h2,_=>by omega
 |n+1,x,h1,h2,h3=>by
  rw[yP];by_cases hx:x<l.length
  ·rw[kf (show(x:Int)<_ by omega),zT (by omega)];simp only[ko,kr,UK,ke,GC,wE (show x<4611686018427387904 by omega)];cases he:empS (l.getD x dd) with
   |true=>
    exact qRG l hl n (x+1) (by omega) (by omega) (λj hj=>by
     by_cases hjx:j=x
     ·rw[hjx];exact he
     ·exact h3 j (by omega))
   |false=>exact⟨x,rfl,by omega,h3,λ_=>he⟩
  ·rw[kg (show¬(x:Int)<_ by omega)];exact⟨x,rfl,by omega,h3,λh=>absurd h hx⟩
theorem qQi (l:List Span) (hl:l.length<=1000) (f:Nat):∀(n x:Nat),x<n+f->f<=x->x<=l.length->(∀j,x<=j->j<l.length->empS (l.getD j dd)=true)->
  ∃t:Nat,ZB l (f:Int) n (x:Int)=some (t:Int)/\f<=t/\t<=l.length/\(∀j,t<=j->j<l.length->empS (l.getD j dd)=true)/\(f<t->empS (l.getD (t-1) dd)=false)
 |0,x,h1,h2,_,_=>by omega
 |n+1,x,h1,h2,h3,h4=>by
  rw[ZB];by_cases hx:f<x
  ·rw[kf (show(x:Int)>(f:Int) by omega),zK (by omega),zT (by omega),show(x:Int)-1=((x-1:Nat):Int) by omega];simp only[ko,kr,UK,ke,GJ];cases he:empS (l.getD (x-1) dd) with
   |true=>
    rw[zK (by omega),show(x:Int)-1=((x-1:Nat):Int) by omega];exact qQi l hl f n (x-1) (by omega) (by omega) (by omega) (λj h5 h6=>by
     by_cases hjx:j=x-1
     ·rw[hjx];exact he
     ·exact h4 j (by omega) h6)
   |false=>exact⟨x,rfl,by omega,by omega,h4,λ_=>he⟩
  ·rw[kg (show¬(x:Int)>(f:Int) by omega)];exact⟨x,rfl,by omega,by omega,h4,λh=>by omega⟩
theorem qRd (l:List Span) (hl:l.length<=1000) (t:Nat) (ht:t<=l.length):∀(n x:Nat) (o:List Span),t<x+n->x<=t->o.length<=x->∃o',wW l (t:Int) n (x:Int) o=some (o++o')/\o'.length=t-x/\∀i,i<t-x->o'.getD i dd=nrm (l.getD (x+i) dd)
 |0,x,o,h1,h2,_=>by omega
 |n+1,x,o,h1,h2,h3=>by
  rw[wW];by_cases hx:x<t
  ·rw[kf (show(x:Int)<(t:Int) by omega),zT (by omega)];have e:(bif empS (l.getD x dd) then JJ (x:Int) o (wW l (t:Int) n) ⟨0,0⟩ else JJ (x:Int) o (wW l (t:Int) n) (l.getD x dd))=wW l (t:Int) n ((x+1:Nat):Int) (o++[nrm (l.getD x dd)]):=by
    unfold JJ nrm;rw[QI (by omega),wE (by omega)];cases empS (l.getD x dd)<;>rfl
   simp only[ko,kr,UK,ke];rw[e];obtain⟨o',k1,k2,k3⟩:=qRd l hl t ht n (x+1) (o++[nrm (l.getD x dd)]) (by omega) (by omega) (by simp;omega);refine⟨nrm (l.getD x dd)::o',by rw[k1];simp,by simp;omega,λi hi=>?_⟩;cases i with
   |zero=>rfl
   |succ i=>
    have:=k3 i (by omega);rw[show x+(i+1)=x+1+i by omega];simpa using this
  ·rw[kg (show¬(x:Int)<(t:Int) by omega)];exact⟨[],by simp,by simp;omega,λi hi=>by omega⟩
theorem qP2 (l:List Span) (hl:l.length=120):WK (-60) l=some (qBf λj=>l.getD j dd):=by
 obtain⟨f,f1,f2,f3,f4⟩:=qRG l (by omega) FUEL 0 (by rw[FUEL_eq];omega) (by omega) (λj hj=>by omega);obtain⟨t,t1,t2,t3,t4,t5⟩:=qQi l (by omega) f FUEL l.length (by rw[FUEL_eq];omega) f2 (kd _) (λj h1 h2=>by omega);have f1':yP l FUEL 0=some (f:Int):=f1;unfold WK;rw[f1'];simp only[ke];rw[t1];simp only[ke];obtain⟨g1,g2⟩:=HT (λj=>l.getD j dd);by_cases hft:f=t
 ·rw[show((f:Int)==(t:Int))=true by rw[hft];simp];simp only[ko]
  congr 1
  refine qSn (s:=nilS) qLx.toTrim g1 (λr=>?_);have:row nilS r=⟨0,0⟩:=by unfold row nilS;split<;>rfl
  rw[this,g2 r];unfold qFu;split
  ·rw[MI];by_cases hj:(r+60).toNat<f
   ·exact f3 _ hj
   ·exact t4 _ (by omega) (by omega)
  ·rfl
 ·obtain⟨o,o1,o2,o3⟩:=qRd l (by omega) t t3 FUEL f [] (by rw[FUEL_eq];omega) t2 (by simp);rw[show((f:Int)==(t:Int))=false by rw[kU];omega];simp only[ku];rw[o1,zK (by omega)];simp only[ke,un]
  congr 1
  refine qSn ⟨λe=>?_,λ_=>?_,λ_=>?_⟩ g1 (λr=>?_)
  ·have e':o=[]:=e;rw[e'] at o2;simp at o2;omega
  ·show empS (o.getD 0 dd)=false;rw[o3 0 (by omega),qI6];exact f4 (by omega)
  ·show empS (o.getD (o.length-1) dd)=false;rw[o2,o3 _ (by omega),qI6,show f+(t-f-1)=t-1 by omega];exact t5 (by omega)
  ·rw[g2 r];unfold row qFu;simp only;by_cases c1:r< -60+(f:Int)
   ·rw[if_pos c1];split
    ·rw[MI (f3 _ (by omega))]
    ·rfl
   ·rw[if_neg c1];by_cases c2:(r-(-60+(f:Int))).toNat<t-f
    ·rw[o3 _ c2,if_pos (by omega)]
     congr 2
     omega
    ·rw[qMD (by omega)];split
     ·rw[MI (t4 _ (by omega) (by omega))];rfl
     ·rfl
def mxS (x y:Span):Span:=⟨imax x.A y.A,imin x.B y.B⟩
theorem qXk (x y:Span):JQ x y=some (nrm (mxS x y)):=by
 unfold JQ nrm mxS empS;simp only[ge_iff_le];cases decide (imin x.B y.B<=imax x.A y.A)<;>rfl
noncomputable def qCQ (a b:qG):qG:=qBf (λj=>mxS (row a ((j:Int)-60)) (row b ((j:Int)-60)))
theorem qH9 {g g':Nat->Span} (h:∀j,j<120->nrm (g j)=nrm (g' j)):qBf g=qBf g':=by
 refine qSn (HT g).1 (HT g').1 (λr=>?_);rw[(HT g).2,(HT g').2];unfold qFu;split
 ·exact h _ (by omega)
 ·rfl
theorem meet_eq {a b:qG} (ha:VS a) (hb:VS b):KN a b=some (qCQ a b):=by
 have m1:∀r:Int,-60<=r->r<60->TP r a b=some (nrm (mxS (row a r) (row b r))):=λr h1 h2=>by
  unfold TP;rw[(qVY ha h1 h2).1,(qVY hb h1 h2).1];simp only[ke,qXk]
 unfold KN qCQ;rw[qH9 (g':=λj=>nrm (mxS (row a ((j:Int)-60)) (row b ((j:Int)-60)))) (λj _=>(nrm_nrm _).symm)];refine qTY (λj=>nrm (mxS (row a ((j:Int)-60)) (row b ((j:Int)-60)))) (wF a b) (λn x u w l hx=>?_) (λn u w l=>?_)
 ·rw[wF,kf (show(x:Int)-60<60 by omega),m1 _ (by omega) (by omega)];simp only[ko,ke,PR,KV,WT]
 ·rw[wF];rfl
theorem q0E {a b:qG} (ha:VS a) (hb:VS b):((YU a b FUEL [] (-60)).bind λo=>(WK (-60) o).bind λv=>some (qG.mk v.Low v.Rows))=some (qCQ a b):=by
 have k:=qGL (List.range 120) (λn (l:List Span) x=>YU a b n l x) (λx=>(x:Int)-60) (λx (_:Nat) l=>l++[mxS (row a ((x:Int)-60)) (row b ((x:Int)-60))]) (λl=>l) (λx l=>l.length=x) (by simp)
  (λn x l hx hi=>by
   have hx':x<120:=by simpa using hx
   refine⟨?_,by simp[hi]⟩;rw[YU,kf (show(x:Int)-60<60 by omega),(qVY ha (by omega) (by omega)).2,(qVY hb (by omega) (by omega)).2];simp only[ko,ke];rw[QI (by omega),zK (by omega),show(x:Int)-60+1=((x+1:Nat):Int)-60 by omega];rfl)
  (λn l _=>by
   have e:(((List.range 120).length:Nat):Int)-60=60:=by rw[uj];rfl
   simp only[e];rw[YU];rfl) (i:= -60) rfl [] rfl
 rw[qLs (λx (_:Nat)=>mxS (row a ((x:Int)-60)) (row b ((x:Int)-60))),un] at k;rw[k.1];simp only[ke];rw[qP2 _ (by rw[qPc];simp)];simp only[ke];have e:qBf (λj=>(mapi (λx (_:Nat)=>mxS (row a ((x:Int)-60)) (row b ((x:Int)-60))) 0 (List.range 120)).getD j dd)=qCQ a b:=by
  unfold qCQ;refine qH9 (λj hj=>?_);rw[qPz _ _ _ _ (by rw[uj];exact hj),ky]
 rw[qG.eta,e]
theorem Meet_eq (a b:qG):UB a b=some (qCQ (qAE a) (qAE b))/\RV a b=some (qCQ (qAE a) (qAE b)):=by
 unfold UB RV;rw[(qJu a).1,(qJu a).2,(qJu b).1,(qJu b).2];simp only[ke];rw[meet_eq (qJM a) (qJM b)];exact⟨rfl,q0E (qJM a) (qJM b)⟩
theorem q2a {x y:Span} (h1:rngS x=true) (h2:rngS y=true):rngS (nrm (mxS x y))=true:=by
 cases he:empS (mxS x y) with
 |true=>rw[MI he];rfl
 |false=>
  rw[qQ6 he];rw[qPa] at*;have a1:=qSC x.A y.A;have a2:=qTm x.B y.B;unfold mxS;simp only;omega
theorem VS_meet {a b:qG} (ha:VS a) (hb:VS b):VS (qCQ a b):=qXT (λj _=>q2a (ha.row_rng _) (hb.row_rng _))
end Saw
end Go.SL

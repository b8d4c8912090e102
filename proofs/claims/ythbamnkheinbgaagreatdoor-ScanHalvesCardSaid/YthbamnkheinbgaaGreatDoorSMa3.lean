/- Section's plain mathematics, part 5: Shift, Dropped, Meet, Equal. -/
import Derived.Test.YthbamnkheinbgaaGreatDoorSMa2
set_option linter.unusedVariables false
set_option linter.unusedSimpArgs false
namespace Go.SL
namespace Saw
theorem qIg (l:List Span) (hl:l.length<=1000):∀(n x:Nat),l.length<x+n->x<=l.length->(∀j,j<x->empS (l.getD j dd)=true)->
  ∃f:Nat,QW l n (x:Int)=some (f:Int)/\f<=l.length/\(∀j,j<f->empS (l.getD j dd)=true)/\(f<l.length->empS (l.getD f dd)=false)
 |0,x,h1,h2,_=>by omega
 |n+1,x,h1,h2,h3=>by
  rw[QW];by_cases hx:x<l.length
  ·rw[ke (show(x:Int)<_ by omega),qY (by omega)];simp only[ko,ks,KM,kd,BR,zM (show x<4611686018427387904 by omega)];cases he:empS (l.getD x dd) with
   |true=>
    exact qIg l hl n (x+1) (by omega) (by omega) (λj hj=>by
     by_cases hjx:j=x
     ·rw[hjx];exact he
     ·exact h3 j (by omega))
   |false=>exact⟨x,rfl,by omega,h3,λ_=>he⟩
  ·rw[kf (show¬(x:Int)<_ by omega)];exact⟨x,rfl,by omega,h3,λh=>absurd h hx⟩
theorem qIK (l:List Span) (hl:l.length<=1000) (f:Nat):∀(n x:Nat),x<n+f->f<=x->x<=l.length->(∀j,x<=j->j<l.length->empS (l.getD j dd)=true)->
  ∃t:Nat,JB l (f:Int) n (x:Int)=some (t:Int)/\f<=t/\t<=l.length/\(∀j,t<=j->j<l.length->empS (l.getD j dd)=true)/\(f<t->empS (l.getD (t-1) dd)=false)
 |0,x,h1,h2,_,_=>by omega
 |n+1,x,h1,h2,h3,h4=>by
  rw[JB];by_cases hx:f<x
  ·rw[ke (show(x:Int)>(f:Int) by omega),qR (by omega),qY (by omega),show(x:Int)-1=((x-1:Nat):Int) by omega];simp only[ko,ks,KM,kd,BQ];cases he:empS (l.getD (x-1) dd) with
   |true=>
    rw[qR (by omega),show(x:Int)-1=((x-1:Nat):Int) by omega];exact qIK l hl f n (x-1) (by omega) (by omega) (by omega) (λj h5 h6=>by
     by_cases hjx:j=x-1
     ·rw[hjx];exact he
     ·exact h4 j (by omega) h6)
   |false=>exact⟨x,rfl,by omega,by omega,h4,λ_=>he⟩
  ·rw[kf (show¬(x:Int)>(f:Int) by omega)];exact⟨x,rfl,by omega,by omega,h4,λh=>by omega⟩
theorem qHm (l:List Span) (hl:l.length<=1000) (t:Nat) (ht:t<=l.length):∀(n x:Nat) (o:List Span),t<x+n->x<=t->o.length<=x->∃o',jH l (t:Int) n (x:Int) o=some (o++o')/\o'.length=t-x/\∀i,i<t-x->o'.getD i dd=nrm (l.getD (x+i) dd)
 |0,x,o,h1,h2,_=>by omega
 |n+1,x,o,h1,h2,h3=>by
  rw[jH];by_cases hx:x<t
  ·rw[ke (show(x:Int)<(t:Int) by omega),qY (by omega)];have e:(bif empS (l.getD x dd) then WZ (x:Int) o (jH l (t:Int) n) ⟨0,0⟩ else WZ (x:Int) o (jH l (t:Int) n) (l.getD x dd))=jH l (t:Int) n ((x+1:Nat):Int) (o++[nrm (l.getD x dd)]):=by
    unfold WZ nrm;rw[WD (by omega),zM (by omega)];cases empS (l.getD x dd)<;>rfl
   simp only[ko,ks,KM,kd];rw[e];obtain⟨o',k1,k2,k3⟩:=qHm l hl t ht n (x+1) (o++[nrm (l.getD x dd)]) (by omega) (by omega) (by simp;omega);refine⟨nrm (l.getD x dd)::o',by rw[k1];simp,by simp;omega,λi hi=>?_⟩;cases i with
   |zero=>rfl
   |succ i=>
    have:=k3 i (by omega);rw[show x+(i+1)=x+1+i by omega];simpa using this
  ·rw[kf (show¬(x:Int)<(t:Int) by omega)];exact⟨[],by simp,by simp;omega,λi hi=>by omega⟩
theorem qHw (l:List Span) (hl:l.length=120):YA (-60) l=some (TP λj=>l.getD j dd):=by
 obtain⟨f,f1,f2,f3,f4⟩:=qIg l (by omega) FUEL 0 (by rw[FUEL_eq];omega) (by omega) (λj hj=>by omega);obtain⟨t,t1,t2,t3,t4,t5⟩:=qIK l (by omega) f FUEL l.length (by rw[FUEL_eq];omega) f2 (kr _) (λj h1 h2=>by omega);have f1':QW l FUEL 0=some (f:Int):=f1;unfold YA;rw[f1'];simp only[kd];rw[t1];simp only[kd];obtain⟨g1,g2⟩:=WF (λj=>l.getD j dd);by_cases hft:f=t
 ·rw[show((f:Int)==(t:Int))=true by rw[hft];simp];simp only[ko]
  congr 1
  refine RX (s:=nilS) FV.toTrim g1 (λr=>?_);have:row nilS r=⟨0,0⟩:=by unfold row nilS;split<;>rfl
  rw[this,g2 r];unfold LA;split
  ·rw[TE];by_cases hj:(r+60).toNat<f
   ·exact f3 _ hj
   ·exact t4 _ (by omega) (by omega)
  ·rfl
 ·obtain⟨o,o1,o2,o3⟩:=qHm l (by omega) t t3 FUEL f [] (by rw[FUEL_eq];omega) t2 (by simp);rw[show((f:Int)==(t:Int))=false by rw[un];omega];simp only[ku];rw[o1,qR (by omega)];simp only[kd,uv]
  congr 1
  refine RX ⟨λe=>?_,λ_=>?_,λ_=>?_⟩ g1 (λr=>?_)
  ·have e':o=[]:=e;rw[e'] at o2;simp at o2;omega
  ·show empS (o.getD 0 dd)=false;rw[o3 0 (by omega),qCJ];exact f4 (by omega)
  ·show empS (o.getD (o.length-1) dd)=false;rw[o2,o3 _ (by omega),qCJ,show f+(t-f-1)=t-1 by omega];exact t5 (by omega)
  ·rw[g2 r];unfold row LA;simp only;by_cases c1:r< -60+(f:Int)
   ·rw[if_pos c1];split
    ·rw[TE (f3 _ (by omega))]
    ·rfl
   ·rw[if_neg c1];by_cases c2:(r-(-60+(f:Int))).toNat<t-f
    ·rw[o3 _ c2,if_pos (by omega)]
     congr 2
     omega
    ·rw[RP (by omega)];split
     ·rw[TE (t4 _ (by omega) (by omega))];rfl
     ·rfl
def mxS (x y:Span):Span:=⟨imax x.A y.A,imin x.B y.B⟩
theorem qLB (x y:Span):AL x y=some (nrm (mxS x y)):=by
 unfold AL nrm mxS empS;simp only[ge_iff_le];cases decide (imin x.B y.B<=imax x.A y.A)<;>rfl
noncomputable def VU (a b:qB):qB:=TP (λj=>mxS (row a ((j:Int)-60)) (row b ((j:Int)-60)))
theorem qBH {g g':Nat->Span} (h:∀j,j<120->nrm (g j)=nrm (g' j)):TP g=TP g':=by
 refine RX (WF g).1 (WF g').1 (λr=>?_);rw[(WF g).2,(WF g').2];unfold LA;split
 ·exact h _ (by omega)
 ·rfl
theorem meet_eq {a b:qB} (ha:VS a) (hb:VS b):WX a b=some (VU a b):=by
 have m1:∀r:Int,-60<=r->r<60->XY r a b=some (nrm (mxS (row a r) (row b r))):=λr h1 h2=>by
  unfold XY;rw[(qFr ha h1 h2).1,(qFr hb h1 h2).1];simp only[kd,qLB]
 unfold WX VU;rw[qBH (g':=λj=>nrm (mxS (row a ((j:Int)-60)) (row b ((j:Int)-60)))) (λj _=>(nrm_nrm _).symm)];refine qBv (λj=>nrm (mxS (row a ((j:Int)-60)) (row b ((j:Int)-60)))) (zO a b) (λn x u w l hx=>?_) (λn u w l=>?_)
 ·rw[zO,ke (show(x:Int)-60<60 by omega),m1 _ (by omega) (by omega)];simp only[ko,kd,yE,JJ,QO]
 ·rw[zO];rfl
theorem qOA {a b:qB} (ha:VS a) (hb:VS b):((YJ a b FUEL [] (-60)).bind λo=>(YA (-60) o).bind λv=>some (qB.mk v.Low v.Rows))=some (VU a b):=by
 have k:=EY (List.range 120) (λn (l:List Span) x=>YJ a b n l x) (λx=>(x:Int)-60) (λx (_:Nat) l=>l++[mxS (row a ((x:Int)-60)) (row b ((x:Int)-60))]) (λl=>l) (λx l=>l.length=x) (by simp)
  (λn x l hx hi=>by
   have hx':x<120:=by simpa using hx
   refine⟨?_,by simp[hi]⟩;rw[YJ,ke (show(x:Int)-60<60 by omega),(qFr ha (by omega) (by omega)).2,(qFr hb (by omega) (by omega)).2];simp only[ko,kd];rw[WD (by omega),qR (by omega),show(x:Int)-60+1=((x+1:Nat):Int)-60 by omega];rfl)
  (λn l _=>by
   have e:(((List.range 120).length:Nat):Int)-60=60:=by rw[ur];rfl
   simp only[e];rw[YJ];rfl) (i:= -60) rfl [] rfl
 rw[qBA (λx (_:Nat)=>mxS (row a ((x:Int)-60)) (row b ((x:Int)-60))),uv] at k;rw[k.1];simp only[kd];rw[qHw _ (by rw[qHb];simp)];simp only[kd];have e:TP (λj=>(mapi (λx (_:Nat)=>mxS (row a ((x:Int)-60)) (row b ((x:Int)-60))) 0 (List.range 120)).getD j dd)=VU a b:=by
  unfold VU;refine qBH (λj hj=>?_);rw[qGA _ _ _ _ (by rw[ur];exact hj),kz]
 rw[qB.eta,e]
theorem Meet_eq (a b:qB):XU a b=some (VU (PU a) (PU b))/\qDq a b=some (VU (PU a) (PU b)):=by
 unfold XU qDq;rw[(UY a).1,(UY a).2,(UY b).1,(UY b).2];simp only[kd];rw[meet_eq (VG a) (VG b)];exact⟨rfl,qOA (VG a) (VG b)⟩
theorem qQM {x y:Span} (h1:rngS x=true) (h2:rngS y=true):rngS (nrm (mxS x y))=true:=by
 cases he:empS (mxS x y) with
 |true=>rw[TE he];rfl
 |false=>
  rw[qCY he];rw[HZ] at*;have a1:=qCH x.A y.A;have a2:=qCe x.B y.B;unfold mxS;simp only;omega
theorem qFC {a b:qB} (ha:VS a) (hb:VS b):VS (VU a b):=qC4 (λj _=>qQM (ha.row_rng _) (hb.row_rng _))
theorem qL1 {a b:qB} (ha:VS a) (hb:VS b) (r:Int):row (VU a b) r=nrm (mxS (row a r) (row b r)):=by
 unfold VU;rw[qAR (λr=>mxS (row a r) (row b r))];split
 ·rfl
 ·rw[ha.row_out (by omega),hb.row_out (by omega)];rfl
end Saw
end Go.SL

/- Section's plain mathematics, part 5: Shift, Dropped, Meet, Equal. -/
import Derived.Test.YthbamnkheinbgaaGreatDoorSMa2
set_option linter.unusedVariables false
set_option linter.unusedSimpArgs false
namespace Go.SL
namespace Saw
theorem qHw (l:List Span) (hl:l.length<=1000):∀(n x:Nat),l.length<x+n->x<=l.length->(∀j,j<x->empS (l.getD j dd)=true)->
  ∃f:Nat,jD l n (x:Int)=some (f:Int)/\f<=l.length/\(∀j,j<f->empS (l.getD j dd)=true)/\(f<l.length->empS (l.getD f dd)=false)
 |0,x,h1,h2,_=>by omega
 |n+1,x,h1,h2,h3=>by
  rw[jD];by_cases hx:x<l.length
  ·rw[ke (show(x:Int)<_ by omega),zF (by omega)];simp only[kq,ks,XO,kd,KG,zX (show x<4611686018427387904 by omega)];cases he:empS (l.getD x dd) with
   |true=>
    exact qHw l hl n (x+1) (by omega) (by omega) (λj hj=>by
     by_cases hjx:j=x
     ·rw[hjx];exact he
     ·exact h3 j (by omega))
   |false=>exact⟨x,rfl,by omega,h3,λ_=>he⟩
  ·rw[kg (show¬(x:Int)<_ by omega)];exact⟨x,rfl,by omega,h3,λh=>absurd h hx⟩
theorem qHF (l:List Span) (hl:l.length<=1000) (f:Nat):∀(n x:Nat),x<n+f->f<=x->x<=l.length->(∀j,x<=j->j<l.length->empS (l.getD j dd)=true)->
  ∃t:Nat,jX l (f:Int) n (x:Int)=some (t:Int)/\f<=t/\t<=l.length/\(∀j,t<=j->j<l.length->empS (l.getD j dd)=true)/\(f<t->empS (l.getD (t-1) dd)=false)
 |0,x,h1,h2,_,_=>by omega
 |n+1,x,h1,h2,h3,h4=>by
  rw[jX];by_cases hx:f<x
  ·rw[ke (show(x:Int)>(f:Int) by omega),qU (by omega),zF (by omega),show(x:Int)-1=((x-1:Nat):Int) by omega];simp only[kq,ks,XO,kd,KH];cases he:empS (l.getD (x-1) dd) with
   |true=>
    rw[qU (by omega),show(x:Int)-1=((x-1:Nat):Int) by omega];exact qHF l hl f n (x-1) (by omega) (by omega) (by omega) (λj h5 h6=>by
     by_cases hjx:j=x-1
     ·rw[hjx];exact he
     ·exact h4 j (by omega) h6)
   |false=>exact⟨x,rfl,by omega,by omega,h4,λ_=>he⟩
  ·rw[kg (show¬(x:Int)>(f:Int) by omega)];exact⟨x,rfl,by omega,by omega,h4,λh=>by omega⟩
theorem qH2 (l:List Span) (hl:l.length<=1000) (t:Nat) (ht:t<=l.length):∀(n x:Nat) (o:List Span),t<x+n->x<=t->o.length<=x->∃o',wD l (t:Int) n (x:Int) o=some (o++o')/\o'.length=t-x/\∀i,i<t-x->o'.getD i dd=nrm (l.getD (x+i) dd)
 |0,x,o,h1,h2,_=>by omega
 |n+1,x,o,h1,h2,h3=>by
  rw[wD];by_cases hx:x<t
  ·rw[ke (show(x:Int)<(t:Int) by omega),zF (by omega)];have e:(bif empS (l.getD x dd) then QN (x:Int) o (wD l (t:Int) n) ⟨0,0⟩ else QN (x:Int) o (wD l (t:Int) n) (l.getD x dd))=wD l (t:Int) n ((x+1:Nat):Int) (o++[nrm (l.getD x dd)]):=by
    unfold QN nrm;rw[YJ (by omega),zX (by omega)];cases empS (l.getD x dd)<;>rfl
   simp only[kq,ks,XO,kd];rw[e];obtain⟨o',k1,k2,k3⟩:=qH2 l hl t ht n (x+1) (o++[nrm (l.getD x dd)]) (by omega) (by omega) (by simp;omega);refine⟨nrm (l.getD x dd)::o',by rw[k1];simp,by simp;omega,λi hi=>?_⟩;cases i with
   |zero=>rfl
   |succ i=>
    have:=k3 i (by omega);rw[show x+(i+1)=x+1+i by omega];simpa using this
  ·rw[kg (show¬(x:Int)<(t:Int) by omega)];exact⟨[],by simp,by simp;omega,λi hi=>by omega⟩
theorem qHQ (l:List Span) (hl:l.length=120):QA (-60) l=some (MG λj=>l.getD j dd):=by
 obtain⟨f,f1,f2,f3,f4⟩:=qHw l (by omega) FUEL 0 (by rw[FUEL_eq];omega) (by omega) (λj hj=>by omega);obtain⟨t,t1,t2,t3,t4,t5⟩:=qHF l (by omega) f FUEL l.length (by rw[FUEL_eq];omega) f2 (ki _) (λj h1 h2=>by omega);have f1':jD l FUEL 0=some (f:Int):=f1;unfold QA;rw[f1'];simp only[kd];rw[t1];simp only[kd];obtain⟨g1,g2⟩:=UK (λj=>l.getD j dd);by_cases hft:f=t
 ·rw[show((f:Int)==(t:Int))=true by rw[hft];simp];simp only[kq]
  congr 1
  refine qJw (s:=nilS) qEI.toTrim g1 (λr=>?_);have:row nilS r=⟨0,0⟩:=by unfold row nilS;split<;>rfl
  rw[this,g2 r];unfold CJ;split
  ·rw[UO];by_cases hj:(r+60).toNat<f
   ·exact f3 _ hj
   ·exact t4 _ (by omega) (by omega)
  ·rfl
 ·obtain⟨o,o1,o2,o3⟩:=qH2 l (by omega) t t3 FUEL f [] (by rw[FUEL_eq];omega) t2 (by simp);rw[show((f:Int)==(t:Int))=false by rw[ud];omega];simp only[ku];rw[o1,qU (by omega)];simp only[kd,ut]
  congr 1
  refine qJw ⟨λe=>?_,λ_=>?_,λ_=>?_⟩ g1 (λr=>?_)
  ·have e':o=[]:=e;rw[e'] at o2;simp at o2;omega
  ·show empS (o.getD 0 dd)=false;rw[o3 0 (by omega),qCp];exact f4 (by omega)
  ·show empS (o.getD (o.length-1) dd)=false;rw[o2,o3 _ (by omega),qCp,show f+(t-f-1)=t-1 by omega];exact t5 (by omega)
  ·rw[g2 r];unfold row CJ;simp only;by_cases c1:r< -60+(f:Int)
   ·rw[if_pos c1];split
    ·rw[UO (f3 _ (by omega))]
    ·rfl
   ·rw[if_neg c1];by_cases c2:(r-(-60+(f:Int))).toNat<t-f
    ·rw[o3 _ c2,if_pos (by omega)]
     congr 2
     omega
    ·rw[qFa (by omega)];split
     ·rw[UO (t4 _ (by omega) (by omega))];rfl
     ·rfl
def mxS (x y:Span):Span:=⟨imax x.A y.A,imin x.B y.B⟩
theorem qMf (x y:Span):EJ x y=some (nrm (mxS x y)):=by
 unfold EJ nrm mxS empS;simp only[ge_iff_le];cases decide (imin x.B y.B<=imax x.A y.A)<;>rfl
noncomputable def SI (a b:qC):qC:=MG (λj=>mxS (row a ((j:Int)-60)) (row b ((j:Int)-60)))
theorem qBG {g g':Nat->Span} (h:∀j,j<120->nrm (g j)=nrm (g' j)):MG g=MG g':=by
 refine qJw (UK g).1 (UK g').1 (λr=>?_);rw[(UK g).2,(UK g').2];unfold CJ;split
 ·exact h _ (by omega)
 ·rfl
theorem meet_eq {a b:qC} (ha:VS a) (hb:VS b):WK a b=some (SI a b):=by
 have m1:∀r:Int,-60<=r->r<60->XH r a b=some (nrm (mxS (row a r) (row b r))):=λr h1 h2=>by
  unfold XH;rw[(qLM ha h1 h2).1,(qLM hb h1 h2).1];simp only[kd,qMf]
 unfold WK SI;rw[qBG (g':=λj=>nrm (mxS (row a ((j:Int)-60)) (row b ((j:Int)-60)))) (λj _=>(nrm_nrm _).symm)];refine qKg (λj=>nrm (mxS (row a ((j:Int)-60)) (row b ((j:Int)-60)))) (zN a b) (λn x u w l hx=>?_) (λn u w l=>?_)
 ·rw[zN,ke (show(x:Int)-60<60 by omega),m1 _ (by omega) (by omega)];simp only[kq,kd,YC,WV,QE]
 ·rw[zN];rfl
theorem qO5 {a b:qC} (ha:VS a) (hb:VS b):((ZC a b FUEL [] (-60)).bind λo=>(QA (-60) o).bind λv=>some (qC.mk v.Low v.Rows))=some (SI a b):=by
 have k:=qA1 (List.range 120) (λn (l:List Span) x=>ZC a b n l x) (λx=>(x:Int)-60) (λx (_:Nat) l=>l++[mxS (row a ((x:Int)-60)) (row b ((x:Int)-60))]) (λl=>l) (λx l=>l.length=x) (by simp)
  (λn x l hx hi=>by
   have hx':x<120:=by simpa using hx
   refine⟨?_,by simp[hi]⟩;rw[ZC,ke (show(x:Int)-60<60 by omega),(qLM ha (by omega) (by omega)).2,(qLM hb (by omega) (by omega)).2];simp only[kq,kd];rw[YJ (by omega),qU (by omega),show(x:Int)-60+1=((x+1:Nat):Int)-60 by omega];rfl)
  (λn l _=>by
   have e:(((List.range 120).length:Nat):Int)-60=60:=by rw[uo];rfl
   simp only[e];rw[ZC];rfl) (i:= -60) rfl [] rfl
 rw[qEm (λx (_:Nat)=>mxS (row a ((x:Int)-60)) (row b ((x:Int)-60))),ut] at k;rw[k.1];simp only[kd];rw[qHQ _ (by rw[qGg];simp)];simp only[kd];have e:MG (λj=>(mapi (λx (_:Nat)=>mxS (row a ((x:Int)-60)) (row b ((x:Int)-60))) 0 (List.range 120)).getD j dd)=SI a b:=by
  unfold SI;refine qBG (λj hj=>?_);rw[qHh _ _ _ _ (by rw[uo];exact hj),kF]
 rw[qC.eta,e]
theorem Meet_eq (a b:qC):XI a b=some (SI (LI a) (LI b))/\JO a b=some (SI (LI a) (LI b)):=by
 unfold XI JO;rw[(qCE a).1,(qCE a).2,(qCE b).1,(qCE b).2];simp only[kd];rw[meet_eq (qCB a) (qCB b)];exact⟨rfl,qO5 (qCB a) (qCB b)⟩
theorem qRv {x y:Span} (h1:rngS x=true) (h2:rngS y=true):rngS (nrm (mxS x y))=true:=by
 cases he:empS (mxS x y) with
 |true=>rw[UO he];rfl
 |false=>
  rw[qIz he];rw[qGR] at*;have a1:=qI9 x.A y.A;have a2:=qJI x.B y.B;unfold mxS;simp only;omega
theorem VS_meet {a b:qC} (ha:VS a) (hb:VS b):VS (SI a b):=qMQ (λj _=>qRv (ha.row_rng _) (hb.row_rng _))
end Saw
end Go.SL

/- Section's plain mathematics, part 5: Shift, Dropped, Meet, Equal. -/
import Derived.Test.YthbamnkheinbgaaGreatDoorSMa2
set_option linter.unusedVariables false
set_option linter.unusedSimpArgs false
namespace Go.SL
namespace Saw
theorem qGY (l:List Span) (hl:l.length<=1000):∀(n x:Nat),l.length<x+n->x<=l.length->(∀j,j<x->empS (l.getD j dd)=true)->
  ∃f:Nat,QH l n (x:Int)=some (f:Int)/\f<=l.length/\(∀j,j<f->empS (l.getD j dd)=true)/\(f<l.length->empS (l.getD f dd)=false)
 |0,x,h1,h2,_=>by omega
 |n+1,x,h1,h2,h3=>by
  rw[QH];by_cases hx:x<l.length
  ·rw[kg (show(x:Int)<_ by omega),qX (by omega)];simp only[ko,ks,YW,kd,GY,zQ (show x<4611686018427387904 by omega)];cases he:empS (l.getD x dd) with
   |true=>
    exact qGY l hl n (x+1) (by omega) (by omega) (λj hj=>by
     by_cases hjx:j=x
     ·rw[hjx];exact he
     ·exact h3 j (by omega))
   |false=>exact⟨x,rfl,by omega,h3,λ_=>he⟩
  ·rw[kf (show¬(x:Int)<_ by omega)];exact⟨x,rfl,by omega,h3,λh=>absurd h hx⟩
theorem qGW (l:List Span) (hl:l.length<=1000) (f:Nat):∀(n x:Nat),x<n+f->f<=x->x<=l.length->(∀j,x<=j->j<l.length->empS (l.getD j dd)=true)->
  ∃t:Nat,WJ l (f:Int) n (x:Int)=some (t:Int)/\f<=t/\t<=l.length/\(∀j,t<=j->j<l.length->empS (l.getD j dd)=true)/\(f<t->empS (l.getD (t-1) dd)=false)
 |0,x,h1,h2,_,_=>by omega
 |n+1,x,h1,h2,h3,h4=>by
  rw[WJ];by_cases hx:f<x
  ·rw[kg (show(x:Int)>(f:Int) by omega),qQ (by omega),qX (by omega),show(x:Int)-1=((x-1:Nat):Int) by omega];simp only[ko,ks,YW,kd,DA];cases he:empS (l.getD (x-1) dd) with
   |true=>
    rw[qQ (by omega),show(x:Int)-1=((x-1:Nat):Int) by omega];exact qGW l hl f n (x-1) (by omega) (by omega) (by omega) (λj h5 h6=>by
     by_cases hjx:j=x-1
     ·rw[hjx];exact he
     ·exact h4 j (by omega) h6)
   |false=>exact⟨x,rfl,by omega,by omega,h4,λ_=>he⟩
  ·rw[kf (show¬(x:Int)>(f:Int) by omega)];exact⟨x,rfl,by omega,by omega,h4,λh=>by omega⟩
theorem qGq (l:List Span) (hl:l.length<=1000) (t:Nat) (ht:t<=l.length):∀(n x:Nat) (o:List Span),t<x+n->x<=t->o.length<=x->∃o',wY l (t:Int) n (x:Int) o=some (o++o')/\o'.length=t-x/\∀i,i<t-x->o'.getD i dd=nrm (l.getD (x+i) dd)
 |0,x,o,h1,h2,_=>by omega
 |n+1,x,o,h1,h2,h3=>by
  rw[wY];by_cases hx:x<t
  ·rw[kg (show(x:Int)<(t:Int) by omega),qX (by omega)];have e:(bif empS (l.getD x dd) then WG (x:Int) o (wY l (t:Int) n) ⟨0,0⟩ else WG (x:Int) o (wY l (t:Int) n) (l.getD x dd))=wY l (t:Int) n ((x+1:Nat):Int) (o++[nrm (l.getD x dd)]):=by
    unfold WG nrm;rw[JY (by omega),zQ (by omega)];cases empS (l.getD x dd)<;>rfl
   simp only[ko,ks,YW,kd];rw[e];obtain⟨o',k1,k2,k3⟩:=qGq l hl t ht n (x+1) (o++[nrm (l.getD x dd)]) (by omega) (by omega) (by simp;omega);refine⟨nrm (l.getD x dd)::o',by rw[k1];simp,by simp;omega,λi hi=>?_⟩;cases i with
   |zero=>rfl
   |succ i=>
    have:=k3 i (by omega);rw[show x+(i+1)=x+1+i by omega];simpa using this
  ·rw[kf (show¬(x:Int)<(t:Int) by omega)];exact⟨[],by simp,by simp;omega,λi hi=>by omega⟩
theorem qGs (l:List Span) (hl:l.length=120):JD (-60) l=some (GH λj=>l.getD j dd):=by
 obtain⟨f,f1,f2,f3,f4⟩:=qGY l (by omega) FUEL 0 (by rw[FUEL_eq];omega) (by omega) (λj hj=>by omega);obtain⟨t,t1,t2,t3,t4,t5⟩:=qGW l (by omega) f FUEL l.length (by rw[FUEL_eq];omega) f2 (kr _) (λj h1 h2=>by omega);have f1':QH l FUEL 0=some (f:Int):=f1;unfold JD;rw[f1'];simp only[kd];rw[t1];simp only[kd];obtain⟨g1,g2⟩:=KD (λj=>l.getD j dd);by_cases hft:f=t
 ·rw[show((f:Int)==(t:Int))=true by rw[hft];simp];simp only[ko]
  congr 1
  refine qHo (s:=nilS) qC9.toTrim g1 (λr=>?_);have:row nilS r=⟨0,0⟩:=by unfold row nilS;split<;>rfl
  rw[this,g2 r];unfold NL;split
  ·rw[UB];by_cases hj:(r+60).toNat<f
   ·exact f3 _ hj
   ·exact t4 _ (by omega) (by omega)
  ·rfl
 ·obtain⟨o,o1,o2,o3⟩:=qGq l (by omega) t t3 FUEL f [] (by rw[FUEL_eq];omega) t2 (by simp);rw[show((f:Int)==(t:Int))=false by rw[ue];omega];simp only[ku];rw[o1,qQ (by omega)];simp only[kd,uu]
  congr 1
  refine qHo ⟨λe=>?_,λ_=>?_,λ_=>?_⟩ g1 (λr=>?_)
  ·have e':o=[]:=e;rw[e'] at o2;simp at o2;omega
  ·show empS (o.getD 0 dd)=false;rw[o3 0 (by omega),qBc];exact f4 (by omega)
  ·show empS (o.getD (o.length-1) dd)=false;rw[o2,o3 _ (by omega),qBc,show f+(t-f-1)=t-1 by omega];exact t5 (by omega)
  ·rw[g2 r];unfold row NL;simp only;by_cases c1:r< -60+(f:Int)
   ·rw[if_pos c1];split
    ·rw[UB (f3 _ (by omega))]
    ·rfl
   ·rw[if_neg c1];by_cases c2:(r-(-60+(f:Int))).toNat<t-f
    ·rw[o3 _ c2,if_pos (by omega)]
     congr 2
     omega
    ·rw[qBi (by omega)];split
     ·rw[UB (t4 _ (by omega) (by omega))];rfl
     ·rfl
def mxS (x y:Span):Span:=⟨imax x.A y.A,imin x.B y.B⟩
theorem qK3 (x y:Span):SI x y=some (nrm (mxS x y)):=by
 unfold SI nrm mxS empS;simp only[ge_iff_le];cases decide (imin x.B y.B<=imax x.A y.A)<;>rfl
noncomputable def zN (a b:qC):qC:=GH (λj=>mxS (row a ((j:Int)-60)) (row b ((j:Int)-60)))
theorem qAI {g g':Nat->Span} (h:∀j,j<120->nrm (g j)=nrm (g' j)):GH g=GH g':=by
 refine qHo (KD g).1 (KD g').1 (λr=>?_);rw[(KD g).2,(KD g').2];unfold NL;split
 ·exact h _ (by omega)
 ·rfl
theorem meet_eq {a b:qC} (ha:VS a) (hb:VS b):WI a b=some (zN a b):=by
 have m1:∀r:Int,-60<=r->r<60->YV r a b=some (nrm (mxS (row a r) (row b r))):=λr h1 h2=>by
  unfold YV;rw[(qJk ha h1 h2).1,(qJk hb h1 h2).1];simp only[kd,qK3]
 unfold WI zN;rw[qAI (g':=λj=>nrm (mxS (row a ((j:Int)-60)) (row b ((j:Int)-60)))) (λj _=>(nrm_nrm _).symm)];refine qId (λj=>nrm (mxS (row a ((j:Int)-60)) (row b ((j:Int)-60)))) (zK a b) (λn x u w l hx=>?_) (λn u w l=>?_)
 ·rw[zK,kg (show(x:Int)-60<60 by omega),m1 _ (by omega) (by omega)];simp only[ko,kd,JX,WL,yT]
 ·rw[zK];rfl
theorem qMI {a b:qC} (ha:VS a) (hb:VS b):((WV a b FUEL [] (-60)).bind λo=>(JD (-60) o).bind λv=>some (qC.mk v.Low v.Rows))=some (zN a b):=by
 have k:=SR (List.range 120) (λn (l:List Span) x=>WV a b n l x) (λx=>(x:Int)-60) (λx (_:Nat) l=>l++[mxS (row a ((x:Int)-60)) (row b ((x:Int)-60))]) (λl=>l) (λx l=>l.length=x) (by simp)
  (λn x l hx hi=>by
   have hx':x<120:=by simpa using hx
   refine⟨?_,by simp[hi]⟩;rw[WV,kg (show(x:Int)-60<60 by omega),(qJk ha (by omega) (by omega)).2,(qJk hb (by omega) (by omega)).2];simp only[ko,kd];rw[JY (by omega),qQ (by omega),show(x:Int)-60+1=((x+1:Nat):Int)-60 by omega];rfl)
  (λn l _=>by
   have e:(((List.range 120).length:Nat):Int)-60=60:=by rw[uD];rfl
   simp only[e];rw[WV];rfl) (i:= -60) rfl [] rfl
 rw[qAl (λx (_:Nat)=>mxS (row a ((x:Int)-60)) (row b ((x:Int)-60))),uu] at k;rw[k.1];simp only[kd];rw[qGs _ (by rw[qFd];simp)];simp only[kd];have e:GH (λj=>(mapi (λx (_:Nat)=>mxS (row a ((x:Int)-60)) (row b ((x:Int)-60))) 0 (List.range 120)).getD j dd)=zN a b:=by
  unfold zN;refine qAI (λj hj=>?_);rw[qFx _ _ _ _ (by rw[uD];exact hj),kI]
 rw[qC.eta,e]
theorem Meet_eq (a b:qC):YZ a b=some (zN (BT a) (BT b))/\qBP a b=some (zN (BT a) (BT b)):=by
 unfold YZ qBP;rw[(qBu a).1,(qBu a).2,(qBu b).1,(qBu b).2];simp only[kd];rw[meet_eq (qCb a) (qCb b)];exact⟨rfl,qMI (qCb a) (qCb b)⟩
theorem qO1 {x y:Span} (h1:rngS x=true) (h2:rngS y=true):rngS (nrm (mxS x y))=true:=by
 cases he:empS (mxS x y) with
 |true=>rw[UB he];rfl
 |false=>
  rw[qFP he];rw[qFG] at*;have a1:=qDR x.A y.A;have a2:=qDZ x.B y.B;unfold mxS;simp only;omega
theorem qHE {a b:qC} (ha:VS a) (hb:VS b):VS (zN a b):=qKI (λj _=>qO1 (ha.row_rng _) (hb.row_rng _))
theorem qO5 {a b:qC} (ha:VS a) (hb:VS b) (r:Int):row (zN a b) r=nrm (mxS (row a r) (row b r)):=by
 unfold zN;rw[qIf (λr=>mxS (row a r) (row b r))];split
 ·rfl
 ·rw[ha.row_out (by omega),hb.row_out (by omega)];rfl
end Saw
end Go.SL

/- The ring laws' plain mathematics, part 5: repairing. -/
import Derived.Test.YthbamnkheinbgaaGreatDoorSMa9
import Derived.Test.YthbamnkheinbgaaGreatDoorSMa2
set_option linter.unusedVariables false
set_option linter.unusedSimpArgs false
set_option linter.unusedSectionVars false
namespace Go.SL
namespace Saw
section
variable (a :Ring) (g:KP a)
include g
end
def MQ (x y:qC):qC:=bif x.Ok then x else y
def zT (a b:Ring):Ring:=⟨a.Z,(List.range a.Read.length).map λi=>MQ (a.Read.getD i dd) (b.Read.getD i dd)⟩
theorem CR (a b:Ring):(zT a b).Read.length=a.Read.length:=by simp[zT]
theorem qFy (a b:Ring) {i:Nat} (h:i<a.Read.length):(zT a b).Read.getD i dd=MQ (a.Read.getD i dd) (b.Read.getD i dd):=by
 unfold zT;show((List.range a.Read.length).map _).getD i dd=_;rw[ka,kD,uz h];rfl
theorem AF (a b:Ring) (hab:a.Read.length=b.Read.length) (h3:a.Read.length<=1000):∀(n x:Nat) (l:List qC),a.Read.length<x+n->x<=a.Read.length->l.length=a.Read.length->
  (∀j,j<x->l.getD j dd=MQ (a.Read.getD j dd) (b.Read.getD j dd))->(∀j,x<=j->l.getD j dd=a.Read.getD j dd)->zW a b n (x:Int) l=some (zT a b).Read
 |0,x,l,h1,h2,_,_,_=>by omega
 |n+1,x,l,h1,h2,hl,hj1,hj=>by
  unfold zW;by_cases hx:x<a.Read.length
  ·have e1:w64 ((x:Int)+1)=((x+1:Nat):Int):=by rw[SO (by omega) (by omega)];omega
   rw[rg_lt_t hx,TI (by omega) (by omega),TI (n:=b.Read.length) (by omega) (by omega),TI (n:=l.length) (by omega) (by omega)];simp only[ks,kI,JL,e1];cases ho:(a.Read.getD x dd).Ok with
   |true=>
    refine AF a b hab h3 n (x+1) l (by omega) (by omega) hl (λj h=>?_) (λj h=>hj j (by omega));by_cases he:j=x
    ·subst he;rw[hj j (kg _)];unfold MQ;rw[ho];rfl
    ·exact hj1 j (by omega)
   |false=>
    refine AF a b hab h3 n (x+1) _ (by omega) (by omega) (by rw[List.length_set];exact hl) (λj h=>?_) (λj h=>?_)
    ·by_cases he:x=j
     ·subst he;rw[qEh _ (by omega)];unfold MQ;rw[ho];rfl
     ·rw[IE _ he];exact hj1 j (by omega)
    ·rw[IE _ (by omega)];exact hj j (by omega)
  ·rw[rg_lt_f hx];have:l=(zT a b).Read:=qHZ (by rw[CR,hl]) (λj h=>by rw[hj1 j (by omega),qFy a b (by omega)]);rw[this];rfl
def rg_fit (a b:Ring):Prop:=KP a/\KP b/\a.Z=b.Z/\a.Read.length=b.Read.length
theorem qGj (a b:Ring) (h:rg_fit a b):jW a b=some (zT a b,0):=by
 obtain⟨ga,gb,hz,hl⟩:=h;have hn:=ga.hi;unfold jW QZ;have hm:zW a b FUEL 0 a.Read=some (zT a b).Read:=AF a b hl (by omega) FUEL 0 a.Read (by rw[VJ];omega) (by omega) rfl (λj h=>by omega) (λ_ _=>rfl);have z1:(a.Z !=b.Z)=false:=by simp[hz]
 have z2:((a.Read.length:Int) !=(b.Read.length:Int))=false:=by simp[hl]
 simp only[PS,(QA a).2 ga,(QA b).2 gb,kr,kJ,ku,z1,z2,qB1 a (show a.Read.length<=1000 by omega),hm];rfl
section
variable (a :Ring) (g:KP a) (hm:2<=(rg_meas a).length)
include g hm
end
end Saw
end Go.SL

namespace Go.SL
end Go.SL

/- The ring laws' plain mathematics, part 5: repairing. -/
import Derived.Test.YthbamnkheinbgaaGreatDoorSMa9
import Derived.Test.YthbamnkheinbgaaGreatDoorSMa2
set_option linter.unusedVariables false
set_option linter.unusedSimpArgs false
set_option linter.unusedSectionVars false
namespace Go.SL
namespace Saw
section
variable (a :Ring) (g:WQ a)
include g
end
theorem qGZ {a b:Ring} (hz:a.Z=b.Z) (hl:a.Read.length=b.Read.length) (h:∀j,j<a.Read.length->a.Read.getD j dd=b.Read.getD j dd):a=b:=by
 obtain⟨z,l⟩:=a;obtain⟨z',l'⟩:=b;obtain rfl:z=z':=hz;obtain rfl:l=l':=qBj hl h;rfl
theorem qGw {l:List qB} {P:qB->Prop} (h:∀j,j<l.length->P (l.getD j dd)):∀r∈l,P r:=by
 intro r hr;obtain⟨t,ht,he⟩:=uV.1 hr;have:=h t ht
 rwa [ka,ki ht,kA,he] at this
theorem qCq {a:Ring} (g:WQ a) {j:Nat} (hj:j<a.Read.length):JK (a.Read.getD j dd)=0:=by
 refine g.all _ ?_;rw[ka,ki hj];exact uo hj
def XS (x y:qB):qB:=bif x.Ok then x else y
def zM (a b:Ring):Ring:=⟨a.Z,(List.range a.Read.length).map λi=>XS (a.Read.getD i dd) (b.Read.getD i dd)⟩
theorem wY (a b:Ring):(zM a b).Read.length=a.Read.length:=by simp[zM]
theorem PY (a b:Ring) {i:Nat} (h:i<a.Read.length):(zM a b).Read.getD i dd=XS (a.Read.getD i dd) (b.Read.getD i dd):=by
 unfold zM;show((List.range a.Read.length).map _).getD i dd=_;rw[ka,kD,uD h];rfl
theorem SJ (a b:Ring) (hab:a.Read.length=b.Read.length) (h3:a.Read.length<=1000):∀(n x:Nat) (l:List qB),a.Read.length<x+n->x<=a.Read.length->l.length=a.Read.length->
  (∀j,j<x->l.getD j dd=XS (a.Read.getD j dd) (b.Read.getD j dd))->(∀j,x<=j->l.getD j dd=a.Read.getD j dd)->zY a b n (x:Int) l=some (zM a b).Read
 |0,x,l,h1,h2,_,_,_=>by omega
 |n+1,x,l,h1,h2,hl,hj1,hj=>by
  unfold zY;by_cases hx:x<a.Read.length
  ·have e1:w64 ((x:Int)+1)=((x+1:Nat):Int):=by rw[wT (by omega) (by omega)];omega
   rw[NX hx,jR (by omega) (by omega),jR (n:=b.Read.length) (by omega) (by omega),jR (n:=l.length) (by omega) (by omega)];simp only[kr,kH,JY,e1];cases ho:(a.Read.getD x dd).Ok with
   |true=>
    refine SJ a b hab h3 n (x+1) l (by omega) (by omega) hl (λj h=>?_) (λj h=>hj j (by omega));by_cases he:j=x
    ·subst he;rw[hj j (kg _)];unfold XS;rw[ho];rfl
    ·exact hj1 j (by omega)
   |false=>
    refine SJ a b hab h3 n (x+1) _ (by omega) (by omega) (by rw[List.length_set];exact hl) (λj h=>?_) (λj h=>?_)
    ·by_cases he:x=j
     ·subst he;rw[qDr _ (by omega)];unfold XS;rw[ho];rfl
     ·rw[EN _ he];exact hj1 j (by omega)
    ·rw[EN _ (by omega)];exact hj j (by omega)
  ·rw[NY hx];have:l=(zM a b).Read:=qBj (by rw[wY,hl]) (λj h=>by rw[hj1 j (by omega),PY a b (by omega)]);rw[this];rfl
def qHT (a b:Ring):Prop:=WQ a/\WQ b/\a.Z=b.Z/\a.Read.length=b.Read.length
theorem qF4 (a b:Ring) (h:qHT a b):yH a b=some (zM a b,0):=by
 obtain⟨ga,gb,hz,hl⟩:=h;have hn:=ga.hi;unfold yH ZI;have hm:zY a b FUEL 0 a.Read=some (zM a b).Read:=SJ a b hl (by omega) FUEL 0 a.Read (by rw[wM];omega) (by omega) rfl (λj h=>by omega) (λ_ _=>rfl);have z1:(a.Z !=b.Z)=false:=by simp[hz]
 have z2:((a.Read.length:Int) !=(b.Read.length:Int))=false:=by simp[hl]
 simp only[PQ,(QF a).2 ga,(QF b).2 gb,ks,kJ,kq,z1,z2,qBl a (show a.Read.length<=1000 by omega),hm];rfl
theorem rg_merged_good (a b:Ring) (h:qHT a b):WQ (zM a b):=by
 obtain⟨ga,gb,hz,hl⟩:=h;refine⟨by rw[wY];exact ga.lo,by rw[wY];exact ga.hi,ga.z0,ga.z1,qGw λj hj=>?_⟩;rw[wY] at hj;rw[PY a b hj];unfold XS;cases (a.Read.getD j dd).Ok with
 |true=>exact qCq ga hj
 |false=>exact qCq gb (by omega)
theorem qDl (a:Ring):zM a a=a:=qGZ rfl (wY a a) (λj hj=>by
 rw[wY] at hj;rw[PY a a hj];unfold XS;cases (a.Read.getD j dd).Ok<;>rfl)
theorem qF1 {a b:Ring} (hl:a.Read.length=b.Read.length) (h:∀i,i<a.Read.length->rg_okAt a i=true->rg_okAt b i=true):(qM a).length<=(qM b).length:=by
 unfold qM;rw[<-uR,<-uR,<-hl];exact List.countP_mono_left λi hi=>h i (ui.1 hi)
theorem qEv (a:Ring) (h:a.Read.length<=1000):∃L:Nat,wA a=some (((a.Read.length-(qM a).length:Nat):Int),(L:Int))/\L<=a.Read.length:=by
 obtain⟨L,hL,_⟩:=qAL a h;refine⟨L,hL,?_⟩;have hml:=qCR a;have h2:=hL;unfold wA at h2;rw[VW a h] at h2;simp only[ks,PI] at h2;by_cases hm:(qM a).length=0
 ·have:(((qM a).length:Int)==0)=true:=by simp[hm]
  rw[this,kr,wT (by omega) (by omega)] at h2;have:=kB h2;simp only[Prod.mk.injEq] at this;omega
 ·have:(((qM a).length:Int)==0)=false:=uE.2 (by omega);rw[this,kq] at h2;obtain⟨R,e,_,_,t⟩:=WL a h FUEL 0 0 (by rw[wM];omega) (by omega);have e':yJ a (yL (qM a)) FUEL 0 0=some (R:Int):=e;rw[e'] at h2;have:=kB h2;simp only[Prod.mk.injEq] at this;rcases t with t|⟨k,hk,t⟩
  ·omega
  ·have:=HF hk;omega
section
variable (a :Ring) (g:WQ a) (hm:2<=(qM a).length)
include g hm
end
end Saw
end Go.SL

namespace Go.SL
end Go.SL

/- The ring laws' plain mathematics, part 2: the measured readings, their rg_gaps. -/
import Derived.Test.YthbamnkheinbgaaGreatDoorSMa8
set_option linter.unusedVariables false
set_option linter.unusedSimpArgs false
namespace Go.SL
namespace Saw
def rg_okAt (a:Ring) (i:Nat):Bool:=(a.Read.getD i dd).Ok
def rg_meas (a:Ring):List Nat:=(List.range a.Read.length).filter (rg_okAt a)
theorem rg_lt_t {x n:Nat} (h:x<n):decide ((x:Int)<((n:Nat):Int))=true:=kq (by omega)
theorem rg_lt_f {x n:Nat} (h:¬x<n):decide ((x:Int)<((n:Nat):Int))=false:=ki (by omega)
end Saw
end Go.SL

set_option linter.unusedSectionVars false
namespace Go.SL
namespace Saw
section
variable (a :Ring) (r:Int) (h:a.Read.length<=1000)
include h
end
theorem qHZ {α:Type} [Inhabited α] {l t:List α} (h:l.length=t.length) (hj:∀j,j<l.length->l.getD j dd=t.getD j dd):l=t:=by
 apply List.ext_getElem h;intro i h1 h2;have:=hj i h1
 rwa [ka,ka,kp h1,kp h2] at this
theorem qEh {α:Type} [Inhabited α] {l:List α} {x:Nat} (v:α) (h:x<l.length):(l.set x v).getD x dd=v:=by
 rw[ka,List.getElem?_set_self h];rfl
theorem IE {α:Type} [Inhabited α] {l:List α} {x j:Nat} (v:α) (h:x≠j):(l.set x v).getD j dd=l.getD j dd:=by
 rw[ka,uO h,<-ka]
end Saw
end Go.SL

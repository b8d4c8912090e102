/- What the comparison of points gives. -/
import Derived.Test.YtigmogcdifllhaaGreatDoorEMod
import Derived.Test.YtigmogcdifllhaaGreatDoorYa7
set_option linter.unusedVariables false
set_option linter.unusedSimpArgs false
namespace Go.SL
namespace Saw
open Go.Proofs
def cmpPt (p q:qA):Int:=if p.X<q.X then-1 else if q.X<p.X then 1 else if p.Y<q.Y then-1 else if q.Y<p.Y then 1 else 0
theorem qDo (a b:Int):DM a b=some (if a<b then-1 else if b<a then 1 else 0):=by
 have e:∀x:Int,(x !=x)=false:=λx=>by simp
 unfold DM qAe;simp only[kg,e,kr];by_cases h1:a<b
 ·simp[h1]
 ·by_cases h2:b<a<;>simp[h1,h2]
theorem fuel3 :∃n,FUEL=n+3:=⟨FUEL-3,by unfold FUEL;rfl⟩
theorem qNS (a b:Int):qCK [a,b]=some (if a=0 then b else a):=by
 obtain⟨n,hn⟩:=fuel3;unfold qCK;rw[hn];have e1:w64 1=1:=by decide
 have e2:w64 2=2:=by decide
 by_cases ha:a=0
 ·by_cases hb:b=0
  ·subst ha hb;simp[TU,inb,e1,e2]
  ·have hb':(b !=0)=true:=by simp[hb]
   subst ha;simp[TU,inb,e1,e2,hb']
 ·have ha':(a !=0)=true:=by simp[ha]
  simp[TU,inb,e1,e2,ha,ha']
theorem poly_Hull_1_eq (p q:qA):poly_Hull_1 p q=some (cmpPt p q):=by
 unfold poly_Hull_1;rw[qDo,qDo,kg,kg,qNS,kg];unfold cmpPt
 congr 1
 by_cases h1:p.X<q.X
 ·simp[h1]
 ·by_cases h2:q.X<p.X<;>simp[h1,h2]
theorem ltPt (x y:qA):ltOf cmpPt x y=decide (x.X<y.X\/(x.X=y.X/\x.Y<y.Y)):=by
 unfold ltOf cmpPt
 congr 1
 apply propext;by_cases h1:x.X<y.X
 ·simp[h1]
 ·by_cases h2:y.X<x.X
  ·simp[h1,h2];omega
  ·by_cases h3:x.Y<y.Y
   ·simp[h1,h2,h3];omega
   ·by_cases h4:y.Y<x.Y<;>simp[h1,h2,h3,h4]
end Saw
end Go.SL

/- Poly's plain mathematics, part 28: both chords. -/
import Derived.Test.YthbamnkheinbgaaGreatDoorSMa6
import Derived.Test.YthbamnkheinbgaaGreatDoorSMa4
set_option linter.unusedVariables false
set_option linter.unusedSimpArgs false
namespace Go.SL
namespace Saw
structure Walk (pts w:List qA) (m M:qA):Prop where
 left:LeftF pts w
 turns:qIh w
 asc:qDx w
 sub:∀p∈w,p∈pts
 first:w.head? =some m
 last:w.getLast? =some M
theorem ends {s:List qA} (hs:qDx s) (hne:s≠[]):∃m M,m∈s/\M∈s/\(∀p∈s,p=m\/pLt m p)/\(∀p∈s,p=M\/pLt p M):=by
 induction s with
 |nil=>exact absurd rfl hne
 |cons a s ih=>
  obtain⟨h1,h2⟩:=uf.1 hs;by_cases h:s=[]
  ·subst h;exact⟨a,a,by simp,by simp,by simp,by simp⟩
  ·obtain⟨m,M,hm,hM,t1,t2⟩:=ih h2 h;refine⟨a,M,by simp,kL _ hM,λp hp=>?_,λp hp=>?_⟩
   ·rcases uo.1 hp with rfl|hp
    ·exact .inl rfl
    ·exact .inr (h1 p hp)
   ·rcases uo.1 hp with rfl|hp
    ·exact .inr (h1 M hM)
    ·exact t2 p hp
end Saw
end Go.SL

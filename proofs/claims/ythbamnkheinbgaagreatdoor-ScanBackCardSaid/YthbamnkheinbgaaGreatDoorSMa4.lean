/- Section's plain mathematics, part 8: SectionAdds, SectionTurns, SectionCommon. -/
import Derived.Test.YthbamnkheinbgaaGreatDoorSMa3
import Derived.Test.YthbamnkheinbgaaGreatDoorSMa1
import Derived.Test.YthbamnkheinbgaaGreatDoorSMa2
import Derived.Test.YthbamnkheinbgaaGreatDoorPCmp
set_option linter.unusedVariables false
set_option linter.unusedSimpArgs false
namespace Go.SL
namespace Saw
def cross (p q c:qA):Int:=(q.X-p.X)*(c.Y-p.Y)-(c.X-p.X)*(q.Y-p.Y)
abbrev rng (p:qA):Prop:=(-600<=p.X/\p.X<=600)/\(-600<=p.Y/\p.Y<=600)
def pLt (p q:qA):Prop:=p.X<q.X\/(p.X=q.X/\p.Y<q.Y)
instance (p q:qA):Decidable (pLt p q):=inferInstanceAs (Decidable (_\/_))
theorem pt_ext {p q:qA} (h1:p.X=q.X) (h2:p.Y=q.Y):p=q:=by cases p;cases q;simp_all
theorem qBW (p:qA):¬pLt p p:=by unfold pLt;omega
theorem qIb {p q r:qA} (h1:pLt p q) (h2:pLt q r):pLt p r:=by unfold pLt at*;omega
theorem pLt_tri (p q:qA):pLt p q\/p=q\/pLt q p:=by
 by_cases h1:pLt p q
 ·exact .inl h1
 by_cases h2:pLt q p
 ·exact .inr (.inr h2)
 unfold pLt at*;exact .inr (.inl (pt_ext (by omega) (by omega)))
theorem qIZ {p q:qA} (h1:pLt p q):¬pLt q p:=λh2=>qBW _ (qIb h1 h2)
abbrev qDx (l:List qA):Prop:=l.Pairwise pLt
end Saw
end Go.SL

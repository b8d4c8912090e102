/- Section's plain mathematics, part 8: SectionAdds, SectionTurns, SectionCommon. -/
import Derived.Test.YthbamnkheinbgaaGreatDoorSMa3
import Derived.Test.YthbamnkheinbgaaGreatDoorSMa1
import Derived.Test.YthbamnkheinbgaaGreatDoorSMa2
import Derived.Test.YthbamnkheinbgaaGreatDoorPCmp
set_option linter.unusedVariables false
set_option linter.unusedSimpArgs false
namespace Go.SL
namespace Saw
def qBC (p q c:qA):Int:=(q.X-p.X)*(c.Y-p.Y)-(c.X-p.X)*(q.Y-p.Y)
abbrev rng (p:qA):Prop:=(-600<=p.X/\p.X<=600)/\(-600<=p.Y/\p.Y<=600)
def pLt (p q:qA):Prop:=p.X<q.X\/(p.X=q.X/\p.Y<q.Y)
instance (p q:qA):Decidable (pLt p q):=inferInstanceAs (Decidable (_\/_))
abbrev qEU (l:List qA):Prop:=l.Pairwise pLt
end Saw
end Go.SL

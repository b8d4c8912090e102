/- Poly's plain mathematics, part 28: both chords. -/
import Derived.Test.YthbamnkheinbgaaGreatDoorSMa6
import Derived.Test.YthbamnkheinbgaaGreatDoorSMa4
set_option linter.unusedVariables false
set_option linter.unusedSimpArgs false
namespace Go.SL
namespace Saw
structure Walk (pts w:List qA) (m M:qA):Prop where
 left:LeftF pts w
 turns:qG7 w
 asc:qFD w
 sub:∀p∈w,p∈pts
 first:w.head? =some m
 last:w.getLast? =some M
end Saw
end Go.SL

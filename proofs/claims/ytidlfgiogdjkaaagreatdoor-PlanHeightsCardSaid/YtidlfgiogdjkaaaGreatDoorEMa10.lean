/- Edge's plain mathematics over the reference, part 1: the reference's best pieces of a line. -/
import Derived.Test.YtidlfgiogdjkaaaGreatDoorEMa6
set_option linter.unusedVariables false
set_option linter.unusedSimpArgs false
namespace Go.SL
namespace Saw
abbrev Sp :=qIz
theorem qQ8 (s:qF):LE s=some (KG s):=by
 unfold LE KG;rw[(qEv s).2];simp only[Option.bind_some];by_cases h:WV s=0
 ·rw[h];rfl
 ·have:(WV s !=0)=true:=by simpa using h
  rw[this,if_neg h];rfl
end Saw
end Go.SL

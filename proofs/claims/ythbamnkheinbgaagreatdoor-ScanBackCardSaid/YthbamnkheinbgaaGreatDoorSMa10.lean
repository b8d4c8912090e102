/- The ring laws' plain mathematics, part 5: repairing. -/
import Derived.Test.YthbamnkheinbgaaGreatDoorSMa9
import Derived.Test.YthbamnkheinbgaaGreatDoorSMa2
set_option linter.unusedVariables false
set_option linter.unusedSimpArgs false
set_option linter.unusedSectionVars false
namespace Go.SL
namespace Saw
section
variable (a :Ring) (g:YO a)
include g
end
section
variable (a :Ring) (g:YO a) (hm:2<=(rg_meas a).length)
include g hm
end
end Saw
end Go.SL

namespace Go.SL
end Go.SL

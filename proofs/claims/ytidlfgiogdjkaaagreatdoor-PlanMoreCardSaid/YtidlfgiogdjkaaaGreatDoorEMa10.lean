/- PlanMore. -/
import Derived.Test.YtidlfgiogdjkaaaGreatDoorEMa9
set_option linter.unusedVariables false
set_option linter.unusedSimpArgs false
namespace Go.SL.Saw
theorem qKm (a : Law24_Given) (p : Product) {w w' : Prop} (_ : w) (_ : w') : DU a p = some true := by
 rw [qGk, qMw]
 exact qIz a p
end Go.SL.Saw

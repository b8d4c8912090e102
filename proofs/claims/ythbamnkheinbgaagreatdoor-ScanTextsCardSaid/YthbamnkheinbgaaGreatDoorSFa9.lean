import Derived.Test.YthbamnkheinbgaaGreatDoorSBase
set_option linter.unusedVariables false
set_option linter.unusedSimpArgs false
namespace Go.SL
namespace Saw
open Go.Proofs Go.Proofs.Tryz
set_option maxHeartbeats 4000000
end Saw
end Go.SL

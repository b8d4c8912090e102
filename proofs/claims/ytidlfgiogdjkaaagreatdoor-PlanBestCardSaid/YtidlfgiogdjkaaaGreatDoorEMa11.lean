import Derived.Test.YtidlfgiogdjkaaaGreatDoorEMa10
import Derived.Test.YtidlfgiogdjkaaaGreatDoorEMa9
set_option linter.unusedVariables false
set_option linter.unusedSimpArgs false
namespace Go.SL
namespace Saw
end Saw
end Go.SL
namespace Go.SL.Saw
end Go.SL.Saw
namespace Go.SL
namespace Saw
end Saw
end Go.SL

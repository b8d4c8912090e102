import Derived.Test.YtfpgdgmcmkileaaDoorRMod
import Derived.Test.YtfpgdgmcmkileaaDoorProg
set_option linter.unusedVariables false
set_option linter.unusedSimpArgs false
namespace Go.SL
namespace Saw
open Go.Proofs
theorem mixed : Tryd.prog.follows .mixedOrders = true := by kernel_rfl
end Saw
end Go.SL

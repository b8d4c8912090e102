/- The example of the chapter: the best pieces of the SN of the first line. -/
import Derived.Test.YtigmogcdifllhaaGreatDoorEMa12
set_option linter.unusedVariables false
set_option linter.unusedSimpArgs false
namespace Go.SL
namespace Saw
def LG :Line:=⟨120,4,1,[100],[g1r],z120,z120⟩
theorem cut_G :yV LG=some ([⟨0,0⟩],80000000,0):=by kernel_rfl
end Saw
end Go.SL

/- The example of the chapter: the best pieces of the second line. -/
import Derived.Test.YtigmogcdifllhaaGreatDoorEMa12
set_option linter.unusedVariables false
set_option linter.unusedSimpArgs false
namespace Go.SL
namespace Saw
theorem cut_1 :yV LP1=some ([⟨1,0⟩],80000000,0):=by kernel_rfl
end Saw
end Go.SL

/- The example of the chapter: the best pieces of the second line. -/
import Derived.Test.YtigmogcdifllhaaGreatDoorEMa15
set_option linter.unusedVariables false
set_option linter.unusedSimpArgs false
namespace Go.SL.Saw
theorem cut_1 :jV LP1=some ([⟨1,0⟩],80000000,0):=by kernel_rfl
end Go.SL.Saw

import Derived.Test.YtigmogcdifllhaaGreatDoorEMa8
set_option linter.unusedVariables false
set_option linter.unusedSimpArgs false
namespace Go.SL
namespace Saw
theorem cut_1 :jY LP1=some ([⟨1,0⟩],80000000,0):=by kernel_rfl
end Saw
end Go.SL

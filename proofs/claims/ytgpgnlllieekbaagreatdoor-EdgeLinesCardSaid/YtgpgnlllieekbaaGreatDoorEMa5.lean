/- Edge's plain mathematics, part 27: the code's table is the table, and the best pieces. -/
import Derived.Test.YtgpgnlllieekbaaGreatDoorEMa4
set_option linter.unusedVariables false
set_option linter.unusedSimpArgs false
namespace Go.SL
namespace Saw
/-! ### The walk along the best choices -/
abbrev Pt := Span × List Node
/-! ### The strip -/
/-! ### Steps -/
abbrev Sp := qFE
/-! ### The reference's functions -/
end Saw
end Go.SL

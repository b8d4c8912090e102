/- Section's plain mathematics, part 5: Shift, Dropped, Meet, Equal. -/
import Derived.Test.YthbamnkheinbgaaGreatDoorSMa2
set_option linter.unusedVariables false
set_option linter.unusedSimpArgs false
namespace Go.SL
namespace Saw
def mxS (x y:Span):Span:=⟨imax x.A y.A,imin x.B y.B⟩
def lenS (x:Span):Int:=bif empS x then 0 else x.B-x.A
def ml (x y:Span):Int:=lenS (mxS x y)
end Saw
end Go.SL

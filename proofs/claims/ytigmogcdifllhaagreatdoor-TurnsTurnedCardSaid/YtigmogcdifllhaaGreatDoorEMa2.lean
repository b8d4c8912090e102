/- Plain models that this seat's program does not reach. -/
import Derived.Test.YtigmogcdifllhaaGreatDoorEMa1
set_option linter.unusedVariables false
set_option linter.unusedSimpArgs false
namespace Go.SL
namespace Saw
def FQ (a1:List qA):Nat->Int->Rect->Option Rect
 |0,_,_=>none
 |n+1,x4,x5=>
  bif decide (x4<(a1.length:Int)) then
   bif inb x4 a1.length then
    (FQ a1 n) (w64 (x4+1)) (Rect.mk (Span.mk (imin x5.X.A ((a1.getD x4.toNat dd).X)) (imax x5.X.B ((a1.getD x4.toNat dd).X))) (Span.mk (imin x5.Y.A ((a1.getD x4.toNat dd).Y)) (imax x5.Y.B ((a1.getD x4.toNat dd).Y))))
   else none
  else
   some x5
def qKO (a1:List qA):Option Rect:=
 bif (a1.length:Int)==0 then
  some (Rect.mk (Span.mk 0 0) (Span.mk 0 0))
 else
  bif inb 0 a1.length then
   (FQ a1 FUEL 1 (Rect.mk (Span.mk ((a1.getD (0:Int).toNat dd).X) ((a1.getD (0:Int).toNat dd).X)) (Span.mk ((a1.getD (0:Int).toNat dd).Y) ((a1.getD (0:Int).toNat dd).Y)))).bind λo9=>
   some o9
  else none
end Saw
end Go.SL

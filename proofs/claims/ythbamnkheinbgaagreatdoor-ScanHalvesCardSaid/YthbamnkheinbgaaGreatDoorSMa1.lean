/- Plain models that this seat's program does not reach. -/
import Derived.Test.YthbamnkheinbgaaGreatDoorSMod
set_option linter.unusedVariables false
set_option linter.unusedSimpArgs false
namespace Go.SL
namespace Saw
def TT (a1:List qA):Nat->Int->Rect->Option Rect
 |0,_,_=>none
 |n+1,x4,x5=>
  bif decide (x4<(a1.length:Int)) then
   bif inb x4 a1.length then
    (TT a1 n) (w64 (x4+1)) (Rect.mk (Span.mk (imin x5.X.A ((a1.getD x4.toNat dd).X)) (imax x5.X.B ((a1.getD x4.toNat dd).X))) (Span.mk (imin x5.Y.A ((a1.getD x4.toNat dd).Y)) (imax x5.Y.B ((a1.getD x4.toNat dd).Y))))
   else none
  else
   some x5
def qFl (a1:List qA):Option Rect:=
 bif (a1.length:Int)==0 then
  some (Rect.mk (Span.mk 0 0) (Span.mk 0 0))
 else
  bif inb 0 a1.length then
   (TT a1 FUEL 1 (Rect.mk (Span.mk ((a1.getD (0:Int).toNat dd).X) ((a1.getD (0:Int).toNat dd).X)) (Span.mk ((a1.getD (0:Int).toNat dd).Y) ((a1.getD (0:Int).toNat dd).Y)))).bind λo9=>
   some o9
  else none
def ZR (v2:qB):Nat->Int->(List Span)->Option (List Span)
 |0,_,_=>none
 |n+1,x4,l5=>
  bif decide (x4<(v2.Rows.length:Int)) then
   bif inb x4 v2.Rows.length then
    bif room (l5.length+1) 16 then
     (ZR v2 n) (w64 (x4+1)) (l5++([(Span.mk (w64 (0-((v2.Rows.getD x4.toNat dd).B))) (w64 (0-((v2.Rows.getD x4.toNat dd).A))))]:List Span))
    else none
   else none
  else
   some l5
def qFf (a1:qB):Option qB:=
 (RR a1).bind λv2=>
 (ZR v2 FUEL 0 ([]:List Span)).bind λo10=>
 some (qB.mk v2.Low o10)
def YD (v2:qB):Nat->Int->(List Span)->Option (List Span)
 |0,_,_=>none
 |n+1,x4,l5=>
  bif decide (x4≥0) then
   bif inb x4 v2.Rows.length then
    bif room (l5.length+1) 16 then
     (YD v2 n) (w64 (x4-1)) (l5++([(v2.Rows.getD x4.toNat dd)]:List Span))
    else none
   else none
  else
   some l5
def qHI (a1:qB):Option qB:=
 (RR a1).bind λv2=>
 (YD v2 FUEL (w64 ((v2.Rows.length:Int)-1)) ([]:List Span)).bind λo10=>
 some (qB.mk (w64 (0-(w64 (v2.Low+(v2.Rows.length:Int))))) o10)
end Saw
end Go.SL

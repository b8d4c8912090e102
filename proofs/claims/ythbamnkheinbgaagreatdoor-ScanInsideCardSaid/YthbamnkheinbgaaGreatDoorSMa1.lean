/- Plain models that this seat's program does not reach. -/
import Derived.Test.YthbamnkheinbgaaGreatDoorSMod
set_option linter.unusedVariables false
set_option linter.unusedSimpArgs false
namespace Go.SL
namespace Saw
def RC (a1:List qA):Nat->Int->Rect->Option Rect
 |0,_,_=>none
 |n+1,x4,x5=>
  bif decide (x4<(a1.length:Int)) then
   bif inb x4 a1.length then
    (RC a1 n) (w64 (x4+1)) (Rect.mk (Span.mk (imin x5.X.A ((a1.getD x4.toNat dd).X)) (imax x5.X.B ((a1.getD x4.toNat dd).X))) (Span.mk (imin x5.Y.A ((a1.getD x4.toNat dd).Y)) (imax x5.Y.B ((a1.getD x4.toNat dd).Y))))
   else none
  else
   some x5
def qDL (a1:List qA):Option Rect:=
 bif (a1.length:Int)==0 then
  some (Rect.mk (Span.mk 0 0) (Span.mk 0 0))
 else
  bif inb 0 a1.length then
   (RC a1 FUEL 1 (Rect.mk (Span.mk ((a1.getD (0:Int).toNat dd).X) ((a1.getD (0:Int).toNat dd).X)) (Span.mk ((a1.getD (0:Int).toNat dd).Y) ((a1.getD (0:Int).toNat dd).Y)))).bind λo9=>
   some o9
  else none
def OH (x11:Int) (rec_ref09_Has_L2:Bool->Int->Option (Bool⊕Bool)) (x43:Bool):Option (Bool⊕Bool):=
 rec_ref09_Has_L2 x43 (w64 (x11+1))
def wV (x10:Bool) (x11:Int) (rec_ref09_Has_L2:Bool->Int->Option (Bool⊕Bool)) (x41:Bool):Option (Bool⊕Bool):=
 bif x41 then
  OH x11 rec_ref09_Has_L2 (!x10)
 else
  OH x11 rec_ref09_Has_L2 x10
def WB (a1:List qA) (a2:qA) (x10:Bool) (x11:Int) (rec_ref09_Has_L2:Bool->Int->Option (Bool⊕Bool)) (x22:Bool):Option (Bool⊕Bool):=
 bif x22 then
  some (Sum.inl true)
 else
  bif decide (((a1.getD x11.toNat dd).Y)<=a2.Y) then
   bif decide (a2.Y<((a1.getD (Int.tmod (w64 (x11+1)) (a1.length:Int)).toNat dd).Y)) then
    (ZQ (a1.getD x11.toNat dd) (a1.getD (Int.tmod (w64 (x11+1)) (a1.length:Int)).toNat dd) a2).bind λv26=>
    bif decide (v26>0) then
     wV x10 x11 rec_ref09_Has_L2 true
    else
     bif decide (((a1.getD (Int.tmod (w64 (x11+1)) (a1.length:Int)).toNat dd).Y)<=a2.Y) then
      bif decide (a2.Y<((a1.getD x11.toNat dd).Y)) then
       (ZQ (a1.getD x11.toNat dd) (a1.getD (Int.tmod (w64 (x11+1)) (a1.length:Int)).toNat dd) a2).bind λv31=>
       wV x10 x11 rec_ref09_Has_L2 (decide (v31<0))
      else
       wV x10 x11 rec_ref09_Has_L2 false
     else
      wV x10 x11 rec_ref09_Has_L2 false
   else
    bif decide (((a1.getD (Int.tmod (w64 (x11+1)) (a1.length:Int)).toNat dd).Y)<=a2.Y) then
     bif decide (a2.Y<((a1.getD x11.toNat dd).Y)) then
      (ZQ (a1.getD x11.toNat dd) (a1.getD (Int.tmod (w64 (x11+1)) (a1.length:Int)).toNat dd) a2).bind λv35=>
      wV x10 x11 rec_ref09_Has_L2 (decide (v35<0))
     else
      wV x10 x11 rec_ref09_Has_L2 false
    else
     wV x10 x11 rec_ref09_Has_L2 false
  else
   bif decide (((a1.getD (Int.tmod (w64 (x11+1)) (a1.length:Int)).toNat dd).Y)<=a2.Y) then
    bif decide (a2.Y<((a1.getD x11.toNat dd).Y)) then
     (ZQ (a1.getD x11.toNat dd) (a1.getD (Int.tmod (w64 (x11+1)) (a1.length:Int)).toNat dd) a2).bind λv39=>
     wV x10 x11 rec_ref09_Has_L2 (decide (v39<0))
    else
     wV x10 x11 rec_ref09_Has_L2 false
   else
    wV x10 x11 rec_ref09_Has_L2 false
def jY (a1:List qA) (a2:qA):Nat->Bool->Int->Option (Bool⊕Bool)
 |0,_,_=>none
 |n+1,x10,x11=>
  bif decide (x11<(a1.length:Int)) then
   bif inb x11 a1.length then
    bif nz (a1.length:Int) then
     bif inb (Int.tmod (w64 (x11+1)) (a1.length:Int)) a1.length then
      (ZQ (a1.getD x11.toNat dd) (a1.getD (Int.tmod (w64 (x11+1)) (a1.length:Int)).toNat dd) a2).bind λv16=>
      bif v16==0 then
       bif decide ((imin ((a1.getD x11.toNat dd).X) ((a1.getD (Int.tmod (w64 (x11+1)) (a1.length:Int)).toNat dd).X))<=a2.X) then
        bif decide (a2.X<=(imax ((a1.getD x11.toNat dd).X) ((a1.getD (Int.tmod (w64 (x11+1)) (a1.length:Int)).toNat dd).X))) then
         bif decide ((imin ((a1.getD x11.toNat dd).Y) ((a1.getD (Int.tmod (w64 (x11+1)) (a1.length:Int)).toNat dd).Y))<=a2.Y) then
          WB a1 a2 x10 x11 (jY a1 a2 n) (decide (a2.Y<=(imax ((a1.getD x11.toNat dd).Y) ((a1.getD (Int.tmod (w64 (x11+1)) (a1.length:Int)).toNat dd).Y))))
         else
          WB a1 a2 x10 x11 (jY a1 a2 n) false
        else
         WB a1 a2 x10 x11 (jY a1 a2 n) false
       else
        WB a1 a2 x10 x11 (jY a1 a2 n) false
      else
       WB a1 a2 x10 x11 (jY a1 a2 n) false
     else none
    else none
   else none
  else
   some (Sum.inr x10)
def OE (a1:List qA) (a2:qA) (x8:Bool):Option Bool:=
 bif x8 then
  some false
 else
  (jY a1 a2 FUEL false 0).bind λu47=>Sum.elim (λv48=>some v48) (λo45=>
  some o45) u47
def qIh (a1:List qA) (a2:qA):Option Bool:=
 (MY a1).bind λv3=>
 bif v3 !=0 then
  OE a1 a2 true
 else
  (yI ([a2]:List qA)).bind λv6=>
  OE a1 a2 (!v6)
end Saw
end Go.SL

import Derived.Test.YtcppgjcniljkcaaDoorYa5
set_option linter.unusedVariables false
set_option linter.unusedSimpArgs false
namespace Go.SL
namespace Saw

structure Point where
  X : Int
  Y : Int

instance : Inhabited Point := ⟨⟨0, 0⟩⟩

def e_Point (r : Point) : List C := [ci r.X, ci r.Y]

structure Span where
  A : Int
  B : Int

instance : Inhabited Span := ⟨⟨0, 0⟩⟩

def e_Span (r : Span) : List C := [ci r.A, ci r.B]

structure Rect where
  X : Span
  Y : Span

instance : Inhabited Rect := ⟨⟨default, default⟩⟩

def e_Rect (r : Rect) : List C := [ci r.X.A, ci r.X.B, ci r.Y.A, ci r.Y.B]

def tab_turns : List Point := [(Point.mk 1 0), (Point.mk 0 1), (Point.mk (-1) 0), (Point.mk 0 (-1))]

def globs : List (Nat × C) := [(0, .aptr 4 2 (rf e_Point tab_turns))]

/- sawmill/sawmilllaw09.few -/

def law09_few (a1 : List Point) : Option Bool :=
  some (decide (((a1.length : Nat) : Int) ≤ 100))

/- sawmill/sawmilllaw09.pt -/

def law09_pt (a1 : Int) (a2 : Int) : Option Point :=
  some (Point.mk a1 a2)

/- sawmill/poly.within -/

def poly_within_k1 (x3 : Bool) : Option Bool :=
  some x3

def poly_within (a1 : Int) : Option Bool :=
  bif decide (a1 ≥ (-600)) then
    poly_within_k1 (decide (a1 ≤ 600))
  else
    poly_within_k1 false

/- sawmill/poly.inRange -/

def poly_inRange_k2 (x2 : Int) (rec_poly_inRange_L1 : Int → Option (Bool ⊕ Unit)) (x10 : Bool) : Option (Bool ⊕ Unit) :=
  bif x10 then
    some (Sum.inl false)
  else
    rec_poly_inRange_L1 (w64 (x2 + 1))

def poly_inRange_L1 (a1 : List Point) : Nat → Int → Option (Bool ⊕ Unit)
  | 0, _ => none
  | n + 1, x2 =>
    bif decide (x2 < ((a1.length : Nat) : Int)) then
      bif inb x2 a1.length then
        (poly_within ((a1.getD x2.toNat default).X)).bind fun v5 =>
        bif !v5 then
          poly_inRange_k2 x2 (poly_inRange_L1 a1 n) true
        else
          (poly_within ((a1.getD x2.toNat default).Y)).bind fun v8 =>
          poly_inRange_k2 x2 (poly_inRange_L1 a1 n) (!v8)
      else none
    else
      some (Sum.inr ())

def poly_inRange (a1 : List Point) : Option Bool :=
  (poly_inRange_L1 a1 FUEL 0).bind fun u14 => Sum.elim (fun v15 => some v15) (fun o12 =>
  some true) u14

/- sawmill/poly.Area2 -/

def poly_Area2_L2 (a1 : List Point) : Nat → Int → Int → Option Int
  | 0, _, _ => none
  | n + 1, x7, x8 =>
    bif decide (x8 < ((a1.length : Nat) : Int)) then
      bif inb x8 a1.length then
        bif nz ((a1.length : Nat) : Int) then
          bif inb (Int.tmod (w64 (x8 + 1)) ((a1.length : Nat) : Int)) a1.length then
            (poly_Area2_L2 a1 n) (w64 (x7 + (w64 ((w64 (((a1.getD x8.toNat default).X) * ((a1.getD (Int.tmod (w64 (x8 + 1)) ((a1.length : Nat) : Int)).toNat default).Y))) - (w64 (((a1.getD (Int.tmod (w64 (x8 + 1)) ((a1.length : Nat) : Int)).toNat default).X) * ((a1.getD x8.toNat default).Y))))))) (w64 (x8 + 1))
          else none
        else none
      else none
    else
      some x7

def poly_Area2_k1 (a1 : List Point) (x5 : Bool) : Option Int :=
  bif x5 then
    some 0
  else
    (poly_Area2_L2 a1 FUEL 0 0).bind fun o14 =>
    some o14

def poly_Area2 (a1 : List Point) : Option Int :=
  bif decide (((a1.length : Nat) : Int) > 32) then
    poly_Area2_k1 a1 true
  else
    (poly_inRange a1).bind fun v3 =>
    poly_Area2_k1 a1 (!v3)

/- sawmill/poly.Check -/

def poly_Check (a1 : List Point) : Option Int :=
  bif decide (((a1.length : Nat) : Int) < 3) then
    some 3
  else
    bif decide (((a1.length : Nat) : Int) > 32) then
      some 4
    else
      (poly_inRange a1).bind fun v4 =>
      bif !v4 then
        some 9
      else
        (poly_Area2 a1).bind fun v7 =>
        bif v7 == 0 then
          some 19
        else
          some 0

/- sawmill/poly.Bounds -/

def poly_Bounds_L1 (a1 : List Point) : Nat → Int → Rect → Option Rect
  | 0, _, _ => none
  | n + 1, x4, x5 =>
    bif decide (x4 < ((a1.length : Nat) : Int)) then
      bif inb x4 a1.length then
        (poly_Bounds_L1 a1 n) (w64 (x4 + 1)) (Rect.mk (Span.mk (imin x5.X.A ((a1.getD x4.toNat default).X)) (imax x5.X.B ((a1.getD x4.toNat default).X))) (Span.mk (imin x5.Y.A ((a1.getD x4.toNat default).Y)) (imax x5.Y.B ((a1.getD x4.toNat default).Y))))
      else none
    else
      some x5

def poly_Bounds (a1 : List Point) : Option Rect :=
  bif ((a1.length : Nat) : Int) == 0 then
    some (Rect.mk (Span.mk 0 0) (Span.mk 0 0))
  else
    bif inb 0 a1.length then
      (poly_Bounds_L1 a1 FUEL 0 (Rect.mk (Span.mk ((a1.getD (0 : Int).toNat default).X) ((a1.getD (0 : Int).toNat default).X)) (Span.mk ((a1.getD (0 : Int).toNat default).Y) ((a1.getD (0 : Int).toNat default).Y)))).bind fun o9 =>
      some o9
    else none

/- sawmill/poly.canTurn -/

def poly_canTurn_k2 (x2 : Int) (rec_poly_canTurn_L1 : Int → Option (Bool ⊕ Unit)) (x6 : Bool) : Option (Bool ⊕ Unit) :=
  bif x6 then
    some (Sum.inl false)
  else
    rec_poly_canTurn_L1 (w64 (x2 + 1))

def poly_canTurn_L1 (a1 : List Point) : Nat → Int → Option (Bool ⊕ Unit)
  | 0, _ => none
  | n + 1, x2 =>
    bif decide (x2 < ((a1.length : Nat) : Int)) then
      bif inb x2 a1.length then
        bif ((a1.getD x2.toNat default).X) == (-9223372036854775808) then
          poly_canTurn_k2 x2 (poly_canTurn_L1 a1 n) true
        else
          poly_canTurn_k2 x2 (poly_canTurn_L1 a1 n) (((a1.getD x2.toNat default).Y) == (-9223372036854775808))
      else none
    else
      some (Sum.inr ())

def poly_canTurn (a1 : List Point) : Option Bool :=
  (poly_canTurn_L1 a1 FUEL 0).bind fun u10 => Sum.elim (fun v11 => some v11) (fun o8 =>
  some true) u10

/- sawmill/poly.Turn -/

def poly_Turn_L1 (a1 : List Point) (a2 : Int) : Nat → (List Point) → Int → Option (List Point)
  | 0, _, _ => none
  | n + 1, l8, x9 =>
    bif decide (x9 < ((a1.length : Nat) : Int)) then
      bif inb x9 a1.length then
        bif inb x9 l8.length then
          (poly_Turn_L1 a1 a2 n) (l8.set x9.toNat (Point.mk (w64 ((w64 (((tab_turns.getD (Int.tmod (w64 ((Int.tmod a2 4) + 4)) 4).toNat default).X) * ((a1.getD x9.toNat default).X))) - (w64 (((tab_turns.getD (Int.tmod (w64 ((Int.tmod a2 4) + 4)) 4).toNat default).Y) * ((a1.getD x9.toNat default).Y))))) (w64 ((w64 (((tab_turns.getD (Int.tmod (w64 ((Int.tmod a2 4) + 4)) 4).toNat default).Y) * ((a1.getD x9.toNat default).X))) + (w64 (((tab_turns.getD (Int.tmod (w64 ((Int.tmod a2 4) + 4)) 4).toNat default).X) * ((a1.getD x9.toNat default).Y))))))) (w64 (x9 + 1))
        else none
      else none
    else
      some l8

def poly_Turn (a1 : List Point) (a2 : Int) : Option (List Point) :=
  (poly_canTurn a1).bind fun v3 =>
  bif !v3 then
    some ([] : List Point)
  else
    bif inb (Int.tmod (w64 ((Int.tmod a2 4) + 4)) 4) 4 then
      bif mkOk ((a1.length : Nat) : Int) 16 then
        (poly_Turn_L1 a1 a2 FUEL (List.replicate (((a1.length : Nat) : Int).toNat) (Point.mk 0 0)) 0).bind fun o14 =>
        some o14
      else none
    else none

/- sawmill/sawmillref09.Same -/

def ref09_Same_L1 (a1 : List Point) (a2 : List Point) : Nat → Int → Option (Bool ⊕ Unit)
  | 0, _ => none
  | n + 1, x4 =>
    bif decide (x4 < ((a1.length : Nat) : Int)) then
      bif inb x4 a1.length then
        bif inb x4 a2.length then
          bif !((((a1.getD x4.toNat default).X) == ((a2.getD x4.toNat default).X)) && ((((a1.getD x4.toNat default).Y) == ((a2.getD x4.toNat default).Y)) && true)) then
            some (Sum.inl false)
          else
            (ref09_Same_L1 a1 a2 n) (w64 (x4 + 1))
        else none
      else none
    else
      some (Sum.inr ())

def ref09_Same (a1 : List Point) (a2 : List Point) : Option Bool :=
  bif ((a1.length : Nat) : Int) != ((a2.length : Nat) : Int) then
    some false
  else
    (ref09_Same_L1 a1 a2 FUEL 0).bind fun u11 => Sum.elim (fun v12 => some v12) (fun o9 =>
    some true) u11

/- sawmill/poly.Mirror -/

def poly_Mirror_L1 (a1 : List Point) : Nat → (List Point) → Int → Option (List Point)
  | 0, _, _ => none
  | n + 1, l6, x7 =>
    bif decide (x7 < ((a1.length : Nat) : Int)) then
      bif inb x7 a1.length then
        bif inb (w64 ((w64 (((a1.length : Nat) : Int) - 1)) - x7)) l6.length then
          (poly_Mirror_L1 a1 n) (l6.set ((w64 ((w64 (((a1.length : Nat) : Int) - 1)) - x7)).toNat) (Point.mk (w64 (0 - ((a1.getD x7.toNat default).X))) ((a1.getD x7.toNat default).Y))) (w64 (x7 + 1))
        else none
      else none
    else
      some l6

def poly_Mirror (a1 : List Point) : Option (List Point) :=
  (poly_canTurn a1).bind fun v2 =>
  bif !v2 then
    some ([] : List Point)
  else
    bif mkOk ((a1.length : Nat) : Int) 16 then
      (poly_Mirror_L1 a1 FUEL (List.replicate (((a1.length : Nat) : Int).toNat) (Point.mk 0 0)) 0).bind fun o12 =>
      some o12
    else none

/- sawmill/poly.cross -/

def poly_cross (a1 : Point) (a2 : Point) (a3 : Point) : Option Int :=
  some (w64 ((w64 ((w64 (a2.X - a1.X)) * (w64 (a3.Y - a1.Y)))) - (w64 ((w64 (a3.X - a1.X)) * (w64 (a2.Y - a1.Y))))))

/- sawmill/poly.onEdge -/

def poly_onEdge_k1 (x10 : Bool) : Option Bool :=
  some x10

def poly_onEdge (a1 : Point) (a2 : Point) (a3 : Point) : Option Bool :=
  (poly_cross a1 a2 a3).bind fun v4 =>
  bif v4 == 0 then
    bif decide ((imin a1.X a2.X) ≤ a3.X) then
      bif decide (a3.X ≤ (imax a1.X a2.X)) then
        bif decide ((imin a1.Y a2.Y) ≤ a3.Y) then
          poly_onEdge_k1 (decide (a3.Y ≤ (imax a1.Y a2.Y)))
        else
          poly_onEdge_k1 false
      else
        poly_onEdge_k1 false
    else
      poly_onEdge_k1 false
  else
    poly_onEdge_k1 false

/- sawmill/poly.Has -/

def poly_Has_k5 (x14 : Int) (rec_poly_Has_L2 : Bool → Int → Option (Bool ⊕ Bool)) (x31 : Bool) : Option (Bool ⊕ Bool) :=
  rec_poly_Has_L2 x31 (w64 (x14 + 1))

def poly_Has_k4 (x13 : Bool) (x14 : Int) (rec_poly_Has_L2 : Bool → Int → Option (Bool ⊕ Bool)) (x29 : Bool) : Option (Bool ⊕ Bool) :=
  bif x29 then
    poly_Has_k5 x14 rec_poly_Has_L2 (!x13)
  else
    poly_Has_k5 x14 rec_poly_Has_L2 x13

def poly_Has_k3 (a2 : Point) (x13 : Bool) (x14 : Int) (rec_poly_Has_L2 : Bool → Int → Option (Bool ⊕ Bool)) (x23 : Point) (x24 : Point) : Option (Bool ⊕ Bool) :=
  bif decide (x24.Y ≤ a2.Y) then
    bif decide (a2.Y < x23.Y) then
      (poly_cross x24 x23 a2).bind fun v27 =>
      poly_Has_k4 x13 x14 rec_poly_Has_L2 (decide (v27 > 0))
    else
      poly_Has_k4 x13 x14 rec_poly_Has_L2 false
  else
    poly_Has_k4 x13 x14 rec_poly_Has_L2 false

def poly_Has_L2 (a1 : List Point) (a2 : Point) : Nat → Bool → Int → Option (Bool ⊕ Bool)
  | 0, _, _ => none
  | n + 1, x13, x14 =>
    bif decide (x14 < ((a1.length : Nat) : Int)) then
      bif inb x14 a1.length then
        bif nz ((a1.length : Nat) : Int) then
          bif inb (Int.tmod (w64 (x14 + 1)) ((a1.length : Nat) : Int)) a1.length then
            (poly_onEdge (a1.getD x14.toNat default) (a1.getD (Int.tmod (w64 (x14 + 1)) ((a1.length : Nat) : Int)).toNat default) a2).bind fun v19 =>
            bif v19 then
              some (Sum.inl true)
            else
              bif decide (((a1.getD x14.toNat default).Y) > ((a1.getD (Int.tmod (w64 (x14 + 1)) ((a1.length : Nat) : Int)).toNat default).Y)) then
                poly_Has_k3 a2 x13 x14 (poly_Has_L2 a1 a2 n) (a1.getD x14.toNat default) (a1.getD (Int.tmod (w64 (x14 + 1)) ((a1.length : Nat) : Int)).toNat default)
              else
                poly_Has_k3 a2 x13 x14 (poly_Has_L2 a1 a2 n) (a1.getD (Int.tmod (w64 (x14 + 1)) ((a1.length : Nat) : Int)).toNat default) (a1.getD x14.toNat default)
          else none
        else none
      else none
    else
      some (Sum.inr x13)

def poly_Has_k1 (a1 : List Point) (a2 : Point) (x11 : Bool) : Option Bool :=
  bif x11 then
    some false
  else
    (poly_Has_L2 a1 a2 FUEL false 0).bind fun u35 => Sum.elim (fun v36 => some v36) (fun o33 =>
    some o33) u35

def poly_Has (a1 : List Point) (a2 : Point) : Option Bool :=
  (poly_Check a1).bind fun v3 =>
  bif v3 != 0 then
    poly_Has_k1 a1 a2 true
  else
    (poly_within a2.X).bind fun v6 =>
    bif !v6 then
      poly_Has_k1 a1 a2 true
    else
      (poly_within a2.Y).bind fun v9 =>
      poly_Has_k1 a1 a2 (!v9)

/- slices.Clone[[]sawmill/api.Point,sawmill/api.Point] -/

def slices_Clone_SPoint (a1 : List Point) : Option (List Point) :=
  bif room a1.length 16 then some a1 else none

/- cmp.isNaN[int] -/

def cmp_isNaN_i64 (a1 : Int) : Option Bool :=
  some (a1 != a1)

/- cmp.Compare[int] -/

def cmp_Compare_i64 (a1 : Int) (a2 : Int) : Option Int :=
  (cmp_isNaN_i64 a1).bind fun v3 =>
  (cmp_isNaN_i64 a2).bind fun v5 =>
  bif v3 then
    bif v5 then
      some 0
    else
      some (-1)
  else
    bif v5 then
      some 1
    else
      bif decide (a1 < a2) then
        some (-1)
      else
        bif decide (a1 > a2) then
          some 1
        else
          some 0

/- cmp.Or[int] -/

def cmp_Or_Si64_L1 (a1 : List Int) : Nat → Int → Option (Int ⊕ Unit)
  | 0, _ => none
  | n + 1, x2 =>
    bif decide (x2 < ((a1.length : Nat) : Int)) then
      bif inb x2 a1.length then
        bif (a1.getD x2.toNat default) != 0 then
          some (Sum.inl (a1.getD x2.toNat default))
        else
          (cmp_Or_Si64_L1 a1 n) (w64 (x2 + 1))
      else none
    else
      some (Sum.inr ())

def cmp_Or_Si64 (a1 : List Int) : Option Int :=
  (cmp_Or_Si64_L1 a1 FUEL 0).bind fun u8 => Sum.elim (fun v9 => some v9) (fun o6 =>
  some 0) u8

/- sawmill/poly.Hull$1 -/

def poly_Hull_1 (a1 : Point) (a2 : Point) : Option Int :=
  (cmp_Compare_i64 a1.X a2.X).bind fun v3 =>
  (cmp_Compare_i64 a1.Y a2.Y).bind fun v5 =>
  (cmp_Or_Si64 ([v3, v5] : List Int)).bind fun v7 =>
  some v7

/- slices.SortFunc[[]sawmill/api.Point,sawmill/api.Point] -/

def slices_SortFunc_SPoint (a1 : List Point) : Option (List Point) :=
  bif sortOk a1.length then some (sortBy poly_Hull_1 a1) else none

/- slices.Compact[[]sawmill/api.Point,sawmill/api.Point] -/

def slices_Compact_SPoint_k3 (x12 : Int) (rec_slices_Compact_SPoint_L2 : (List Point) → Int → Int → Option ((List Point) × Int)) (l19 : List Point) (x20 : Int) : Option ((List Point) × Int) :=
  rec_slices_Compact_SPoint_L2 l19 x20 (w64 (x12 + 1))

def slices_Compact_SPoint_L2 (l3 : List Point) (x4 : Int) : Nat → (List Point) → Int → Int → Option ((List Point) × Int)
  | 0, _, _, _ => none
  | n + 1, l10, x11, x12 =>
    bif decide (x12 < (((l3.length - x4.toNat) : Nat) : Int)) then
      bif inb x12 (l3.length - x4.toNat) then
        bif Nat.ble (x4.toNat + (l3.length - x4.toNat)) l10.length then
          bif inb (w64 (x12 - 1)) (l3.length - x4.toNat) then
            bif !((((l10.getD (x4.toNat + x12.toNat) default).X) == ((l10.getD (x4.toNat + ((w64 (x12 - 1)).toNat)) default).X)) && ((((l10.getD (x4.toNat + x12.toNat) default).Y) == ((l10.getD (x4.toNat + ((w64 (x12 - 1)).toNat)) default).Y)) && true)) then
              bif inb x11 l10.length then
                slices_Compact_SPoint_k3 x12 (slices_Compact_SPoint_L2 l3 x4 n) (l10.set x11.toNat (l10.getD (x4.toNat + x12.toNat) default)) (w64 (x11 + 1))
              else none
            else
              slices_Compact_SPoint_k3 x12 (slices_Compact_SPoint_L2 l3 x4 n) l10 x11
          else none
        else none
      else none
    else
      some (l10, x11)

def slices_Compact_SPoint_L1 : Nat → (List Point) → Int → Option (((List Point) × (List Point)) ⊕ (List Point))
  | 0, _, _ => none
  | n + 1, l3, x4 =>
    bif decide (x4 < ((l3.length : Nat) : Int)) then
      bif inb x4 l3.length then
        bif inb (w64 (x4 - 1)) l3.length then
          bif ((((l3.getD x4.toNat default).X) == ((l3.getD ((w64 (x4 - 1)).toNat) default).X)) && ((((l3.getD x4.toNat default).Y) == ((l3.getD ((w64 (x4 - 1)).toNat) default).Y)) && true)) then
            bif slOk x4 ((l3.length : Nat) : Int) l3.length then
              (slices_Compact_SPoint_L2 l3 x4 FUEL l3 x4 1).bind fun o23 =>
              bif slOk o23.2 ((o23.1.length : Nat) : Int) o23.1.length then
                bif slOk 0 o23.2 o23.1.length then
                  some (Sum.inl ((o23.1.take o23.2.toNat), (o23.1.take o23.2.toNat)))
                else none
              else none
            else none
          else
            (slices_Compact_SPoint_L1 n) l3 (w64 (x4 + 1))
        else none
      else none
    else
      some (Sum.inr l3)

def slices_Compact_SPoint (a1 : List Point) : Option ((List Point) × (List Point)) :=
  bif decide (((a1.length : Nat) : Int) < 2) then
    some (a1, a1)
  else
    (slices_Compact_SPoint_L1 FUEL a1 1).bind fun u30 => Sum.elim (fun v31 => some v31) (fun o28 =>
    some (o28, o28)) u30

/- sawmill/poly.chain -/

def poly_chain_k3 (l6 : List Point) (rec_poly_chain_L2 : (List Point) → Option (List Point)) (x12 : Bool) : Option (List Point) :=
  bif x12 then
    bif slOk 0 (w64 (((l6.length : Nat) : Int) - 1)) l6.length then
      rec_poly_chain_L2 (l6.take ((w64 (((l6.length : Nat) : Int) - 1)).toNat))
    else none
  else
    some l6

def poly_chain_L2 (a1 : List Point) (x3 : Int) : Nat → (List Point) → Option (List Point)
  | 0, _ => none
  | n + 1, l6 =>
    bif decide (((l6.length : Nat) : Int) ≥ 2) then
      bif inb (w64 (((l6.length : Nat) : Int) - 2)) l6.length then
        bif inb (w64 (((l6.length : Nat) : Int) - 1)) l6.length then
          (poly_cross (l6.getD ((w64 (((l6.length : Nat) : Int) - 2)).toNat) default) (l6.getD ((w64 (((l6.length : Nat) : Int) - 1)).toNat) default) (a1.getD x3.toNat default)).bind fun v10 =>
          poly_chain_k3 l6 (poly_chain_L2 a1 x3 n) (decide (v10 ≤ 0))
        else none
      else none
    else
      poly_chain_k3 l6 (poly_chain_L2 a1 x3 n) false

def poly_chain_L1 (a1 : List Point) : Nat → (List Point) → Int → Option (List Point)
  | 0, _, _ => none
  | n + 1, l2, x3 =>
    bif decide (x3 < ((a1.length : Nat) : Int)) then
      bif inb x3 a1.length then
        (poly_chain_L2 a1 x3 FUEL l2).bind fun o16 =>
        bif room (o16.length + 1) 16 then
          (poly_chain_L1 a1 n) (o16 ++ ([(a1.getD x3.toNat default)] : List Point)) (w64 (x3 + 1))
        else none
      else none
    else
      some l2

def poly_chain (a1 : List Point) : Option (List Point) :=
  (poly_chain_L1 a1 FUEL ([] : List Point) 0).bind fun o20 =>
  bif slOk 0 (w64 (((o20.length : Nat) : Int) - 1)) o20.length then
    some (o20.take ((w64 (((o20.length : Nat) : Int) - 1)).toNat))
  else none

/- slices.Reverse[[]sawmill/api.Point,sawmill/api.Point] -/

def slices_Reverse_SPoint_L1 : Nat → (List Point) → Int → Int → Option (List Point)
  | 0, _, _, _ => none
  | n + 1, l2, x3, x4 =>
    bif decide (x3 < x4) then
      bif inb x4 l2.length then
        bif inb x3 l2.length then
          (slices_Reverse_SPoint_L1 n) ((l2.set x3.toNat (l2.getD x4.toNat default)).set x4.toNat (l2.getD x3.toNat default)) (w64 (x3 + 1)) (w64 (x4 - 1))
        else none
      else none
    else
      some l2

def slices_Reverse_SPoint (a1 : List Point) : Option (List Point) :=
  (slices_Reverse_SPoint_L1 FUEL a1 0 (w64 (((a1.length : Nat) : Int) - 1))).bind fun o9 =>
  some o9

/- sawmill/poly.Hull -/

def poly_Hull_k1 (a1 : List Point) (x6 : Bool) : Option (List Point) :=
  bif x6 then
    some ([] : List Point)
  else
    (slices_Clone_SPoint a1).bind fun v8 =>
    (slices_SortFunc_SPoint v8).bind fun v10 =>
    bif v10.length == v8.length then
      (slices_Compact_SPoint v10).bind fun v13 =>
      (poly_chain v13.2).bind fun v15 =>
      (slices_Reverse_SPoint v13.2).bind fun v17 =>
      bif v17.length == v13.2.length then
        (poly_chain v17).bind fun v20 =>
        bif room (v15.length + v20.length) 16 then
          bif decide ((((v15.length + v20.length) : Nat) : Int) < 3) then
            some ([] : List Point)
          else
            some (v15 ++ v20)
        else none
      else none
    else none

def poly_Hull (a1 : List Point) : Option (List Point) :=
  bif decide (((a1.length : Nat) : Int) < 3) then
    poly_Hull_k1 a1 true
  else
    bif decide (((a1.length : Nat) : Int) > 32) then
      poly_Hull_k1 a1 true
    else
      (poly_inRange a1).bind fun v4 =>
      poly_Hull_k1 a1 (!v4)

/- sawmill/poly.floor -/

def poly_floor_k1 (x5 : Int) : Option Int :=
  some x5

def poly_floor (a1 : Int) (a2 : Int) : Option Int :=
  bif nz a2 then
    bif decide ((Int.tmod a1 a2) < 0) then
      poly_floor_k1 (w64 ((w64 (Int.tdiv a1 a2)) - 1))
    else
      poly_floor_k1 (w64 (Int.tdiv a1 a2))
  else none

/- sawmill/poly.Chord$1 -/

def poly_Chord_1_k4 (x6 : Int) (rec_poly_Chord_1_L1 : Int → Int → Int → Option (Int × Int)) (x23 : Int) (x24 : Int) : Option (Int × Int) :=
  rec_poly_Chord_1_L1 x23 x24 (w64 (x6 + 1))

def poly_Chord_1_k3 (a1 : Int) (a3 : List Point) (x4 : Int) (x5 : Int) (x6 : Int) (rec_poly_Chord_1_L1 : Int → Int → Int → Option (Int × Int)) (x19 : Bool) : Option (Int × Int) :=
  bif x19 then
    (poly_floor (w64 ((w64 (((a3.getD ((Int.tmod (w64 (x6 + 1)) ((a3.length : Nat) : Int)).toNat) default).X) - ((a3.getD x6.toNat default).X))) * (w64 (a1 - ((a3.getD ((Int.tmod (w64 (x6 + 1)) ((a3.length : Nat) : Int)).toNat) default).Y))))) (w64 (((a3.getD x6.toNat default).Y) - ((a3.getD ((Int.tmod (w64 (x6 + 1)) ((a3.length : Nat) : Int)).toNat) default).Y)))).bind fun v21 =>
    poly_Chord_1_k4 x6 rec_poly_Chord_1_L1 (w64 (((a3.getD ((Int.tmod (w64 (x6 + 1)) ((a3.length : Nat) : Int)).toNat) default).X) - v21)) x5
  else
    poly_Chord_1_k4 x6 rec_poly_Chord_1_L1 x4 x5

def poly_Chord_1_k2 (a1 : Int) (a3 : List Point) (x4 : Int) (x5 : Int) (x6 : Int) (rec_poly_Chord_1_L1 : Int → Int → Int → Option (Int × Int)) (x13 : Bool) : Option (Int × Int) :=
  bif x13 then
    (poly_floor (w64 ((w64 (((a3.getD ((Int.tmod (w64 (x6 + 1)) ((a3.length : Nat) : Int)).toNat) default).X) - ((a3.getD x6.toNat default).X))) * (w64 (a1 - ((a3.getD x6.toNat default).Y))))) (w64 (((a3.getD ((Int.tmod (w64 (x6 + 1)) ((a3.length : Nat) : Int)).toNat) default).Y) - ((a3.getD x6.toNat default).Y)))).bind fun v15 =>
    poly_Chord_1_k4 x6 rec_poly_Chord_1_L1 x4 (w64 (((a3.getD x6.toNat default).X) + v15))
  else
    bif decide (((a3.getD x6.toNat default).Y) > ((a3.getD ((Int.tmod (w64 (x6 + 1)) ((a3.length : Nat) : Int)).toNat) default).Y)) then
      bif decide (((a3.getD ((Int.tmod (w64 (x6 + 1)) ((a3.length : Nat) : Int)).toNat) default).Y) ≤ a1) then
        poly_Chord_1_k3 a1 a3 x4 x5 x6 rec_poly_Chord_1_L1 (decide (a1 ≤ ((a3.getD x6.toNat default).Y)))
      else
        poly_Chord_1_k3 a1 a3 x4 x5 x6 rec_poly_Chord_1_L1 false
    else
      poly_Chord_1_k3 a1 a3 x4 x5 x6 rec_poly_Chord_1_L1 false

def poly_Chord_1_L1 (a1 : Int) (a3 : List Point) : Nat → Int → Int → Int → Option (Int × Int)
  | 0, _, _, _ => none
  | n + 1, x4, x5, x6 =>
    bif decide (x6 < ((a3.length : Nat) : Int)) then
      bif inb x6 a3.length then
        bif nz ((a3.length : Nat) : Int) then
          bif inb (Int.tmod (w64 (x6 + 1)) ((a3.length : Nat) : Int)) a3.length then
            bif decide (((a3.getD x6.toNat default).Y) < ((a3.getD ((Int.tmod (w64 (x6 + 1)) ((a3.length : Nat) : Int)).toNat) default).Y)) then
              bif decide (((a3.getD x6.toNat default).Y) ≤ a1) then
                poly_Chord_1_k2 a1 a3 x4 x5 x6 (poly_Chord_1_L1 a1 a3 n) (decide (a1 ≤ ((a3.getD ((Int.tmod (w64 (x6 + 1)) ((a3.length : Nat) : Int)).toNat) default).Y)))
              else
                poly_Chord_1_k2 a1 a3 x4 x5 x6 (poly_Chord_1_L1 a1 a3 n) false
            else
              poly_Chord_1_k2 a1 a3 x4 x5 x6 (poly_Chord_1_L1 a1 a3 n) false
          else none
        else none
      else none
    else
      some (x4, x5)

def poly_Chord_1 (a1 : Int) (a2 : Rect) (a3 : List Point) : Option (Int × Int) :=
  (poly_Chord_1_L1 a1 a3 FUEL a2.X.A a2.X.B 0).bind fun o27 =>
  some (o27.1, o27.2)

/- sawmill/poly.Chord -/

def poly_Chord_k1 (a2 : Int) (a3 : Int) (v4 : (List Point)) (v6 : Rect) (x11 : Bool) : Option Span :=
  bif x11 then
    some (Span.mk 0 0)
  else
    (poly_Chord_1 a2 v6 v4).bind fun v13 =>
    (poly_Chord_1 a3 v6 v4).bind fun v15 =>
    bif decide ((imax v13.1 v15.1) ≥ (imin v13.2 v15.2)) then
      some (Span.mk 0 0)
    else
      some (Span.mk (imax v13.1 v15.1) (imin v13.2 v15.2))

def poly_Chord (a1 : List Point) (a2 : Int) (a3 : Int) : Option Span :=
  (poly_Hull a1).bind fun v4 =>
  (poly_Bounds v4).bind fun v6 =>
  bif ((v4.length : Nat) : Int) == 0 then
    poly_Chord_k1 a2 a3 v4 v6 true
  else
    bif decide (a2 ≥ a3) then
      poly_Chord_k1 a2 a3 v4 v6 true
    else
      bif decide (a2 < v6.Y.A) then
        poly_Chord_k1 a2 a3 v4 v6 true
      else
        poly_Chord_k1 a2 a3 v4 v6 (decide (a3 > v6.Y.B))

/- sawmill/sawmilllaw09.awake -/

def law09_awake_k1 (x94 : Bool) : Option Bool :=
  some x94

def law09_awake : Option Bool :=
  (law09_pt 0 0).bind fun v1 =>
  (law09_pt 4 0).bind fun v3 =>
  (law09_pt 0 4).bind fun v5 =>
  (law09_pt 0 0).bind fun v7 =>
  (law09_pt 0 3).bind fun v9 =>
  (law09_pt 4 0).bind fun v11 =>
  (law09_pt 0 0).bind fun v13 =>
  (law09_pt 2 0).bind fun v15 =>
  (law09_pt 4 0).bind fun v17 =>
  (law09_pt 1 1).bind fun v19 =>
  (law09_pt 4 4).bind fun v21 =>
  (law09_pt 0 0).bind fun v23 =>
  (law09_pt 10 0).bind fun v25 =>
  (law09_pt 10 10).bind fun v27 =>
  (law09_pt 0 10).bind fun v29 =>
  (law09_pt 5 15).bind fun v31 =>
  (poly_Check ([v1, v3, v5] : List Point)).bind fun v33 =>
  bif v33 == 0 then
    bif slOk 0 2 ([v1, v3, v5] : List Point).length then
      (poly_Check (([v1, v3, v5] : List Point).take ((2 : Int).toNat))).bind fun v37 =>
      bif v37 == 3 then
        (poly_Area2 ([v7, v9, v11] : List Point)).bind fun v40 =>
        bif v40 == (-12) then
          (poly_Bounds ([v23, v25, v27, v29, v31] : List Point)).bind fun v43 =>
          bif (((v43.X.A == 0) && ((v43.X.B == 10) && true)) && (((v43.Y.A == 0) && ((v43.Y.B == 15) && true)) && true)) then
            (law09_pt 3 1).bind fun v46 =>
            (poly_Turn ([v46] : List Point) (-1)).bind fun v48 =>
            (law09_pt 1 (-3)).bind fun v50 =>
            (ref09_Same v48 ([v50] : List Point)).bind fun v52 =>
            bif v52 then
              (poly_Mirror ([v7, v9, v11] : List Point)).bind fun v55 =>
              (law09_pt (-4) 0).bind fun v57 =>
              (law09_pt 0 3).bind fun v59 =>
              (law09_pt 0 0).bind fun v61 =>
              (ref09_Same v55 ([v57, v59, v61] : List Point)).bind fun v63 =>
              bif v63 then
                (law09_pt 2 2).bind fun v66 =>
                (poly_Has ([v1, v3, v5] : List Point) v66).bind fun v68 =>
                bif v68 then
                  (law09_pt 1 1).bind fun v71 =>
                  (poly_Has ([v1, v3, v5] : List Point) v71).bind fun v73 =>
                  bif v73 then
                    (law09_pt 3 2).bind fun v76 =>
                    (poly_Has ([v1, v3, v5] : List Point) v76).bind fun v78 =>
                    bif !v78 then
                      (poly_Hull ([v13, v15, v17, v19, v21] : List Point)).bind fun v81 =>
                      (law09_pt 0 0).bind fun v83 =>
                      (law09_pt 4 0).bind fun v85 =>
                      (law09_pt 4 4).bind fun v87 =>
                      (ref09_Same v81 ([v83, v85, v87] : List Point)).bind fun v89 =>
                      bif v89 then
                        (poly_Chord ([v23, v25, v27, v29, v31] : List Point) 5 12).bind fun v92 =>
                        law09_awake_k1 ((v92.A == 2) && ((v92.B == 8) && true))
                      else
                        law09_awake_k1 false
                    else
                      law09_awake_k1 false
                  else
                    law09_awake_k1 false
                else
                  law09_awake_k1 false
              else
                law09_awake_k1 false
            else
              law09_awake_k1 false
          else
            law09_awake_k1 false
        else
          law09_awake_k1 false
      else
        law09_awake_k1 false
    else none
  else
    law09_awake_k1 false

/- sawmill/sawmillref09.Ranged -/

def ref09_Ranged_k2 (x2 : Int) (rec_ref09_Ranged_L1 : Int → Option (Bool ⊕ Unit)) (x8 : Bool) : Option (Bool ⊕ Unit) :=
  bif x8 then
    some (Sum.inl false)
  else
    rec_ref09_Ranged_L1 (w64 (x2 + 1))

def ref09_Ranged_L1 (a1 : List Point) : Nat → Int → Option (Bool ⊕ Unit)
  | 0, _ => none
  | n + 1, x2 =>
    bif decide (x2 < ((a1.length : Nat) : Int)) then
      bif inb x2 a1.length then
        bif decide (((a1.getD x2.toNat default).X) < (-600)) then
          ref09_Ranged_k2 x2 (ref09_Ranged_L1 a1 n) true
        else
          bif decide (((a1.getD x2.toNat default).X) > 600) then
            ref09_Ranged_k2 x2 (ref09_Ranged_L1 a1 n) true
          else
            bif decide (((a1.getD x2.toNat default).Y) < (-600)) then
              ref09_Ranged_k2 x2 (ref09_Ranged_L1 a1 n) true
            else
              ref09_Ranged_k2 x2 (ref09_Ranged_L1 a1 n) (decide (((a1.getD x2.toNat default).Y) > 600))
      else none
    else
      some (Sum.inr ())

def ref09_Ranged (a1 : List Point) : Option Bool :=
  (ref09_Ranged_L1 a1 FUEL 0).bind fun u12 => Sum.elim (fun v13 => some v13) (fun o10 =>
  some true) u12

/- sawmill/sawmillref09.Area2 -/

def ref09_Area2_L2 (a1 : List Point) : Nat → Int → Int → Option Int
  | 0, _, _ => none
  | n + 1, x7, x8 =>
    bif decide (x8 < ((a1.length : Nat) : Int)) then
      bif nz ((a1.length : Nat) : Int) then
        bif inb (Int.tmod (w64 (x8 + 1)) ((a1.length : Nat) : Int)) a1.length then
          bif inb x8 a1.length then
            (ref09_Area2_L2 a1 n) (w64 ((w64 (x7 + (w64 (((a1.getD x8.toNat default).X) * ((a1.getD (Int.tmod (w64 (x8 + 1)) ((a1.length : Nat) : Int)).toNat default).Y))))) - (w64 (((a1.getD (Int.tmod (w64 (x8 + 1)) ((a1.length : Nat) : Int)).toNat default).X) * ((a1.getD x8.toNat default).Y))))) (w64 (x8 + 1))
          else none
        else none
      else none
    else
      some x7

def ref09_Area2_k1 (a1 : List Point) (x5 : Bool) : Option Int :=
  bif x5 then
    some 0
  else
    (ref09_Area2_L2 a1 FUEL 0 0).bind fun o14 =>
    some o14

def ref09_Area2 (a1 : List Point) : Option Int :=
  bif decide (((a1.length : Nat) : Int) > 32) then
    ref09_Area2_k1 a1 true
  else
    (ref09_Ranged a1).bind fun v3 =>
    ref09_Area2_k1 a1 (!v3)

/- sawmill/sawmillref09.Check -/

def ref09_Check (a1 : List Point) : Option Int :=
  bif decide (((a1.length : Nat) : Int) < 3) then
    some 3
  else
    bif decide (((a1.length : Nat) : Int) > 32) then
      some 4
    else
      (ref09_Ranged a1).bind fun v4 =>
      bif !v4 then
        some 9
      else
        (ref09_Area2 a1).bind fun v7 =>
        bif v7 == 0 then
          some 19
        else
          some 0

/- sawmill/sawmillref09.Bounds -/

def ref09_Bounds_L1 (a1 : List Point) : Nat → Int → Rect → Option Rect
  | 0, _, _ => none
  | n + 1, x4, x5 =>
    bif decide (x4 < ((a1.length : Nat) : Int)) then
      bif inb x4 a1.length then
        (ref09_Bounds_L1 a1 n) (w64 (x4 + 1)) (Rect.mk (Span.mk (imin x5.X.A ((a1.getD x4.toNat default).X)) (imax x5.X.B ((a1.getD x4.toNat default).X))) (Span.mk (imin x5.Y.A ((a1.getD x4.toNat default).Y)) (imax x5.Y.B ((a1.getD x4.toNat default).Y))))
      else none
    else
      some x5

def ref09_Bounds (a1 : List Point) : Option Rect :=
  bif ((a1.length : Nat) : Int) == 0 then
    some (Rect.mk (Span.mk 0 0) (Span.mk 0 0))
  else
    bif inb 0 a1.length then
      (ref09_Bounds_L1 a1 FUEL 1 (Rect.mk (Span.mk ((a1.getD (0 : Int).toNat default).X) ((a1.getD (0 : Int).toNat default).X)) (Span.mk ((a1.getD (0 : Int).toNat default).Y) ((a1.getD (0 : Int).toNat default).Y)))).bind fun o9 =>
      some o9
    else none

/- sawmill/sawmilllaw09.PolyChecks -/

def law09_PolyChecks_k1 (x24 : Bool) : Option Bool :=
  some x24

def law09_PolyChecks (a1 : List Point) : Option Bool :=
  (law09_few a1).bind fun v2 =>
  bif !v2 then
    (law09_awake).bind fun v5 =>
    some v5
  else
    (poly_Check a1).bind fun v7 =>
    (ref09_Check a1).bind fun v9 =>
    bif v7 == v9 then
      (poly_Area2 a1).bind fun v12 =>
      (ref09_Area2 a1).bind fun v14 =>
      bif v12 == v14 then
        (poly_Bounds a1).bind fun v17 =>
        (ref09_Bounds a1).bind fun v19 =>
        bif (((v17.X.A == v19.X.A) && ((v17.X.B == v19.X.B) && true)) && (((v17.Y.A == v19.Y.A) && ((v17.Y.B == v19.Y.B) && true)) && true)) then
          (law09_awake).bind fun v22 =>
          law09_PolyChecks_k1 v22
        else
          law09_PolyChecks_k1 false
      else
        law09_PolyChecks_k1 false
    else
      law09_PolyChecks_k1 false

/- sawmill/sawmillref09.negative -/

def ref09_negative_k2 (x2 : Int) (rec_ref09_negative_L1 : Int → Option (Bool ⊕ Unit)) (x6 : Bool) : Option (Bool ⊕ Unit) :=
  bif x6 then
    some (Sum.inl false)
  else
    rec_ref09_negative_L1 (w64 (x2 + 1))

def ref09_negative_L1 (a1 : List Point) : Nat → Int → Option (Bool ⊕ Unit)
  | 0, _ => none
  | n + 1, x2 =>
    bif decide (x2 < ((a1.length : Nat) : Int)) then
      bif inb x2 a1.length then
        bif ((a1.getD x2.toNat default).X) == (-9223372036854775808) then
          ref09_negative_k2 x2 (ref09_negative_L1 a1 n) true
        else
          ref09_negative_k2 x2 (ref09_negative_L1 a1 n) (((a1.getD x2.toNat default).Y) == (-9223372036854775808))
      else none
    else
      some (Sum.inr ())

def ref09_negative (a1 : List Point) : Option Bool :=
  (ref09_negative_L1 a1 FUEL 0).bind fun u10 => Sum.elim (fun v11 => some v11) (fun o8 =>
  some true) u10

/- sawmill/sawmillref09.Quarters -/

def ref09_Quarters (a1 : Int) : Option Int :=
  some (Int.tmod (w64 ((Int.tmod a1 4) + 4)) 4)

/- sawmill/sawmillref09.Turned -/

def ref09_Turned_L1 (a2 : Int) : Nat → Int → Point → Option Point
  | 0, _, _ => none
  | n + 1, x3, x4 =>
    bif decide (x3 < a2) then
      (ref09_Turned_L1 a2 n) (w64 (x3 + 1)) (Point.mk (w64 (0 - x4.Y)) x4.X)
    else
      some x4

def ref09_Turned (a1 : Point) (a2 : Int) : Option Point :=
  (ref09_Turned_L1 a2 FUEL 0 a1).bind fun o7 =>
  some o7

/- sawmill/sawmillref09.Turn -/

def ref09_Turn_L1 (a1 : List Point) (a2 : Int) : Nat → (List Point) → Int → Option (List Point)
  | 0, _, _ => none
  | n + 1, l6, x7 =>
    bif decide (x7 < ((a1.length : Nat) : Int)) then
      bif inb x7 a1.length then
        (ref09_Quarters a2).bind fun v10 =>
        (ref09_Turned (a1.getD x7.toNat default) v10).bind fun v12 =>
        bif room (l6.length + 1) 16 then
          (ref09_Turn_L1 a1 a2 n) (l6 ++ ([v12] : List Point)) (w64 (x7 + 1))
        else none
      else none
    else
      some l6

def ref09_Turn (a1 : List Point) (a2 : Int) : Option (List Point) :=
  (ref09_negative a1).bind fun v3 =>
  bif !v3 then
    some ([] : List Point)
  else
    (ref09_Turn_L1 a1 a2 FUEL ([] : List Point) 0).bind fun o16 =>
    some o16

/- sawmill/sawmillref09.Mirror -/

def ref09_Mirror_L1 (a1 : List Point) : Nat → (List Point) → Int → Option (List Point)
  | 0, _, _ => none
  | n + 1, l5, x6 =>
    bif decide (x6 ≥ 0) then
      bif inb x6 a1.length then
        bif room (l5.length + 1) 16 then
          (ref09_Mirror_L1 a1 n) (l5 ++ ([(Point.mk (w64 (0 - ((a1.getD x6.toNat default).X))) ((a1.getD x6.toNat default).Y))] : List Point)) (w64 (x6 - 1))
        else none
      else none
    else
      some l5

def ref09_Mirror (a1 : List Point) : Option (List Point) :=
  (ref09_negative a1).bind fun v2 =>
  bif !v2 then
    some ([] : List Point)
  else
    (ref09_Mirror_L1 a1 FUEL ([] : List Point) (w64 (((a1.length : Nat) : Int) - 1))).bind fun o11 =>
    some o11

/- sawmill/sawmilllaw09.PolyTurns -/

def law09_PolyTurns_k1 (x24 : Bool) : Option Bool :=
  some x24

def law09_PolyTurns (a1 : List Point) (a2 : Int) : Option Bool :=
  (law09_few a1).bind fun v3 =>
  bif !v3 then
    (law09_awake).bind fun v6 =>
    some v6
  else
    (poly_Turn a1 a2).bind fun v8 =>
    (ref09_Turn a1 a2).bind fun v10 =>
    (ref09_Same v8 v10).bind fun v12 =>
    bif v12 then
      (poly_Mirror a1).bind fun v15 =>
      (ref09_Mirror a1).bind fun v17 =>
      (ref09_Same v15 v17).bind fun v19 =>
      bif v19 then
        (law09_awake).bind fun v22 =>
        law09_PolyTurns_k1 v22
      else
        law09_PolyTurns_k1 false
    else
      law09_PolyTurns_k1 false

/- sawmill/sawmillref09.Cross -/

def ref09_Cross (a1 : Point) (a2 : Point) (a3 : Point) : Option Int :=
  some (w64 ((w64 ((w64 (a2.X - a1.X)) * (w64 (a3.Y - a1.Y)))) - (w64 ((w64 (a2.Y - a1.Y)) * (w64 (a3.X - a1.X))))))

/- sawmill/sawmillref09.Has -/

def ref09_Has_k5 (x11 : Int) (rec_ref09_Has_L2 : Bool → Int → Option (Bool ⊕ Bool)) (x43 : Bool) : Option (Bool ⊕ Bool) :=
  rec_ref09_Has_L2 x43 (w64 (x11 + 1))

def ref09_Has_k4 (x10 : Bool) (x11 : Int) (rec_ref09_Has_L2 : Bool → Int → Option (Bool ⊕ Bool)) (x41 : Bool) : Option (Bool ⊕ Bool) :=
  bif x41 then
    ref09_Has_k5 x11 rec_ref09_Has_L2 (!x10)
  else
    ref09_Has_k5 x11 rec_ref09_Has_L2 x10

def ref09_Has_k3 (a1 : List Point) (a2 : Point) (x10 : Bool) (x11 : Int) (rec_ref09_Has_L2 : Bool → Int → Option (Bool ⊕ Bool)) (x22 : Bool) : Option (Bool ⊕ Bool) :=
  bif x22 then
    some (Sum.inl true)
  else
    bif decide (((a1.getD x11.toNat default).Y) ≤ a2.Y) then
      bif decide (a2.Y < ((a1.getD (Int.tmod (w64 (x11 + 1)) ((a1.length : Nat) : Int)).toNat default).Y)) then
        (ref09_Cross (a1.getD x11.toNat default) (a1.getD (Int.tmod (w64 (x11 + 1)) ((a1.length : Nat) : Int)).toNat default) a2).bind fun v26 =>
        bif decide (v26 > 0) then
          ref09_Has_k4 x10 x11 rec_ref09_Has_L2 true
        else
          bif decide (((a1.getD (Int.tmod (w64 (x11 + 1)) ((a1.length : Nat) : Int)).toNat default).Y) ≤ a2.Y) then
            bif decide (a2.Y < ((a1.getD x11.toNat default).Y)) then
              (ref09_Cross (a1.getD x11.toNat default) (a1.getD (Int.tmod (w64 (x11 + 1)) ((a1.length : Nat) : Int)).toNat default) a2).bind fun v31 =>
              ref09_Has_k4 x10 x11 rec_ref09_Has_L2 (decide (v31 < 0))
            else
              ref09_Has_k4 x10 x11 rec_ref09_Has_L2 false
          else
            ref09_Has_k4 x10 x11 rec_ref09_Has_L2 false
      else
        bif decide (((a1.getD (Int.tmod (w64 (x11 + 1)) ((a1.length : Nat) : Int)).toNat default).Y) ≤ a2.Y) then
          bif decide (a2.Y < ((a1.getD x11.toNat default).Y)) then
            (ref09_Cross (a1.getD x11.toNat default) (a1.getD (Int.tmod (w64 (x11 + 1)) ((a1.length : Nat) : Int)).toNat default) a2).bind fun v35 =>
            ref09_Has_k4 x10 x11 rec_ref09_Has_L2 (decide (v35 < 0))
          else
            ref09_Has_k4 x10 x11 rec_ref09_Has_L2 false
        else
          ref09_Has_k4 x10 x11 rec_ref09_Has_L2 false
    else
      bif decide (((a1.getD (Int.tmod (w64 (x11 + 1)) ((a1.length : Nat) : Int)).toNat default).Y) ≤ a2.Y) then
        bif decide (a2.Y < ((a1.getD x11.toNat default).Y)) then
          (ref09_Cross (a1.getD x11.toNat default) (a1.getD (Int.tmod (w64 (x11 + 1)) ((a1.length : Nat) : Int)).toNat default) a2).bind fun v39 =>
          ref09_Has_k4 x10 x11 rec_ref09_Has_L2 (decide (v39 < 0))
        else
          ref09_Has_k4 x10 x11 rec_ref09_Has_L2 false
      else
        ref09_Has_k4 x10 x11 rec_ref09_Has_L2 false

def ref09_Has_L2 (a1 : List Point) (a2 : Point) : Nat → Bool → Int → Option (Bool ⊕ Bool)
  | 0, _, _ => none
  | n + 1, x10, x11 =>
    bif decide (x11 < ((a1.length : Nat) : Int)) then
      bif inb x11 a1.length then
        bif nz ((a1.length : Nat) : Int) then
          bif inb (Int.tmod (w64 (x11 + 1)) ((a1.length : Nat) : Int)) a1.length then
            (ref09_Cross (a1.getD x11.toNat default) (a1.getD (Int.tmod (w64 (x11 + 1)) ((a1.length : Nat) : Int)).toNat default) a2).bind fun v16 =>
            bif v16 == 0 then
              bif decide ((imin ((a1.getD x11.toNat default).X) ((a1.getD (Int.tmod (w64 (x11 + 1)) ((a1.length : Nat) : Int)).toNat default).X)) ≤ a2.X) then
                bif decide (a2.X ≤ (imax ((a1.getD x11.toNat default).X) ((a1.getD (Int.tmod (w64 (x11 + 1)) ((a1.length : Nat) : Int)).toNat default).X))) then
                  bif decide ((imin ((a1.getD x11.toNat default).Y) ((a1.getD (Int.tmod (w64 (x11 + 1)) ((a1.length : Nat) : Int)).toNat default).Y)) ≤ a2.Y) then
                    ref09_Has_k3 a1 a2 x10 x11 (ref09_Has_L2 a1 a2 n) (decide (a2.Y ≤ (imax ((a1.getD x11.toNat default).Y) ((a1.getD (Int.tmod (w64 (x11 + 1)) ((a1.length : Nat) : Int)).toNat default).Y))))
                  else
                    ref09_Has_k3 a1 a2 x10 x11 (ref09_Has_L2 a1 a2 n) false
                else
                  ref09_Has_k3 a1 a2 x10 x11 (ref09_Has_L2 a1 a2 n) false
              else
                ref09_Has_k3 a1 a2 x10 x11 (ref09_Has_L2 a1 a2 n) false
            else
              ref09_Has_k3 a1 a2 x10 x11 (ref09_Has_L2 a1 a2 n) false
          else none
        else none
      else none
    else
      some (Sum.inr x10)

def ref09_Has_k1 (a1 : List Point) (a2 : Point) (x8 : Bool) : Option Bool :=
  bif x8 then
    some false
  else
    (ref09_Has_L2 a1 a2 FUEL false 0).bind fun u47 => Sum.elim (fun v48 => some v48) (fun o45 =>
    some o45) u47

def ref09_Has (a1 : List Point) (a2 : Point) : Option Bool :=
  (ref09_Check a1).bind fun v3 =>
  bif v3 != 0 then
    ref09_Has_k1 a1 a2 true
  else
    (ref09_Ranged ([a2] : List Point)).bind fun v6 =>
    ref09_Has_k1 a1 a2 (!v6)

/- sawmill/sawmilllaw09.PolyHas -/

def law09_PolyHas_k1 (x15 : Bool) : Option Bool :=
  some x15

def law09_PolyHas (a1 : List Point) (a2 : Point) : Option Bool :=
  (law09_few a1).bind fun v3 =>
  bif !v3 then
    (law09_awake).bind fun v6 =>
    some v6
  else
    (poly_Has a1 a2).bind fun v8 =>
    (ref09_Has a1 a2).bind fun v10 =>
    bif v8 == v10 then
      (law09_awake).bind fun v13 =>
      law09_PolyHas_k1 v13
    else
      law09_PolyHas_k1 false

/- sawmill/sawmillref09.Before -/

def ref09_Before_k1 (x5 : Bool) : Option Bool :=
  some x5

def ref09_Before (a1 : Point) (a2 : Point) : Option Bool :=
  bif decide (a1.X < a2.X) then
    ref09_Before_k1 true
  else
    bif a1.X == a2.X then
      ref09_Before_k1 (decide (a1.Y < a2.Y))
    else
      ref09_Before_k1 false

/- sawmill/sawmillref09.sorted -/

def ref09_sorted_k3 (x5 : Int) (rec_ref09_sorted_L2 : Int → Option Int) (x11 : Bool) : Option Int :=
  bif x11 then
    rec_ref09_sorted_L2 (w64 (x5 + 1))
  else
    some x5

def ref09_sorted_L2 (a1 : List Point) (l2 : List Point) (x3 : Int) : Nat → Int → Option Int
  | 0, _ => none
  | n + 1, x5 =>
    bif decide (x5 < ((l2.length : Nat) : Int)) then
      bif inb x5 l2.length then
        bif inb x3 a1.length then
          (ref09_Before (l2.getD x5.toNat default) (a1.getD x3.toNat default)).bind fun v9 =>
          ref09_sorted_k3 x5 (ref09_sorted_L2 a1 l2 x3 n) v9
        else none
      else none
    else
      ref09_sorted_k3 x5 (ref09_sorted_L2 a1 l2 x3 n) false

def ref09_sorted_k5 (x3 : Int) (rec_ref09_sorted_L1 : (List Point) → Int → Option (List Point)) (l27 : List Point) : Option (List Point) :=
  rec_ref09_sorted_L1 l27 (w64 (x3 + 1))

def ref09_sorted_k4 (a1 : List Point) (l2 : List Point) (x3 : Int) (rec_ref09_sorted_L1 : (List Point) → Int → Option (List Point)) (o14 : Int) (x19 : Bool) : Option (List Point) :=
  bif x19 then
    ref09_sorted_k5 x3 rec_ref09_sorted_L1 l2
  else
    bif slOk 0 o14 l2.length then
      bif room (0 + o14.toNat) 16 then
        bif inb x3 a1.length then
          bif room ((0 + o14.toNat) + 1) 16 then
            bif slOk o14 ((l2.length : Nat) : Int) l2.length then
              bif room (((0 + o14.toNat) + 1) + (l2.length - o14.toNat)) 16 then
                ref09_sorted_k5 x3 rec_ref09_sorted_L1 (((([] : List Point) ++ (l2.take o14.toNat)) ++ ([(a1.getD x3.toNat default)] : List Point)) ++ ((l2.drop o14.toNat).take (l2.length - o14.toNat)))
              else none
            else none
          else none
        else none
      else none
    else none

def ref09_sorted_L1 (a1 : List Point) : Nat → (List Point) → Int → Option (List Point)
  | 0, _, _ => none
  | n + 1, l2, x3 =>
    bif decide (x3 < ((a1.length : Nat) : Int)) then
      (ref09_sorted_L2 a1 l2 x3 FUEL 0).bind fun o14 =>
      bif decide (o14 < ((l2.length : Nat) : Int)) then
        bif inb o14 l2.length then
          bif inb x3 a1.length then
            ref09_sorted_k4 a1 l2 x3 (ref09_sorted_L1 a1 n) o14 ((((l2.getD o14.toNat default).X) == ((a1.getD x3.toNat default).X)) && ((((l2.getD o14.toNat default).Y) == ((a1.getD x3.toNat default).Y)) && true))
          else none
        else none
      else
        ref09_sorted_k4 a1 l2 x3 (ref09_sorted_L1 a1 n) o14 false
    else
      some l2

def ref09_sorted (a1 : List Point) : Option (List Point) :=
  (ref09_sorted_L1 a1 FUEL ([] : List Point) 0).bind fun o29 =>
  some o29

/- sawmill/sawmillref09.chain -/

def ref09_chain_k3 (l5 : List Point) (rec_ref09_chain_L2 : (List Point) → Option (List Point)) (x12 : Bool) : Option (List Point) :=
  bif x12 then
    bif slOk 0 (w64 (((l5.length : Nat) : Int) - 1)) l5.length then
      rec_ref09_chain_L2 (l5.take ((w64 (((l5.length : Nat) : Int) - 1)).toNat))
    else none
  else
    some l5

def ref09_chain_L2 (a1 : List Point) (x3 : Int) : Nat → (List Point) → Option (List Point)
  | 0, _ => none
  | n + 1, l5 =>
    bif decide (((l5.length : Nat) : Int) > 1) then
      bif inb (w64 (((l5.length : Nat) : Int) - 2)) l5.length then
        bif inb (w64 (((l5.length : Nat) : Int) - 1)) l5.length then
          bif inb x3 a1.length then
            (ref09_Cross (l5.getD ((w64 (((l5.length : Nat) : Int) - 2)).toNat) default) (l5.getD ((w64 (((l5.length : Nat) : Int) - 1)).toNat) default) (a1.getD x3.toNat default)).bind fun v10 =>
            ref09_chain_k3 l5 (ref09_chain_L2 a1 x3 n) (decide (v10 ≤ 0))
          else none
        else none
      else none
    else
      ref09_chain_k3 l5 (ref09_chain_L2 a1 x3 n) false

def ref09_chain_L1 (a1 : List Point) : Nat → (List Point) → Int → Option (List Point)
  | 0, _, _ => none
  | n + 1, l2, x3 =>
    bif decide (x3 < ((a1.length : Nat) : Int)) then
      (ref09_chain_L2 a1 x3 FUEL l2).bind fun o16 =>
      bif inb x3 a1.length then
        bif room (o16.length + 1) 16 then
          (ref09_chain_L1 a1 n) (o16 ++ ([(a1.getD x3.toNat default)] : List Point)) (w64 (x3 + 1))
        else none
      else none
    else
      some l2

def ref09_chain (a1 : List Point) : Option (List Point) :=
  (ref09_chain_L1 a1 FUEL ([] : List Point) 0).bind fun o21 =>
  some o21

/- sawmill/sawmillref09.Hull -/

def ref09_Hull_L2 (v7 : (List Point)) : Nat → (List Point) → Int → Option (List Point)
  | 0, _, _ => none
  | n + 1, l9, x10 =>
    bif decide (x10 ≥ 0) then
      bif inb x10 v7.length then
        bif room (l9.length + 1) 16 then
          (ref09_Hull_L2 v7 n) (l9 ++ ([(v7.getD x10.toNat default)] : List Point)) (w64 (x10 - 1))
        else none
      else none
    else
      some l9

def ref09_Hull_k1 (a1 : List Point) (x5 : Bool) : Option (List Point) :=
  bif x5 then
    some ([] : List Point)
  else
    (ref09_sorted a1).bind fun v7 =>
    (ref09_Hull_L2 v7 FUEL ([] : List Point) (w64 (((v7.length : Nat) : Int) - 1))).bind fun o15 =>
    (ref09_chain v7).bind fun v17 =>
    (ref09_chain o15).bind fun v19 =>
    bif decide ((w64 (((v17.length : Nat) : Int) + ((v19.length : Nat) : Int))) < 5) then
      some ([] : List Point)
    else
      bif slOk 0 (w64 (((v17.length : Nat) : Int) - 1)) v17.length then
        bif room (0 + (w64 (((v17.length : Nat) : Int) - 1)).toNat) 16 then
          bif slOk 0 (w64 (((v19.length : Nat) : Int) - 1)) v19.length then
            bif room ((0 + (w64 (((v17.length : Nat) : Int) - 1)).toNat) + (w64 (((v19.length : Nat) : Int) - 1)).toNat) 16 then
              some ((([] : List Point) ++ (v17.take ((w64 (((v17.length : Nat) : Int) - 1)).toNat))) ++ (v19.take ((w64 (((v19.length : Nat) : Int) - 1)).toNat)))
            else none
          else none
        else none
      else none

def ref09_Hull (a1 : List Point) : Option (List Point) :=
  bif decide (((a1.length : Nat) : Int) > 32) then
    ref09_Hull_k1 a1 true
  else
    (ref09_Ranged a1).bind fun v3 =>
    ref09_Hull_k1 a1 (!v3)

/- sawmill/sawmilllaw09.PolyHulls -/

def law09_PolyHulls_k1 (x16 : Bool) : Option Bool :=
  some x16

def law09_PolyHulls (a1 : List Point) : Option Bool :=
  (law09_few a1).bind fun v2 =>
  bif !v2 then
    (law09_awake).bind fun v5 =>
    some v5
  else
    (poly_Hull a1).bind fun v7 =>
    (ref09_Hull a1).bind fun v9 =>
    (ref09_Same v7 v9).bind fun v11 =>
    bif v11 then
      (law09_awake).bind fun v14 =>
      law09_PolyHulls_k1 v14
    else
      law09_PolyHulls_k1 false

/- sawmill/sawmillref09.floor -/

def ref09_floor_k1 (x5 : Int) : Option Int :=
  some x5

def ref09_floor (a1 : Int) (a2 : Int) : Option Int :=
  bif nz a2 then
    bif decide ((w64 ((w64 (Int.tdiv a1 a2)) * a2)) > a1) then
      ref09_floor_k1 (w64 ((w64 (Int.tdiv a1 a2)) - 1))
    else
      ref09_floor_k1 (w64 (Int.tdiv a1 a2))
  else none

/- sawmill/sawmillref09.across -/

def ref09_across_k2 (x5 : Int) (rec_ref09_across_L1 : Int → Int → Int → Option ((Int × Int) ⊕ (Int × Int))) (x17 : Int) (x18 : Int) : Option ((Int × Int) ⊕ (Int × Int)) :=
  rec_ref09_across_L1 x17 x18 (w64 (x5 + 1))

def ref09_across_L1 (a1 : List Point) (a2 : Int) : Nat → Int → Int → Int → Option ((Int × Int) ⊕ (Int × Int))
  | 0, _, _, _ => none
  | n + 1, x3, x4, x5 =>
    bif decide (x5 < ((a1.length : Nat) : Int)) then
      bif inb x5 a1.length then
        bif nz ((a1.length : Nat) : Int) then
          bif inb (Int.tmod (w64 (x5 + 1)) ((a1.length : Nat) : Int)) a1.length then
            bif decide ((w64 (((a1.getD (Int.tmod (w64 (x5 + 1)) ((a1.length : Nat) : Int)).toNat default).Y) - ((a1.getD x5.toNat default).Y))) > 0) then
              (ref09_floor (w64 ((w64 (((a1.getD (Int.tmod (w64 (x5 + 1)) ((a1.length : Nat) : Int)).toNat default).X) - ((a1.getD x5.toNat default).X))) * (w64 (a2 - ((a1.getD x5.toNat default).Y))))) (w64 (((a1.getD (Int.tmod (w64 (x5 + 1)) ((a1.length : Nat) : Int)).toNat default).Y) - ((a1.getD x5.toNat default).Y)))).bind fun v11 =>
              ref09_across_k2 x5 (ref09_across_L1 a1 a2 n) x3 (imin x4 (w64 (((a1.getD x5.toNat default).X) + v11)))
            else
              bif decide ((w64 (((a1.getD (Int.tmod (w64 (x5 + 1)) ((a1.length : Nat) : Int)).toNat default).Y) - ((a1.getD x5.toNat default).Y))) < 0) then
                (ref09_floor (w64 ((w64 (((a1.getD (Int.tmod (w64 (x5 + 1)) ((a1.length : Nat) : Int)).toNat default).X) - ((a1.getD x5.toNat default).X))) * (w64 (a2 - ((a1.getD x5.toNat default).Y))))) (w64 (0 - (w64 (((a1.getD (Int.tmod (w64 (x5 + 1)) ((a1.length : Nat) : Int)).toNat default).Y) - ((a1.getD x5.toNat default).Y)))))).bind fun v14 =>
                ref09_across_k2 x5 (ref09_across_L1 a1 a2 n) (imax x3 (w64 (((a1.getD x5.toNat default).X) - v14))) x4
              else
                bif decide ((w64 ((w64 (((a1.getD (Int.tmod (w64 (x5 + 1)) ((a1.length : Nat) : Int)).toNat default).X) - ((a1.getD x5.toNat default).X))) * (w64 (a2 - ((a1.getD x5.toNat default).Y))))) < 0) then
                  some (Sum.inl (1, 0))
                else
                  ref09_across_k2 x5 (ref09_across_L1 a1 a2 n) x3 x4
          else none
        else none
      else none
    else
      some (Sum.inr (x3, x4))

def ref09_across (a1 : List Point) (a2 : Int) : Option (Int × Int) :=
  (ref09_across_L1 a1 a2 FUEL (-600) 600 0).bind fun u23 => Sum.elim (fun v24 => some v24) (fun o21 =>
  some (o21.1, o21.2)) u23

/- sawmill/sawmillref09.Chord -/

def ref09_Chord_k2 (v11 : Int × Int) (v13 : Int × Int) (x17 : Bool) : Option Span :=
  bif x17 then
    some (Span.mk 0 0)
  else
    some (Span.mk (imax v11.1 v13.1) (imin v11.2 v13.2))

def ref09_Chord_k1 (a2 : Int) (a3 : Int) (v4 : (List Point)) (x9 : Bool) : Option Span :=
  bif x9 then
    some (Span.mk 0 0)
  else
    (ref09_across v4 a2).bind fun v11 =>
    (ref09_across v4 a3).bind fun v13 =>
    bif decide (v11.1 > v11.2) then
      ref09_Chord_k2 v11 v13 true
    else
      bif decide (v13.1 > v13.2) then
        ref09_Chord_k2 v11 v13 true
      else
        ref09_Chord_k2 v11 v13 (decide ((imax v11.1 v13.1) ≥ (imin v11.2 v13.2)))

def ref09_Chord (a1 : List Point) (a2 : Int) (a3 : Int) : Option Span :=
  (ref09_Hull a1).bind fun v4 =>
  bif ((v4.length : Nat) : Int) == 0 then
    ref09_Chord_k1 a2 a3 v4 true
  else
    bif decide (a2 ≥ a3) then
      ref09_Chord_k1 a2 a3 v4 true
    else
      bif decide (a2 < (-600)) then
        ref09_Chord_k1 a2 a3 v4 true
      else
        ref09_Chord_k1 a2 a3 v4 (decide (a3 > 600))

/- sawmill/sawmilllaw09.PolyChords -/

def law09_PolyChords_k1 (x16 : Bool) : Option Bool :=
  some x16

def law09_PolyChords (a1 : List Point) (a2 : Int) (a3 : Int) : Option Bool :=
  (law09_few a1).bind fun v4 =>
  bif !v4 then
    (law09_awake).bind fun v7 =>
    some v7
  else
    (poly_Chord a1 a2 a3).bind fun v9 =>
    (ref09_Chord a1 a2 a3).bind fun v11 =>
    bif ((v9.A == v11.A) && ((v9.B == v11.B) && true)) then
      (law09_awake).bind fun v14 =>
      law09_PolyChords_k1 v14
    else
      law09_PolyChords_k1 false

/- sawmill/sawmilllaw09.PolyBack -/

def law09_PolyBack_k4 (x88 : Bool) : Option Bool :=
  some x88

def law09_PolyBack_k3 (a1 : List Point) (v13 : Int) (v15 : (List Point)) (v17 : (List Point)) (x62 : Bool) : Option Bool :=
  bif x62 then
    some false
  else
    (poly_Hull v15).bind fun v64 =>
    (poly_Hull a1).bind fun v66 =>
    (poly_Turn v66 v13).bind fun v68 =>
    (poly_Hull v68).bind fun v70 =>
    (ref09_Same v64 v70).bind fun v72 =>
    bif v72 then
      (poly_Hull v17).bind fun v75 =>
      (poly_Hull a1).bind fun v77 =>
      (poly_Mirror v77).bind fun v79 =>
      (poly_Hull v79).bind fun v81 =>
      (ref09_Same v75 v81).bind fun v83 =>
      bif v83 then
        (law09_awake).bind fun v86 =>
        law09_PolyBack_k4 v86
      else
        law09_PolyBack_k4 false
    else
      law09_PolyBack_k4 false

def law09_PolyBack_k2 (a1 : List Point) (a2 : Point) (v13 : Int) (v15 : (List Point)) (v17 : (List Point)) (x43 : Bool) : Option Bool :=
  bif x43 then
    some false
  else
    (poly_Turn ([a2] : List Point) v13).bind fun v45 =>
    (poly_Mirror ([a2] : List Point)).bind fun v47 =>
    bif ((v45.length : Nat) : Int) != 1 then
      law09_PolyBack_k3 a1 v13 v15 v17 true
    else
      bif ((v47.length : Nat) : Int) != 1 then
        law09_PolyBack_k3 a1 v13 v15 v17 true
      else
        bif inb 0 v45.length then
          (poly_Has v15 (v45.getD ((0 : Int).toNat) default)).bind fun v52 =>
          (poly_Has a1 a2).bind fun v54 =>
          bif !(v52 == v54) then
            law09_PolyBack_k3 a1 v13 v15 v17 true
          else
            bif inb 0 v47.length then
              (poly_Has v17 (v47.getD ((0 : Int).toNat) default)).bind fun v58 =>
              (poly_Has a1 a2).bind fun v60 =>
              law09_PolyBack_k3 a1 v13 v15 v17 (!(v58 == v60))
            else none
        else none

def law09_PolyBack_k1 (a1 : List Point) (a2 : Point) (a3 : Int) (x9 : Bool) : Option Bool :=
  bif x9 then
    (law09_awake).bind fun v11 =>
    some v11
  else
    (ref09_Quarters a3).bind fun v13 =>
    (poly_Turn a1 v13).bind fun v15 =>
    (poly_Mirror a1).bind fun v17 =>
    (poly_Turn v15 (w64 (0 - v13))).bind fun v19 =>
    (ref09_Same v19 a1).bind fun v21 =>
    bif !v21 then
      law09_PolyBack_k2 a1 a2 v13 v15 v17 true
    else
      (poly_Turn v15 (w64 (4 - v13))).bind fun v24 =>
      (ref09_Same v24 a1).bind fun v26 =>
      bif !v26 then
        law09_PolyBack_k2 a1 a2 v13 v15 v17 true
      else
        (poly_Mirror v17).bind fun v29 =>
        (ref09_Same v29 a1).bind fun v31 =>
        bif !v31 then
          law09_PolyBack_k2 a1 a2 v13 v15 v17 true
        else
          (poly_Area2 v15).bind fun v34 =>
          (poly_Area2 a1).bind fun v36 =>
          bif v34 != v36 then
            law09_PolyBack_k2 a1 a2 v13 v15 v17 true
          else
            (poly_Area2 v17).bind fun v39 =>
            (poly_Area2 a1).bind fun v41 =>
            law09_PolyBack_k2 a1 a2 v13 v15 v17 (v39 != v41)

def law09_PolyBack (a1 : List Point) (a2 : Point) (a3 : Int) : Option Bool :=
  (ref09_Check a1).bind fun v4 =>
  bif v4 != 0 then
    law09_PolyBack_k1 a1 a2 a3 true
  else
    (ref09_Ranged ([a2] : List Point)).bind fun v7 =>
    law09_PolyBack_k1 a1 a2 a3 (!v7)

/- sawmill/sawmilllaw09.PolyConvex -/

def law09_PolyConvex_L2 (a1 : List Point) : Nat → (List Point) → Int → Option (List Point)
  | 0, _, _ => none
  | n + 1, l11, x12 =>
    bif decide (x12 ≥ 0) then
      bif inb x12 a1.length then
        bif room (l11.length + 1) 16 then
          (law09_PolyConvex_L2 a1 n) (l11 ++ ([(a1.getD x12.toNat default)] : List Point)) (w64 (x12 - 1))
        else none
      else none
    else
      some l11

def law09_PolyConvex_L5 (a1 : List Point) (x32 : Int) : Nat → Int → Option (Bool ⊕ Unit)
  | 0, _ => none
  | n + 1, x34 =>
    bif decide (x34 < x32) then
      bif inb 0 a1.length then
        bif inb x34 a1.length then
          bif inb x32 a1.length then
            (ref09_Cross (a1.getD (0 : Int).toNat default) (a1.getD x34.toNat default) (a1.getD x32.toNat default)).bind fun v39 =>
            bif v39 != 0 then
              some (Sum.inl false)
            else
              (law09_PolyConvex_L5 a1 x32 n) (w64 (x34 + 1))
          else none
        else none
      else none
    else
      some (Sum.inr ())

def law09_PolyConvex_L4 (a1 : List Point) : Nat → Int → Option (Bool ⊕ Unit)
  | 0, _ => none
  | n + 1, x32 =>
    bif decide (x32 < ((a1.length : Nat) : Int)) then
      (law09_PolyConvex_L5 a1 x32 FUEL 0).bind fun u44 => Sum.elim (fun v45 => some (Sum.inl v45)) (fun o42 =>
      (law09_PolyConvex_L4 a1 n) (w64 (x32 + 1))) u44
    else
      some (Sum.inr ())

def law09_PolyConvex_k7 (x52 : Int) (rec_law09_PolyConvex_L6 : Int → Option (Bool ⊕ Unit)) (x61 : Bool) : Option (Bool ⊕ Unit) :=
  bif x61 then
    some (Sum.inl false)
  else
    rec_law09_PolyConvex_L6 (w64 (x52 + 1))

def law09_PolyConvex_L6 (a1 : List Point) (v9 : (List Point)) : Nat → Int → Option (Bool ⊕ Unit)
  | 0, _ => none
  | n + 1, x52 =>
    bif decide (x52 < ((a1.length : Nat) : Int)) then
      bif inb x52 a1.length then
        (poly_Has v9 (a1.getD x52.toNat default)).bind fun v55 =>
        bif !v55 then
          law09_PolyConvex_k7 x52 (law09_PolyConvex_L6 a1 v9 n) true
        else
          bif inb 0 v9.length then
            (ref09_Before (a1.getD x52.toNat default) (v9.getD ((0 : Int).toNat) default)).bind fun v59 =>
            law09_PolyConvex_k7 x52 (law09_PolyConvex_L6 a1 v9 n) v59
          else none
      else none
    else
      some (Sum.inr ())

def law09_PolyConvex_k10 (x77 : Int) (rec_law09_PolyConvex_L9 : Bool → Int → Option Bool) (x82 : Bool) : Option Bool :=
  rec_law09_PolyConvex_L9 x82 (w64 (x77 + 1))

def law09_PolyConvex_L9 (a1 : List Point) (v9 : (List Point)) (x67 : Int) : Nat → Bool → Int → Option Bool
  | 0, _, _ => none
  | n + 1, x76, x77 =>
    bif decide (x77 < ((a1.length : Nat) : Int)) then
      bif x76 then
        law09_PolyConvex_k10 x77 (law09_PolyConvex_L9 a1 v9 x67 n) true
      else
        bif inb x77 a1.length then
          bif inb x67 v9.length then
            law09_PolyConvex_k10 x77 (law09_PolyConvex_L9 a1 v9 x67 n) ((((a1.getD x77.toNat default).X) == ((v9.getD x67.toNat default).X)) && ((((a1.getD x77.toNat default).Y) == ((v9.getD x67.toNat default).Y)) && true))
          else none
        else none
    else
      some x76

def law09_PolyConvex_L8 (a1 : List Point) (v9 : (List Point)) : Nat → Int → Option (Bool ⊕ Unit)
  | 0, _ => none
  | n + 1, x67 =>
    bif decide (x67 < ((v9.length : Nat) : Int)) then
      bif inb x67 v9.length then
        bif nz ((v9.length : Nat) : Int) then
          bif inb (Int.tmod (w64 (x67 + 1)) ((v9.length : Nat) : Int)) v9.length then
            bif inb (Int.tmod (w64 (x67 + 2)) ((v9.length : Nat) : Int)) v9.length then
              (ref09_Cross (v9.getD x67.toNat default) (v9.getD ((Int.tmod (w64 (x67 + 1)) ((v9.length : Nat) : Int)).toNat) default) (v9.getD ((Int.tmod (w64 (x67 + 2)) ((v9.length : Nat) : Int)).toNat) default)).bind fun v73 =>
              bif decide (v73 ≤ 0) then
                some (Sum.inl false)
              else
                (law09_PolyConvex_L9 a1 v9 x67 FUEL false 0).bind fun o84 =>
                bif !o84 then
                  some (Sum.inl false)
                else
                  (law09_PolyConvex_L8 a1 v9 n) (w64 (x67 + 1))
            else none
          else none
        else none
      else none
    else
      some (Sum.inr ())

def law09_PolyConvex_k3 (a1 : List Point) (v9 : (List Point)) (x29 : Bool) : Option Bool :=
  bif x29 then
    some false
  else
    bif ((v9.length : Nat) : Int) == 0 then
      (law09_PolyConvex_L4 a1 FUEL 0).bind fun u48 => Sum.elim (fun v49 => some v49) (fun o46 =>
      (law09_awake).bind fun v50 =>
      some v50) u48
    else
      (law09_PolyConvex_L6 a1 v9 FUEL 0).bind fun u65 => Sum.elim (fun v66 => some v66) (fun o63 =>
      (law09_PolyConvex_L8 a1 v9 FUEL 0).bind fun u89 => Sum.elim (fun v90 => some v90) (fun o87 =>
      (law09_awake).bind fun v91 =>
      some v91) u89) u65

def law09_PolyConvex_k1 (a1 : List Point) (x5 : Bool) : Option Bool :=
  bif x5 then
    (law09_awake).bind fun v7 =>
    some v7
  else
    (poly_Hull a1).bind fun v9 =>
    (law09_PolyConvex_L2 a1 FUEL ([] : List Point) (w64 (((a1.length : Nat) : Int) - 1))).bind fun o17 =>
    (poly_Hull o17).bind fun v19 =>
    (ref09_Same v19 v9).bind fun v21 =>
    bif !v21 then
      law09_PolyConvex_k3 a1 v9 true
    else
      bif decide (((v9.length : Nat) : Int) > 0) then
        (poly_Hull v9).bind fun v25 =>
        (ref09_Same v25 v9).bind fun v27 =>
        law09_PolyConvex_k3 a1 v9 (!v27)
      else
        law09_PolyConvex_k3 a1 v9 false

def law09_PolyConvex (a1 : List Point) : Option Bool :=
  bif decide (((a1.length : Nat) : Int) > 32) then
    law09_PolyConvex_k1 a1 true
  else
    (ref09_Ranged a1).bind fun v3 =>
    law09_PolyConvex_k1 a1 (!v3)

/- sawmill/sawmilllaw09.inside -/

def law09_inside_k1 (x25 : Bool) : Option Bool :=
  some x25

def law09_inside (a1 : List Point) (a2 : Int) (a3 : Int) (a4 : Int) (a5 : Int) : Option Bool :=
  (law09_pt a2 a4).bind fun v6 =>
  (poly_Has a1 v6).bind fun v8 =>
  bif v8 then
    (law09_pt a2 a5).bind fun v11 =>
    (poly_Has a1 v11).bind fun v13 =>
    bif v13 then
      (law09_pt a3 a4).bind fun v16 =>
      (poly_Has a1 v16).bind fun v18 =>
      bif v18 then
        (law09_pt a3 a5).bind fun v21 =>
        (poly_Has a1 v21).bind fun v23 =>
        law09_inside_k1 v23
      else
        law09_inside_k1 false
    else
      law09_inside_k1 false
  else
    law09_inside_k1 false

/- sawmill/sawmilllaw09.PolyChord -/

def law09_PolyChord_k2 (x29 : Bool) : Option Bool :=
  some x29

def law09_PolyChord_k3 (x43 : Bool) : Option Bool :=
  some x43

def law09_PolyChord_k1 (a1 : List Point) (a2 : List Int) (a3 : Int) (x9 : Bool) : Option Bool :=
  bif x9 then
    (law09_awake).bind fun v11 =>
    some v11
  else
    (poly_Hull a1).bind fun v13 =>
    (poly_Chord a1 (a2.getD 0 default) (a2.getD 1 default)).bind fun v15 =>
    bif ((v15.A == 0) && ((v15.B == 0) && true)) then
      bif ((v13.length : Nat) : Int) == 0 then
        (law09_awake).bind fun v19 =>
        law09_PolyChord_k2 v19
      else
        bif decide ((a2.getD 0 default) ≥ (a2.getD 1 default)) then
          (law09_awake).bind fun v22 =>
          law09_PolyChord_k2 v22
        else
          (law09_inside v13 a3 (w64 (a3 + 1)) (a2.getD 0 default) (a2.getD 1 default)).bind fun v24 =>
          bif !v24 then
            (law09_awake).bind fun v27 =>
            law09_PolyChord_k2 v27
          else
            law09_PolyChord_k2 false
    else
      bif decide (v15.A < v15.B) then
        bif decide ((a2.getD 0 default) < (a2.getD 1 default)) then
          (law09_inside v13 v15.A v15.B (a2.getD 0 default) (a2.getD 1 default)).bind fun v32 =>
          bif v32 then
            (law09_inside v13 (w64 (v15.A - 1)) v15.B (a2.getD 0 default) (a2.getD 1 default)).bind fun v35 =>
            bif !v35 then
              (law09_inside v13 v15.A (w64 (v15.B + 1)) (a2.getD 0 default) (a2.getD 1 default)).bind fun v38 =>
              bif !v38 then
                (law09_awake).bind fun v41 =>
                law09_PolyChord_k3 v41
              else
                law09_PolyChord_k3 false
            else
              law09_PolyChord_k3 false
          else
            law09_PolyChord_k3 false
        else
          law09_PolyChord_k3 false
      else
        law09_PolyChord_k3 false

def law09_PolyChord (a1 : List Point) (a2 : List Int) (a3 : Int) : Option Bool :=
  bif decide (((a1.length : Nat) : Int) > 32) then
    law09_PolyChord_k1 a1 a2 a3 true
  else
    (ref09_Ranged a1).bind fun v5 =>
    bif !v5 then
      law09_PolyChord_k1 a1 a2 a3 true
    else
      bif decide (a3 < (-1000)) then
        law09_PolyChord_k1 a1 a2 a3 true
      else
        law09_PolyChord_k1 a1 a2 a3 (decide (a3 > 1000))

/- sawmill/sawmilllaw09.PolyWithin -/

def law09_PolyWithin_k2 (x26 : Bool) : Option Bool :=
  some x26

def law09_PolyWithin_k3 (x33 : Bool) : Option Bool :=
  some x33

def law09_PolyWithin_k1 (a1 : List Point) (a2 : List Point) (a3 : List Int) (x12 : Bool) : Option Bool :=
  bif x12 then
    (law09_awake).bind fun v14 =>
    some v14
  else
    (poly_Chord a1 (a3.getD 0 default) (a3.getD 3 default)).bind fun v16 =>
    (poly_Chord a1 (a3.getD 1 default) (a3.getD 2 default)).bind fun v18 =>
    (poly_Chord ((([] : List Point) ++ a1) ++ a2) (a3.getD 0 default) (a3.getD 3 default)).bind fun v20 =>
    bif decide (v16.A ≥ v16.B) then
      bif ((v16.A == 0) && ((v16.B == 0) && true)) then
        (law09_awake).bind fun v24 =>
        law09_PolyWithin_k2 v24
      else
        law09_PolyWithin_k2 false
    else
      bif decide (v18.A ≤ v16.A) then
        bif decide (v16.B ≤ v18.B) then
          bif decide (v20.A ≤ v16.A) then
            bif decide (v16.B ≤ v20.B) then
              (law09_awake).bind fun v31 =>
              law09_PolyWithin_k3 v31
            else
              law09_PolyWithin_k3 false
          else
            law09_PolyWithin_k3 false
        else
          law09_PolyWithin_k3 false
      else
        law09_PolyWithin_k3 false

def law09_PolyWithin (a1 : List Point) (a2 : List Point) (a3 : List Int) : Option Bool :=
  bif room (0 + a1.length) 16 then
    bif room ((0 + a1.length) + a2.length) 16 then
      bif decide (((((0 + a1.length) + a2.length) : Nat) : Int) > 32) then
        law09_PolyWithin_k1 a1 a2 a3 true
      else
        (ref09_Ranged ((([] : List Point) ++ a1) ++ a2)).bind fun v7 =>
        bif !v7 then
          law09_PolyWithin_k1 a1 a2 a3 true
        else
          bif decide ((a3.getD 0 default) > (a3.getD 1 default)) then
            law09_PolyWithin_k1 a1 a2 a3 true
          else
            bif decide ((a3.getD 1 default) ≥ (a3.getD 2 default)) then
              law09_PolyWithin_k1 a1 a2 a3 true
            else
              law09_PolyWithin_k1 a1 a2 a3 (decide ((a3.getD 2 default) > (a3.getD 3 default)))
    else none
  else none

end Saw
end Go.SL

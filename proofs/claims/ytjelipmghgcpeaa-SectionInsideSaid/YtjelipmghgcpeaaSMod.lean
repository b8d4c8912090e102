import Derived.Test.YtjelipmghgcpeaaYa5
set_option linter.unusedVariables false
set_option linter.unusedSimpArgs false
namespace Go.SL
namespace Saw

structure Span where
  A : Int
  B : Int

instance : Inhabited Span := ⟨⟨0, 0⟩⟩

def e_Span (r : Span) : List C := [ci r.A, ci r.B]

structure Section where
  Low : Int
  Rows : List Span

instance : Inhabited Section := ⟨⟨0, []⟩⟩

def e_Section (r : Section) : List C := [ci r.Low, tl e_Span default r.Rows]

structure Point where
  X : Int
  Y : Int

instance : Inhabited Point := ⟨⟨0, 0⟩⟩

def e_Point (r : Point) : List C := [ci r.X, ci r.Y]

structure Rect where
  X : Span
  Y : Span

instance : Inhabited Rect := ⟨⟨default, default⟩⟩

def e_Rect (r : Rect) : List C := [ci r.X.A, ci r.X.B, ci r.Y.A, ci r.Y.B]



def globs : List (Nat × C) := []

/- sawmill/sawmilllaw10.few -/

def law10_few (a1 : Section) : Option Bool :=
  some (decide (((a1.Rows.length : Nat) : Int) ≤ 200))

/- sawmill/poly.within -/

def poly_within_k1 (x3 : Bool) : Option Bool :=
  some x3

def poly_within (a1 : Int) : Option Bool :=
  bif decide (a1 ≥ (-600)) then
    poly_within_k1 (decide (a1 ≤ 600))
  else
    poly_within_k1 false

/- sawmill/poly.inRange -/

def poly_inRange_k2 (x2 : Int) (rec_poly_inRange_L1 : Int → Option (Bool ⊕ Unit)) (x10 : Bool) : Option (Bool ⊕ Unit) :=
  bif x10 then
    some (Sum.inl false)
  else
    rec_poly_inRange_L1 (w64 (x2 + 1))

def poly_inRange_L1 (a1 : List Point) : Nat → Int → Option (Bool ⊕ Unit)
  | 0, _ => none
  | n + 1, x2 =>
    bif decide (x2 < ((a1.length : Nat) : Int)) then
      bif inb x2 a1.length then
        (poly_within ((a1.getD x2.toNat default).X)).bind fun v5 =>
        bif !v5 then
          poly_inRange_k2 x2 (poly_inRange_L1 a1 n) true
        else
          (poly_within ((a1.getD x2.toNat default).Y)).bind fun v8 =>
          poly_inRange_k2 x2 (poly_inRange_L1 a1 n) (!v8)
      else none
    else
      some (Sum.inr ())

def poly_inRange (a1 : List Point) : Option Bool :=
  (poly_inRange_L1 a1 FUEL 0).bind fun u14 => Sum.elim (fun v15 => some v15) (fun o12 =>
  some true) u14

/- sawmill/poly.Area2 -/

def poly_Area2_L2 (a1 : List Point) : Nat → Int → Int → Option Int
  | 0, _, _ => none
  | n + 1, x7, x8 =>
    bif decide (x8 < ((a1.length : Nat) : Int)) then
      bif inb x8 a1.length then
        bif nz ((a1.length : Nat) : Int) then
          bif inb (Int.tmod (w64 (x8 + 1)) ((a1.length : Nat) : Int)) a1.length then
            (poly_Area2_L2 a1 n) (w64 (x7 + (w64 ((w64 (((a1.getD x8.toNat default).X) * ((a1.getD (Int.tmod (w64 (x8 + 1)) ((a1.length : Nat) : Int)).toNat default).Y))) - (w64 (((a1.getD (Int.tmod (w64 (x8 + 1)) ((a1.length : Nat) : Int)).toNat default).X) * ((a1.getD x8.toNat default).Y))))))) (w64 (x8 + 1))
          else none
        else none
      else none
    else
      some x7

def poly_Area2_k1 (a1 : List Point) (x5 : Bool) : Option Int :=
  bif x5 then
    some 0
  else
    (poly_Area2_L2 a1 FUEL 0 0).bind fun o14 =>
    some o14

def poly_Area2 (a1 : List Point) : Option Int :=
  bif decide (((a1.length : Nat) : Int) > 32) then
    poly_Area2_k1 a1 true
  else
    (poly_inRange a1).bind fun v3 =>
    poly_Area2_k1 a1 (!v3)

/- sawmill/poly.Check -/

def poly_Check (a1 : List Point) : Option Int :=
  bif decide (((a1.length : Nat) : Int) < 3) then
    some 3
  else
    bif decide (((a1.length : Nat) : Int) > 32) then
      some 4
    else
      (poly_inRange a1).bind fun v4 =>
      bif !v4 then
        some 9
      else
        (poly_Area2 a1).bind fun v7 =>
        bif v7 == 0 then
          some 19
        else
          some 0

/- sawmill/section.heights -/

def section_heights (a1 : Int) (a2 : Int) : Option Span :=
  some (Span.mk (w64 (10 * a1)) (w64 (10 * a2)))

/- slices.Clone[[]sawmill/api.Point,sawmill/api.Point] -/

def slices_Clone_SPoint (a1 : List Point) : Option (List Point) :=
  bif room a1.length 16 then some a1 else none

/- cmp.isNaN[int] -/

def cmp_isNaN_i64 (a1 : Int) : Option Bool :=
  some (a1 != a1)

/- cmp.Compare[int] -/

def cmp_Compare_i64 (a1 : Int) (a2 : Int) : Option Int :=
  (cmp_isNaN_i64 a1).bind fun v3 =>
  (cmp_isNaN_i64 a2).bind fun v5 =>
  bif v3 then
    bif v5 then
      some 0
    else
      some (-1)
  else
    bif v5 then
      some 1
    else
      bif decide (a1 < a2) then
        some (-1)
      else
        bif decide (a1 > a2) then
          some 1
        else
          some 0

/- cmp.Or[int] -/

def cmp_Or_Si64_L1 (a1 : List Int) : Nat → Int → Option (Int ⊕ Unit)
  | 0, _ => none
  | n + 1, x2 =>
    bif decide (x2 < ((a1.length : Nat) : Int)) then
      bif inb x2 a1.length then
        bif (a1.getD x2.toNat default) != 0 then
          some (Sum.inl (a1.getD x2.toNat default))
        else
          (cmp_Or_Si64_L1 a1 n) (w64 (x2 + 1))
      else none
    else
      some (Sum.inr ())

def cmp_Or_Si64 (a1 : List Int) : Option Int :=
  (cmp_Or_Si64_L1 a1 FUEL 0).bind fun u8 => Sum.elim (fun v9 => some v9) (fun o6 =>
  some 0) u8

/- sawmill/poly.Hull$1 -/

def poly_Hull_1 (a1 : Point) (a2 : Point) : Option Int :=
  (cmp_Compare_i64 a1.X a2.X).bind fun v3 =>
  (cmp_Compare_i64 a1.Y a2.Y).bind fun v5 =>
  (cmp_Or_Si64 ([v3, v5] : List Int)).bind fun v7 =>
  some v7

/- slices.SortFunc[[]sawmill/api.Point,sawmill/api.Point] -/

def slices_SortFunc_SPoint (a1 : List Point) : Option (List Point) :=
  bif sortOk a1.length then some (sortBy poly_Hull_1 a1) else none

/- slices.Compact[[]sawmill/api.Point,sawmill/api.Point] -/

def slices_Compact_SPoint_k3 (x12 : Int) (rec_slices_Compact_SPoint_L2 : (List Point) → Int → Int → Option ((List Point) × Int)) (l19 : List Point) (x20 : Int) : Option ((List Point) × Int) :=
  rec_slices_Compact_SPoint_L2 l19 x20 (w64 (x12 + 1))

def slices_Compact_SPoint_L2 (l3 : List Point) (x4 : Int) : Nat → (List Point) → Int → Int → Option ((List Point) × Int)
  | 0, _, _, _ => none
  | n + 1, l10, x11, x12 =>
    bif decide (x12 < (((l3.length - x4.toNat) : Nat) : Int)) then
      bif inb x12 (l3.length - x4.toNat) then
        bif Nat.ble (x4.toNat + (l3.length - x4.toNat)) l10.length then
          bif inb (w64 (x12 - 1)) (l3.length - x4.toNat) then
            bif !((((l10.getD (x4.toNat + x12.toNat) default).X) == ((l10.getD (x4.toNat + ((w64 (x12 - 1)).toNat)) default).X)) && ((((l10.getD (x4.toNat + x12.toNat) default).Y) == ((l10.getD (x4.toNat + ((w64 (x12 - 1)).toNat)) default).Y)) && true)) then
              bif inb x11 l10.length then
                slices_Compact_SPoint_k3 x12 (slices_Compact_SPoint_L2 l3 x4 n) (l10.set x11.toNat (l10.getD (x4.toNat + x12.toNat) default)) (w64 (x11 + 1))
              else none
            else
              slices_Compact_SPoint_k3 x12 (slices_Compact_SPoint_L2 l3 x4 n) l10 x11
          else none
        else none
      else none
    else
      some (l10, x11)

def slices_Compact_SPoint_L1 : Nat → (List Point) → Int → Option (((List Point) × (List Point)) ⊕ (List Point))
  | 0, _, _ => none
  | n + 1, l3, x4 =>
    bif decide (x4 < ((l3.length : Nat) : Int)) then
      bif inb x4 l3.length then
        bif inb (w64 (x4 - 1)) l3.length then
          bif ((((l3.getD x4.toNat default).X) == ((l3.getD ((w64 (x4 - 1)).toNat) default).X)) && ((((l3.getD x4.toNat default).Y) == ((l3.getD ((w64 (x4 - 1)).toNat) default).Y)) && true)) then
            bif slOk x4 ((l3.length : Nat) : Int) l3.length then
              (slices_Compact_SPoint_L2 l3 x4 FUEL l3 x4 1).bind fun o23 =>
              bif slOk o23.2 ((o23.1.length : Nat) : Int) o23.1.length then
                bif slOk 0 o23.2 o23.1.length then
                  some (Sum.inl ((o23.1.take o23.2.toNat), (o23.1.take o23.2.toNat)))
                else none
              else none
            else none
          else
            (slices_Compact_SPoint_L1 n) l3 (w64 (x4 + 1))
        else none
      else none
    else
      some (Sum.inr l3)

def slices_Compact_SPoint (a1 : List Point) : Option ((List Point) × (List Point)) :=
  bif decide (((a1.length : Nat) : Int) < 2) then
    some (a1, a1)
  else
    (slices_Compact_SPoint_L1 FUEL a1 1).bind fun u30 => Sum.elim (fun v31 => some v31) (fun o28 =>
    some (o28, o28)) u30

/- sawmill/poly.cross -/

def poly_cross (a1 : Point) (a2 : Point) (a3 : Point) : Option Int :=
  some (w64 ((w64 ((w64 (a2.X - a1.X)) * (w64 (a3.Y - a1.Y)))) - (w64 ((w64 (a3.X - a1.X)) * (w64 (a2.Y - a1.Y))))))

/- sawmill/poly.chain -/

def poly_chain_k3 (l6 : List Point) (rec_poly_chain_L2 : (List Point) → Option (List Point)) (x12 : Bool) : Option (List Point) :=
  bif x12 then
    bif slOk 0 (w64 (((l6.length : Nat) : Int) - 1)) l6.length then
      rec_poly_chain_L2 (l6.take ((w64 (((l6.length : Nat) : Int) - 1)).toNat))
    else none
  else
    some l6

def poly_chain_L2 (a1 : List Point) (x3 : Int) : Nat → (List Point) → Option (List Point)
  | 0, _ => none
  | n + 1, l6 =>
    bif decide (((l6.length : Nat) : Int) ≥ 2) then
      bif inb (w64 (((l6.length : Nat) : Int) - 2)) l6.length then
        bif inb (w64 (((l6.length : Nat) : Int) - 1)) l6.length then
          (poly_cross (l6.getD ((w64 (((l6.length : Nat) : Int) - 2)).toNat) default) (l6.getD ((w64 (((l6.length : Nat) : Int) - 1)).toNat) default) (a1.getD x3.toNat default)).bind fun v10 =>
          poly_chain_k3 l6 (poly_chain_L2 a1 x3 n) (decide (v10 ≤ 0))
        else none
      else none
    else
      poly_chain_k3 l6 (poly_chain_L2 a1 x3 n) false

def poly_chain_L1 (a1 : List Point) : Nat → (List Point) → Int → Option (List Point)
  | 0, _, _ => none
  | n + 1, l2, x3 =>
    bif decide (x3 < ((a1.length : Nat) : Int)) then
      bif inb x3 a1.length then
        (poly_chain_L2 a1 x3 FUEL l2).bind fun o16 =>
        bif room (o16.length + 1) 16 then
          (poly_chain_L1 a1 n) (o16 ++ ([(a1.getD x3.toNat default)] : List Point)) (w64 (x3 + 1))
        else none
      else none
    else
      some l2

def poly_chain (a1 : List Point) : Option (List Point) :=
  (poly_chain_L1 a1 FUEL ([] : List Point) 0).bind fun o20 =>
  bif slOk 0 (w64 (((o20.length : Nat) : Int) - 1)) o20.length then
    some (o20.take ((w64 (((o20.length : Nat) : Int) - 1)).toNat))
  else none

/- slices.Reverse[[]sawmill/api.Point,sawmill/api.Point] -/

def slices_Reverse_SPoint_L1 : Nat → (List Point) → Int → Int → Option (List Point)
  | 0, _, _, _ => none
  | n + 1, l2, x3, x4 =>
    bif decide (x3 < x4) then
      bif inb x4 l2.length then
        bif inb x3 l2.length then
          (slices_Reverse_SPoint_L1 n) ((l2.set x3.toNat (l2.getD x4.toNat default)).set x4.toNat (l2.getD x3.toNat default)) (w64 (x3 + 1)) (w64 (x4 - 1))
        else none
      else none
    else
      some l2

def slices_Reverse_SPoint (a1 : List Point) : Option (List Point) :=
  (slices_Reverse_SPoint_L1 FUEL a1 0 (w64 (((a1.length : Nat) : Int) - 1))).bind fun o9 =>
  some o9

/- sawmill/poly.Hull -/

def poly_Hull_k1 (a1 : List Point) (x6 : Bool) : Option (List Point) :=
  bif x6 then
    some ([] : List Point)
  else
    (slices_Clone_SPoint a1).bind fun v8 =>
    (slices_SortFunc_SPoint v8).bind fun v10 =>
    bif v10.length == v8.length then
      (slices_Compact_SPoint v10).bind fun v13 =>
      (poly_chain v13.2).bind fun v15 =>
      (slices_Reverse_SPoint v13.2).bind fun v17 =>
      bif v17.length == v13.2.length then
        (poly_chain v17).bind fun v20 =>
        bif room (v15.length + v20.length) 16 then
          bif decide ((((v15.length + v20.length) : Nat) : Int) < 3) then
            some ([] : List Point)
          else
            some (v15 ++ v20)
        else none
      else none
    else none

def poly_Hull (a1 : List Point) : Option (List Point) :=
  bif decide (((a1.length : Nat) : Int) < 3) then
    poly_Hull_k1 a1 true
  else
    bif decide (((a1.length : Nat) : Int) > 32) then
      poly_Hull_k1 a1 true
    else
      (poly_inRange a1).bind fun v4 =>
      poly_Hull_k1 a1 (!v4)

/- sawmill/poly.Bounds -/

def poly_Bounds_L1 (a1 : List Point) : Nat → Int → Rect → Option Rect
  | 0, _, _ => none
  | n + 1, x4, x5 =>
    bif decide (x4 < ((a1.length : Nat) : Int)) then
      bif inb x4 a1.length then
        (poly_Bounds_L1 a1 n) (w64 (x4 + 1)) (Rect.mk (Span.mk (imin x5.X.A ((a1.getD x4.toNat default).X)) (imax x5.X.B ((a1.getD x4.toNat default).X))) (Span.mk (imin x5.Y.A ((a1.getD x4.toNat default).Y)) (imax x5.Y.B ((a1.getD x4.toNat default).Y))))
      else none
    else
      some x5

def poly_Bounds (a1 : List Point) : Option Rect :=
  bif ((a1.length : Nat) : Int) == 0 then
    some (Rect.mk (Span.mk 0 0) (Span.mk 0 0))
  else
    bif inb 0 a1.length then
      (poly_Bounds_L1 a1 FUEL 0 (Rect.mk (Span.mk ((a1.getD (0 : Int).toNat default).X) ((a1.getD (0 : Int).toNat default).X)) (Span.mk ((a1.getD (0 : Int).toNat default).Y) ((a1.getD (0 : Int).toNat default).Y)))).bind fun o9 =>
      some o9
    else none

/- sawmill/poly.floor -/

def poly_floor_k1 (x5 : Int) : Option Int :=
  some x5

def poly_floor (a1 : Int) (a2 : Int) : Option Int :=
  bif nz a2 then
    bif decide ((Int.tmod a1 a2) < 0) then
      poly_floor_k1 (w64 ((w64 (Int.tdiv a1 a2)) - 1))
    else
      poly_floor_k1 (w64 (Int.tdiv a1 a2))
  else none

/- sawmill/poly.Chord$1 -/

def poly_Chord_1_k4 (x6 : Int) (rec_poly_Chord_1_L1 : Int → Int → Int → Option (Int × Int)) (x23 : Int) (x24 : Int) : Option (Int × Int) :=
  rec_poly_Chord_1_L1 x23 x24 (w64 (x6 + 1))

def poly_Chord_1_k3 (a1 : Int) (a3 : List Point) (x4 : Int) (x5 : Int) (x6 : Int) (rec_poly_Chord_1_L1 : Int → Int → Int → Option (Int × Int)) (x19 : Bool) : Option (Int × Int) :=
  bif x19 then
    (poly_floor (w64 ((w64 (((a3.getD ((Int.tmod (w64 (x6 + 1)) ((a3.length : Nat) : Int)).toNat) default).X) - ((a3.getD x6.toNat default).X))) * (w64 (a1 - ((a3.getD ((Int.tmod (w64 (x6 + 1)) ((a3.length : Nat) : Int)).toNat) default).Y))))) (w64 (((a3.getD x6.toNat default).Y) - ((a3.getD ((Int.tmod (w64 (x6 + 1)) ((a3.length : Nat) : Int)).toNat) default).Y)))).bind fun v21 =>
    poly_Chord_1_k4 x6 rec_poly_Chord_1_L1 (w64 (((a3.getD ((Int.tmod (w64 (x6 + 1)) ((a3.length : Nat) : Int)).toNat) default).X) - v21)) x5
  else
    poly_Chord_1_k4 x6 rec_poly_Chord_1_L1 x4 x5

def poly_Chord_1_k2 (a1 : Int) (a3 : List Point) (x4 : Int) (x5 : Int) (x6 : Int) (rec_poly_Chord_1_L1 : Int → Int → Int → Option (Int × Int)) (x13 : Bool) : Option (Int × Int) :=
  bif x13 then
    (poly_floor (w64 ((w64 (((a3.getD ((Int.tmod (w64 (x6 + 1)) ((a3.length : Nat) : Int)).toNat) default).X) - ((a3.getD x6.toNat default).X))) * (w64 (a1 - ((a3.getD x6.toNat default).Y))))) (w64 (((a3.getD ((Int.tmod (w64 (x6 + 1)) ((a3.length : Nat) : Int)).toNat) default).Y) - ((a3.getD x6.toNat default).Y)))).bind fun v15 =>
    poly_Chord_1_k4 x6 rec_poly_Chord_1_L1 x4 (w64 (((a3.getD x6.toNat default).X) + v15))
  else
    bif decide (((a3.getD x6.toNat default).Y) > ((a3.getD ((Int.tmod (w64 (x6 + 1)) ((a3.length : Nat) : Int)).toNat) default).Y)) then
      bif decide (((a3.getD ((Int.tmod (w64 (x6 + 1)) ((a3.length : Nat) : Int)).toNat) default).Y) ≤ a1) then
        poly_Chord_1_k3 a1 a3 x4 x5 x6 rec_poly_Chord_1_L1 (decide (a1 ≤ ((a3.getD x6.toNat default).Y)))
      else
        poly_Chord_1_k3 a1 a3 x4 x5 x6 rec_poly_Chord_1_L1 false
    else
      poly_Chord_1_k3 a1 a3 x4 x5 x6 rec_poly_Chord_1_L1 false

def poly_Chord_1_L1 (a1 : Int) (a3 : List Point) : Nat → Int → Int → Int → Option (Int × Int)
  | 0, _, _, _ => none
  | n + 1, x4, x5, x6 =>
    bif decide (x6 < ((a3.length : Nat) : Int)) then
      bif inb x6 a3.length then
        bif nz ((a3.length : Nat) : Int) then
          bif inb (Int.tmod (w64 (x6 + 1)) ((a3.length : Nat) : Int)) a3.length then
            bif decide (((a3.getD x6.toNat default).Y) < ((a3.getD ((Int.tmod (w64 (x6 + 1)) ((a3.length : Nat) : Int)).toNat) default).Y)) then
              bif decide (((a3.getD x6.toNat default).Y) ≤ a1) then
                poly_Chord_1_k2 a1 a3 x4 x5 x6 (poly_Chord_1_L1 a1 a3 n) (decide (a1 ≤ ((a3.getD ((Int.tmod (w64 (x6 + 1)) ((a3.length : Nat) : Int)).toNat) default).Y)))
              else
                poly_Chord_1_k2 a1 a3 x4 x5 x6 (poly_Chord_1_L1 a1 a3 n) false
            else
              poly_Chord_1_k2 a1 a3 x4 x5 x6 (poly_Chord_1_L1 a1 a3 n) false
          else none
        else none
      else none
    else
      some (x4, x5)

def poly_Chord_1 (a1 : Int) (a2 : Rect) (a3 : List Point) : Option (Int × Int) :=
  (poly_Chord_1_L1 a1 a3 FUEL a2.X.A a2.X.B 0).bind fun o27 =>
  some (o27.1, o27.2)

/- sawmill/poly.Chord -/

def poly_Chord_k1 (a2 : Int) (a3 : Int) (v4 : (List Point)) (v6 : Rect) (x11 : Bool) : Option Span :=
  bif x11 then
    some (Span.mk 0 0)
  else
    (poly_Chord_1 a2 v6 v4).bind fun v13 =>
    (poly_Chord_1 a3 v6 v4).bind fun v15 =>
    bif decide ((imax v13.1 v15.1) ≥ (imin v13.2 v15.2)) then
      some (Span.mk 0 0)
    else
      some (Span.mk (imax v13.1 v15.1) (imin v13.2 v15.2))

def poly_Chord (a1 : List Point) (a2 : Int) (a3 : Int) : Option Span :=
  (poly_Hull a1).bind fun v4 =>
  (poly_Bounds v4).bind fun v6 =>
  bif ((v4.length : Nat) : Int) == 0 then
    poly_Chord_k1 a2 a3 v4 v6 true
  else
    bif decide (a2 ≥ a3) then
      poly_Chord_k1 a2 a3 v4 v6 true
    else
      bif decide (a2 < v6.Y.A) then
        poly_Chord_k1 a2 a3 v4 v6 true
      else
        poly_Chord_k1 a2 a3 v4 v6 (decide (a3 > v6.Y.B))

/- sawmill/section.Of$1 -/

def section_Of_1 (a1 : Int) (a2 : List Point) : Option Span :=
  (section_heights a1 (w64 (a1 + 1))).bind fun v3 =>
  (poly_Chord a2 v3.A v3.B).bind fun v5 =>
  some v5

/- sawmill/section.isEmpty -/

def section_isEmpty (a1 : Span) : Option Bool :=
  some (decide (a1.A ≥ a1.B))

/- sawmill/section.build -/

def section_build_k3 (x3 : Int) (rec_section_build_L1 : Int → Int → Int → (List Span) → Option (Int × Int × (List Span))) (x17 : Int) (x18 : Int) (l19 : List Span) : Option (Int × Int × (List Span)) :=
  rec_section_build_L1 x17 (w64 (x3 + 1)) x18 l19

def section_build_k2 (x3 : Int) (l5 : List Span) (rec_section_build_L1 : Int → Int → Int → (List Span) → Option (Int × Int × (List Span))) (v7 : Span) (x13 : Int) : Option (Int × Int × (List Span)) :=
  bif room (l5.length + 1) 16 then
    section_build_k3 x3 rec_section_build_L1 (((l5.length + 1) : Nat) : Int) x13 (l5 ++ ([v7] : List Span))
  else none

def section_build_L1 (a1 : List Point) : Nat → Int → Int → Int → (List Span) → Option (Int × Int × (List Span))
  | 0, _, _, _, _ => none
  | n + 1, x2, x3, x4, l5 =>
    bif decide (x3 < 60) then
      (section_Of_1 x3 a1).bind fun v7 =>
      (section_isEmpty v7).bind fun v9 =>
      bif !v9 then
        bif x2 == 0 then
          section_build_k2 x3 l5 (section_build_L1 a1 n) v7 x3
        else
          section_build_k2 x3 l5 (section_build_L1 a1 n) v7 x4
      else
        bif decide (x2 > 0) then
          bif room (l5.length + 1) 16 then
            section_build_k3 x3 (section_build_L1 a1 n) x2 x4 (l5 ++ ([(Span.mk 0 0)] : List Span))
          else none
        else
          section_build_k3 x3 (section_build_L1 a1 n) x2 x4 l5
    else
      some (x2, x4, l5)

def section_build (a1 : List Point) : Option Section :=
  (section_build_L1 a1 FUEL 0 (-60) 0 ([] : List Span)).bind fun o23 =>
  bif slOk 0 o23.1 o23.2.2.length then
    some (Section.mk o23.2.1 (o23.2.2.take o23.1.toNat))
  else none

/- sawmill/section.Of -/

def section_Of (a1 : List Point) : Option (Section × Int) :=
  (poly_Check a1).bind fun v2 =>
  bif v2 != 0 then
    some ((Section.mk 0 ([] : List Span)), v2)
  else
    (section_build a1).bind fun v5 =>
    bif ((v5.Rows.length : Nat) : Int) == 0 then
      some ((Section.mk 0 ([] : List Span)), 18)
    else
      some ((Section.mk v5.Low v5.Rows), 0)

/- sawmill/sawmilllaw10.sample -/

def law10_sample : Option Section :=
  some (Section.mk 0 ([(Span.mk (-50) 50), (Span.mk (-60) 60)] : List Span))

/- sawmill/section.inRange -/

def section_inRange_k1 (x3 : Bool) : Option Bool :=
  some x3

def section_inRange (a1 : Span) : Option Bool :=
  bif decide ((imin a1.A a1.B) ≥ (-600)) then
    section_inRange_k1 (decide ((imax a1.A a1.B) ≤ 600))
  else
    section_inRange_k1 false

/- sawmill/section.Check -/

def section_Check_L2 (a1 : Section) : Nat → Int → Option (Int ⊕ Unit)
  | 0, _ => none
  | n + 1, x6 =>
    bif decide (x6 < ((a1.Rows.length : Nat) : Int)) then
      bif inb x6 a1.Rows.length then
        (section_inRange (a1.Rows.getD x6.toNat default)).bind fun v9 =>
        bif !v9 then
          some (Sum.inl 9)
        else
          (section_Check_L2 a1 n) (w64 (x6 + 1))
      else none
    else
      some (Sum.inr ())

def section_Check_k5 (x27 : Int) (rec_section_Check_L4 : Int → Option (Int ⊕ Unit)) (x33 : Bool) : Option (Int ⊕ Unit) :=
  bif x33 then
    some (Sum.inl 19)
  else
    rec_section_Check_L4 (w64 (x27 + 1))

def section_Check_L4 (a1 : Section) : Nat → Int → Option (Int ⊕ Unit)
  | 0, _ => none
  | n + 1, x27 =>
    bif decide (x27 < ((a1.Rows.length : Nat) : Int)) then
      bif inb x27 a1.Rows.length then
        (section_isEmpty (a1.Rows.getD x27.toNat default)).bind fun v30 =>
        bif v30 then
          section_Check_k5 x27 (section_Check_L4 a1 n) (!((((a1.Rows.getD x27.toNat default).A) == 0) && ((((a1.Rows.getD x27.toNat default).B) == 0) && true)))
        else
          section_Check_k5 x27 (section_Check_L4 a1 n) false
      else none
    else
      some (Sum.inr ())

def section_Check_k3 (a1 : Section) (x25 : Bool) : Option Int :=
  bif x25 then
    some 19
  else
    (section_Check_L4 a1 FUEL 0).bind fun u37 => Sum.elim (fun v38 => some v38) (fun o35 =>
    some 0) u37

def section_Check_k1 (a1 : Section) (x4 : Bool) : Option Int :=
  bif x4 then
    some 9
  else
    (section_Check_L2 a1 FUEL 0).bind fun u14 => Sum.elim (fun v15 => some v15) (fun o12 =>
    bif ((a1.Rows.length : Nat) : Int) == 0 then
      bif a1.Low != 0 then
        some 19
      else
        some 0
    else
      bif inb 0 a1.Rows.length then
        (section_isEmpty (a1.Rows.getD (0 : Int).toNat default)).bind fun v19 =>
        bif v19 then
          section_Check_k3 a1 true
        else
          bif inb (w64 (((a1.Rows.length : Nat) : Int) - 1)) a1.Rows.length then
            (section_isEmpty (a1.Rows.getD (w64 (((a1.Rows.length : Nat) : Int) - 1)).toNat default)).bind fun v23 =>
            section_Check_k3 a1 v23
          else none
      else none) u14

def section_Check (a1 : Section) : Option Int :=
  bif decide (((a1.Rows.length : Nat) : Int) > 120) then
    some 4
  else
    bif decide (a1.Low < (-60)) then
      section_Check_k1 a1 true
    else
      section_Check_k1 a1 (decide (a1.Low > (w64 (60 - ((a1.Rows.length : Nat) : Int)))))

/- sawmill/section.valid -/

def section_valid (a1 : Section) : Option Section :=
  (section_Check a1).bind fun v2 =>
  bif v2 != 0 then
    some (Section.mk 0 ([] : List Span))
  else
    some a1

/- sawmill/section.at -/

def section_at_k1 (a1 : Section) (a2 : Int) (x4 : Bool) : Option Span :=
  bif x4 then
    some (Span.mk 0 0)
  else
    bif inb (w64 (a2 - a1.Low)) a1.Rows.length then
      some (a1.Rows.getD (w64 (a2 - a1.Low)).toNat default)
    else none

def section_at (a1 : Section) (a2 : Int) : Option Span :=
  bif decide (a2 < a1.Low) then
    section_at_k1 a1 a2 true
  else
    section_at_k1 a1 a2 (decide (a2 ≥ (w64 (a1.Low + ((a1.Rows.length : Nat) : Int)))))

/- sawmill/section.Flip$1 -/

def section_Flip_1 (a1 : Int) (a2 : Section) : Option Span :=
  (section_at a2 (w64 ((w64 (0 - a1)) - 1))).bind fun v3 =>
  some v3

/- sawmill/section.build -/

def section_build_s1_k3 (x3 : Int) (rec_section_build_s1_L1 : Int → Int → Int → (List Span) → Option (Int × Int × (List Span))) (x17 : Int) (x18 : Int) (l19 : List Span) : Option (Int × Int × (List Span)) :=
  rec_section_build_s1_L1 x17 (w64 (x3 + 1)) x18 l19

def section_build_s1_k2 (x3 : Int) (l5 : List Span) (rec_section_build_s1_L1 : Int → Int → Int → (List Span) → Option (Int × Int × (List Span))) (v7 : Span) (x13 : Int) : Option (Int × Int × (List Span)) :=
  bif room (l5.length + 1) 16 then
    section_build_s1_k3 x3 rec_section_build_s1_L1 (((l5.length + 1) : Nat) : Int) x13 (l5 ++ ([v7] : List Span))
  else none

def section_build_s1_L1 (a1 : Section) : Nat → Int → Int → Int → (List Span) → Option (Int × Int × (List Span))
  | 0, _, _, _, _ => none
  | n + 1, x2, x3, x4, l5 =>
    bif decide (x3 < 60) then
      (section_Flip_1 x3 a1).bind fun v7 =>
      (section_isEmpty v7).bind fun v9 =>
      bif !v9 then
        bif x2 == 0 then
          section_build_s1_k2 x3 l5 (section_build_s1_L1 a1 n) v7 x3
        else
          section_build_s1_k2 x3 l5 (section_build_s1_L1 a1 n) v7 x4
      else
        bif decide (x2 > 0) then
          bif room (l5.length + 1) 16 then
            section_build_s1_k3 x3 (section_build_s1_L1 a1 n) x2 x4 (l5 ++ ([(Span.mk 0 0)] : List Span))
          else none
        else
          section_build_s1_k3 x3 (section_build_s1_L1 a1 n) x2 x4 l5
    else
      some (x2, x4, l5)

def section_build_s1 (a1 : Section) : Option Section :=
  (section_build_s1_L1 a1 FUEL 0 (-60) 0 ([] : List Span)).bind fun o23 =>
  bif slOk 0 o23.1 o23.2.2.length then
    some (Section.mk o23.2.1 (o23.2.2.take o23.1.toNat))
  else none

/- sawmill/section.Flip -/

def section_Flip (a1 : Section) : Option Section :=
  (section_valid a1).bind fun v2 =>
  (section_build_s1 v2).bind fun v4 =>
  some (Section.mk v4.Low v4.Rows)

/- sawmill/span.size -/

def span_size (a1 : Span) : Option Int :=
  bif decide (a1.A ≥ a1.B) then
    some 0
  else
    some (IntKind.u64.wrap ((IntKind.u64.wrap (a1.B)) - (IntKind.u64.wrap (a1.A))))

/- sawmill/span.limited -/

def span_limited (a1 : Int) : Option Int :=
  some (w64 (imin a1 9223372036854775807))

/- sawmill/span.Len -/

def span_Len (a1 : Span) : Option Int :=
  (span_size a1).bind fun v2 =>
  (span_limited v2).bind fun v4 =>
  some v4

/- sawmill/section.Area -/

def section_Area_L1 (v2 : Section) : Nat → Int → Int → Option Int
  | 0, _, _ => none
  | n + 1, x4, x5 =>
    bif decide (x5 < ((v2.Rows.length : Nat) : Int)) then
      bif inb x5 v2.Rows.length then
        (span_Len (v2.Rows.getD x5.toNat default)).bind fun v8 =>
        (section_Area_L1 v2 n) (w64 (x4 + v8)) (w64 (x5 + 1))
      else none
    else
      some x4

def section_Area (a1 : Section) : Option Int :=
  (section_valid a1).bind fun v2 =>
  (section_Area_L1 v2 FUEL 0 0).bind fun o11 =>
  some (w64 (10 * o11))

/- sawmill/span.Meet -/

def span_Meet (a1 : Span) (a2 : Span) : Option Span :=
  bif decide ((imax a1.A a2.A) ≥ (imin a1.B a2.B)) then
    some (Span.mk 0 0)
  else
    some (Span.mk (imax a1.A a2.A) (imin a1.B a2.B))

/- sawmill/section.Within -/

def section_Within_L1 (a2 : Rect) (v3 : Section) : Nat → Int → Int → Option Int
  | 0, _, _ => none
  | n + 1, x5, x6 =>
    bif decide (x6 < ((v3.Rows.length : Nat) : Int)) then
      bif inb x6 v3.Rows.length then
        (section_heights (w64 (v3.Low + x6)) (w64 ((w64 (v3.Low + x6)) + 1))).bind fun v9 =>
        (span_Meet (v3.Rows.getD x6.toNat default) a2.X).bind fun v11 =>
        (span_Len v11).bind fun v13 =>
        (span_Meet v9 a2.Y).bind fun v15 =>
        (span_Len v15).bind fun v17 =>
        (section_Within_L1 a2 v3 n) (w64 (x5 + (w64 (v13 * v17)))) (w64 (x6 + 1))
      else none
    else
      some x5

def section_Within (a1 : Section) (a2 : Rect) : Option Int :=
  (section_valid a1).bind fun v3 =>
  (section_Within_L1 a2 v3 FUEL 0 0).bind fun o20 =>
  some o20

/- sawmill/section.Bounds -/

def section_Bounds_k2 (x6 : Int) (rec_section_Bounds_L1 : Int → Span → Option Span) (x13 : Span) : Option Span :=
  rec_section_Bounds_L1 (w64 (x6 + 1)) x13

def section_Bounds_L1 (v2 : Section) : Nat → Int → Span → Option Span
  | 0, _, _ => none
  | n + 1, x6, x7 =>
    bif decide (x6 < ((v2.Rows.length : Nat) : Int)) then
      bif inb x6 v2.Rows.length then
        (section_isEmpty (v2.Rows.getD x6.toNat default)).bind fun v10 =>
        bif !v10 then
          section_Bounds_k2 x6 (section_Bounds_L1 v2 n) (Span.mk (imin x7.A ((v2.Rows.getD x6.toNat default).A)) (imax x7.B ((v2.Rows.getD x6.toNat default).B)))
        else
          section_Bounds_k2 x6 (section_Bounds_L1 v2 n) x7
      else none
    else
      some x7

def section_Bounds (a1 : Section) : Option Rect :=
  (section_valid a1).bind fun v2 =>
  bif ((v2.Rows.length : Nat) : Int) == 0 then
    some (Rect.mk (Span.mk 0 0) (Span.mk 0 0))
  else
    bif inb 0 v2.Rows.length then
      (section_Bounds_L1 v2 FUEL 0 (v2.Rows.getD (0 : Int).toNat default)).bind fun o15 =>
      (section_heights v2.Low (w64 (v2.Low + ((v2.Rows.length : Nat) : Int)))).bind fun v17 =>
      some (Rect.mk o15 v17)
    else none

/- sawmill/section.Mirror$1 -/

def section_Mirror_1 (a1 : Int) (a2 : Section) : Option Span :=
  (section_at a2 a1).bind fun v3 =>
  some (Span.mk (w64 (0 - v3.B)) (w64 (0 - v3.A)))

/- sawmill/section.build -/

def section_build_s2_k3 (x3 : Int) (rec_section_build_s2_L1 : Int → Int → Int → (List Span) → Option (Int × Int × (List Span))) (x17 : Int) (x18 : Int) (l19 : List Span) : Option (Int × Int × (List Span)) :=
  rec_section_build_s2_L1 x17 (w64 (x3 + 1)) x18 l19

def section_build_s2_k2 (x3 : Int) (l5 : List Span) (rec_section_build_s2_L1 : Int → Int → Int → (List Span) → Option (Int × Int × (List Span))) (v7 : Span) (x13 : Int) : Option (Int × Int × (List Span)) :=
  bif room (l5.length + 1) 16 then
    section_build_s2_k3 x3 rec_section_build_s2_L1 (((l5.length + 1) : Nat) : Int) x13 (l5 ++ ([v7] : List Span))
  else none

def section_build_s2_L1 (a1 : Section) : Nat → Int → Int → Int → (List Span) → Option (Int × Int × (List Span))
  | 0, _, _, _, _ => none
  | n + 1, x2, x3, x4, l5 =>
    bif decide (x3 < 60) then
      (section_Mirror_1 x3 a1).bind fun v7 =>
      (section_isEmpty v7).bind fun v9 =>
      bif !v9 then
        bif x2 == 0 then
          section_build_s2_k2 x3 l5 (section_build_s2_L1 a1 n) v7 x3
        else
          section_build_s2_k2 x3 l5 (section_build_s2_L1 a1 n) v7 x4
      else
        bif decide (x2 > 0) then
          bif room (l5.length + 1) 16 then
            section_build_s2_k3 x3 (section_build_s2_L1 a1 n) x2 x4 (l5 ++ ([(Span.mk 0 0)] : List Span))
          else none
        else
          section_build_s2_k3 x3 (section_build_s2_L1 a1 n) x2 x4 l5
    else
      some (x2, x4, l5)

def section_build_s2 (a1 : Section) : Option Section :=
  (section_build_s2_L1 a1 FUEL 0 (-60) 0 ([] : List Span)).bind fun o23 =>
  bif slOk 0 o23.1 o23.2.2.length then
    some (Section.mk o23.2.1 (o23.2.2.take o23.1.toNat))
  else none

/- sawmill/section.Mirror -/

def section_Mirror (a1 : Section) : Option Section :=
  (section_valid a1).bind fun v2 =>
  (section_build_s2 v2).bind fun v4 =>
  some (Section.mk v4.Low v4.Rows)

/- slices.Equal[[]sawmill/api.Span,sawmill/api.Span] -/

def slices_Equal_SSpan_L1 (a1 : List Span) (a2 : List Span) : Nat → Int → Option (Bool ⊕ Unit)
  | 0, _ => none
  | n + 1, x4 =>
    bif decide (x4 < ((a1.length : Nat) : Int)) then
      bif inb x4 a1.length then
        bif inb x4 a2.length then
          bif !((((a1.getD x4.toNat default).A) == ((a2.getD x4.toNat default).A)) && ((((a1.getD x4.toNat default).B) == ((a2.getD x4.toNat default).B)) && true)) then
            some (Sum.inl false)
          else
            (slices_Equal_SSpan_L1 a1 a2 n) (w64 (x4 + 1))
        else none
      else none
    else
      some (Sum.inr ())

def slices_Equal_SSpan (a1 : List Span) (a2 : List Span) : Option Bool :=
  bif ((a1.length : Nat) : Int) != ((a2.length : Nat) : Int) then
    some false
  else
    (slices_Equal_SSpan_L1 a1 a2 FUEL 0).bind fun u11 => Sum.elim (fun v12 => some v12) (fun o9 =>
    some true) u11

/- sawmill/section.Equal -/

def section_Equal_k1 (x10 : Bool) : Option Bool :=
  some x10

def section_Equal (a1 : Section) (a2 : Section) : Option Bool :=
  (section_valid a1).bind fun v3 =>
  (section_valid a2).bind fun v5 =>
  bif v3.Low == v5.Low then
    (slices_Equal_SSpan v3.Rows v5.Rows).bind fun v8 =>
    section_Equal_k1 v8
  else
    section_Equal_k1 false

/- slices.Clone[[]sawmill/api.Span,sawmill/api.Span] -/

def slices_Clone_SSpan (a1 : List Span) : Option (List Span) :=
  bif room a1.length 16 then some a1 else none

/- sawmill/section.Shift -/

def section_Shift_k3 (x12 : Int) (rec_section_Shift_L2 : Int → (List Span) → Option (List Span)) (l20 : List Span) : Option (List Span) :=
  rec_section_Shift_L2 (w64 (x12 + 1)) l20

def section_Shift_L2 (a2 : Int) (v4 : Section) : Nat → Int → (List Span) → Option (List Span)
  | 0, _, _ => none
  | n + 1, x12, l13 =>
    bif decide (x12 < ((v4.Rows.length : Nat) : Int)) then
      bif inb x12 v4.Rows.length then
        (section_isEmpty (v4.Rows.getD x12.toNat default)).bind fun v16 =>
        bif !v16 then
          bif inb x12 l13.length then
            section_Shift_k3 x12 (section_Shift_L2 a2 v4 n) (l13.set x12.toNat (Span.mk (w64 (((v4.Rows.getD x12.toNat default).A) + a2)) (w64 (((v4.Rows.getD x12.toNat default).B) + a2))))
          else none
        else
          section_Shift_k3 x12 (section_Shift_L2 a2 v4 n) l13
      else none
    else
      some l13

def section_Shift_k1 (a2 : Int) (a3 : Int) (v4 : Section) (x8 : Bool) : Option Section :=
  bif x8 then
    some (Section.mk 0 ([] : List Span))
  else
    (slices_Clone_SSpan v4.Rows).bind fun v10 =>
    (section_Shift_L2 a2 v4 FUEL 0 v10).bind fun o22 =>
    (section_valid (Section.mk (w64 (v4.Low + a3)) o22)).bind fun v24 =>
    some v24

def section_Shift (a1 : Section) (a2 : Int) (a3 : Int) : Option Section :=
  (section_valid a1).bind fun v4 =>
  bif ((v4.Rows.length : Nat) : Int) == 0 then
    section_Shift_k1 a2 a3 v4 true
  else
    bif decide ((imax a2 a3) > 1200) then
      section_Shift_k1 a2 a3 v4 true
    else
      section_Shift_k1 a2 a3 v4 (decide ((imin a2 a3) < (-1200)))

/- sawmill/sawmilllaw10.awake -/

def law10_awake_k2 (x71 : Bool) : Option Bool :=
  some x71

def law10_awake_k1 (x15 : Bool) : Option Bool :=
  bif x15 then
    some false
  else
    (law10_sample).bind fun v43 =>
    (section_Area (Section.mk v43.Low v43.Rows)).bind fun v45 =>
    bif v45 == 2200 then
      (law10_sample).bind fun v48 =>
      (section_Within (Section.mk v48.Low v48.Rows) (Rect.mk (Span.mk 0 100) (Span.mk 5 15))).bind fun v50 =>
      bif v50 == 550 then
        (law10_sample).bind fun v53 =>
        (section_Bounds (Section.mk v53.Low v53.Rows)).bind fun v55 =>
        bif ((v55.Y.A == 0) && ((v55.Y.B == 20) && true)) then
          (law10_sample).bind fun v58 =>
          (section_Mirror (Section.mk v58.Low v58.Rows)).bind fun v60 =>
          (law10_sample).bind fun v62 =>
          (section_Equal (Section.mk v60.Low v60.Rows) (Section.mk v62.Low v62.Rows)).bind fun v64 =>
          bif v64 then
            (law10_sample).bind fun v67 =>
            (section_Shift v67 1 2).bind fun v69 =>
            law10_awake_k2 (v69.Low == 2)
          else
            law10_awake_k2 false
        else
          law10_awake_k2 false
      else
        law10_awake_k2 false
    else
      law10_awake_k2 false

def law10_awake : Option Bool :=
  (section_Of ([(Point.mk (-60) 0), (Point.mk 60 0), (Point.mk 0 60)] : List Point)).bind fun v1 =>
  (law10_sample).bind fun v3 =>
  (section_Flip (Section.mk v3.Low v3.Rows)).bind fun v5 =>
  bif v1.2 != 0 then
    law10_awake_k1 true
  else
    bif ((v1.1.Rows.length : Nat) : Int) != 5 then
      law10_awake_k1 true
    else
      bif v1.1.Low != 0 then
        law10_awake_k1 true
      else
        bif inb 4 v1.1.Rows.length then
          bif !((((v1.1.Rows.getD ((4 : Int).toNat) default).A) == (-10)) && ((((v1.1.Rows.getD ((4 : Int).toNat) default).B) == 10) && true)) then
            law10_awake_k1 true
          else
            (section_Check (Section.mk 5 ([] : List Span))).bind fun v12 =>
            bif v12 != 19 then
              law10_awake_k1 true
            else
              law10_awake_k1 (v5.Low != (-2))
        else none

/- sawmill/sawmillref10.beyond -/

def ref10_beyond_k1 (x3 : Bool) : Option Bool :=
  some x3

def ref10_beyond (a1 : Int) : Option Bool :=
  bif decide (a1 < (-600)) then
    ref10_beyond_k1 true
  else
    ref10_beyond_k1 (decide (a1 > 600))

/- sawmill/sawmillref10.empty -/

def ref10_empty (a1 : Span) : Option Bool :=
  some (decide (a1.A ≥ a1.B))

/- sawmill/sawmillref10.Check -/

def ref10_Check_k3 (x6 : Int) (rec_ref10_Check_L2 : Int → Option (Int ⊕ Unit)) (x14 : Bool) : Option (Int ⊕ Unit) :=
  bif x14 then
    some (Sum.inl 9)
  else
    rec_ref10_Check_L2 (w64 (x6 + 1))

def ref10_Check_L2 (a1 : Section) : Nat → Int → Option (Int ⊕ Unit)
  | 0, _ => none
  | n + 1, x6 =>
    bif decide (x6 < ((a1.Rows.length : Nat) : Int)) then
      bif inb x6 a1.Rows.length then
        (ref10_beyond ((a1.Rows.getD x6.toNat default).A)).bind fun v9 =>
        bif v9 then
          ref10_Check_k3 x6 (ref10_Check_L2 a1 n) true
        else
          (ref10_beyond ((a1.Rows.getD x6.toNat default).B)).bind fun v12 =>
          ref10_Check_k3 x6 (ref10_Check_L2 a1 n) v12
      else none
    else
      some (Sum.inr ())

def ref10_Check_k6 (x31 : Int) (rec_ref10_Check_L5 : Int → Option (Int ⊕ Unit)) (x37 : Bool) : Option (Int ⊕ Unit) :=
  bif x37 then
    some (Sum.inl 19)
  else
    rec_ref10_Check_L5 (w64 (x31 + 1))

def ref10_Check_L5 (a1 : Section) : Nat → Int → Option (Int ⊕ Unit)
  | 0, _ => none
  | n + 1, x31 =>
    bif decide (x31 < ((a1.Rows.length : Nat) : Int)) then
      bif inb x31 a1.Rows.length then
        (ref10_empty (a1.Rows.getD x31.toNat default)).bind fun v34 =>
        bif v34 then
          ref10_Check_k6 x31 (ref10_Check_L5 a1 n) (!((((a1.Rows.getD x31.toNat default).A) == 0) && ((((a1.Rows.getD x31.toNat default).B) == 0) && true)))
        else
          ref10_Check_k6 x31 (ref10_Check_L5 a1 n) false
      else none
    else
      some (Sum.inr ())

def ref10_Check_k4 (a1 : Section) (x29 : Bool) : Option Int :=
  bif x29 then
    some 19
  else
    (ref10_Check_L5 a1 FUEL 0).bind fun u41 => Sum.elim (fun v42 => some v42) (fun o39 =>
    some 0) u41

def ref10_Check_k1 (a1 : Section) (x4 : Bool) : Option Int :=
  bif x4 then
    some 9
  else
    (ref10_Check_L2 a1 FUEL 0).bind fun u18 => Sum.elim (fun v19 => some v19) (fun o16 =>
    bif ((a1.Rows.length : Nat) : Int) == 0 then
      bif a1.Low != 0 then
        some 19
      else
        some 0
    else
      bif inb 0 a1.Rows.length then
        (ref10_empty (a1.Rows.getD (0 : Int).toNat default)).bind fun v23 =>
        bif v23 then
          ref10_Check_k4 a1 true
        else
          bif inb (w64 (((a1.Rows.length : Nat) : Int) - 1)) a1.Rows.length then
            (ref10_empty (a1.Rows.getD (w64 (((a1.Rows.length : Nat) : Int) - 1)).toNat default)).bind fun v27 =>
            ref10_Check_k4 a1 v27
          else none
      else none) u18

def ref10_Check (a1 : Section) : Option Int :=
  bif decide (((a1.Rows.length : Nat) : Int) > 120) then
    some 4
  else
    bif decide (a1.Low < (-60)) then
      ref10_Check_k1 a1 true
    else
      ref10_Check_k1 a1 (decide (a1.Low > (w64 (60 - ((a1.Rows.length : Nat) : Int)))))

/- sawmill/sawmilllaw10.SectionChecks -/

def law10_SectionChecks_k1 (x14 : Bool) : Option Bool :=
  some x14

def law10_SectionChecks (a1 : Section) : Option Bool :=
  (law10_few a1).bind fun v2 =>
  bif !v2 then
    (law10_awake).bind fun v5 =>
    law10_SectionChecks_k1 v5
  else
    (section_Check a1).bind fun v7 =>
    (ref10_Check a1).bind fun v9 =>
    bif v7 == v9 then
      (law10_awake).bind fun v12 =>
      law10_SectionChecks_k1 v12
    else
      law10_SectionChecks_k1 false

/- sawmill/sawmillref09.Ranged -/

def ref09_Ranged_k2 (x2 : Int) (rec_ref09_Ranged_L1 : Int → Option (Bool ⊕ Unit)) (x8 : Bool) : Option (Bool ⊕ Unit) :=
  bif x8 then
    some (Sum.inl false)
  else
    rec_ref09_Ranged_L1 (w64 (x2 + 1))

def ref09_Ranged_L1 (a1 : List Point) : Nat → Int → Option (Bool ⊕ Unit)
  | 0, _ => none
  | n + 1, x2 =>
    bif decide (x2 < ((a1.length : Nat) : Int)) then
      bif inb x2 a1.length then
        bif decide (((a1.getD x2.toNat default).X) < (-600)) then
          ref09_Ranged_k2 x2 (ref09_Ranged_L1 a1 n) true
        else
          bif decide (((a1.getD x2.toNat default).X) > 600) then
            ref09_Ranged_k2 x2 (ref09_Ranged_L1 a1 n) true
          else
            bif decide (((a1.getD x2.toNat default).Y) < (-600)) then
              ref09_Ranged_k2 x2 (ref09_Ranged_L1 a1 n) true
            else
              ref09_Ranged_k2 x2 (ref09_Ranged_L1 a1 n) (decide (((a1.getD x2.toNat default).Y) > 600))
      else none
    else
      some (Sum.inr ())

def ref09_Ranged (a1 : List Point) : Option Bool :=
  (ref09_Ranged_L1 a1 FUEL 0).bind fun u12 => Sum.elim (fun v13 => some v13) (fun o10 =>
  some true) u12

/- sawmill/sawmillref09.Area2 -/

def ref09_Area2_L2 (a1 : List Point) : Nat → Int → Int → Option Int
  | 0, _, _ => none
  | n + 1, x7, x8 =>
    bif decide (x8 < ((a1.length : Nat) : Int)) then
      bif nz ((a1.length : Nat) : Int) then
        bif inb (Int.tmod (w64 (x8 + 1)) ((a1.length : Nat) : Int)) a1.length then
          bif inb x8 a1.length then
            (ref09_Area2_L2 a1 n) (w64 ((w64 (x7 + (w64 (((a1.getD x8.toNat default).X) * ((a1.getD (Int.tmod (w64 (x8 + 1)) ((a1.length : Nat) : Int)).toNat default).Y))))) - (w64 (((a1.getD (Int.tmod (w64 (x8 + 1)) ((a1.length : Nat) : Int)).toNat default).X) * ((a1.getD x8.toNat default).Y))))) (w64 (x8 + 1))
          else none
        else none
      else none
    else
      some x7

def ref09_Area2_k1 (a1 : List Point) (x5 : Bool) : Option Int :=
  bif x5 then
    some 0
  else
    (ref09_Area2_L2 a1 FUEL 0 0).bind fun o14 =>
    some o14

def ref09_Area2 (a1 : List Point) : Option Int :=
  bif decide (((a1.length : Nat) : Int) > 32) then
    ref09_Area2_k1 a1 true
  else
    (ref09_Ranged a1).bind fun v3 =>
    ref09_Area2_k1 a1 (!v3)

/- sawmill/sawmillref09.Check -/

def ref09_Check (a1 : List Point) : Option Int :=
  bif decide (((a1.length : Nat) : Int) < 3) then
    some 3
  else
    bif decide (((a1.length : Nat) : Int) > 32) then
      some 4
    else
      (ref09_Ranged a1).bind fun v4 =>
      bif !v4 then
        some 9
      else
        (ref09_Area2 a1).bind fun v7 =>
        bif v7 == 0 then
          some 19
        else
          some 0

/- sawmill/sawmillref09.Before -/

def ref09_Before_k1 (x5 : Bool) : Option Bool :=
  some x5

def ref09_Before (a1 : Point) (a2 : Point) : Option Bool :=
  bif decide (a1.X < a2.X) then
    ref09_Before_k1 true
  else
    bif a1.X == a2.X then
      ref09_Before_k1 (decide (a1.Y < a2.Y))
    else
      ref09_Before_k1 false

/- sawmill/sawmillref09.sorted -/

def ref09_sorted_k3 (x5 : Int) (rec_ref09_sorted_L2 : Int → Option Int) (x11 : Bool) : Option Int :=
  bif x11 then
    rec_ref09_sorted_L2 (w64 (x5 + 1))
  else
    some x5

def ref09_sorted_L2 (a1 : List Point) (l2 : List Point) (x3 : Int) : Nat → Int → Option Int
  | 0, _ => none
  | n + 1, x5 =>
    bif decide (x5 < ((l2.length : Nat) : Int)) then
      bif inb x5 l2.length then
        bif inb x3 a1.length then
          (ref09_Before (l2.getD x5.toNat default) (a1.getD x3.toNat default)).bind fun v9 =>
          ref09_sorted_k3 x5 (ref09_sorted_L2 a1 l2 x3 n) v9
        else none
      else none
    else
      ref09_sorted_k3 x5 (ref09_sorted_L2 a1 l2 x3 n) false

def ref09_sorted_k5 (x3 : Int) (rec_ref09_sorted_L1 : (List Point) → Int → Option (List Point)) (l27 : List Point) : Option (List Point) :=
  rec_ref09_sorted_L1 l27 (w64 (x3 + 1))

def ref09_sorted_k4 (a1 : List Point) (l2 : List Point) (x3 : Int) (rec_ref09_sorted_L1 : (List Point) → Int → Option (List Point)) (o14 : Int) (x19 : Bool) : Option (List Point) :=
  bif x19 then
    ref09_sorted_k5 x3 rec_ref09_sorted_L1 l2
  else
    bif slOk 0 o14 l2.length then
      bif room (0 + o14.toNat) 16 then
        bif inb x3 a1.length then
          bif room ((0 + o14.toNat) + 1) 16 then
            bif slOk o14 ((l2.length : Nat) : Int) l2.length then
              bif room (((0 + o14.toNat) + 1) + (l2.length - o14.toNat)) 16 then
                ref09_sorted_k5 x3 rec_ref09_sorted_L1 (((([] : List Point) ++ (l2.take o14.toNat)) ++ ([(a1.getD x3.toNat default)] : List Point)) ++ ((l2.drop o14.toNat).take (l2.length - o14.toNat)))
              else none
            else none
          else none
        else none
      else none
    else none

def ref09_sorted_L1 (a1 : List Point) : Nat → (List Point) → Int → Option (List Point)
  | 0, _, _ => none
  | n + 1, l2, x3 =>
    bif decide (x3 < ((a1.length : Nat) : Int)) then
      (ref09_sorted_L2 a1 l2 x3 FUEL 0).bind fun o14 =>
      bif decide (o14 < ((l2.length : Nat) : Int)) then
        bif inb o14 l2.length then
          bif inb x3 a1.length then
            ref09_sorted_k4 a1 l2 x3 (ref09_sorted_L1 a1 n) o14 ((((l2.getD o14.toNat default).X) == ((a1.getD x3.toNat default).X)) && ((((l2.getD o14.toNat default).Y) == ((a1.getD x3.toNat default).Y)) && true))
          else none
        else none
      else
        ref09_sorted_k4 a1 l2 x3 (ref09_sorted_L1 a1 n) o14 false
    else
      some l2

def ref09_sorted (a1 : List Point) : Option (List Point) :=
  (ref09_sorted_L1 a1 FUEL ([] : List Point) 0).bind fun o29 =>
  some o29

/- sawmill/sawmillref09.Cross -/

def ref09_Cross (a1 : Point) (a2 : Point) (a3 : Point) : Option Int :=
  some (w64 ((w64 ((w64 (a2.X - a1.X)) * (w64 (a3.Y - a1.Y)))) - (w64 ((w64 (a2.Y - a1.Y)) * (w64 (a3.X - a1.X))))))

/- sawmill/sawmillref09.chain -/

def ref09_chain_k3 (l5 : List Point) (rec_ref09_chain_L2 : (List Point) → Option (List Point)) (x12 : Bool) : Option (List Point) :=
  bif x12 then
    bif slOk 0 (w64 (((l5.length : Nat) : Int) - 1)) l5.length then
      rec_ref09_chain_L2 (l5.take ((w64 (((l5.length : Nat) : Int) - 1)).toNat))
    else none
  else
    some l5

def ref09_chain_L2 (a1 : List Point) (x3 : Int) : Nat → (List Point) → Option (List Point)
  | 0, _ => none
  | n + 1, l5 =>
    bif decide (((l5.length : Nat) : Int) > 1) then
      bif inb (w64 (((l5.length : Nat) : Int) - 2)) l5.length then
        bif inb (w64 (((l5.length : Nat) : Int) - 1)) l5.length then
          bif inb x3 a1.length then
            (ref09_Cross (l5.getD ((w64 (((l5.length : Nat) : Int) - 2)).toNat) default) (l5.getD ((w64 (((l5.length : Nat) : Int) - 1)).toNat) default) (a1.getD x3.toNat default)).bind fun v10 =>
            ref09_chain_k3 l5 (ref09_chain_L2 a1 x3 n) (decide (v10 ≤ 0))
          else none
        else none
      else none
    else
      ref09_chain_k3 l5 (ref09_chain_L2 a1 x3 n) false

def ref09_chain_L1 (a1 : List Point) : Nat → (List Point) → Int → Option (List Point)
  | 0, _, _ => none
  | n + 1, l2, x3 =>
    bif decide (x3 < ((a1.length : Nat) : Int)) then
      (ref09_chain_L2 a1 x3 FUEL l2).bind fun o16 =>
      bif inb x3 a1.length then
        bif room (o16.length + 1) 16 then
          (ref09_chain_L1 a1 n) (o16 ++ ([(a1.getD x3.toNat default)] : List Point)) (w64 (x3 + 1))
        else none
      else none
    else
      some l2

def ref09_chain (a1 : List Point) : Option (List Point) :=
  (ref09_chain_L1 a1 FUEL ([] : List Point) 0).bind fun o21 =>
  some o21

/- sawmill/sawmillref09.Hull -/

def ref09_Hull_L2 (v7 : (List Point)) : Nat → (List Point) → Int → Option (List Point)
  | 0, _, _ => none
  | n + 1, l9, x10 =>
    bif decide (x10 ≥ 0) then
      bif inb x10 v7.length then
        bif room (l9.length + 1) 16 then
          (ref09_Hull_L2 v7 n) (l9 ++ ([(v7.getD x10.toNat default)] : List Point)) (w64 (x10 - 1))
        else none
      else none
    else
      some l9

def ref09_Hull_k1 (a1 : List Point) (x5 : Bool) : Option (List Point) :=
  bif x5 then
    some ([] : List Point)
  else
    (ref09_sorted a1).bind fun v7 =>
    (ref09_Hull_L2 v7 FUEL ([] : List Point) (w64 (((v7.length : Nat) : Int) - 1))).bind fun o15 =>
    (ref09_chain v7).bind fun v17 =>
    (ref09_chain o15).bind fun v19 =>
    bif decide ((w64 (((v17.length : Nat) : Int) + ((v19.length : Nat) : Int))) < 5) then
      some ([] : List Point)
    else
      bif slOk 0 (w64 (((v17.length : Nat) : Int) - 1)) v17.length then
        bif room (0 + (w64 (((v17.length : Nat) : Int) - 1)).toNat) 16 then
          bif slOk 0 (w64 (((v19.length : Nat) : Int) - 1)) v19.length then
            bif room ((0 + (w64 (((v17.length : Nat) : Int) - 1)).toNat) + (w64 (((v19.length : Nat) : Int) - 1)).toNat) 16 then
              some ((([] : List Point) ++ (v17.take ((w64 (((v17.length : Nat) : Int) - 1)).toNat))) ++ (v19.take ((w64 (((v19.length : Nat) : Int) - 1)).toNat)))
            else none
          else none
        else none
      else none

def ref09_Hull (a1 : List Point) : Option (List Point) :=
  bif decide (((a1.length : Nat) : Int) > 32) then
    ref09_Hull_k1 a1 true
  else
    (ref09_Ranged a1).bind fun v3 =>
    ref09_Hull_k1 a1 (!v3)

/- sawmill/sawmillref09.floor -/

def ref09_floor_k1 (x5 : Int) : Option Int :=
  some x5

def ref09_floor (a1 : Int) (a2 : Int) : Option Int :=
  bif nz a2 then
    bif decide ((w64 ((w64 (Int.tdiv a1 a2)) * a2)) > a1) then
      ref09_floor_k1 (w64 ((w64 (Int.tdiv a1 a2)) - 1))
    else
      ref09_floor_k1 (w64 (Int.tdiv a1 a2))
  else none

/- sawmill/sawmillref09.across -/

def ref09_across_k2 (x5 : Int) (rec_ref09_across_L1 : Int → Int → Int → Option ((Int × Int) ⊕ (Int × Int))) (x17 : Int) (x18 : Int) : Option ((Int × Int) ⊕ (Int × Int)) :=
  rec_ref09_across_L1 x17 x18 (w64 (x5 + 1))

def ref09_across_L1 (a1 : List Point) (a2 : Int) : Nat → Int → Int → Int → Option ((Int × Int) ⊕ (Int × Int))
  | 0, _, _, _ => none
  | n + 1, x3, x4, x5 =>
    bif decide (x5 < ((a1.length : Nat) : Int)) then
      bif inb x5 a1.length then
        bif nz ((a1.length : Nat) : Int) then
          bif inb (Int.tmod (w64 (x5 + 1)) ((a1.length : Nat) : Int)) a1.length then
            bif decide ((w64 (((a1.getD (Int.tmod (w64 (x5 + 1)) ((a1.length : Nat) : Int)).toNat default).Y) - ((a1.getD x5.toNat default).Y))) > 0) then
              (ref09_floor (w64 ((w64 (((a1.getD (Int.tmod (w64 (x5 + 1)) ((a1.length : Nat) : Int)).toNat default).X) - ((a1.getD x5.toNat default).X))) * (w64 (a2 - ((a1.getD x5.toNat default).Y))))) (w64 (((a1.getD (Int.tmod (w64 (x5 + 1)) ((a1.length : Nat) : Int)).toNat default).Y) - ((a1.getD x5.toNat default).Y)))).bind fun v11 =>
              ref09_across_k2 x5 (ref09_across_L1 a1 a2 n) x3 (imin x4 (w64 (((a1.getD x5.toNat default).X) + v11)))
            else
              bif decide ((w64 (((a1.getD (Int.tmod (w64 (x5 + 1)) ((a1.length : Nat) : Int)).toNat default).Y) - ((a1.getD x5.toNat default).Y))) < 0) then
                (ref09_floor (w64 ((w64 (((a1.getD (Int.tmod (w64 (x5 + 1)) ((a1.length : Nat) : Int)).toNat default).X) - ((a1.getD x5.toNat default).X))) * (w64 (a2 - ((a1.getD x5.toNat default).Y))))) (w64 (0 - (w64 (((a1.getD (Int.tmod (w64 (x5 + 1)) ((a1.length : Nat) : Int)).toNat default).Y) - ((a1.getD x5.toNat default).Y)))))).bind fun v14 =>
                ref09_across_k2 x5 (ref09_across_L1 a1 a2 n) (imax x3 (w64 (((a1.getD x5.toNat default).X) - v14))) x4
              else
                bif decide ((w64 ((w64 (((a1.getD (Int.tmod (w64 (x5 + 1)) ((a1.length : Nat) : Int)).toNat default).X) - ((a1.getD x5.toNat default).X))) * (w64 (a2 - ((a1.getD x5.toNat default).Y))))) < 0) then
                  some (Sum.inl (1, 0))
                else
                  ref09_across_k2 x5 (ref09_across_L1 a1 a2 n) x3 x4
          else none
        else none
      else none
    else
      some (Sum.inr (x3, x4))

def ref09_across (a1 : List Point) (a2 : Int) : Option (Int × Int) :=
  (ref09_across_L1 a1 a2 FUEL (-600) 600 0).bind fun u23 => Sum.elim (fun v24 => some v24) (fun o21 =>
  some (o21.1, o21.2)) u23

/- sawmill/sawmillref09.Chord -/

def ref09_Chord_k2 (v11 : Int × Int) (v13 : Int × Int) (x17 : Bool) : Option Span :=
  bif x17 then
    some (Span.mk 0 0)
  else
    some (Span.mk (imax v11.1 v13.1) (imin v11.2 v13.2))

def ref09_Chord_k1 (a2 : Int) (a3 : Int) (v4 : (List Point)) (x9 : Bool) : Option Span :=
  bif x9 then
    some (Span.mk 0 0)
  else
    (ref09_across v4 a2).bind fun v11 =>
    (ref09_across v4 a3).bind fun v13 =>
    bif decide (v11.1 > v11.2) then
      ref09_Chord_k2 v11 v13 true
    else
      bif decide (v13.1 > v13.2) then
        ref09_Chord_k2 v11 v13 true
      else
        ref09_Chord_k2 v11 v13 (decide ((imax v11.1 v13.1) ≥ (imin v11.2 v13.2)))

def ref09_Chord (a1 : List Point) (a2 : Int) (a3 : Int) : Option Span :=
  (ref09_Hull a1).bind fun v4 =>
  bif ((v4.length : Nat) : Int) == 0 then
    ref09_Chord_k1 a2 a3 v4 true
  else
    bif decide (a2 ≥ a3) then
      ref09_Chord_k1 a2 a3 v4 true
    else
      bif decide (a2 < (-600)) then
        ref09_Chord_k1 a2 a3 v4 true
      else
        ref09_Chord_k1 a2 a3 v4 (decide (a3 > 600))

/- sawmill/sawmillref10.Dropped -/

def ref10_Dropped_k2 (x3 : Int) (rec_ref10_Dropped_L1 : Int → Option Int) (x8 : Bool) : Option Int :=
  bif x8 then
    rec_ref10_Dropped_L1 (w64 (x3 + 1))
  else
    some x3

def ref10_Dropped_L1 (a2 : List Span) : Nat → Int → Option Int
  | 0, _ => none
  | n + 1, x3 =>
    bif decide (x3 < ((a2.length : Nat) : Int)) then
      bif inb x3 a2.length then
        (ref10_empty (a2.getD x3.toNat default)).bind fun v6 =>
        ref10_Dropped_k2 x3 (ref10_Dropped_L1 a2 n) v6
      else none
    else
      ref10_Dropped_k2 x3 (ref10_Dropped_L1 a2 n) false

def ref10_Dropped_k4 (x13 : Int) (rec_ref10_Dropped_L3 : Int → Option Int) (x18 : Bool) : Option Int :=
  bif x18 then
    rec_ref10_Dropped_L3 (w64 (x13 - 1))
  else
    some x13

def ref10_Dropped_L3 (a2 : List Span) (o11 : Int) : Nat → Int → Option Int
  | 0, _ => none
  | n + 1, x13 =>
    bif decide (x13 > o11) then
      bif inb (w64 (x13 - 1)) a2.length then
        (ref10_empty (a2.getD (w64 (x13 - 1)).toNat default)).bind fun v16 =>
        ref10_Dropped_k4 x13 (ref10_Dropped_L3 a2 o11 n) v16
      else none
    else
      ref10_Dropped_k4 x13 (ref10_Dropped_L3 a2 o11 n) false

def ref10_Dropped_k6 (x24 : Int) (l25 : List Span) (rec_ref10_Dropped_L5 : Int → (List Span) → Option (List Span)) (x31 : Span) : Option (List Span) :=
  bif room (l25.length + 1) 16 then
    rec_ref10_Dropped_L5 (w64 (x24 + 1)) (l25 ++ ([x31] : List Span))
  else none

def ref10_Dropped_L5 (a2 : List Span) (o21 : Int) : Nat → Int → (List Span) → Option (List Span)
  | 0, _, _ => none
  | n + 1, x24, l25 =>
    bif decide (x24 < o21) then
      bif inb x24 a2.length then
        (ref10_empty (a2.getD x24.toNat default)).bind fun v28 =>
        bif v28 then
          ref10_Dropped_k6 x24 l25 (ref10_Dropped_L5 a2 o21 n) (Span.mk 0 0)
        else
          ref10_Dropped_k6 x24 l25 (ref10_Dropped_L5 a2 o21 n) (a2.getD x24.toNat default)
      else none
    else
      some l25

def ref10_Dropped (a1 : Int) (a2 : List Span) : Option Section :=
  (ref10_Dropped_L1 a2 FUEL 0).bind fun o11 =>
  (ref10_Dropped_L3 a2 o11 FUEL ((a2.length : Nat) : Int)).bind fun o21 =>
  bif o11 == o21 then
    some (Section.mk 0 ([] : List Span))
  else
    (ref10_Dropped_L5 a2 o21 FUEL o11 ([] : List Span)).bind fun o34 =>
    some (Section.mk (w64 (a1 + o11)) o34)

/- sawmill/sawmillref10.Of -/

def ref10_Of_L1 (a1 : List Point) : Nat → Int → Int → Int → Option (Int × Int)
  | 0, _, _, _ => none
  | n + 1, x6, x7, x8 =>
    bif decide (x8 < ((a1.length : Nat) : Int)) then
      bif inb x8 a1.length then
        (ref10_Of_L1 a1 n) (imin x6 ((a1.getD x8.toNat default).Y)) (imax x7 ((a1.getD x8.toNat default).Y)) (w64 (x8 + 1))
      else none
    else
      some (x6, x7)

def ref10_Of_k4 (l15 : List Span) (x16 : Int) (rec_ref10_Of_L2 : (List Span) → Int → Option (List Span)) (x23 : Span) : Option (List Span) :=
  bif room (l15.length + 1) 16 then
    rec_ref10_Of_L2 (l15 ++ ([x23] : List Span)) (w64 (x16 + 1))
  else none

def ref10_Of_k3 (a1 : List Point) (l15 : List Span) (x16 : Int) (rec_ref10_Of_L2 : (List Span) → Int → Option (List Span)) (x19 : Bool) : Option (List Span) :=
  bif x19 then
    (ref09_Chord a1 (w64 (10 * x16)) (w64 (10 * (w64 (x16 + 1))))).bind fun v21 =>
    ref10_Of_k4 l15 x16 rec_ref10_Of_L2 v21
  else
    ref10_Of_k4 l15 x16 rec_ref10_Of_L2 (Span.mk 0 0)

def ref10_Of_L2 (a1 : List Point) (o13 : Int × Int) : Nat → (List Span) → Int → Option (List Span)
  | 0, _, _ => none
  | n + 1, l15, x16 =>
    bif decide (x16 < 60) then
      bif decide ((w64 (10 * x16)) ≥ o13.1) then
        ref10_Of_k3 a1 l15 x16 (ref10_Of_L2 a1 o13 n) (decide ((w64 (10 * (w64 (x16 + 1)))) ≤ o13.2))
      else
        ref10_Of_k3 a1 l15 x16 (ref10_Of_L2 a1 o13 n) false
    else
      some l15

def ref10_Of (a1 : List Point) : Option (Section × Int) :=
  (ref09_Check a1).bind fun v2 =>
  bif v2 != 0 then
    some ((Section.mk 0 ([] : List Span)), v2)
  else
    bif inb 0 a1.length then
      (ref10_Of_L1 a1 FUEL ((a1.getD (0 : Int).toNat default).Y) ((a1.getD (0 : Int).toNat default).Y) 0).bind fun o13 =>
      (ref10_Of_L2 a1 o13 FUEL ([] : List Span) (-60)).bind fun o26 =>
      (ref10_Dropped (-60) o26).bind fun v28 =>
      bif ((v28.Rows.length : Nat) : Int) == 0 then
        some ((Section.mk 0 ([] : List Span)), 18)
      else
        some ((Section.mk v28.Low v28.Rows), 0)
    else none

/- sawmill/sawmilllaw10.same -/

def law10_same_L2 (a1 : Section) (a2 : Section) : Nat → Int → Option (Bool ⊕ Unit)
  | 0, _ => none
  | n + 1, x6 =>
    bif decide (x6 < ((a1.Rows.length : Nat) : Int)) then
      bif inb x6 a1.Rows.length then
        bif inb x6 a2.Rows.length then
          bif !((((a1.Rows.getD x6.toNat default).A) == ((a2.Rows.getD x6.toNat default).A)) && ((((a1.Rows.getD x6.toNat default).B) == ((a2.Rows.getD x6.toNat default).B)) && true)) then
            some (Sum.inl false)
          else
            (law10_same_L2 a1 a2 n) (w64 (x6 + 1))
        else none
      else none
    else
      some (Sum.inr ())

def law10_same_k1 (a1 : Section) (a2 : Section) (x4 : Bool) : Option Bool :=
  bif x4 then
    some false
  else
    (law10_same_L2 a1 a2 FUEL 0).bind fun u13 => Sum.elim (fun v14 => some v14) (fun o11 =>
    some true) u13

def law10_same (a1 : Section) (a2 : Section) : Option Bool :=
  bif a1.Low != a2.Low then
    law10_same_k1 a1 a2 true
  else
    law10_same_k1 a1 a2 (((a1.Rows.length : Nat) : Int) != ((a2.Rows.length : Nat) : Int))

/- sawmill/sawmilllaw10.SectionOfs -/

def law10_SectionOfs_k1 (x15 : Bool) : Option Bool :=
  some x15

def law10_SectionOfs (a1 : List Point) : Option Bool :=
  bif decide (((a1.length : Nat) : Int) > 40) then
    (law10_awake).bind fun v3 =>
    some v3
  else
    (section_Of a1).bind fun v5 =>
    (ref10_Of a1).bind fun v7 =>
    (law10_same (Section.mk v5.1.Low v5.1.Rows) (Section.mk v7.1.Low v7.1.Rows)).bind fun v9 =>
    bif v9 then
      bif v5.2 == v7.2 then
        (law10_awake).bind fun v13 =>
        law10_SectionOfs_k1 v13
      else
        law10_SectionOfs_k1 false
    else
      law10_SectionOfs_k1 false

/- sawmill/sawmillref10.Valid -/

def ref10_Valid (a1 : Section) : Option Section :=
  (ref10_Check a1).bind fun v2 =>
  bif v2 != 0 then
    some (Section.mk 0 ([] : List Span))
  else
    some a1

/- sawmill/sawmillref10.Area -/

def ref10_Area_L1 (v2 : Section) : Nat → Int → Int → Option Int
  | 0, _, _ => none
  | n + 1, x4, x5 =>
    bif decide (x5 < ((v2.Rows.length : Nat) : Int)) then
      bif inb x5 v2.Rows.length then
        (ref10_Area_L1 v2 n) (w64 (x4 + (w64 (10 * (w64 (((v2.Rows.getD x5.toNat default).B) - ((v2.Rows.getD x5.toNat default).A))))))) (w64 (x5 + 1))
      else none
    else
      some x4

def ref10_Area (a1 : Section) : Option Int :=
  (ref10_Valid a1).bind fun v2 =>
  (ref10_Area_L1 v2 FUEL 0 0).bind fun o9 =>
  some o9

/- sawmill/sawmillref10.common -/

def ref10_common_k1 (a1 : Span) (a2 : Span) (x6 : Bool) : Option Int :=
  bif x6 then
    some 0
  else
    some (w64 ((imin a1.B a2.B) - (imax a1.A a2.A)))

def ref10_common (a1 : Span) (a2 : Span) : Option Int :=
  (ref10_empty a2).bind fun v3 =>
  bif v3 then
    ref10_common_k1 a1 a2 true
  else
    ref10_common_k1 a1 a2 (decide ((imax a1.A a2.A) ≥ (imin a1.B a2.B)))

/- sawmill/sawmillref10.Heights -/

def ref10_Heights (a1 : Int) : Option Span :=
  some (Span.mk (w64 (10 * a1)) (w64 (10 * (w64 (a1 + 1)))))

/- sawmill/sawmillref10.Within -/

def ref10_Within_L1 (a2 : Rect) (v3 : Section) : Nat → Int → Int → Option Int
  | 0, _, _ => none
  | n + 1, x5, x6 =>
    bif decide (x6 < ((v3.Rows.length : Nat) : Int)) then
      bif inb x6 v3.Rows.length then
        (ref10_common (v3.Rows.getD x6.toNat default) a2.X).bind fun v9 =>
        (ref10_Heights (w64 (v3.Low + x6))).bind fun v11 =>
        (ref10_common v11 a2.Y).bind fun v13 =>
        (ref10_Within_L1 a2 v3 n) (w64 (x5 + (w64 (v9 * v13)))) (w64 (x6 + 1))
      else none
    else
      some x5

def ref10_Within (a1 : Section) (a2 : Rect) : Option Int :=
  (ref10_Valid a1).bind fun v3 =>
  (ref10_Within_L1 a2 v3 FUEL 0 0).bind fun o16 =>
  some o16

/- sawmill/sawmillref10.Bounds -/

def ref10_Bounds_k2 (x6 : Int) (rec_ref10_Bounds_L1 : Int → Span → Option Span) (x13 : Span) : Option Span :=
  rec_ref10_Bounds_L1 (w64 (x6 + 1)) x13

def ref10_Bounds_L1 (v2 : Section) : Nat → Int → Span → Option Span
  | 0, _, _ => none
  | n + 1, x6, x7 =>
    bif decide (x6 < ((v2.Rows.length : Nat) : Int)) then
      bif inb x6 v2.Rows.length then
        (ref10_empty (v2.Rows.getD x6.toNat default)).bind fun v10 =>
        bif !v10 then
          ref10_Bounds_k2 x6 (ref10_Bounds_L1 v2 n) (Span.mk (imin x7.A ((v2.Rows.getD x6.toNat default).A)) (imax x7.B ((v2.Rows.getD x6.toNat default).B)))
        else
          ref10_Bounds_k2 x6 (ref10_Bounds_L1 v2 n) x7
      else none
    else
      some x7

def ref10_Bounds (a1 : Section) : Option Rect :=
  (ref10_Valid a1).bind fun v2 =>
  bif ((v2.Rows.length : Nat) : Int) == 0 then
    some (Rect.mk (Span.mk 0 0) (Span.mk 0 0))
  else
    bif inb 0 v2.Rows.length then
      (ref10_Bounds_L1 v2 FUEL 0 (v2.Rows.getD (0 : Int).toNat default)).bind fun o15 =>
      some (Rect.mk o15 (Span.mk (w64 (10 * v2.Low)) (w64 (10 * (w64 (v2.Low + ((v2.Rows.length : Nat) : Int)))))))
    else none

/- sawmill/sawmilllaw10.SectionAreas -/

def law10_SectionAreas_k1 (x25 : Bool) : Option Bool :=
  some x25

def law10_SectionAreas (a1 : Section) (a2 : Rect) : Option Bool :=
  (law10_few a1).bind fun v3 =>
  bif !v3 then
    (law10_awake).bind fun v6 =>
    some v6
  else
    (section_Area a1).bind fun v8 =>
    (ref10_Area a1).bind fun v10 =>
    bif v8 == v10 then
      (section_Within a1 a2).bind fun v13 =>
      (ref10_Within a1 a2).bind fun v15 =>
      bif v13 == v15 then
        (section_Bounds a1).bind fun v18 =>
        (ref10_Bounds a1).bind fun v20 =>
        bif (((v18.X.A == v20.X.A) && ((v18.X.B == v20.X.B) && true)) && (((v18.Y.A == v20.Y.A) && ((v18.Y.B == v20.Y.B) && true)) && true)) then
          (law10_awake).bind fun v23 =>
          law10_SectionAreas_k1 v23
        else
          law10_SectionAreas_k1 false
      else
        law10_SectionAreas_k1 false
    else
      law10_SectionAreas_k1 false

/- sawmill/sawmillref10.Shift -/

def ref10_Shift_k3 (x12 : Int) (l13 : List Span) (rec_ref10_Shift_L2 : Int → (List Span) → Option (List Span)) (x19 : Span) : Option (List Span) :=
  bif room (l13.length + 1) 16 then
    rec_ref10_Shift_L2 (w64 (x12 + 1)) (l13 ++ ([x19] : List Span))
  else none

def ref10_Shift_L2 (a2 : Int) (v4 : Section) : Nat → Int → (List Span) → Option (List Span)
  | 0, _, _ => none
  | n + 1, x12, l13 =>
    bif decide (x12 < ((v4.Rows.length : Nat) : Int)) then
      bif inb x12 v4.Rows.length then
        (ref10_empty (v4.Rows.getD x12.toNat default)).bind fun v16 =>
        bif !v16 then
          ref10_Shift_k3 x12 l13 (ref10_Shift_L2 a2 v4 n) (Span.mk (w64 (((v4.Rows.getD x12.toNat default).A) + a2)) (w64 (((v4.Rows.getD x12.toNat default).B) + a2)))
        else
          ref10_Shift_k3 x12 l13 (ref10_Shift_L2 a2 v4 n) (v4.Rows.getD x12.toNat default)
      else none
    else
      some l13

def ref10_Shift_k1 (a2 : Int) (a3 : Int) (v4 : Section) (x10 : Bool) : Option Section :=
  bif x10 then
    some (Section.mk 0 ([] : List Span))
  else
    (ref10_Shift_L2 a2 v4 FUEL 0 ([] : List Span)).bind fun o22 =>
    (ref10_Valid (Section.mk (w64 (v4.Low + a3)) o22)).bind fun v24 =>
    some v24

def ref10_Shift (a1 : Section) (a2 : Int) (a3 : Int) : Option Section :=
  (ref10_Valid a1).bind fun v4 =>
  bif decide (a2 < (-1200)) then
    ref10_Shift_k1 a2 a3 v4 true
  else
    bif decide (a2 > 1200) then
      ref10_Shift_k1 a2 a3 v4 true
    else
      bif decide (a3 < (-120)) then
        ref10_Shift_k1 a2 a3 v4 true
      else
        bif decide (a3 > 120) then
          ref10_Shift_k1 a2 a3 v4 true
        else
          ref10_Shift_k1 a2 a3 v4 (((v4.Rows.length : Nat) : Int) == 0)

/- sawmill/sawmillref10.Mirror -/

def ref10_Mirror_L1 (v2 : Section) : Nat → Int → (List Span) → Option (List Span)
  | 0, _, _ => none
  | n + 1, x4, l5 =>
    bif decide (x4 < ((v2.Rows.length : Nat) : Int)) then
      bif inb x4 v2.Rows.length then
        bif room (l5.length + 1) 16 then
          (ref10_Mirror_L1 v2 n) (w64 (x4 + 1)) (l5 ++ ([(Span.mk (w64 (0 - ((v2.Rows.getD x4.toNat default).B))) (w64 (0 - ((v2.Rows.getD x4.toNat default).A))))] : List Span))
        else none
      else none
    else
      some l5

def ref10_Mirror (a1 : Section) : Option Section :=
  (ref10_Valid a1).bind fun v2 =>
  (ref10_Mirror_L1 v2 FUEL 0 ([] : List Span)).bind fun o10 =>
  some (Section.mk v2.Low o10)

/- sawmill/sawmillref10.Flip -/

def ref10_Flip_L1 (v2 : Section) : Nat → Int → (List Span) → Option (List Span)
  | 0, _, _ => none
  | n + 1, x4, l5 =>
    bif decide (x4 ≥ 0) then
      bif inb x4 v2.Rows.length then
        bif room (l5.length + 1) 16 then
          (ref10_Flip_L1 v2 n) (w64 (x4 - 1)) (l5 ++ ([(v2.Rows.getD x4.toNat default)] : List Span))
        else none
      else none
    else
      some l5

def ref10_Flip (a1 : Section) : Option Section :=
  (ref10_Valid a1).bind fun v2 =>
  (ref10_Flip_L1 v2 FUEL (w64 (((v2.Rows.length : Nat) : Int) - 1)) ([] : List Span)).bind fun o10 =>
  some (Section.mk (w64 (0 - (w64 (v2.Low + ((v2.Rows.length : Nat) : Int))))) o10)

/- sawmill/sawmilllaw10.SectionMoves -/

def law10_SectionMoves_k1 (x32 : Bool) : Option Bool :=
  some x32

def law10_SectionMoves (a1 : Section) (a2 : Int) (a3 : Int) : Option Bool :=
  (law10_few a1).bind fun v4 =>
  bif !v4 then
    (law10_awake).bind fun v7 =>
    some v7
  else
    (section_Shift a1 a2 a3).bind fun v9 =>
    (ref10_Shift a1 a2 a3).bind fun v11 =>
    (law10_same v9 v11).bind fun v13 =>
    bif v13 then
      (section_Mirror a1).bind fun v16 =>
      (ref10_Mirror a1).bind fun v18 =>
      (law10_same (Section.mk v16.Low v16.Rows) (Section.mk v18.Low v18.Rows)).bind fun v20 =>
      bif v20 then
        (section_Flip a1).bind fun v23 =>
        (ref10_Flip a1).bind fun v25 =>
        (law10_same (Section.mk v23.Low v23.Rows) (Section.mk v25.Low v25.Rows)).bind fun v27 =>
        bif v27 then
          (law10_awake).bind fun v30 =>
          law10_SectionMoves_k1 v30
        else
          law10_SectionMoves_k1 false
      else
        law10_SectionMoves_k1 false
    else
      law10_SectionMoves_k1 false

/- sawmill/sawmilllaw10.SectionAdds -/

def law10_SectionAdds_k3 (x41 : Bool) : Option Bool :=
  some x41

def law10_SectionAdds_k2 (a1 : Section) (a2 : Rect) (a3 : Point) (v9 : Int) (x26 : Bool) : Option Bool :=
  bif x26 then
    (law10_awake).bind fun v28 =>
    some v28
  else
    (section_Within a1 (Rect.mk (Span.mk a2.X.A a3.X) (Span.mk a2.Y.A a3.Y))).bind fun v30 =>
    (section_Within a1 (Rect.mk (Span.mk a3.X a2.X.B) (Span.mk a2.Y.A a3.Y))).bind fun v32 =>
    (section_Within a1 (Rect.mk (Span.mk a2.X.A a3.X) (Span.mk a3.Y a2.Y.B))).bind fun v34 =>
    (section_Within a1 (Rect.mk (Span.mk a3.X a2.X.B) (Span.mk a3.Y a2.Y.B))).bind fun v36 =>
    bif (w64 ((w64 ((w64 (v30 + v32)) + v34)) + v36)) == v9 then
      (law10_awake).bind fun v39 =>
      law10_SectionAdds_k3 v39
    else
      law10_SectionAdds_k3 false

def law10_SectionAdds_k1 (a1 : Section) (a2 : Rect) (a3 : Point) (v9 : Int) (x21 : Bool) : Option Bool :=
  bif x21 then
    some false
  else
    bif decide (a3.X < a2.X.A) then
      law10_SectionAdds_k2 a1 a2 a3 v9 true
    else
      bif decide (a3.X > a2.X.B) then
        law10_SectionAdds_k2 a1 a2 a3 v9 true
      else
        bif decide (a3.Y < a2.Y.A) then
          law10_SectionAdds_k2 a1 a2 a3 v9 true
        else
          law10_SectionAdds_k2 a1 a2 a3 v9 (decide (a3.Y > a2.Y.B))

def law10_SectionAdds (a1 : Section) (a2 : Rect) (a3 : Point) : Option Bool :=
  (law10_few a1).bind fun v4 =>
  bif !v4 then
    (law10_awake).bind fun v7 =>
    some v7
  else
    (section_Within a1 a2).bind fun v9 =>
    bif decide (v9 < 0) then
      law10_SectionAdds_k1 a1 a2 a3 v9 true
    else
      (section_Area a1).bind fun v12 =>
      bif decide (v9 > v12) then
        law10_SectionAdds_k1 a1 a2 a3 v9 true
      else
        (section_Bounds a1).bind fun v15 =>
        (section_Within a1 v15).bind fun v17 =>
        (section_Area a1).bind fun v19 =>
        law10_SectionAdds_k1 a1 a2 a3 v9 (v17 != v19)

/- sawmill/sawmilllaw10.SectionTurns -/

def law10_SectionTurns_k3 (x66 : Bool) : Option Bool :=
  some x66

def law10_SectionTurns_k2 (a1 : Section) (a2 : Int) (a3 : Int) (v21 : Section) (x49 : Bool) : Option Bool :=
  bif x49 then
    some false
  else
    bif ((v21.Rows.length : Nat) : Int) == 0 then
      (law10_awake).bind fun v52 =>
      some v52
    else
      (section_Area v21).bind fun v54 =>
      (section_Area a1).bind fun v56 =>
      bif v54 == v56 then
        (section_Shift v21 (w64 (0 - a2)) (w64 (0 - a3))).bind fun v59 =>
        (law10_same v59 a1).bind fun v61 =>
        bif v61 then
          (law10_awake).bind fun v64 =>
          law10_SectionTurns_k3 v64
        else
          law10_SectionTurns_k3 false
      else
        law10_SectionTurns_k3 false

def law10_SectionTurns_k1 (a1 : Section) (a2 : Int) (a3 : Int) (x13 : Bool) : Option Bool :=
  bif x13 then
    (law10_awake).bind fun v15 =>
    some v15
  else
    (section_Mirror a1).bind fun v17 =>
    (section_Flip a1).bind fun v19 =>
    (section_Shift a1 a2 a3).bind fun v21 =>
    (section_Mirror (Section.mk v17.Low v17.Rows)).bind fun v23 =>
    (law10_same (Section.mk v23.Low v23.Rows) a1).bind fun v25 =>
    bif !v25 then
      law10_SectionTurns_k2 a1 a2 a3 v21 true
    else
      (section_Flip (Section.mk v19.Low v19.Rows)).bind fun v28 =>
      (law10_same (Section.mk v28.Low v28.Rows) a1).bind fun v30 =>
      bif !v30 then
        law10_SectionTurns_k2 a1 a2 a3 v21 true
      else
        (section_Area (Section.mk v17.Low v17.Rows)).bind fun v33 =>
        (section_Area a1).bind fun v35 =>
        bif v33 != v35 then
          law10_SectionTurns_k2 a1 a2 a3 v21 true
        else
          (section_Area (Section.mk v19.Low v19.Rows)).bind fun v38 =>
          (section_Area a1).bind fun v40 =>
          bif v38 != v40 then
            law10_SectionTurns_k2 a1 a2 a3 v21 true
          else
            (section_Flip (Section.mk v17.Low v17.Rows)).bind fun v43 =>
            (section_Mirror (Section.mk v19.Low v19.Rows)).bind fun v45 =>
            (law10_same (Section.mk v43.Low v43.Rows) (Section.mk v45.Low v45.Rows)).bind fun v47 =>
            law10_SectionTurns_k2 a1 a2 a3 v21 (!v47)

def law10_SectionTurns (a1 : Section) (a2 : Int) (a3 : Int) : Option Bool :=
  (law10_few a1).bind fun v4 =>
  bif !v4 then
    law10_SectionTurns_k1 a1 a2 a3 true
  else
    (section_Check a1).bind fun v7 =>
    bif v7 != 0 then
      law10_SectionTurns_k1 a1 a2 a3 true
    else
      bif decide (a2 < (-2000)) then
        law10_SectionTurns_k1 a1 a2 a3 true
      else
        bif decide (a2 > 2000) then
          law10_SectionTurns_k1 a1 a2 a3 true
        else
          bif decide (a3 < (-200)) then
            law10_SectionTurns_k1 a1 a2 a3 true
          else
            law10_SectionTurns_k1 a1 a2 a3 (decide (a3 > 200))

/- sawmill/section.Meet$1 -/

def section_Meet_1 (a1 : Int) (a2 : Section) (a3 : Section) : Option Span :=
  (section_at a2 a1).bind fun v4 =>
  (section_at a3 a1).bind fun v6 =>
  (span_Meet v4 v6).bind fun v8 =>
  some v8

/- sawmill/section.build -/

def section_build_s3_k3 (x4 : Int) (rec_section_build_s3_L1 : Int → Int → Int → (List Span) → Option (Int × Int × (List Span))) (x18 : Int) (x19 : Int) (l20 : List Span) : Option (Int × Int × (List Span)) :=
  rec_section_build_s3_L1 x18 (w64 (x4 + 1)) x19 l20

def section_build_s3_k2 (x4 : Int) (l6 : List Span) (rec_section_build_s3_L1 : Int → Int → Int → (List Span) → Option (Int × Int × (List Span))) (v8 : Span) (x14 : Int) : Option (Int × Int × (List Span)) :=
  bif room (l6.length + 1) 16 then
    section_build_s3_k3 x4 rec_section_build_s3_L1 (((l6.length + 1) : Nat) : Int) x14 (l6 ++ ([v8] : List Span))
  else none

def section_build_s3_L1 (a1 : Section) (a2 : Section) : Nat → Int → Int → Int → (List Span) → Option (Int × Int × (List Span))
  | 0, _, _, _, _ => none
  | n + 1, x3, x4, x5, l6 =>
    bif decide (x4 < 60) then
      (section_Meet_1 x4 a1 a2).bind fun v8 =>
      (section_isEmpty v8).bind fun v10 =>
      bif !v10 then
        bif x3 == 0 then
          section_build_s3_k2 x4 l6 (section_build_s3_L1 a1 a2 n) v8 x4
        else
          section_build_s3_k2 x4 l6 (section_build_s3_L1 a1 a2 n) v8 x5
      else
        bif decide (x3 > 0) then
          bif room (l6.length + 1) 16 then
            section_build_s3_k3 x4 (section_build_s3_L1 a1 a2 n) x3 x5 (l6 ++ ([(Span.mk 0 0)] : List Span))
          else none
        else
          section_build_s3_k3 x4 (section_build_s3_L1 a1 a2 n) x3 x5 l6
    else
      some (x3, x5, l6)

def section_build_s3 (a1 : Section) (a2 : Section) : Option Section :=
  (section_build_s3_L1 a1 a2 FUEL 0 (-60) 0 ([] : List Span)).bind fun o24 =>
  bif slOk 0 o24.1 o24.2.2.length then
    some (Section.mk o24.2.1 (o24.2.2.take o24.1.toNat))
  else none

/- sawmill/section.Meet -/

def section_Meet (a1 : Section) (a2 : Section) : Option Section :=
  (section_valid a1).bind fun v3 =>
  (section_valid a2).bind fun v5 =>
  (section_build_s3 v3 v5).bind fun v7 =>
  some (Section.mk v7.Low v7.Rows)

/- sawmill/sawmillref10.Row -/

def ref10_Row_k1 (a1 : Section) (a2 : Int) (x4 : Bool) : Option Span :=
  bif x4 then
    some (Span.mk 0 0)
  else
    bif inb (w64 (a2 - a1.Low)) a1.Rows.length then
      some (a1.Rows.getD (w64 (a2 - a1.Low)).toNat default)
    else none

def ref10_Row (a1 : Section) (a2 : Int) : Option Span :=
  bif decide (a2 < a1.Low) then
    ref10_Row_k1 a1 a2 true
  else
    ref10_Row_k1 a1 a2 (decide (a2 ≥ (w64 (a1.Low + ((a1.Rows.length : Nat) : Int)))))

/- sawmill/sawmillref10.Meet -/

def ref10_Meet_L1 (v3 : Section) (v5 : Section) : Nat → (List Span) → Int → Option (List Span)
  | 0, _, _ => none
  | n + 1, l7, x8 =>
    bif decide (x8 < 60) then
      (ref10_Row v3 x8).bind fun v10 =>
      (ref10_Row v5 x8).bind fun v12 =>
      bif room (l7.length + 1) 16 then
        (ref10_Meet_L1 v3 v5 n) (l7 ++ ([(Span.mk (imax v10.A v12.A) (imin v10.B v12.B))] : List Span)) (w64 (x8 + 1))
      else none
    else
      some l7

def ref10_Meet (a1 : Section) (a2 : Section) : Option Section :=
  (ref10_Valid a1).bind fun v3 =>
  (ref10_Valid a2).bind fun v5 =>
  (ref10_Meet_L1 v3 v5 FUEL ([] : List Span) (-60)).bind fun o16 =>
  (ref10_Dropped (-60) o16).bind fun v18 =>
  some (Section.mk v18.Low v18.Rows)

/- sawmill/sawmillref10.Equal -/

def ref10_Equal_L2 (v3 : Section) (v5 : Section) : Nat → Int → Option (Bool ⊕ Unit)
  | 0, _ => none
  | n + 1, x10 =>
    bif decide (x10 < ((v3.Rows.length : Nat) : Int)) then
      bif inb x10 v3.Rows.length then
        bif inb x10 v5.Rows.length then
          bif !((((v3.Rows.getD x10.toNat default).A) == ((v5.Rows.getD x10.toNat default).A)) && ((((v3.Rows.getD x10.toNat default).B) == ((v5.Rows.getD x10.toNat default).B)) && true)) then
            some (Sum.inl false)
          else
            (ref10_Equal_L2 v3 v5 n) (w64 (x10 + 1))
        else none
      else none
    else
      some (Sum.inr ())

def ref10_Equal_k1 (v3 : Section) (v5 : Section) (x8 : Bool) : Option Bool :=
  bif x8 then
    some false
  else
    (ref10_Equal_L2 v3 v5 FUEL 0).bind fun u17 => Sum.elim (fun v18 => some v18) (fun o15 =>
    some true) u17

def ref10_Equal (a1 : Section) (a2 : Section) : Option Bool :=
  (ref10_Valid a1).bind fun v3 =>
  (ref10_Valid a2).bind fun v5 =>
  bif v3.Low != v5.Low then
    ref10_Equal_k1 v3 v5 true
  else
    ref10_Equal_k1 v3 v5 (((v3.Rows.length : Nat) : Int) != ((v5.Rows.length : Nat) : Int))

/- sawmill/sawmilllaw10.SectionMeets -/

def law10_SectionMeets_k2 (x26 : Bool) : Option Bool :=
  some x26

def law10_SectionMeets_k1 (a1 : Section) (a2 : Section) (x8 : Bool) : Option Bool :=
  bif x8 then
    (law10_awake).bind fun v10 =>
    some v10
  else
    (section_Meet a1 a2).bind fun v12 =>
    (ref10_Meet a1 a2).bind fun v14 =>
    (law10_same (Section.mk v12.Low v12.Rows) (Section.mk v14.Low v14.Rows)).bind fun v16 =>
    bif v16 then
      (section_Equal a1 a2).bind fun v19 =>
      (ref10_Equal a1 a2).bind fun v21 =>
      bif v19 == v21 then
        (law10_awake).bind fun v24 =>
        law10_SectionMeets_k2 v24
      else
        law10_SectionMeets_k2 false
    else
      law10_SectionMeets_k2 false

def law10_SectionMeets (a1 : Section) (a2 : Section) : Option Bool :=
  (law10_few a1).bind fun v3 =>
  bif !v3 then
    law10_SectionMeets_k1 a1 a2 true
  else
    (law10_few a2).bind fun v6 =>
    law10_SectionMeets_k1 a1 a2 (!v6)

/- sawmill/sawmilllaw10.SectionCommon -/

def law10_SectionCommon_k3 (x49 : Bool) : Option Bool :=
  some x49

def law10_SectionCommon_k2 (a1 : Section) (a2 : Section) (a3 : Point) (v17 : Section) (x34 : Bool) : Option Bool :=
  bif x34 then
    some false
  else
    (section_Within (Section.mk v17.Low v17.Rows) (Rect.mk (Span.mk a3.X (w64 (a3.X + 1))) (Span.mk (w64 (10 * a3.Y)) (w64 (10 * (w64 (a3.Y + 1))))))).bind fun v36 =>
    (section_Within a1 (Rect.mk (Span.mk a3.X (w64 (a3.X + 1))) (Span.mk (w64 (10 * a3.Y)) (w64 (10 * (w64 (a3.Y + 1))))))).bind fun v38 =>
    bif v38 == 10 then
      (section_Within a2 (Rect.mk (Span.mk a3.X (w64 (a3.X + 1))) (Span.mk (w64 (10 * a3.Y)) (w64 (10 * (w64 (a3.Y + 1))))))).bind fun v41 =>
      bif (v36 == 10) == (v41 == 10) then
        (law10_awake).bind fun v44 =>
        law10_SectionCommon_k3 v44
      else
        law10_SectionCommon_k3 false
    else
      bif (v36 == 10) == false then
        (law10_awake).bind fun v47 =>
        law10_SectionCommon_k3 v47
      else
        law10_SectionCommon_k3 false

def law10_SectionCommon_k1 (a1 : Section) (a2 : Section) (a3 : Point) (x13 : Bool) : Option Bool :=
  bif x13 then
    (law10_awake).bind fun v15 =>
    some v15
  else
    (section_Meet a1 a2).bind fun v17 =>
    (section_Check (Section.mk v17.Low v17.Rows)).bind fun v19 =>
    bif v19 != 0 then
      law10_SectionCommon_k2 a1 a2 a3 v17 true
    else
      (section_Meet a2 a1).bind fun v22 =>
      (law10_same (Section.mk v17.Low v17.Rows) (Section.mk v22.Low v22.Rows)).bind fun v24 =>
      bif !v24 then
        law10_SectionCommon_k2 a1 a2 a3 v17 true
      else
        (section_Check a1).bind fun v27 =>
        bif v27 == 0 then
          (section_Meet a1 a1).bind fun v30 =>
          (law10_same (Section.mk v30.Low v30.Rows) a1).bind fun v32 =>
          law10_SectionCommon_k2 a1 a2 a3 v17 (!v32)
        else
          law10_SectionCommon_k2 a1 a2 a3 v17 false

def law10_SectionCommon (a1 : Section) (a2 : Section) (a3 : Point) : Option Bool :=
  (law10_few a1).bind fun v4 =>
  bif !v4 then
    law10_SectionCommon_k1 a1 a2 a3 true
  else
    (law10_few a2).bind fun v7 =>
    bif !v7 then
      law10_SectionCommon_k1 a1 a2 a3 true
    else
      bif decide (a3.X < (-1000)) then
        law10_SectionCommon_k1 a1 a2 a3 true
      else
        bif decide (a3.X > 1000) then
          law10_SectionCommon_k1 a1 a2 a3 true
        else
          bif decide (a3.Y < (-100)) then
            law10_SectionCommon_k1 a1 a2 a3 true
          else
            law10_SectionCommon_k1 a1 a2 a3 (decide (a3.Y > 100))

/- sawmill/poly.onEdge -/

def poly_onEdge_k1 (x10 : Bool) : Option Bool :=
  some x10

def poly_onEdge (a1 : Point) (a2 : Point) (a3 : Point) : Option Bool :=
  (poly_cross a1 a2 a3).bind fun v4 =>
  bif v4 == 0 then
    bif decide ((imin a1.X a2.X) ≤ a3.X) then
      bif decide (a3.X ≤ (imax a1.X a2.X)) then
        bif decide ((imin a1.Y a2.Y) ≤ a3.Y) then
          poly_onEdge_k1 (decide (a3.Y ≤ (imax a1.Y a2.Y)))
        else
          poly_onEdge_k1 false
      else
        poly_onEdge_k1 false
    else
      poly_onEdge_k1 false
  else
    poly_onEdge_k1 false

/- sawmill/poly.Has -/

def poly_Has_k5 (x14 : Int) (rec_poly_Has_L2 : Bool → Int → Option (Bool ⊕ Bool)) (x31 : Bool) : Option (Bool ⊕ Bool) :=
  rec_poly_Has_L2 x31 (w64 (x14 + 1))

def poly_Has_k4 (x13 : Bool) (x14 : Int) (rec_poly_Has_L2 : Bool → Int → Option (Bool ⊕ Bool)) (x29 : Bool) : Option (Bool ⊕ Bool) :=
  bif x29 then
    poly_Has_k5 x14 rec_poly_Has_L2 (!x13)
  else
    poly_Has_k5 x14 rec_poly_Has_L2 x13

def poly_Has_k3 (a2 : Point) (x13 : Bool) (x14 : Int) (rec_poly_Has_L2 : Bool → Int → Option (Bool ⊕ Bool)) (x23 : Point) (x24 : Point) : Option (Bool ⊕ Bool) :=
  bif decide (x24.Y ≤ a2.Y) then
    bif decide (a2.Y < x23.Y) then
      (poly_cross x24 x23 a2).bind fun v27 =>
      poly_Has_k4 x13 x14 rec_poly_Has_L2 (decide (v27 > 0))
    else
      poly_Has_k4 x13 x14 rec_poly_Has_L2 false
  else
    poly_Has_k4 x13 x14 rec_poly_Has_L2 false

def poly_Has_L2 (a1 : List Point) (a2 : Point) : Nat → Bool → Int → Option (Bool ⊕ Bool)
  | 0, _, _ => none
  | n + 1, x13, x14 =>
    bif decide (x14 < ((a1.length : Nat) : Int)) then
      bif inb x14 a1.length then
        bif nz ((a1.length : Nat) : Int) then
          bif inb (Int.tmod (w64 (x14 + 1)) ((a1.length : Nat) : Int)) a1.length then
            (poly_onEdge (a1.getD x14.toNat default) (a1.getD (Int.tmod (w64 (x14 + 1)) ((a1.length : Nat) : Int)).toNat default) a2).bind fun v19 =>
            bif v19 then
              some (Sum.inl true)
            else
              bif decide (((a1.getD x14.toNat default).Y) > ((a1.getD (Int.tmod (w64 (x14 + 1)) ((a1.length : Nat) : Int)).toNat default).Y)) then
                poly_Has_k3 a2 x13 x14 (poly_Has_L2 a1 a2 n) (a1.getD x14.toNat default) (a1.getD (Int.tmod (w64 (x14 + 1)) ((a1.length : Nat) : Int)).toNat default)
              else
                poly_Has_k3 a2 x13 x14 (poly_Has_L2 a1 a2 n) (a1.getD (Int.tmod (w64 (x14 + 1)) ((a1.length : Nat) : Int)).toNat default) (a1.getD x14.toNat default)
          else none
        else none
      else none
    else
      some (Sum.inr x13)

def poly_Has_k1 (a1 : List Point) (a2 : Point) (x11 : Bool) : Option Bool :=
  bif x11 then
    some false
  else
    (poly_Has_L2 a1 a2 FUEL false 0).bind fun u35 => Sum.elim (fun v36 => some v36) (fun o33 =>
    some o33) u35

def poly_Has (a1 : List Point) (a2 : Point) : Option Bool :=
  (poly_Check a1).bind fun v3 =>
  bif v3 != 0 then
    poly_Has_k1 a1 a2 true
  else
    (poly_within a2.X).bind fun v6 =>
    bif !v6 then
      poly_Has_k1 a1 a2 true
    else
      (poly_within a2.Y).bind fun v9 =>
      poly_Has_k1 a1 a2 (!v9)

/- sawmill/sawmilllaw10.SectionInside$1 -/

def law10_SectionInside_1 (a1 : Int) (a2 : Int) (a3 : List Point) : Option Bool :=
  (poly_Has a3 (Point.mk a1 a2)).bind fun v4 =>
  some v4

/- sawmill/sawmilllaw10.SectionInside -/

def law10_SectionInside_k2 (x16 : Bool) : Option Bool :=
  some x16

def law10_SectionInside_k6 (x24 : Int) (rec_law10_SectionInside_L4 : Int → Option (Bool ⊕ Unit)) : Option (Bool ⊕ Unit) :=
  rec_law10_SectionInside_L4 (w64 (x24 + 1))

def law10_SectionInside_k5 (x24 : Int) (rec_law10_SectionInside_L4 : Int → Option (Bool ⊕ Unit)) (x56 : Bool) : Option (Bool ⊕ Unit) :=
  bif x56 then
    some (Sum.inl false)
  else
    law10_SectionInside_k6 x24 rec_law10_SectionInside_L4

def law10_SectionInside_L4 (v9 : Section × Int) (v22 : (List Point)) : Nat → Int → Option (Bool ⊕ Unit)
  | 0, _ => none
  | n + 1, x24 =>
    bif decide (x24 < ((v9.1.Rows.length : Nat) : Int)) then
      bif inb x24 v9.1.Rows.length then
        bif decide (((v9.1.Rows.getD x24.toNat default).A) ≥ ((v9.1.Rows.getD x24.toNat default).B)) then
          law10_SectionInside_k6 x24 (law10_SectionInside_L4 v9 v22 n)
        else
          (law10_SectionInside_1 ((v9.1.Rows.getD x24.toNat default).A) (w64 (10 * (w64 (v9.1.Low + x24)))) v22).bind fun v28 =>
          bif !v28 then
            law10_SectionInside_k5 x24 (law10_SectionInside_L4 v9 v22 n) true
          else
            (law10_SectionInside_1 ((v9.1.Rows.getD x24.toNat default).A) (w64 (10 * (w64 ((w64 (v9.1.Low + x24)) + 1)))) v22).bind fun v31 =>
            bif !v31 then
              law10_SectionInside_k5 x24 (law10_SectionInside_L4 v9 v22 n) true
            else
              (law10_SectionInside_1 ((v9.1.Rows.getD x24.toNat default).B) (w64 (10 * (w64 (v9.1.Low + x24)))) v22).bind fun v34 =>
              bif !v34 then
                law10_SectionInside_k5 x24 (law10_SectionInside_L4 v9 v22 n) true
              else
                (law10_SectionInside_1 ((v9.1.Rows.getD x24.toNat default).B) (w64 (10 * (w64 ((w64 (v9.1.Low + x24)) + 1)))) v22).bind fun v37 =>
                bif !v37 then
                  law10_SectionInside_k5 x24 (law10_SectionInside_L4 v9 v22 n) true
                else
                  (law10_SectionInside_1 (w64 (((v9.1.Rows.getD x24.toNat default).A) - 1)) (w64 (10 * (w64 (v9.1.Low + x24)))) v22).bind fun v40 =>
                  bif v40 then
                    (law10_SectionInside_1 (w64 (((v9.1.Rows.getD x24.toNat default).A) - 1)) (w64 (10 * (w64 ((w64 (v9.1.Low + x24)) + 1)))) v22).bind fun v43 =>
                    bif v43 then
                      law10_SectionInside_k5 x24 (law10_SectionInside_L4 v9 v22 n) true
                    else
                      (law10_SectionInside_1 (w64 (((v9.1.Rows.getD x24.toNat default).B) + 1)) (w64 (10 * (w64 (v9.1.Low + x24)))) v22).bind fun v46 =>
                      bif v46 then
                        (law10_SectionInside_1 (w64 (((v9.1.Rows.getD x24.toNat default).B) + 1)) (w64 (10 * (w64 ((w64 (v9.1.Low + x24)) + 1)))) v22).bind fun v49 =>
                        law10_SectionInside_k5 x24 (law10_SectionInside_L4 v9 v22 n) v49
                      else
                        law10_SectionInside_k5 x24 (law10_SectionInside_L4 v9 v22 n) false
                  else
                    (law10_SectionInside_1 (w64 (((v9.1.Rows.getD x24.toNat default).B) + 1)) (w64 (10 * (w64 (v9.1.Low + x24)))) v22).bind fun v51 =>
                    bif v51 then
                      (law10_SectionInside_1 (w64 (((v9.1.Rows.getD x24.toNat default).B) + 1)) (w64 (10 * (w64 ((w64 (v9.1.Low + x24)) + 1)))) v22).bind fun v54 =>
                      law10_SectionInside_k5 x24 (law10_SectionInside_L4 v9 v22 n) v54
                    else
                      law10_SectionInside_k5 x24 (law10_SectionInside_L4 v9 v22 n) false
      else none
    else
      some (Sum.inr ())

def law10_SectionInside_k3 (a1 : List Point) (v9 : Section × Int) (x20 : Bool) : Option Bool :=
  bif x20 then
    some false
  else
    (poly_Hull a1).bind fun v22 =>
    (law10_SectionInside_L4 v9 v22 FUEL 0).bind fun u60 => Sum.elim (fun v61 => some v61) (fun o58 =>
    (law10_awake).bind fun v62 =>
    some v62) u60

def law10_SectionInside_k1 (a1 : List Point) (x5 : Bool) : Option Bool :=
  bif x5 then
    (law10_awake).bind fun v7 =>
    some v7
  else
    (section_Of a1).bind fun v9 =>
    bif v9.2 != 0 then
      bif v9.2 == 18 then
        bif ((v9.1.Rows.length : Nat) : Int) == 0 then
          (law10_awake).bind fun v14 =>
          law10_SectionInside_k2 v14
        else
          law10_SectionInside_k2 false
      else
        law10_SectionInside_k2 false
    else
      (section_Check (Section.mk v9.1.Low v9.1.Rows)).bind fun v17 =>
      bif v17 != 0 then
        law10_SectionInside_k3 a1 v9 true
      else
        law10_SectionInside_k3 a1 v9 (((v9.1.Rows.length : Nat) : Int) == 0)

def law10_SectionInside (a1 : List Point) : Option Bool :=
  bif decide (((a1.length : Nat) : Int) > 40) then
    law10_SectionInside_k1 a1 true
  else
    (ref09_Check a1).bind fun v3 =>
    law10_SectionInside_k1 a1 (v3 != 0)

end Saw
end Go.SL

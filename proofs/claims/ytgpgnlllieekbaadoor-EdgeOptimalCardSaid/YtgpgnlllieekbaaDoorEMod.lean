import Derived.Test.YtgpgnlllieekbaaDoorYa5
set_option linter.unusedVariables false
set_option linter.unusedSimpArgs false
namespace Go.SL
namespace Saw

structure Piece where
  Size : Int
  At : Int

instance : Inhabited Piece := ⟨⟨0, 0⟩⟩

def e_Piece (r : Piece) : List C := [ci r.Size, ci r.At]

structure Product where
  Name : ByteArray
  Thick : Int
  Width : Int
  Allow : Int
  Wane : Int
  Lengths : List Int
  Prices : List Int

instance : Inhabited Product := ⟨⟨⟨#[]⟩, 0, 0, 0, 0, [], []⟩⟩

def e_Product (r : Product) : List C := [cs r.Name, ci r.Thick, ci r.Width, ci r.Allow, ci r.Wane, tl e_i64 default r.Lengths, tl e_i64 default r.Prices]

structure Span where
  A : Int
  B : Int

instance : Inhabited Span := ⟨⟨0, 0⟩⟩

def e_Span (r : Span) : List C := [ci r.A, ci r.B]

structure Section where
  Low : Int
  Rows : List Span

instance : Inhabited Section := ⟨⟨0, []⟩⟩

def e_Section (r : Section) : List C := [ci r.Low, tl e_Span default r.Rows]

structure Slice where
  Len : Int
  Sec : Section

instance : Inhabited Slice := ⟨⟨0, default⟩⟩

def e_Slice (r : Slice) : List C := [ci r.Len, ci r.Sec.Low, tl e_Span default r.Sec.Rows]

structure Box where
  X : Span
  Y : Span
  Z : Span

instance : Inhabited Box := ⟨⟨default, default, default⟩⟩

def e_Box (r : Box) : List C := [ci r.X.A, ci r.X.B, ci r.Y.A, ci r.Y.B, ci r.Z.A, ci r.Z.B]

structure Defect where
  Kind : Int
  Box : Box

instance : Inhabited Defect := ⟨⟨0, default⟩⟩

def e_Defect (r : Defect) : List C := [ci r.Kind, ci r.Box.X.A, ci r.Box.X.B, ci r.Box.Y.A, ci r.Box.Y.B, ci r.Box.Z.A, ci r.Box.Z.B]

structure Rect where
  X : Span
  Y : Span

instance : Inhabited Rect := ⟨⟨default, default⟩⟩

def e_Rect (r : Rect) : List C := [ci r.X.A, ci r.X.B, ci r.Y.A, ci r.Y.B]

structure Saw where
  Kerf : Int
  Trim : Int
  Pitch : Int
  Step : Int

instance : Inhabited Saw := ⟨⟨0, 0, 0, 0⟩⟩

def e_Saw (r : Saw) : List C := [ci r.Kerf, ci r.Trim, ci r.Pitch, ci r.Step]

structure Rates where
  Chip : Int
  Dust : Int
  Fine : Int

instance : Inhabited Rates := ⟨⟨0, 0, 0⟩⟩

def e_Rates (r : Rates) : List C := [ci r.Chip, ci r.Dust, ci r.Fine]

structure Law23_Given where
  Solid : List Slice
  Defects : List Defect
  Products : List Product
  Strip : Rect
  Saw : Saw
  Rates : Rates

instance : Inhabited Law23_Given := ⟨⟨[], [], [], default, default, default⟩⟩

def e_Law23_Given (r : Law23_Given) : List C := [tl e_Slice default r.Solid, tl e_Defect default r.Defects, tl e_Product default r.Products, ci r.Strip.X.A, ci r.Strip.X.B, ci r.Strip.Y.A, ci r.Strip.Y.B, ci r.Saw.Kerf, ci r.Saw.Trim, ci r.Saw.Pitch, ci r.Saw.Step, ci r.Rates.Chip, ci r.Rates.Dust, ci r.Rates.Fine]

structure Worth_zone where
  z : Span
  lack : Int

instance : Inhabited Worth_zone := ⟨⟨default, 0⟩⟩

def e_Worth_zone (r : Worth_zone) : List C := [ci r.z.A, ci r.z.B, ci r.lack]

structure Worth_view where
  product : Product
  rect : Rect
  length : Int
  zones : List Worth_zone
  defects : List Defect

instance : Inhabited Worth_view := ⟨⟨default, default, 0, [], []⟩⟩

def e_Worth_view (r : Worth_view) : List C := [cs r.product.Name, ci r.product.Thick, ci r.product.Width, ci r.product.Allow, ci r.product.Wane, tl e_i64 default r.product.Lengths, tl e_i64 default r.product.Prices, ci r.rect.X.A, ci r.rect.X.B, ci r.rect.Y.A, ci r.rect.Y.B, ci r.length, tl e_Worth_zone default r.zones, tl e_Defect default r.defects]

structure Line where
  Len : Int
  Kerf : Int
  Pitch : Int
  Sizes : List Int
  Gain : List (List Int)
  Chip : List Int
  Dust : List Int

instance : Inhabited Line := ⟨⟨0, 0, 0, [], [], [], []⟩⟩

def e_Line (r : Line) : List C := [ci r.Len, ci r.Kerf, ci r.Pitch, tl e_i64 default r.Sizes, tl (e_lst e_i64) default r.Gain, tl e_i64 default r.Chip, tl e_i64 default r.Dust]

structure Cutting_choice where
  piece : Piece
  value : Int

instance : Inhabited Cutting_choice := ⟨⟨default, 0⟩⟩

def e_Cutting_choice (r : Cutting_choice) : List C := [ci r.piece.Size, ci r.piece.At, ci r.value]

structure Node where
  Kind : Int
  At : Int

instance : Inhabited Node := ⟨⟨0, 0⟩⟩

def e_Node (r : Node) : List C := [ci r.Kind, ci r.At]

structure Pattern where
  Frame : Rect
  Nodes : List Node

instance : Inhabited Pattern := ⟨⟨default, []⟩⟩

def e_Pattern (r : Pattern) : List C := [ci r.Frame.X.A, ci r.Frame.X.B, ci r.Frame.Y.A, ci r.Frame.Y.B, tl e_Node default r.Nodes]

def var_none : Piece := (Piece.mk (-1) (-1))

def globs : List (Nat × C) := [(0, .lptr (e_Piece var_none))]

/- sawmill/sawmilllaw19.Short -/

def law19_Short_k2 (x2 : Int) (rec_law19_Short_L1 : Int → Option (Bool ⊕ Unit)) (x8 : Bool) : Option (Bool ⊕ Unit) :=
  bif x8 then
    some (Sum.inl false)
  else
    rec_law19_Short_L1 (w64 (x2 + 1))

def law19_Short_L1 (a1 : List Product) : Nat → Int → Option (Bool ⊕ Unit)
  | 0, _ => none
  | n + 1, x2 =>
    bif decide (x2 < ((a1.length : Nat) : Int)) then
      bif decide (x2 ≥ 20) then
        law19_Short_k2 x2 (law19_Short_L1 a1 n) true
      else
        bif inb x2 a1.length then
          bif decide (((((a1.getD x2.toNat default).Lengths).length : Nat) : Int) > 12) then
            law19_Short_k2 x2 (law19_Short_L1 a1 n) true
          else
            bif decide (((((a1.getD x2.toNat default).Prices).length : Nat) : Int) > 12) then
              law19_Short_k2 x2 (law19_Short_L1 a1 n) true
            else
              law19_Short_k2 x2 (law19_Short_L1 a1 n) (decide (((((a1.getD x2.toNat default).Name).size : Nat) : Int) > 100))
        else none
    else
      some (Sum.inr ())

def law19_Short (a1 : List Product) : Option Bool :=
  (law19_Short_L1 a1 FUEL 0).bind fun u12 => Sum.elim (fun v13 => some v13) (fun o10 =>
  some true) u12

/- sawmill/sawmilllaw19.Plank -/

def law19_Plank : Option Product :=
  some (Product.mk (ByteArray.mk #[112, 108, 97, 110, 107]) 40 100 50 0 ([2000] : List Int) ([70] : List Int))

/- sawmill/sawmilllaw23.sample -/

def law23_sample_L1 : Nat → Int → (List Span) → Option (List Span)
  | 0, _, _ => none
  | n + 1, x1, l2 =>
    bif decide (x1 < 20) then
      bif room (l2.length + 1) 16 then
        (law23_sample_L1 n) (w64 (x1 + 1)) (l2 ++ ([(Span.mk (-100) 100)] : List Span))
      else none
    else
      some l2

def law23_sample : Option Law23_Given :=
  (law23_sample_L1 FUEL 0 ([] : List Span)).bind fun o6 =>
  (law19_Plank).bind fun v10 =>
  some (Law23_Given.mk ([(Slice.mk 3000 (Section.mk (-10) o6))] : List Slice) ([] : List Defect) ([v10] : List Product) (Rect.mk (Span.mk (-100) 10) (Span.mk 0 42)) (Saw.mk 4 5 5 500) (Rates.mk 0 0 0))

/- sawmill/section.inRange -/

def section_inRange_k1 (x3 : Bool) : Option Bool :=
  some x3

def section_inRange (a1 : Span) : Option Bool :=
  bif decide ((imin a1.A a1.B) ≥ (-600)) then
    section_inRange_k1 (decide ((imax a1.A a1.B) ≤ 600))
  else
    section_inRange_k1 false

/- sawmill/section.isEmpty -/

def section_isEmpty (a1 : Span) : Option Bool :=
  some (decide (a1.A ≥ a1.B))

/- sawmill/section.Check -/

def section_Check_L2 (a1 : Section) : Nat → Int → Option (Int ⊕ Unit)
  | 0, _ => none
  | n + 1, x6 =>
    bif decide (x6 < ((a1.Rows.length : Nat) : Int)) then
      bif inb x6 a1.Rows.length then
        (section_inRange (a1.Rows.getD x6.toNat default)).bind fun v9 =>
        bif !v9 then
          some (Sum.inl 9)
        else
          (section_Check_L2 a1 n) (w64 (x6 + 1))
      else none
    else
      some (Sum.inr ())

def section_Check_k5 (x27 : Int) (rec_section_Check_L4 : Int → Option (Int ⊕ Unit)) (x33 : Bool) : Option (Int ⊕ Unit) :=
  bif x33 then
    some (Sum.inl 19)
  else
    rec_section_Check_L4 (w64 (x27 + 1))

def section_Check_L4 (a1 : Section) : Nat → Int → Option (Int ⊕ Unit)
  | 0, _ => none
  | n + 1, x27 =>
    bif decide (x27 < ((a1.Rows.length : Nat) : Int)) then
      bif inb x27 a1.Rows.length then
        (section_isEmpty (a1.Rows.getD x27.toNat default)).bind fun v30 =>
        bif v30 then
          section_Check_k5 x27 (section_Check_L4 a1 n) (!((((a1.Rows.getD x27.toNat default).A) == 0) && ((((a1.Rows.getD x27.toNat default).B) == 0) && true)))
        else
          section_Check_k5 x27 (section_Check_L4 a1 n) false
      else none
    else
      some (Sum.inr ())

def section_Check_k3 (a1 : Section) (x25 : Bool) : Option Int :=
  bif x25 then
    some 19
  else
    (section_Check_L4 a1 FUEL 0).bind fun u37 => Sum.elim (fun v38 => some v38) (fun o35 =>
    some 0) u37

def section_Check_k1 (a1 : Section) (x4 : Bool) : Option Int :=
  bif x4 then
    some 9
  else
    (section_Check_L2 a1 FUEL 0).bind fun u14 => Sum.elim (fun v15 => some v15) (fun o12 =>
    bif ((a1.Rows.length : Nat) : Int) == 0 then
      bif a1.Low != 0 then
        some 19
      else
        some 0
    else
      bif inb 0 a1.Rows.length then
        (section_isEmpty (a1.Rows.getD (0 : Int).toNat default)).bind fun v19 =>
        bif v19 then
          section_Check_k3 a1 true
        else
          bif inb (w64 (((a1.Rows.length : Nat) : Int) - 1)) a1.Rows.length then
            (section_isEmpty (a1.Rows.getD (w64 (((a1.Rows.length : Nat) : Int) - 1)).toNat default)).bind fun v23 =>
            section_Check_k3 a1 v23
          else none
      else none) u14

def section_Check (a1 : Section) : Option Int :=
  bif decide (((a1.Rows.length : Nat) : Int) > 120) then
    some 4
  else
    bif decide (a1.Low < (-60)) then
      section_Check_k1 a1 true
    else
      section_Check_k1 a1 (decide (a1.Low > (w64 (60 - ((a1.Rows.length : Nat) : Int)))))

/- sawmill/solid.Check -/

def solid_Check_k2 (a1 : List Slice) (x4 : Int) (x5 : Int) (rec_solid_Check_L1 : Int → Int → Option (Int ⊕ Unit)) (x13 : Bool) : Option (Int ⊕ Unit) :=
  bif x13 then
    some (Sum.inl 9)
  else
    rec_solid_Check_L1 (w64 (x4 + ((a1.getD x5.toNat default).Len))) (w64 (x5 + 1))

def solid_Check_L1 (a1 : List Slice) : Nat → Int → Int → Option (Int ⊕ Unit)
  | 0, _, _ => none
  | n + 1, x4, x5 =>
    bif decide (x5 < ((a1.length : Nat) : Int)) then
      bif inb x5 a1.length then
        (section_Check ((a1.getD x5.toNat default).Sec)).bind fun v8 =>
        bif v8 != 0 then
          some (Sum.inl v8)
        else
          bif (((((a1.getD x5.toNat default).Sec).Rows).length : Nat) : Int) == 0 then
            some (Sum.inl 18)
          else
            bif decide (((a1.getD x5.toNat default).Len) < 1) then
              solid_Check_k2 a1 x4 x5 (solid_Check_L1 a1 n) true
            else
              solid_Check_k2 a1 x4 x5 (solid_Check_L1 a1 n) (decide (((a1.getD x5.toNat default).Len) > (w64 (20000 - x4))))
      else none
    else
      some (Sum.inr ())

def solid_Check (a1 : List Slice) : Option Int :=
  bif ((a1.length : Nat) : Int) == 0 then
    some 3
  else
    bif decide (((a1.length : Nat) : Int) > 24) then
      some 4
    else
      (solid_Check_L1 a1 FUEL 0 0).bind fun u17 => Sum.elim (fun v18 => some v18) (fun o15 =>
      some 0) u17

/- sawmill/defect.isEmpty -/

def defect_isEmpty (a1 : Span) : Option Bool :=
  some (decide (a1.A ≥ a1.B))

/- sawmill/defect.inside -/

def defect_inside_k1 (x5 : Bool) : Option Bool :=
  some x5

def defect_inside (a1 : Span) (a2 : Int) (a3 : Int) : Option Bool :=
  bif decide ((imin a1.A a1.B) ≥ a2) then
    defect_inside_k1 (decide ((imax a1.A a1.B) ≤ a3))
  else
    defect_inside_k1 false

/- sawmill/defect.check -/

def defect_check_k3 (x23 : Bool) : Option Int :=
  bif x23 then
    some 9
  else
    some 0

def defect_check_k2 (a1 : Defect) (x13 : Bool) : Option Int :=
  bif x13 then
    some 19
  else
    (defect_inside a1.Box.X (-600) 600).bind fun v15 =>
    bif !v15 then
      defect_check_k3 true
    else
      (defect_inside a1.Box.Y (-600) 600).bind fun v18 =>
      bif !v18 then
        defect_check_k3 true
      else
        (defect_inside a1.Box.Z 0 20000).bind fun v21 =>
        defect_check_k3 (!v21)

def defect_check_k1 (a1 : Defect) (x3 : Bool) : Option Int :=
  bif x3 then
    some 10
  else
    (defect_isEmpty a1.Box.X).bind fun v5 =>
    bif v5 then
      defect_check_k2 a1 true
    else
      (defect_isEmpty a1.Box.Y).bind fun v8 =>
      bif v8 then
        defect_check_k2 a1 true
      else
        (defect_isEmpty a1.Box.Z).bind fun v11 =>
        defect_check_k2 a1 v11

def defect_check (a1 : Defect) : Option Int :=
  bif decide (a1.Kind < 1) then
    defect_check_k1 a1 true
  else
    defect_check_k1 a1 (decide (a1.Kind > 6))

/- sawmill/defect.Check -/

def defect_Check_L1 (a1 : List Defect) : Nat → Int → Option (Int ⊕ Unit)
  | 0, _ => none
  | n + 1, x3 =>
    bif decide (x3 < ((a1.length : Nat) : Int)) then
      bif inb x3 a1.length then
        (defect_check (a1.getD x3.toNat default)).bind fun v6 =>
        bif v6 != 0 then
          some (Sum.inl v6)
        else
          (defect_Check_L1 a1 n) (w64 (x3 + 1))
      else none
    else
      some (Sum.inr ())

def defect_Check (a1 : List Defect) : Option Int :=
  bif decide (((a1.length : Nat) : Int) > 64) then
    some 4
  else
    (defect_Check_L1 a1 FUEL 0).bind fun u11 => Sum.elim (fun v12 => some v12) (fun o9 =>
    some 0) u11

/- sawmill/ident.isSmall -/

def ident_isSmall_k1 (x3 : Bool) : Option Bool :=
  some x3

def ident_isSmall (a1 : Int) : Option Bool :=
  bif decide (97 ≤ a1) then
    ident_isSmall_k1 (decide (a1 ≤ 122))
  else
    ident_isSmall_k1 false

/- sawmill/ident.isDigit -/

def ident_isDigit_k1 (x3 : Bool) : Option Bool :=
  some x3

def ident_isDigit (a1 : Int) : Option Bool :=
  bif decide (48 ≤ a1) then
    ident_isDigit_k1 (decide (a1 ≤ 57))
  else
    ident_isDigit_k1 false

/- sawmill/ident.IsName -/

def ident_IsName_k3 (x9 : Int) (rec_ident_IsName_L2 : Int → Option (Bool ⊕ Unit)) (x18 : Bool) : Option (Bool ⊕ Unit) :=
  bif x18 then
    some (Sum.inl false)
  else
    rec_ident_IsName_L2 (w64 (x9 + 1))

def ident_IsName_L2 (a1 : ByteArray) : Nat → Int → Option (Bool ⊕ Unit)
  | 0, _ => none
  | n + 1, x9 =>
    bif decide (x9 < ((a1.size : Nat) : Int)) then
      bif inb x9 a1.size then
        (ident_isSmall (strAt a1 x9.toNat)).bind fun v12 =>
        bif !v12 then
          (ident_isDigit (strAt a1 x9.toNat)).bind fun v15 =>
          bif !v15 then
            ident_IsName_k3 x9 (ident_IsName_L2 a1 n) ((strAt a1 x9.toNat) != 95)
          else
            ident_IsName_k3 x9 (ident_IsName_L2 a1 n) false
        else
          ident_IsName_k3 x9 (ident_IsName_L2 a1 n) false
      else none
    else
      some (Sum.inr ())

def ident_IsName_k1 (a1 : ByteArray) (x7 : Bool) : Option Bool :=
  bif x7 then
    some false
  else
    (ident_IsName_L2 a1 FUEL 1).bind fun u22 => Sum.elim (fun v23 => some v23) (fun o20 =>
    some true) u22

def ident_IsName (a1 : ByteArray) : Option Bool :=
  bif decide (((a1.size : Nat) : Int) < 1) then
    ident_IsName_k1 a1 true
  else
    bif decide (((a1.size : Nat) : Int) > 16) then
      ident_IsName_k1 a1 true
    else
      bif inb 0 a1.size then
        (ident_isSmall (strAt a1 ((0 : Int).toNat))).bind fun v5 =>
        ident_IsName_k1 a1 (!v5)
      else none

/- sawmill/product.Find -/

def product_Find_L1 (a1 : List Product) (a2 : ByteArray) : Nat → Int → Option ((Int × Bool) ⊕ Unit)
  | 0, _ => none
  | n + 1, x3 =>
    bif decide (x3 < ((a1.length : Nat) : Int)) then
      bif inb x3 a1.length then
        bif strEq ((a1.getD x3.toNat default).Name) a2 then
          some (Sum.inl (x3, true))
        else
          (product_Find_L1 a1 a2 n) (w64 (x3 + 1))
      else none
    else
      some (Sum.inr ())

def product_Find (a1 : List Product) (a2 : ByteArray) : Option (Int × Bool) :=
  (product_Find_L1 a1 a2 FUEL 0).bind fun u9 => Sum.elim (fun v10 => some v10) (fun o7 =>
  some (0, false)) u9

/- sawmill/product.isSize -/

def product_isSize_k1 (x3 : Bool) : Option Bool :=
  some x3

def product_isSize (a1 : Int) : Option Bool :=
  bif decide (a1 ≥ 1) then
    product_isSize_k1 (decide (a1 ≤ 600))
  else
    product_isSize_k1 false

/- sawmill/product.grow -/

def product_grow (a1 : Int) (a2 : Int) : Option Int :=
  some (w64 (Int.tdiv (w64 ((w64 (a1 * (w64 (1000 + a2)))) + 999)) 1000))

/- sawmill/product.Green -/

def product_Green_k1 (a1 : Product) (x9 : Bool) : Option (Int × Int) :=
  bif x9 then
    some (0, 0)
  else
    (product_grow a1.Thick a1.Allow).bind fun v11 =>
    (product_grow a1.Width a1.Allow).bind fun v13 =>
    some (v11, v13)

def product_Green (a1 : Product) : Option (Int × Int) :=
  (product_isSize a1.Thick).bind fun v2 =>
  bif !v2 then
    product_Green_k1 a1 true
  else
    (product_isSize a1.Width).bind fun v5 =>
    bif !v5 then
      product_Green_k1 a1 true
    else
      bif decide (a1.Allow < 0) then
        product_Green_k1 a1 true
      else
        product_Green_k1 a1 (decide (a1.Allow > 200))

/- sawmill/product.checkNumbers -/

def product_checkNumbers_k5 (x18 : Int) (rec_product_checkNumbers_L3 : Int → Option (Int ⊕ Unit)) (x26 : Bool) : Option (Int ⊕ Unit) :=
  bif x26 then
    some (Sum.inl 11)
  else
    rec_product_checkNumbers_L3 (w64 (x18 + 1))

def product_checkNumbers_k4 (a1 : Product) (x18 : Int) (rec_product_checkNumbers_L3 : Int → Option (Int ⊕ Unit)) (x22 : Bool) : Option (Int ⊕ Unit) :=
  bif x22 then
    some (Sum.inl 9)
  else
    bif decide (x18 > 0) then
      bif inb (w64 (x18 - 1)) a1.Lengths.length then
        product_checkNumbers_k5 x18 rec_product_checkNumbers_L3 (decide ((a1.Lengths.getD x18.toNat default) ≤ (a1.Lengths.getD (w64 (x18 - 1)).toNat default)))
      else none
    else
      product_checkNumbers_k5 x18 rec_product_checkNumbers_L3 false

def product_checkNumbers_L3 (a1 : Product) : Nat → Int → Option (Int ⊕ Unit)
  | 0, _ => none
  | n + 1, x18 =>
    bif decide (x18 < ((a1.Lengths.length : Nat) : Int)) then
      bif inb x18 a1.Lengths.length then
        bif decide ((a1.Lengths.getD x18.toNat default) < 100) then
          product_checkNumbers_k4 a1 x18 (product_checkNumbers_L3 a1 n) true
        else
          product_checkNumbers_k4 a1 x18 (product_checkNumbers_L3 a1 n) (decide ((a1.Lengths.getD x18.toNat default) > 20000))
      else none
    else
      some (Sum.inr ())

def product_checkNumbers_k7 (x32 : Int) (rec_product_checkNumbers_L6 : Int → Option (Int ⊕ Unit)) (x36 : Bool) : Option (Int ⊕ Unit) :=
  bif x36 then
    some (Sum.inl 9)
  else
    rec_product_checkNumbers_L6 (w64 (x32 + 1))

def product_checkNumbers_L6 (a1 : Product) : Nat → Int → Option (Int ⊕ Unit)
  | 0, _ => none
  | n + 1, x32 =>
    bif decide (x32 < ((a1.Prices.length : Nat) : Int)) then
      bif inb x32 a1.Prices.length then
        bif decide ((a1.Prices.getD x32.toNat default) < 0) then
          product_checkNumbers_k7 x32 (product_checkNumbers_L6 a1 n) true
        else
          product_checkNumbers_k7 x32 (product_checkNumbers_L6 a1 n) (decide ((a1.Prices.getD x32.toNat default) > 1000000))
      else none
    else
      some (Sum.inr ())

def product_checkNumbers_k2 (a1 : Product) (x10 : Bool) : Option Int :=
  bif x10 then
    some 9
  else
    (product_Green a1).bind fun v12 =>
    bif decide (v12.2 > 600) then
      some 9
    else
      bif ((a1.Lengths.length : Nat) : Int) == 0 then
        some 3
      else
        bif decide (((a1.Lengths.length : Nat) : Int) > 8) then
          some 4
        else
          bif ((a1.Prices.length : Nat) : Int) != ((a1.Lengths.length : Nat) : Int) then
            some 19
          else
            (product_checkNumbers_L3 a1 FUEL 0).bind fun u30 => Sum.elim (fun v31 => some v31) (fun o28 =>
            (product_checkNumbers_L6 a1 FUEL 0).bind fun u40 => Sum.elim (fun v41 => some v41) (fun o38 =>
            some 0) u40) u30

def product_checkNumbers_k1 (a1 : Product) (x5 : Bool) : Option Int :=
  bif x5 then
    some 9
  else
    bif decide (a1.Allow < 0) then
      product_checkNumbers_k2 a1 true
    else
      bif decide (a1.Allow > 200) then
        product_checkNumbers_k2 a1 true
      else
        bif decide (a1.Wane < 0) then
          product_checkNumbers_k2 a1 true
        else
          product_checkNumbers_k2 a1 (decide (a1.Wane > 1000))

def product_checkNumbers (a1 : Product) : Option Int :=
  bif decide (a1.Thick < 5) then
    product_checkNumbers_k1 a1 true
  else
    bif decide (a1.Thick > 300) then
      product_checkNumbers_k1 a1 true
    else
      bif decide (a1.Width < a1.Thick) then
        product_checkNumbers_k1 a1 true
      else
        product_checkNumbers_k1 a1 (decide (a1.Width > 600))

/- sawmill/product.Check -/

def product_Check_L1 (a1 : List Product) : Nat → Int → Option (Int ⊕ Unit)
  | 0, _ => none
  | n + 1, x3 =>
    bif decide (x3 < ((a1.length : Nat) : Int)) then
      bif inb x3 a1.length then
        (ident_IsName ((a1.getD x3.toNat default).Name)).bind fun v6 =>
        bif !v6 then
          some (Sum.inl 6)
        else
          bif slOk 0 x3 a1.length then
            (product_Find (a1.take x3.toNat) ((a1.getD x3.toNat default).Name)).bind fun v10 =>
            bif v10.2 then
              some (Sum.inl 7)
            else
              (product_checkNumbers (a1.getD x3.toNat default)).bind fun v13 =>
              bif v13 != 0 then
                some (Sum.inl v13)
              else
                (product_Check_L1 a1 n) (w64 (x3 + 1))
          else none
      else none
    else
      some (Sum.inr ())

def product_Check (a1 : List Product) : Option Int :=
  bif decide (((a1.length : Nat) : Int) > 16) then
    some 4
  else
    (product_Check_L1 a1 FUEL 0).bind fun u18 => Sum.elim (fun v19 => some v19) (fun o16 =>
    some 0) u18

/- sawmill/worth.isStep -/

def worth_isStep_k1 (x3 : Bool) : Option Bool :=
  some x3

def worth_isStep (a1 : Int) : Option Bool :=
  bif decide (a1 ≥ 1) then
    worth_isStep_k1 (decide (a1 ≤ 20000))
  else
    worth_isStep_k1 false

/- sawmill/worth.isFine -/

def worth_isFine_k1 (x3 : Bool) : Option Bool :=
  some x3

def worth_isFine (a1 : Int) : Option Bool :=
  bif decide (a1 ≥ 0) then
    worth_isFine_k1 (decide (a1 ≤ 1000000))
  else
    worth_isFine_k1 false

/- sawmill/worth.Check -/

def worth_Check_k3 (x20 : Bool) : Option Int :=
  bif x20 then
    some 9
  else
    some 0

def worth_Check_k2 (a2 : Rates) (x12 : Bool) : Option Int :=
  bif x12 then
    some 9
  else
    bif decide (a2.Chip < 0) then
      worth_Check_k3 true
    else
      bif decide (a2.Chip > 1000) then
        worth_Check_k3 true
      else
        bif decide (a2.Dust < 0) then
          worth_Check_k3 true
        else
          bif decide (a2.Dust > 1000) then
            worth_Check_k3 true
          else
            (worth_isFine a2.Fine).bind fun v18 =>
            worth_Check_k3 (!v18)

def worth_Check_k1 (a1 : Saw) (a2 : Rates) (x6 : Bool) : Option Int :=
  bif x6 then
    some 9
  else
    bif decide (a1.Pitch < 1) then
      worth_Check_k2 a2 true
    else
      bif decide (a1.Pitch > 2000) then
        worth_Check_k2 a2 true
      else
        (worth_isStep a1.Step).bind fun v10 =>
        worth_Check_k2 a2 (!v10)

def worth_Check (a1 : Saw) (a2 : Rates) : Option Int :=
  bif decide (a1.Kerf < 0) then
    worth_Check_k1 a1 a2 true
  else
    bif decide (a1.Kerf > 20) then
      worth_Check_k1 a1 a2 true
    else
      bif decide (a1.Trim < 0) then
        worth_Check_k1 a1 a2 true
      else
        worth_Check_k1 a1 a2 (decide (a1.Trim > 20))

/- sawmill/edge.check -/

def edge_check_k3 (x22 : Int) (rec_edge_check_L2 : Int → Option (Int ⊕ Unit)) (x26 : Bool) : Option (Int ⊕ Unit) :=
  bif x26 then
    some (Sum.inl 9)
  else
    rec_edge_check_L2 (w64 (x22 + 1))

def edge_check_L2 (a4 : Rect) : Nat → Int → Option (Int ⊕ Unit)
  | 0, _ => none
  | n + 1, x22 =>
    bif decide (x22 < 4) then
      bif inb x22 4 then
        bif decide ((([a4.X.A, a4.X.B, a4.Y.A, a4.Y.B] : List Int).getD x22.toNat 0) < (-600)) then
          edge_check_k3 x22 (edge_check_L2 a4 n) true
        else
          edge_check_k3 x22 (edge_check_L2 a4 n) (decide ((([a4.X.A, a4.X.B, a4.Y.A, a4.Y.B] : List Int).getD x22.toNat 0) > 600))
      else none
    else
      some (Sum.inr ())

def edge_check_k1 (a4 : Rect) (x20 : Bool) : Option Int :=
  bif x20 then
    some 19
  else
    (edge_check_L2 a4 FUEL 0).bind fun u30 => Sum.elim (fun v31 => some v31) (fun o28 =>
    some 0) u30

def edge_check (a1 : List Slice) (a2 : List Defect) (a3 : List Product) (a4 : Rect) (a5 : Saw) (a6 : Rates) : Option Int :=
  (solid_Check a1).bind fun v7 =>
  bif v7 != 0 then
    some v7
  else
    (defect_Check a2).bind fun v10 =>
    bif v10 != 0 then
      some v10
    else
      (product_Check a3).bind fun v13 =>
      bif v13 != 0 then
        some v13
      else
        (worth_Check a5 a6).bind fun v16 =>
        bif v16 != 0 then
          some v16
        else
          bif decide (a4.X.A ≥ a4.X.B) then
            edge_check_k1 a4 true
          else
            edge_check_k1 a4 (decide (a4.Y.A ≥ a4.Y.B))

/- sawmill/edge.Sizes -/

def edge_Sizes_k3 (x8 : Int) (rec_edge_Sizes_L1 : (List Int) → (List Int) → Int → Option ((List Int) × (List Int))) (l19 : List Int) (l20 : List Int) : Option ((List Int) × (List Int)) :=
  rec_edge_Sizes_L1 l19 l20 (w64 (x8 + 1))

def edge_Sizes_k2 (l7 : List Int) (x8 : Int) (rec_edge_Sizes_L1 : (List Int) → (List Int) → Int → Option ((List Int) × (List Int))) (l17 : List Int) : Option ((List Int) × (List Int)) :=
  bif room (l7.length + 1) 8 then
    edge_Sizes_k3 x8 rec_edge_Sizes_L1 l17 (l7 ++ ([x8] : List Int))
  else none

def edge_Sizes_L1 (a1 : List Product) (a2 : Int) : Nat → (List Int) → (List Int) → Int → Option ((List Int) × (List Int))
  | 0, _, _, _ => none
  | n + 1, l6, l7, x8 =>
    bif decide (x8 < ((a1.length : Nat) : Int)) then
      bif inb x8 a1.length then
        (product_Green (a1.getD x8.toNat default)).bind fun v11 =>
        bif a2 == v11.1 then
          bif room (l6.length + 1) 8 then
            edge_Sizes_k2 l7 x8 (edge_Sizes_L1 a1 a2 n) (l6 ++ ([v11.2] : List Int))
          else none
        else
          bif a2 == v11.2 then
            bif room (l6.length + 1) 8 then
              edge_Sizes_k2 l7 x8 (edge_Sizes_L1 a1 a2 n) (l6 ++ ([v11.1] : List Int))
            else none
          else
            edge_Sizes_k3 x8 (edge_Sizes_L1 a1 a2 n) l6 l7
      else none
    else
      some (l6, l7)

def edge_Sizes (a1 : List Product) (a2 : Int) : Option ((List Int) × (List Int)) :=
  (product_Check a1).bind fun v3 =>
  bif v3 != 0 then
    some (([] : List Int), ([] : List Int))
  else
    (edge_Sizes_L1 a1 a2 FUEL ([] : List Int) ([] : List Int) 0).bind fun o23 =>
    some (o23.1, o23.2)

/- sawmill/edge.part -/

def edge_part (a1 : Rect) (a2 : Int) (a3 : Int) : Option Rect :=
  some (Rect.mk (Span.mk (w64 (a1.X.A + a2)) (w64 (a1.X.A + a3))) a1.Y)

/- sawmill/worth.isRect -/

def worth_isRect_k2 (x2 : Int) (rec_worth_isRect_L1 : Int → Option (Bool ⊕ Unit)) (x7 : Bool) : Option (Bool ⊕ Unit) :=
  bif x7 then
    some (Sum.inl false)
  else
    rec_worth_isRect_L1 (w64 (x2 + 1))

def worth_isRect_L1 (a1 : Rect) : Nat → Int → Option (Bool ⊕ Unit)
  | 0, _ => none
  | n + 1, x2 =>
    bif decide (x2 < 2) then
      bif inb x2 2 then
        bif decide ((([a1.X.A, a1.X.B, a1.Y.A, a1.Y.B] : List Int).getD (x2.toNat * 2 + 0) 0) < (-600)) then
          worth_isRect_k2 x2 (worth_isRect_L1 a1 n) true
        else
          bif decide ((([a1.X.A, a1.X.B, a1.Y.A, a1.Y.B] : List Int).getD (x2.toNat * 2 + 1) 0) > 600) then
            worth_isRect_k2 x2 (worth_isRect_L1 a1 n) true
          else
            worth_isRect_k2 x2 (worth_isRect_L1 a1 n) (decide ((([a1.X.A, a1.X.B, a1.Y.A, a1.Y.B] : List Int).getD (x2.toNat * 2 + 0) 0) ≥ (([a1.X.A, a1.X.B, a1.Y.A, a1.Y.B] : List Int).getD (x2.toNat * 2 + 1) 0)))
      else none
    else
      some (Sum.inr ())

def worth_isRect (a1 : Rect) : Option Bool :=
  (worth_isRect_L1 a1 FUEL 0).bind fun u11 => Sum.elim (fun v12 => some v12) (fun o9 =>
  some true) u11

/- sawmill/solid.valid -/

def solid_valid (a1 : List Slice) : Option (List Slice) :=
  (solid_Check a1).bind fun v2 =>
  bif v2 != 0 then
    some ([] : List Slice)
  else
    some a1

/- sawmill/solid.Length -/

def solid_Length_L1 (v2 : (List Slice)) : Nat → Int → Int → Option Int
  | 0, _, _ => none
  | n + 1, x4, x5 =>
    bif decide (x5 < ((v2.length : Nat) : Int)) then
      bif inb x5 v2.length then
        (solid_Length_L1 v2 n) (w64 (x4 + ((v2.getD x5.toNat default).Len))) (w64 (x5 + 1))
      else none
    else
      some x4

def solid_Length (a1 : List Slice) : Option Int :=
  (solid_valid a1).bind fun v2 =>
  (solid_Length_L1 v2 FUEL 0 0).bind fun o9 =>
  some o9

/- sawmill/section.valid -/

def section_valid (a1 : Section) : Option Section :=
  (section_Check a1).bind fun v2 =>
  bif v2 != 0 then
    some (Section.mk 0 ([] : List Span))
  else
    some a1

/- sawmill/section.heights -/

def section_heights (a1 : Int) (a2 : Int) : Option Span :=
  some (Span.mk (w64 (10 * a1)) (w64 (10 * a2)))

/- sawmill/span.Meet -/

def span_Meet (a1 : Span) (a2 : Span) : Option Span :=
  bif decide ((imax a1.A a2.A) ≥ (imin a1.B a2.B)) then
    some (Span.mk 0 0)
  else
    some (Span.mk (imax a1.A a2.A) (imin a1.B a2.B))

/- sawmill/span.size -/

def span_size (a1 : Span) : Option Int :=
  bif decide (a1.A ≥ a1.B) then
    some 0
  else
    some (IntKind.u64.wrap ((IntKind.u64.wrap (a1.B)) - (IntKind.u64.wrap (a1.A))))

/- sawmill/span.limited -/

def span_limited (a1 : Int) : Option Int :=
  some (w64 (imin a1 9223372036854775807))

/- sawmill/span.Len -/

def span_Len (a1 : Span) : Option Int :=
  (span_size a1).bind fun v2 =>
  (span_limited v2).bind fun v4 =>
  some v4

/- sawmill/section.Within -/

def section_Within_L1 (a2 : Rect) (v3 : Section) : Nat → Int → Int → Option Int
  | 0, _, _ => none
  | n + 1, x5, x6 =>
    bif decide (x6 < ((v3.Rows.length : Nat) : Int)) then
      bif inb x6 v3.Rows.length then
        (section_heights (w64 (v3.Low + x6)) (w64 ((w64 (v3.Low + x6)) + 1))).bind fun v9 =>
        (span_Meet (v3.Rows.getD x6.toNat default) a2.X).bind fun v11 =>
        (span_Len v11).bind fun v13 =>
        (span_Meet v9 a2.Y).bind fun v15 =>
        (span_Len v15).bind fun v17 =>
        (section_Within_L1 a2 v3 n) (w64 (x5 + (w64 (v13 * v17)))) (w64 (x6 + 1))
      else none
    else
      some x5

def section_Within (a1 : Section) (a2 : Rect) : Option Int :=
  (section_valid a1).bind fun v3 =>
  (section_Within_L1 a2 v3 FUEL 0 0).bind fun o20 =>
  some o20

/- sawmill/worth.lacks -/

def worth_lacks_L1 (a1 : List Slice) (a2 : Rect) : Nat → (List Worth_zone) → Int → Int → Option (List Worth_zone)
  | 0, _, _, _ => none
  | n + 1, l3, x4, x5 =>
    bif decide (x5 < ((a1.length : Nat) : Int)) then
      bif inb x5 a1.length then
        (section_Within ((a1.getD x5.toNat default).Sec) a2).bind fun v8 =>
        bif nz (w64 ((w64 (a2.X.B - a2.X.A)) * (w64 (a2.Y.B - a2.Y.A)))) then
          bif room (l3.length + 1) 24 then
            (worth_lacks_L1 a1 a2 n) (l3 ++ ([(Worth_zone.mk (Span.mk x4 (w64 (x4 + ((a1.getD x5.toNat default).Len)))) (w64 (Int.tdiv (w64 ((w64 ((w64 (1000 * (w64 ((w64 ((w64 (a2.X.B - a2.X.A)) * (w64 (a2.Y.B - a2.Y.A)))) - v8)))) + (w64 ((w64 (a2.X.B - a2.X.A)) * (w64 (a2.Y.B - a2.Y.A)))))) - 1)) (w64 ((w64 (a2.X.B - a2.X.A)) * (w64 (a2.Y.B - a2.Y.A)))))))] : List Worth_zone)) (w64 (x4 + ((a1.getD x5.toNat default).Len))) (w64 (x5 + 1))
          else none
        else none
      else none
    else
      some l3

def worth_lacks (a1 : List Slice) (a2 : Rect) : Option (List Worth_zone) :=
  (worth_lacks_L1 a1 a2 FUEL ([] : List Worth_zone) 0 0).bind fun o13 =>
  some o13

/- (sawmill/worth.view).box -/

def worth_view_box (a1 : Worth_view) (a2 : Span) : Option Box :=
  some (Box.mk a1.rect.X a1.rect.Y a2)

/- sawmill/defect.meet -/

def defect_meet_k1 (v3 : Span) (v5 : Span) (v7 : Span) (x17 : Bool) : Option (Box × Bool) :=
  bif x17 then
    some ((Box.mk (Span.mk 0 0) (Span.mk 0 0) (Span.mk 0 0)), false)
  else
    some ((Box.mk v3 v5 v7), true)

def defect_meet (a1 : Box) (a2 : Box) : Option (Box × Bool) :=
  (span_Meet a1.X a2.X).bind fun v3 =>
  (span_Meet a1.Y a2.Y).bind fun v5 =>
  (span_Meet a1.Z a2.Z).bind fun v7 =>
  (defect_isEmpty v3).bind fun v9 =>
  bif v9 then
    defect_meet_k1 v3 v5 v7 true
  else
    (defect_isEmpty v5).bind fun v12 =>
    bif v12 then
      defect_meet_k1 v3 v5 v7 true
    else
      (defect_isEmpty v7).bind fun v15 =>
      defect_meet_k1 v3 v5 v7 v15

/- sawmill/defect.Touches -/

def defect_Touches (a1 : Defect) (a2 : Box) : Option Bool :=
  (defect_meet a1.Box a2).bind fun v3 =>
  some v3.2

/- sawmill/worth.look -/

def worth_look_k4 (x29 : Int) (rec_worth_look_L3 : Int → (List Defect) → Option (List Defect)) (l37 : List Defect) : Option (List Defect) :=
  rec_worth_look_L3 (w64 (x29 + 1)) l37

def worth_look_L3 (a2 : List Defect) (v27 : Box) : Nat → Int → (List Defect) → Option (List Defect)
  | 0, _, _ => none
  | n + 1, x29, l30 =>
    bif decide (x29 < ((a2.length : Nat) : Int)) then
      bif inb x29 a2.length then
        (defect_Touches (a2.getD x29.toNat default) v27).bind fun v33 =>
        bif v33 then
          bif room (l30.length + 1) 56 then
            worth_look_k4 x29 (worth_look_L3 a2 v27 n) (l30 ++ ([(a2.getD x29.toNat default)] : List Defect))
          else none
        else
          worth_look_k4 x29 (worth_look_L3 a2 v27 n) l30
      else none
    else
      some l30

def worth_look_k2 (a1 : List Slice) (a2 : List Defect) (a3 : Product) (a4 : Rect) (x21 : Bool) : Option (Worth_view × Bool) :=
  bif x21 then
    some ((Worth_view.mk (Product.mk (ByteArray.mk #[]) 0 0 0 0 ([] : List Int) ([] : List Int)) (Rect.mk (Span.mk 0 0) (Span.mk 0 0)) 0 ([] : List Worth_zone) ([] : List Defect)), false)
  else
    (solid_Length a1).bind fun v23 =>
    (worth_lacks a1 a4).bind fun v25 =>
    (worth_view_box (Worth_view.mk a3 a4 v23 v25 ([] : List Defect)) (Span.mk 0 v23)).bind fun v27 =>
    (worth_look_L3 a2 v27 FUEL 0 ([] : List Defect)).bind fun o39 =>
    some ((Worth_view.mk a3 a4 v23 v25 o39), true)

def worth_look_k1 (a1 : List Slice) (a2 : List Defect) (a3 : Product) (a4 : Rect) (x16 : Bool) : Option (Worth_view × Bool) :=
  bif x16 then
    some ((Worth_view.mk (Product.mk (ByteArray.mk #[]) 0 0 0 0 ([] : List Int) ([] : List Int)) (Rect.mk (Span.mk 0 0) (Span.mk 0 0)) 0 ([] : List Worth_zone) ([] : List Defect)), false)
  else
    (product_Green a3).bind fun v18 =>
    bif !(((w64 (a4.X.B - a4.X.A)) == v18.1) && (((w64 (a4.Y.B - a4.Y.A)) == v18.2) && true)) then
      worth_look_k2 a1 a2 a3 a4 (!(((w64 (a4.X.B - a4.X.A)) == v18.2) && (((w64 (a4.Y.B - a4.Y.A)) == v18.1) && true)))
    else
      worth_look_k2 a1 a2 a3 a4 false

def worth_look (a1 : List Slice) (a2 : List Defect) (a3 : Product) (a4 : Rect) : Option (Worth_view × Bool) :=
  (solid_Check a1).bind fun v5 =>
  bif v5 != 0 then
    worth_look_k1 a1 a2 a3 a4 true
  else
    (defect_Check a2).bind fun v8 =>
    bif v8 != 0 then
      worth_look_k1 a1 a2 a3 a4 true
    else
      (product_Check ([a3] : List Product)).bind fun v11 =>
      bif v11 != 0 then
        worth_look_k1 a1 a2 a3 a4 true
      else
        (worth_isRect a4).bind fun v14 =>
        worth_look_k1 a1 a2 a3 a4 (!v14)

/- sawmill/worth.isWithin -/

def worth_isWithin_k1 (x5 : Bool) : Option Bool :=
  some x5

def worth_isWithin (a1 : Span) (a2 : Int) : Option Bool :=
  bif decide (a1.A ≥ 0) then
    bif decide (a1.A < a1.B) then
      worth_isWithin_k1 (decide (a1.B ≤ a2))
    else
      worth_isWithin_k1 false
  else
    worth_isWithin_k1 false

/- sawmill/product.Price -/

def product_Price_L1 (a1 : Product) (a2 : Int) : Nat → Int → Option ((Int × Bool) ⊕ Unit)
  | 0, _ => none
  | n + 1, x3 =>
    bif decide (x3 < ((a1.Lengths.length : Nat) : Int)) then
      bif inb x3 a1.Lengths.length then
        bif (a1.Lengths.getD x3.toNat default) != a2 then
          (product_Price_L1 a1 a2 n) (w64 (x3 + 1))
        else
          bif decide (x3 ≥ ((a1.Prices.length : Nat) : Int)) then
            some (Sum.inl (0, false))
          else
            bif inb x3 a1.Prices.length then
              some (Sum.inl ((a1.Prices.getD x3.toNat default), true))
            else none
      else none
    else
      some (Sum.inr ())

def product_Price (a1 : Product) (a2 : Int) : Option (Int × Bool) :=
  (product_Price_L1 a1 a2 FUEL 0).bind fun u11 => Sum.elim (fun v12 => some v12) (fun o9 =>
  some (0, false)) u11

/- sawmill/worth.worst -/

def worth_worst_k3 (x4 : Int) (rec_worth_worst_L1 : Int → Int → Option Int) (x10 : Int) : Option Int :=
  rec_worth_worst_L1 x10 (w64 (x4 + 1))

def worth_worst_k2 (a1 : List Worth_zone) (x3 : Int) (x4 : Int) (rec_worth_worst_L1 : Int → Int → Option Int) (x8 : Bool) : Option Int :=
  bif x8 then
    worth_worst_k3 x4 rec_worth_worst_L1 (imax x3 ((a1.getD x4.toNat default).lack))
  else
    worth_worst_k3 x4 rec_worth_worst_L1 x3

def worth_worst_L1 (a1 : List Worth_zone) (a2 : Span) : Nat → Int → Int → Option Int
  | 0, _, _ => none
  | n + 1, x3, x4 =>
    bif decide (x4 < ((a1.length : Nat) : Int)) then
      bif inb x4 a1.length then
        bif decide ((((a1.getD x4.toNat default).z).A) < a2.B) then
          worth_worst_k2 a1 x3 x4 (worth_worst_L1 a1 a2 n) (decide (a2.A < (((a1.getD x4.toNat default).z).B)))
        else
          worth_worst_k2 a1 x3 x4 (worth_worst_L1 a1 a2 n) false
      else none
    else
      some x3

def worth_worst (a1 : List Worth_zone) (a2 : Span) : Option Int :=
  (worth_worst_L1 a1 a2 FUEL 0 0).bind fun o12 =>
  some o12

/- (sawmill/worth.view).worth -/

def worth_view_worth_k3 (x17 : Int) (rec_worth_view_worth_L2 : Int → Int → Option ((Int × Bool) ⊕ Int)) (x24 : Int) : Option ((Int × Bool) ⊕ Int) :=
  rec_worth_view_worth_L2 x24 (w64 (x17 + 1))

def worth_view_worth_L2 (a1 : Worth_view) (a3 : Int) (v14 : Box) : Nat → Int → Int → Option ((Int × Bool) ⊕ Int)
  | 0, _, _ => none
  | n + 1, x16, x17 =>
    bif decide (x17 < ((a1.defects.length : Nat) : Int)) then
      bif inb x17 a1.defects.length then
        (defect_Touches (a1.defects.getD x17.toNat default) v14).bind fun v20 =>
        bif !v20 then
          worth_view_worth_k3 x17 (worth_view_worth_L2 a1 a3 v14 n) x16
        else
          bif ((a1.defects.getD x17.toNat default).Kind) == 3 then
            some (Sum.inl (0, false))
          else
            worth_view_worth_k3 x17 (worth_view_worth_L2 a1 a3 v14 n) (w64 (x16 - a3))
      else none
    else
      some (Sum.inr x16)

def worth_view_worth_k1 (a1 : Worth_view) (a2 : Span) (a3 : Int) (v7 : Int × Bool) (x12 : Bool) : Option (Int × Bool) :=
  bif x12 then
    some (0, false)
  else
    (worth_view_box a1 a2).bind fun v14 =>
    (worth_view_worth_L2 a1 a3 v14 FUEL v7.1 0).bind fun u28 => Sum.elim (fun v29 => some v29) (fun o26 =>
    some (imax o26 0, true)) u28

def worth_view_worth (a1 : Worth_view) (a2 : Span) (a3 : Int) : Option (Int × Bool) :=
  (worth_isWithin a2 a1.length).bind fun v4 =>
  bif !v4 then
    some (0, false)
  else
    (product_Price a1.product (w64 (a2.B - a2.A))).bind fun v7 =>
    bif !v7.2 then
      worth_view_worth_k1 a1 a2 a3 v7 true
    else
      (worth_worst a1.zones a2).bind fun v10 =>
      worth_view_worth_k1 a1 a2 a3 v7 (decide (v10 > a1.product.Wane))

/- sawmill/worth.Best -/

def worth_Best_k5 (x24 : Int) (rec_worth_Best_L3 : Int → Bool → Int → Span → Option (Int × Bool × Span)) (x34 : Int) (x35 : Bool) (x36 : Span) : Option (Int × Bool × Span) :=
  rec_worth_Best_L3 x34 x35 (w64 (x24 + 1)) x36

def worth_Best_k4 (a3 : Product) (x19 : Int) (x22 : Int) (x23 : Bool) (x24 : Int) (x25 : Span) (rec_worth_Best_L3 : Int → Bool → Int → Span → Option (Int × Bool × Span)) (v28 : Int × Bool) (x32 : Bool) : Option (Int × Bool × Span) :=
  bif x32 then
    worth_Best_k5 x24 rec_worth_Best_L3 v28.1 true (Span.mk x19 (w64 (x19 + (a3.Lengths.getD x24.toNat default))))
  else
    worth_Best_k5 x24 rec_worth_Best_L3 x22 x23 x25

def worth_Best_L3 (a3 : Product) (a6 : Int) (v14 : Worth_view × Bool) (x19 : Int) : Nat → Int → Bool → Int → Span → Option (Int × Bool × Span)
  | 0, _, _, _, _ => none
  | n + 1, x22, x23, x24, x25 =>
    bif decide (x24 < ((a3.Lengths.length : Nat) : Int)) then
      bif inb x24 a3.Lengths.length then
        (worth_view_worth (Worth_view.mk v14.1.product v14.1.rect v14.1.length v14.1.zones v14.1.defects) (Span.mk x19 (w64 (x19 + (a3.Lengths.getD x24.toNat default)))) a6).bind fun v28 =>
        bif v28.2 then
          bif !x23 then
            worth_Best_k4 a3 x19 x22 x23 x24 x25 (worth_Best_L3 a3 a6 v14 x19 n) v28 true
          else
            worth_Best_k4 a3 x19 x22 x23 x24 x25 (worth_Best_L3 a3 a6 v14 x19 n) v28 (decide (v28.1 > x22))
        else
          worth_Best_k4 a3 x19 x22 x23 x24 x25 (worth_Best_L3 a3 a6 v14 x19 n) v28 false
      else none
    else
      some (x22, x23, x25)

def worth_Best_L2 (a3 : Product) (a5 : Int) (a6 : Int) (v14 : Worth_view × Bool) : Nat → Int → Bool → Int → Span → Option (Int × Bool × Span)
  | 0, _, _, _, _ => none
  | n + 1, x17, x18, x19, x20 =>
    bif decide (x19 < v14.1.length) then
      (worth_Best_L3 a3 a6 v14 x19 FUEL x17 x18 0 x20).bind fun o40 =>
      (worth_Best_L2 a3 a5 a6 v14 n) o40.1 o40.2.1 (w64 (x19 + a5)) o40.2.2
    else
      some (x17, x18, x20)

def worth_Best_k1 (a1 : List Slice) (a2 : List Defect) (a3 : Product) (a4 : Rect) (a5 : Int) (a6 : Int) (x12 : Bool) : Option (Span × Int × Bool) :=
  bif x12 then
    some ((Span.mk 0 0), 0, false)
  else
    (worth_look a1 a2 a3 a4).bind fun v14 =>
    bif !v14.2 then
      some ((Span.mk 0 0), 0, false)
    else
      (worth_Best_L2 a3 a5 a6 v14 FUEL 0 false 0 (Span.mk 0 0)).bind fun o45 =>
      some (o45.2.2, o45.1, o45.2.1)

def worth_Best (a1 : List Slice) (a2 : List Defect) (a3 : Product) (a4 : Rect) (a5 : Int) (a6 : Int) : Option (Span × Int × Bool) :=
  (worth_isStep a5).bind fun v7 =>
  bif !v7 then
    worth_Best_k1 a1 a2 a3 a4 a5 a6 true
  else
    (worth_isFine a6).bind fun v10 =>
    worth_Best_k1 a1 a2 a3 a4 a5 a6 (!v10)

/- sawmill/solid.extents -/

def solid_extents_L1 (a1 : List Slice) : Nat → (List Span) → Int → Int → Option (List Span)
  | 0, _, _, _ => none
  | n + 1, l3, x4, x5 =>
    bif decide (x5 < ((a1.length : Nat) : Int)) then
      bif inb x5 a1.length then
        bif inb x5 l3.length then
          (solid_extents_L1 a1 n) (l3.set x5.toNat (Span.mk x4 (w64 (x4 + ((a1.getD x5.toNat default).Len))))) (w64 (x4 + ((a1.getD x5.toNat default).Len))) (w64 (x5 + 1))
        else none
      else none
    else
      some l3

def solid_extents (a1 : List Slice) : Option (List Span) :=
  bif mkOk ((a1.length : Nat) : Int) 16 then
    (solid_extents_L1 a1 FUEL (List.replicate (((a1.length : Nat) : Int).toNat) (Span.mk 0 0)) 0 0).bind fun o10 =>
    some o10
  else none

/- sawmill/solid.Within -/

def solid_Within_k2 (x8 : Int) (rec_solid_Within_L1 : Int → Int → Option Int) (x19 : Int) : Option Int :=
  rec_solid_Within_L1 x19 (w64 (x8 + 1))

def solid_Within_L1 (a2 : Box) (v3 : (List Slice)) (v5 : (List Span)) : Nat → Int → Int → Option Int
  | 0, _, _ => none
  | n + 1, x7, x8 =>
    bif decide (x8 < ((v5.length : Nat) : Int)) then
      bif inb x8 v5.length then
        (span_Meet (v5.getD x8.toNat default) a2.Z).bind fun v11 =>
        (span_Len v11).bind fun v13 =>
        bif decide (v13 > 0) then
          bif inb x8 v3.length then
            (section_Within ((v3.getD x8.toNat default).Sec) (Rect.mk a2.X a2.Y)).bind fun v17 =>
            solid_Within_k2 x8 (solid_Within_L1 a2 v3 v5 n) (w64 (x7 + (w64 (v13 * v17))))
          else none
        else
          solid_Within_k2 x8 (solid_Within_L1 a2 v3 v5 n) x7
      else none
    else
      some x7

def solid_Within (a1 : List Slice) (a2 : Box) : Option Int :=
  (solid_valid a1).bind fun v3 =>
  (solid_extents v3).bind fun v5 =>
  (solid_Within_L1 a2 v3 v5 FUEL 0 0).bind fun o21 =>
  some o21

/- sawmill/edge.volume -/

def edge_volume (a1 : List Slice) (a2 : Rect) (a3 : Span) : Option Int :=
  (solid_Within a1 (Box.mk a2.X a2.Y a3)).bind fun v4 =>
  some v4

/- sawmill/edge.gain -/

def edge_gain (a1 : List Slice) (a2 : List Defect) (a3 : Product) (a4 : Rect) (a5 : Saw) (a6 : Rates) : Option Int :=
  (worth_Best a1 a2 a3 a4 a5.Step a6.Fine).bind fun v7 =>
  bif !v7.2.2 then
    some (-1)
  else
    (solid_Length a1).bind fun v10 =>
    (edge_volume a1 a4 (Span.mk 0 v10)).bind fun v12 =>
    (edge_volume a1 a4 v7.1).bind fun v14 =>
    (edge_volume a1 a4 (Span.mk (imax 0 (w64 (v7.1.A - a5.Trim))) v7.1.A)).bind fun v16 =>
    (edge_volume a1 a4 (Span.mk v7.1.B (imin (w64 (v7.1.B + a5.Trim)) v10))).bind fun v18 =>
    some (w64 ((w64 ((w64 (1000000 * v7.2.1)) + (w64 (a6.Dust * (w64 (v16 + v18)))))) + (w64 (a6.Chip * (w64 ((w64 (v12 - v14)) - (w64 (v16 + v18))))))))

/- sawmill/edge.Line -/

def edge_Line_k3 (l16 : List Int) (x17 : Int) (rec_edge_Line_L2 : (List Int) → Int → Option (List Int)) (x27 : Int) : Option (List Int) :=
  bif room (l16.length + 1) 8 then
    rec_edge_Line_L2 (l16 ++ ([x27] : List Int)) (w64 (x17 + 1))
  else none

def edge_Line_L2 (a1 : List Slice) (a2 : List Defect) (a3 : List Product) (a4 : Rect) (a5 : Saw) (a6 : Rates) (v10 : (List Int) × (List Int)) (x12 : Int) : Nat → (List Int) → Int → Option (List Int)
  | 0, _, _ => none
  | n + 1, l16, x17 =>
    bif decide ((w64 (x17 + (v10.1.getD x12.toNat default))) ≤ (w64 (a4.X.B - a4.X.A))) then
      bif nz a5.Pitch then
        bif (Int.tmod x17 a5.Pitch) == 0 then
          bif inb x12 v10.2.length then
            bif inb (v10.2.getD x12.toNat default) a3.length then
              (edge_part a4 x17 (w64 (x17 + (v10.1.getD x12.toNat default)))).bind fun v23 =>
              (edge_gain a1 a2 (a3.getD (v10.2.getD x12.toNat default).toNat default) v23 a5 a6).bind fun v25 =>
              edge_Line_k3 l16 x17 (edge_Line_L2 a1 a2 a3 a4 a5 a6 v10 x12 n) v25
            else none
          else none
        else
          edge_Line_k3 l16 x17 (edge_Line_L2 a1 a2 a3 a4 a5 a6 v10 x12 n) (-1)
      else none
    else
      some l16

def edge_Line_L1 (a1 : List Slice) (a2 : List Defect) (a3 : List Product) (a4 : Rect) (a5 : Saw) (a6 : Rates) (v10 : (List Int) × (List Int)) : Nat → Int → (List (List Int)) → Option (List (List Int))
  | 0, _, _ => none
  | n + 1, x12, l13 =>
    bif decide (x12 < ((v10.1.length : Nat) : Int)) then
      bif inb x12 v10.1.length then
        (edge_Line_L2 a1 a2 a3 a4 a5 a6 v10 x12 FUEL ([] : List Int) 0).bind fun o30 =>
        bif room (l13.length + 1) 24 then
          (edge_Line_L1 a1 a2 a3 a4 a5 a6 v10 n) (w64 (x12 + 1)) (l13 ++ ([o30] : List (List Int)))
        else none
      else none
    else
      some l13

def edge_Line_L4 (a1 : List Slice) (a4 : Rect) (a6 : Rates) (v36 : Int) : Nat → Int → (List Int) → (List Int) → Option ((List Int) × (List Int))
  | 0, _, _, _ => none
  | n + 1, x38, l39, l40 =>
    bif decide (x38 < (w64 (a4.X.B - a4.X.A))) then
      (edge_part a4 x38 (w64 (x38 + 1))).bind fun v42 =>
      (edge_volume a1 v42 (Span.mk 0 v36)).bind fun v44 =>
      bif room (l39.length + 1) 8 then
        bif room (l40.length + 1) 8 then
          (edge_Line_L4 a1 a4 a6 v36 n) (w64 (x38 + 1)) (l39 ++ ([w64 (a6.Chip * v44)] : List Int)) (l40 ++ ([w64 (a6.Dust * v44)] : List Int))
        else none
      else none
    else
      some (l39, l40)

def edge_Line (a1 : List Slice) (a2 : List Defect) (a3 : List Product) (a4 : Rect) (a5 : Saw) (a6 : Rates) : Option (Line × Int) :=
  (edge_check a1 a2 a3 a4 a5 a6).bind fun v7 =>
  bif v7 != 0 then
    some ((Line.mk 0 0 0 ([] : List Int) ([] : List (List Int)) ([] : List Int) ([] : List Int)), v7)
  else
    (edge_Sizes a3 (w64 (a4.Y.B - a4.Y.A))).bind fun v10 =>
    (edge_Line_L1 a1 a2 a3 a4 a5 a6 v10 FUEL 0 ([] : List (List Int))).bind fun o34 =>
    (solid_Length a1).bind fun v36 =>
    (edge_Line_L4 a1 a4 a6 v36 FUEL 0 ([] : List Int) ([] : List Int)).bind fun o50 =>
    some ((Line.mk (w64 (a4.X.B - a4.X.A)) a5.Kerf 1 v10.1 o34 o50.1 o50.2), 0)

/- sawmill/sawmilllaw23.line -/

def law23_line (a1 : Law23_Given) : Option (Line × Int) :=
  (edge_Line a1.Solid a1.Defects a1.Products a1.Strip a1.Saw a1.Rates).bind fun v2 =>
  some ((Line.mk v2.1.Len v2.1.Kerf v2.1.Pitch v2.1.Sizes v2.1.Gain v2.1.Chip v2.1.Dust), v2.2)

/- sawmill/cutting.measures -/

def cutting_measures_k3 (x10 : Int) (rec_cutting_measures_L2 : Int → Option (Int ⊕ Unit)) (x14 : Bool) : Option (Int ⊕ Unit) :=
  bif x14 then
    some (Sum.inl 9)
  else
    rec_cutting_measures_L2 (w64 (x10 + 1))

def cutting_measures_L2 (a1 : Line) : Nat → Int → Option (Int ⊕ Unit)
  | 0, _ => none
  | n + 1, x10 =>
    bif decide (x10 < ((a1.Sizes.length : Nat) : Int)) then
      bif inb x10 a1.Sizes.length then
        bif decide ((a1.Sizes.getD x10.toNat default) < 1) then
          cutting_measures_k3 x10 (cutting_measures_L2 a1 n) true
        else
          cutting_measures_k3 x10 (cutting_measures_L2 a1 n) (decide ((a1.Sizes.getD x10.toNat default) > 2000))
      else none
    else
      some (Sum.inr ())

def cutting_measures_k1 (a1 : Line) (x7 : Bool) : Option Int :=
  bif x7 then
    some 9
  else
    bif decide (((a1.Sizes.length : Nat) : Int) > 32) then
      some 4
    else
      (cutting_measures_L2 a1 FUEL 0).bind fun u18 => Sum.elim (fun v19 => some v19) (fun o16 =>
      some 0) u18

def cutting_measures (a1 : Line) : Option Int :=
  bif decide (a1.Len < 0) then
    cutting_measures_k1 a1 true
  else
    bif decide (a1.Len > 2000) then
      cutting_measures_k1 a1 true
    else
      bif decide (a1.Kerf < 0) then
        cutting_measures_k1 a1 true
      else
        bif decide (a1.Kerf > 20) then
          cutting_measures_k1 a1 true
        else
          bif decide (a1.Pitch < 1) then
            cutting_measures_k1 a1 true
          else
            cutting_measures_k1 a1 (decide (a1.Pitch > 2000))

/- sawmill/cutting.places -/

def cutting_places (a1 : Line) (a2 : Int) : Option Int :=
  some (imax 0 (w64 ((w64 (a1.Len - a2)) + 1)))

/- sawmill/cutting.small -/

def cutting_small_k3 (x5 : Int) (rec_cutting_small_L2 : Int → Option (Bool ⊕ Unit)) (x9 : Bool) : Option (Bool ⊕ Unit) :=
  bif x9 then
    some (Sum.inl false)
  else
    rec_cutting_small_L2 (w64 (x5 + 1))

def cutting_small_L2 (a1 : List (List Int)) (x2 : Int) : Nat → Int → Option (Bool ⊕ Unit)
  | 0, _ => none
  | n + 1, x5 =>
    bif decide (x5 < (((a1.getD x2.toNat default).length : Nat) : Int)) then
      bif inb x5 ((a1.getD x2.toNat default).length) then
        bif decide (((a1.getD x2.toNat default).getD x5.toNat default) < (-1125899906842624)) then
          cutting_small_k3 x5 (cutting_small_L2 a1 x2 n) true
        else
          cutting_small_k3 x5 (cutting_small_L2 a1 x2 n) (decide (((a1.getD x2.toNat default).getD x5.toNat default) > 1125899906842624))
      else none
    else
      some (Sum.inr ())

def cutting_small_L1 (a1 : List (List Int)) : Nat → Int → Option (Bool ⊕ Unit)
  | 0, _ => none
  | n + 1, x2 =>
    bif decide (x2 < ((a1.length : Nat) : Int)) then
      bif inb x2 a1.length then
        (cutting_small_L2 a1 x2 FUEL 0).bind fun u13 => Sum.elim (fun v14 => some (Sum.inl v14)) (fun o11 =>
        (cutting_small_L1 a1 n) (w64 (x2 + 1))) u13
      else none
    else
      some (Sum.inr ())

def cutting_small (a1 : List (List Int)) : Option Bool :=
  (cutting_small_L1 a1 FUEL 0).bind fun u17 => Sum.elim (fun v18 => some v18) (fun o15 =>
  some true) u17

/- sawmill/cutting.Check -/

def cutting_Check_L2 (a1 : Line) : Nat → Int → Option (Int ⊕ Unit)
  | 0, _ => none
  | n + 1, x9 =>
    bif decide (x9 < ((a1.Gain.length : Nat) : Int)) then
      bif inb x9 a1.Gain.length then
        bif inb x9 a1.Sizes.length then
          (cutting_places a1 (a1.Sizes.getD x9.toNat default)).bind fun v13 =>
          bif (((a1.Gain.getD x9.toNat default).length : Nat) : Int) != v13 then
            some (Sum.inl 19)
          else
            (cutting_Check_L2 a1 n) (w64 (x9 + 1))
        else none
      else none
    else
      some (Sum.inr ())

def cutting_Check_k3 (x25 : Bool) : Option Int :=
  bif x25 then
    some 9
  else
    some 0

def cutting_Check_k1 (a1 : Line) (x7 : Bool) : Option Int :=
  bif x7 then
    some 19
  else
    (cutting_Check_L2 a1 FUEL 0).bind fun u18 => Sum.elim (fun v19 => some v19) (fun o16 =>
    (cutting_small a1.Gain).bind fun v20 =>
    bif !v20 then
      cutting_Check_k3 true
    else
      (cutting_small ([a1.Chip, a1.Dust] : List (List Int))).bind fun v23 =>
      cutting_Check_k3 (!v23)) u18

def cutting_Check (a1 : Line) : Option Int :=
  (cutting_measures a1).bind fun v2 =>
  bif v2 != 0 then
    some v2
  else
    bif ((a1.Gain.length : Nat) : Int) != ((a1.Sizes.length : Nat) : Int) then
      cutting_Check_k1 a1 true
    else
      bif ((a1.Chip.length : Nat) : Int) != a1.Len then
        cutting_Check_k1 a1 true
      else
        cutting_Check_k1 a1 (((a1.Dust.length : Nat) : Int) != a1.Len)

/- sawmill/cutting.sums -/

def cutting_sums_L1 (a1 : List Int) : Nat → (List Int) → Int → Option (List Int)
  | 0, _, _ => none
  | n + 1, l3, x4 =>
    bif decide (x4 < ((a1.length : Nat) : Int)) then
      bif inb x4 a1.length then
        bif inb x4 l3.length then
          bif inb (w64 (x4 + 1)) l3.length then
            (cutting_sums_L1 a1 n) (l3.set ((w64 (x4 + 1)).toNat) (w64 ((l3.getD x4.toNat default) + (a1.getD x4.toNat default)))) (w64 (x4 + 1))
          else none
        else none
      else none
    else
      some l3

def cutting_sums (a1 : List Int) : Option (List Int) :=
  bif mkOk (w64 (((a1.length : Nat) : Int) + 1)) 8 then
    (cutting_sums_L1 a1 FUEL (List.replicate ((w64 (((a1.length : Nat) : Int) + 1)).toNat) 0) 0).bind fun o10 =>
    some o10
  else none

/- sawmill/cutting.behind -/

def cutting_behind (a1 : Line) (a2 : Int) : Option Int :=
  bif a2 == a1.Len then
    some (-1)
  else
    some (imin (w64 (a2 + a1.Kerf)) a1.Len)

/- sawmill/cutting.start -/

def cutting_start_k5 (x5 : Int) (rec_cutting_start_L1 : Int → Cutting_choice → Option Cutting_choice) (x26 : Cutting_choice) : Option Cutting_choice :=
  rec_cutting_start_L1 (w64 (x5 + 1)) x26

def cutting_start_k4 (x5 : Int) (x6 : Cutting_choice) (rec_cutting_start_L1 : Int → Cutting_choice → Option Cutting_choice) (x22 : Cutting_choice) (x24 : Bool) : Option Cutting_choice :=
  bif x24 then
    cutting_start_k5 x5 rec_cutting_start_L1 x22
  else
    cutting_start_k5 x5 rec_cutting_start_L1 x6

def cutting_start_k3 (x5 : Int) (x6 : Cutting_choice) (rec_cutting_start_L1 : Int → Cutting_choice → Option Cutting_choice) (x22 : Cutting_choice) : Option Cutting_choice :=
  bif ((x6.piece.Size == (-1)) && ((x6.piece.At == (-1)) && true)) then
    cutting_start_k4 x5 x6 rec_cutting_start_L1 x22 true
  else
    cutting_start_k4 x5 x6 rec_cutting_start_L1 x22 (decide (x22.value > x6.value))

def cutting_start_k2 (a1 : Line) (a2 : Int) (a3 : List Int) (a4 : List Cutting_choice) (x5 : Int) (x6 : Cutting_choice) (rec_cutting_start_L1 : Int → Cutting_choice → Option Cutting_choice) (x12 : Bool) : Option Cutting_choice :=
  bif x12 then
    cutting_start_k5 x5 rec_cutting_start_L1 x6
  else
    bif inb x5 a1.Gain.length then
      bif inb a2 ((a1.Gain.getD x5.toNat default).length) then
        (cutting_behind a1 (w64 (a2 + (a1.Sizes.getD x5.toNat default)))).bind fun v16 =>
        bif decide (v16 ≥ 0) then
          bif inb v16 a3.length then
            bif inb (w64 (a2 + (a1.Sizes.getD x5.toNat default))) a3.length then
              bif inb v16 a4.length then
                cutting_start_k3 x5 x6 rec_cutting_start_L1 (Cutting_choice.mk (Piece.mk x5 a2) (w64 (((a1.Gain.getD x5.toNat default).getD a2.toNat default) + (w64 ((w64 ((a3.getD v16.toNat default) - (a3.getD (w64 (a2 + (a1.Sizes.getD x5.toNat default))).toNat default))) + ((a4.getD v16.toNat default).value))))))
              else none
            else none
          else none
        else
          cutting_start_k3 x5 x6 rec_cutting_start_L1 (Cutting_choice.mk (Piece.mk x5 a2) ((a1.Gain.getD x5.toNat default).getD a2.toNat default))
      else none
    else none

def cutting_start_L1 (a1 : Line) (a2 : Int) (a3 : List Int) (a4 : List Cutting_choice) : Nat → Int → Cutting_choice → Option Cutting_choice
  | 0, _, _ => none
  | n + 1, x5, x6 =>
    bif decide (x5 < ((a1.Sizes.length : Nat) : Int)) then
      bif inb x5 a1.Sizes.length then
        bif decide ((w64 (a2 + (a1.Sizes.getD x5.toNat default))) > a1.Len) then
          cutting_start_k2 a1 a2 a3 a4 x5 x6 (cutting_start_L1 a1 a2 a3 a4 n) true
        else
          bif inb x5 a1.Gain.length then
            bif inb a2 ((a1.Gain.getD x5.toNat default).length) then
              cutting_start_k2 a1 a2 a3 a4 x5 x6 (cutting_start_L1 a1 a2 a3 a4 n) (decide (((a1.Gain.getD x5.toNat default).getD a2.toNat default) < 0))
            else none
          else none
      else none
    else
      some x6

def cutting_start (a1 : Line) (a2 : Int) (a3 : List Int) (a4 : List Cutting_choice) : Option Cutting_choice :=
  (cutting_start_L1 a1 a2 a3 a4 FUEL 0 (Cutting_choice.mk (Piece.mk (-1) (-1)) 0)).bind fun o28 =>
  some o28

/- sawmill/cutting.choices -/

def cutting_choices_k6 (a1 : Line) (x20 : Int) (rec_cutting_choices_L4 : Int → Cutting_choice → Option Cutting_choice) (x31 : Cutting_choice) : Option Cutting_choice :=
  rec_cutting_choices_L4 (w64 (x20 + a1.Pitch)) x31

def cutting_choices_k5 (a1 : Line) (v2 : (List Int)) (v4 : (List Int)) (l8 : List Cutting_choice) (x9 : Int) (v11 : Cutting_choice) (x20 : Int) (x21 : Cutting_choice) (rec_cutting_choices_L4 : Int → Cutting_choice → Option Cutting_choice) (x29 : Bool) : Option Cutting_choice :=
  bif x29 then
    cutting_choices_k6 a1 x20 rec_cutting_choices_L4 (Cutting_choice.mk (((l8.set x9.toNat v11).getD x20.toNat default).piece) (w64 ((((l8.set x9.toNat v11).getD x20.toNat default).value) + (w64 ((w64 ((w64 ((v2.getD ((w64 (x20 - a1.Kerf)).toNat) default) - (v2.getD x9.toNat default))) + (v4.getD x20.toNat default))) - (v4.getD ((w64 (x20 - a1.Kerf)).toNat) default))))))
  else
    cutting_choices_k6 a1 x20 rec_cutting_choices_L4 x21

def cutting_choices_L4 (a1 : Line) (v2 : (List Int)) (v4 : (List Int)) (l8 : List Cutting_choice) (x9 : Int) (v11 : Cutting_choice) : Nat → Int → Cutting_choice → Option Cutting_choice
  | 0, _, _ => none
  | n + 1, x20, x21 =>
    bif decide (x20 ≤ a1.Len) then
      bif inb x20 l8.length then
        bif inb (w64 (x20 - a1.Kerf)) v2.length then
          bif inb x9 v2.length then
            bif inb x20 v4.length then
              bif inb (w64 (x20 - a1.Kerf)) v4.length then
                bif !((((((l8.set x9.toNat v11).getD x20.toNat default).piece).Size) == (-1)) && ((((((l8.set x9.toNat v11).getD x20.toNat default).piece).At) == (-1)) && true)) then
                  cutting_choices_k5 a1 v2 v4 l8 x9 v11 x20 x21 (cutting_choices_L4 a1 v2 v4 l8 x9 v11 n) (decide ((w64 ((((l8.set x9.toNat v11).getD x20.toNat default).value) + (w64 ((w64 ((w64 ((v2.getD ((w64 (x20 - a1.Kerf)).toNat) default) - (v2.getD x9.toNat default))) + (v4.getD x20.toNat default))) - (v4.getD ((w64 (x20 - a1.Kerf)).toNat) default))))) > x21.value))
                else
                  cutting_choices_k5 a1 v2 v4 l8 x9 v11 x20 x21 (cutting_choices_L4 a1 v2 v4 l8 x9 v11 n) false
              else none
            else none
          else none
        else none
      else none
    else
      some x21

def cutting_choices_k3 (a1 : Line) (v2 : (List Int)) (v4 : (List Int)) (l7 : List Cutting_choice) (l8 : List Cutting_choice) (x9 : Int) (rec_cutting_choices_L1 : (List Cutting_choice) → (List Cutting_choice) → Int → Option (List Cutting_choice)) (v11 : Cutting_choice) (x19 : Cutting_choice) : Option (List Cutting_choice) :=
  (cutting_choices_L4 a1 v2 v4 l8 x9 v11 FUEL (w64 ((w64 (x9 + a1.Pitch)) + a1.Kerf)) x19).bind fun o33 =>
  bif inb x9 l7.length then
    rec_cutting_choices_L1 (l7.set x9.toNat o33) (l8.set x9.toNat v11) (w64 (x9 - 1))
  else none

def cutting_choices_k2 (a1 : Line) (v2 : (List Int)) (v4 : (List Int)) (l7 : List Cutting_choice) (l8 : List Cutting_choice) (x9 : Int) (rec_cutting_choices_L1 : (List Cutting_choice) → (List Cutting_choice) → Int → Option (List Cutting_choice)) (v11 : Cutting_choice) (x17 : Bool) : Option (List Cutting_choice) :=
  bif x17 then
    cutting_choices_k3 a1 v2 v4 l7 l8 x9 rec_cutting_choices_L1 v11 ((l8.set x9.toNat v11).getD x9.toNat default)
  else
    cutting_choices_k3 a1 v2 v4 l7 l8 x9 rec_cutting_choices_L1 v11 (Cutting_choice.mk (Piece.mk (-1) (-1)) (w64 ((v2.getD a1.Len.toNat default) - (v2.getD x9.toNat default))))

def cutting_choices_L1 (a1 : Line) (v2 : (List Int)) (v4 : (List Int)) : Nat → (List Cutting_choice) → (List Cutting_choice) → Int → Option (List Cutting_choice)
  | 0, _, _, _ => none
  | n + 1, l7, l8, x9 =>
    bif decide (x9 ≥ 0) then
      (cutting_start a1 x9 v4 l7).bind fun v11 =>
      bif inb x9 l8.length then
        bif inb a1.Len v2.length then
          bif inb x9 v2.length then
            bif !((((((l8.set x9.toNat v11).getD x9.toNat default).piece).Size) == (-1)) && ((((((l8.set x9.toNat v11).getD x9.toNat default).piece).At) == (-1)) && true)) then
              cutting_choices_k2 a1 v2 v4 l7 l8 x9 (cutting_choices_L1 a1 v2 v4 n) v11 (decide ((((l8.set x9.toNat v11).getD x9.toNat default).value) > (w64 ((v2.getD a1.Len.toNat default) - (v2.getD x9.toNat default)))))
            else
              cutting_choices_k2 a1 v2 v4 l7 l8 x9 (cutting_choices_L1 a1 v2 v4 n) v11 false
          else none
        else none
      else none
    else
      some l7

def cutting_choices (a1 : Line) : Option (List Cutting_choice) :=
  (cutting_sums a1.Chip).bind fun v2 =>
  (cutting_sums a1.Dust).bind fun v4 =>
  bif mkOk (w64 (a1.Len + 1)) 24 then
    (cutting_choices_L1 a1 v2 v4 FUEL (List.replicate ((w64 (a1.Len + 1)).toNat) (Cutting_choice.mk (Piece.mk 0 0) 0)) (List.replicate ((w64 (a1.Len + 1)).toNat) (Cutting_choice.mk (Piece.mk 0 0) 0)) a1.Len).bind fun o37 =>
    some o37
  else none

/- sawmill/cutting.Best -/

def cutting_Best_L1 (a1 : Line) (v5 : (List Cutting_choice)) : Nat → (List Piece) → Int → Option (List Piece)
  | 0, _, _ => none
  | n + 1, l7, x8 =>
    bif decide (x8 ≥ 0) then
      bif inb x8 v5.length then
        bif (((((v5.getD x8.toNat default).piece).Size) == (-1)) && (((((v5.getD x8.toNat default).piece).At) == (-1)) && true)) then
          some l7
        else
          bif room (l7.length + 1) 16 then
            bif inb (((v5.getD x8.toNat default).piece).Size) a1.Sizes.length then
              (cutting_behind a1 (w64 ((((v5.getD x8.toNat default).piece).At) + (a1.Sizes.getD (((v5.getD x8.toNat default).piece).Size).toNat default)))).bind fun v14 =>
              (cutting_Best_L1 a1 v5 n) (l7 ++ ([(v5.getD x8.toNat default).piece] : List Piece)) v14
            else none
          else none
      else none
    else
      some l7

def cutting_Best (a1 : Line) : Option ((List Piece) × Int × Int) :=
  (cutting_Check a1).bind fun v2 =>
  bif v2 != 0 then
    some (([] : List Piece), 0, v2)
  else
    (cutting_choices a1).bind fun v5 =>
    (cutting_Best_L1 a1 v5 FUEL ([] : List Piece) 0).bind fun o17 =>
    bif inb 0 v5.length then
      some (o17, (v5.getD ((0 : Int).toNat) default).value, 0)
    else none

/- slices.Clone[[]sawmill/api.Node,sawmill/api.Node] -/

def slices_Clone_SNode (a1 : List Node) : Option (List Node) :=
  bif room a1.length 16 then some a1 else none

/- sawmill/edge.collect -/

def edge_collect (a1 : List Node) : Option (List (List Node)) :=
  (slices_Clone_SNode a1).bind fun v2 =>
  bif room 1 24 then
    some ([v2] : List (List Node))
  else none

/- sawmill/edge.collect -/

def edge_collect_s1 (a1 : List (List Node)) (a2 : List Node) : Option ((List (List Node)) × (List (List Node))) :=
  (slices_Clone_SNode a2).bind fun v3 =>
  bif room (a1.length + 1) 24 then
    some ((a1 ++ ([v3] : List (List Node))), (a1 ++ ([v3] : List (List Node))))
  else none

/- sawmill/pattern.isRip -/

def pattern_isRip_k1 (x3 : Bool) : Option Bool :=
  some x3

def pattern_isRip (a1 : Int) : Option Bool :=
  bif a1 == 2 then
    pattern_isRip_k1 true
  else
    pattern_isRip_k1 (a1 == 3)

/- sawmill/pattern.isFrame -/

def pattern_isFrame_k2 (x2 : Int) (rec_pattern_isFrame_L1 : Int → Option (Bool ⊕ Unit)) (x7 : Bool) : Option (Bool ⊕ Unit) :=
  bif x7 then
    some (Sum.inl false)
  else
    rec_pattern_isFrame_L1 (w64 (x2 + 1))

def pattern_isFrame_L1 (a1 : Rect) : Nat → Int → Option (Bool ⊕ Unit)
  | 0, _ => none
  | n + 1, x2 =>
    bif decide (x2 < 2) then
      bif inb x2 2 then
        bif decide ((([a1.X.A, a1.X.B, a1.Y.A, a1.Y.B] : List Int).getD (x2.toNat * 2 + 0) 0) < (-600)) then
          pattern_isFrame_k2 x2 (pattern_isFrame_L1 a1 n) true
        else
          bif decide ((([a1.X.A, a1.X.B, a1.Y.A, a1.Y.B] : List Int).getD (x2.toNat * 2 + 1) 0) > 600) then
            pattern_isFrame_k2 x2 (pattern_isFrame_L1 a1 n) true
          else
            pattern_isFrame_k2 x2 (pattern_isFrame_L1 a1 n) (decide ((([a1.X.A, a1.X.B, a1.Y.A, a1.Y.B] : List Int).getD (x2.toNat * 2 + 0) 0) ≥ (([a1.X.A, a1.X.B, a1.Y.A, a1.Y.B] : List Int).getD (x2.toNat * 2 + 1) 0)))
      else none
    else
      some (Sum.inr ())

def pattern_isFrame (a1 : Rect) : Option Bool :=
  (pattern_isFrame_L1 a1 FUEL 0).bind fun u11 => Sum.elim (fun v12 => some v12) (fun o9 =>
  some true) u11

/- sawmill/pattern.along -/

def pattern_along (a1 : Rect) (a2 : Int) : Option Span :=
  bif a2 == 2 then
    some a1.X
  else
    some a1.Y

/- sawmill/pattern.Row$1 -/

def pattern_Row_1 (a1 : List Node) (a2 : Int) : Option (Int × (List Node)) :=
  bif decide ((w64 (a2 + ((a1.length : Nat) : Int))) ≤ 127) then
    bif room a1.length 16 then
      some (w64 (a2 + ((a1.length : Nat) : Int)), a1)
    else none
  else
    some (w64 (a2 + ((a1.length : Nat) : Int)), ([] : List Node))

/- sawmill/pattern.Row$1 -/

def pattern_Row_1_s1 (a1 : List Node) (a2 : Int) (a3 : List Node) : Option (Int × (List Node)) :=
  bif decide ((w64 (a2 + ((a1.length : Nat) : Int))) ≤ 127) then
    bif room (a3.length + a1.length) 16 then
      some (w64 (a2 + ((a1.length : Nat) : Int)), (a3 ++ a1))
    else none
  else
    some (w64 (a2 + ((a1.length : Nat) : Int)), a3)

/- sawmill/pattern.Row -/

def pattern_Row_k6 (a5 : List (List Node)) (x21 : Int) (rec_pattern_Row_L3 : Int → Bool → Int → (List Node) → Int → Option (((List Node) × Int) ⊕ (Bool × (List Node) × Int))) (x40 : Int) (x41 : Bool) (l42 : List Node) (x43 : Int) : Option (((List Node) × Int) ⊕ (Bool × (List Node) × Int)) :=
  bif inb x21 a5.length then
    (pattern_Row_1_s1 (a5.getD x21.toNat default) x43 l42).bind fun v45 =>
    rec_pattern_Row_L3 x40 x41 (w64 (x21 + 1)) v45.2 v45.1
  else none

def pattern_Row_k5 (a2 : Int) (a3 : Int) (a4 : List Span) (a5 : List (List Node)) (v17 : Span) (x19 : Int) (x20 : Bool) (x21 : Int) (rec_pattern_Row_L3 : Int → Bool → Int → (List Node) → Int → Option (((List Node) × Int) ⊕ (Bool × (List Node) × Int))) (l35 : List Node) (x36 : Int) : Option (((List Node) × Int) ⊕ (Bool × (List Node) × Int)) :=
  bif decide (((a4.getD x21.toNat default).B) < v17.B) then
    (pattern_Row_1_s1 ([(Node.mk a2 ((a4.getD x21.toNat default).B))] : List Node) x36 l35).bind fun v38 =>
    pattern_Row_k6 a5 x21 rec_pattern_Row_L3 (imin (w64 (((a4.getD x21.toNat default).B) + a3)) v17.B) x20 v38.2 v38.1
  else
    pattern_Row_k6 a5 x21 rec_pattern_Row_L3 x19 true l35 x36

def pattern_Row_k4 (a2 : Int) (a3 : Int) (a4 : List Span) (a5 : List (List Node)) (v17 : Span) (x19 : Int) (x20 : Bool) (x21 : Int) (l22 : List Node) (x23 : Int) (rec_pattern_Row_L3 : Int → Bool → Int → (List Node) → Int → Option (((List Node) × Int) ⊕ (Bool × (List Node) × Int))) (x29 : Bool) : Option (((List Node) × Int) ⊕ (Bool × (List Node) × Int)) :=
  bif x29 then
    some (Sum.inl (([] : List Node), 11))
  else
    bif decide (((a4.getD x21.toNat default).B) > v17.B) then
      some (Sum.inl (([] : List Node), 20))
    else
      bif decide (((a4.getD x21.toNat default).A) > x19) then
        (pattern_Row_1_s1 ([(Node.mk a2 (w64 (((a4.getD x21.toNat default).A) - a3))), (Node.mk 0 0)] : List Node) x23 l22).bind fun v33 =>
        pattern_Row_k5 a2 a3 a4 a5 v17 x19 x20 x21 rec_pattern_Row_L3 v33.2 v33.1
      else
        pattern_Row_k5 a2 a3 a4 a5 v17 x19 x20 x21 rec_pattern_Row_L3 l22 x23

def pattern_Row_L3 (a2 : Int) (a3 : Int) (a4 : List Span) (a5 : List (List Node)) (v17 : Span) : Nat → Int → Bool → Int → (List Node) → Int → Option (((List Node) × Int) ⊕ (Bool × (List Node) × Int))
  | 0, _, _, _, _, _ => none
  | n + 1, x19, x20, x21, l22, x23 =>
    bif decide (x21 < ((a4.length : Nat) : Int)) then
      bif inb x21 a4.length then
        bif decide (((a4.getD x21.toNat default).A) ≥ ((a4.getD x21.toNat default).B)) then
          some (Sum.inl (([] : List Node), 19))
        else
          bif x20 then
            pattern_Row_k4 a2 a3 a4 a5 v17 x19 x20 x21 l22 x23 (pattern_Row_L3 a2 a3 a4 a5 v17 n) true
          else
            bif ((a4.getD x21.toNat default).A) != x19 then
              pattern_Row_k4 a2 a3 a4 a5 v17 x19 x20 x21 l22 x23 (pattern_Row_L3 a2 a3 a4 a5 v17 n) (decide (((a4.getD x21.toNat default).A) < (w64 ((w64 (x19 + a3)) + 1))))
            else
              pattern_Row_k4 a2 a3 a4 a5 v17 x19 x20 x21 l22 x23 (pattern_Row_L3 a2 a3 a4 a5 v17 n) false
      else none
    else
      some (Sum.inr (x20, l22, x23))

def pattern_Row_k7 (x57 : Int) (l58 : List Node) : Option ((List Node) × Int) :=
  bif decide (x57 > 127) then
    some (([] : List Node), 4)
  else
    some (l58, 0)

def pattern_Row_k2 (a1 : Rect) (a2 : Int) (a3 : Int) (a4 : List Span) (a5 : List (List Node)) (x15 : Bool) : Option ((List Node) × Int) :=
  bif x15 then
    some (([] : List Node), 9)
  else
    (pattern_along a1 a2).bind fun v17 =>
    (pattern_Row_L3 a2 a3 a4 a5 v17 FUEL v17.A false 0 ([] : List Node) 0).bind fun u52 => Sum.elim (fun v53 => some v53) (fun o50 =>
    bif !o50.1 then
      (pattern_Row_1_s1 ([(Node.mk 0 0)] : List Node) o50.2.2 o50.2.1).bind fun v55 =>
      pattern_Row_k7 v55.1 v55.2
    else
      pattern_Row_k7 o50.2.2 o50.2.1) u52

def pattern_Row_k1 (a1 : Rect) (a2 : Int) (a3 : Int) (a4 : List Span) (a5 : List (List Node)) (x12 : Bool) : Option ((List Node) × Int) :=
  bif x12 then
    some (([] : List Node), 19)
  else
    bif decide (a3 < 0) then
      pattern_Row_k2 a1 a2 a3 a4 a5 true
    else
      pattern_Row_k2 a1 a2 a3 a4 a5 (decide (a3 > 20))

def pattern_Row (a1 : Rect) (a2 : Int) (a3 : Int) (a4 : List Span) (a5 : List (List Node)) : Option ((List Node) × Int) :=
  (pattern_isRip a2).bind fun v6 =>
  bif !v6 then
    some (([] : List Node), 10)
  else
    (pattern_isFrame a1).bind fun v9 =>
    bif !v9 then
      pattern_Row_k1 a1 a2 a3 a4 a5 true
    else
      pattern_Row_k1 a1 a2 a3 a4 a5 (((a4.length : Nat) : Int) != ((a5.length : Nat) : Int))

/- sawmill/edge.Best -/

def edge_Best_L1 (a4 : Rect) (v10 : (List Piece) × Int × Int) (v13 : (List Int) × (List Int)) : Nat → (List Span) → (List (List Node)) → Int → Option ((List Span) × (List (List Node)))
  | 0, _, _, _ => none
  | n + 1, l15, l16, x17 =>
    bif decide (x17 < ((v10.1.length : Nat) : Int)) then
      bif inb x17 v10.1.length then
        bif inb ((v10.1.getD x17.toNat default).Size) v13.1.length then
          (edge_part a4 ((v10.1.getD x17.toNat default).At) (w64 (((v10.1.getD x17.toNat default).At) + (v13.1.getD (((v10.1.getD x17.toNat default).Size).toNat) default)))).bind fun v21 =>
          bif room (l15.length + 1) 16 then
            bif inb ((v10.1.getD x17.toNat default).Size) v13.2.length then
              (edge_collect_s1 l16 ([(Node.mk 1 (v13.2.getD (((v10.1.getD x17.toNat default).Size).toNat) default))] : List Node)).bind fun v25 =>
              (edge_Best_L1 a4 v10 v13 n) (l15 ++ ([v21.X] : List Span)) v25.2 (w64 (x17 + 1))
            else none
          else none
        else none
      else none
    else
      some (l15, l16)

def edge_Best (a1 : List Slice) (a2 : List Defect) (a3 : List Product) (a4 : Rect) (a5 : Saw) (a6 : Rates) : Option ((List Node) × Int × Int) :=
  (edge_Line a1 a2 a3 a4 a5 a6).bind fun v7 =>
  bif v7.2 != 0 then
    some (([] : List Node), 0, v7.2)
  else
    (cutting_Best (Line.mk v7.1.Len v7.1.Kerf v7.1.Pitch v7.1.Sizes v7.1.Gain v7.1.Chip v7.1.Dust)).bind fun v10 =>
    bif v10.2.2 != 0 then
      some (([] : List Node), 0, v10.2.2)
    else
      (edge_Sizes a3 (w64 (a4.Y.B - a4.Y.A))).bind fun v13 =>
      (edge_Best_L1 a4 v10 v13 FUEL ([] : List Span) ([] : List (List Node)) 0).bind fun o29 =>
      (pattern_Row a4 2 a5.Kerf o29.1 o29.2).bind fun v31 =>
      bif v31.2 != 0 then
        some (([] : List Node), 0, v31.2)
      else
        some (v31.1, v10.2.1, 0)

/- sawmill/sawmilllaw23.best -/

def law23_best (a1 : Law23_Given) : Option ((List Node) × Int × Int) :=
  (edge_Best a1.Solid a1.Defects a1.Products a1.Strip a1.Saw a1.Rates).bind fun v2 =>
  some (v2.1, v2.2.1, v2.2.2)

/- sawmill/sawmilllaw23.awake -/

def law23_awake_k2 (x38 : Bool) : Option Bool :=
  some x38

def law23_awake_k1 (v3 : Line × Int) (v5 : (List Node) × Int × Int) (v7 : (List Node) × Int × Int) (v9 : (List Int) × (List Int)) (x19 : Bool) : Option Bool :=
  bif x19 then
    some false
  else
    bif v3.1.Len == 110 then
      bif inb 0 v3.1.Gain.length then
        bif inb 5 ((v3.1.Gain.getD ((0 : Int).toNat) default).length) then
          bif ((v3.1.Gain.getD ((0 : Int).toNat) default).getD (5 : Int).toNat default) == 70000000 then
            bif inb 4 ((v3.1.Gain.getD ((0 : Int).toNat) default).length) then
              bif ((v3.1.Gain.getD ((0 : Int).toNat) default).getD (4 : Int).toNat default) == (-1) then
                bif v5.2.1 == 70000000 then
                  bif v7.2.1 == 74513950 then
                    bif inb 0 v5.1.length then
                      bif ((((v5.1.getD ((0 : Int).toNat) default).Kind) == 2) && ((((v5.1.getD ((0 : Int).toNat) default).At) == 5) && true)) then
                        bif inb 1 v5.1.length then
                          bif ((v5.1.getD ((1 : Int).toNat) default).Kind) == 1 then
                            bif inb 2 v5.1.length then
                              bif ((v5.1.getD ((2 : Int).toNat) default).Kind) == 0 then
                                bif inb 0 v9.1.length then
                                  bif (v9.1.getD ((0 : Int).toNat) default) == 105 then
                                    bif inb 0 v9.2.length then
                                      law23_awake_k2 ((v9.2.getD ((0 : Int).toNat) default) == 0)
                                    else none
                                  else
                                    law23_awake_k2 false
                                else none
                              else
                                law23_awake_k2 false
                            else none
                          else
                            law23_awake_k2 false
                        else none
                      else
                        law23_awake_k2 false
                    else none
                  else
                    law23_awake_k2 false
                else
                  law23_awake_k2 false
              else
                law23_awake_k2 false
            else none
          else
            law23_awake_k2 false
        else none
      else none
    else
      law23_awake_k2 false

def law23_awake : Option Bool :=
  (law23_sample).bind fun v1 =>
  (law23_line v1).bind fun v3 =>
  (law23_best v1).bind fun v5 =>
  (law23_best (Law23_Given.mk v1.Solid v1.Defects v1.Products v1.Strip v1.Saw (Rates.mk 1 v1.Rates.Dust v1.Rates.Fine))).bind fun v7 =>
  (edge_Sizes v1.Products 42).bind fun v9 =>
  bif v3.2 != 0 then
    law23_awake_k1 v3 v5 v7 v9 true
  else
    bif v5.2.2 != 0 then
      law23_awake_k1 v3 v5 v7 v9 true
    else
      bif v7.2.2 != 0 then
        law23_awake_k1 v3 v5 v7 v9 true
      else
        bif ((v5.1.length : Nat) : Int) != 3 then
          law23_awake_k1 v3 v5 v7 v9 true
        else
          bif ((v9.1.length : Nat) : Int) != 1 then
            law23_awake_k1 v3 v5 v7 v9 true
          else
            bif ((v9.2.length : Nat) : Int) != 1 then
              law23_awake_k1 v3 v5 v7 v9 true
            else
              bif ((v3.1.Gain.length : Nat) : Int) != 1 then
                law23_awake_k1 v3 v5 v7 v9 true
              else
                bif inb 0 v3.1.Gain.length then
                  law23_awake_k1 v3 v5 v7 v9 ((((v3.1.Gain.getD ((0 : Int).toNat) default).length : Nat) : Int) != 6)
                else none

/- sawmill/sawmillref02.digit -/

def ref02_digit_k1 (x3 : Bool) : Option Bool :=
  some x3

def ref02_digit (a1 : Int) : Option Bool :=
  bif decide (a1 ≥ 48) then
    ref02_digit_k1 (decide (a1 ≤ 57))
  else
    ref02_digit_k1 false

/- sawmill/sawmillref02.IsName -/

def ref02_IsName_k4 (x5 : Int) (rec_ref02_IsName_L2 : Int → Option (Bool ⊕ Unit)) (x16 : Bool) : Option (Bool ⊕ Unit) :=
  bif x16 then
    some (Sum.inl false)
  else
    rec_ref02_IsName_L2 (w64 (x5 + 1))

def ref02_IsName_k3 (a1 : ByteArray) (x5 : Int) (rec_ref02_IsName_L2 : Int → Option (Bool ⊕ Unit)) (x9 : Bool) : Option (Bool ⊕ Unit) :=
  bif !x9 then
    bif x5 == 0 then
      ref02_IsName_k4 x5 rec_ref02_IsName_L2 true
    else
      bif inb x5 a1.size then
        bif (strAt a1 x5.toNat) != 95 then
          (ref02_digit (strAt a1 x5.toNat)).bind fun v14 =>
          ref02_IsName_k4 x5 rec_ref02_IsName_L2 (!v14)
        else
          ref02_IsName_k4 x5 rec_ref02_IsName_L2 false
      else none
  else
    ref02_IsName_k4 x5 rec_ref02_IsName_L2 false

def ref02_IsName_L2 (a1 : ByteArray) : Nat → Int → Option (Bool ⊕ Unit)
  | 0, _ => none
  | n + 1, x5 =>
    bif decide (x5 < ((a1.size : Nat) : Int)) then
      bif inb x5 a1.size then
        bif decide ((strAt a1 x5.toNat) ≥ 97) then
          ref02_IsName_k3 a1 x5 (ref02_IsName_L2 a1 n) (decide ((strAt a1 x5.toNat) ≤ 122))
        else
          ref02_IsName_k3 a1 x5 (ref02_IsName_L2 a1 n) false
      else none
    else
      some (Sum.inr ())

def ref02_IsName_k1 (a1 : ByteArray) (x3 : Bool) : Option Bool :=
  bif x3 then
    some false
  else
    (ref02_IsName_L2 a1 FUEL 0).bind fun u20 => Sum.elim (fun v21 => some v21) (fun o18 =>
    some true) u20

def ref02_IsName (a1 : ByteArray) : Option Bool :=
  bif decide (((a1.size : Nat) : Int) < 1) then
    ref02_IsName_k1 a1 true
  else
    ref02_IsName_k1 a1 (decide (((a1.size : Nat) : Int) > 16))

/- sawmill/sawmillref19.sized -/

def ref19_sized_k1 (x5 : Bool) : Option Bool :=
  some x5

def ref19_sized (a1 : Product) : Option Bool :=
  bif decide (a1.Thick ≥ 1) then
    bif decide (a1.Thick ≤ 600) then
      bif decide (a1.Width ≥ 1) then
        ref19_sized_k1 (decide (a1.Width ≤ 600))
      else
        ref19_sized_k1 false
    else
      ref19_sized_k1 false
  else
    ref19_sized_k1 false

/- sawmill/sawmillref19.Green -/

def ref19_Green_k1 (a1 : Product) (x6 : Bool) : Option (Int × Int) :=
  bif x6 then
    some (0, 0)
  else
    some (w64 (Int.tdiv (w64 ((w64 (a1.Thick * (w64 (1000 + a1.Allow)))) + 999)) 1000), w64 (Int.tdiv (w64 ((w64 (a1.Width * (w64 (1000 + a1.Allow)))) + 999)) 1000))

def ref19_Green (a1 : Product) : Option (Int × Int) :=
  (ref19_sized a1).bind fun v2 =>
  bif !v2 then
    ref19_Green_k1 a1 true
  else
    bif decide (a1.Allow < 0) then
      ref19_Green_k1 a1 true
    else
      ref19_Green_k1 a1 (decide (a1.Allow > 200))

/- sawmill/sawmillref19.checkLengths -/

def ref19_checkLengths_k3 (x5 : Int) (rec_ref19_checkLengths_L1 : Int → Option (Int ⊕ Unit)) (x14 : Bool) : Option (Int ⊕ Unit) :=
  bif x14 then
    some (Sum.inl 11)
  else
    rec_ref19_checkLengths_L1 (w64 (x5 + 1))

def ref19_checkLengths_k2 (a1 : Product) (x5 : Int) (rec_ref19_checkLengths_L1 : Int → Option (Int ⊕ Unit)) (x9 : Bool) : Option (Int ⊕ Unit) :=
  bif x9 then
    some (Sum.inl 9)
  else
    bif decide (x5 > 0) then
      bif inb x5 a1.Lengths.length then
        bif inb (w64 (x5 - 1)) a1.Lengths.length then
          ref19_checkLengths_k3 x5 rec_ref19_checkLengths_L1 (decide ((a1.Lengths.getD x5.toNat default) ≤ (a1.Lengths.getD (w64 (x5 - 1)).toNat default)))
        else none
      else none
    else
      ref19_checkLengths_k3 x5 rec_ref19_checkLengths_L1 false

def ref19_checkLengths_L1 (a1 : Product) : Nat → Int → Option (Int ⊕ Unit)
  | 0, _ => none
  | n + 1, x5 =>
    bif decide (x5 < ((a1.Lengths.length : Nat) : Int)) then
      bif inb x5 a1.Lengths.length then
        bif decide ((a1.Lengths.getD x5.toNat default) < 100) then
          ref19_checkLengths_k2 a1 x5 (ref19_checkLengths_L1 a1 n) true
        else
          ref19_checkLengths_k2 a1 x5 (ref19_checkLengths_L1 a1 n) (decide ((a1.Lengths.getD x5.toNat default) > 20000))
      else none
    else
      some (Sum.inr ())

def ref19_checkLengths_k5 (x20 : Int) (rec_ref19_checkLengths_L4 : Int → Option (Int ⊕ Unit)) (x24 : Bool) : Option (Int ⊕ Unit) :=
  bif x24 then
    some (Sum.inl 9)
  else
    rec_ref19_checkLengths_L4 (w64 (x20 + 1))

def ref19_checkLengths_L4 (a1 : Product) : Nat → Int → Option (Int ⊕ Unit)
  | 0, _ => none
  | n + 1, x20 =>
    bif decide (x20 < ((a1.Prices.length : Nat) : Int)) then
      bif inb x20 a1.Prices.length then
        bif decide ((a1.Prices.getD x20.toNat default) < 0) then
          ref19_checkLengths_k5 x20 (ref19_checkLengths_L4 a1 n) true
        else
          ref19_checkLengths_k5 x20 (ref19_checkLengths_L4 a1 n) (decide ((a1.Prices.getD x20.toNat default) > 1000000))
      else none
    else
      some (Sum.inr ())

def ref19_checkLengths (a1 : Product) : Option Int :=
  bif ((a1.Lengths.length : Nat) : Int) == 0 then
    some 3
  else
    bif decide (((a1.Lengths.length : Nat) : Int) > 8) then
      some 4
    else
      bif ((a1.Prices.length : Nat) : Int) != ((a1.Lengths.length : Nat) : Int) then
        some 19
      else
        (ref19_checkLengths_L1 a1 FUEL 0).bind fun u18 => Sum.elim (fun v19 => some v19) (fun o16 =>
        (ref19_checkLengths_L4 a1 FUEL 0).bind fun u28 => Sum.elim (fun v29 => some v29) (fun o26 =>
        some 0) u28) u18

/- sawmill/sawmillref19.Check -/

def ref19_Check_L2 (a1 : List Product) (x3 : Int) : Nat → Int → Option (Int ⊕ Unit)
  | 0, _ => none
  | n + 1, x9 =>
    bif decide (x9 < x3) then
      bif inb x9 a1.length then
        bif strEq ((a1.getD x9.toNat default).Name) ((a1.getD x3.toNat default).Name) then
          some (Sum.inl 7)
        else
          (ref19_Check_L2 a1 x3 n) (w64 (x9 + 1))
      else none
    else
      some (Sum.inr ())

def ref19_Check_k3 (a1 : List Product) (x3 : Int) (rec_ref19_Check_L1 : Int → Option (Int ⊕ Unit)) (x24 : Bool) : Option (Int ⊕ Unit) :=
  bif x24 then
    some (Sum.inl 9)
  else
    (ref19_Green (a1.getD x3.toNat default)).bind fun v26 =>
    bif decide (v26.2 > 600) then
      some (Sum.inl 9)
    else
      (ref19_checkLengths (a1.getD x3.toNat default)).bind fun v29 =>
      bif v29 != 0 then
        some (Sum.inl v29)
      else
        rec_ref19_Check_L1 (w64 (x3 + 1))

def ref19_Check_L1 (a1 : List Product) : Nat → Int → Option (Int ⊕ Unit)
  | 0, _ => none
  | n + 1, x3 =>
    bif decide (x3 < ((a1.length : Nat) : Int)) then
      bif inb x3 a1.length then
        (ref02_IsName ((a1.getD x3.toNat default).Name)).bind fun v6 =>
        bif !v6 then
          some (Sum.inl 6)
        else
          (ref19_Check_L2 a1 x3 FUEL 0).bind fun u15 => Sum.elim (fun v16 => some (Sum.inl v16)) (fun o13 =>
          bif decide (((a1.getD x3.toNat default).Thick) < 5) then
            ref19_Check_k3 a1 x3 (ref19_Check_L1 a1 n) true
          else
            bif decide (((a1.getD x3.toNat default).Thick) > 300) then
              ref19_Check_k3 a1 x3 (ref19_Check_L1 a1 n) true
            else
              bif decide (((a1.getD x3.toNat default).Width) < ((a1.getD x3.toNat default).Thick)) then
                ref19_Check_k3 a1 x3 (ref19_Check_L1 a1 n) true
              else
                bif decide (((a1.getD x3.toNat default).Width) > 600) then
                  ref19_Check_k3 a1 x3 (ref19_Check_L1 a1 n) true
                else
                  bif decide (((a1.getD x3.toNat default).Allow) < 0) then
                    ref19_Check_k3 a1 x3 (ref19_Check_L1 a1 n) true
                  else
                    bif decide (((a1.getD x3.toNat default).Allow) > 200) then
                      ref19_Check_k3 a1 x3 (ref19_Check_L1 a1 n) true
                    else
                      bif decide (((a1.getD x3.toNat default).Wane) < 0) then
                        ref19_Check_k3 a1 x3 (ref19_Check_L1 a1 n) true
                      else
                        ref19_Check_k3 a1 x3 (ref19_Check_L1 a1 n) (decide (((a1.getD x3.toNat default).Wane) > 1000))) u15
      else none
    else
      some (Sum.inr ())

def ref19_Check (a1 : List Product) : Option Int :=
  bif decide (((a1.length : Nat) : Int) > 16) then
    some 4
  else
    (ref19_Check_L1 a1 FUEL 0).bind fun u34 => Sum.elim (fun v35 => some v35) (fun o32 =>
    some 0) u34

/- sawmill/sawmillref23.Sizes -/

def ref23_Sizes_k2 (x8 : Int) (rec_ref23_Sizes_L1 : (List Int) → (List Int) → Int → Option ((List Int) × (List Int))) (l19 : List Int) (l20 : List Int) : Option ((List Int) × (List Int)) :=
  rec_ref23_Sizes_L1 l19 l20 (w64 (x8 + 1))

def ref23_Sizes_L1 (a1 : List Product) (a2 : Int) : Nat → (List Int) → (List Int) → Int → Option ((List Int) × (List Int))
  | 0, _, _, _ => none
  | n + 1, l6, l7, x8 =>
    bif decide (x8 < ((a1.length : Nat) : Int)) then
      bif inb x8 a1.length then
        (ref19_Green (a1.getD x8.toNat default)).bind fun v11 =>
        bif v11.1 == a2 then
          bif room (l6.length + 1) 8 then
            bif room (l7.length + 1) 8 then
              ref23_Sizes_k2 x8 (ref23_Sizes_L1 a1 a2 n) (l6 ++ ([v11.2] : List Int)) (l7 ++ ([x8] : List Int))
            else none
          else none
        else
          bif v11.2 == a2 then
            bif room (l6.length + 1) 8 then
              bif room (l7.length + 1) 8 then
                ref23_Sizes_k2 x8 (ref23_Sizes_L1 a1 a2 n) (l6 ++ ([v11.1] : List Int)) (l7 ++ ([x8] : List Int))
              else none
            else none
          else
            ref23_Sizes_k2 x8 (ref23_Sizes_L1 a1 a2 n) l6 l7
      else none
    else
      some (l6, l7)

def ref23_Sizes (a1 : List Product) (a2 : Int) : Option ((List Int) × (List Int)) :=
  (ref19_Check a1).bind fun v3 =>
  bif v3 != 0 then
    some (([] : List Int), ([] : List Int))
  else
    (ref23_Sizes_L1 a1 a2 FUEL ([] : List Int) ([] : List Int) 0).bind fun o23 =>
    some (o23.1, o23.2)

/- sawmill/sawmillref05.Same -/

def ref05_Same_L1 (a1 : List Int) (a2 : List Int) : Nat → Int → Option (Bool ⊕ Unit)
  | 0, _ => none
  | n + 1, x4 =>
    bif decide (x4 < ((a1.length : Nat) : Int)) then
      bif inb x4 a1.length then
        bif inb x4 a2.length then
          bif (a1.getD x4.toNat default) != (a2.getD x4.toNat default) then
            some (Sum.inl false)
          else
            (ref05_Same_L1 a1 a2 n) (w64 (x4 + 1))
        else none
      else none
    else
      some (Sum.inr ())

def ref05_Same (a1 : List Int) (a2 : List Int) : Option Bool :=
  bif ((a1.length : Nat) : Int) != ((a2.length : Nat) : Int) then
    some false
  else
    (ref05_Same_L1 a1 a2 FUEL 0).bind fun u11 => Sum.elim (fun v12 => some v12) (fun o9 =>
    some true) u11

/- sawmill/sawmilllaw23.EdgeSizes -/

def law23_EdgeSizes_k1 (x20 : Bool) : Option Bool :=
  some x20

def law23_EdgeSizes (a1 : List Product) (a2 : Int) : Option Bool :=
  (law19_Short a1).bind fun v3 =>
  bif !v3 then
    (law23_awake).bind fun v6 =>
    some v6
  else
    (edge_Sizes a1 a2).bind fun v8 =>
    (ref23_Sizes a1 a2).bind fun v10 =>
    (ref05_Same v8.1 v10.1).bind fun v12 =>
    bif v12 then
      (ref05_Same v8.2 v10.2).bind fun v15 =>
      bif v15 then
        (law23_awake).bind fun v18 =>
        law23_EdgeSizes_k1 v18
      else
        law23_EdgeSizes_k1 false
    else
      law23_EdgeSizes_k1 false

/- sawmill/sawmillref10.beyond -/

def ref10_beyond_k1 (x3 : Bool) : Option Bool :=
  some x3

def ref10_beyond (a1 : Int) : Option Bool :=
  bif decide (a1 < (-600)) then
    ref10_beyond_k1 true
  else
    ref10_beyond_k1 (decide (a1 > 600))

/- sawmill/sawmillref10.empty -/

def ref10_empty (a1 : Span) : Option Bool :=
  some (decide (a1.A ≥ a1.B))

/- sawmill/sawmillref10.Check -/

def ref10_Check_k3 (x6 : Int) (rec_ref10_Check_L2 : Int → Option (Int ⊕ Unit)) (x14 : Bool) : Option (Int ⊕ Unit) :=
  bif x14 then
    some (Sum.inl 9)
  else
    rec_ref10_Check_L2 (w64 (x6 + 1))

def ref10_Check_L2 (a1 : Section) : Nat → Int → Option (Int ⊕ Unit)
  | 0, _ => none
  | n + 1, x6 =>
    bif decide (x6 < ((a1.Rows.length : Nat) : Int)) then
      bif inb x6 a1.Rows.length then
        (ref10_beyond ((a1.Rows.getD x6.toNat default).A)).bind fun v9 =>
        bif v9 then
          ref10_Check_k3 x6 (ref10_Check_L2 a1 n) true
        else
          (ref10_beyond ((a1.Rows.getD x6.toNat default).B)).bind fun v12 =>
          ref10_Check_k3 x6 (ref10_Check_L2 a1 n) v12
      else none
    else
      some (Sum.inr ())

def ref10_Check_k6 (x31 : Int) (rec_ref10_Check_L5 : Int → Option (Int ⊕ Unit)) (x37 : Bool) : Option (Int ⊕ Unit) :=
  bif x37 then
    some (Sum.inl 19)
  else
    rec_ref10_Check_L5 (w64 (x31 + 1))

def ref10_Check_L5 (a1 : Section) : Nat → Int → Option (Int ⊕ Unit)
  | 0, _ => none
  | n + 1, x31 =>
    bif decide (x31 < ((a1.Rows.length : Nat) : Int)) then
      bif inb x31 a1.Rows.length then
        (ref10_empty (a1.Rows.getD x31.toNat default)).bind fun v34 =>
        bif v34 then
          ref10_Check_k6 x31 (ref10_Check_L5 a1 n) (!((((a1.Rows.getD x31.toNat default).A) == 0) && ((((a1.Rows.getD x31.toNat default).B) == 0) && true)))
        else
          ref10_Check_k6 x31 (ref10_Check_L5 a1 n) false
      else none
    else
      some (Sum.inr ())

def ref10_Check_k4 (a1 : Section) (x29 : Bool) : Option Int :=
  bif x29 then
    some 19
  else
    (ref10_Check_L5 a1 FUEL 0).bind fun u41 => Sum.elim (fun v42 => some v42) (fun o39 =>
    some 0) u41

def ref10_Check_k1 (a1 : Section) (x4 : Bool) : Option Int :=
  bif x4 then
    some 9
  else
    (ref10_Check_L2 a1 FUEL 0).bind fun u18 => Sum.elim (fun v19 => some v19) (fun o16 =>
    bif ((a1.Rows.length : Nat) : Int) == 0 then
      bif a1.Low != 0 then
        some 19
      else
        some 0
    else
      bif inb 0 a1.Rows.length then
        (ref10_empty (a1.Rows.getD (0 : Int).toNat default)).bind fun v23 =>
        bif v23 then
          ref10_Check_k4 a1 true
        else
          bif inb (w64 (((a1.Rows.length : Nat) : Int) - 1)) a1.Rows.length then
            (ref10_empty (a1.Rows.getD (w64 (((a1.Rows.length : Nat) : Int) - 1)).toNat default)).bind fun v27 =>
            ref10_Check_k4 a1 v27
          else none
      else none) u18

def ref10_Check (a1 : Section) : Option Int :=
  bif decide (((a1.Rows.length : Nat) : Int) > 120) then
    some 4
  else
    bif decide (a1.Low < (-60)) then
      ref10_Check_k1 a1 true
    else
      ref10_Check_k1 a1 (decide (a1.Low > (w64 (60 - ((a1.Rows.length : Nat) : Int)))))

/- sawmill/sawmillref11.Check -/

def ref11_Check_k2 (a1 : List Slice) (x4 : Int) (x5 : Int) (rec_ref11_Check_L1 : Int → Int → Option (Int ⊕ Unit)) (x13 : Bool) : Option (Int ⊕ Unit) :=
  bif x13 then
    some (Sum.inl 9)
  else
    rec_ref11_Check_L1 (w64 (x4 + ((a1.getD x5.toNat default).Len))) (w64 (x5 + 1))

def ref11_Check_L1 (a1 : List Slice) : Nat → Int → Int → Option (Int ⊕ Unit)
  | 0, _, _ => none
  | n + 1, x4, x5 =>
    bif decide (x5 < ((a1.length : Nat) : Int)) then
      bif inb x5 a1.length then
        (ref10_Check ((a1.getD x5.toNat default).Sec)).bind fun v8 =>
        bif v8 != 0 then
          some (Sum.inl v8)
        else
          bif (((((a1.getD x5.toNat default).Sec).Rows).length : Nat) : Int) == 0 then
            some (Sum.inl 18)
          else
            bif decide (((a1.getD x5.toNat default).Len) < 1) then
              ref11_Check_k2 a1 x4 x5 (ref11_Check_L1 a1 n) true
            else
              ref11_Check_k2 a1 x4 x5 (ref11_Check_L1 a1 n) (decide (((a1.getD x5.toNat default).Len) > (w64 (20000 - x4))))
      else none
    else
      some (Sum.inr ())

def ref11_Check (a1 : List Slice) : Option Int :=
  bif ((a1.length : Nat) : Int) == 0 then
    some 3
  else
    bif decide (((a1.length : Nat) : Int) > 24) then
      some 4
    else
      (ref11_Check_L1 a1 FUEL 0 0).bind fun u17 => Sum.elim (fun v18 => some v18) (fun o15 =>
      some 0) u17

/- sawmill/sawmillref11.Length -/

def ref11_Length_L1 (a1 : List Slice) : Nat → Int → Int → Option Int
  | 0, _, _ => none
  | n + 1, x5, x6 =>
    bif decide (x6 < ((a1.length : Nat) : Int)) then
      bif inb x6 a1.length then
        (ref11_Length_L1 a1 n) (w64 (x5 + ((a1.getD x6.toNat default).Len))) (w64 (x6 + 1))
      else none
    else
      some x5

def ref11_Length (a1 : List Slice) : Option Int :=
  (ref11_Check a1).bind fun v2 =>
  bif v2 != 0 then
    some 0
  else
    (ref11_Length_L1 a1 FUEL 0 0).bind fun o10 =>
    some o10

/- sawmill/sawmilllaw23.Small -/

def law23_Small_L2 (a1 : Law23_Given) : Nat → Int → Option (Bool ⊕ Unit)
  | 0, _ => none
  | n + 1, x9 =>
    bif decide (x9 < ((a1.Solid.length : Nat) : Int)) then
      bif inb x9 a1.Solid.length then
        bif decide ((((((a1.Solid.getD x9.toNat default).Sec).Rows).length : Nat) : Int) > 130) then
          some (Sum.inl false)
        else
          (law23_Small_L2 a1 n) (w64 (x9 + 1))
      else none
    else
      some (Sum.inr ())

def law23_Small_L3 (a1 : Law23_Given) : Nat → Int → Option (Bool ⊕ Unit)
  | 0, _ => none
  | n + 1, x17 =>
    bif decide (x17 < ((a1.Products.length : Nat) : Int)) then
      bif inb x17 a1.Products.length then
        bif decide (((((a1.Products.getD x17.toNat default).Lengths).length : Nat) : Int) > 4) then
          some (Sum.inl false)
        else
          (law23_Small_L3 a1 n) (w64 (x17 + 1))
      else none
    else
      some (Sum.inr ())

def law23_Small_k4 (a1 : Law23_Given) (x30 : Bool) : Option Bool :=
  bif x30 then
    some false
  else
    (ref11_Length a1.Solid).bind fun v32 =>
    some (decide ((w64 (Int.tdiv v32 12)) ≤ a1.Saw.Step))

def law23_Small_k1 (a1 : Law23_Given) (x7 : Bool) : Option Bool :=
  bif x7 then
    some false
  else
    (law23_Small_L2 a1 FUEL 0).bind fun u15 => Sum.elim (fun v16 => some v16) (fun o13 =>
    (law23_Small_L3 a1 FUEL 0).bind fun u23 => Sum.elim (fun v24 => some v24) (fun o21 =>
    bif decide (a1.Saw.Pitch < 5) then
      law23_Small_k4 a1 true
    else
      bif decide (a1.Saw.Step < 1) then
        law23_Small_k4 a1 true
      else
        bif decide (a1.Strip.X.A < (-1000)) then
          law23_Small_k4 a1 true
        else
          bif decide (a1.Strip.X.B > 1000) then
            law23_Small_k4 a1 true
          else
            bif decide (a1.Strip.X.B > a1.Strip.X.A) then
              law23_Small_k4 a1 (decide ((w64 (a1.Strip.X.B - a1.Strip.X.A)) > 300))
            else
              law23_Small_k4 a1 false) u23) u15

def law23_Small (a1 : Law23_Given) : Option Bool :=
  bif decide (((a1.Solid.length : Nat) : Int) > 6) then
    law23_Small_k1 a1 true
  else
    bif decide (((a1.Defects.length : Nat) : Int) > 70) then
      law23_Small_k1 a1 true
    else
      bif decide (((a1.Products.length : Nat) : Int) > 4) then
        law23_Small_k1 a1 true
      else
        (law19_Short a1.Products).bind fun v5 =>
        law23_Small_k1 a1 (!v5)

/- sawmill/sawmilllaw23.EdgeMore -/

def law23_EdgeMore_k2 (x27 : Bool) : Option Bool :=
  some x27

def law23_EdgeMore_k1 (a1 : Law23_Given) (a2 : Product) (x10 : Bool) : Option Bool :=
  bif x10 then
    (law23_awake).bind fun v12 =>
    some v12
  else
    (law23_best a1).bind fun v14 =>
    (law23_best (Law23_Given.mk a1.Solid a1.Defects ((([] : List Product) ++ a1.Products) ++ ([a2] : List Product)) a1.Strip a1.Saw a1.Rates)).bind fun v16 =>
    bif v14.2.2 != 0 then
      (law23_awake).bind fun v19 =>
      law23_EdgeMore_k2 v19
    else
      bif v16.2.2 != 0 then
        (law23_awake).bind fun v22 =>
        law23_EdgeMore_k2 v22
      else
        bif decide (v16.2.1 ≥ v14.2.1) then
          (law23_awake).bind fun v25 =>
          law23_EdgeMore_k2 v25
        else
          law23_EdgeMore_k2 false

def law23_EdgeMore (a1 : Law23_Given) (a2 : Product) : Option Bool :=
  bif room (0 + a1.Products.length) 96 then
    bif room ((0 + a1.Products.length) + 1) 96 then
      (law23_Small a1).bind fun v5 =>
      bif !v5 then
        law23_EdgeMore_k1 a1 a2 true
      else
        (law23_Small (Law23_Given.mk a1.Solid a1.Defects ((([] : List Product) ++ a1.Products) ++ ([a2] : List Product)) a1.Strip a1.Saw a1.Rates)).bind fun v8 =>
        law23_EdgeMore_k1 a1 a2 (!v8)
    else none
  else none

/- slices.Clone[[]sawmill/api.Span,sawmill/api.Span] -/

def slices_Clone_SSpan (a1 : List Span) : Option (List Span) :=
  bif room a1.length 16 then some a1 else none

/- sawmill/section.Shift -/

def section_Shift_k3 (x12 : Int) (rec_section_Shift_L2 : Int → (List Span) → Option (List Span)) (l20 : List Span) : Option (List Span) :=
  rec_section_Shift_L2 (w64 (x12 + 1)) l20

def section_Shift_L2 (a2 : Int) (v4 : Section) : Nat → Int → (List Span) → Option (List Span)
  | 0, _, _ => none
  | n + 1, x12, l13 =>
    bif decide (x12 < ((v4.Rows.length : Nat) : Int)) then
      bif inb x12 v4.Rows.length then
        (section_isEmpty (v4.Rows.getD x12.toNat default)).bind fun v16 =>
        bif !v16 then
          bif inb x12 l13.length then
            section_Shift_k3 x12 (section_Shift_L2 a2 v4 n) (l13.set x12.toNat (Span.mk (w64 (((v4.Rows.getD x12.toNat default).A) + a2)) (w64 (((v4.Rows.getD x12.toNat default).B) + a2))))
          else none
        else
          section_Shift_k3 x12 (section_Shift_L2 a2 v4 n) l13
      else none
    else
      some l13

def section_Shift_k1 (a2 : Int) (a3 : Int) (v4 : Section) (x8 : Bool) : Option Section :=
  bif x8 then
    some (Section.mk 0 ([] : List Span))
  else
    (slices_Clone_SSpan v4.Rows).bind fun v10 =>
    (section_Shift_L2 a2 v4 FUEL 0 v10).bind fun o22 =>
    (section_valid (Section.mk (w64 (v4.Low + a3)) o22)).bind fun v24 =>
    some v24

def section_Shift (a1 : Section) (a2 : Int) (a3 : Int) : Option Section :=
  (section_valid a1).bind fun v4 =>
  bif ((v4.Rows.length : Nat) : Int) == 0 then
    section_Shift_k1 a2 a3 v4 true
  else
    bif decide ((imax a2 a3) > 1200) then
      section_Shift_k1 a2 a3 v4 true
    else
      section_Shift_k1 a2 a3 v4 (decide ((imin a2 a3) < (-1200)))

/- sawmill/sawmilllaw23.EdgeMoves -/

def law23_EdgeMoves_L2 (a1 : Law23_Given) (a2 : Int) : Nat → Int → (List Slice) → Option (List Slice)
  | 0, _, _ => none
  | n + 1, x11, l12 =>
    bif decide (x11 < ((a1.Solid.length : Nat) : Int)) then
      bif inb x11 a1.Solid.length then
        (section_Shift ((a1.Solid.getD x11.toNat default).Sec) a2 0).bind fun v15 =>
        bif room (l12.length + 1) 40 then
          (law23_EdgeMoves_L2 a1 a2 n) (w64 (x11 + 1)) (l12 ++ ([(Slice.mk ((a1.Solid.getD x11.toNat default).Len) v15)] : List Slice))
        else none
      else none
    else
      some l12

def law23_EdgeMoves_k4 (a1 : Law23_Given) (a2 : Int) (x21 : Int) (l22 : List Defect) (rec_law23_EdgeMoves_L3 : Int → (List Defect) → Option (Bool ⊕ (List Defect))) (x26 : Bool) : Option (Bool ⊕ (List Defect)) :=
  bif x26 then
    (law23_awake).bind fun v28 =>
    some (Sum.inl v28)
  else
    bif room (l22.length + 1) 56 then
      rec_law23_EdgeMoves_L3 (w64 (x21 + 1)) (l22 ++ ([(Defect.mk ((a1.Defects.getD x21.toNat default).Kind) (Box.mk (Span.mk (w64 (((((a1.Defects.getD x21.toNat default).Box).X).A) + a2)) (w64 (((((a1.Defects.getD x21.toNat default).Box).X).B) + a2))) (((a1.Defects.getD x21.toNat default).Box).Y) (((a1.Defects.getD x21.toNat default).Box).Z)))] : List Defect))
    else none

def law23_EdgeMoves_L3 (a1 : Law23_Given) (a2 : Int) : Nat → Int → (List Defect) → Option (Bool ⊕ (List Defect))
  | 0, _, _ => none
  | n + 1, x21, l22 =>
    bif decide (x21 < ((a1.Defects.length : Nat) : Int)) then
      bif inb x21 a1.Defects.length then
        bif decide (((((a1.Defects.getD x21.toNat default).Box).X).A) < (-600)) then
          law23_EdgeMoves_k4 a1 a2 x21 l22 (law23_EdgeMoves_L3 a1 a2 n) true
        else
          law23_EdgeMoves_k4 a1 a2 x21 l22 (law23_EdgeMoves_L3 a1 a2 n) (decide (((((a1.Defects.getD x21.toNat default).Box).X).B) > 600))
      else none
    else
      some (Sum.inr l22)

def law23_EdgeMoves_k5 (x49 : Bool) : Option Bool :=
  some x49

def law23_EdgeMoves_k1 (a1 : Law23_Given) (a2 : Int) (x7 : Bool) : Option Bool :=
  bif x7 then
    (law23_awake).bind fun v9 =>
    some v9
  else
    (law23_EdgeMoves_L2 a1 a2 FUEL 0 ([] : List Slice)).bind fun o19 =>
    (law23_EdgeMoves_L3 a1 a2 FUEL 0 ([] : List Defect)).bind fun u34 => Sum.elim (fun v35 => some v35) (fun o32 =>
    (law23_best a1).bind fun v36 =>
    (law23_best (Law23_Given.mk o19 o32 a1.Products (Rect.mk (Span.mk (w64 (a1.Strip.X.A + a2)) (w64 (a1.Strip.X.B + a2))) a1.Strip.Y) a1.Saw a1.Rates)).bind fun v38 =>
    bif v36.2.2 != 0 then
      (law23_awake).bind fun v41 =>
      law23_EdgeMoves_k5 v41
    else
      bif v38.2.2 != 0 then
        (law23_awake).bind fun v44 =>
        law23_EdgeMoves_k5 v44
      else
        bif v36.2.1 == v38.2.1 then
          (law23_awake).bind fun v47 =>
          law23_EdgeMoves_k5 v47
        else
          law23_EdgeMoves_k5 false) u34

def law23_EdgeMoves (a1 : Law23_Given) (a2 : Int) : Option Bool :=
  (law23_Small a1).bind fun v3 =>
  bif !v3 then
    law23_EdgeMoves_k1 a1 a2 true
  else
    bif decide (a2 < (-100)) then
      law23_EdgeMoves_k1 a1 a2 true
    else
      law23_EdgeMoves_k1 a1 a2 (decide (a2 > 100))

/- sawmill/cutting.permitted -/

def cutting_permitted_k3 (a1 : Line) (a3 : Piece) (x15 : Bool) : Option Int :=
  bif x15 then
    some 11
  else
    bif inb a3.Size a1.Gain.length then
      bif inb a3.At ((a1.Gain.getD a3.Size.toNat default).length) then
        bif decide (((a1.Gain.getD a3.Size.toNat default).getD a3.At.toNat default) < 0) then
          some 14
        else
          some 0
      else none
    else none

def cutting_permitted_k2 (a1 : Line) (a2 : Int) (a3 : Piece) (x9 : Bool) : Option Int :=
  bif x9 then
    some 20
  else
    bif decide (a2 < 0) then
      cutting_permitted_k3 a1 a3 true
    else
      bif a3.At != a2 then
        bif decide ((w64 ((w64 (a3.At - a1.Kerf)) - a2)) < a1.Pitch) then
          cutting_permitted_k3 a1 a3 true
        else
          bif nz a1.Pitch then
            cutting_permitted_k3 a1 a3 ((Int.tmod (w64 ((w64 (a3.At - a1.Kerf)) - a2)) a1.Pitch) != 0)
          else none
      else
        cutting_permitted_k3 a1 a3 false

def cutting_permitted_k1 (a1 : Line) (a2 : Int) (a3 : Piece) (x5 : Bool) : Option Int :=
  bif x5 then
    some 9
  else
    bif decide (a3.At < 0) then
      cutting_permitted_k2 a1 a2 a3 true
    else
      bif inb a3.Size a1.Sizes.length then
        cutting_permitted_k2 a1 a2 a3 (decide (a3.At > (w64 (a1.Len - (a1.Sizes.getD a3.Size.toNat default)))))
      else none

def cutting_permitted (a1 : Line) (a2 : Int) (a3 : Piece) : Option Int :=
  bif decide (a3.Size < 0) then
    cutting_permitted_k1 a1 a2 a3 true
  else
    cutting_permitted_k1 a1 a2 a3 (decide (a3.Size ≥ ((a1.Sizes.length : Nat) : Int)))

/- sawmill/cutting.add -/

def cutting_add (a1 : Int) (a2 : Int) : Option (List Span) :=
  bif decide (a1 ≥ a2) then
    some ([] : List Span)
  else
    bif room 1 16 then
      some ([(Span.mk a1 a2)] : List Span)
    else none

/- sawmill/cutting.add -/

def cutting_add_s1 (a1 : Int) (a2 : Int) (a3 : List Span) : Option ((List Span) × (List Span)) :=
  bif decide (a1 ≥ a2) then
    some (a3, a3)
  else
    bif room (a3.length + 1) 16 then
      some ((a3 ++ ([(Span.mk a1 a2)] : List Span)), (a3 ++ ([(Span.mk a1 a2)] : List Span)))
    else none

/- sawmill/cutting.Cuts -/

def cutting_Cuts_k2 (a1 : Line) (a2 : List Piece) (x9 : Int) (rec_cutting_Cuts_L1 : (List Span) → (List Span) → Int → Int → Option (((List Span) × (List Span) × Int) ⊕ ((List Span) × (List Span) × Int))) (l20 : List Span) (l21 : List Span) : Option (((List Span) × (List Span) × Int) ⊕ ((List Span) × (List Span) × Int)) :=
  bif inb ((a2.getD x9.toNat default).Size) a1.Sizes.length then
    (cutting_behind a1 (w64 (((a2.getD x9.toNat default).At) + (a1.Sizes.getD ((a2.getD x9.toNat default).Size).toNat default)))).bind fun v23 =>
    (cutting_add_s1 (w64 (((a2.getD x9.toNat default).At) + (a1.Sizes.getD ((a2.getD x9.toNat default).Size).toNat default))) v23 l20).bind fun v25 =>
    rec_cutting_Cuts_L1 v25.2 l21 v23 (w64 (x9 + 1))
  else none

def cutting_Cuts_L1 (a1 : Line) (a2 : List Piece) : Nat → (List Span) → (List Span) → Int → Int → Option (((List Span) × (List Span) × Int) ⊕ ((List Span) × (List Span) × Int))
  | 0, _, _, _, _ => none
  | n + 1, l6, l7, x8, x9 =>
    bif decide (x9 < ((a2.length : Nat) : Int)) then
      bif inb x9 a2.length then
        (cutting_permitted a1 x8 (a2.getD x9.toNat default)).bind fun v12 =>
        bif v12 != 0 then
          some (Sum.inl (([] : List Span), ([] : List Span), v12))
        else
          bif decide (((a2.getD x9.toNat default).At) > x8) then
            (cutting_add_s1 x8 (w64 (((a2.getD x9.toNat default).At) - a1.Kerf)) l7).bind fun v16 =>
            (cutting_add_s1 (w64 (((a2.getD x9.toNat default).At) - a1.Kerf)) ((a2.getD x9.toNat default).At) l6).bind fun v18 =>
            cutting_Cuts_k2 a1 a2 x9 (cutting_Cuts_L1 a1 a2 n) v18.2 v16.2
          else
            cutting_Cuts_k2 a1 a2 x9 (cutting_Cuts_L1 a1 a2 n) l6 l7
      else none
    else
      some (Sum.inr (l6, l7, x8))

def cutting_Cuts_k3 (o30 : (List Span) × (List Span) × Int) (l37 : List Span) : Option ((List Span) × (List Span) × Int) :=
  some (o30.1, l37, 0)

def cutting_Cuts (a1 : Line) (a2 : List Piece) : Option ((List Span) × (List Span) × Int) :=
  (cutting_Check a1).bind fun v3 =>
  bif v3 != 0 then
    some (([] : List Span), ([] : List Span), v3)
  else
    (cutting_Cuts_L1 a1 a2 FUEL ([] : List Span) ([] : List Span) 0 0).bind fun u32 => Sum.elim (fun v33 => some v33) (fun o30 =>
    bif decide (o30.2.2 ≥ 0) then
      (cutting_add_s1 o30.2.2 a1.Len o30.2.1).bind fun v35 =>
      cutting_Cuts_k3 o30 v35.2
    else
      cutting_Cuts_k3 o30 o30.2.1) u32

/- sawmill/cutting.total -/

def cutting_total_L2 (a1 : List Int) (a2 : List Span) (x4 : Int) : Nat → Int → Int → Option Int
  | 0, _, _ => none
  | n + 1, x8, x9 =>
    bif decide (x9 < ((((a1.drop (((a2.getD x4.toNat default).A).toNat)).take (((a2.getD x4.toNat default).B).toNat - ((a2.getD x4.toNat default).A).toNat)).length : Nat) : Int)) then
      bif inb x9 (((a1.drop (((a2.getD x4.toNat default).A).toNat)).take (((a2.getD x4.toNat default).B).toNat - ((a2.getD x4.toNat default).A).toNat)).length) then
        (cutting_total_L2 a1 a2 x4 n) (w64 (x8 + (((a1.drop (((a2.getD x4.toNat default).A).toNat)).take (((a2.getD x4.toNat default).B).toNat - ((a2.getD x4.toNat default).A).toNat)).getD x9.toNat default))) (w64 (x9 + 1))
      else none
    else
      some x8

def cutting_total_L1 (a1 : List Int) (a2 : List Span) : Nat → Int → Int → Option Int
  | 0, _, _ => none
  | n + 1, x3, x4 =>
    bif decide (x4 < ((a2.length : Nat) : Int)) then
      bif inb x4 a2.length then
        bif slOk ((a2.getD x4.toNat default).A) ((a2.getD x4.toNat default).B) a1.length then
          (cutting_total_L2 a1 a2 x4 FUEL x3 0).bind fun o13 =>
          (cutting_total_L1 a1 a2 n) o13 (w64 (x4 + 1))
        else none
      else none
    else
      some x3

def cutting_total (a1 : List Int) (a2 : List Span) : Option Int :=
  (cutting_total_L1 a1 a2 FUEL 0 0).bind fun o16 =>
  some o16

/- sawmill/cutting.Value -/

def cutting_Value_L1 (a1 : Line) (a2 : List Piece) : Nat → Int → Int → Option Int
  | 0, _, _ => none
  | n + 1, x10, x11 =>
    bif decide (x11 < ((a2.length : Nat) : Int)) then
      bif inb x11 a2.length then
        bif inb ((a2.getD x11.toNat default).Size) a1.Gain.length then
          bif inb ((a2.getD x11.toNat default).At) ((a1.Gain.getD ((a2.getD x11.toNat default).Size).toNat default).length) then
            (cutting_Value_L1 a1 a2 n) (w64 (x10 + ((a1.Gain.getD ((a2.getD x11.toNat default).Size).toNat default).getD ((a2.getD x11.toNat default).At).toNat default))) (w64 (x11 + 1))
          else none
        else none
      else none
    else
      some x10

def cutting_Value (a1 : Line) (a2 : List Piece) : Option (Int × Int) :=
  (cutting_Cuts a1 a2).bind fun v3 =>
  bif v3.2.2 != 0 then
    some (0, v3.2.2)
  else
    (cutting_total a1.Dust v3.1).bind fun v6 =>
    (cutting_total a1.Chip v3.2.1).bind fun v8 =>
    (cutting_Value_L1 a1 a2 FUEL (w64 (v6 + v8)) 0).bind fun o17 =>
    some (o17, 0)

/- sawmill/sawmilllaw23.EdgeOptimal -/

def law23_EdgeOptimal_k2 (x22 : Bool) : Option Bool :=
  some x22

def law23_EdgeOptimal_k4 (x38 : Bool) : Option Bool :=
  some x38

def law23_EdgeOptimal_k3 (a2 : List Piece) (v10 : (List Node) × Int × Int) (v12 : Line × Int) (x28 : Bool) : Option Bool :=
  bif x28 then
    some false
  else
    (cutting_Value (Line.mk v12.1.Len v12.1.Kerf v12.1.Pitch v12.1.Sizes v12.1.Gain v12.1.Chip v12.1.Dust) a2).bind fun v30 =>
    bif v30.2 != 0 then
      (law23_awake).bind fun v33 =>
      law23_EdgeOptimal_k4 v33
    else
      bif decide (v30.1 ≤ v10.2.1) then
        (law23_awake).bind fun v36 =>
        law23_EdgeOptimal_k4 v36
      else
        law23_EdgeOptimal_k4 false

def law23_EdgeOptimal_k1 (a1 : Law23_Given) (a2 : List Piece) (x6 : Bool) : Option Bool :=
  bif x6 then
    (law23_awake).bind fun v8 =>
    some v8
  else
    (law23_best a1).bind fun v10 =>
    (law23_line a1).bind fun v12 =>
    bif v10.2.2 != 0 then
      bif v12.2 == v10.2.2 then
        (law23_awake).bind fun v16 =>
        law23_EdgeOptimal_k2 v16
      else
        bif v12.2 == 0 then
          bif v10.2.2 == 4 then
            (law23_awake).bind fun v20 =>
            law23_EdgeOptimal_k2 v20
          else
            law23_EdgeOptimal_k2 false
        else
          law23_EdgeOptimal_k2 false
    else
      (solid_Length a1.Solid).bind fun v23 =>
      (solid_Within a1.Solid (Box.mk a1.Strip.X a1.Strip.Y (Span.mk 0 v23))).bind fun v25 =>
      bif v12.2 != 0 then
        law23_EdgeOptimal_k3 a2 v10 v12 true
      else
        law23_EdgeOptimal_k3 a2 v10 v12 (decide (v10.2.1 < (w64 (a1.Rates.Chip * v25))))

def law23_EdgeOptimal (a1 : Law23_Given) (a2 : List Piece) : Option Bool :=
  (law23_Small a1).bind fun v3 =>
  bif !v3 then
    law23_EdgeOptimal_k1 a1 a2 true
  else
    law23_EdgeOptimal_k1 a1 a2 (decide (((a2.length : Nat) : Int) > 100))

end Saw
end Go.SL

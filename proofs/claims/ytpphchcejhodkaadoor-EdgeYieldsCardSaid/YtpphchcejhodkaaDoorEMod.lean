import Derived.Test.YtpphchcejhodkaaDoorYa6
set_option linter.unusedVariables false
set_option linter.unusedSimpArgs false
namespace Go.SL
namespace Saw
structure Piece where
 Size : Int
 At : Int
instance : Inhabited Piece := ⟨⟨0, 0⟩⟩
def yA (r : Piece) : List C := [ci r.Size, ci r.At]
structure Span where
 A : Int
 B : Int
instance : Inhabited Span := ⟨⟨0, 0⟩⟩
def e_Span (r : Span) : List C := [ci r.A, ci r.B]
structure qL where
 Low : Int
 Rows : List Span
instance : Inhabited qL := ⟨⟨0, []⟩⟩
def zJ (r : qL) : List C := [ci r.Low, tl e_Span default r.Rows]
structure qD where
 Len : Int
 Sec : qL
instance : Inhabited qD := ⟨⟨0, default⟩⟩
def qI (r : qD) : List C := [ci r.Len, ci r.Sec.Low, tl e_Span default r.Sec.Rows]
structure Box where
 X : Span
 Y : Span
 Z : Span
instance : Inhabited Box := ⟨⟨default, default, default⟩⟩
def QE (r : Box) : List C := [ci r.X.A, ci r.X.B, ci r.Y.A, ci r.Y.B, ci r.Z.A, ci r.Z.B]
structure Defect where
 Kind : Int
 Box : Box
instance : Inhabited Defect := ⟨⟨0, default⟩⟩
def qH (r : Defect) : List C := [ci r.Kind, ci r.Box.X.A, ci r.Box.X.B, ci r.Box.Y.A, ci r.Box.Y.B, ci r.Box.Z.A, ci r.Box.Z.B]
structure Product where
 Name : ByteArray
 Thick : Int
 Width : Int
 Allow : Int
 Wane : Int
 Lengths : List Int
 Prices : List Int
instance : Inhabited Product := ⟨⟨⟨#[]⟩, 0, 0, 0, 0, [], []⟩⟩
def qE (r : Product) : List C := [cs r.Name, ci r.Thick, ci r.Width, ci r.Allow, ci r.Wane, tl e_i64 default r.Lengths, tl e_i64 default r.Prices]
structure Rect where
 X : Span
 Y : Span
instance : Inhabited Rect := ⟨⟨default, default⟩⟩
def qK (r : Rect) : List C := [ci r.X.A, ci r.X.B, ci r.Y.A, ci r.Y.B]
structure Saw where
 Kerf : Int
 Trim : Int
 Pitch : Int
 Step : Int
instance : Inhabited Saw := ⟨⟨0, 0, 0, 0⟩⟩
def zL (r : Saw) : List C := [ci r.Kerf, ci r.Trim, ci r.Pitch, ci r.Step]
structure Rates where
 Chip : Int
 Dust : Int
 Fine : Int
instance : Inhabited Rates := ⟨⟨0, 0, 0⟩⟩
def zM (r : Rates) : List C := [ci r.Chip, ci r.Dust, ci r.Fine]
structure qP where
 Solid : List qD
 Defects : List Defect
 Products : List Product
 Strip : Rect
 Saw : Saw
 Rates : Rates
instance : Inhabited qP := ⟨⟨[], [], [], default, default, default⟩⟩
def zI (r : qP) : List C := [tl qI default r.Solid, tl qH default r.Defects, tl qE default r.Products, ci r.Strip.X.A, ci r.Strip.X.B, ci r.Strip.Y.A, ci r.Strip.Y.B, ci r.Saw.Kerf, ci r.Saw.Trim, ci r.Saw.Pitch, ci r.Saw.Step, ci r.Rates.Chip, ci r.Rates.Dust, ci r.Rates.Fine]
structure Worth_zone where
 z : Span
 lack : Int
instance : Inhabited Worth_zone := ⟨⟨default, 0⟩⟩
def qN (r : Worth_zone) : List C := [ci r.z.A, ci r.z.B, ci r.lack]
structure Worth_view where
 product : Product
 rect : Rect
 length : Int
 zones : List Worth_zone
 defects : List Defect
instance : Inhabited Worth_view := ⟨⟨default, default, 0, [], []⟩⟩
def GG (r : Worth_view) : List C := [cs r.product.Name, ci r.product.Thick, ci r.product.Width, ci r.product.Allow, ci r.product.Wane, tl e_i64 default r.product.Lengths, tl e_i64 default r.product.Prices, ci r.rect.X.A, ci r.rect.X.B, ci r.rect.Y.A, ci r.rect.Y.B, ci r.length, tl qN default r.zones, tl qH default r.defects]
structure Line where
 Len : Int
 Kerf : Int
 Pitch : Int
 Sizes : List Int
 Gain : List (List Int)
 Chip : List Int
 Dust : List Int
instance : Inhabited Line := ⟨⟨0, 0, 0, [], [], [], []⟩⟩
def zT (r : Line) : List C := [ci r.Len, ci r.Kerf, ci r.Pitch, tl e_i64 default r.Sizes, tl (qV e_i64) default r.Gain, tl e_i64 default r.Chip, tl e_i64 default r.Dust]
structure Cutting_choice where
 piece : Piece
 value : Int
instance : Inhabited Cutting_choice := ⟨⟨default, 0⟩⟩
def e_Cutting_choice (r : Cutting_choice) : List C := [ci r.piece.Size, ci r.piece.At, ci r.value]
structure Node where
 Kind : Int
 At : Int
instance : Inhabited Node := ⟨⟨0, 0⟩⟩
def e_Node (r : Node) : List C := [ci r.Kind, ci r.At]
structure qF where
 Frame : Rect
 Nodes : List Node
instance : Inhabited qF := ⟨⟨default, []⟩⟩
def qG (r : qF) : List C := [ci r.Frame.X.A, ci r.Frame.X.B, ci r.Frame.Y.A, ci r.Frame.Y.B, tl e_Node default r.Nodes]
structure Pattern_place where
 rect : Rect
 level : Int
instance : Inhabited Pattern_place := ⟨⟨default, 0⟩⟩
def e_Pattern_place (r : Pattern_place) : List C := [ci r.rect.X.A, ci r.rect.X.B, ci r.rect.Y.A, ci r.rect.Y.B, ci r.level]
structure Leaf where
 Rect : Rect
 Product : Int
instance : Inhabited Leaf := ⟨⟨default, 0⟩⟩
def qW (r : Leaf) : List C := [ci r.Rect.X.A, ci r.Rect.X.B, ci r.Rect.Y.A, ci r.Rect.Y.B, ci r.Product]
structure Yield_Cut where
 Leaf : Int
 Product : Int
 Box : Box
 Worth : Int
instance : Inhabited Yield_Cut := ⟨⟨0, 0, default, 0⟩⟩
def qT (r : Yield_Cut) : List C := [ci r.Leaf, ci r.Product, ci r.Box.X.A, ci r.Box.X.B, ci r.Box.Y.A, ci r.Box.Y.B, ci r.Box.Z.A, ci r.Box.Z.B, ci r.Worth]
structure Yield where
 Log : Int
 Boards : Int
 Chips : Int
 Dust : Int
 Value : Int
instance : Inhabited Yield := ⟨⟨0, 0, 0, 0, 0⟩⟩
def qD6 (r : Yield) : List C := [ci r.Log, ci r.Boards, ci r.Chips, ci r.Dust, ci r.Value]
def qFm : Piece := (Piece.mk (-1) (-1))
def globs : List (Nat × C) := [(0, .lptr (yA qFm))]
/- sawmill/sawmilllaw19.Short -/
def JY (x2 : Int) (rec_law19_Short_L1 : Int → Option (Bool ⊕ Unit)) (x8 : Bool) : Option (Bool ⊕ Unit) :=
 bif x8 then
 some (Sum.inl false)
 else
 rec_law19_Short_L1 (w64 (x2 + 1))
def zQ (a1 : List Product) : Nat → Int → Option (Bool ⊕ Unit)
 | 0, _ => none
 | n + 1, x2 =>
 bif decide (x2 < ((a1.length : Nat) : Int)) then
 bif decide (x2 ≥ 20) then
 JY x2 (zQ a1 n) true
 else
 bif inb x2 a1.length then
 bif decide (((((a1.getD x2.toNat default).Lengths).length : Nat) : Int) > 12) then
 JY x2 (zQ a1 n) true
 else
 bif decide (((((a1.getD x2.toNat default).Prices).length : Nat) : Int) > 12) then
 JY x2 (zQ a1 n) true
 else
 JY x2 (zQ a1 n) (decide (((((a1.getD x2.toNat default).Name).size : Nat) : Int) > 100))
 else none
 else
 some (Sum.inr ())
def BX (a1 : List Product) : Option Bool :=
 (zQ a1 FUEL 0).bind fun u12 => Sum.elim (fun v13 => some v13) (fun o10 =>
 some true) u12
/- sawmill/sawmillref10.beyond -/
def UN (x3 : Bool) : Option Bool :=
 some x3
def RF (a1 : Int) : Option Bool :=
 bif decide (a1 < (-600)) then
 UN true
 else
 UN (decide (a1 > 600))
/- sawmill/sawmillref10.empty -/
def UK (a1 : Span) : Option Bool :=
 some (decide (a1.A ≥ a1.B))
/- sawmill/sawmillref10.Check -/
def DK (x6 : Int) (rec_ref10_Check_L2 : Int → Option (Int ⊕ Unit)) (x14 : Bool) : Option (Int ⊕ Unit) :=
 bif x14 then
 some (Sum.inl 9)
 else
 rec_ref10_Check_L2 (w64 (x6 + 1))
def yE (a1 : qL) : Nat → Int → Option (Int ⊕ Unit)
 | 0, _ => none
 | n + 1, x6 =>
 bif decide (x6 < ((a1.Rows.length : Nat) : Int)) then
 bif inb x6 a1.Rows.length then
 (RF ((a1.Rows.getD x6.toNat default).A)).bind fun v9 =>
 bif v9 then
 DK x6 (yE a1 n) true
 else
 (RF ((a1.Rows.getD x6.toNat default).B)).bind fun v12 =>
 DK x6 (yE a1 n) v12
 else none
 else
 some (Sum.inr ())
def DX (x31 : Int) (rec_ref10_Check_L5 : Int → Option (Int ⊕ Unit)) (x37 : Bool) : Option (Int ⊕ Unit) :=
 bif x37 then
 some (Sum.inl 19)
 else
 rec_ref10_Check_L5 (w64 (x31 + 1))
def jV (a1 : qL) : Nat → Int → Option (Int ⊕ Unit)
 | 0, _ => none
 | n + 1, x31 =>
 bif decide (x31 < ((a1.Rows.length : Nat) : Int)) then
 bif inb x31 a1.Rows.length then
 (UK (a1.Rows.getD x31.toNat default)).bind fun v34 =>
 bif v34 then
 DX x31 (jV a1 n) (!((((a1.Rows.getD x31.toNat default).A) == 0) && ((((a1.Rows.getD x31.toNat default).B) == 0) && true)))
 else
 DX x31 (jV a1 n) false
 else none
 else
 some (Sum.inr ())
def BD (a1 : qL) (x29 : Bool) : Option Int :=
 bif x29 then
 some 19
 else
 (jV a1 FUEL 0).bind fun u41 => Sum.elim (fun v42 => some v42) (fun o39 =>
 some 0) u41
def DU (a1 : qL) (x4 : Bool) : Option Int :=
 bif x4 then
 some 9
 else
 (yE a1 FUEL 0).bind fun u18 => Sum.elim (fun v19 => some v19) (fun o16 =>
 bif ((a1.Rows.length : Nat) : Int) == 0 then
 bif a1.Low != 0 then
 some 19
 else
 some 0
 else
 bif inb 0 a1.Rows.length then
 (UK (a1.Rows.getD (0 : Int).toNat default)).bind fun v23 =>
 bif v23 then
 BD a1 true
 else
 bif inb (w64 (((a1.Rows.length : Nat) : Int) - 1)) a1.Rows.length then
 (UK (a1.Rows.getD (w64 (((a1.Rows.length : Nat) : Int) - 1)).toNat default)).bind fun v27 =>
 BD a1 v27
 else none
 else none) u18
def NE (a1 : qL) : Option Int :=
 bif decide (((a1.Rows.length : Nat) : Int) > 120) then
 some 4
 else
 bif decide (a1.Low < (-60)) then
 DU a1 true
 else
 DU a1 (decide (a1.Low > (w64 (60 - ((a1.Rows.length : Nat) : Int)))))
/- sawmill/sawmillref11.Check -/
def DS (a1 : List qD) (x4 : Int) (x5 : Int) (rec_ref11_Check_L1 : Int → Int → Option (Int ⊕ Unit)) (x13 : Bool) : Option (Int ⊕ Unit) :=
 bif x13 then
 some (Sum.inl 9)
 else
 rec_ref11_Check_L1 (w64 (x4 + ((a1.getD x5.toNat default).Len))) (w64 (x5 + 1))
def jY (a1 : List qD) : Nat → Int → Int → Option (Int ⊕ Unit)
 | 0, _, _ => none
 | n + 1, x4, x5 =>
 bif decide (x5 < ((a1.length : Nat) : Int)) then
 bif inb x5 a1.length then
 (NE ((a1.getD x5.toNat default).Sec)).bind fun v8 =>
 bif v8 != 0 then
 some (Sum.inl v8)
 else
 bif (((((a1.getD x5.toNat default).Sec).Rows).length : Nat) : Int) == 0 then
 some (Sum.inl 18)
 else
 bif decide (((a1.getD x5.toNat default).Len) < 1) then
 DS a1 x4 x5 (jY a1 n) true
 else
 DS a1 x4 x5 (jY a1 n) (decide (((a1.getD x5.toNat default).Len) > (w64 (20000 - x4))))
 else none
 else
 some (Sum.inr ())
def BY (a1 : List qD) : Option Int :=
 bif ((a1.length : Nat) : Int) == 0 then
 some 3
 else
 bif decide (((a1.length : Nat) : Int) > 24) then
 some 4
 else
 (jY a1 FUEL 0 0).bind fun u17 => Sum.elim (fun v18 => some v18) (fun o15 =>
 some 0) u17
/- sawmill/sawmillref11.Length -/
def QU (a1 : List qD) : Nat → Int → Int → Option Int
 | 0, _, _ => none
 | n + 1, x5, x6 =>
 bif decide (x6 < ((a1.length : Nat) : Int)) then
 bif inb x6 a1.length then
 (QU a1 n) (w64 (x5 + ((a1.getD x6.toNat default).Len))) (w64 (x6 + 1))
 else none
 else
 some x5
def VO (a1 : List qD) : Option Int :=
 (BY a1).bind fun v2 =>
 bif v2 != 0 then
 some 0
 else
 (QU a1 FUEL 0 0).bind fun o10 =>
 some o10
/- sawmill/sawmilllaw23.Small -/
def ZU (a1 : qP) : Nat → Int → Option (Bool ⊕ Unit)
 | 0, _ => none
 | n + 1, x9 =>
 bif decide (x9 < ((a1.Solid.length : Nat) : Int)) then
 bif inb x9 a1.Solid.length then
 bif decide ((((((a1.Solid.getD x9.toNat default).Sec).Rows).length : Nat) : Int) > 130) then
 some (Sum.inl false)
 else
 (ZU a1 n) (w64 (x9 + 1))
 else none
 else
 some (Sum.inr ())
def ZT (a1 : qP) : Nat → Int → Option (Bool ⊕ Unit)
 | 0, _ => none
 | n + 1, x17 =>
 bif decide (x17 < ((a1.Products.length : Nat) : Int)) then
 bif inb x17 a1.Products.length then
 bif decide (((((a1.Products.getD x17.toNat default).Lengths).length : Nat) : Int) > 4) then
 some (Sum.inl false)
 else
 (ZT a1 n) (w64 (x17 + 1))
 else none
 else
 some (Sum.inr ())
def yG (a1 : qP) (x30 : Bool) : Option Bool :=
 bif x30 then
 some false
 else
 (VO a1.Solid).bind fun v32 =>
 some (decide ((w64 (Int.tdiv v32 12)) ≤ a1.Saw.Step))
def JW (a1 : qP) (x7 : Bool) : Option Bool :=
 bif x7 then
 some false
 else
 (ZU a1 FUEL 0).bind fun u15 => Sum.elim (fun v16 => some v16) (fun o13 =>
 (ZT a1 FUEL 0).bind fun u23 => Sum.elim (fun v24 => some v24) (fun o21 =>
 bif decide (a1.Saw.Pitch < 5) then
 yG a1 true
 else
 bif decide (a1.Saw.Step < 1) then
 yG a1 true
 else
 bif decide (a1.Strip.X.A < (-1000)) then
 yG a1 true
 else
 bif decide (a1.Strip.X.B > 1000) then
 yG a1 true
 else
 bif decide (a1.Strip.X.B > a1.Strip.X.A) then
 yG a1 (decide ((w64 (a1.Strip.X.B - a1.Strip.X.A)) > 300))
 else
 yG a1 false) u23) u15
def BW (a1 : qP) : Option Bool :=
 bif decide (((a1.Solid.length : Nat) : Int) > 6) then
 JW a1 true
 else
 bif decide (((a1.Defects.length : Nat) : Int) > 70) then
 JW a1 true
 else
 bif decide (((a1.Products.length : Nat) : Int) > 4) then
 JW a1 true
 else
 (BX a1.Products).bind fun v5 =>
 JW a1 (!v5)
/- sawmill/sawmilllaw19.Plank -/
def qBf : Option Product :=
 some (Product.mk (ByteArray.mk #[112, 108, 97, 110, 107]) 40 100 50 0 ([2000] : List Int) ([70] : List Int))
/- sawmill/sawmilllaw23.sample -/
def MV : Nat → Int → (List Span) → Option (List Span)
 | 0, _, _ => none
 | n + 1, x1, l2 =>
 bif decide (x1 < 20) then
 bif room (l2.length + 1) 16 then
 (MV n) (w64 (x1 + 1)) (l2 ++ ([(Span.mk (-100) 100)] : List Span))
 else none
 else
 some l2
def CU : Option qP :=
 (MV FUEL 0 ([] : List Span)).bind fun o6 =>
 (qBf).bind fun v10 =>
 some (qP.mk ([(qD.mk 3000 (qL.mk (-10) o6))] : List qD) ([] : List Defect) ([v10] : List Product) (Rect.mk (Span.mk (-100) 10) (Span.mk 0 42)) (Saw.mk 4 5 5 500) (Rates.mk 0 0 0))
/- sawmill/section.inRange -/
def KI (x3 : Bool) : Option Bool :=
 some x3
def XV (a1 : Span) : Option Bool :=
 bif decide ((imin a1.A a1.B) ≥ (-600)) then
 KI (decide ((imax a1.A a1.B) ≤ 600))
 else
 KI false
/- sawmill/section.isEmpty -/
def WT (a1 : Span) : Option Bool :=
 some (decide (a1.A ≥ a1.B))
/- sawmill/section.Check -/
def yV (a1 : qL) : Nat → Int → Option (Int ⊕ Unit)
 | 0, _ => none
 | n + 1, x6 =>
 bif decide (x6 < ((a1.Rows.length : Nat) : Int)) then
 bif inb x6 a1.Rows.length then
 (XV (a1.Rows.getD x6.toNat default)).bind fun v9 =>
 bif !v9 then
 some (Sum.inl 9)
 else
 (yV a1 n) (w64 (x6 + 1))
 else none
 else
 some (Sum.inr ())
def TA (x27 : Int) (rec_section_Check_L4 : Int → Option (Int ⊕ Unit)) (x33 : Bool) : Option (Int ⊕ Unit) :=
 bif x33 then
 some (Sum.inl 19)
 else
 rec_section_Check_L4 (w64 (x27 + 1))
def wY (a1 : qL) : Nat → Int → Option (Int ⊕ Unit)
 | 0, _ => none
 | n + 1, x27 =>
 bif decide (x27 < ((a1.Rows.length : Nat) : Int)) then
 bif inb x27 a1.Rows.length then
 (WT (a1.Rows.getD x27.toNat default)).bind fun v30 =>
 bif v30 then
 TA x27 (wY a1 n) (!((((a1.Rows.getD x27.toNat default).A) == 0) && ((((a1.Rows.getD x27.toNat default).B) == 0) && true)))
 else
 TA x27 (wY a1 n) false
 else none
 else
 some (Sum.inr ())
def RV (a1 : qL) (x25 : Bool) : Option Int :=
 bif x25 then
 some 19
 else
 (wY a1 FUEL 0).bind fun u37 => Sum.elim (fun v38 => some v38) (fun o35 =>
 some 0) u37
def RU (a1 : qL) (x4 : Bool) : Option Int :=
 bif x4 then
 some 9
 else
 (yV a1 FUEL 0).bind fun u14 => Sum.elim (fun v15 => some v15) (fun o12 =>
 bif ((a1.Rows.length : Nat) : Int) == 0 then
 bif a1.Low != 0 then
 some 19
 else
 some 0
 else
 bif inb 0 a1.Rows.length then
 (WT (a1.Rows.getD (0 : Int).toNat default)).bind fun v19 =>
 bif v19 then
 RV a1 true
 else
 bif inb (w64 (((a1.Rows.length : Nat) : Int) - 1)) a1.Rows.length then
 (WT (a1.Rows.getD (w64 (((a1.Rows.length : Nat) : Int) - 1)).toNat default)).bind fun v23 =>
 RV a1 v23
 else none
 else none) u14
def XF (a1 : qL) : Option Int :=
 bif decide (((a1.Rows.length : Nat) : Int) > 120) then
 some 4
 else
 bif decide (a1.Low < (-60)) then
 RU a1 true
 else
 RU a1 (decide (a1.Low > (w64 (60 - ((a1.Rows.length : Nat) : Int)))))
/- sawmill/solid.Check -/
def DY (a1 : List qD) (x4 : Int) (x5 : Int) (rec_solid_Check_L1 : Int → Int → Option (Int ⊕ Unit)) (x13 : Bool) : Option (Int ⊕ Unit) :=
 bif x13 then
 some (Sum.inl 9)
 else
 rec_solid_Check_L1 (w64 (x4 + ((a1.getD x5.toNat default).Len))) (w64 (x5 + 1))
def jT (a1 : List qD) : Nat → Int → Int → Option (Int ⊕ Unit)
 | 0, _, _ => none
 | n + 1, x4, x5 =>
 bif decide (x5 < ((a1.length : Nat) : Int)) then
 bif inb x5 a1.length then
 (XF ((a1.getD x5.toNat default).Sec)).bind fun v8 =>
 bif v8 != 0 then
 some (Sum.inl v8)
 else
 bif (((((a1.getD x5.toNat default).Sec).Rows).length : Nat) : Int) == 0 then
 some (Sum.inl 18)
 else
 bif decide (((a1.getD x5.toNat default).Len) < 1) then
 DY a1 x4 x5 (jT a1 n) true
 else
 DY a1 x4 x5 (jT a1 n) (decide (((a1.getD x5.toNat default).Len) > (w64 (20000 - x4))))
 else none
 else
 some (Sum.inr ())
def JM (a1 : List qD) : Option Int :=
 bif ((a1.length : Nat) : Int) == 0 then
 some 3
 else
 bif decide (((a1.length : Nat) : Int) > 24) then
 some 4
 else
 (jT a1 FUEL 0 0).bind fun u17 => Sum.elim (fun v18 => some v18) (fun o15 =>
 some 0) u17
/- sawmill/defect.isEmpty -/
def jX (a1 : Span) : Option Bool :=
 some (decide (a1.A ≥ a1.B))
/- sawmill/defect.inside -/
def RW (x5 : Bool) : Option Bool :=
 some x5
def WY (a1 : Span) (a2 : Int) (a3 : Int) : Option Bool :=
 bif decide ((imin a1.A a1.B) ≥ a2) then
 RW (decide ((imax a1.A a1.B) ≤ a3))
 else
 RW false
/- sawmill/defect.check -/
def KO (x23 : Bool) : Option Int :=
 bif x23 then
 some 9
 else
 some 0
def KH (a1 : Defect) (x13 : Bool) : Option Int :=
 bif x13 then
 some 19
 else
 (WY a1.Box.X (-600) 600).bind fun v15 =>
 bif !v15 then
 KO true
 else
 (WY a1.Box.Y (-600) 600).bind fun v18 =>
 bif !v18 then
 KO true
 else
 (WY a1.Box.Z 0 20000).bind fun v21 =>
 KO (!v21)
def UQ (a1 : Defect) (x3 : Bool) : Option Int :=
 bif x3 then
 some 10
 else
 (jX a1.Box.X).bind fun v5 =>
 bif v5 then
 KH a1 true
 else
 (jX a1.Box.Y).bind fun v8 =>
 bif v8 then
 KH a1 true
 else
 (jX a1.Box.Z).bind fun v11 =>
 KH a1 v11
def VQ (a1 : Defect) : Option Int :=
 bif decide (a1.Kind < 1) then
 UQ a1 true
 else
 UQ a1 (decide (a1.Kind > 6))
/- sawmill/defect.Check -/
def QH (a1 : List Defect) : Nat → Int → Option (Int ⊕ Unit)
 | 0, _ => none
 | n + 1, x3 =>
 bif decide (x3 < ((a1.length : Nat) : Int)) then
 bif inb x3 a1.length then
 (VQ (a1.getD x3.toNat default)).bind fun v6 =>
 bif v6 != 0 then
 some (Sum.inl v6)
 else
 (QH a1 n) (w64 (x3 + 1))
 else none
 else
 some (Sum.inr ())
def YK (a1 : List Defect) : Option Int :=
 bif decide (((a1.length : Nat) : Int) > 64) then
 some 4
 else
 (QH a1 FUEL 0).bind fun u11 => Sum.elim (fun v12 => some v12) (fun o9 =>
 some 0) u11
/- sawmill/ident.isSmall -/
def RQ (x3 : Bool) : Option Bool :=
 some x3
def XG (a1 : Int) : Option Bool :=
 bif decide (97 ≤ a1) then
 RQ (decide (a1 ≤ 122))
 else
 RQ false
/- sawmill/ident.isDigit -/
def TG (x3 : Bool) : Option Bool :=
 some x3
def TV (a1 : Int) : Option Bool :=
 bif decide (48 ≤ a1) then
 TG (decide (a1 ≤ 57))
 else
 TG false
/- sawmill/ident.IsName -/
def KF (x9 : Int) (rec_ident_IsName_L2 : Int → Option (Bool ⊕ Unit)) (x18 : Bool) : Option (Bool ⊕ Unit) :=
 bif x18 then
 some (Sum.inl false)
 else
 rec_ident_IsName_L2 (w64 (x9 + 1))
def wT (a1 : ByteArray) : Nat → Int → Option (Bool ⊕ Unit)
 | 0, _ => none
 | n + 1, x9 =>
 bif decide (x9 < ((a1.size : Nat) : Int)) then
 bif inb x9 a1.size then
 (XG (strAt a1 x9.toNat)).bind fun v12 =>
 bif !v12 then
 (TV (strAt a1 x9.toNat)).bind fun v15 =>
 bif !v15 then
 KF x9 (wT a1 n) ((strAt a1 x9.toNat) != 95)
 else
 KF x9 (wT a1 n) false
 else
 KF x9 (wT a1 n) false
 else none
 else
 some (Sum.inr ())
def XZ (a1 : ByteArray) (x7 : Bool) : Option Bool :=
 bif x7 then
 some false
 else
 (wT a1 FUEL 1).bind fun u22 => Sum.elim (fun v23 => some v23) (fun o20 =>
 some true) u22
def DG (a1 : ByteArray) : Option Bool :=
 bif decide (((a1.size : Nat) : Int) < 1) then
 XZ a1 true
 else
 bif decide (((a1.size : Nat) : Int) > 16) then
 XZ a1 true
 else
 bif inb 0 a1.size then
 (XG (strAt a1 ((0 : Int).toNat))).bind fun v5 =>
 XZ a1 (!v5)
 else none
/- sawmill/product.Find -/
def QN (a1 : List Product) (a2 : ByteArray) : Nat → Int → Option ((Int × Bool) ⊕ Unit)
 | 0, _ => none
 | n + 1, x3 =>
 bif decide (x3 < ((a1.length : Nat) : Int)) then
 bif inb x3 a1.length then
 bif strEq ((a1.getD x3.toNat default).Name) a2 then
 some (Sum.inl (x3, true))
 else
 (QN a1 a2 n) (w64 (x3 + 1))
 else none
 else
 some (Sum.inr ())
def DC (a1 : List Product) (a2 : ByteArray) : Option (Int × Bool) :=
 (QN a1 a2 FUEL 0).bind fun u9 => Sum.elim (fun v10 => some v10) (fun o7 =>
 some (0, false)) u9
/- sawmill/product.isSize -/
def PB (x3 : Bool) : Option Bool :=
 some x3
def JZ (a1 : Int) : Option Bool :=
 bif decide (a1 ≥ 1) then
 PB (decide (a1 ≤ 600))
 else
 PB false
/- sawmill/product.grow -/
def GC (a1 : Int) (a2 : Int) : Option Int :=
 some (w64 (Int.tdiv (w64 ((w64 (a1 * (w64 (1000 + a2)))) + 999)) 1000))
/- sawmill/product.Green -/
def ZR (a1 : Product) (x9 : Bool) : Option (Int × Int) :=
 bif x9 then
 some (0, 0)
 else
 (GC a1.Thick a1.Allow).bind fun v11 =>
 (GC a1.Width a1.Allow).bind fun v13 =>
 some (v11, v13)
def ZB (a1 : Product) : Option (Int × Int) :=
 (JZ a1.Thick).bind fun v2 =>
 bif !v2 then
 ZR a1 true
 else
 (JZ a1.Width).bind fun v5 =>
 bif !v5 then
 ZR a1 true
 else
 bif decide (a1.Allow < 0) then
 ZR a1 true
 else
 ZR a1 (decide (a1.Allow > 200))
/- sawmill/product.checkNumbers -/
def ZD (x18 : Int) (rec_product_checkNumbers_L3 : Int → Option (Int ⊕ Unit)) (x26 : Bool) : Option (Int ⊕ Unit) :=
 bif x26 then
 some (Sum.inl 11)
 else
 rec_product_checkNumbers_L3 (w64 (x18 + 1))
def ZE (a1 : Product) (x18 : Int) (rec_product_checkNumbers_L3 : Int → Option (Int ⊕ Unit)) (x22 : Bool) : Option (Int ⊕ Unit) :=
 bif x22 then
 some (Sum.inl 9)
 else
 bif decide (x18 > 0) then
 bif inb (w64 (x18 - 1)) a1.Lengths.length then
 ZD x18 rec_product_checkNumbers_L3 (decide ((a1.Lengths.getD x18.toNat default) ≤ (a1.Lengths.getD (w64 (x18 - 1)).toNat default)))
 else none
 else
 ZD x18 rec_product_checkNumbers_L3 false
def zE (a1 : Product) : Nat → Int → Option (Int ⊕ Unit)
 | 0, _ => none
 | n + 1, x18 =>
 bif decide (x18 < ((a1.Lengths.length : Nat) : Int)) then
 bif inb x18 a1.Lengths.length then
 bif decide ((a1.Lengths.getD x18.toNat default) < 100) then
 ZE a1 x18 (zE a1 n) true
 else
 ZE a1 x18 (zE a1 n) (decide ((a1.Lengths.getD x18.toNat default) > 20000))
 else none
 else
 some (Sum.inr ())
def ZG (x32 : Int) (rec_product_checkNumbers_L6 : Int → Option (Int ⊕ Unit)) (x36 : Bool) : Option (Int ⊕ Unit) :=
 bif x36 then
 some (Sum.inl 9)
 else
 rec_product_checkNumbers_L6 (w64 (x32 + 1))
def zN (a1 : Product) : Nat → Int → Option (Int ⊕ Unit)
 | 0, _ => none
 | n + 1, x32 =>
 bif decide (x32 < ((a1.Prices.length : Nat) : Int)) then
 bif inb x32 a1.Prices.length then
 bif decide ((a1.Prices.getD x32.toNat default) < 0) then
 ZG x32 (zN a1 n) true
 else
 ZG x32 (zN a1 n) (decide ((a1.Prices.getD x32.toNat default) > 1000000))
 else none
 else
 some (Sum.inr ())
def wU (a1 : Product) (x10 : Bool) : Option Int :=
 bif x10 then
 some 9
 else
 (ZB a1).bind fun v12 =>
 bif decide (v12.2 > 600) then
 some 9
 else
 bif ((a1.Lengths.length : Nat) : Int) == 0 then
 some 3
 else
 bif decide (((a1.Lengths.length : Nat) : Int) > 8) then
 some 4
 else
 bif ((a1.Prices.length : Nat) : Int) != ((a1.Lengths.length : Nat) : Int) then
 some 19
 else
 (zE a1 FUEL 0).bind fun u30 => Sum.elim (fun v31 => some v31) (fun o28 =>
 (zN a1 FUEL 0).bind fun u40 => Sum.elim (fun v41 => some v41) (fun o38 =>
 some 0) u40) u30
def wV (a1 : Product) (x5 : Bool) : Option Int :=
 bif x5 then
 some 9
 else
 bif decide (a1.Allow < 0) then
 wU a1 true
 else
 bif decide (a1.Allow > 200) then
 wU a1 true
 else
 bif decide (a1.Wane < 0) then
 wU a1 true
 else
 wU a1 (decide (a1.Wane > 1000))
def QO (a1 : Product) : Option Int :=
 bif decide (a1.Thick < 5) then
 wV a1 true
 else
 bif decide (a1.Thick > 300) then
 wV a1 true
 else
 bif decide (a1.Width < a1.Thick) then
 wV a1 true
 else
 wV a1 (decide (a1.Width > 600))
/- sawmill/product.Check -/
def yU (a1 : List Product) : Nat → Int → Option (Int ⊕ Unit)
 | 0, _ => none
 | n + 1, x3 =>
 bif decide (x3 < ((a1.length : Nat) : Int)) then
 bif inb x3 a1.length then
 (DG ((a1.getD x3.toNat default).Name)).bind fun v6 =>
 bif !v6 then
 some (Sum.inl 6)
 else
 bif slOk 0 x3 a1.length then
 (DC (a1.take x3.toNat) ((a1.getD x3.toNat default).Name)).bind fun v10 =>
 bif v10.2 then
 some (Sum.inl 7)
 else
 (QO (a1.getD x3.toNat default)).bind fun v13 =>
 bif v13 != 0 then
 some (Sum.inl v13)
 else
 (yU a1 n) (w64 (x3 + 1))
 else none
 else none
 else
 some (Sum.inr ())
def QZ (a1 : List Product) : Option Int :=
 bif decide (((a1.length : Nat) : Int) > 16) then
 some 4
 else
 (yU a1 FUEL 0).bind fun u18 => Sum.elim (fun v19 => some v19) (fun o16 =>
 some 0) u18
/- sawmill/worth.isStep -/
def VB (x3 : Bool) : Option Bool :=
 some x3
def PW (a1 : Int) : Option Bool :=
 bif decide (a1 ≥ 1) then
 VB (decide (a1 ≤ 20000))
 else
 VB false
/- sawmill/worth.isFine -/
def VI (x3 : Bool) : Option Bool :=
 some x3
def RC (a1 : Int) : Option Bool :=
 bif decide (a1 ≥ 0) then
 VI (decide (a1 ≤ 1000000))
 else
 VI false
/- sawmill/worth.Check -/
def ZN (x20 : Bool) : Option Int :=
 bif x20 then
 some 9
 else
 some 0
def PO (a2 : Rates) (x12 : Bool) : Option Int :=
 bif x12 then
 some 9
 else
 bif decide (a2.Chip < 0) then
 ZN true
 else
 bif decide (a2.Chip > 1000) then
 ZN true
 else
 bif decide (a2.Dust < 0) then
 ZN true
 else
 bif decide (a2.Dust > 1000) then
 ZN true
 else
 (RC a2.Fine).bind fun v18 =>
 ZN (!v18)
def JR (a1 : Saw) (a2 : Rates) (x6 : Bool) : Option Int :=
 bif x6 then
 some 9
 else
 bif decide (a1.Pitch < 1) then
 PO a2 true
 else
 bif decide (a1.Pitch > 2000) then
 PO a2 true
 else
 (PW a1.Step).bind fun v10 =>
 PO a2 (!v10)
def UL (a1 : Saw) (a2 : Rates) : Option Int :=
 bif decide (a1.Kerf < 0) then
 JR a1 a2 true
 else
 bif decide (a1.Kerf > 20) then
 JR a1 a2 true
 else
 bif decide (a1.Trim < 0) then
 JR a1 a2 true
 else
 JR a1 a2 (decide (a1.Trim > 20))
/- sawmill/edge.check -/
def NU (x22 : Int) (rec_edge_check_L2 : Int → Option (Int ⊕ Unit)) (x26 : Bool) : Option (Int ⊕ Unit) :=
 bif x26 then
 some (Sum.inl 9)
 else
 rec_edge_check_L2 (w64 (x22 + 1))
def yR (a4 : Rect) : Nat → Int → Option (Int ⊕ Unit)
 | 0, _ => none
 | n + 1, x22 =>
 bif decide (x22 < 4) then
 bif inb x22 4 then
 bif decide ((([a4.X.A, a4.X.B, a4.Y.A, a4.Y.B] : List Int).getD x22.toNat 0) < (-600)) then
 NU x22 (yR a4 n) true
 else
 NU x22 (yR a4 n) (decide ((([a4.X.A, a4.X.B, a4.Y.A, a4.Y.B] : List Int).getD x22.toNat 0) > 600))
 else none
 else
 some (Sum.inr ())
def NO (a4 : Rect) (x20 : Bool) : Option Int :=
 bif x20 then
 some 19
 else
 (yR a4 FUEL 0).bind fun u30 => Sum.elim (fun v31 => some v31) (fun o28 =>
 some 0) u30
def MH (a1 : List qD) (a2 : List Defect) (a3 : List Product) (a4 : Rect) (a5 : Saw) (a6 : Rates) : Option Int :=
 (JM a1).bind fun v7 =>
 bif v7 != 0 then
 some v7
 else
 (YK a2).bind fun v10 =>
 bif v10 != 0 then
 some v10
 else
 (QZ a3).bind fun v13 =>
 bif v13 != 0 then
 some v13
 else
 (UL a5 a6).bind fun v16 =>
 bif v16 != 0 then
 some v16
 else
 bif decide (a4.X.A ≥ a4.X.B) then
 NO a4 true
 else
 NO a4 (decide (a4.Y.A ≥ a4.Y.B))
/- sawmill/edge.Sizes -/
def NT (x8 : Int) (rec_edge_Sizes_L1 : (List Int) → (List Int) → Int → Option ((List Int) × (List Int))) (l19 : List Int) (l20 : List Int) : Option ((List Int) × (List Int)) :=
 rec_edge_Sizes_L1 l19 l20 (w64 (x8 + 1))
def NL (l7 : List Int) (x8 : Int) (rec_edge_Sizes_L1 : (List Int) → (List Int) → Int → Option ((List Int) × (List Int))) (l17 : List Int) : Option ((List Int) × (List Int)) :=
 bif room (l7.length + 1) 8 then
 NT x8 rec_edge_Sizes_L1 l17 (l7 ++ ([x8] : List Int))
 else none
def jC (a1 : List Product) (a2 : Int) : Nat → (List Int) → (List Int) → Int → Option ((List Int) × (List Int))
 | 0, _, _, _ => none
 | n + 1, l6, l7, x8 =>
 bif decide (x8 < ((a1.length : Nat) : Int)) then
 bif inb x8 a1.length then
 (ZB (a1.getD x8.toNat default)).bind fun v11 =>
 bif a2 == v11.1 then
 bif room (l6.length + 1) 8 then
 NL l7 x8 (jC a1 a2 n) (l6 ++ ([v11.2] : List Int))
 else none
 else
 bif a2 == v11.2 then
 bif room (l6.length + 1) 8 then
 NL l7 x8 (jC a1 a2 n) (l6 ++ ([v11.1] : List Int))
 else none
 else
 NT x8 (jC a1 a2 n) l6 l7
 else none
 else
 some (l6, l7)
def TF (a1 : List Product) (a2 : Int) : Option ((List Int) × (List Int)) :=
 (QZ a1).bind fun v3 =>
 bif v3 != 0 then
 some (([] : List Int), ([] : List Int))
 else
 (jC a1 a2 FUEL ([] : List Int) ([] : List Int) 0).bind fun o23 =>
 some (o23.1, o23.2)
/- sawmill/edge.part -/
def DJ (a1 : Rect) (a2 : Int) (a3 : Int) : Option Rect :=
 some (Rect.mk (Span.mk (w64 (a1.X.A + a2)) (w64 (a1.X.A + a3))) a1.Y)
/- sawmill/worth.isRect -/
def yL (x2 : Int) (rec_worth_isRect_L1 : Int → Option (Bool ⊕ Unit)) (x7 : Bool) : Option (Bool ⊕ Unit) :=
 bif x7 then
 some (Sum.inl false)
 else
 rec_worth_isRect_L1 (w64 (x2 + 1))
def zX (a1 : Rect) : Nat → Int → Option (Bool ⊕ Unit)
 | 0, _ => none
 | n + 1, x2 =>
 bif decide (x2 < 2) then
 bif inb x2 2 then
 bif decide ((([a1.X.A, a1.X.B, a1.Y.A, a1.Y.B] : List Int).getD (x2.toNat * 2 + 0) 0) < (-600)) then
 yL x2 (zX a1 n) true
 else
 bif decide ((([a1.X.A, a1.X.B, a1.Y.A, a1.Y.B] : List Int).getD (x2.toNat * 2 + 1) 0) > 600) then
 yL x2 (zX a1 n) true
 else
 yL x2 (zX a1 n) (decide ((([a1.X.A, a1.X.B, a1.Y.A, a1.Y.B] : List Int).getD (x2.toNat * 2 + 0) 0) ≥ (([a1.X.A, a1.X.B, a1.Y.A, a1.Y.B] : List Int).getD (x2.toNat * 2 + 1) 0)))
 else none
 else
 some (Sum.inr ())
def GB (a1 : Rect) : Option Bool :=
 (zX a1 FUEL 0).bind fun u11 => Sum.elim (fun v12 => some v12) (fun o9 =>
 some true) u11
/- sawmill/solid.valid -/
def KU (a1 : List qD) : Option (List qD) :=
 (JM a1).bind fun v2 =>
 bif v2 != 0 then
 some ([] : List qD)
 else
 some a1
/- sawmill/solid.Length -/
def QG (v2 : (List qD)) : Nat → Int → Int → Option Int
 | 0, _, _ => none
 | n + 1, x4, x5 =>
 bif decide (x5 < ((v2.length : Nat) : Int)) then
 bif inb x5 v2.length then
 (QG v2 n) (w64 (x4 + ((v2.getD x5.toNat default).Len))) (w64 (x5 + 1))
 else none
 else
 some x4
def QT (a1 : List qD) : Option Int :=
 (KU a1).bind fun v2 =>
 (QG v2 FUEL 0 0).bind fun o9 =>
 some o9
/- sawmill/section.valid -/
def XK (a1 : qL) : Option qL :=
 (XF a1).bind fun v2 =>
 bif v2 != 0 then
 some (qL.mk 0 ([] : List Span))
 else
 some a1
/- sawmill/section.heights -/
def KK (a1 : Int) (a2 : Int) : Option Span :=
 some (Span.mk (w64 (10 * a1)) (w64 (10 * a2)))
/- sawmill/span.Meet -/
def JO (a1 : Span) (a2 : Span) : Option Span :=
 bif decide ((imax a1.A a2.A) ≥ (imin a1.B a2.B)) then
 some (Span.mk 0 0)
 else
 some (Span.mk (imax a1.A a2.A) (imin a1.B a2.B))
/- sawmill/span.size -/
def qA8 (a1 : Span) : Option Int :=
 bif decide (a1.A ≥ a1.B) then
 some 0
 else
 some (IntKind.u64.wrap ((IntKind.u64.wrap (a1.B)) - (IntKind.u64.wrap (a1.A))))
/- sawmill/span.limited -/
def HA (a1 : Int) : Option Int :=
 some (w64 (imin a1 9223372036854775807))
/- sawmill/span.Len -/
def WX (a1 : Span) : Option Int :=
 (qA8 a1).bind fun v2 =>
 (HA v2).bind fun v4 =>
 some v4
/- sawmill/section.Within -/
def QW (a2 : Rect) (v3 : qL) : Nat → Int → Int → Option Int
 | 0, _, _ => none
 | n + 1, x5, x6 =>
 bif decide (x6 < ((v3.Rows.length : Nat) : Int)) then
 bif inb x6 v3.Rows.length then
 (KK (w64 (v3.Low + x6)) (w64 ((w64 (v3.Low + x6)) + 1))).bind fun v9 =>
 (JO (v3.Rows.getD x6.toNat default) a2.X).bind fun v11 =>
 (WX v11).bind fun v13 =>
 (JO v9 a2.Y).bind fun v15 =>
 (WX v15).bind fun v17 =>
 (QW a2 v3 n) (w64 (x5 + (w64 (v13 * v17)))) (w64 (x6 + 1))
 else none
 else
 some x5
def YB (a1 : qL) (a2 : Rect) : Option Int :=
 (XK a1).bind fun v3 =>
 (QW a2 v3 FUEL 0 0).bind fun o20 =>
 some o20
/- sawmill/worth.lacks -/
def JT (a1 : List qD) (a2 : Rect) : Nat → (List Worth_zone) → Int → Int → Option (List Worth_zone)
 | 0, _, _, _ => none
 | n + 1, l3, x4, x5 =>
 bif decide (x5 < ((a1.length : Nat) : Int)) then
 bif inb x5 a1.length then
 (YB ((a1.getD x5.toNat default).Sec) a2).bind fun v8 =>
 bif nz (w64 ((w64 (a2.X.B - a2.X.A)) * (w64 (a2.Y.B - a2.Y.A)))) then
 bif room (l3.length + 1) 24 then
 (JT a1 a2 n) (l3 ++ ([(Worth_zone.mk (Span.mk x4 (w64 (x4 + ((a1.getD x5.toNat default).Len)))) (w64 (Int.tdiv (w64 ((w64 ((w64 (1000 * (w64 ((w64 ((w64 (a2.X.B - a2.X.A)) * (w64 (a2.Y.B - a2.Y.A)))) - v8)))) + (w64 ((w64 (a2.X.B - a2.X.A)) * (w64 (a2.Y.B - a2.Y.A)))))) - 1)) (w64 ((w64 (a2.X.B - a2.X.A)) * (w64 (a2.Y.B - a2.Y.A)))))))] : List Worth_zone)) (w64 (x4 + ((a1.getD x5.toNat default).Len))) (w64 (x5 + 1))
 else none
 else none
 else none
 else
 some l3
def ND (a1 : List qD) (a2 : Rect) : Option (List Worth_zone) :=
 (JT a1 a2 FUEL ([] : List Worth_zone) 0 0).bind fun o13 =>
 some o13
/- (sawmill/worth.view).box -/
def JS (a1 : Worth_view) (a2 : Span) : Option Box :=
 some (Box.mk a1.rect.X a1.rect.Y a2)
/- sawmill/defect.meet -/
def PH (v3 : Span) (v5 : Span) (v7 : Span) (x17 : Bool) : Option (Box × Bool) :=
 bif x17 then
 some ((Box.mk (Span.mk 0 0) (Span.mk 0 0) (Span.mk 0 0)), false)
 else
 some ((Box.mk v3 v5 v7), true)
def SN (a1 : Box) (a2 : Box) : Option (Box × Bool) :=
 (JO a1.X a2.X).bind fun v3 =>
 (JO a1.Y a2.Y).bind fun v5 =>
 (JO a1.Z a2.Z).bind fun v7 =>
 (jX v3).bind fun v9 =>
 bif v9 then
 PH v3 v5 v7 true
 else
 (jX v5).bind fun v12 =>
 bif v12 then
 PH v3 v5 v7 true
 else
 (jX v7).bind fun v15 =>
 PH v3 v5 v7 v15
/- sawmill/defect.Touches -/
def JP (a1 : Defect) (a2 : Box) : Option Bool :=
 (SN a1.Box a2).bind fun v3 =>
 some v3.2
/- sawmill/worth.look -/
def NW (x29 : Int) (rec_worth_look_L3 : Int → (List Defect) → Option (List Defect)) (l37 : List Defect) : Option (List Defect) :=
 rec_worth_look_L3 (w64 (x29 + 1)) l37
def QY (a2 : List Defect) (v27 : Box) : Nat → Int → (List Defect) → Option (List Defect)
 | 0, _, _ => none
 | n + 1, x29, l30 =>
 bif decide (x29 < ((a2.length : Nat) : Int)) then
 bif inb x29 a2.length then
 (JP (a2.getD x29.toNat default) v27).bind fun v33 =>
 bif v33 then
 bif room (l30.length + 1) 56 then
 NW x29 (QY a2 v27 n) (l30 ++ ([(a2.getD x29.toNat default)] : List Defect))
 else none
 else
 NW x29 (QY a2 v27 n) l30
 else none
 else
 some l30
def TS (a1 : List qD) (a2 : List Defect) (a3 : Product) (a4 : Rect) (x21 : Bool) : Option (Worth_view × Bool) :=
 bif x21 then
 some ((Worth_view.mk (Product.mk (ByteArray.mk #[]) 0 0 0 0 ([] : List Int) ([] : List Int)) (Rect.mk (Span.mk 0 0) (Span.mk 0 0)) 0 ([] : List Worth_zone) ([] : List Defect)), false)
 else
 (QT a1).bind fun v23 =>
 (ND a1 a4).bind fun v25 =>
 (JS (Worth_view.mk a3 a4 v23 v25 ([] : List Defect)) (Span.mk 0 v23)).bind fun v27 =>
 (QY a2 v27 FUEL 0 ([] : List Defect)).bind fun o39 =>
 some ((Worth_view.mk a3 a4 v23 v25 o39), true)
def XI (a1 : List qD) (a2 : List Defect) (a3 : Product) (a4 : Rect) (x16 : Bool) : Option (Worth_view × Bool) :=
 bif x16 then
 some ((Worth_view.mk (Product.mk (ByteArray.mk #[]) 0 0 0 0 ([] : List Int) ([] : List Int)) (Rect.mk (Span.mk 0 0) (Span.mk 0 0)) 0 ([] : List Worth_zone) ([] : List Defect)), false)
 else
 (ZB a3).bind fun v18 =>
 bif !(((w64 (a4.X.B - a4.X.A)) == v18.1) && (((w64 (a4.Y.B - a4.Y.A)) == v18.2) && true)) then
 TS a1 a2 a3 a4 (!(((w64 (a4.X.B - a4.X.A)) == v18.2) && (((w64 (a4.Y.B - a4.Y.A)) == v18.1) && true)))
 else
 TS a1 a2 a3 a4 false
def MN (a1 : List qD) (a2 : List Defect) (a3 : Product) (a4 : Rect) : Option (Worth_view × Bool) :=
 (JM a1).bind fun v5 =>
 bif v5 != 0 then
 XI a1 a2 a3 a4 true
 else
 (YK a2).bind fun v8 =>
 bif v8 != 0 then
 XI a1 a2 a3 a4 true
 else
 (QZ ([a3] : List Product)).bind fun v11 =>
 bif v11 != 0 then
 XI a1 a2 a3 a4 true
 else
 (GB a4).bind fun v14 =>
 XI a1 a2 a3 a4 (!v14)
/- sawmill/worth.isWithin -/
def JC (x5 : Bool) : Option Bool :=
 some x5
def DP (a1 : Span) (a2 : Int) : Option Bool :=
 bif decide (a1.A ≥ 0) then
 bif decide (a1.A < a1.B) then
 JC (decide (a1.B ≤ a2))
 else
 JC false
 else
 JC false
/- sawmill/product.Price -/
def yT (a1 : Product) (a2 : Int) : Nat → Int → Option ((Int × Bool) ⊕ Unit)
 | 0, _ => none
 | n + 1, x3 =>
 bif decide (x3 < ((a1.Lengths.length : Nat) : Int)) then
 bif inb x3 a1.Lengths.length then
 bif (a1.Lengths.getD x3.toNat default) != a2 then
 (yT a1 a2 n) (w64 (x3 + 1))
 else
 bif decide (x3 ≥ ((a1.Prices.length : Nat) : Int)) then
 some (Sum.inl (0, false))
 else
 bif inb x3 a1.Prices.length then
 some (Sum.inl ((a1.Prices.getD x3.toNat default), true))
 else none
 else none
 else
 some (Sum.inr ())
def UA (a1 : Product) (a2 : Int) : Option (Int × Bool) :=
 (yT a1 a2 FUEL 0).bind fun u11 => Sum.elim (fun v12 => some v12) (fun o9 =>
 some (0, false)) u11
/- sawmill/worth.worst -/
def DR (x4 : Int) (rec_worth_worst_L1 : Int → Int → Option Int) (x10 : Int) : Option Int :=
 rec_worth_worst_L1 x10 (w64 (x4 + 1))
def DN (a1 : List Worth_zone) (x3 : Int) (x4 : Int) (rec_worth_worst_L1 : Int → Int → Option Int) (x8 : Bool) : Option Int :=
 bif x8 then
 DR x4 rec_worth_worst_L1 (imax x3 ((a1.getD x4.toNat default).lack))
 else
 DR x4 rec_worth_worst_L1 x3
def yF (a1 : List Worth_zone) (a2 : Span) : Nat → Int → Int → Option Int
 | 0, _, _ => none
 | n + 1, x3, x4 =>
 bif decide (x4 < ((a1.length : Nat) : Int)) then
 bif inb x4 a1.length then
 bif decide ((((a1.getD x4.toNat default).z).A) < a2.B) then
 DN a1 x3 x4 (yF a1 a2 n) (decide (a2.A < (((a1.getD x4.toNat default).z).B)))
 else
 DN a1 x3 x4 (yF a1 a2 n) false
 else none
 else
 some x3
def NI (a1 : List Worth_zone) (a2 : Span) : Option Int :=
 (yF a1 a2 FUEL 0 0).bind fun o12 =>
 some o12
/- (sawmill/worth.view).worth -/
def YZ (x17 : Int) (rec_worth_view_worth_L2 : Int → Int → Option ((Int × Bool) ⊕ Int)) (x24 : Int) : Option ((Int × Bool) ⊕ Int) :=
 rec_worth_view_worth_L2 x24 (w64 (x17 + 1))
def zH (a1 : Worth_view) (a3 : Int) (v14 : Box) : Nat → Int → Int → Option ((Int × Bool) ⊕ Int)
 | 0, _, _ => none
 | n + 1, x16, x17 =>
 bif decide (x17 < ((a1.defects.length : Nat) : Int)) then
 bif inb x17 a1.defects.length then
 (JP (a1.defects.getD x17.toNat default) v14).bind fun v20 =>
 bif !v20 then
 YZ x17 (zH a1 a3 v14 n) x16
 else
 bif ((a1.defects.getD x17.toNat default).Kind) == 3 then
 some (Sum.inl (0, false))
 else
 YZ x17 (zH a1 a3 v14 n) (w64 (x16 - a3))
 else none
 else
 some (Sum.inr x16)
def YV (a1 : Worth_view) (a2 : Span) (a3 : Int) (v7 : Int × Bool) (x12 : Bool) : Option (Int × Bool) :=
 bif x12 then
 some (0, false)
 else
 (JS a1 a2).bind fun v14 =>
 (zH a1 a3 v14 FUEL v7.1 0).bind fun u28 => Sum.elim (fun v29 => some v29) (fun o26 =>
 some (imax o26 0, true)) u28
def ZO (a1 : Worth_view) (a2 : Span) (a3 : Int) : Option (Int × Bool) :=
 (DP a2 a1.length).bind fun v4 =>
 bif !v4 then
 some (0, false)
 else
 (UA a1.product (w64 (a2.B - a2.A))).bind fun v7 =>
 bif !v7.2 then
 YV a1 a2 a3 v7 true
 else
 (NI a1.zones a2).bind fun v10 =>
 YV a1 a2 a3 v7 (decide (v10 > a1.product.Wane))
/- sawmill/worth.Best -/
def NV (x24 : Int) (rec_worth_Best_L3 : Int → Bool → Int → Span → Option (Int × Bool × Span)) (x34 : Int) (x35 : Bool) (x36 : Span) : Option (Int × Bool × Span) :=
 rec_worth_Best_L3 x34 x35 (w64 (x24 + 1)) x36
def TW (a3 : Product) (x19 : Int) (x22 : Int) (x23 : Bool) (x24 : Int) (x25 : Span) (rec_worth_Best_L3 : Int → Bool → Int → Span → Option (Int × Bool × Span)) (v28 : Int × Bool) (x32 : Bool) : Option (Int × Bool × Span) :=
 bif x32 then
 NV x24 rec_worth_Best_L3 v28.1 true (Span.mk x19 (w64 (x19 + (a3.Lengths.getD x24.toNat default))))
 else
 NV x24 rec_worth_Best_L3 x22 x23 x25
def jD (a3 : Product) (a6 : Int) (v14 : Worth_view × Bool) (x19 : Int) : Nat → Int → Bool → Int → Span → Option (Int × Bool × Span)
 | 0, _, _, _, _ => none
 | n + 1, x22, x23, x24, x25 =>
 bif decide (x24 < ((a3.Lengths.length : Nat) : Int)) then
 bif inb x24 a3.Lengths.length then
 (ZO (Worth_view.mk v14.1.product v14.1.rect v14.1.length v14.1.zones v14.1.defects) (Span.mk x19 (w64 (x19 + (a3.Lengths.getD x24.toNat default)))) a6).bind fun v28 =>
 bif v28.2 then
 bif !x23 then
 TW a3 x19 x22 x23 x24 x25 (jD a3 a6 v14 x19 n) v28 true
 else
 TW a3 x19 x22 x23 x24 x25 (jD a3 a6 v14 x19 n) v28 (decide (v28.1 > x22))
 else
 TW a3 x19 x22 x23 x24 x25 (jD a3 a6 v14 x19 n) v28 false
 else none
 else
 some (x22, x23, x25)
def JB (a3 : Product) (a5 : Int) (a6 : Int) (v14 : Worth_view × Bool) : Nat → Int → Bool → Int → Span → Option (Int × Bool × Span)
 | 0, _, _, _, _ => none
 | n + 1, x17, x18, x19, x20 =>
 bif decide (x19 < v14.1.length) then
 (jD a3 a6 v14 x19 FUEL x17 x18 0 x20).bind fun o40 =>
 (JB a3 a5 a6 v14 n) o40.1 o40.2.1 (w64 (x19 + a5)) o40.2.2
 else
 some (x17, x18, x20)
def NM (a1 : List qD) (a2 : List Defect) (a3 : Product) (a4 : Rect) (a5 : Int) (a6 : Int) (x12 : Bool) : Option (Span × Int × Bool) :=
 bif x12 then
 some ((Span.mk 0 0), 0, false)
 else
 (MN a1 a2 a3 a4).bind fun v14 =>
 bif !v14.2 then
 some ((Span.mk 0 0), 0, false)
 else
 (JB a3 a5 a6 v14 FUEL 0 false 0 (Span.mk 0 0)).bind fun o45 =>
 some (o45.2.2, o45.1, o45.2.1)
def DV (a1 : List qD) (a2 : List Defect) (a3 : Product) (a4 : Rect) (a5 : Int) (a6 : Int) : Option (Span × Int × Bool) :=
 (PW a5).bind fun v7 =>
 bif !v7 then
 NM a1 a2 a3 a4 a5 a6 true
 else
 (RC a6).bind fun v10 =>
 NM a1 a2 a3 a4 a5 a6 (!v10)
/- sawmill/solid.extents -/
def ZV (a1 : List qD) : Nat → (List Span) → Int → Int → Option (List Span)
 | 0, _, _, _ => none
 | n + 1, l3, x4, x5 =>
 bif decide (x5 < ((a1.length : Nat) : Int)) then
 bif inb x5 a1.length then
 bif inb x5 l3.length then
 (ZV a1 n) (l3.set x5.toNat (Span.mk x4 (w64 (x4 + ((a1.getD x5.toNat default).Len))))) (w64 (x4 + ((a1.getD x5.toNat default).Len))) (w64 (x5 + 1))
 else none
 else none
 else
 some l3
def TU (a1 : List qD) : Option (List Span) :=
 bif mkOk ((a1.length : Nat) : Int) 16 then
 (ZV a1 FUEL (List.replicate (((a1.length : Nat) : Int).toNat) (Span.mk 0 0)) 0 0).bind fun o10 =>
 some o10
 else none
/- sawmill/solid.Within -/
def UP (x8 : Int) (rec_solid_Within_L1 : Int → Int → Option Int) (x19 : Int) : Option Int :=
 rec_solid_Within_L1 x19 (w64 (x8 + 1))
def yN (a2 : Box) (v3 : (List qD)) (v5 : (List Span)) : Nat → Int → Int → Option Int
 | 0, _, _ => none
 | n + 1, x7, x8 =>
 bif decide (x8 < ((v5.length : Nat) : Int)) then
 bif inb x8 v5.length then
 (JO (v5.getD x8.toNat default) a2.Z).bind fun v11 =>
 (WX v11).bind fun v13 =>
 bif decide (v13 > 0) then
 bif inb x8 v3.length then
 (YB ((v3.getD x8.toNat default).Sec) (Rect.mk a2.X a2.Y)).bind fun v17 =>
 UP x8 (yN a2 v3 v5 n) (w64 (x7 + (w64 (v13 * v17))))
 else none
 else
 UP x8 (yN a2 v3 v5 n) x7
 else none
 else
 some x7
def yP (a1 : List qD) (a2 : Box) : Option Int :=
 (KU a1).bind fun v3 =>
 (TU v3).bind fun v5 =>
 (yN a2 v3 v5 FUEL 0 0).bind fun o21 =>
 some o21
/- sawmill/edge.volume -/
def ZZ (a1 : List qD) (a2 : Rect) (a3 : Span) : Option Int :=
 (yP a1 (Box.mk a2.X a2.Y a3)).bind fun v4 =>
 some v4
/- sawmill/edge.gain -/
def EE (a1 : List qD) (a2 : List Defect) (a3 : Product) (a4 : Rect) (a5 : Saw) (a6 : Rates) : Option Int :=
 (DV a1 a2 a3 a4 a5.Step a6.Fine).bind fun v7 =>
 bif !v7.2.2 then
 some (-1)
 else
 (QT a1).bind fun v10 =>
 (ZZ a1 a4 (Span.mk 0 v10)).bind fun v12 =>
 (ZZ a1 a4 v7.1).bind fun v14 =>
 (ZZ a1 a4 (Span.mk (imax 0 (w64 (v7.1.A - a5.Trim))) v7.1.A)).bind fun v16 =>
 (ZZ a1 a4 (Span.mk v7.1.B (imin (w64 (v7.1.B + a5.Trim)) v10))).bind fun v18 =>
 some (w64 ((w64 ((w64 (1000000 * v7.2.1)) + (w64 (a6.Dust * (w64 (v16 + v18)))))) + (w64 (a6.Chip * (w64 ((w64 (v12 - v14)) - (w64 (v16 + v18))))))))
/- sawmill/edge.Line -/
def MI (l16 : List Int) (x17 : Int) (rec_edge_Line_L2 : (List Int) → Int → Option (List Int)) (x27 : Int) : Option (List Int) :=
 bif room (l16.length + 1) 8 then
 rec_edge_Line_L2 (l16 ++ ([x27] : List Int)) (w64 (x17 + 1))
 else none
def QJ (a1 : List qD) (a2 : List Defect) (a3 : List Product) (a4 : Rect) (a5 : Saw) (a6 : Rates) (v10 : (List Int) × (List Int)) (x12 : Int) : Nat → (List Int) → Int → Option (List Int)
 | 0, _, _ => none
 | n + 1, l16, x17 =>
 bif decide ((w64 (x17 + (v10.1.getD x12.toNat default))) ≤ (w64 (a4.X.B - a4.X.A))) then
 bif nz a5.Pitch then
 bif (Int.tmod x17 a5.Pitch) == 0 then
 bif inb x12 v10.2.length then
 bif inb (v10.2.getD x12.toNat default) a3.length then
 (DJ a4 x17 (w64 (x17 + (v10.1.getD x12.toNat default)))).bind fun v23 =>
 (EE a1 a2 (a3.getD (v10.2.getD x12.toNat default).toNat default) v23 a5 a6).bind fun v25 =>
 MI l16 x17 (QJ a1 a2 a3 a4 a5 a6 v10 x12 n) v25
 else none
 else none
 else
 MI l16 x17 (QJ a1 a2 a3 a4 a5 a6 v10 x12 n) (-1)
 else none
 else
 some l16
def YQ (a1 : List qD) (a2 : List Defect) (a3 : List Product) (a4 : Rect) (a5 : Saw) (a6 : Rates) (v10 : (List Int) × (List Int)) : Nat → Int → (List (List Int)) → Option (List (List Int))
 | 0, _, _ => none
 | n + 1, x12, l13 =>
 bif decide (x12 < ((v10.1.length : Nat) : Int)) then
 bif inb x12 v10.1.length then
 (QJ a1 a2 a3 a4 a5 a6 v10 x12 FUEL ([] : List Int) 0).bind fun o30 =>
 bif room (l13.length + 1) 24 then
 (YQ a1 a2 a3 a4 a5 a6 v10 n) (w64 (x12 + 1)) (l13 ++ ([o30] : List (List Int)))
 else none
 else none
 else
 some l13
def YO (a1 : List qD) (a4 : Rect) (a6 : Rates) (v36 : Int) : Nat → Int → (List Int) → (List Int) → Option ((List Int) × (List Int))
 | 0, _, _, _ => none
 | n + 1, x38, l39, l40 =>
 bif decide (x38 < (w64 (a4.X.B - a4.X.A))) then
 (DJ a4 x38 (w64 (x38 + 1))).bind fun v42 =>
 (ZZ a1 v42 (Span.mk 0 v36)).bind fun v44 =>
 bif room (l39.length + 1) 8 then
 bif room (l40.length + 1) 8 then
 (YO a1 a4 a6 v36 n) (w64 (x38 + 1)) (l39 ++ ([w64 (a6.Chip * v44)] : List Int)) (l40 ++ ([w64 (a6.Dust * v44)] : List Int))
 else none
 else none
 else
 some (l39, l40)
def LE (a1 : List qD) (a2 : List Defect) (a3 : List Product) (a4 : Rect) (a5 : Saw) (a6 : Rates) : Option (Line × Int) :=
 (MH a1 a2 a3 a4 a5 a6).bind fun v7 =>
 bif v7 != 0 then
 some ((Line.mk 0 0 0 ([] : List Int) ([] : List (List Int)) ([] : List Int) ([] : List Int)), v7)
 else
 (TF a3 (w64 (a4.Y.B - a4.Y.A))).bind fun v10 =>
 (YQ a1 a2 a3 a4 a5 a6 v10 FUEL 0 ([] : List (List Int))).bind fun o34 =>
 (QT a1).bind fun v36 =>
 (YO a1 a4 a6 v36 FUEL 0 ([] : List Int) ([] : List Int)).bind fun o50 =>
 some ((Line.mk (w64 (a4.X.B - a4.X.A)) a5.Kerf 1 v10.1 o34 o50.1 o50.2), 0)
/- sawmill/sawmilllaw23.line -/
def qBZ (a1 : qP) : Option (Line × Int) :=
 (LE a1.Solid a1.Defects a1.Products a1.Strip a1.Saw a1.Rates).bind fun v2 =>
 some ((Line.mk v2.1.Len v2.1.Kerf v2.1.Pitch v2.1.Sizes v2.1.Gain v2.1.Chip v2.1.Dust), v2.2)
/- sawmill/cutting.measures -/
def XC (x10 : Int) (rec_cutting_measures_L2 : Int → Option (Int ⊕ Unit)) (x14 : Bool) : Option (Int ⊕ Unit) :=
 bif x14 then
 some (Sum.inl 9)
 else
 rec_cutting_measures_L2 (w64 (x10 + 1))
def wK (a1 : Line) : Nat → Int → Option (Int ⊕ Unit)
 | 0, _ => none
 | n + 1, x10 =>
 bif decide (x10 < ((a1.Sizes.length : Nat) : Int)) then
 bif inb x10 a1.Sizes.length then
 bif decide ((a1.Sizes.getD x10.toNat default) < 1) then
 XC x10 (wK a1 n) true
 else
 XC x10 (wK a1 n) (decide ((a1.Sizes.getD x10.toNat default) > 2000))
 else none
 else
 some (Sum.inr ())
def wL (a1 : Line) (x7 : Bool) : Option Int :=
 bif x7 then
 some 9
 else
 bif decide (((a1.Sizes.length : Nat) : Int) > 32) then
 some 4
 else
 (wK a1 FUEL 0).bind fun u18 => Sum.elim (fun v19 => some v19) (fun o16 =>
 some 0) u18
def YP (a1 : Line) : Option Int :=
 bif decide (a1.Len < 0) then
 wL a1 true
 else
 bif decide (a1.Len > 2000) then
 wL a1 true
 else
 bif decide (a1.Kerf < 0) then
 wL a1 true
 else
 bif decide (a1.Kerf > 20) then
 wL a1 true
 else
 bif decide (a1.Pitch < 1) then
 wL a1 true
 else
 wL a1 (decide (a1.Pitch > 2000))
/- sawmill/cutting.places -/
def DZ (a1 : Line) (a2 : Int) : Option Int :=
 some (imax 0 (w64 ((w64 (a1.Len - a2)) + 1)))
/- sawmill/cutting.small -/
def TP (x5 : Int) (rec_cutting_small_L2 : Int → Option (Bool ⊕ Unit)) (x9 : Bool) : Option (Bool ⊕ Unit) :=
 bif x9 then
 some (Sum.inl false)
 else
 rec_cutting_small_L2 (w64 (x5 + 1))
def jM (a1 : List (List Int)) (x2 : Int) : Nat → Int → Option (Bool ⊕ Unit)
 | 0, _ => none
 | n + 1, x5 =>
 bif decide (x5 < (((a1.getD x2.toNat default).length : Nat) : Int)) then
 bif inb x5 ((a1.getD x2.toNat default).length) then
 bif decide (((a1.getD x2.toNat default).getD x5.toNat default) < (-1125899906842624)) then
 TP x5 (jM a1 x2 n) true
 else
 TP x5 (jM a1 x2 n) (decide (((a1.getD x2.toNat default).getD x5.toNat default) > 1125899906842624))
 else none
 else
 some (Sum.inr ())
def ZW (a1 : List (List Int)) : Nat → Int → Option (Bool ⊕ Unit)
 | 0, _ => none
 | n + 1, x2 =>
 bif decide (x2 < ((a1.length : Nat) : Int)) then
 bif inb x2 a1.length then
 (jM a1 x2 FUEL 0).bind fun u13 => Sum.elim (fun v14 => some (Sum.inl v14)) (fun o11 =>
 (ZW a1 n) (w64 (x2 + 1))) u13
 else none
 else
 some (Sum.inr ())
def XH (a1 : List (List Int)) : Option Bool :=
 (ZW a1 FUEL 0).bind fun u17 => Sum.elim (fun v18 => some v18) (fun o15 =>
 some true) u17
/- sawmill/cutting.Check -/
def ZM (a1 : Line) : Nat → Int → Option (Int ⊕ Unit)
 | 0, _ => none
 | n + 1, x9 =>
 bif decide (x9 < ((a1.Gain.length : Nat) : Int)) then
 bif inb x9 a1.Gain.length then
 bif inb x9 a1.Sizes.length then
 (DZ a1 (a1.Sizes.getD x9.toNat default)).bind fun v13 =>
 bif (((a1.Gain.getD x9.toNat default).length : Nat) : Int) != v13 then
 some (Sum.inl 19)
 else
 (ZM a1 n) (w64 (x9 + 1))
 else none
 else none
 else
 some (Sum.inr ())
def TC (x25 : Bool) : Option Int :=
 bif x25 then
 some 9
 else
 some 0
def YF (a1 : Line) (x7 : Bool) : Option Int :=
 bif x7 then
 some 19
 else
 (ZM a1 FUEL 0).bind fun u18 => Sum.elim (fun v19 => some v19) (fun o16 =>
 (XH a1.Gain).bind fun v20 =>
 bif !v20 then
 TC true
 else
 (XH ([a1.Chip, a1.Dust] : List (List Int))).bind fun v23 =>
 TC (!v23)) u18
def UE (a1 : Line) : Option Int :=
 (YP a1).bind fun v2 =>
 bif v2 != 0 then
 some v2
 else
 bif ((a1.Gain.length : Nat) : Int) != ((a1.Sizes.length : Nat) : Int) then
 YF a1 true
 else
 bif ((a1.Chip.length : Nat) : Int) != a1.Len then
 YF a1 true
 else
 YF a1 (((a1.Dust.length : Nat) : Int) != a1.Len)
/- sawmill/cutting.sums -/
def WW (a1 : List Int) : Nat → (List Int) → Int → Option (List Int)
 | 0, _, _ => none
 | n + 1, l3, x4 =>
 bif decide (x4 < ((a1.length : Nat) : Int)) then
 bif inb x4 a1.length then
 bif inb x4 l3.length then
 bif inb (w64 (x4 + 1)) l3.length then
 (WW a1 n) (l3.set ((w64 (x4 + 1)).toNat) (w64 ((l3.getD x4.toNat default) + (a1.getD x4.toNat default)))) (w64 (x4 + 1))
 else none
 else none
 else none
 else
 some l3
def RA (a1 : List Int) : Option (List Int) :=
 bif mkOk (w64 (((a1.length : Nat) : Int) + 1)) 8 then
 (WW a1 FUEL (List.replicate ((w64 (((a1.length : Nat) : Int) + 1)).toNat) 0) 0).bind fun o10 =>
 some o10
 else none
/- sawmill/cutting.behind -/
def YC (a1 : Line) (a2 : Int) : Option Int :=
 bif a2 == a1.Len then
 some (-1)
 else
 some (imin (w64 (a2 + a1.Kerf)) a1.Len)
/- sawmill/cutting.start -/
def YG (x5 : Int) (rec_cutting_start_L1 : Int → Cutting_choice → Option Cutting_choice) (x26 : Cutting_choice) : Option Cutting_choice :=
 rec_cutting_start_L1 (w64 (x5 + 1)) x26
def TM (x5 : Int) (x6 : Cutting_choice) (rec_cutting_start_L1 : Int → Cutting_choice → Option Cutting_choice) (x22 : Cutting_choice) (x24 : Bool) : Option Cutting_choice :=
 bif x24 then
 YG x5 rec_cutting_start_L1 x22
 else
 YG x5 rec_cutting_start_L1 x6
def RR (x5 : Int) (x6 : Cutting_choice) (rec_cutting_start_L1 : Int → Cutting_choice → Option Cutting_choice) (x22 : Cutting_choice) : Option Cutting_choice :=
 bif ((x6.piece.Size == (-1)) && ((x6.piece.At == (-1)) && true)) then
 TM x5 x6 rec_cutting_start_L1 x22 true
 else
 TM x5 x6 rec_cutting_start_L1 x22 (decide (x22.value > x6.value))
def RS (a1 : Line) (a2 : Int) (a3 : List Int) (a4 : List Cutting_choice) (x5 : Int) (x6 : Cutting_choice) (rec_cutting_start_L1 : Int → Cutting_choice → Option Cutting_choice) (x12 : Bool) : Option Cutting_choice :=
 bif x12 then
 YG x5 rec_cutting_start_L1 x6
 else
 bif inb x5 a1.Gain.length then
 bif inb a2 ((a1.Gain.getD x5.toNat default).length) then
 (YC a1 (w64 (a2 + (a1.Sizes.getD x5.toNat default)))).bind fun v16 =>
 bif decide (v16 ≥ 0) then
 bif inb v16 a3.length then
 bif inb (w64 (a2 + (a1.Sizes.getD x5.toNat default))) a3.length then
 bif inb v16 a4.length then
 RR x5 x6 rec_cutting_start_L1 (Cutting_choice.mk (Piece.mk x5 a2) (w64 (((a1.Gain.getD x5.toNat default).getD a2.toNat default) + (w64 ((w64 ((a3.getD v16.toNat default) - (a3.getD (w64 (a2 + (a1.Sizes.getD x5.toNat default))).toNat default))) + ((a4.getD v16.toNat default).value))))))
 else none
 else none
 else none
 else
 RR x5 x6 rec_cutting_start_L1 (Cutting_choice.mk (Piece.mk x5 a2) ((a1.Gain.getD x5.toNat default).getD a2.toNat default))
 else none
 else none
def zZ (a1 : Line) (a2 : Int) (a3 : List Int) (a4 : List Cutting_choice) : Nat → Int → Cutting_choice → Option Cutting_choice
 | 0, _, _ => none
 | n + 1, x5, x6 =>
 bif decide (x5 < ((a1.Sizes.length : Nat) : Int)) then
 bif inb x5 a1.Sizes.length then
 bif decide ((w64 (a2 + (a1.Sizes.getD x5.toNat default))) > a1.Len) then
 RS a1 a2 a3 a4 x5 x6 (zZ a1 a2 a3 a4 n) true
 else
 bif inb x5 a1.Gain.length then
 bif inb a2 ((a1.Gain.getD x5.toNat default).length) then
 RS a1 a2 a3 a4 x5 x6 (zZ a1 a2 a3 a4 n) (decide (((a1.Gain.getD x5.toNat default).getD a2.toNat default) < 0))
 else none
 else none
 else none
 else
 some x6
def TZ (a1 : Line) (a2 : Int) (a3 : List Int) (a4 : List Cutting_choice) : Option Cutting_choice :=
 (zZ a1 a2 a3 a4 FUEL 0 (Cutting_choice.mk (Piece.mk (-1) (-1)) 0)).bind fun o28 =>
 some o28
/- sawmill/cutting.choices -/
def XR (a1 : Line) (x20 : Int) (rec_cutting_choices_L4 : Int → Cutting_choice → Option Cutting_choice) (x31 : Cutting_choice) : Option Cutting_choice :=
 rec_cutting_choices_L4 (w64 (x20 + a1.Pitch)) x31
def KE (a1 : Line) (v2 : (List Int)) (v4 : (List Int)) (l8 : List Cutting_choice) (x9 : Int) (v11 : Cutting_choice) (x20 : Int) (x21 : Cutting_choice) (rec_cutting_choices_L4 : Int → Cutting_choice → Option Cutting_choice) (x29 : Bool) : Option Cutting_choice :=
 bif x29 then
 XR a1 x20 rec_cutting_choices_L4 (Cutting_choice.mk (((l8.set x9.toNat v11).getD x20.toNat default).piece) (w64 ((((l8.set x9.toNat v11).getD x20.toNat default).value) + (w64 ((w64 ((w64 ((v2.getD ((w64 (x20 - a1.Kerf)).toNat) default) - (v2.getD x9.toNat default))) + (v4.getD x20.toNat default))) - (v4.getD ((w64 (x20 - a1.Kerf)).toNat) default))))))
 else
 XR a1 x20 rec_cutting_choices_L4 x21
def zU (a1 : Line) (v2 : (List Int)) (v4 : (List Int)) (l8 : List Cutting_choice) (x9 : Int) (v11 : Cutting_choice) : Nat → Int → Cutting_choice → Option Cutting_choice
 | 0, _, _ => none
 | n + 1, x20, x21 =>
 bif decide (x20 ≤ a1.Len) then
 bif inb x20 l8.length then
 bif inb (w64 (x20 - a1.Kerf)) v2.length then
 bif inb x9 v2.length then
 bif inb x20 v4.length then
 bif inb (w64 (x20 - a1.Kerf)) v4.length then
 bif !((((((l8.set x9.toNat v11).getD x20.toNat default).piece).Size) == (-1)) && ((((((l8.set x9.toNat v11).getD x20.toNat default).piece).At) == (-1)) && true)) then
 KE a1 v2 v4 l8 x9 v11 x20 x21 (zU a1 v2 v4 l8 x9 v11 n) (decide ((w64 ((((l8.set x9.toNat v11).getD x20.toNat default).value) + (w64 ((w64 ((w64 ((v2.getD ((w64 (x20 - a1.Kerf)).toNat) default) - (v2.getD x9.toNat default))) + (v4.getD x20.toNat default))) - (v4.getD ((w64 (x20 - a1.Kerf)).toNat) default))))) > x21.value))
 else
 KE a1 v2 v4 l8 x9 v11 x20 x21 (zU a1 v2 v4 l8 x9 v11 n) false
 else none
 else none
 else none
 else none
 else none
 else
 some x21
def XM (a1 : Line) (v2 : (List Int)) (v4 : (List Int)) (l7 : List Cutting_choice) (l8 : List Cutting_choice) (x9 : Int) (rec_cutting_choices_L1 : (List Cutting_choice) → (List Cutting_choice) → Int → Option (List Cutting_choice)) (v11 : Cutting_choice) (x19 : Cutting_choice) : Option (List Cutting_choice) :=
 (zU a1 v2 v4 l8 x9 v11 FUEL (w64 ((w64 (x9 + a1.Pitch)) + a1.Kerf)) x19).bind fun o33 =>
 bif inb x9 l7.length then
 rec_cutting_choices_L1 (l7.set x9.toNat o33) (l8.set x9.toNat v11) (w64 (x9 - 1))
 else none
def XY (a1 : Line) (v2 : (List Int)) (v4 : (List Int)) (l7 : List Cutting_choice) (l8 : List Cutting_choice) (x9 : Int) (rec_cutting_choices_L1 : (List Cutting_choice) → (List Cutting_choice) → Int → Option (List Cutting_choice)) (v11 : Cutting_choice) (x17 : Bool) : Option (List Cutting_choice) :=
 bif x17 then
 XM a1 v2 v4 l7 l8 x9 rec_cutting_choices_L1 v11 ((l8.set x9.toNat v11).getD x9.toNat default)
 else
 XM a1 v2 v4 l7 l8 x9 rec_cutting_choices_L1 v11 (Cutting_choice.mk (Piece.mk (-1) (-1)) (w64 ((v2.getD a1.Len.toNat default) - (v2.getD x9.toNat default))))
def wF (a1 : Line) (v2 : (List Int)) (v4 : (List Int)) : Nat → (List Cutting_choice) → (List Cutting_choice) → Int → Option (List Cutting_choice)
 | 0, _, _, _ => none
 | n + 1, l7, l8, x9 =>
 bif decide (x9 ≥ 0) then
 (TZ a1 x9 v4 l7).bind fun v11 =>
 bif inb x9 l8.length then
 bif inb a1.Len v2.length then
 bif inb x9 v2.length then
 bif !((((((l8.set x9.toNat v11).getD x9.toNat default).piece).Size) == (-1)) && ((((((l8.set x9.toNat v11).getD x9.toNat default).piece).At) == (-1)) && true)) then
 XY a1 v2 v4 l7 l8 x9 (wF a1 v2 v4 n) v11 (decide ((((l8.set x9.toNat v11).getD x9.toNat default).value) > (w64 ((v2.getD a1.Len.toNat default) - (v2.getD x9.toNat default)))))
 else
 XY a1 v2 v4 l7 l8 x9 (wF a1 v2 v4 n) v11 false
 else none
 else none
 else none
 else
 some l7
def KD (a1 : Line) : Option (List Cutting_choice) :=
 (RA a1.Chip).bind fun v2 =>
 (RA a1.Dust).bind fun v4 =>
 bif mkOk (w64 (a1.Len + 1)) 24 then
 (wF a1 v2 v4 FUEL (List.replicate ((w64 (a1.Len + 1)).toNat) (Cutting_choice.mk (Piece.mk 0 0) 0)) (List.replicate ((w64 (a1.Len + 1)).toNat) (Cutting_choice.mk (Piece.mk 0 0) 0)) a1.Len).bind fun o37 =>
 some o37
 else none
/- sawmill/cutting.Best -/
def WP (a1 : Line) (v5 : (List Cutting_choice)) : Nat → (List Piece) → Int → Option (List Piece)
 | 0, _, _ => none
 | n + 1, l7, x8 =>
 bif decide (x8 ≥ 0) then
 bif inb x8 v5.length then
 bif (((((v5.getD x8.toNat default).piece).Size) == (-1)) && (((((v5.getD x8.toNat default).piece).At) == (-1)) && true)) then
 some l7
 else
 bif room (l7.length + 1) 16 then
 bif inb (((v5.getD x8.toNat default).piece).Size) a1.Sizes.length then
 (YC a1 (w64 ((((v5.getD x8.toNat default).piece).At) + (a1.Sizes.getD (((v5.getD x8.toNat default).piece).Size).toNat default)))).bind fun v14 =>
 (WP a1 v5 n) (l7 ++ ([(v5.getD x8.toNat default).piece] : List Piece)) v14
 else none
 else none
 else none
 else
 some l7
def VT (a1 : Line) : Option ((List Piece) × Int × Int) :=
 (UE a1).bind fun v2 =>
 bif v2 != 0 then
 some (([] : List Piece), 0, v2)
 else
 (KD a1).bind fun v5 =>
 (WP a1 v5 FUEL ([] : List Piece) 0).bind fun o17 =>
 bif inb 0 v5.length then
 some (o17, (v5.getD ((0 : Int).toNat) default).value, 0)
 else none
/- slices.Clone[[]sawmill/api.Node,sawmill/api.Node] -/
def WL (a1 : List Node) : Option (List Node) :=
 bif room a1.length 16 then some a1 else none
/- sawmill/edge.collect -/
def VH (a1 : List (List Node)) (a2 : List Node) : Option ((List (List Node)) × (List (List Node))) :=
 (WL a2).bind fun v3 =>
 bif room (a1.length + 1) 24 then
 some ((a1 ++ ([v3] : List (List Node))), (a1 ++ ([v3] : List (List Node))))
 else none
/- sawmill/pattern.isRip -/
def RP (x3 : Bool) : Option Bool :=
 some x3
def wA (a1 : Int) : Option Bool :=
 bif a1 == 2 then
 RP true
 else
 RP (a1 == 3)
/- sawmill/pattern.isFrame -/
def wE (x2 : Int) (rec_pattern_isFrame_L1 : Int → Option (Bool ⊕ Unit)) (x7 : Bool) : Option (Bool ⊕ Unit) :=
 bif x7 then
 some (Sum.inl false)
 else
 rec_pattern_isFrame_L1 (w64 (x2 + 1))
def zA (a1 : Rect) : Nat → Int → Option (Bool ⊕ Unit)
 | 0, _ => none
 | n + 1, x2 =>
 bif decide (x2 < 2) then
 bif inb x2 2 then
 bif decide ((([a1.X.A, a1.X.B, a1.Y.A, a1.Y.B] : List Int).getD (x2.toNat * 2 + 0) 0) < (-600)) then
 wE x2 (zA a1 n) true
 else
 bif decide ((([a1.X.A, a1.X.B, a1.Y.A, a1.Y.B] : List Int).getD (x2.toNat * 2 + 1) 0) > 600) then
 wE x2 (zA a1 n) true
 else
 wE x2 (zA a1 n) (decide ((([a1.X.A, a1.X.B, a1.Y.A, a1.Y.B] : List Int).getD (x2.toNat * 2 + 0) 0) ≥ (([a1.X.A, a1.X.B, a1.Y.A, a1.Y.B] : List Int).getD (x2.toNat * 2 + 1) 0)))
 else none
 else
 some (Sum.inr ())
def jJ (a1 : Rect) : Option Bool :=
 (zA a1 FUEL 0).bind fun u11 => Sum.elim (fun v12 => some v12) (fun o9 =>
 some true) u11
/- sawmill/pattern.along -/
def ZA (a1 : Rect) (a2 : Int) : Option Span :=
 bif a2 == 2 then
 some a1.X
 else
 some a1.Y
/- sawmill/pattern.Row$1 -/
def jN (a1 : List Node) (a2 : Int) (a3 : List Node) : Option (Int × (List Node)) :=
 bif decide ((w64 (a2 + ((a1.length : Nat) : Int))) ≤ 127) then
 bif room (a3.length + a1.length) 16 then
 some (w64 (a2 + ((a1.length : Nat) : Int)), (a3 ++ a1))
 else none
 else
 some (w64 (a2 + ((a1.length : Nat) : Int)), a3)
/- sawmill/pattern.Row -/
def BA (a5 : List (List Node)) (x21 : Int) (rec_pattern_Row_L3 : Int → Bool → Int → (List Node) → Int → Option (((List Node) × Int) ⊕ (Bool × (List Node) × Int))) (x40 : Int) (x41 : Bool) (l42 : List Node) (x43 : Int) : Option (((List Node) × Int) ⊕ (Bool × (List Node) × Int)) :=
 bif inb x21 a5.length then
 (jN (a5.getD x21.toNat default) x43 l42).bind fun v45 =>
 rec_pattern_Row_L3 x40 x41 (w64 (x21 + 1)) v45.2 v45.1
 else none
def PF (a2 : Int) (a3 : Int) (a4 : List Span) (a5 : List (List Node)) (v17 : Span) (x19 : Int) (x20 : Bool) (x21 : Int) (rec_pattern_Row_L3 : Int → Bool → Int → (List Node) → Int → Option (((List Node) × Int) ⊕ (Bool × (List Node) × Int))) (l35 : List Node) (x36 : Int) : Option (((List Node) × Int) ⊕ (Bool × (List Node) × Int)) :=
 bif decide (((a4.getD x21.toNat default).B) < v17.B) then
 (jN ([(Node.mk a2 ((a4.getD x21.toNat default).B))] : List Node) x36 l35).bind fun v38 =>
 BA a5 x21 rec_pattern_Row_L3 (imin (w64 (((a4.getD x21.toNat default).B) + a3)) v17.B) x20 v38.2 v38.1
 else
 BA a5 x21 rec_pattern_Row_L3 x19 true l35 x36
def PP (a2 : Int) (a3 : Int) (a4 : List Span) (a5 : List (List Node)) (v17 : Span) (x19 : Int) (x20 : Bool) (x21 : Int) (l22 : List Node) (x23 : Int) (rec_pattern_Row_L3 : Int → Bool → Int → (List Node) → Int → Option (((List Node) × Int) ⊕ (Bool × (List Node) × Int))) (x29 : Bool) : Option (((List Node) × Int) ⊕ (Bool × (List Node) × Int)) :=
 bif x29 then
 some (Sum.inl (([] : List Node), 11))
 else
 bif decide (((a4.getD x21.toNat default).B) > v17.B) then
 some (Sum.inl (([] : List Node), 20))
 else
 bif decide (((a4.getD x21.toNat default).A) > x19) then
 (jN ([(Node.mk a2 (w64 (((a4.getD x21.toNat default).A) - a3))), (Node.mk 0 0)] : List Node) x23 l22).bind fun v33 =>
 PF a2 a3 a4 a5 v17 x19 x20 x21 rec_pattern_Row_L3 v33.2 v33.1
 else
 PF a2 a3 a4 a5 v17 x19 x20 x21 rec_pattern_Row_L3 l22 x23
def zW (a2 : Int) (a3 : Int) (a4 : List Span) (a5 : List (List Node)) (v17 : Span) : Nat → Int → Bool → Int → (List Node) → Int → Option (((List Node) × Int) ⊕ (Bool × (List Node) × Int))
 | 0, _, _, _, _, _ => none
 | n + 1, x19, x20, x21, l22, x23 =>
 bif decide (x21 < ((a4.length : Nat) : Int)) then
 bif inb x21 a4.length then
 bif decide (((a4.getD x21.toNat default).A) ≥ ((a4.getD x21.toNat default).B)) then
 some (Sum.inl (([] : List Node), 19))
 else
 bif x20 then
 PP a2 a3 a4 a5 v17 x19 x20 x21 l22 x23 (zW a2 a3 a4 a5 v17 n) true
 else
 bif ((a4.getD x21.toNat default).A) != x19 then
 PP a2 a3 a4 a5 v17 x19 x20 x21 l22 x23 (zW a2 a3 a4 a5 v17 n) (decide (((a4.getD x21.toNat default).A) < (w64 ((w64 (x19 + a3)) + 1))))
 else
 PP a2 a3 a4 a5 v17 x19 x20 x21 l22 x23 (zW a2 a3 a4 a5 v17 n) false
 else none
 else
 some (Sum.inr (x20, l22, x23))
def RE (x57 : Int) (l58 : List Node) : Option ((List Node) × Int) :=
 bif decide (x57 > 127) then
 some (([] : List Node), 4)
 else
 some (l58, 0)
def DW (a1 : Rect) (a2 : Int) (a3 : Int) (a4 : List Span) (a5 : List (List Node)) (x15 : Bool) : Option ((List Node) × Int) :=
 bif x15 then
 some (([] : List Node), 9)
 else
 (ZA a1 a2).bind fun v17 =>
 (zW a2 a3 a4 a5 v17 FUEL v17.A false 0 ([] : List Node) 0).bind fun u52 => Sum.elim (fun v53 => some v53) (fun o50 =>
 bif !o50.1 then
 (jN ([(Node.mk 0 0)] : List Node) o50.2.2 o50.2.1).bind fun v55 =>
 RE v55.1 v55.2
 else
 RE o50.2.2 o50.2.1) u52
def DT (a1 : Rect) (a2 : Int) (a3 : Int) (a4 : List Span) (a5 : List (List Node)) (x12 : Bool) : Option ((List Node) × Int) :=
 bif x12 then
 some (([] : List Node), 19)
 else
 bif decide (a3 < 0) then
 DW a1 a2 a3 a4 a5 true
 else
 DW a1 a2 a3 a4 a5 (decide (a3 > 20))
def NJ (a1 : Rect) (a2 : Int) (a3 : Int) (a4 : List Span) (a5 : List (List Node)) : Option ((List Node) × Int) :=
 (wA a2).bind fun v6 =>
 bif !v6 then
 some (([] : List Node), 10)
 else
 (jJ a1).bind fun v9 =>
 bif !v9 then
 DT a1 a2 a3 a4 a5 true
 else
 DT a1 a2 a3 a4 a5 (((a4.length : Nat) : Int) != ((a5.length : Nat) : Int))
/- sawmill/edge.Best -/
def PZ (a4 : Rect) (v10 : (List Piece) × Int × Int) (v13 : (List Int) × (List Int)) : Nat → (List Span) → (List (List Node)) → Int → Option ((List Span) × (List (List Node)))
 | 0, _, _, _ => none
 | n + 1, l15, l16, x17 =>
 bif decide (x17 < ((v10.1.length : Nat) : Int)) then
 bif inb x17 v10.1.length then
 bif inb ((v10.1.getD x17.toNat default).Size) v13.1.length then
 (DJ a4 ((v10.1.getD x17.toNat default).At) (w64 (((v10.1.getD x17.toNat default).At) + (v13.1.getD (((v10.1.getD x17.toNat default).Size).toNat) default)))).bind fun v21 =>
 bif room (l15.length + 1) 16 then
 bif inb ((v10.1.getD x17.toNat default).Size) v13.2.length then
 (VH l16 ([(Node.mk 1 (v13.2.getD (((v10.1.getD x17.toNat default).Size).toNat) default))] : List Node)).bind fun v25 =>
 (PZ a4 v10 v13 n) (l15 ++ ([v21.X] : List Span)) v25.2 (w64 (x17 + 1))
 else none
 else none
 else none
 else none
 else
 some (l15, l16)
def ER (a1 : List qD) (a2 : List Defect) (a3 : List Product) (a4 : Rect) (a5 : Saw) (a6 : Rates) : Option ((List Node) × Int × Int) :=
 (LE a1 a2 a3 a4 a5 a6).bind fun v7 =>
 bif v7.2 != 0 then
 some (([] : List Node), 0, v7.2)
 else
 (VT (Line.mk v7.1.Len v7.1.Kerf v7.1.Pitch v7.1.Sizes v7.1.Gain v7.1.Chip v7.1.Dust)).bind fun v10 =>
 bif v10.2.2 != 0 then
 some (([] : List Node), 0, v10.2.2)
 else
 (TF a3 (w64 (a4.Y.B - a4.Y.A))).bind fun v13 =>
 (PZ a4 v10 v13 FUEL ([] : List Span) ([] : List (List Node)) 0).bind fun o29 =>
 (NJ a4 2 a5.Kerf o29.1 o29.2).bind fun v31 =>
 bif v31.2 != 0 then
 some (([] : List Node), 0, v31.2)
 else
 some (v31.1, v10.2.1, 0)
/- sawmill/sawmilllaw23.best -/
def TB (a1 : qP) : Option ((List Node) × Int × Int) :=
 (ER a1.Solid a1.Defects a1.Products a1.Strip a1.Saw a1.Rates).bind fun v2 =>
 some (v2.1, v2.2.1, v2.2.2)
/- sawmill/sawmilllaw23.awake -/
def wN (x38 : Bool) : Option Bool :=
 some x38
def jZ (v3 : Line × Int) (v5 : (List Node) × Int × Int) (v7 : (List Node) × Int × Int) (v9 : (List Int) × (List Int)) (x19 : Bool) : Option Bool :=
 bif x19 then
 some false
 else
 bif v3.1.Len == 110 then
 bif inb 0 v3.1.Gain.length then
 bif inb 5 ((v3.1.Gain.getD ((0 : Int).toNat) default).length) then
 bif ((v3.1.Gain.getD ((0 : Int).toNat) default).getD (5 : Int).toNat default) == 70000000 then
 bif inb 4 ((v3.1.Gain.getD ((0 : Int).toNat) default).length) then
 bif ((v3.1.Gain.getD ((0 : Int).toNat) default).getD (4 : Int).toNat default) == (-1) then
 bif v5.2.1 == 70000000 then
 bif v7.2.1 == 74513950 then
 bif inb 0 v5.1.length then
 bif ((((v5.1.getD ((0 : Int).toNat) default).Kind) == 2) && ((((v5.1.getD ((0 : Int).toNat) default).At) == 5) && true)) then
 bif inb 1 v5.1.length then
 bif ((v5.1.getD ((1 : Int).toNat) default).Kind) == 1 then
 bif inb 2 v5.1.length then
 bif ((v5.1.getD ((2 : Int).toNat) default).Kind) == 0 then
 bif inb 0 v9.1.length then
 bif (v9.1.getD ((0 : Int).toNat) default) == 105 then
 bif inb 0 v9.2.length then
 wN ((v9.2.getD ((0 : Int).toNat) default) == 0)
 else none
 else
 wN false
 else none
 else
 wN false
 else none
 else
 wN false
 else none
 else
 wN false
 else none
 else
 wN false
 else
 wN false
 else
 wN false
 else none
 else
 wN false
 else none
 else none
 else
 wN false
def UJ : Option Bool :=
 (CU).bind fun v1 =>
 (qBZ v1).bind fun v3 =>
 (TB v1).bind fun v5 =>
 (TB (qP.mk v1.Solid v1.Defects v1.Products v1.Strip v1.Saw (Rates.mk 1 v1.Rates.Dust v1.Rates.Fine))).bind fun v7 =>
 (TF v1.Products 42).bind fun v9 =>
 bif v3.2 != 0 then
 jZ v3 v5 v7 v9 true
 else
 bif v5.2.2 != 0 then
 jZ v3 v5 v7 v9 true
 else
 bif v7.2.2 != 0 then
 jZ v3 v5 v7 v9 true
 else
 bif ((v5.1.length : Nat) : Int) != 3 then
 jZ v3 v5 v7 v9 true
 else
 bif ((v9.1.length : Nat) : Int) != 1 then
 jZ v3 v5 v7 v9 true
 else
 bif ((v9.2.length : Nat) : Int) != 1 then
 jZ v3 v5 v7 v9 true
 else
 bif ((v3.1.Gain.length : Nat) : Int) != 1 then
 jZ v3 v5 v7 v9 true
 else
 bif inb 0 v3.1.Gain.length then
 jZ v3 v5 v7 v9 ((((v3.1.Gain.getD ((0 : Int).toNat) default).length : Nat) : Int) != 6)
 else none
/- sawmill/pattern.places -/
def jF (a1 : qF) (a2 : Int) : Option (qF × Int) :=
 some (a1, a2)
/- sawmill/pattern.checkNode -/
def QK : Option Int :=
 some 0
def JK (x15 : Bool) : Option Int :=
 bif x15 then
 some 20
 else
 QK
def wZ (a1 : Node) (a2 : Pattern_place) (x6 : Bool) : Option Int :=
 bif x6 then
 some 10
 else
 bif decide (a2.level > 64) then
 some 28
 else
 (wA a1.Kind).bind fun v9 =>
 bif v9 then
 (ZA a2.rect a1.Kind).bind fun v12 =>
 bif decide (a1.At ≤ v12.A) then
 JK true
 else
 JK (decide (a1.At ≥ v12.B))
 else
 QK
def QV (a1 : Node) (a2 : Pattern_place) : Option Int :=
 bif decide (a1.Kind < 0) then
 wZ a1 a2 true
 else
 bif decide (a1.Kind > 3) then
 wZ a1 a2 true
 else
 bif a1.Kind == 0 then
 wZ a1 a2 (a1.At != 0)
 else
 wZ a1 a2 false
/- sawmill/pattern.Check$1 -/
def jQ (x18 : Bool) : Option Int :=
 bif x18 then
 some 20
 else
 some 0
def yY (a1 : Rect) (a2 : Int) (a3 : List Product) (x5 : Bool) : Option Int :=
 bif x5 then
 some 8
 else
 bif inb a2 a3.length then
 (ZB (a3.getD a2.toNat default)).bind fun v8 =>
 (WX a1.X).bind fun v10 =>
 (WX a1.Y).bind fun v12 =>
 bif v10 != v8.1 then
 bif v10 != v8.2 then
 jQ true
 else
 jQ (v12 != v8.1)
 else
 bif v12 != v8.2 then
 bif v10 != v8.2 then
 jQ true
 else
 jQ (v12 != v8.1)
 else
 jQ false
 else none
def KC (a1 : Rect) (a2 : Int) (a3 : List Product) : Option Int :=
 bif decide (a2 < 0) then
 yY a1 a2 a3 true
 else
 yY a1 a2 a3 (decide (a2 ≥ ((a3.length : Nat) : Int)))
/- sawmill/pattern.check -/
def WF (a1 : Int) (a5 : Int) (a6 : Int) (x16 : Int) : Option (Nat × Int × Int) :=
 bif x16 != 0 then
 some (1, x16, a6)
 else
 some (0, a5, w64 (a1 + 1))
def ZY (a1 : Int) (a2 : Pattern_place) (a3 : qF) (a4 : List Product) (a5 : Int) (a6 : Int) (v9 : Int) (x12 : Bool) : Option (Nat × Int × Int) :=
 bif x12 then
 (KC a2.rect ((a3.Nodes.getD a1.toNat default).At) a4).bind fun v14 =>
 WF a1 a5 a6 v14
 else
 WF a1 a5 a6 v9
def jH (a1 : Int) (a2 : Pattern_place) (a3 : qF) (a4 : List Product) (a5 : Int) (a6 : Int) : Option (Nat × Int × Int) :=
 bif decide (a1 ≥ ((a3.Nodes.length : Nat) : Int)) then
 some (1, 3, a6)
 else
 bif inb a1 a3.Nodes.length then
 (QV (a3.Nodes.getD a1.toNat default) a2).bind fun v9 =>
 bif v9 == 0 then
 ZY a1 a2 a3 a4 a5 a6 v9 (((a3.Nodes.getD a1.toNat default).Kind) == 1)
 else
 ZY a1 a2 a3 a4 a5 a6 v9 false
 else none
/- sawmill/pattern.with -/
def US (x5 : Rect) : Option Rect :=
 some x5
def YS (a1 : Rect) (a2 : Int) (a3 : Span) : Option Rect :=
 bif a2 == 2 then
 US (Rect.mk a3 a1.Y)
 else
 US (Rect.mk a1.X a3)
/- sawmill/pattern.parts -/
def jS (a1 : Rect) (a2 : Node) (a3 : Int) : Option (Rect × Rect × Rect) :=
 (ZA a1 a2.Kind).bind fun v4 =>
 (YS a1 a2.Kind (Span.mk v4.A a2.At)).bind fun v6 =>
 (YS a1 a2.Kind (Span.mk a2.At (imin (w64 (a2.At + a3)) v4.B))).bind fun v8 =>
 (YS a1 a2.Kind (Span.mk (imin (w64 (a2.At + a3)) v4.B) v4.B)).bind fun v10 =>
 some (v6, v8, v10)
/- sawmill/pattern.places$1 -/
def YU (x8 : Int) (rec_pattern_places_1_L1 : (List Pattern_place) → Int → Int → Int → Option ((Nat × Int × Int) ⊕ (Int × Int))) (l25 : List Pattern_place) (x26 : Int) (x27 : Int) : Option ((Nat × Int × Int) ⊕ (Int × Int)) :=
 rec_pattern_places_1_L1 l25 (w64 (x8 + 1)) x27 x26
def jG (a1 : qF) (a2 : List Product) (a5 : qF) (a6 : Int) : Nat → (List Pattern_place) → Int → Int → Int → Option ((Nat × Int × Int) ⊕ (Int × Int))
 | 0, _, _, _, _ => none
 | n + 1, l7, x8, x9, x10 =>
 bif decide (((l7.length : Nat) : Int) > 0) then
 bif inb (w64 (((l7.length : Nat) : Int) - 1)) l7.length then
 bif slOk 0 (w64 (((l7.length : Nat) : Int) - 1)) l7.length then
 (jH x8 (l7.getD ((w64 (((l7.length : Nat) : Int) - 1)).toNat) default) a1 a2 x9 x10).bind fun v14 =>
 bif !(Nat.beq v14.1 0) then
 some (Sum.inl (v14.1, v14.2.1, v14.2.2))
 else
 bif decide (x8 ≥ ((a5.Nodes.length : Nat) : Int)) then
 some (Sum.inl (0, v14.2.1, v14.2.2))
 else
 bif inb x8 a5.Nodes.length then
 (wA ((a5.Nodes.getD x8.toNat default).Kind)).bind fun v19 =>
 bif v19 then
 (jS ((l7.getD ((w64 (((l7.length : Nat) : Int) - 1)).toNat) default).rect) (a5.Nodes.getD x8.toNat default) a6).bind fun v22 =>
 bif room ((w64 (((l7.length : Nat) : Int) - 1)).toNat + 2) 40 then
 YU x8 (jG a1 a2 a5 a6 n) ((l7.take ((w64 (((l7.length : Nat) : Int) - 1)).toNat)) ++ ([(Pattern_place.mk v22.2.2 (w64 (((l7.getD ((w64 (((l7.length : Nat) : Int) - 1)).toNat) default).level) + 1))), (Pattern_place.mk v22.1 (w64 (((l7.getD ((w64 (((l7.length : Nat) : Int) - 1)).toNat) default).level) + 1)))] : List Pattern_place)) v14.2.2 v14.2.1
 else none
 else
 YU x8 (jG a1 a2 a5 a6 n) (l7.take ((w64 (((l7.length : Nat) : Int) - 1)).toNat)) v14.2.2 v14.2.1
 else none
 else none
 else none
 else
 some (Sum.inr (x10, x9))
def YN (a1 : qF) (a2 : List Product) (a3 : Int) (a4 : Int) (a5 : qF) (a6 : Int) : Option (Nat × Int × Int) :=
 (jG a1 a2 a5 a6 FUEL ([(Pattern_place.mk a5.Frame 1)] : List Pattern_place) 0 a3 a4).bind fun u32 => Sum.elim (fun v33 => some v33) (fun o30 =>
 some (0, o30.2, o30.1)) u32
/- sawmill/pattern.check -/
def ZX (a1 : qF) (a2 : Int) (a3 : List Product) (x8 : Bool) : Option Int :=
 bif x8 then
 some 9
 else
 bif decide (((a1.Nodes.length : Nat) : Int) > 127) then
 some 4
 else
 (jF a1 a2).bind fun v11 =>
 (YN a1 a3 0 0 v11.1 v11.2).bind fun v13 =>
 bif Nat.beq v13.1 0 then
 bif decide (v13.2.2 < ((a1.Nodes.length : Nat) : Int)) then
 some 4
 else
 some 0
 else
 bif Nat.beq v13.1 1 then
 some v13.2.1
 else
 none
def NQ (a1 : qF) (a2 : Int) (a3 : List Product) : Option Int :=
 (jJ a1.Frame).bind fun v4 =>
 bif !v4 then
 some 19
 else
 bif decide (a2 < 0) then
 ZX a1 a2 a3 true
 else
 ZX a1 a2 a3 (decide (a2 > 20))
/- sawmill/pattern.Check -/
def UB (a1 : qF) (a2 : List Product) (a3 : Int) : Option Int :=
 (NQ a1 a3 a2).bind fun v4 =>
 some v4
/- sawmill/yield.check -/
def UI (a1 : List qD) (a2 : List Defect) (a3 : List Product) (a4 : qF) (a5 : Saw) (a6 : Rates) : Option Int :=
 (JM a1).bind fun v7 =>
 bif v7 != 0 then
 some v7
 else
 (YK a2).bind fun v10 =>
 bif v10 != 0 then
 some v10
 else
 (QZ a3).bind fun v13 =>
 bif v13 != 0 then
 some v13
 else
 (UL a5 a6).bind fun v16 =>
 bif v16 != 0 then
 some v16
 else
 (UB a4 a3 a5.Kerf).bind fun v19 =>
 some v19
/- sawmill/pattern.anyBoard -/
def XB (x4 : Bool) : Option Int :=
 bif x4 then
 some 8
 else
 some 0
def YE (a1 : Rect) (a2 : Int) : Option Int :=
 bif decide (a2 < 0) then
 XB true
 else
 XB (decide (a2 ≥ 16))
/- sawmill/pattern.check -/
def QF (a1 : Int) (a4 : Int) (a5 : Int) (x15 : Int) : Option (Nat × Int × Int) :=
 bif x15 != 0 then
 some (1, x15, a5)
 else
 some (0, a4, w64 (a1 + 1))
def QD (a1 : Int) (a2 : Pattern_place) (a3 : qF) (a4 : Int) (a5 : Int) (v8 : Int) (x11 : Bool) : Option (Nat × Int × Int) :=
 bif x11 then
 (YE a2.rect ((a3.Nodes.getD a1.toNat default).At)).bind fun v13 =>
 QF a1 a4 a5 v13
 else
 QF a1 a4 a5 v8
def wH (a1 : Int) (a2 : Pattern_place) (a3 : qF) (a4 : Int) (a5 : Int) : Option (Nat × Int × Int) :=
 bif decide (a1 ≥ ((a3.Nodes.length : Nat) : Int)) then
 some (1, 3, a5)
 else
 bif inb a1 a3.Nodes.length then
 (QV (a3.Nodes.getD a1.toNat default) a2).bind fun v8 =>
 bif v8 == 0 then
 QD a1 a2 a3 a4 a5 v8 (((a3.Nodes.getD a1.toNat default).Kind) == 1)
 else
 QD a1 a2 a3 a4 a5 v8 false
 else none
/- sawmill/pattern.places$1 -/
def WG (x7 : Int) (rec_pattern_places_1_s1_L1 : (List Pattern_place) → Int → Int → Int → Option ((Nat × Int × Int) ⊕ (Int × Int))) (l24 : List Pattern_place) (x25 : Int) (x26 : Int) : Option ((Nat × Int × Int) ⊕ (Int × Int)) :=
 rec_pattern_places_1_s1_L1 l24 (w64 (x7 + 1)) x26 x25
def wG (a1 : qF) (a4 : qF) (a5 : Int) : Nat → (List Pattern_place) → Int → Int → Int → Option ((Nat × Int × Int) ⊕ (Int × Int))
 | 0, _, _, _, _ => none
 | n + 1, l6, x7, x8, x9 =>
 bif decide (((l6.length : Nat) : Int) > 0) then
 bif inb (w64 (((l6.length : Nat) : Int) - 1)) l6.length then
 bif slOk 0 (w64 (((l6.length : Nat) : Int) - 1)) l6.length then
 (wH x7 (l6.getD ((w64 (((l6.length : Nat) : Int) - 1)).toNat) default) a1 x8 x9).bind fun v13 =>
 bif !(Nat.beq v13.1 0) then
 some (Sum.inl (v13.1, v13.2.1, v13.2.2))
 else
 bif decide (x7 ≥ ((a4.Nodes.length : Nat) : Int)) then
 some (Sum.inl (0, v13.2.1, v13.2.2))
 else
 bif inb x7 a4.Nodes.length then
 (wA ((a4.Nodes.getD x7.toNat default).Kind)).bind fun v18 =>
 bif v18 then
 (jS ((l6.getD ((w64 (((l6.length : Nat) : Int) - 1)).toNat) default).rect) (a4.Nodes.getD x7.toNat default) a5).bind fun v21 =>
 bif room ((w64 (((l6.length : Nat) : Int) - 1)).toNat + 2) 40 then
 WG x7 (wG a1 a4 a5 n) ((l6.take ((w64 (((l6.length : Nat) : Int) - 1)).toNat)) ++ ([(Pattern_place.mk v21.2.2 (w64 (((l6.getD ((w64 (((l6.length : Nat) : Int) - 1)).toNat) default).level) + 1))), (Pattern_place.mk v21.1 (w64 (((l6.getD ((w64 (((l6.length : Nat) : Int) - 1)).toNat) default).level) + 1)))] : List Pattern_place)) v13.2.2 v13.2.1
 else none
 else
 WG x7 (wG a1 a4 a5 n) (l6.take ((w64 (((l6.length : Nat) : Int) - 1)).toNat)) v13.2.2 v13.2.1
 else none
 else none
 else none
 else
 some (Sum.inr (x9, x8))
def ZI (a1 : qF) (a2 : Int) (a3 : Int) (a4 : qF) (a5 : Int) : Option (Nat × Int × Int) :=
 (wG a1 a4 a5 FUEL ([(Pattern_place.mk a4.Frame 1)] : List Pattern_place) 0 a2 a3).bind fun u31 => Sum.elim (fun v32 => some v32) (fun o29 =>
 some (0, o29.2, o29.1)) u31
/- sawmill/pattern.check -/
def XD (a1 : qF) (a2 : Int) (x7 : Bool) : Option Int :=
 bif x7 then
 some 9
 else
 bif decide (((a1.Nodes.length : Nat) : Int) > 127) then
 some 4
 else
 (jF a1 a2).bind fun v10 =>
 (ZI a1 0 0 v10.1 v10.2).bind fun v12 =>
 bif Nat.beq v12.1 0 then
 bif decide (v12.2.2 < ((a1.Nodes.length : Nat) : Int)) then
 some 4
 else
 some 0
 else
 bif Nat.beq v12.1 1 then
 some v12.2.1
 else
 none
def ZQ (a1 : qF) (a2 : Int) : Option Int :=
 (jJ a1.Frame).bind fun v3 =>
 bif !v3 then
 some 19
 else
 bif decide (a2 < 0) then
 XD a1 a2 true
 else
 XD a1 a2 (decide (a2 > 20))
/- sawmill/pattern.Leaves -/
def wX (a1 : Int) (a2 : Pattern_place) (a3 : qF) (a4 : List Leaf) : Option (Nat × (List Leaf)) :=
 bif inb a1 a3.Nodes.length then
 bif ((a3.Nodes.getD a1.toNat default).Kind) == 0 then
 bif room (a4.length + 1) 40 then
 some (0, (a4 ++ ([(Leaf.mk a2.rect (-1))] : List Leaf)))
 else none
 else
 bif ((a3.Nodes.getD a1.toNat default).Kind) == 1 then
 bif room (a4.length + 1) 40 then
 some (0, (a4 ++ ([(Leaf.mk a2.rect ((a3.Nodes.getD a1.toNat default).At))] : List Leaf)))
 else none
 else
 some (0, a4)
 else none
/- sawmill/pattern.places$1 -/
def WC (x6 : Int) (rec_pattern_places_1_s2_L1 : (List Pattern_place) → Int → (List Leaf) → Option ((Nat × (List Leaf)) ⊕ (List Leaf))) (l22 : List Pattern_place) (l23 : List Leaf) : Option ((Nat × (List Leaf)) ⊕ (List Leaf)) :=
 rec_pattern_places_1_s2_L1 l22 (w64 (x6 + 1)) l23
def wI (a1 : qF) (a2 : qF) (a3 : Int) : Nat → (List Pattern_place) → Int → (List Leaf) → Option ((Nat × (List Leaf)) ⊕ (List Leaf))
 | 0, _, _, _ => none
 | n + 1, l5, x6, l7 =>
 bif decide (((l5.length : Nat) : Int) > 0) then
 bif inb (w64 (((l5.length : Nat) : Int) - 1)) l5.length then
 bif slOk 0 (w64 (((l5.length : Nat) : Int) - 1)) l5.length then
 (wX x6 (l5.getD ((w64 (((l5.length : Nat) : Int) - 1)).toNat) default) a1 l7).bind fun v11 =>
 bif !(Nat.beq v11.1 0) then
 some (Sum.inl (v11.1, v11.2))
 else
 bif decide (x6 ≥ ((a2.Nodes.length : Nat) : Int)) then
 some (Sum.inl (0, v11.2))
 else
 bif inb x6 a2.Nodes.length then
 (wA ((a2.Nodes.getD x6.toNat default).Kind)).bind fun v16 =>
 bif v16 then
 (jS ((l5.getD ((w64 (((l5.length : Nat) : Int) - 1)).toNat) default).rect) (a2.Nodes.getD x6.toNat default) a3).bind fun v19 =>
 bif room ((w64 (((l5.length : Nat) : Int) - 1)).toNat + 2) 40 then
 WC x6 (wI a1 a2 a3 n) ((l5.take ((w64 (((l5.length : Nat) : Int) - 1)).toNat)) ++ ([(Pattern_place.mk v19.2.2 (w64 (((l5.getD ((w64 (((l5.length : Nat) : Int) - 1)).toNat) default).level) + 1))), (Pattern_place.mk v19.1 (w64 (((l5.getD ((w64 (((l5.length : Nat) : Int) - 1)).toNat) default).level) + 1)))] : List Pattern_place)) v11.2
 else none
 else
 WC x6 (wI a1 a2 a3 n) (l5.take ((w64 (((l5.length : Nat) : Int) - 1)).toNat)) v11.2
 else none
 else none
 else none
 else
 some (Sum.inr l7)
def ZK (a1 : qF) (a2 : qF) (a3 : Int) (a4 : List Leaf) : Option (Nat × (List Leaf)) :=
 (wI a1 a2 a3 FUEL ([(Pattern_place.mk a2.Frame 1)] : List Pattern_place) 0 a4).bind fun u27 => Sum.elim (fun v28 => some v28) (fun o25 =>
 some (0, o25)) u27
/- sawmill/pattern.Leaves -/
def PS (a1 : qF) (a2 : Int) : Option ((List Leaf) × Int) :=
 (ZQ a1 a2).bind fun v3 =>
 bif v3 != 0 then
 some (([] : List Leaf), v3)
 else
 (jF a1 a2).bind fun v6 =>
 (ZK a1 v6.1 v6.2 ([] : List Leaf)).bind fun v8 =>
 bif Nat.beq v8.1 0 then
 some (v8.2, 0)
 else
 none
/- sawmill/yield.boardLeaves -/
def KV (a1 : List Leaf) : Option (List Leaf) :=
 some a1
/- sawmill/yield.box -/
def KG (a1 : Rect) (a2 : Span) : Option Box :=
 some (Box.mk a1.X a1.Y a2)
/- sawmill/yield.Boards -/
def XL (a1 : Int) (a2 : Leaf) (a3 : List qD) (a4 : List Defect) (a5 : List Product) (a6 : Saw) (a7 : Int) (a8 : List Yield_Cut) : Option (Nat × (List Yield_Cut)) :=
 bif inb a2.Product a5.length then
 (DV a3 a4 (a5.getD a2.Product.toNat default) a2.Rect a6.Step a7).bind fun v10 =>
 bif v10.2.2 then
 (KG a2.Rect v10.1).bind fun v13 =>
 bif room (a8.length + 1) 72 then
 some (0, (a8 ++ ([(Yield_Cut.mk a1 a2.Product v13 v10.2.1)] : List Yield_Cut)))
 else none
 else
 some (0, a8)
 else none
/- sawmill/yield.boardLeaves$1 -/
def WE (x8 : Int) (rec_yield_boardLeaves_1_L1 : Int → (List Yield_Cut) → Option ((Nat × (List Yield_Cut)) ⊕ (List Yield_Cut))) (l16 : List Yield_Cut) : Option ((Nat × (List Yield_Cut)) ⊕ (List Yield_Cut)) :=
 rec_yield_boardLeaves_1_L1 (w64 (x8 + 1)) l16
def zK (a1 : List qD) (a2 : List Defect) (a3 : List Product) (a4 : Saw) (a5 : Int) (a6 : List Leaf) : Nat → Int → (List Yield_Cut) → Option ((Nat × (List Yield_Cut)) ⊕ (List Yield_Cut))
 | 0, _, _ => none
 | n + 1, x8, l9 =>
 bif decide (x8 < ((a6.length : Nat) : Int)) then
 bif inb x8 a6.length then
 bif ((a6.getD x8.toNat default).Product) != (-1) then
 (XL x8 (a6.getD x8.toNat default) a1 a2 a3 a4 a5 l9).bind fun v13 =>
 bif !(Nat.beq v13.1 0) then
 some (Sum.inl (v13.1, v13.2))
 else
 WE x8 (zK a1 a2 a3 a4 a5 a6 n) v13.2
 else
 WE x8 (zK a1 a2 a3 a4 a5 a6 n) l9
 else none
 else
 some (Sum.inr l9)
def ZJ (a1 : List qD) (a2 : List Defect) (a3 : List Product) (a4 : Saw) (a5 : Int) (a6 : List Leaf) (a7 : List Yield_Cut) : Option (Nat × (List Yield_Cut)) :=
 (zK a1 a2 a3 a4 a5 a6 FUEL 0 a7).bind fun u20 => Sum.elim (fun v21 => some v21) (fun o18 =>
 some (0, o18)) u20
/- sawmill/yield.Boards -/
def DB (a1 : List qD) (a2 : List Defect) (a3 : List Product) (a4 : qF) (a5 : Saw) (a6 : Int) : Option ((List Yield_Cut) × Int) :=
 (UI a1 a2 a3 a4 a5 (Rates.mk 0 0 a6)).bind fun v7 =>
 bif v7 != 0 then
 some (([] : List Yield_Cut), v7)
 else
 (PS a4 a5.Kerf).bind fun v10 =>
 bif v10.2 != 0 then
 some (([] : List Yield_Cut), v10.2)
 else
 (KV v10.1).bind fun v13 =>
 (ZJ a1 a2 a3 a5 a6 v13 ([] : List Yield_Cut)).bind fun v15 =>
 bif Nat.beq v15.1 0 then
 some (v15.2, 0)
 else
 none
/- sawmill/pattern.Cuts -/
def jR (a1 : Int) (a2 : Pattern_place) (a3 : qF) (a4 : Int) (a5 : List Rect) : Option (Nat × (List Rect)) :=
 bif inb a1 a3.Nodes.length then
 (wA ((a3.Nodes.getD a1.toNat default).Kind)).bind fun v7 =>
 bif v7 then
 (jS a2.rect (a3.Nodes.getD a1.toNat default) a4).bind fun v10 =>
 bif room (a5.length + 1) 32 then
 some (0, (a5 ++ ([v10.2.1] : List Rect)))
 else none
 else
 some (0, a5)
 else none
/- sawmill/pattern.places$1 -/
def WB (x7 : Int) (rec_pattern_places_1_s3_L1 : (List Pattern_place) → Int → (List Rect) → Option ((Nat × (List Rect)) ⊕ (List Rect))) (l23 : List Pattern_place) (l24 : List Rect) : Option ((Nat × (List Rect)) ⊕ (List Rect)) :=
 rec_pattern_places_1_s3_L1 l23 (w64 (x7 + 1)) l24
def wJ (a1 : qF) (a2 : Int) (a3 : qF) (a4 : Int) : Nat → (List Pattern_place) → Int → (List Rect) → Option ((Nat × (List Rect)) ⊕ (List Rect))
 | 0, _, _, _ => none
 | n + 1, l6, x7, l8 =>
 bif decide (((l6.length : Nat) : Int) > 0) then
 bif inb (w64 (((l6.length : Nat) : Int) - 1)) l6.length then
 bif slOk 0 (w64 (((l6.length : Nat) : Int) - 1)) l6.length then
 (jR x7 (l6.getD ((w64 (((l6.length : Nat) : Int) - 1)).toNat) default) a1 a2 l8).bind fun v12 =>
 bif !(Nat.beq v12.1 0) then
 some (Sum.inl (v12.1, v12.2))
 else
 bif decide (x7 ≥ ((a3.Nodes.length : Nat) : Int)) then
 some (Sum.inl (0, v12.2))
 else
 bif inb x7 a3.Nodes.length then
 (wA ((a3.Nodes.getD x7.toNat default).Kind)).bind fun v17 =>
 bif v17 then
 (jS ((l6.getD ((w64 (((l6.length : Nat) : Int) - 1)).toNat) default).rect) (a3.Nodes.getD x7.toNat default) a4).bind fun v20 =>
 bif room ((w64 (((l6.length : Nat) : Int) - 1)).toNat + 2) 40 then
 WB x7 (wJ a1 a2 a3 a4 n) ((l6.take ((w64 (((l6.length : Nat) : Int) - 1)).toNat)) ++ ([(Pattern_place.mk v20.2.2 (w64 (((l6.getD ((w64 (((l6.length : Nat) : Int) - 1)).toNat) default).level) + 1))), (Pattern_place.mk v20.1 (w64 (((l6.getD ((w64 (((l6.length : Nat) : Int) - 1)).toNat) default).level) + 1)))] : List Pattern_place)) v12.2
 else none
 else
 WB x7 (wJ a1 a2 a3 a4 n) (l6.take ((w64 (((l6.length : Nat) : Int) - 1)).toNat)) v12.2
 else none
 else none
 else none
 else
 some (Sum.inr l8)
def ZL (a1 : qF) (a2 : Int) (a3 : qF) (a4 : Int) (a5 : List Rect) : Option (Nat × (List Rect)) :=
 (wJ a1 a2 a3 a4 FUEL ([(Pattern_place.mk a3.Frame 1)] : List Pattern_place) 0 a5).bind fun u28 => Sum.elim (fun v29 => some v29) (fun o26 =>
 some (0, o26)) u28
/- sawmill/pattern.Cuts -/
def VJ (a1 : qF) (a2 : Int) : Option ((List Rect) × Int) :=
 (ZQ a1 a2).bind fun v3 =>
 bif v3 != 0 then
 some (([] : List Rect), v3)
 else
 (jF a1 a2).bind fun v6 =>
 (ZL a1 a2 v6.1 v6.2 ([] : List Rect)).bind fun v8 =>
 bif Nat.beq v8.1 0 then
 some (v8.2, 0)
 else
 none
/- sawmill/section.Area -/
def WV (v2 : qL) : Nat → Int → Int → Option Int
 | 0, _, _ => none
 | n + 1, x4, x5 =>
 bif decide (x5 < ((v2.Rows.length : Nat) : Int)) then
 bif inb x5 v2.Rows.length then
 (WX (v2.Rows.getD x5.toNat default)).bind fun v8 =>
 (WV v2 n) (w64 (x4 + v8)) (w64 (x5 + 1))
 else none
 else
 some x4
def DA (a1 : qL) : Option Int :=
 (XK a1).bind fun v2 =>
 (WV v2 FUEL 0 0).bind fun o11 =>
 some (w64 (10 * o11))
/- sawmill/solid.Volume -/
def WO (v2 : (List qD)) : Nat → Int → Int → Option Int
 | 0, _, _ => none
 | n + 1, x4, x5 =>
 bif decide (x5 < ((v2.length : Nat) : Int)) then
 bif inb x5 v2.length then
 (DA ((v2.getD x5.toNat default).Sec)).bind fun v8 =>
 (WO v2 n) (w64 (x4 + (w64 (((v2.getD x5.toNat default).Len) * v8)))) (w64 (x5 + 1))
 else none
 else
 some x4
def PV (a1 : List qD) : Option Int :=
 (KU a1).bind fun v2 =>
 (WO v2 FUEL 0 0).bind fun o11 =>
 some o11
/- sawmill/yield.Of -/
def KR (a1 : List qD) (v13 : (List Rect) × Int) (v16 : Int) (v18 : Int) : Nat → Int → Int → Option Yield
 | 0, _, _ => none
 | n + 1, x20, x21 =>
 bif decide (x20 < ((v13.1.length : Nat) : Int)) then
 bif inb x20 v13.1.length then
 (KG (v13.1.getD x20.toNat default) (Span.mk 0 v16)).bind fun v24 =>
 (yP a1 v24).bind fun v26 =>
 (KR a1 v13 v16 v18 n) (w64 (x20 + 1)) (w64 (x21 + v26))
 else none
 else
 some (Yield.mk v18 0 0 x21 0)
def KP (a1 : List qD) (a5 : Saw) (v10 : (List Yield_Cut) × Int) (v16 : Int) (o29 : Yield) : Nat → Int → Int → Int → Int → Option Yield
 | 0, _, _, _, _ => none
 | n + 1, x31, x32, x33, x34 =>
 bif decide (x31 < ((v10.1.length : Nat) : Int)) then
 bif inb x31 v10.1.length then
 (yP a1 ((v10.1.getD x31.toNat default).Box)).bind fun v37 =>
 (KG (Rect.mk (((v10.1.getD x31.toNat default).Box).X) (((v10.1.getD x31.toNat default).Box).Y)) (Span.mk (imax 0 (w64 (((((v10.1.getD x31.toNat default).Box).Z).A) - a5.Trim))) ((((v10.1.getD x31.toNat default).Box).Z).A))).bind fun v39 =>
 (yP a1 v39).bind fun v41 =>
 (KG (Rect.mk (((v10.1.getD x31.toNat default).Box).X) (((v10.1.getD x31.toNat default).Box).Y)) (Span.mk ((((v10.1.getD x31.toNat default).Box).Z).B) (imin (w64 (((((v10.1.getD x31.toNat default).Box).Z).B) + a5.Trim)) v16))).bind fun v43 =>
 (yP a1 v43).bind fun v45 =>
 (KP a1 a5 v10 v16 o29 n) (w64 (x31 + 1)) (w64 (x32 + v37)) (w64 ((w64 (x33 + v41)) + v45)) (w64 (x34 + (w64 (1000000 * ((v10.1.getD x31.toNat default).Worth)))))
 else none
 else
 some (Yield.mk o29.Log x32 o29.Chips x33 x34)
def CH (a1 : List qD) (a2 : List Defect) (a3 : List Product) (a4 : qF) (a5 : Saw) (a6 : Rates) : Option (Yield × Int) :=
 (UI a1 a2 a3 a4 a5 a6).bind fun v7 =>
 bif v7 != 0 then
 some ((Yield.mk 0 0 0 0 0), v7)
 else
 (DB a1 a2 a3 a4 a5 a6.Fine).bind fun v10 =>
 bif v10.2 != 0 then
 some ((Yield.mk 0 0 0 0 0), v10.2)
 else
 (VJ a4 a5.Kerf).bind fun v13 =>
 bif v13.2 != 0 then
 some ((Yield.mk 0 0 0 0 0), v13.2)
 else
 (QT a1).bind fun v16 =>
 (PV a1).bind fun v18 =>
 (KR a1 v13 v16 v18 FUEL 0 0).bind fun o29 =>
 (KP a1 a5 v10 v16 o29 FUEL 0 o29.Boards o29.Dust o29.Value).bind fun o48 =>
 some ((Yield.mk o48.Log o48.Boards (w64 ((w64 (o48.Log - o48.Boards)) - o48.Dust)) o48.Dust (w64 (o48.Value + (w64 ((w64 (a6.Chip * (w64 ((w64 (o48.Log - o48.Boards)) - o48.Dust)))) + (w64 (a6.Dust * o48.Dust))))))), 0)
/- sawmill/sawmilllaw23.EdgeYields -/
def XA (x14 : Bool) : Option Bool :=
 some x14
def YX (x27 : Bool) : Option Bool :=
 some x27
def RZ (a1 : qP) : Option Bool :=
 (BW a1).bind fun v2 =>
 bif !v2 then
 (UJ).bind fun v5 =>
 some v5
 else
 (TB a1).bind fun v7 =>
 bif v7.2.2 != 0 then
 bif ((v7.1.length : Nat) : Int) == 0 then
 bif v7.2.1 == 0 then
 (UJ).bind fun v12 =>
 XA v12
 else
 XA false
 else
 XA false
 else
 (CH a1.Solid a1.Defects a1.Products (qF.mk a1.Strip v7.1) a1.Saw a1.Rates).bind fun v15 =>
 (QT a1.Solid).bind fun v17 =>
 (yP a1.Solid (Box.mk a1.Strip.X a1.Strip.Y (Span.mk 0 v17))).bind fun v19 =>
 bif v15.2 == 0 then
 (PV a1.Solid).bind fun v22 =>
 bif v15.1.Value == (w64 (v7.2.1 + (w64 (a1.Rates.Chip * (w64 (v22 - v19)))))) then
 (UJ).bind fun v25 =>
 YX v25
 else
 YX false
 else
 YX false
end Saw
end Go.SL

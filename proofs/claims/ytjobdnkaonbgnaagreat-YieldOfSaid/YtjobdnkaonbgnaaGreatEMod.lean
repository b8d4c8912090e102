import Derived.Test.YtjobdnkaonbgnaaGreatYa6
set_option linter.unusedVariables false
set_option linter.unusedSimpArgs false
namespace Go.SL
namespace Saw
structure Span where
 A : Int
 B : Int
instance : Inhabited Span := ⟨⟨0, 0⟩⟩
def e_Span (r : Span) : List C := [ci r.A, ci r.B]
structure qK where
 Low : Int
 Rows : List Span
instance : Inhabited qK := ⟨⟨0, []⟩⟩
def qW (r : qK) : List C := [ci r.Low, tl e_Span default r.Rows]
structure Slice where
 Len : Int
 Sec : qK
instance : Inhabited Slice := ⟨⟨0, default⟩⟩
def qH (r : Slice) : List C := [ci r.Len, ci r.Sec.Low, tl e_Span default r.Sec.Rows]
structure Box where
 X : Span
 Y : Span
 Z : Span
instance : Inhabited Box := ⟨⟨default, default, default⟩⟩
def zC (r : Box) : List C := [ci r.X.A, ci r.X.B, ci r.Y.A, ci r.Y.B, ci r.Z.A, ci r.Z.B]
structure Defect where
 Kind : Int
 Box : Box
instance : Inhabited Defect := ⟨⟨0, default⟩⟩
def qI (r : Defect) : List C := [ci r.Kind, ci r.Box.X.A, ci r.Box.X.B, ci r.Box.Y.A, ci r.Box.Y.B, ci r.Box.Z.A, ci r.Box.Z.B]
structure Product where
 Name : ByteArray
 Thick : Int
 Width : Int
 Allow : Int
 Wane : Int
 Lengths : List Int
 Prices : List Int
instance : Inhabited Product := ⟨⟨⟨#[]⟩, 0, 0, 0, 0, [], []⟩⟩
def qA (r : Product) : List C := [cs r.Name, ci r.Thick, ci r.Width, ci r.Allow, ci r.Wane, tl qO default r.Lengths, tl qO default r.Prices]
structure Rect where
 X : Span
 Y : Span
instance : Inhabited Rect := ⟨⟨default, default⟩⟩
def qE (r : Rect) : List C := [ci r.X.A, ci r.X.B, ci r.Y.A, ci r.Y.B]
structure Node where
 Kind : Int
 At : Int
instance : Inhabited Node := ⟨⟨0, 0⟩⟩
def qJ (r : Node) : List C := [ci r.Kind, ci r.At]
structure Pattern where
 Frame : Rect
 Nodes : List Node
instance : Inhabited Pattern := ⟨⟨default, []⟩⟩
def qF (r : Pattern) : List C := [ci r.Frame.X.A, ci r.Frame.X.B, ci r.Frame.Y.A, ci r.Frame.Y.B, tl qJ default r.Nodes]
structure Saw where
 Kerf : Int
 Trim : Int
 Pitch : Int
 Step : Int
instance : Inhabited Saw := ⟨⟨0, 0, 0, 0⟩⟩
def zZ (r : Saw) : List C := [ci r.Kerf, ci r.Trim, ci r.Pitch, ci r.Step]
structure Rates where
 Chip : Int
 Dust : Int
 Fine : Int
instance : Inhabited Rates := ⟨⟨0, 0, 0⟩⟩
def wM (r : Rates) : List C := [ci r.Chip, ci r.Dust, ci r.Fine]
structure Law22_Given where
 Solid : List Slice
 Defects : List Defect
 Products : List Product
 Pattern : Pattern
 Saw : Saw
 Rates : Rates
instance : Inhabited Law22_Given := ⟨⟨[], [], [], default, default, default⟩⟩
def qX (r : Law22_Given) : List C := [tl qH default r.Solid, tl qI default r.Defects, tl qA default r.Products, ci r.Pattern.Frame.X.A, ci r.Pattern.Frame.X.B, ci r.Pattern.Frame.Y.A, ci r.Pattern.Frame.Y.B, tl qJ default r.Pattern.Nodes, ci r.Saw.Kerf, ci r.Saw.Trim, ci r.Saw.Pitch, ci r.Saw.Step, ci r.Rates.Chip, ci r.Rates.Dust, ci r.Rates.Fine]
structure Pattern_place where
 rect : Rect
 level : Int
instance : Inhabited Pattern_place := ⟨⟨default, 0⟩⟩
def e_Pattern_place (r : Pattern_place) : List C := [ci r.rect.X.A, ci r.rect.X.B, ci r.rect.Y.A, ci r.rect.Y.B, ci r.level]
structure Leaf where
 Rect : Rect
 Product : Int
instance : Inhabited Leaf := ⟨⟨default, 0⟩⟩
def qG (r : Leaf) : List C := [ci r.Rect.X.A, ci r.Rect.X.B, ci r.Rect.Y.A, ci r.Rect.Y.B, ci r.Product]
structure Yield_Cut where
 Leaf : Int
 Product : Int
 Box : Box
 Worth : Int
instance : Inhabited Yield_Cut := ⟨⟨0, 0, default, 0⟩⟩
def qR (r : Yield_Cut) : List C := [ci r.Leaf, ci r.Product, ci r.Box.X.A, ci r.Box.X.B, ci r.Box.Y.A, ci r.Box.Y.B, ci r.Box.Z.A, ci r.Box.Z.B, ci r.Worth]
structure Worth_zone where
 z : Span
 lack : Int
instance : Inhabited Worth_zone := ⟨⟨default, 0⟩⟩
def qN (r : Worth_zone) : List C := [ci r.z.A, ci r.z.B, ci r.lack]
structure Worth_view where
 product : Product
 rect : Rect
 length : Int
 zones : List Worth_zone
 defects : List Defect
instance : Inhabited Worth_view := ⟨⟨default, default, 0, [], []⟩⟩
def BN (r : Worth_view) : List C := [cs r.product.Name, ci r.product.Thick, ci r.product.Width, ci r.product.Allow, ci r.product.Wane, tl qO default r.product.Lengths, tl qO default r.product.Prices, ci r.rect.X.A, ci r.rect.X.B, ci r.rect.Y.A, ci r.rect.Y.B, ci r.length, tl qN default r.zones, tl qI default r.defects]
structure Yield where
 Log : Int
 Boards : Int
 Chips : Int
 Dust : Int
 Value : Int
instance : Inhabited Yield := ⟨⟨0, 0, 0, 0, 0⟩⟩
def wG (r : Yield) : List C := [ci r.Log, ci r.Boards, ci r.Chips, ci r.Dust, ci r.Value]
structure Ref22_Cut where
 Leaf : Int
 Product : Int
 Box : Box
 Worth : Int
instance : Inhabited Ref22_Cut := ⟨⟨0, 0, default, 0⟩⟩
def wF (r : Ref22_Cut) : List C := [ci r.Leaf, ci r.Product, ci r.Box.X.A, ci r.Box.X.B, ci r.Box.Y.A, ci r.Box.Y.B, ci r.Box.Z.A, ci r.Box.Z.B, ci r.Worth]
def globs : List (Nat × C) := []
/- sawmill/sawmilllaw22.Work -/
def UM (a1 : Law22_Given) (x2 : Int) (x3 : Int) (rec_law22_Work_L1 : Int → Int → Option Int) (x5 : Bool) : Option Int :=
 bif x5 then
 bif inb x3 a1.Solid.length then
 rec_law22_Work_L1 (imin 20000 (w64 (x2 + (imax 0 (imin 20000 ((a1.Solid.getD x3.toNat default).Len)))))) (w64 (x3 + 1))
 else none
 else
 some x2
def ZN (a1 : Law22_Given) : Nat → Int → Int → Option Int
 | 0, _, _ => none
 | n + 1, x2, x3 =>
 bif decide (x3 < ((a1.Solid.length : Nat) : Int)) then
 UM a1 x2 x3 (ZN a1 n) (decide (x3 < 30))
 else
 UM a1 x2 x3 (ZN a1 n) false
def KD (a1 : Law22_Given) : Nat → Int → Int → Option Int
 | 0, _, _ => none
 | n + 1, x11, x12 =>
 bif decide (x12 < ((a1.Products.length : Nat) : Int)) then
 bif inb x12 a1.Products.length then
 (KD a1 n) (imax x11 (imin 10 ((((a1.Products.getD x12.toNat default).Lengths).length : Nat) : Int))) (w64 (x12 + 1))
 else none
 else
 some x11
def MJ (a1 : Law22_Given) (o16 : Int) (x20 : Int) : Option Int :=
 some (w64 ((w64 ((w64 (x20 * o16)) * (w64 (1 + (imin 30 ((a1.Solid.length : Nat) : Int)))))) * (w64 (1 + (imin 140 ((a1.Pattern.Nodes.length : Nat) : Int))))))
def ED (a1 : Law22_Given) : Option Int :=
 (ZN a1 FUEL 0 0).bind fun o9 =>
 (KD a1 FUEL 1 0).bind fun o16 =>
 bif decide (a1.Saw.Step > 0) then
 bif nz a1.Saw.Step then
 MJ a1 o16 (w64 (1 + (w64 (Int.tdiv o9 a1.Saw.Step))))
 else none
 else
 MJ a1 o16 1
/- sawmill/sawmilllaw22.Small -/
def YU (a1 : Law22_Given) : Nat → Int → Option (Bool ⊕ Unit)
 | 0, _ => none
 | n + 1, x10 =>
 bif decide (x10 < ((a1.Solid.length : Nat) : Int)) then
 bif inb x10 a1.Solid.length then
 bif decide ((((((a1.Solid.getD x10.toNat default).Sec).Rows).length : Nat) : Int) > 130) then
 some (Sum.inl false)
 else
 (YU a1 n) (w64 (x10 + 1))
 else none
 else
 some (Sum.inr ())
def TF (x18 : Int) (rec_law22_Small_L3 : Int → Option (Bool ⊕ Unit)) (x23 : Bool) : Option (Bool ⊕ Unit) :=
 bif x23 then
 some (Sum.inl false)
 else
 rec_law22_Small_L3 (w64 (x18 + 1))
def yA (a1 : Law22_Given) : Nat → Int → Option (Bool ⊕ Unit)
 | 0, _ => none
 | n + 1, x18 =>
 bif decide (x18 < ((a1.Products.length : Nat) : Int)) then
 bif inb x18 a1.Products.length then
 bif decide (((((a1.Products.getD x18.toNat default).Lengths).length : Nat) : Int) > 10) then
 TF x18 (yA a1 n) true
 else
 bif decide (((((a1.Products.getD x18.toNat default).Prices).length : Nat) : Int) > 10) then
 TF x18 (yA a1 n) true
 else
 TF x18 (yA a1 n) (decide (((((a1.Products.getD x18.toNat default).Name).size : Nat) : Int) > 100))
 else none
 else
 some (Sum.inr ())
def yL (a1 : Law22_Given) (x8 : Bool) : Option Bool :=
 bif x8 then
 some false
 else
 (YU a1 FUEL 0).bind fun u16 => Sum.elim (fun v17 => some v17) (fun o14 =>
 (yA a1 FUEL 0).bind fun u27 => Sum.elim (fun v28 => some v28) (fun o25 =>
 some true) u27) u16
def LO (a1 : Law22_Given) : Option Bool :=
 bif decide (((a1.Solid.length : Nat) : Int) > 30) then
 yL a1 true
 else
 bif decide (((a1.Defects.length : Nat) : Int) > 70) then
 yL a1 true
 else
 bif decide (((a1.Products.length : Nat) : Int) > 20) then
 yL a1 true
 else
 bif decide (((a1.Pattern.Nodes.length : Nat) : Int) > 140) then
 yL a1 true
 else
 (ED a1).bind fun v6 =>
 yL a1 (decide (v6 > 200000))
/- sawmill/sawmilllaw22.Block -/
def IM (a3 : Int) (a4 : Span) : Nat → Int → (List Span) → Option (List Span)
 | 0, _, _ => none
 | n + 1, x5, l6 =>
 bif decide (x5 < a3) then
 bif room (l6.length + 1) 16 then
 (IM a3 a4 n) (w64 (x5 + 1)) (l6 ++ ([a4] : List Span))
 else none
 else
 some l6
def qCY (a1 : Int) (a2 : Int) (a3 : Int) (a4 : Span) : Option (List Slice) :=
 (IM a3 a4 FUEL 0 ([] : List Span)).bind fun o10 =>
 some ([(Slice.mk a1 (qK.mk a2 o10))] : List Slice)
/- sawmill/sawmilllaw22.Plank -/
def qC0 : Option (List Product) :=
 some ([(Product.mk (ByteArray.mk #[112, 108, 97, 110, 107]) 40 100 50 0 ([2000] : List Int) ([70] : List Int))] : List Product)
/- sawmill/sawmilllaw22.sample -/
def qA8 : Option Law22_Given :=
 (qCY 3000 (-10) 20 (Span.mk (-100) 100)).bind fun v1 =>
 (qC0).bind fun v3 =>
 some (Law22_Given.mk v1 ([] : List Defect) v3 (Pattern.mk (Rect.mk (Span.mk (-50) 55) (Span.mk 0 42)) ([(Node.mk 1 0)] : List Node)) (Saw.mk 4 5 1 500) (Rates.mk 1 0 0))
/- sawmill/section.inRange -/
def PG (x3 : Bool) : Option Bool :=
 some x3
def KU (a1 : Span) : Option Bool :=
 bif decide ((imin a1.A a1.B) ≥ (-600)) then
 PG (decide ((imax a1.A a1.B) ≤ 600))
 else
 PG false
/- sawmill/section.isEmpty -/
def JK (a1 : Span) : Option Bool :=
 some (decide (a1.A ≥ a1.B))
/- sawmill/section.Check -/
def QD (a1 : qK) : Nat → Int → Option (Int ⊕ Unit)
 | 0, _ => none
 | n + 1, x6 =>
 bif decide (x6 < ((a1.Rows.length : Nat) : Int)) then
 bif inb x6 a1.Rows.length then
 (KU (a1.Rows.getD x6.toNat default)).bind fun v9 =>
 bif !v9 then
 some (Sum.inl 9)
 else
 (QD a1 n) (w64 (x6 + 1))
 else none
 else
 some (Sum.inr ())
def UB (x27 : Int) (rec_section_Check_L4 : Int → Option (Int ⊕ Unit)) (x33 : Bool) : Option (Int ⊕ Unit) :=
 bif x33 then
 some (Sum.inl 19)
 else
 rec_section_Check_L4 (w64 (x27 + 1))
def jC (a1 : qK) : Nat → Int → Option (Int ⊕ Unit)
 | 0, _ => none
 | n + 1, x27 =>
 bif decide (x27 < ((a1.Rows.length : Nat) : Int)) then
 bif inb x27 a1.Rows.length then
 (JK (a1.Rows.getD x27.toNat default)).bind fun v30 =>
 bif v30 then
 UB x27 (jC a1 n) (!((((a1.Rows.getD x27.toNat default).A) == 0) && ((((a1.Rows.getD x27.toNat default).B) == 0) && true)))
 else
 UB x27 (jC a1 n) false
 else none
 else
 some (Sum.inr ())
def TR (a1 : qK) (x25 : Bool) : Option Int :=
 bif x25 then
 some 19
 else
 (jC a1 FUEL 0).bind fun u37 => Sum.elim (fun v38 => some v38) (fun o35 =>
 some 0) u37
def UA (a1 : qK) (x4 : Bool) : Option Int :=
 bif x4 then
 some 9
 else
 (QD a1 FUEL 0).bind fun u14 => Sum.elim (fun v15 => some v15) (fun o12 =>
 bif ((a1.Rows.length : Nat) : Int) == 0 then
 bif a1.Low != 0 then
 some 19
 else
 some 0
 else
 bif inb 0 a1.Rows.length then
 (JK (a1.Rows.getD (0 : Int).toNat default)).bind fun v19 =>
 bif v19 then
 TR a1 true
 else
 bif inb (w64 (((a1.Rows.length : Nat) : Int) - 1)) a1.Rows.length then
 (JK (a1.Rows.getD (w64 (((a1.Rows.length : Nat) : Int) - 1)).toNat default)).bind fun v23 =>
 TR a1 v23
 else none
 else none) u14
def KC (a1 : qK) : Option Int :=
 bif decide (((a1.Rows.length : Nat) : Int) > 120) then
 some 4
 else
 bif decide (a1.Low < (-60)) then
 UA a1 true
 else
 UA a1 (decide (a1.Low > (w64 (60 - ((a1.Rows.length : Nat) : Int)))))
/- sawmill/solid.Check -/
def NL (a1 : List Slice) (x4 : Int) (x5 : Int) (rec_solid_Check_L1 : Int → Int → Option (Int ⊕ Unit)) (x13 : Bool) : Option (Int ⊕ Unit) :=
 bif x13 then
 some (Sum.inl 9)
 else
 rec_solid_Check_L1 (w64 (x4 + ((a1.getD x5.toNat default).Len))) (w64 (x5 + 1))
def jZ (a1 : List Slice) : Nat → Int → Int → Option (Int ⊕ Unit)
 | 0, _, _ => none
 | n + 1, x4, x5 =>
 bif decide (x5 < ((a1.length : Nat) : Int)) then
 bif inb x5 a1.length then
 (KC ((a1.getD x5.toNat default).Sec)).bind fun v8 =>
 bif v8 != 0 then
 some (Sum.inl v8)
 else
 bif (((((a1.getD x5.toNat default).Sec).Rows).length : Nat) : Int) == 0 then
 some (Sum.inl 18)
 else
 bif decide (((a1.getD x5.toNat default).Len) < 1) then
 NL a1 x4 x5 (jZ a1 n) true
 else
 NL a1 x4 x5 (jZ a1 n) (decide (((a1.getD x5.toNat default).Len) > (w64 (20000 - x4))))
 else none
 else
 some (Sum.inr ())
def PP (a1 : List Slice) : Option Int :=
 bif ((a1.length : Nat) : Int) == 0 then
 some 3
 else
 bif decide (((a1.length : Nat) : Int) > 24) then
 some 4
 else
 (jZ a1 FUEL 0 0).bind fun u17 => Sum.elim (fun v18 => some v18) (fun o15 =>
 some 0) u17
/- sawmill/defect.isEmpty -/
def yK (a1 : Span) : Option Bool :=
 some (decide (a1.A ≥ a1.B))
/- sawmill/defect.inside -/
def TY (x5 : Bool) : Option Bool :=
 some x5
def JS (a1 : Span) (a2 : Int) (a3 : Int) : Option Bool :=
 bif decide ((imin a1.A a1.B) ≥ a2) then
 TY (decide ((imax a1.A a1.B) ≤ a3))
 else
 TY false
/- sawmill/defect.check -/
def KW (x23 : Bool) : Option Int :=
 bif x23 then
 some 9
 else
 some 0
def KM (a1 : Defect) (x13 : Bool) : Option Int :=
 bif x13 then
 some 19
 else
 (JS a1.Box.X (-600) 600).bind fun v15 =>
 bif !v15 then
 KW true
 else
 (JS a1.Box.Y (-600) 600).bind fun v18 =>
 bif !v18 then
 KW true
 else
 (JS a1.Box.Z 0 20000).bind fun v21 =>
 KW (!v21)
def DP (a1 : Defect) (x3 : Bool) : Option Int :=
 bif x3 then
 some 10
 else
 (yK a1.Box.X).bind fun v5 =>
 bif v5 then
 KM a1 true
 else
 (yK a1.Box.Y).bind fun v8 =>
 bif v8 then
 KM a1 true
 else
 (yK a1.Box.Z).bind fun v11 =>
 KM a1 v11
def BW (a1 : Defect) : Option Int :=
 bif decide (a1.Kind < 1) then
 DP a1 true
 else
 DP a1 (decide (a1.Kind > 6))
/- sawmill/defect.Check -/
def QW (a1 : List Defect) : Nat → Int → Option (Int ⊕ Unit)
 | 0, _ => none
 | n + 1, x3 =>
 bif decide (x3 < ((a1.length : Nat) : Int)) then
 bif inb x3 a1.length then
 (BW (a1.getD x3.toNat default)).bind fun v6 =>
 bif v6 != 0 then
 some (Sum.inl v6)
 else
 (QW a1 n) (w64 (x3 + 1))
 else none
 else
 some (Sum.inr ())
def RM (a1 : List Defect) : Option Int :=
 bif decide (((a1.length : Nat) : Int) > 64) then
 some 4
 else
 (QW a1 FUEL 0).bind fun u11 => Sum.elim (fun v12 => some v12) (fun o9 =>
 some 0) u11
/- sawmill/ident.isSmall -/
def TU (x3 : Bool) : Option Bool :=
 some x3
def XY (a1 : Int) : Option Bool :=
 bif decide (97 ≤ a1) then
 TU (decide (a1 ≤ 122))
 else
 TU false
/- sawmill/ident.isDigit -/
def TP (x3 : Bool) : Option Bool :=
 some x3
def UP (a1 : Int) : Option Bool :=
 bif decide (48 ≤ a1) then
 TP (decide (a1 ≤ 57))
 else
 TP false
/- sawmill/ident.IsName -/
def PC (x9 : Int) (rec_ident_IsName_L2 : Int → Option (Bool ⊕ Unit)) (x18 : Bool) : Option (Bool ⊕ Unit) :=
 bif x18 then
 some (Sum.inl false)
 else
 rec_ident_IsName_L2 (w64 (x9 + 1))
def wT (a1 : ByteArray) : Nat → Int → Option (Bool ⊕ Unit)
 | 0, _ => none
 | n + 1, x9 =>
 bif decide (x9 < ((a1.size : Nat) : Int)) then
 bif inb x9 a1.size then
 (XY (strAt a1 x9.toNat)).bind fun v12 =>
 bif !v12 then
 (UP (strAt a1 x9.toNat)).bind fun v15 =>
 bif !v15 then
 PC x9 (wT a1 n) ((strAt a1 x9.toNat) != 95)
 else
 PC x9 (wT a1 n) false
 else
 PC x9 (wT a1 n) false
 else none
 else
 some (Sum.inr ())
def KP (a1 : ByteArray) (x7 : Bool) : Option Bool :=
 bif x7 then
 some false
 else
 (wT a1 FUEL 1).bind fun u22 => Sum.elim (fun v23 => some v23) (fun o20 =>
 some true) u22
def DY (a1 : ByteArray) : Option Bool :=
 bif decide (((a1.size : Nat) : Int) < 1) then
 KP a1 true
 else
 bif decide (((a1.size : Nat) : Int) > 16) then
 KP a1 true
 else
 bif inb 0 a1.size then
 (XY (strAt a1 ((0 : Int).toNat))).bind fun v5 =>
 KP a1 (!v5)
 else none
/- sawmill/product.Find -/
def QQ (a1 : List Product) (a2 : ByteArray) : Nat → Int → Option ((Int × Bool) ⊕ Unit)
 | 0, _ => none
 | n + 1, x3 =>
 bif decide (x3 < ((a1.length : Nat) : Int)) then
 bif inb x3 a1.length then
 bif strEq ((a1.getD x3.toNat default).Name) a2 then
 some (Sum.inl (x3, true))
 else
 (QQ a1 a2 n) (w64 (x3 + 1))
 else none
 else
 some (Sum.inr ())
def ND (a1 : List Product) (a2 : ByteArray) : Option (Int × Bool) :=
 (QQ a1 a2 FUEL 0).bind fun u9 => Sum.elim (fun v10 => some v10) (fun o7 =>
 some (0, false)) u9
/- sawmill/product.isSize -/
def PR (x3 : Bool) : Option Bool :=
 some x3
def YV (a1 : Int) : Option Bool :=
 bif decide (a1 ≥ 1) then
 PR (decide (a1 ≤ 600))
 else
 PR false
/- sawmill/product.grow -/
def BS (a1 : Int) (a2 : Int) : Option Int :=
 some (w64 (Int.tdiv (w64 ((w64 (a1 * (w64 (1000 + a2)))) + 999)) 1000))
/- sawmill/product.Green -/
def WJ (a1 : Product) (x9 : Bool) : Option (Int × Int) :=
 bif x9 then
 some (0, 0)
 else
 (BS a1.Thick a1.Allow).bind fun v11 =>
 (BS a1.Width a1.Allow).bind fun v13 =>
 some (v11, v13)
def JW (a1 : Product) : Option (Int × Int) :=
 (YV a1.Thick).bind fun v2 =>
 bif !v2 then
 WJ a1 true
 else
 (YV a1.Width).bind fun v5 =>
 bif !v5 then
 WJ a1 true
 else
 bif decide (a1.Allow < 0) then
 WJ a1 true
 else
 WJ a1 (decide (a1.Allow > 200))
/- sawmill/product.checkNumbers -/
def ZU (x18 : Int) (rec_product_checkNumbers_L3 : Int → Option (Int ⊕ Unit)) (x26 : Bool) : Option (Int ⊕ Unit) :=
 bif x26 then
 some (Sum.inl 11)
 else
 rec_product_checkNumbers_L3 (w64 (x18 + 1))
def ZS (a1 : Product) (x18 : Int) (rec_product_checkNumbers_L3 : Int → Option (Int ⊕ Unit)) (x22 : Bool) : Option (Int ⊕ Unit) :=
 bif x22 then
 some (Sum.inl 9)
 else
 bif decide (x18 > 0) then
 bif inb (w64 (x18 - 1)) a1.Lengths.length then
 ZU x18 rec_product_checkNumbers_L3 (decide ((a1.Lengths.getD x18.toNat default) ≤ (a1.Lengths.getD (w64 (x18 - 1)).toNat default)))
 else none
 else
 ZU x18 rec_product_checkNumbers_L3 false
def zJ (a1 : Product) : Nat → Int → Option (Int ⊕ Unit)
 | 0, _ => none
 | n + 1, x18 =>
 bif decide (x18 < ((a1.Lengths.length : Nat) : Int)) then
 bif inb x18 a1.Lengths.length then
 bif decide ((a1.Lengths.getD x18.toNat default) < 100) then
 ZS a1 x18 (zJ a1 n) true
 else
 ZS a1 x18 (zJ a1 n) (decide ((a1.Lengths.getD x18.toNat default) > 20000))
 else none
 else
 some (Sum.inr ())
def ZT (x32 : Int) (rec_product_checkNumbers_L6 : Int → Option (Int ⊕ Unit)) (x36 : Bool) : Option (Int ⊕ Unit) :=
 bif x36 then
 some (Sum.inl 9)
 else
 rec_product_checkNumbers_L6 (w64 (x32 + 1))
def zR (a1 : Product) : Nat → Int → Option (Int ⊕ Unit)
 | 0, _ => none
 | n + 1, x32 =>
 bif decide (x32 < ((a1.Prices.length : Nat) : Int)) then
 bif inb x32 a1.Prices.length then
 bif decide ((a1.Prices.getD x32.toNat default) < 0) then
 ZT x32 (zR a1 n) true
 else
 ZT x32 (zR a1 n) (decide ((a1.Prices.getD x32.toNat default) > 1000000))
 else none
 else
 some (Sum.inr ())
def wX (a1 : Product) (x10 : Bool) : Option Int :=
 bif x10 then
 some 9
 else
 (JW a1).bind fun v12 =>
 bif decide (v12.2 > 600) then
 some 9
 else
 bif ((a1.Lengths.length : Nat) : Int) == 0 then
 some 3
 else
 bif decide (((a1.Lengths.length : Nat) : Int) > 8) then
 some 4
 else
 bif ((a1.Prices.length : Nat) : Int) != ((a1.Lengths.length : Nat) : Int) then
 some 19
 else
 (zJ a1 FUEL 0).bind fun u30 => Sum.elim (fun v31 => some v31) (fun o28 =>
 (zR a1 FUEL 0).bind fun u40 => Sum.elim (fun v41 => some v41) (fun o38 =>
 some 0) u40) u30
def wW (a1 : Product) (x5 : Bool) : Option Int :=
 bif x5 then
 some 9
 else
 bif decide (a1.Allow < 0) then
 wX a1 true
 else
 bif decide (a1.Allow > 200) then
 wX a1 true
 else
 bif decide (a1.Wane < 0) then
 wX a1 true
 else
 wX a1 (decide (a1.Wane > 1000))
def ZF (a1 : Product) : Option Int :=
 bif decide (a1.Thick < 5) then
 wW a1 true
 else
 bif decide (a1.Thick > 300) then
 wW a1 true
 else
 bif decide (a1.Width < a1.Thick) then
 wW a1 true
 else
 wW a1 (decide (a1.Width > 600))
/- sawmill/product.Check -/
def QE (a1 : List Product) : Nat → Int → Option (Int ⊕ Unit)
 | 0, _ => none
 | n + 1, x3 =>
 bif decide (x3 < ((a1.length : Nat) : Int)) then
 bif inb x3 a1.length then
 (DY ((a1.getD x3.toNat default).Name)).bind fun v6 =>
 bif !v6 then
 some (Sum.inl 6)
 else
 bif slOk 0 x3 a1.length then
 (ND (a1.take x3.toNat) ((a1.getD x3.toNat default).Name)).bind fun v10 =>
 bif v10.2 then
 some (Sum.inl 7)
 else
 (ZF (a1.getD x3.toNat default)).bind fun v13 =>
 bif v13 != 0 then
 some (Sum.inl v13)
 else
 (QE a1 n) (w64 (x3 + 1))
 else none
 else none
 else
 some (Sum.inr ())
def KL (a1 : List Product) : Option Int :=
 bif decide (((a1.length : Nat) : Int) > 16) then
 some 4
 else
 (QE a1 FUEL 0).bind fun u18 => Sum.elim (fun v19 => some v19) (fun o16 =>
 some 0) u18
/- sawmill/worth.isStep -/
def GS (x3 : Bool) : Option Bool :=
 some x3
def TE (a1 : Int) : Option Bool :=
 bif decide (a1 ≥ 1) then
 GS (decide (a1 ≤ 20000))
 else
 GS false
/- sawmill/worth.isFine -/
def DB (x3 : Bool) : Option Bool :=
 some x3
def RP (a1 : Int) : Option Bool :=
 bif decide (a1 ≥ 0) then
 DB (decide (a1 ≤ 1000000))
 else
 DB false
/- sawmill/worth.Check -/
def WH (x20 : Bool) : Option Int :=
 bif x20 then
 some 9
 else
 some 0
def RF (a2 : Rates) (x12 : Bool) : Option Int :=
 bif x12 then
 some 9
 else
 bif decide (a2.Chip < 0) then
 WH true
 else
 bif decide (a2.Chip > 1000) then
 WH true
 else
 bif decide (a2.Dust < 0) then
 WH true
 else
 bif decide (a2.Dust > 1000) then
 WH true
 else
 (RP a2.Fine).bind fun v18 =>
 WH (!v18)
def YX (a1 : Saw) (a2 : Rates) (x6 : Bool) : Option Int :=
 bif x6 then
 some 9
 else
 bif decide (a1.Pitch < 1) then
 RF a2 true
 else
 bif decide (a1.Pitch > 2000) then
 RF a2 true
 else
 (TE a1.Step).bind fun v10 =>
 RF a2 (!v10)
def MD (a1 : Saw) (a2 : Rates) : Option Int :=
 bif decide (a1.Kerf < 0) then
 YX a1 a2 true
 else
 bif decide (a1.Kerf > 20) then
 YX a1 a2 true
 else
 bif decide (a1.Trim < 0) then
 YX a1 a2 true
 else
 YX a1 a2 (decide (a1.Trim > 20))
/- sawmill/pattern.isFrame -/
def wU (x2 : Int) (rec_pattern_isFrame_L1 : Int → Option (Bool ⊕ Unit)) (x7 : Bool) : Option (Bool ⊕ Unit) :=
 bif x7 then
 some (Sum.inl false)
 else
 rec_pattern_isFrame_L1 (w64 (x2 + 1))
def zO (a1 : Rect) : Nat → Int → Option (Bool ⊕ Unit)
 | 0, _ => none
 | n + 1, x2 =>
 bif decide (x2 < 2) then
 bif inb x2 2 then
 bif decide ((([a1.X.A, a1.X.B, a1.Y.A, a1.Y.B] : List Int).getD (x2.toNat * 2 + 0) 0) < (-600)) then
 wU x2 (zO a1 n) true
 else
 bif decide ((([a1.X.A, a1.X.B, a1.Y.A, a1.Y.B] : List Int).getD (x2.toNat * 2 + 1) 0) > 600) then
 wU x2 (zO a1 n) true
 else
 wU x2 (zO a1 n) (decide ((([a1.X.A, a1.X.B, a1.Y.A, a1.Y.B] : List Int).getD (x2.toNat * 2 + 0) 0) ≥ (([a1.X.A, a1.X.B, a1.Y.A, a1.Y.B] : List Int).getD (x2.toNat * 2 + 1) 0)))
 else none
 else
 some (Sum.inr ())
def JI (a1 : Rect) : Option Bool :=
 (zO a1 FUEL 0).bind fun u11 => Sum.elim (fun v12 => some v12) (fun o9 =>
 some true) u11
/- sawmill/pattern.places -/
def jK (a1 : Pattern) (a2 : Int) : Option (Pattern × Int) :=
 some (a1, a2)
/- sawmill/pattern.isRip -/
def UI (x3 : Bool) : Option Bool :=
 some x3
def jE (a1 : Int) : Option Bool :=
 bif a1 == 2 then
 UI true
 else
 UI (a1 == 3)
/- sawmill/pattern.along -/
def KF (a1 : Rect) (a2 : Int) : Option Span :=
 bif a2 == 2 then
 some a1.X
 else
 some a1.Y
/- sawmill/pattern.checkNode -/
def QX : Option Int :=
 some 0
def YF (x15 : Bool) : Option Int :=
 bif x15 then
 some 20
 else
 QX
def wY (a1 : Node) (a2 : Pattern_place) (x6 : Bool) : Option Int :=
 bif x6 then
 some 10
 else
 bif decide (a2.level > 64) then
 some 28
 else
 (jE a1.Kind).bind fun v9 =>
 bif v9 then
 (KF a2.rect a1.Kind).bind fun v12 =>
 bif decide (a1.At ≤ v12.A) then
 YF true
 else
 YF (decide (a1.At ≥ v12.B))
 else
 QX
def ZK (a1 : Node) (a2 : Pattern_place) : Option Int :=
 bif decide (a1.Kind < 0) then
 wY a1 a2 true
 else
 bif decide (a1.Kind > 3) then
 wY a1 a2 true
 else
 bif a1.Kind == 0 then
 wY a1 a2 (a1.At != 0)
 else
 wY a1 a2 false
/- sawmill/span.size -/
def qCt (a1 : Span) : Option Int :=
 bif decide (a1.A ≥ a1.B) then
 some 0
 else
 some (IntKind.u64.wrap ((IntKind.u64.wrap (a1.B)) - (IntKind.u64.wrap (a1.A))))
/- sawmill/span.limited -/
def SV (a1 : Int) : Option Int :=
 some (w64 (imin a1 9223372036854775807))
/- sawmill/span.Len -/
def JV (a1 : Span) : Option Int :=
 (qCt a1).bind fun v2 =>
 (SV v2).bind fun v4 =>
 some v4
/- sawmill/pattern.Check$1 -/
def jU (x18 : Bool) : Option Int :=
 bif x18 then
 some 20
 else
 some 0
def QF (a1 : Rect) (a2 : Int) (a3 : List Product) (x5 : Bool) : Option Int :=
 bif x5 then
 some 8
 else
 bif inb a2 a3.length then
 (JW (a3.getD a2.toNat default)).bind fun v8 =>
 (JV a1.X).bind fun v10 =>
 (JV a1.Y).bind fun v12 =>
 bif v10 != v8.1 then
 bif v10 != v8.2 then
 jU true
 else
 jU (v12 != v8.1)
 else
 bif v12 != v8.2 then
 bif v10 != v8.2 then
 jU true
 else
 jU (v12 != v8.1)
 else
 jU false
 else none
def KN (a1 : Rect) (a2 : Int) (a3 : List Product) : Option Int :=
 bif decide (a2 < 0) then
 QF a1 a2 a3 true
 else
 QF a1 a2 a3 (decide (a2 ≥ ((a3.length : Nat) : Int)))
/- sawmill/pattern.check -/
def WN (a1 : Int) (a5 : Int) (a6 : Int) (x16 : Int) : Option (Nat × Int × Int) :=
 bif x16 != 0 then
 some (1, x16, a6)
 else
 some (0, a5, w64 (a1 + 1))
def WQ (a1 : Int) (a2 : Pattern_place) (a3 : Pattern) (a4 : List Product) (a5 : Int) (a6 : Int) (v9 : Int) (x12 : Bool) : Option (Nat × Int × Int) :=
 bif x12 then
 (KN a2.rect ((a3.Nodes.getD a1.toNat default).At) a4).bind fun v14 =>
 WN a1 a5 a6 v14
 else
 WN a1 a5 a6 v9
def jM (a1 : Int) (a2 : Pattern_place) (a3 : Pattern) (a4 : List Product) (a5 : Int) (a6 : Int) : Option (Nat × Int × Int) :=
 bif decide (a1 ≥ ((a3.Nodes.length : Nat) : Int)) then
 some (1, 3, a6)
 else
 bif inb a1 a3.Nodes.length then
 (ZK (a3.Nodes.getD a1.toNat default) a2).bind fun v9 =>
 bif v9 == 0 then
 WQ a1 a2 a3 a4 a5 a6 v9 (((a3.Nodes.getD a1.toNat default).Kind) == 1)
 else
 WQ a1 a2 a3 a4 a5 a6 v9 false
 else none
/- sawmill/pattern.with -/
def GN (x5 : Rect) : Option Rect :=
 some x5
def XD (a1 : Rect) (a2 : Int) (a3 : Span) : Option Rect :=
 bif a2 == 2 then
 GN (Rect.mk a3 a1.Y)
 else
 GN (Rect.mk a1.X a3)
/- sawmill/pattern.parts -/
def jX (a1 : Rect) (a2 : Node) (a3 : Int) : Option (Rect × Rect × Rect) :=
 (KF a1 a2.Kind).bind fun v4 =>
 (XD a1 a2.Kind (Span.mk v4.A a2.At)).bind fun v6 =>
 (XD a1 a2.Kind (Span.mk a2.At (imin (w64 (a2.At + a3)) v4.B))).bind fun v8 =>
 (XD a1 a2.Kind (Span.mk (imin (w64 (a2.At + a3)) v4.B) v4.B)).bind fun v10 =>
 some (v6, v8, v10)
/- sawmill/pattern.places$1 -/
def XL (x8 : Int) (rec_pattern_places_1_L1 : (List Pattern_place) → Int → Int → Int → Option ((Nat × Int × Int) ⊕ (Int × Int))) (l25 : List Pattern_place) (x26 : Int) (x27 : Int) : Option ((Nat × Int × Int) ⊕ (Int × Int)) :=
 rec_pattern_places_1_L1 l25 (w64 (x8 + 1)) x27 x26
def jN (a1 : Pattern) (a2 : List Product) (a5 : Pattern) (a6 : Int) : Nat → (List Pattern_place) → Int → Int → Int → Option ((Nat × Int × Int) ⊕ (Int × Int))
 | 0, _, _, _, _ => none
 | n + 1, l7, x8, x9, x10 =>
 bif decide (((l7.length : Nat) : Int) > 0) then
 bif inb (w64 (((l7.length : Nat) : Int) - 1)) l7.length then
 bif slOk 0 (w64 (((l7.length : Nat) : Int) - 1)) l7.length then
 (jM x8 (l7.getD ((w64 (((l7.length : Nat) : Int) - 1)).toNat) default) a1 a2 x9 x10).bind fun v14 =>
 bif !(Nat.beq v14.1 0) then
 some (Sum.inl (v14.1, v14.2.1, v14.2.2))
 else
 bif decide (x8 ≥ ((a5.Nodes.length : Nat) : Int)) then
 some (Sum.inl (0, v14.2.1, v14.2.2))
 else
 bif inb x8 a5.Nodes.length then
 (jE ((a5.Nodes.getD x8.toNat default).Kind)).bind fun v19 =>
 bif v19 then
 (jX ((l7.getD ((w64 (((l7.length : Nat) : Int) - 1)).toNat) default).rect) (a5.Nodes.getD x8.toNat default) a6).bind fun v22 =>
 bif room ((w64 (((l7.length : Nat) : Int) - 1)).toNat + 2) 40 then
 XL x8 (jN a1 a2 a5 a6 n) ((l7.take ((w64 (((l7.length : Nat) : Int) - 1)).toNat)) ++ ([(Pattern_place.mk v22.2.2 (w64 (((l7.getD ((w64 (((l7.length : Nat) : Int) - 1)).toNat) default).level) + 1))), (Pattern_place.mk v22.1 (w64 (((l7.getD ((w64 (((l7.length : Nat) : Int) - 1)).toNat) default).level) + 1)))] : List Pattern_place)) v14.2.2 v14.2.1
 else none
 else
 XL x8 (jN a1 a2 a5 a6 n) (l7.take ((w64 (((l7.length : Nat) : Int) - 1)).toNat)) v14.2.2 v14.2.1
 else none
 else none
 else none
 else
 some (Sum.inr (x10, x9))
def XA (a1 : Pattern) (a2 : List Product) (a3 : Int) (a4 : Int) (a5 : Pattern) (a6 : Int) : Option (Nat × Int × Int) :=
 (jN a1 a2 a5 a6 FUEL ([(Pattern_place.mk a5.Frame 1)] : List Pattern_place) 0 a3 a4).bind fun u32 => Sum.elim (fun v33 => some v33) (fun o30 =>
 some (0, o30.2, o30.1)) u32
/- sawmill/pattern.check -/
def WF (a1 : Pattern) (a2 : Int) (a3 : List Product) (x8 : Bool) : Option Int :=
 bif x8 then
 some 9
 else
 bif decide (((a1.Nodes.length : Nat) : Int) > 127) then
 some 4
 else
 (jK a1 a2).bind fun v11 =>
 (XA a1 a3 0 0 v11.1 v11.2).bind fun v13 =>
 bif Nat.beq v13.1 0 then
 bif decide (v13.2.2 < ((a1.Nodes.length : Nat) : Int)) then
 some 4
 else
 some 0
 else
 bif Nat.beq v13.1 1 then
 some v13.2.1
 else
 none
def ML (a1 : Pattern) (a2 : Int) (a3 : List Product) : Option Int :=
 (JI a1.Frame).bind fun v4 =>
 bif !v4 then
 some 19
 else
 bif decide (a2 < 0) then
 WF a1 a2 a3 true
 else
 WF a1 a2 a3 (decide (a2 > 20))
/- sawmill/pattern.Check -/
def VI (a1 : Pattern) (a2 : List Product) (a3 : Int) : Option Int :=
 (ML a1 a3 a2).bind fun v4 =>
 some v4
/- sawmill/yield.check -/
def GA (a1 : List Slice) (a2 : List Defect) (a3 : List Product) (a4 : Pattern) (a5 : Saw) (a6 : Rates) : Option Int :=
 (PP a1).bind fun v7 =>
 bif v7 != 0 then
 some v7
 else
 (RM a2).bind fun v10 =>
 bif v10 != 0 then
 some v10
 else
 (KL a3).bind fun v13 =>
 bif v13 != 0 then
 some v13
 else
 (MD a5 a6).bind fun v16 =>
 bif v16 != 0 then
 some v16
 else
 (VI a4 a3 a5.Kerf).bind fun v19 =>
 some v19
/- sawmill/pattern.anyBoard -/
def XJ (x4 : Bool) : Option Int :=
 bif x4 then
 some 8
 else
 some 0
def XH (a1 : Rect) (a2 : Int) : Option Int :=
 bif decide (a2 < 0) then
 XJ true
 else
 XJ (decide (a2 ≥ 16))
/- sawmill/pattern.check -/
def QL (a1 : Int) (a4 : Int) (a5 : Int) (x15 : Int) : Option (Nat × Int × Int) :=
 bif x15 != 0 then
 some (1, x15, a5)
 else
 some (0, a4, w64 (a1 + 1))
def QK (a1 : Int) (a2 : Pattern_place) (a3 : Pattern) (a4 : Int) (a5 : Int) (v8 : Int) (x11 : Bool) : Option (Nat × Int × Int) :=
 bif x11 then
 (XH a2.rect ((a3.Nodes.getD a1.toNat default).At)).bind fun v13 =>
 QL a1 a4 a5 v13
 else
 QL a1 a4 a5 v8
def wJ (a1 : Int) (a2 : Pattern_place) (a3 : Pattern) (a4 : Int) (a5 : Int) : Option (Nat × Int × Int) :=
 bif decide (a1 ≥ ((a3.Nodes.length : Nat) : Int)) then
 some (1, 3, a5)
 else
 bif inb a1 a3.Nodes.length then
 (ZK (a3.Nodes.getD a1.toNat default) a2).bind fun v8 =>
 bif v8 == 0 then
 QK a1 a2 a3 a4 a5 v8 (((a3.Nodes.getD a1.toNat default).Kind) == 1)
 else
 QK a1 a2 a3 a4 a5 v8 false
 else none
/- sawmill/pattern.places$1 -/
def WM (x7 : Int) (rec_pattern_places_1_s1_L1 : (List Pattern_place) → Int → Int → Int → Option ((Nat × Int × Int) ⊕ (Int × Int))) (l24 : List Pattern_place) (x25 : Int) (x26 : Int) : Option ((Nat × Int × Int) ⊕ (Int × Int)) :=
 rec_pattern_places_1_s1_L1 l24 (w64 (x7 + 1)) x26 x25
def wL (a1 : Pattern) (a4 : Pattern) (a5 : Int) : Nat → (List Pattern_place) → Int → Int → Int → Option ((Nat × Int × Int) ⊕ (Int × Int))
 | 0, _, _, _, _ => none
 | n + 1, l6, x7, x8, x9 =>
 bif decide (((l6.length : Nat) : Int) > 0) then
 bif inb (w64 (((l6.length : Nat) : Int) - 1)) l6.length then
 bif slOk 0 (w64 (((l6.length : Nat) : Int) - 1)) l6.length then
 (wJ x7 (l6.getD ((w64 (((l6.length : Nat) : Int) - 1)).toNat) default) a1 x8 x9).bind fun v13 =>
 bif !(Nat.beq v13.1 0) then
 some (Sum.inl (v13.1, v13.2.1, v13.2.2))
 else
 bif decide (x7 ≥ ((a4.Nodes.length : Nat) : Int)) then
 some (Sum.inl (0, v13.2.1, v13.2.2))
 else
 bif inb x7 a4.Nodes.length then
 (jE ((a4.Nodes.getD x7.toNat default).Kind)).bind fun v18 =>
 bif v18 then
 (jX ((l6.getD ((w64 (((l6.length : Nat) : Int) - 1)).toNat) default).rect) (a4.Nodes.getD x7.toNat default) a5).bind fun v21 =>
 bif room ((w64 (((l6.length : Nat) : Int) - 1)).toNat + 2) 40 then
 WM x7 (wL a1 a4 a5 n) ((l6.take ((w64 (((l6.length : Nat) : Int) - 1)).toNat)) ++ ([(Pattern_place.mk v21.2.2 (w64 (((l6.getD ((w64 (((l6.length : Nat) : Int) - 1)).toNat) default).level) + 1))), (Pattern_place.mk v21.1 (w64 (((l6.getD ((w64 (((l6.length : Nat) : Int) - 1)).toNat) default).level) + 1)))] : List Pattern_place)) v13.2.2 v13.2.1
 else none
 else
 WM x7 (wL a1 a4 a5 n) (l6.take ((w64 (((l6.length : Nat) : Int) - 1)).toNat)) v13.2.2 v13.2.1
 else none
 else none
 else none
 else
 some (Sum.inr (x9, x8))
def ZV (a1 : Pattern) (a2 : Int) (a3 : Int) (a4 : Pattern) (a5 : Int) : Option (Nat × Int × Int) :=
 (wL a1 a4 a5 FUEL ([(Pattern_place.mk a4.Frame 1)] : List Pattern_place) 0 a2 a3).bind fun u31 => Sum.elim (fun v32 => some v32) (fun o29 =>
 some (0, o29.2, o29.1)) u31
/- sawmill/pattern.check -/
def XN (a1 : Pattern) (a2 : Int) (x7 : Bool) : Option Int :=
 bif x7 then
 some 9
 else
 bif decide (((a1.Nodes.length : Nat) : Int) > 127) then
 some 4
 else
 (jK a1 a2).bind fun v10 =>
 (ZV a1 0 0 v10.1 v10.2).bind fun v12 =>
 bif Nat.beq v12.1 0 then
 bif decide (v12.2.2 < ((a1.Nodes.length : Nat) : Int)) then
 some 4
 else
 some 0
 else
 bif Nat.beq v12.1 1 then
 some v12.2.1
 else
 none
def WD (a1 : Pattern) (a2 : Int) : Option Int :=
 (JI a1.Frame).bind fun v3 =>
 bif !v3 then
 some 19
 else
 bif decide (a2 < 0) then
 XN a1 a2 true
 else
 XN a1 a2 (decide (a2 > 20))
/- sawmill/pattern.Leaves -/
def wZ (a1 : Int) (a2 : Pattern_place) (a3 : Pattern) (a4 : List Leaf) : Option (Nat × (List Leaf)) :=
 bif inb a1 a3.Nodes.length then
 bif ((a3.Nodes.getD a1.toNat default).Kind) == 0 then
 bif room (a4.length + 1) 40 then
 some (0, (a4 ++ ([(Leaf.mk a2.rect (-1))] : List Leaf)))
 else none
 else
 bif ((a3.Nodes.getD a1.toNat default).Kind) == 1 then
 bif room (a4.length + 1) 40 then
 some (0, (a4 ++ ([(Leaf.mk a2.rect ((a3.Nodes.getD a1.toNat default).At))] : List Leaf)))
 else none
 else
 some (0, a4)
 else none
/- sawmill/pattern.places$1 -/
def WP (x6 : Int) (rec_pattern_places_1_s2_L1 : (List Pattern_place) → Int → (List Leaf) → Option ((Nat × (List Leaf)) ⊕ (List Leaf))) (l22 : List Pattern_place) (l23 : List Leaf) : Option ((Nat × (List Leaf)) ⊕ (List Leaf)) :=
 rec_pattern_places_1_s2_L1 l22 (w64 (x6 + 1)) l23
def wK (a1 : Pattern) (a2 : Pattern) (a3 : Int) : Nat → (List Pattern_place) → Int → (List Leaf) → Option ((Nat × (List Leaf)) ⊕ (List Leaf))
 | 0, _, _, _ => none
 | n + 1, l5, x6, l7 =>
 bif decide (((l5.length : Nat) : Int) > 0) then
 bif inb (w64 (((l5.length : Nat) : Int) - 1)) l5.length then
 bif slOk 0 (w64 (((l5.length : Nat) : Int) - 1)) l5.length then
 (wZ x6 (l5.getD ((w64 (((l5.length : Nat) : Int) - 1)).toNat) default) a1 l7).bind fun v11 =>
 bif !(Nat.beq v11.1 0) then
 some (Sum.inl (v11.1, v11.2))
 else
 bif decide (x6 ≥ ((a2.Nodes.length : Nat) : Int)) then
 some (Sum.inl (0, v11.2))
 else
 bif inb x6 a2.Nodes.length then
 (jE ((a2.Nodes.getD x6.toNat default).Kind)).bind fun v16 =>
 bif v16 then
 (jX ((l5.getD ((w64 (((l5.length : Nat) : Int) - 1)).toNat) default).rect) (a2.Nodes.getD x6.toNat default) a3).bind fun v19 =>
 bif room ((w64 (((l5.length : Nat) : Int) - 1)).toNat + 2) 40 then
 WP x6 (wK a1 a2 a3 n) ((l5.take ((w64 (((l5.length : Nat) : Int) - 1)).toNat)) ++ ([(Pattern_place.mk v19.2.2 (w64 (((l5.getD ((w64 (((l5.length : Nat) : Int) - 1)).toNat) default).level) + 1))), (Pattern_place.mk v19.1 (w64 (((l5.getD ((w64 (((l5.length : Nat) : Int) - 1)).toNat) default).level) + 1)))] : List Pattern_place)) v11.2
 else none
 else
 WP x6 (wK a1 a2 a3 n) (l5.take ((w64 (((l5.length : Nat) : Int) - 1)).toNat)) v11.2
 else none
 else none
 else none
 else
 some (Sum.inr l7)
def ZW (a1 : Pattern) (a2 : Pattern) (a3 : Int) (a4 : List Leaf) : Option (Nat × (List Leaf)) :=
 (wK a1 a2 a3 FUEL ([(Pattern_place.mk a2.Frame 1)] : List Pattern_place) 0 a4).bind fun u27 => Sum.elim (fun v28 => some v28) (fun o25 =>
 some (0, o25)) u27
/- sawmill/pattern.Leaves -/
def RR (a1 : Pattern) (a2 : Int) : Option ((List Leaf) × Int) :=
 (WD a1 a2).bind fun v3 =>
 bif v3 != 0 then
 some (([] : List Leaf), v3)
 else
 (jK a1 a2).bind fun v6 =>
 (ZW a1 v6.1 v6.2 ([] : List Leaf)).bind fun v8 =>
 bif Nat.beq v8.1 0 then
 some (v8.2, 0)
 else
 none
/- sawmill/yield.boardLeaves -/
def PQ (a1 : List Leaf) : Option (List Leaf) :=
 some a1
/- sawmill/worth.isRect -/
def yT (x2 : Int) (rec_worth_isRect_L1 : Int → Option (Bool ⊕ Unit)) (x7 : Bool) : Option (Bool ⊕ Unit) :=
 bif x7 then
 some (Sum.inl false)
 else
 rec_worth_isRect_L1 (w64 (x2 + 1))
def wB (a1 : Rect) : Nat → Int → Option (Bool ⊕ Unit)
 | 0, _ => none
 | n + 1, x2 =>
 bif decide (x2 < 2) then
 bif inb x2 2 then
 bif decide ((([a1.X.A, a1.X.B, a1.Y.A, a1.Y.B] : List Int).getD (x2.toNat * 2 + 0) 0) < (-600)) then
 yT x2 (wB a1 n) true
 else
 bif decide ((([a1.X.A, a1.X.B, a1.Y.A, a1.Y.B] : List Int).getD (x2.toNat * 2 + 1) 0) > 600) then
 yT x2 (wB a1 n) true
 else
 yT x2 (wB a1 n) (decide ((([a1.X.A, a1.X.B, a1.Y.A, a1.Y.B] : List Int).getD (x2.toNat * 2 + 0) 0) ≥ (([a1.X.A, a1.X.B, a1.Y.A, a1.Y.B] : List Int).getD (x2.toNat * 2 + 1) 0)))
 else none
 else
 some (Sum.inr ())
def BP (a1 : Rect) : Option Bool :=
 (wB a1 FUEL 0).bind fun u11 => Sum.elim (fun v12 => some v12) (fun o9 =>
 some true) u11
/- sawmill/solid.valid -/
def PK (a1 : List Slice) : Option (List Slice) :=
 (PP a1).bind fun v2 =>
 bif v2 != 0 then
 some ([] : List Slice)
 else
 some a1
/- sawmill/solid.Length -/
def ZB (v2 : (List Slice)) : Nat → Int → Int → Option Int
 | 0, _, _ => none
 | n + 1, x4, x5 =>
 bif decide (x5 < ((v2.length : Nat) : Int)) then
 bif inb x5 v2.length then
 (ZB v2 n) (w64 (x4 + ((v2.getD x5.toNat default).Len))) (w64 (x5 + 1))
 else none
 else
 some x4
def RV (a1 : List Slice) : Option Int :=
 (PK a1).bind fun v2 =>
 (ZB v2 FUEL 0 0).bind fun o9 =>
 some o9
/- sawmill/section.valid -/
def KE (a1 : qK) : Option qK :=
 (KC a1).bind fun v2 =>
 bif v2 != 0 then
 some (qK.mk 0 ([] : List Span))
 else
 some a1
/- sawmill/section.heights -/
def PD (a1 : Int) (a2 : Int) : Option Span :=
 some (Span.mk (w64 (10 * a1)) (w64 (10 * a2)))
/- sawmill/span.Meet -/
def YI (a1 : Span) (a2 : Span) : Option Span :=
 bif decide ((imax a1.A a2.A) ≥ (imin a1.B a2.B)) then
 some (Span.mk 0 0)
 else
 some (Span.mk (imax a1.A a2.A) (imin a1.B a2.B))
/- sawmill/section.Within -/
def ZJ (a2 : Rect) (v3 : qK) : Nat → Int → Int → Option Int
 | 0, _, _ => none
 | n + 1, x5, x6 =>
 bif decide (x6 < ((v3.Rows.length : Nat) : Int)) then
 bif inb x6 v3.Rows.length then
 (PD (w64 (v3.Low + x6)) (w64 ((w64 (v3.Low + x6)) + 1))).bind fun v9 =>
 (YI (v3.Rows.getD x6.toNat default) a2.X).bind fun v11 =>
 (JV v11).bind fun v13 =>
 (YI v9 a2.Y).bind fun v15 =>
 (JV v15).bind fun v17 =>
 (ZJ a2 v3 n) (w64 (x5 + (w64 (v13 * v17)))) (w64 (x6 + 1))
 else none
 else
 some x5
def YQ (a1 : qK) (a2 : Rect) : Option Int :=
 (KE a1).bind fun v3 =>
 (ZJ a2 v3 FUEL 0 0).bind fun o20 =>
 some o20
/- sawmill/worth.lacks -/
def YR (a1 : List Slice) (a2 : Rect) : Nat → (List Worth_zone) → Int → Int → Option (List Worth_zone)
 | 0, _, _, _ => none
 | n + 1, l3, x4, x5 =>
 bif decide (x5 < ((a1.length : Nat) : Int)) then
 bif inb x5 a1.length then
 (YQ ((a1.getD x5.toNat default).Sec) a2).bind fun v8 =>
 bif nz (w64 ((w64 (a2.X.B - a2.X.A)) * (w64 (a2.Y.B - a2.Y.A)))) then
 bif room (l3.length + 1) 24 then
 (YR a1 a2 n) (l3 ++ ([(Worth_zone.mk (Span.mk x4 (w64 (x4 + ((a1.getD x5.toNat default).Len)))) (w64 (Int.tdiv (w64 ((w64 ((w64 (1000 * (w64 ((w64 ((w64 (a2.X.B - a2.X.A)) * (w64 (a2.Y.B - a2.Y.A)))) - v8)))) + (w64 ((w64 (a2.X.B - a2.X.A)) * (w64 (a2.Y.B - a2.Y.A)))))) - 1)) (w64 ((w64 (a2.X.B - a2.X.A)) * (w64 (a2.Y.B - a2.Y.A)))))))] : List Worth_zone)) (w64 (x4 + ((a1.getD x5.toNat default).Len))) (w64 (x5 + 1))
 else none
 else none
 else none
 else
 some l3
def LR (a1 : List Slice) (a2 : Rect) : Option (List Worth_zone) :=
 (YR a1 a2 FUEL ([] : List Worth_zone) 0 0).bind fun o13 =>
 some o13
/- (sawmill/worth.view).box -/
def YN (a1 : Worth_view) (a2 : Span) : Option Box :=
 some (Box.mk a1.rect.X a1.rect.Y a2)
/- sawmill/defect.meet -/
def RE (v3 : Span) (v5 : Span) (v7 : Span) (x17 : Bool) : Option (Box × Bool) :=
 bif x17 then
 some ((Box.mk (Span.mk 0 0) (Span.mk 0 0) (Span.mk 0 0)), false)
 else
 some ((Box.mk v3 v5 v7), true)
def IW (a1 : Box) (a2 : Box) : Option (Box × Bool) :=
 (YI a1.X a2.X).bind fun v3 =>
 (YI a1.Y a2.Y).bind fun v5 =>
 (YI a1.Z a2.Z).bind fun v7 =>
 (yK v3).bind fun v9 =>
 bif v9 then
 RE v3 v5 v7 true
 else
 (yK v5).bind fun v12 =>
 bif v12 then
 RE v3 v5 v7 true
 else
 (yK v7).bind fun v15 =>
 RE v3 v5 v7 v15
/- sawmill/defect.Touches -/
def YL (a1 : Defect) (a2 : Box) : Option Bool :=
 (IW a1.Box a2).bind fun v3 =>
 some v3.2
/- sawmill/worth.look -/
def MI (x29 : Int) (rec_worth_look_L3 : Int → (List Defect) → Option (List Defect)) (l37 : List Defect) : Option (List Defect) :=
 rec_worth_look_L3 (w64 (x29 + 1)) l37
def ZP (a2 : List Defect) (v27 : Box) : Nat → Int → (List Defect) → Option (List Defect)
 | 0, _, _ => none
 | n + 1, x29, l30 =>
 bif decide (x29 < ((a2.length : Nat) : Int)) then
 bif inb x29 a2.length then
 (YL (a2.getD x29.toNat default) v27).bind fun v33 =>
 bif v33 then
 bif room (l30.length + 1) 56 then
 MI x29 (ZP a2 v27 n) (l30 ++ ([(a2.getD x29.toNat default)] : List Defect))
 else none
 else
 MI x29 (ZP a2 v27 n) l30
 else none
 else
 some l30
def UO (a1 : List Slice) (a2 : List Defect) (a3 : Product) (a4 : Rect) (x21 : Bool) : Option (Worth_view × Bool) :=
 bif x21 then
 some ((Worth_view.mk (Product.mk (ByteArray.mk #[]) 0 0 0 0 ([] : List Int) ([] : List Int)) (Rect.mk (Span.mk 0 0) (Span.mk 0 0)) 0 ([] : List Worth_zone) ([] : List Defect)), false)
 else
 (RV a1).bind fun v23 =>
 (LR a1 a4).bind fun v25 =>
 (YN (Worth_view.mk a3 a4 v23 v25 ([] : List Defect)) (Span.mk 0 v23)).bind fun v27 =>
 (ZP a2 v27 FUEL 0 ([] : List Defect)).bind fun o39 =>
 some ((Worth_view.mk a3 a4 v23 v25 o39), true)
def KH (a1 : List Slice) (a2 : List Defect) (a3 : Product) (a4 : Rect) (x16 : Bool) : Option (Worth_view × Bool) :=
 bif x16 then
 some ((Worth_view.mk (Product.mk (ByteArray.mk #[]) 0 0 0 0 ([] : List Int) ([] : List Int)) (Rect.mk (Span.mk 0 0) (Span.mk 0 0)) 0 ([] : List Worth_zone) ([] : List Defect)), false)
 else
 (JW a3).bind fun v18 =>
 bif !(((w64 (a4.X.B - a4.X.A)) == v18.1) && (((w64 (a4.Y.B - a4.Y.A)) == v18.2) && true)) then
 UO a1 a2 a3 a4 (!(((w64 (a4.X.B - a4.X.A)) == v18.2) && (((w64 (a4.Y.B - a4.Y.A)) == v18.1) && true)))
 else
 UO a1 a2 a3 a4 false
def EK (a1 : List Slice) (a2 : List Defect) (a3 : Product) (a4 : Rect) : Option (Worth_view × Bool) :=
 (PP a1).bind fun v5 =>
 bif v5 != 0 then
 KH a1 a2 a3 a4 true
 else
 (RM a2).bind fun v8 =>
 bif v8 != 0 then
 KH a1 a2 a3 a4 true
 else
 (KL ([a3] : List Product)).bind fun v11 =>
 bif v11 != 0 then
 KH a1 a2 a3 a4 true
 else
 (BP a4).bind fun v14 =>
 KH a1 a2 a3 a4 (!v14)
/- sawmill/worth.isWithin -/
def YA (x5 : Bool) : Option Bool :=
 some x5
def NP (a1 : Span) (a2 : Int) : Option Bool :=
 bif decide (a1.A ≥ 0) then
 bif decide (a1.A < a1.B) then
 YA (decide (a1.B ≤ a2))
 else
 YA false
 else
 YA false
/- sawmill/product.Price -/
def QC (a1 : Product) (a2 : Int) : Nat → Int → Option ((Int × Bool) ⊕ Unit)
 | 0, _ => none
 | n + 1, x3 =>
 bif decide (x3 < ((a1.Lengths.length : Nat) : Int)) then
 bif inb x3 a1.Lengths.length then
 bif (a1.Lengths.getD x3.toNat default) != a2 then
 (QC a1 a2 n) (w64 (x3 + 1))
 else
 bif decide (x3 ≥ ((a1.Prices.length : Nat) : Int)) then
 some (Sum.inl (0, false))
 else
 bif inb x3 a1.Prices.length then
 some (Sum.inl ((a1.Prices.getD x3.toNat default), true))
 else none
 else none
 else
 some (Sum.inr ())
def UK (a1 : Product) (a2 : Int) : Option (Int × Bool) :=
 (QC a1 a2 FUEL 0).bind fun u11 => Sum.elim (fun v12 => some v12) (fun o9 =>
 some (0, false)) u11
/- sawmill/worth.worst -/
def FG (x4 : Int) (rec_worth_worst_L1 : Int → Int → Option Int) (x10 : Int) : Option Int :=
 rec_worth_worst_L1 x10 (w64 (x4 + 1))
def NN (a1 : List Worth_zone) (x3 : Int) (x4 : Int) (rec_worth_worst_L1 : Int → Int → Option Int) (x8 : Bool) : Option Int :=
 bif x8 then
 FG x4 rec_worth_worst_L1 (imax x3 ((a1.getD x4.toNat default).lack))
 else
 FG x4 rec_worth_worst_L1 x3
def jY (a1 : List Worth_zone) (a2 : Span) : Nat → Int → Int → Option Int
 | 0, _, _ => none
 | n + 1, x3, x4 =>
 bif decide (x4 < ((a1.length : Nat) : Int)) then
 bif inb x4 a1.length then
 bif decide ((((a1.getD x4.toNat default).z).A) < a2.B) then
 NN a1 x3 x4 (jY a1 a2 n) (decide (a2.A < (((a1.getD x4.toNat default).z).B)))
 else
 NN a1 x3 x4 (jY a1 a2 n) false
 else none
 else
 some x3
def LM (a1 : List Worth_zone) (a2 : Span) : Option Int :=
 (jY a1 a2 FUEL 0 0).bind fun o12 =>
 some o12
/- (sawmill/worth.view).worth -/
def XK (x17 : Int) (rec_worth_view_worth_L2 : Int → Int → Option ((Int × Bool) ⊕ Int)) (x24 : Int) : Option ((Int × Bool) ⊕ Int) :=
 rec_worth_view_worth_L2 x24 (w64 (x17 + 1))
def zL (a1 : Worth_view) (a3 : Int) (v14 : Box) : Nat → Int → Int → Option ((Int × Bool) ⊕ Int)
 | 0, _, _ => none
 | n + 1, x16, x17 =>
 bif decide (x17 < ((a1.defects.length : Nat) : Int)) then
 bif inb x17 a1.defects.length then
 (YL (a1.defects.getD x17.toNat default) v14).bind fun v20 =>
 bif !v20 then
 XK x17 (zL a1 a3 v14 n) x16
 else
 bif ((a1.defects.getD x17.toNat default).Kind) == 3 then
 some (Sum.inl (0, false))
 else
 XK x17 (zL a1 a3 v14 n) (w64 (x16 - a3))
 else none
 else
 some (Sum.inr x16)
def XM (a1 : Worth_view) (a2 : Span) (a3 : Int) (v7 : Int × Bool) (x12 : Bool) : Option (Int × Bool) :=
 bif x12 then
 some (0, false)
 else
 (YN a1 a2).bind fun v14 =>
 (zL a1 a3 v14 FUEL v7.1 0).bind fun u28 => Sum.elim (fun v29 => some v29) (fun o26 =>
 some (imax o26 0, true)) u28
def WG (a1 : Worth_view) (a2 : Span) (a3 : Int) : Option (Int × Bool) :=
 (NP a2 a1.length).bind fun v4 =>
 bif !v4 then
 some (0, false)
 else
 (UK a1.product (w64 (a2.B - a2.A))).bind fun v7 =>
 bif !v7.2 then
 XM a1 a2 a3 v7 true
 else
 (LM a1.zones a2).bind fun v10 =>
 XM a1 a2 a3 v7 (decide (v10 > a1.product.Wane))
/- sawmill/worth.Best -/
def MK (x24 : Int) (rec_worth_Best_L3 : Int → Bool → Int → Span → Option (Int × Bool × Span)) (x34 : Int) (x35 : Bool) (x36 : Span) : Option (Int × Bool × Span) :=
 rec_worth_Best_L3 x34 x35 (w64 (x24 + 1)) x36
def VH (a3 : Product) (x19 : Int) (x22 : Int) (x23 : Bool) (x24 : Int) (x25 : Span) (rec_worth_Best_L3 : Int → Bool → Int → Span → Option (Int × Bool × Span)) (v28 : Int × Bool) (x32 : Bool) : Option (Int × Bool × Span) :=
 bif x32 then
 MK x24 rec_worth_Best_L3 v28.1 true (Span.mk x19 (w64 (x19 + (a3.Lengths.getD x24.toNat default))))
 else
 MK x24 rec_worth_Best_L3 x22 x23 x25
def jF (a3 : Product) (a6 : Int) (v14 : Worth_view × Bool) (x19 : Int) : Nat → Int → Bool → Int → Span → Option (Int × Bool × Span)
 | 0, _, _, _, _ => none
 | n + 1, x22, x23, x24, x25 =>
 bif decide (x24 < ((a3.Lengths.length : Nat) : Int)) then
 bif inb x24 a3.Lengths.length then
 (WG (Worth_view.mk v14.1.product v14.1.rect v14.1.length v14.1.zones v14.1.defects) (Span.mk x19 (w64 (x19 + (a3.Lengths.getD x24.toNat default)))) a6).bind fun v28 =>
 bif v28.2 then
 bif !x23 then
 VH a3 x19 x22 x23 x24 x25 (jF a3 a6 v14 x19 n) v28 true
 else
 VH a3 x19 x22 x23 x24 x25 (jF a3 a6 v14 x19 n) v28 (decide (v28.1 > x22))
 else
 VH a3 x19 x22 x23 x24 x25 (jF a3 a6 v14 x19 n) v28 false
 else none
 else
 some (x22, x23, x25)
def JU (a3 : Product) (a5 : Int) (a6 : Int) (v14 : Worth_view × Bool) : Nat → Int → Bool → Int → Span → Option (Int × Bool × Span)
 | 0, _, _, _, _ => none
 | n + 1, x17, x18, x19, x20 =>
 bif decide (x19 < v14.1.length) then
 (jF a3 a6 v14 x19 FUEL x17 x18 0 x20).bind fun o40 =>
 (JU a3 a5 a6 v14 n) o40.1 o40.2.1 (w64 (x19 + a5)) o40.2.2
 else
 some (x17, x18, x20)
def MN (a1 : List Slice) (a2 : List Defect) (a3 : Product) (a4 : Rect) (a5 : Int) (a6 : Int) (x12 : Bool) : Option (Span × Int × Bool) :=
 bif x12 then
 some ((Span.mk 0 0), 0, false)
 else
 (EK a1 a2 a3 a4).bind fun v14 =>
 bif !v14.2 then
 some ((Span.mk 0 0), 0, false)
 else
 (JU a3 a5 a6 v14 FUEL 0 false 0 (Span.mk 0 0)).bind fun o45 =>
 some (o45.2.2, o45.1, o45.2.1)
def EP (a1 : List Slice) (a2 : List Defect) (a3 : Product) (a4 : Rect) (a5 : Int) (a6 : Int) : Option (Span × Int × Bool) :=
 (TE a5).bind fun v7 =>
 bif !v7 then
 MN a1 a2 a3 a4 a5 a6 true
 else
 (RP a6).bind fun v10 =>
 MN a1 a2 a3 a4 a5 a6 (!v10)
/- sawmill/yield.box -/
def PE (a1 : Rect) (a2 : Span) : Option Box :=
 some (Box.mk a1.X a1.Y a2)
/- sawmill/yield.Boards -/
def KR (a1 : Int) (a2 : Leaf) (a3 : List Slice) (a4 : List Defect) (a5 : List Product) (a6 : Saw) (a7 : Int) (a8 : List Yield_Cut) : Option (Nat × (List Yield_Cut)) :=
 bif inb a2.Product a5.length then
 (EP a3 a4 (a5.getD a2.Product.toNat default) a2.Rect a6.Step a7).bind fun v10 =>
 bif v10.2.2 then
 (PE a2.Rect v10.1).bind fun v13 =>
 bif room (a8.length + 1) 72 then
 some (0, (a8 ++ ([(Yield_Cut.mk a1 a2.Product v13 v10.2.1)] : List Yield_Cut)))
 else none
 else
 some (0, a8)
 else none
/- sawmill/yield.boardLeaves$1 -/
def WO (x8 : Int) (rec_yield_boardLeaves_1_L1 : Int → (List Yield_Cut) → Option ((Nat × (List Yield_Cut)) ⊕ (List Yield_Cut))) (l16 : List Yield_Cut) : Option ((Nat × (List Yield_Cut)) ⊕ (List Yield_Cut)) :=
 rec_yield_boardLeaves_1_L1 (w64 (x8 + 1)) l16
def zN (a1 : List Slice) (a2 : List Defect) (a3 : List Product) (a4 : Saw) (a5 : Int) (a6 : List Leaf) : Nat → Int → (List Yield_Cut) → Option ((Nat × (List Yield_Cut)) ⊕ (List Yield_Cut))
 | 0, _, _ => none
 | n + 1, x8, l9 =>
 bif decide (x8 < ((a6.length : Nat) : Int)) then
 bif inb x8 a6.length then
 bif ((a6.getD x8.toNat default).Product) != (-1) then
 (KR x8 (a6.getD x8.toNat default) a1 a2 a3 a4 a5 l9).bind fun v13 =>
 bif !(Nat.beq v13.1 0) then
 some (Sum.inl (v13.1, v13.2))
 else
 WO x8 (zN a1 a2 a3 a4 a5 a6 n) v13.2
 else
 WO x8 (zN a1 a2 a3 a4 a5 a6 n) l9
 else none
 else
 some (Sum.inr l9)
def ZY (a1 : List Slice) (a2 : List Defect) (a3 : List Product) (a4 : Saw) (a5 : Int) (a6 : List Leaf) (a7 : List Yield_Cut) : Option (Nat × (List Yield_Cut)) :=
 (zN a1 a2 a3 a4 a5 a6 FUEL 0 a7).bind fun u20 => Sum.elim (fun v21 => some v21) (fun o18 =>
 some (0, o18)) u20
/- sawmill/yield.Boards -/
def RW (a1 : List Slice) (a2 : List Defect) (a3 : List Product) (a4 : Pattern) (a5 : Saw) (a6 : Int) : Option ((List Yield_Cut) × Int) :=
 (GA a1 a2 a3 a4 a5 (Rates.mk 0 0 a6)).bind fun v7 =>
 bif v7 != 0 then
 some (([] : List Yield_Cut), v7)
 else
 (RR a4 a5.Kerf).bind fun v10 =>
 bif v10.2 != 0 then
 some (([] : List Yield_Cut), v10.2)
 else
 (PQ v10.1).bind fun v13 =>
 (ZY a1 a2 a3 a5 a6 v13 ([] : List Yield_Cut)).bind fun v15 =>
 bif Nat.beq v15.1 0 then
 some (v15.2, 0)
 else
 none
/- sawmill/pattern.Cuts -/
def jT (a1 : Int) (a2 : Pattern_place) (a3 : Pattern) (a4 : Int) (a5 : List Rect) : Option (Nat × (List Rect)) :=
 bif inb a1 a3.Nodes.length then
 (jE ((a3.Nodes.getD a1.toNat default).Kind)).bind fun v7 =>
 bif v7 then
 (jX a2.rect (a3.Nodes.getD a1.toNat default) a4).bind fun v10 =>
 bif room (a5.length + 1) 32 then
 some (0, (a5 ++ ([v10.2.1] : List Rect)))
 else none
 else
 some (0, a5)
 else none
/- sawmill/pattern.places$1 -/
def WV (x7 : Int) (rec_pattern_places_1_s3_L1 : (List Pattern_place) → Int → (List Rect) → Option ((Nat × (List Rect)) ⊕ (List Rect))) (l23 : List Pattern_place) (l24 : List Rect) : Option ((Nat × (List Rect)) ⊕ (List Rect)) :=
 rec_pattern_places_1_s3_L1 l23 (w64 (x7 + 1)) l24
def wI (a1 : Pattern) (a2 : Int) (a3 : Pattern) (a4 : Int) : Nat → (List Pattern_place) → Int → (List Rect) → Option ((Nat × (List Rect)) ⊕ (List Rect))
 | 0, _, _, _ => none
 | n + 1, l6, x7, l8 =>
 bif decide (((l6.length : Nat) : Int) > 0) then
 bif inb (w64 (((l6.length : Nat) : Int) - 1)) l6.length then
 bif slOk 0 (w64 (((l6.length : Nat) : Int) - 1)) l6.length then
 (jT x7 (l6.getD ((w64 (((l6.length : Nat) : Int) - 1)).toNat) default) a1 a2 l8).bind fun v12 =>
 bif !(Nat.beq v12.1 0) then
 some (Sum.inl (v12.1, v12.2))
 else
 bif decide (x7 ≥ ((a3.Nodes.length : Nat) : Int)) then
 some (Sum.inl (0, v12.2))
 else
 bif inb x7 a3.Nodes.length then
 (jE ((a3.Nodes.getD x7.toNat default).Kind)).bind fun v17 =>
 bif v17 then
 (jX ((l6.getD ((w64 (((l6.length : Nat) : Int) - 1)).toNat) default).rect) (a3.Nodes.getD x7.toNat default) a4).bind fun v20 =>
 bif room ((w64 (((l6.length : Nat) : Int) - 1)).toNat + 2) 40 then
 WV x7 (wI a1 a2 a3 a4 n) ((l6.take ((w64 (((l6.length : Nat) : Int) - 1)).toNat)) ++ ([(Pattern_place.mk v20.2.2 (w64 (((l6.getD ((w64 (((l6.length : Nat) : Int) - 1)).toNat) default).level) + 1))), (Pattern_place.mk v20.1 (w64 (((l6.getD ((w64 (((l6.length : Nat) : Int) - 1)).toNat) default).level) + 1)))] : List Pattern_place)) v12.2
 else none
 else
 WV x7 (wI a1 a2 a3 a4 n) (l6.take ((w64 (((l6.length : Nat) : Int) - 1)).toNat)) v12.2
 else none
 else none
 else none
 else
 some (Sum.inr l8)
def ZX (a1 : Pattern) (a2 : Int) (a3 : Pattern) (a4 : Int) (a5 : List Rect) : Option (Nat × (List Rect)) :=
 (wI a1 a2 a3 a4 FUEL ([(Pattern_place.mk a3.Frame 1)] : List Pattern_place) 0 a5).bind fun u28 => Sum.elim (fun v29 => some v29) (fun o26 =>
 some (0, o26)) u28
/- sawmill/pattern.Cuts -/
def NK (a1 : Pattern) (a2 : Int) : Option ((List Rect) × Int) :=
 (WD a1 a2).bind fun v3 =>
 bif v3 != 0 then
 some (([] : List Rect), v3)
 else
 (jK a1 a2).bind fun v6 =>
 (ZX a1 a2 v6.1 v6.2 ([] : List Rect)).bind fun v8 =>
 bif Nat.beq v8.1 0 then
 some (v8.2, 0)
 else
 none
/- sawmill/section.Area -/
def JO (v2 : qK) : Nat → Int → Int → Option Int
 | 0, _, _ => none
 | n + 1, x4, x5 =>
 bif decide (x5 < ((v2.Rows.length : Nat) : Int)) then
 bif inb x5 v2.Rows.length then
 (JV (v2.Rows.getD x5.toNat default)).bind fun v8 =>
 (JO v2 n) (w64 (x4 + v8)) (w64 (x5 + 1))
 else none
 else
 some x4
def BJ (a1 : qK) : Option Int :=
 (KE a1).bind fun v2 =>
 (JO v2 FUEL 0 0).bind fun o11 =>
 some (w64 (10 * o11))
/- sawmill/solid.Volume -/
def JG (v2 : (List Slice)) : Nat → Int → Int → Option Int
 | 0, _, _ => none
 | n + 1, x4, x5 =>
 bif decide (x5 < ((v2.length : Nat) : Int)) then
 bif inb x5 v2.length then
 (BJ ((v2.getD x5.toNat default).Sec)).bind fun v8 =>
 (JG v2 n) (w64 (x4 + (w64 (((v2.getD x5.toNat default).Len) * v8)))) (w64 (x5 + 1))
 else none
 else
 some x4
def BF (a1 : List Slice) : Option Int :=
 (PK a1).bind fun v2 =>
 (JG v2 FUEL 0 0).bind fun o11 =>
 some o11
/- sawmill/solid.extents -/
def WA (a1 : List Slice) : Nat → (List Span) → Int → Int → Option (List Span)
 | 0, _, _, _ => none
 | n + 1, l3, x4, x5 =>
 bif decide (x5 < ((a1.length : Nat) : Int)) then
 bif inb x5 a1.length then
 bif inb x5 l3.length then
 (WA a1 n) (l3.set x5.toNat (Span.mk x4 (w64 (x4 + ((a1.getD x5.toNat default).Len))))) (w64 (x4 + ((a1.getD x5.toNat default).Len))) (w64 (x5 + 1))
 else none
 else none
 else
 some l3
def UX (a1 : List Slice) : Option (List Span) :=
 bif mkOk ((a1.length : Nat) : Int) 16 then
 (WA a1 FUEL (List.replicate (((a1.length : Nat) : Int).toNat) (Span.mk 0 0)) 0 0).bind fun o10 =>
 some o10
 else none
/- sawmill/solid.Within -/
def GH (x8 : Int) (rec_solid_Within_L1 : Int → Int → Option Int) (x19 : Int) : Option Int :=
 rec_solid_Within_L1 x19 (w64 (x8 + 1))
def yU (a2 : Box) (v3 : (List Slice)) (v5 : (List Span)) : Nat → Int → Int → Option Int
 | 0, _, _ => none
 | n + 1, x7, x8 =>
 bif decide (x8 < ((v5.length : Nat) : Int)) then
 bif inb x8 v5.length then
 (YI (v5.getD x8.toNat default) a2.Z).bind fun v11 =>
 (JV v11).bind fun v13 =>
 bif decide (v13 > 0) then
 bif inb x8 v3.length then
 (YQ ((v3.getD x8.toNat default).Sec) (Rect.mk a2.X a2.Y)).bind fun v17 =>
 GH x8 (yU a2 v3 v5 n) (w64 (x7 + (w64 (v13 * v17))))
 else none
 else
 GH x8 (yU a2 v3 v5 n) x7
 else none
 else
 some x7
def WX (a1 : List Slice) (a2 : Box) : Option Int :=
 (PK a1).bind fun v3 =>
 (UX v3).bind fun v5 =>
 (yU a2 v3 v5 FUEL 0 0).bind fun o21 =>
 some o21
/- sawmill/yield.Of -/
def PJ (a1 : List Slice) (v13 : (List Rect) × Int) (v16 : Int) (v18 : Int) : Nat → Int → Int → Option Yield
 | 0, _, _ => none
 | n + 1, x20, x21 =>
 bif decide (x20 < ((v13.1.length : Nat) : Int)) then
 bif inb x20 v13.1.length then
 (PE (v13.1.getD x20.toNat default) (Span.mk 0 v16)).bind fun v24 =>
 (WX a1 v24).bind fun v26 =>
 (PJ a1 v13 v16 v18 n) (w64 (x20 + 1)) (w64 (x21 + v26))
 else none
 else
 some (Yield.mk v18 0 0 x21 0)
def PI (a1 : List Slice) (a5 : Saw) (v10 : (List Yield_Cut) × Int) (v16 : Int) (o29 : Yield) : Nat → Int → Int → Int → Int → Option Yield
 | 0, _, _, _, _ => none
 | n + 1, x31, x32, x33, x34 =>
 bif decide (x31 < ((v10.1.length : Nat) : Int)) then
 bif inb x31 v10.1.length then
 (WX a1 ((v10.1.getD x31.toNat default).Box)).bind fun v37 =>
 (PE (Rect.mk (((v10.1.getD x31.toNat default).Box).X) (((v10.1.getD x31.toNat default).Box).Y)) (Span.mk (imax 0 (w64 (((((v10.1.getD x31.toNat default).Box).Z).A) - a5.Trim))) ((((v10.1.getD x31.toNat default).Box).Z).A))).bind fun v39 =>
 (WX a1 v39).bind fun v41 =>
 (PE (Rect.mk (((v10.1.getD x31.toNat default).Box).X) (((v10.1.getD x31.toNat default).Box).Y)) (Span.mk ((((v10.1.getD x31.toNat default).Box).Z).B) (imin (w64 (((((v10.1.getD x31.toNat default).Box).Z).B) + a5.Trim)) v16))).bind fun v43 =>
 (WX a1 v43).bind fun v45 =>
 (PI a1 a5 v10 v16 o29 n) (w64 (x31 + 1)) (w64 (x32 + v37)) (w64 ((w64 (x33 + v41)) + v45)) (w64 (x34 + (w64 (1000000 * ((v10.1.getD x31.toNat default).Worth)))))
 else none
 else
 some (Yield.mk o29.Log x32 o29.Chips x33 x34)
def HC (a1 : List Slice) (a2 : List Defect) (a3 : List Product) (a4 : Pattern) (a5 : Saw) (a6 : Rates) : Option (Yield × Int) :=
 (GA a1 a2 a3 a4 a5 a6).bind fun v7 =>
 bif v7 != 0 then
 some ((Yield.mk 0 0 0 0 0), v7)
 else
 (RW a1 a2 a3 a4 a5 a6.Fine).bind fun v10 =>
 bif v10.2 != 0 then
 some ((Yield.mk 0 0 0 0 0), v10.2)
 else
 (NK a4 a5.Kerf).bind fun v13 =>
 bif v13.2 != 0 then
 some ((Yield.mk 0 0 0 0 0), v13.2)
 else
 (RV a1).bind fun v16 =>
 (BF a1).bind fun v18 =>
 (PJ a1 v13 v16 v18 FUEL 0 0).bind fun o29 =>
 (PI a1 a5 v10 v16 o29 FUEL 0 o29.Boards o29.Dust o29.Value).bind fun o48 =>
 some ((Yield.mk o48.Log o48.Boards (w64 ((w64 (o48.Log - o48.Boards)) - o48.Dust)) o48.Dust (w64 (o48.Value + (w64 ((w64 (a6.Chip * (w64 ((w64 (o48.Log - o48.Boards)) - o48.Dust)))) + (w64 (a6.Dust * o48.Dust))))))), 0)
/- sawmill/sawmilllaw22.of -/
def BA (a1 : Law22_Given) : Option (Yield × Int) :=
 (HC a1.Solid a1.Defects a1.Products a1.Pattern a1.Saw a1.Rates).bind fun v2 =>
 some (v2.1, v2.2)
/- sawmill/sawmilllaw22.boards -/
def qBk (a1 : Law22_Given) : Option ((List Yield_Cut) × Int) :=
 (RW a1.Solid a1.Defects a1.Products a1.Pattern a1.Saw a1.Rates.Fine).bind fun v2 =>
 some (v2.1, v2.2)
/- sawmill/yield.Balanced -/
def LA (x2 : Int) (rec_yield_Balanced_L1 : Int → Option (Bool ⊕ Unit)) (x6 : Bool) : Option (Bool ⊕ Unit) :=
 bif x6 then
 some (Sum.inl false)
 else
 rec_yield_Balanced_L1 (w64 (x2 + 1))
def JZ (a1 : Yield) : Nat → Int → Option (Bool ⊕ Unit)
 | 0, _ => none
 | n + 1, x2 =>
 bif decide (x2 < 4) then
 bif inb x2 4 then
 bif decide ((([a1.Log, a1.Boards, a1.Chips, a1.Dust] : List Int).getD x2.toNat 0) < 0) then
 LA x2 (JZ a1 n) true
 else
 LA x2 (JZ a1 n) (decide ((([a1.Log, a1.Boards, a1.Chips, a1.Dust] : List Int).getD x2.toNat 0) > 2305843009213693952))
 else none
 else
 some (Sum.inr ())
def FF (a1 : Yield) : Option Bool :=
 (JZ a1 FUEL 0).bind fun u10 => Sum.elim (fun v11 => some v11) (fun o8 =>
 some (a1.Log == (w64 ((w64 (a1.Boards + a1.Chips)) + a1.Dust)))) u10
/- sawmill/units.magnitude -/
def GU (a1 : Int) : Option Int :=
 bif decide (a1 < 0) then
 some (IntKind.u64.wrap (0 - (IntKind.u64.wrap (a1))))
 else
 some (IntKind.u64.wrap (a1))
/- math/bits.Mul64 -/
def SP (a1 : Int) (a2 : Int) : Option (Int × Int) :=
 some (IntKind.u64.wrap ((IntKind.u64.wrap ((IntKind.u64.wrap ((shrI .u64 a1 32) * (shrI .u64 a2 32))) + (shrI .u64 (IntKind.u64.wrap ((IntKind.u64.wrap ((shrI .u64 a1 32) * (andI .u64 a2 4294967295))) + (shrI .u64 (IntKind.u64.wrap ((andI .u64 a1 4294967295) * (andI .u64 a2 4294967295))) 32))) 32))) + (shrI .u64 (IntKind.u64.wrap ((andI .u64 (IntKind.u64.wrap ((IntKind.u64.wrap ((shrI .u64 a1 32) * (andI .u64 a2 4294967295))) + (shrI .u64 (IntKind.u64.wrap ((andI .u64 a1 4294967295) * (andI .u64 a2 4294967295))) 32))) 4294967295) + (IntKind.u64.wrap ((andI .u64 a1 4294967295) * (shrI .u64 a2 32))))) 32)), IntKind.u64.wrap (a1 * a2))
/- math/bits.Div64 -/
def EN (a1 : Int) (a2 : Int) (a3 : Int) : Option (Int × Int) :=
 bif a3 == 0 then
 none
 else
 bif decide (a3 ≤ a1) then
 none
 else
 bif a1 == 0 then
 bif nz a3 then
 some (IntKind.u64.wrap (Int.tdiv a2 a3), Int.tmod a2 a3)
 else none
 else
 none
/- sawmill/units.MulDiv -/
def EO (x21 : Int) : Option (Int × Int) :=
 some (w64 (IntKind.u64.wrap (0 - x21)), 0)
def DE (v12 : Int × Int) (x18 : Bool) : Option (Int × Int) :=
 bif x18 then
 some (0, 9)
 else
 bif decide (v12.2 > 0) then
 EO (IntKind.u64.wrap (v12.1 + 1))
 else
 EO v12.1
def qBR (a1 : Int) (a2 : Int) (a3 : Int) : Option (Int × Int) :=
 bif decide (a3 ≤ 0) then
 some (0, 9)
 else
 (GU a1).bind fun v5 =>
 (GU a2).bind fun v7 =>
 (SP v5 v7).bind fun v9 =>
 bif decide (v9.1 ≥ (IntKind.u64.wrap (a3))) then
 some (0, 9)
 else
 (EN v9.1 v9.2 (IntKind.u64.wrap (a3))).bind fun v12 =>
 bif (decide (a1 < 0)) == (decide (a2 < 0)) then
 bif decide (v12.1 > 9223372036854775807) then
 some (0, 9)
 else
 some (w64 (v12.1), 0)
 else
 bif decide (v12.1 > 9223372036854775808) then
 DE v12 true
 else
 bif v12.1 == 9223372036854775808 then
 DE v12 (decide (v12.2 > 0))
 else
 DE v12 false
/- sawmill/yield.Recovery -/
def LF (a1 : Yield) (x5 : Bool) : Option Int :=
 bif x5 then
 some 0
 else
 (qBR 1000 a1.Boards a1.Log).bind fun v7 =>
 bif v7.2 != 0 then
 some 0
 else
 some v7.1
def AP (a1 : Yield) : Option Int :=
 (FF a1).bind fun v2 =>
 bif !v2 then
 LF a1 true
 else
 LF a1 (a1.Log == 0)
/- sawmill/sawmilllaw22.awake -/
def QH (x25 : Bool) : Option Bool :=
 some x25
def TG (v3 : Yield × Int) (v5 : (List Yield_Cut) × Int) (v7 : Yield × Int) (x12 : Bool) : Option Bool :=
 bif x12 then
 some false
 else
 bif ((v3.1.Log == 120000000) && ((v3.1.Boards == 8820000) && ((v3.1.Chips == 111157950) && ((v3.1.Dust == 22050) && ((v3.1.Value == 181157950) && true))))) then
 bif inb 0 v5.1.length then
 bif ((((v5.1.getD ((0 : Int).toNat) default).Leaf) == 0) && ((((v5.1.getD ((0 : Int).toNat) default).Product) == 0) && ((((((((v5.1.getD ((0 : Int).toNat) default).Box).X).A) == (-50)) && ((((((v5.1.getD ((0 : Int).toNat) default).Box).X).B) == 55) && true)) && (((((((v5.1.getD ((0 : Int).toNat) default).Box).Y).A) == 0) && ((((((v5.1.getD ((0 : Int).toNat) default).Box).Y).B) == 42) && true)) && (((((((v5.1.getD ((0 : Int).toNat) default).Box).Z).A) == 0) && ((((((v5.1.getD ((0 : Int).toNat) default).Box).Z).B) == 2000) && true)) && true))) && ((((v5.1.getD ((0 : Int).toNat) default).Worth) == 70) && true)))) then
 bif v7.1.Dust == 1282050 then
 bif v7.1.Boards == 8820000 then
 bif v7.1.Value == 70000000 then
 (AP v3.1).bind fun v20 =>
 bif v20 == 73 then
 (FF v3.1).bind fun v23 =>
 QH v23
 else
 QH false
 else
 QH false
 else
 QH false
 else
 QH false
 else
 QH false
 else none
 else
 QH false
def LV : Option Bool :=
 (qA8).bind fun v1 =>
 (BA (Law22_Given.mk v1.Solid v1.Defects v1.Products (Pattern.mk v1.Pattern.Frame v1.Pattern.Nodes) v1.Saw v1.Rates)).bind fun v3 =>
 (qBk (Law22_Given.mk v1.Solid v1.Defects v1.Products (Pattern.mk v1.Pattern.Frame v1.Pattern.Nodes) v1.Saw v1.Rates)).bind fun v5 =>
 (BA (Law22_Given.mk v1.Solid v1.Defects v1.Products (Pattern.mk (Rect.mk v1.Pattern.Frame.X (Span.mk v1.Pattern.Frame.Y.A 90)) ([(Node.mk 3 42), (Node.mk 1 0), (Node.mk 0 0)] : List Node)) v1.Saw (Rates.mk 0 v1.Rates.Dust v1.Rates.Fine))).bind fun v7 =>
 bif v3.2 != 0 then
 TG v3 v5 v7 true
 else
 bif v5.2 != 0 then
 TG v3 v5 v7 true
 else
 bif v7.2 != 0 then
 TG v3 v5 v7 true
 else
 TG v3 v5 v7 (((v5.1.length : Nat) : Int) != 1)
/- sawmill/sawmillref10.beyond -/
def DO (x3 : Bool) : Option Bool :=
 some x3
def TB (a1 : Int) : Option Bool :=
 bif decide (a1 < (-600)) then
 DO true
 else
 DO (decide (a1 > 600))
/- sawmill/sawmillref10.empty -/
def YK (a1 : Span) : Option Bool :=
 some (decide (a1.A ≥ a1.B))
/- sawmill/sawmillref10.Check -/
def NW (x6 : Int) (rec_ref10_Check_L2 : Int → Option (Int ⊕ Unit)) (x14 : Bool) : Option (Int ⊕ Unit) :=
 bif x14 then
 some (Sum.inl 9)
 else
 rec_ref10_Check_L2 (w64 (x6 + 1))
def yF (a1 : qK) : Nat → Int → Option (Int ⊕ Unit)
 | 0, _ => none
 | n + 1, x6 =>
 bif decide (x6 < ((a1.Rows.length : Nat) : Int)) then
 bif inb x6 a1.Rows.length then
 (TB ((a1.Rows.getD x6.toNat default).A)).bind fun v9 =>
 bif v9 then
 NW x6 (yF a1 n) true
 else
 (TB ((a1.Rows.getD x6.toNat default).B)).bind fun v12 =>
 NW x6 (yF a1 n) v12
 else none
 else
 some (Sum.inr ())
def NU (x31 : Int) (rec_ref10_Check_L5 : Int → Option (Int ⊕ Unit)) (x37 : Bool) : Option (Int ⊕ Unit) :=
 bif x37 then
 some (Sum.inl 19)
 else
 rec_ref10_Check_L5 (w64 (x31 + 1))
def yI (a1 : qK) : Nat → Int → Option (Int ⊕ Unit)
 | 0, _ => none
 | n + 1, x31 =>
 bif decide (x31 < ((a1.Rows.length : Nat) : Int)) then
 bif inb x31 a1.Rows.length then
 (YK (a1.Rows.getD x31.toNat default)).bind fun v34 =>
 bif v34 then
 NU x31 (yI a1 n) (!((((a1.Rows.getD x31.toNat default).A) == 0) && ((((a1.Rows.getD x31.toNat default).B) == 0) && true)))
 else
 NU x31 (yI a1 n) false
 else none
 else
 some (Sum.inr ())
def NZ (a1 : qK) (x29 : Bool) : Option Int :=
 bif x29 then
 some 19
 else
 (yI a1 FUEL 0).bind fun u41 => Sum.elim (fun v42 => some v42) (fun o39 =>
 some 0) u41
def NO (a1 : qK) (x4 : Bool) : Option Int :=
 bif x4 then
 some 9
 else
 (yF a1 FUEL 0).bind fun u18 => Sum.elim (fun v19 => some v19) (fun o16 =>
 bif ((a1.Rows.length : Nat) : Int) == 0 then
 bif a1.Low != 0 then
 some 19
 else
 some 0
 else
 bif inb 0 a1.Rows.length then
 (YK (a1.Rows.getD (0 : Int).toNat default)).bind fun v23 =>
 bif v23 then
 NZ a1 true
 else
 bif inb (w64 (((a1.Rows.length : Nat) : Int) - 1)) a1.Rows.length then
 (YK (a1.Rows.getD (w64 (((a1.Rows.length : Nat) : Int) - 1)).toNat default)).bind fun v27 =>
 NZ a1 v27
 else none
 else none) u18
def GE (a1 : qK) : Option Int :=
 bif decide (((a1.Rows.length : Nat) : Int) > 120) then
 some 4
 else
 bif decide (a1.Low < (-60)) then
 NO a1 true
 else
 NO a1 (decide (a1.Low > (w64 (60 - ((a1.Rows.length : Nat) : Int)))))
/- sawmill/sawmillref11.Check -/
def FA (a1 : List Slice) (x4 : Int) (x5 : Int) (rec_ref11_Check_L1 : Int → Int → Option (Int ⊕ Unit)) (x13 : Bool) : Option (Int ⊕ Unit) :=
 bif x13 then
 some (Sum.inl 9)
 else
 rec_ref11_Check_L1 (w64 (x4 + ((a1.getD x5.toNat default).Len))) (w64 (x5 + 1))
def yJ (a1 : List Slice) : Nat → Int → Int → Option (Int ⊕ Unit)
 | 0, _, _ => none
 | n + 1, x4, x5 =>
 bif decide (x5 < ((a1.length : Nat) : Int)) then
 bif inb x5 a1.length then
 (GE ((a1.getD x5.toNat default).Sec)).bind fun v8 =>
 bif v8 != 0 then
 some (Sum.inl v8)
 else
 bif (((((a1.getD x5.toNat default).Sec).Rows).length : Nat) : Int) == 0 then
 some (Sum.inl 18)
 else
 bif decide (((a1.getD x5.toNat default).Len) < 1) then
 FA a1 x4 x5 (yJ a1 n) true
 else
 FA a1 x4 x5 (yJ a1 n) (decide (((a1.getD x5.toNat default).Len) > (w64 (20000 - x4))))
 else none
 else
 some (Sum.inr ())
def QO (a1 : List Slice) : Option Int :=
 bif ((a1.length : Nat) : Int) == 0 then
 some 3
 else
 bif decide (((a1.length : Nat) : Int) > 24) then
 some 4
 else
 (yJ a1 FUEL 0 0).bind fun u17 => Sum.elim (fun v18 => some v18) (fun o15 =>
 some 0) u17
/- sawmill/sawmillref13.Empty -/
def RK (x4 : Bool) : Option Bool :=
 some x4
def GC (a1 : Box) : Option Bool :=
 bif decide (a1.X.A ≥ a1.X.B) then
 RK true
 else
 bif decide (a1.Y.A ≥ a1.Y.B) then
 RK true
 else
 RK (decide (a1.Z.A ≥ a1.Z.B))
/- sawmill/sawmillref13.in -/
def IP (x5 : Bool) : Option Bool :=
 some x5
def HP (a1 : Span) (a2 : Int) (a3 : Int) : Option Bool :=
 bif decide (a2 ≤ a1.A) then
 IP (decide (a1.B ≤ a3))
 else
 IP false
/- sawmill/sawmillref13.Ranged -/
def PB (x10 : Bool) : Option Bool :=
 some x10
def NJ (a1 : Box) : Option Bool :=
 (HP a1.X (-600) 600).bind fun v2 =>
 bif v2 then
 (HP a1.Y (-600) 600).bind fun v5 =>
 bif v5 then
 (HP a1.Z 0 20000).bind fun v8 =>
 PB v8
 else
 PB false
 else
 PB false
/- sawmill/sawmillref13.Check -/
def NQ (a1 : List Defect) (x3 : Int) (rec_ref13_Check_L1 : Int → Option (Int ⊕ Unit)) (x7 : Bool) : Option (Int ⊕ Unit) :=
 bif x7 then
 some (Sum.inl 10)
 else
 bif inb x3 a1.length then
 (GC ((a1.getD x3.toNat default).Box)).bind fun v10 =>
 bif v10 then
 some (Sum.inl 19)
 else
 (NJ ((a1.getD x3.toNat default).Box)).bind fun v13 =>
 bif !v13 then
 some (Sum.inl 9)
 else
 rec_ref13_Check_L1 (w64 (x3 + 1))
 else none
def yH (a1 : List Defect) : Nat → Int → Option (Int ⊕ Unit)
 | 0, _ => none
 | n + 1, x3 =>
 bif decide (x3 < ((a1.length : Nat) : Int)) then
 bif inb x3 a1.length then
 bif decide (((a1.getD x3.toNat default).Kind) < 1) then
 NQ a1 x3 (yH a1 n) true
 else
 NQ a1 x3 (yH a1 n) (decide (((a1.getD x3.toNat default).Kind) > 6))
 else none
 else
 some (Sum.inr ())
def GD (a1 : List Defect) : Option Int :=
 bif decide (((a1.length : Nat) : Int) > 64) then
 some 4
 else
 (yH a1 FUEL 0).bind fun u18 => Sum.elim (fun v19 => some v19) (fun o16 =>
 some 0) u18
/- sawmill/sawmillref02.digit -/
def FE (x3 : Bool) : Option Bool :=
 some x3
def LX (a1 : Int) : Option Bool :=
 bif decide (a1 ≥ 48) then
 FE (decide (a1 ≤ 57))
 else
 FE false
/- sawmill/sawmillref02.IsName -/
def JN (x5 : Int) (rec_ref02_IsName_L2 : Int → Option (Bool ⊕ Unit)) (x16 : Bool) : Option (Bool ⊕ Unit) :=
 bif x16 then
 some (Sum.inl false)
 else
 rec_ref02_IsName_L2 (w64 (x5 + 1))
def GR (a1 : ByteArray) (x5 : Int) (rec_ref02_IsName_L2 : Int → Option (Bool ⊕ Unit)) (x9 : Bool) : Option (Bool ⊕ Unit) :=
 bif !x9 then
 bif x5 == 0 then
 JN x5 rec_ref02_IsName_L2 true
 else
 bif inb x5 a1.size then
 bif (strAt a1 x5.toNat) != 95 then
 (LX (strAt a1 x5.toNat)).bind fun v14 =>
 JN x5 rec_ref02_IsName_L2 (!v14)
 else
 JN x5 rec_ref02_IsName_L2 false
 else none
 else
 JN x5 rec_ref02_IsName_L2 false
def wS (a1 : ByteArray) : Nat → Int → Option (Bool ⊕ Unit)
 | 0, _ => none
 | n + 1, x5 =>
 bif decide (x5 < ((a1.size : Nat) : Int)) then
 bif inb x5 a1.size then
 bif decide ((strAt a1 x5.toNat) ≥ 97) then
 GR a1 x5 (wS a1 n) (decide ((strAt a1 x5.toNat) ≤ 122))
 else
 GR a1 x5 (wS a1 n) false
 else none
 else
 some (Sum.inr ())
def DC (a1 : ByteArray) (x3 : Bool) : Option Bool :=
 bif x3 then
 some false
 else
 (wS a1 FUEL 0).bind fun u20 => Sum.elim (fun v21 => some v21) (fun o18 =>
 some true) u20
def NH (a1 : ByteArray) : Option Bool :=
 bif decide (((a1.size : Nat) : Int) < 1) then
 DC a1 true
 else
 DC a1 (decide (((a1.size : Nat) : Int) > 16))
/- sawmill/sawmillref19.sized -/
def YS (x5 : Bool) : Option Bool :=
 some x5
def IR (a1 : Product) : Option Bool :=
 bif decide (a1.Thick ≥ 1) then
 bif decide (a1.Thick ≤ 600) then
 bif decide (a1.Width ≥ 1) then
 YS (decide (a1.Width ≤ 600))
 else
 YS false
 else
 YS false
 else
 YS false
/- sawmill/sawmillref19.Green -/
def TD (a1 : Product) (x6 : Bool) : Option (Int × Int) :=
 bif x6 then
 some (0, 0)
 else
 some (w64 (Int.tdiv (w64 ((w64 (a1.Thick * (w64 (1000 + a1.Allow)))) + 999)) 1000), w64 (Int.tdiv (w64 ((w64 (a1.Width * (w64 (1000 + a1.Allow)))) + 999)) 1000))
def YH (a1 : Product) : Option (Int × Int) :=
 (IR a1).bind fun v2 =>
 bif !v2 then
 TD a1 true
 else
 bif decide (a1.Allow < 0) then
 TD a1 true
 else
 TD a1 (decide (a1.Allow > 200))
/- sawmill/sawmillref19.checkLengths -/
def JL (x5 : Int) (rec_ref19_checkLengths_L1 : Int → Option (Int ⊕ Unit)) (x14 : Bool) : Option (Int ⊕ Unit) :=
 bif x14 then
 some (Sum.inl 11)
 else
 rec_ref19_checkLengths_L1 (w64 (x5 + 1))
def JH (a1 : Product) (x5 : Int) (rec_ref19_checkLengths_L1 : Int → Option (Int ⊕ Unit)) (x9 : Bool) : Option (Int ⊕ Unit) :=
 bif x9 then
 some (Sum.inl 9)
 else
 bif decide (x5 > 0) then
 bif inb x5 a1.Lengths.length then
 bif inb (w64 (x5 - 1)) a1.Lengths.length then
 JL x5 rec_ref19_checkLengths_L1 (decide ((a1.Lengths.getD x5.toNat default) ≤ (a1.Lengths.getD (w64 (x5 - 1)).toNat default)))
 else none
 else none
 else
 JL x5 rec_ref19_checkLengths_L1 false
def zQ (a1 : Product) : Nat → Int → Option (Int ⊕ Unit)
 | 0, _ => none
 | n + 1, x5 =>
 bif decide (x5 < ((a1.Lengths.length : Nat) : Int)) then
 bif inb x5 a1.Lengths.length then
 bif decide ((a1.Lengths.getD x5.toNat default) < 100) then
 JH a1 x5 (zQ a1 n) true
 else
 JH a1 x5 (zQ a1 n) (decide ((a1.Lengths.getD x5.toNat default) > 20000))
 else none
 else
 some (Sum.inr ())
def JP (x20 : Int) (rec_ref19_checkLengths_L4 : Int → Option (Int ⊕ Unit)) (x24 : Bool) : Option (Int ⊕ Unit) :=
 bif x24 then
 some (Sum.inl 9)
 else
 rec_ref19_checkLengths_L4 (w64 (x20 + 1))
def zW (a1 : Product) : Nat → Int → Option (Int ⊕ Unit)
 | 0, _ => none
 | n + 1, x20 =>
 bif decide (x20 < ((a1.Prices.length : Nat) : Int)) then
 bif inb x20 a1.Prices.length then
 bif decide ((a1.Prices.getD x20.toNat default) < 0) then
 JP x20 (zW a1 n) true
 else
 JP x20 (zW a1 n) (decide ((a1.Prices.getD x20.toNat default) > 1000000))
 else none
 else
 some (Sum.inr ())
def WY (a1 : Product) : Option Int :=
 bif ((a1.Lengths.length : Nat) : Int) == 0 then
 some 3
 else
 bif decide (((a1.Lengths.length : Nat) : Int) > 8) then
 some 4
 else
 bif ((a1.Prices.length : Nat) : Int) != ((a1.Lengths.length : Nat) : Int) then
 some 19
 else
 (zQ a1 FUEL 0).bind fun u18 => Sum.elim (fun v19 => some v19) (fun o16 =>
 (zW a1 FUEL 0).bind fun u28 => Sum.elim (fun v29 => some v29) (fun o26 =>
 some 0) u28) u18
/- sawmill/sawmillref19.Check -/
def WE (a1 : List Product) (x3 : Int) : Nat → Int → Option (Int ⊕ Unit)
 | 0, _ => none
 | n + 1, x9 =>
 bif decide (x9 < x3) then
 bif inb x9 a1.length then
 bif strEq ((a1.getD x9.toNat default).Name) ((a1.getD x3.toNat default).Name) then
 some (Sum.inl 7)
 else
 (WE a1 x3 n) (w64 (x9 + 1))
 else none
 else
 some (Sum.inr ())
def jL (a1 : List Product) (x3 : Int) (rec_ref19_Check_L1 : Int → Option (Int ⊕ Unit)) (x24 : Bool) : Option (Int ⊕ Unit) :=
 bif x24 then
 some (Sum.inl 9)
 else
 (YH (a1.getD x3.toNat default)).bind fun v26 =>
 bif decide (v26.2 > 600) then
 some (Sum.inl 9)
 else
 (WY (a1.getD x3.toNat default)).bind fun v29 =>
 bif v29 != 0 then
 some (Sum.inl v29)
 else
 rec_ref19_Check_L1 (w64 (x3 + 1))
def zT (a1 : List Product) : Nat → Int → Option (Int ⊕ Unit)
 | 0, _ => none
 | n + 1, x3 =>
 bif decide (x3 < ((a1.length : Nat) : Int)) then
 bif inb x3 a1.length then
 (NH ((a1.getD x3.toNat default).Name)).bind fun v6 =>
 bif !v6 then
 some (Sum.inl 6)
 else
 (WE a1 x3 FUEL 0).bind fun u15 => Sum.elim (fun v16 => some (Sum.inl v16)) (fun o13 =>
 bif decide (((a1.getD x3.toNat default).Thick) < 5) then
 jL a1 x3 (zT a1 n) true
 else
 bif decide (((a1.getD x3.toNat default).Thick) > 300) then
 jL a1 x3 (zT a1 n) true
 else
 bif decide (((a1.getD x3.toNat default).Width) < ((a1.getD x3.toNat default).Thick)) then
 jL a1 x3 (zT a1 n) true
 else
 bif decide (((a1.getD x3.toNat default).Width) > 600) then
 jL a1 x3 (zT a1 n) true
 else
 bif decide (((a1.getD x3.toNat default).Allow) < 0) then
 jL a1 x3 (zT a1 n) true
 else
 bif decide (((a1.getD x3.toNat default).Allow) > 200) then
 jL a1 x3 (zT a1 n) true
 else
 bif decide (((a1.getD x3.toNat default).Wane) < 0) then
 jL a1 x3 (zT a1 n) true
 else
 jL a1 x3 (zT a1 n) (decide (((a1.getD x3.toNat default).Wane) > 1000))) u15
 else none
 else
 some (Sum.inr ())
def VU (a1 : List Product) : Option Int :=
 bif decide (((a1.length : Nat) : Int) > 16) then
 some 4
 else
 (zT a1 FUEL 0).bind fun u34 => Sum.elim (fun v35 => some v35) (fun o32 =>
 some 0) u34
/- sawmill/sawmillref20.from -/
def MO (x5 : Bool) : Option Bool :=
 some x5
def yM (a1 : Int) (a2 : Int) (a3 : Int) : Option Bool :=
 bif decide (a1 ≥ a2) then
 MO (decide (a1 ≤ a3))
 else
 MO false
/- sawmill/sawmillref20.Check -/
def RD (x24 : Bool) : Option Int :=
 bif x24 then
 some 9
 else
 some 0
def YT (a2 : Rates) (x14 : Bool) : Option Int :=
 bif x14 then
 some 9
 else
 (yM a2.Chip 0 1000).bind fun v16 =>
 bif !v16 then
 RD true
 else
 (yM a2.Dust 0 1000).bind fun v19 =>
 bif !v19 then
 RD true
 else
 (yM a2.Fine 0 1000000).bind fun v22 =>
 RD (!v22)
def MA (a1 : Saw) (a2 : Rates) : Option Int :=
 (yM a1.Kerf 0 20).bind fun v3 =>
 bif !v3 then
 YT a2 true
 else
 (yM a1.Trim 0 20).bind fun v6 =>
 bif !v6 then
 YT a2 true
 else
 (yM a1.Pitch 1 2000).bind fun v9 =>
 bif !v9 then
 YT a2 true
 else
 (yM a1.Step 1 20000).bind fun v12 =>
 YT a2 (!v12)
/- sawmill/sawmillref21.Framed -/
def yX (x7 : Bool) : Option Bool :=
 some x7
def BB (a1 : Rect) : Option Bool :=
 bif decide (a1.X.A < a1.X.B) then
 bif decide (a1.Y.A < a1.Y.B) then
 bif decide (a1.X.A ≥ (-600)) then
 bif decide (a1.X.B ≤ 600) then
 bif decide (a1.Y.A ≥ (-600)) then
 yX (decide (a1.Y.B ≤ 600))
 else
 yX false
 else
 yX false
 else
 yX false
 else
 yX false
 else
 yX false
/- (*sawmill/sawmillref21.walker).board -/
def RB (x11 : Bool) : Option Int :=
 bif x11 then
 some 8
 else
 some 0
def jR (x23 : Bool) : Option Int :=
 bif x23 then
 some 0
 else
 some 20
def RG (a1 : Node) (a2 : Rect) (a4 : List Product) (x14 : Bool) : Option Int :=
 bif x14 then
 some 8
 else
 bif inb a1.At a4.length then
 (YH (a4.getD a1.At.toNat default)).bind fun v17 =>
 bif (w64 (a2.X.B - a2.X.A)) == v17.1 then
 bif (w64 (a2.Y.B - a2.Y.A)) == v17.2 then
 jR true
 else
 bif (w64 (a2.X.B - a2.X.A)) == v17.2 then
 jR ((w64 (a2.Y.B - a2.Y.A)) == v17.1)
 else
 jR false
 else
 bif (w64 (a2.X.B - a2.X.A)) == v17.2 then
 jR ((w64 (a2.Y.B - a2.Y.A)) == v17.1)
 else
 jR false
 else none
def JD (a1 : Node) (a2 : Rect) (a3 : List Node) (a4 : List Product) (a5 : Bool) (a6 : Int) (a7 : Int) (a8 : List Leaf) : Option Int :=
 bif !a5 then
 bif decide (a1.At < 0) then
 RB true
 else
 RB (decide (a1.At ≥ 16))
 else
 bif decide (a1.At < 0) then
 RG a1 a2 a4 true
 else
 RG a1 a2 a4 (decide (a1.At ≥ ((a4.length : Nat) : Int)))
/- sawmill/sawmillref21.Parts -/
def jW (a1 : Span) (a2 : Int) (a3 : Int) : Option (Span × Span × Span) :=
 some ((Span.mk a1.A a2), (Span.mk a2 (imin (w64 (a2 + a3)) a1.B)), (Span.mk (imin (w64 (a2 + a3)) a1.B) a1.B))
/- (*sawmill/sawmillref21.walker).board -/
def QS (x12 : Bool) : Option Int :=
 bif x12 then
 some 8
 else
 some 0
def wD (x24 : Bool) : Option Int :=
 bif x24 then
 some 0
 else
 some 20
def QT (a1 : Node) (a2 : Rect) (a4 : List Product) (x15 : Bool) : Option Int :=
 bif x15 then
 some 8
 else
 bif inb a1.At a4.length then
 (YH (a4.getD a1.At.toNat default)).bind fun v18 =>
 bif (w64 (a2.X.B - a2.X.A)) == v18.1 then
 bif (w64 (a2.Y.B - a2.Y.A)) == v18.2 then
 wD true
 else
 bif (w64 (a2.X.B - a2.X.A)) == v18.2 then
 wD ((w64 (a2.Y.B - a2.Y.A)) == v18.1)
 else
 wD false
 else
 bif (w64 (a2.X.B - a2.X.A)) == v18.2 then
 wD ((w64 (a2.Y.B - a2.Y.A)) == v18.1)
 else
 wD false
 else none
def wE (a1 : Node) (a2 : Rect) (a3 : List Node) (a4 : List Product) (a5 : Bool) (a6 : Int) (a7 : Int) (a8 : List Leaf) (a9 : List Rect) : Option Int :=
 bif !a5 then
 bif decide (a1.At < 0) then
 QS true
 else
 QS (decide (a1.At ≥ 16))
 else
 bif decide (a1.At < 0) then
 QT a1 a2 a4 true
 else
 QT a1 a2 a4 (decide (a1.At ≥ ((a4.length : Nat) : Int)))
/- (*sawmill/sawmillref21.walker).node -/
def XU (a2 : Int) (a3 : List Node) (a4 : List Product) (a5 : Bool) (a6 : Int) (a7 : Int) (a8 : List Leaf) (a9 : List Rect) (rec_ref21_walker_node_s2 : Rect → Int → (List Node) → (List Product) → Bool → Int → Int → (List Leaf) → (List Rect) → Option (Int × Int × (List Leaf) × (List Rect))) (x35 : Rect) (x36 : Rect) (x37 : Rect) : Option (Int × Int × (List Leaf) × (List Rect)) :=
 bif room (a9.length + 1) 32 then
 (rec_ref21_walker_node_s2 x37 (w64 (a2 + 1)) a3 a4 a5 a6 (w64 (a7 + 1)) a8 (a9 ++ ([x36] : List Rect))).bind fun v39 =>
 bif v39.1 != 0 then
 some (v39.1, v39.2.1, v39.2.2.1, v39.2.2.2)
 else
 (rec_ref21_walker_node_s2 x35 (w64 (a2 + 1)) a3 a4 a5 a6 v39.2.1 v39.2.2.1 v39.2.2.2).bind fun v42 =>
 some (v42.1, v42.2.1, v42.2.2.1, v42.2.2.2)
 else none
def XO (a1 : Rect) (a2 : Int) (a3 : List Node) (a4 : List Product) (a5 : Bool) (a6 : Int) (a7 : Int) (a8 : List Leaf) (a9 : List Rect) (rec_ref21_walker_node_s2 : Rect → Int → (List Node) → (List Product) → Bool → Int → Int → (List Leaf) → (List Rect) → Option (Int × Int × (List Leaf) × (List Rect))) (x26 : Bool) : Option (Int × Int × (List Leaf) × (List Rect)) :=
 bif x26 then
 some (20, w64 (a7 + 1), a8, a9)
 else
 (jW a1.X ((a3.getD a7.toNat default).At) a6).bind fun v28 =>
 XU a2 a3 a4 a5 a6 a7 a8 a9 rec_ref21_walker_node_s2 (Rect.mk v28.2.2 a1.Y) (Rect.mk v28.2.1 a1.Y) (Rect.mk v28.1 a1.Y)
def XX (a1 : Rect) (a2 : Int) (a3 : List Node) (a4 : List Product) (a5 : Bool) (a6 : Int) (a7 : Int) (a8 : List Leaf) (a9 : List Rect) (rec_ref21_walker_node_s2 : Rect → Int → (List Node) → (List Product) → Bool → Int → Int → (List Leaf) → (List Rect) → Option (Int × Int × (List Leaf) × (List Rect))) (x31 : Bool) : Option (Int × Int × (List Leaf) × (List Rect)) :=
 bif x31 then
 some (20, w64 (a7 + 1), a8, a9)
 else
 (jW a1.Y ((a3.getD a7.toNat default).At) a6).bind fun v33 =>
 XU a2 a3 a4 a5 a6 a7 a8 a9 rec_ref21_walker_node_s2 (Rect.mk a1.X v33.2.2) (Rect.mk a1.X v33.2.1) (Rect.mk a1.X v33.1)
def yO (a1 : Rect) (a2 : Int) (a3 : List Node) (a4 : List Product) (a5 : Bool) (a6 : Int) (a7 : Int) (a8 : List Leaf) (a9 : List Rect) (rec_ref21_walker_node_s2 : Rect → Int → (List Node) → (List Product) → Bool → Int → Int → (List Leaf) → (List Rect) → Option (Int × Int × (List Leaf) × (List Rect))) (x15 : Bool) : Option (Int × Int × (List Leaf) × (List Rect)) :=
 bif x15 then
 some (10, w64 (a7 + 1), a8, a9)
 else
 bif decide (a2 > 64) then
 some (28, w64 (a7 + 1), a8, a9)
 else
 bif ((a3.getD a7.toNat default).Kind) == 0 then
 bif room (a8.length + 1) 40 then
 some (0, w64 (a7 + 1), (a8 ++ ([(Leaf.mk a1 (-1))] : List Leaf)), a9)
 else none
 else
 bif ((a3.getD a7.toNat default).Kind) == 1 then
 bif room (a8.length + 1) 40 then
 (wE (a3.getD a7.toNat default) a1 a3 a4 a5 a6 (w64 (a7 + 1)) (a8 ++ ([(Leaf.mk a1 ((a3.getD a7.toNat default).At))] : List Leaf)) a9).bind fun v22 =>
 some (v22, (w64 (a7 + 1)), (a8 ++ ([(Leaf.mk a1 ((a3.getD a7.toNat default).At))] : List Leaf)), a9)
 else none
 else
 bif ((a3.getD a7.toNat default).Kind) == 2 then
 bif decide (((a3.getD a7.toNat default).At) ≤ a1.X.A) then
 XO a1 a2 a3 a4 a5 a6 a7 a8 a9 rec_ref21_walker_node_s2 true
 else
 XO a1 a2 a3 a4 a5 a6 a7 a8 a9 rec_ref21_walker_node_s2 (decide (((a3.getD a7.toNat default).At) ≥ a1.X.B))
 else
 bif decide (((a3.getD a7.toNat default).At) ≤ a1.Y.A) then
 XX a1 a2 a3 a4 a5 a6 a7 a8 a9 rec_ref21_walker_node_s2 true
 else
 XX a1 a2 a3 a4 a5 a6 a7 a8 a9 rec_ref21_walker_node_s2 (decide (((a3.getD a7.toNat default).At) ≥ a1.Y.B))
def qP : Nat → Rect → Int → (List Node) → (List Product) → Bool → Int → Int → (List Leaf) → (List Rect) → Option (Int × Int × (List Leaf) × (List Rect))
 | 0, _, _, _, _, _, _, _, _, _ => none
 | n + 1, a1, a2, a3, a4, a5, a6, a7, a8, a9 =>
 bif decide (a7 ≥ ((a3.length : Nat) : Int)) then
 some (3, a7, a8, a9)
 else
 bif inb a7 a3.length then
 bif decide (((a3.getD a7.toNat default).Kind) < 0) then
 yO a1 a2 a3 a4 a5 a6 a7 a8 a9 (qP n) true
 else
 bif decide (((a3.getD a7.toNat default).Kind) > 3) then
 yO a1 a2 a3 a4 a5 a6 a7 a8 a9 (qP n) true
 else
 bif ((a3.getD a7.toNat default).Kind) == 0 then
 yO a1 a2 a3 a4 a5 a6 a7 a8 a9 (qP n) (((a3.getD a7.toNat default).At) != 0)
 else
 yO a1 a2 a3 a4 a5 a6 a7 a8 a9 (qP n) false
 else none
def TQ (a1 : Rect) (a2 : Int) (a3 : List Node) (a4 : List Product) (a5 : Bool) (a6 : Int) (a7 : Int) (a8 : List Leaf) (a9 : List Rect) : Option (Int × Int × (List Leaf) × (List Rect)) := qP FUEL a1 a2 a3 a4 a5 a6 a7 a8 a9
/- (*sawmill/sawmillref21.walker).node -/
def XQ (a2 : Int) (a3 : List Node) (a4 : List Product) (a5 : Bool) (a6 : Int) (a7 : Int) (a8 : List Rect) (rec_ref21_walker_node_s1 : Rect → Int → (List Node) → (List Product) → Bool → Int → Int → (List Rect) → Option (Int × Int × (List Leaf) × (List Rect))) (x34 : Rect) (x35 : Rect) (x36 : Rect) : Option (Int × Int × (List Leaf) × (List Rect)) :=
 bif room (a8.length + 1) 32 then
 (rec_ref21_walker_node_s1 x36 (w64 (a2 + 1)) a3 a4 a5 a6 (w64 (a7 + 1)) (a8 ++ ([x35] : List Rect))).bind fun v38 =>
 bif v38.1 != 0 then
 some (v38.1, v38.2.1, v38.2.2.1, v38.2.2.2)
 else
 (TQ x34 (w64 (a2 + 1)) a3 a4 a5 a6 v38.2.1 v38.2.2.1 v38.2.2.2).bind fun v41 =>
 some (v41.1, v41.2.1, v41.2.2.1, v41.2.2.2)
 else none
def XS (a1 : Rect) (a2 : Int) (a3 : List Node) (a4 : List Product) (a5 : Bool) (a6 : Int) (a7 : Int) (a8 : List Rect) (rec_ref21_walker_node_s1 : Rect → Int → (List Node) → (List Product) → Bool → Int → Int → (List Rect) → Option (Int × Int × (List Leaf) × (List Rect))) (x25 : Bool) : Option (Int × Int × (List Leaf) × (List Rect)) :=
 bif x25 then
 some (20, w64 (a7 + 1), ([] : List Leaf), a8)
 else
 (jW a1.X ((a3.getD a7.toNat default).At) a6).bind fun v27 =>
 XQ a2 a3 a4 a5 a6 a7 a8 rec_ref21_walker_node_s1 (Rect.mk v27.2.2 a1.Y) (Rect.mk v27.2.1 a1.Y) (Rect.mk v27.1 a1.Y)
def XW (a1 : Rect) (a2 : Int) (a3 : List Node) (a4 : List Product) (a5 : Bool) (a6 : Int) (a7 : Int) (a8 : List Rect) (rec_ref21_walker_node_s1 : Rect → Int → (List Node) → (List Product) → Bool → Int → Int → (List Rect) → Option (Int × Int × (List Leaf) × (List Rect))) (x30 : Bool) : Option (Int × Int × (List Leaf) × (List Rect)) :=
 bif x30 then
 some (20, w64 (a7 + 1), ([] : List Leaf), a8)
 else
 (jW a1.Y ((a3.getD a7.toNat default).At) a6).bind fun v32 =>
 XQ a2 a3 a4 a5 a6 a7 a8 rec_ref21_walker_node_s1 (Rect.mk a1.X v32.2.2) (Rect.mk a1.X v32.2.1) (Rect.mk a1.X v32.1)
def yN (a1 : Rect) (a2 : Int) (a3 : List Node) (a4 : List Product) (a5 : Bool) (a6 : Int) (a7 : Int) (a8 : List Rect) (rec_ref21_walker_node_s1 : Rect → Int → (List Node) → (List Product) → Bool → Int → Int → (List Rect) → Option (Int × Int × (List Leaf) × (List Rect))) (x14 : Bool) : Option (Int × Int × (List Leaf) × (List Rect)) :=
 bif x14 then
 some (10, w64 (a7 + 1), ([] : List Leaf), a8)
 else
 bif decide (a2 > 64) then
 some (28, w64 (a7 + 1), ([] : List Leaf), a8)
 else
 bif ((a3.getD a7.toNat default).Kind) == 0 then
 bif room 1 40 then
 some (0, w64 (a7 + 1), ([(Leaf.mk a1 (-1))] : List Leaf), a8)
 else none
 else
 bif ((a3.getD a7.toNat default).Kind) == 1 then
 bif room 1 40 then
 (wE (a3.getD a7.toNat default) a1 a3 a4 a5 a6 (w64 (a7 + 1)) ([(Leaf.mk a1 ((a3.getD a7.toNat default).At))] : List Leaf) a8).bind fun v21 =>
 some (v21, (w64 (a7 + 1)), ([(Leaf.mk a1 ((a3.getD a7.toNat default).At))] : List Leaf), a8)
 else none
 else
 bif ((a3.getD a7.toNat default).Kind) == 2 then
 bif decide (((a3.getD a7.toNat default).At) ≤ a1.X.A) then
 XS a1 a2 a3 a4 a5 a6 a7 a8 rec_ref21_walker_node_s1 true
 else
 XS a1 a2 a3 a4 a5 a6 a7 a8 rec_ref21_walker_node_s1 (decide (((a3.getD a7.toNat default).At) ≥ a1.X.B))
 else
 bif decide (((a3.getD a7.toNat default).At) ≤ a1.Y.A) then
 XW a1 a2 a3 a4 a5 a6 a7 a8 rec_ref21_walker_node_s1 true
 else
 XW a1 a2 a3 a4 a5 a6 a7 a8 rec_ref21_walker_node_s1 (decide (((a3.getD a7.toNat default).At) ≥ a1.Y.B))
def qY : Nat → Rect → Int → (List Node) → (List Product) → Bool → Int → Int → (List Rect) → Option (Int × Int × (List Leaf) × (List Rect))
 | 0, _, _, _, _, _, _, _, _ => none
 | n + 1, a1, a2, a3, a4, a5, a6, a7, a8 =>
 bif decide (a7 ≥ ((a3.length : Nat) : Int)) then
 some (3, a7, ([] : List Leaf), a8)
 else
 bif inb a7 a3.length then
 bif decide (((a3.getD a7.toNat default).Kind) < 0) then
 yN a1 a2 a3 a4 a5 a6 a7 a8 (qY n) true
 else
 bif decide (((a3.getD a7.toNat default).Kind) > 3) then
 yN a1 a2 a3 a4 a5 a6 a7 a8 (qY n) true
 else
 bif ((a3.getD a7.toNat default).Kind) == 0 then
 yN a1 a2 a3 a4 a5 a6 a7 a8 (qY n) (((a3.getD a7.toNat default).At) != 0)
 else
 yN a1 a2 a3 a4 a5 a6 a7 a8 (qY n) false
 else none
def SW (a1 : Rect) (a2 : Int) (a3 : List Node) (a4 : List Product) (a5 : Bool) (a6 : Int) (a7 : Int) (a8 : List Rect) : Option (Int × Int × (List Leaf) × (List Rect)) := qY FUEL a1 a2 a3 a4 a5 a6 a7 a8
/- (*sawmill/sawmillref21.walker).node -/
def TO (a2 : Int) (a3 : List Node) (a4 : List Product) (a5 : Bool) (a6 : Int) (a7 : Int) (x33 : Rect) (x34 : Rect) (x35 : Rect) : Option (Int × Int × (List Leaf) × (List Rect)) :=
 bif room 1 32 then
 (SW x35 (w64 (a2 + 1)) a3 a4 a5 a6 (w64 (a7 + 1)) ([x34] : List Rect)).bind fun v37 =>
 bif v37.1 != 0 then
 some (v37.1, v37.2.1, v37.2.2.1, v37.2.2.2)
 else
 (TQ x33 (w64 (a2 + 1)) a3 a4 a5 a6 v37.2.1 v37.2.2.1 v37.2.2.2).bind fun v40 =>
 some (v40.1, v40.2.1, v40.2.2.1, v40.2.2.2)
 else none
def TT (a1 : Rect) (a2 : Int) (a3 : List Node) (a4 : List Product) (a5 : Bool) (a6 : Int) (a7 : Int) (x24 : Bool) : Option (Int × Int × (List Leaf) × (List Rect)) :=
 bif x24 then
 some (20, w64 (a7 + 1), ([] : List Leaf), ([] : List Rect))
 else
 (jW a1.X ((a3.getD a7.toNat default).At) a6).bind fun v26 =>
 TO a2 a3 a4 a5 a6 a7 (Rect.mk v26.2.2 a1.Y) (Rect.mk v26.2.1 a1.Y) (Rect.mk v26.1 a1.Y)
def UJ (a1 : Rect) (a2 : Int) (a3 : List Node) (a4 : List Product) (a5 : Bool) (a6 : Int) (a7 : Int) (x29 : Bool) : Option (Int × Int × (List Leaf) × (List Rect)) :=
 bif x29 then
 some (20, w64 (a7 + 1), ([] : List Leaf), ([] : List Rect))
 else
 (jW a1.Y ((a3.getD a7.toNat default).At) a6).bind fun v31 =>
 TO a2 a3 a4 a5 a6 a7 (Rect.mk a1.X v31.2.2) (Rect.mk a1.X v31.2.1) (Rect.mk a1.X v31.1)
def ZH (a1 : Rect) (a2 : Int) (a3 : List Node) (a4 : List Product) (a5 : Bool) (a6 : Int) (a7 : Int) (x13 : Bool) : Option (Int × Int × (List Leaf) × (List Rect)) :=
 bif x13 then
 some (10, w64 (a7 + 1), ([] : List Leaf), ([] : List Rect))
 else
 bif decide (a2 > 64) then
 some (28, w64 (a7 + 1), ([] : List Leaf), ([] : List Rect))
 else
 bif ((a3.getD a7.toNat default).Kind) == 0 then
 bif room 1 40 then
 some (0, w64 (a7 + 1), ([(Leaf.mk a1 (-1))] : List Leaf), ([] : List Rect))
 else none
 else
 bif ((a3.getD a7.toNat default).Kind) == 1 then
 bif room 1 40 then
 (JD (a3.getD a7.toNat default) a1 a3 a4 a5 a6 (w64 (a7 + 1)) ([(Leaf.mk a1 ((a3.getD a7.toNat default).At))] : List Leaf)).bind fun v20 =>
 some (v20, (w64 (a7 + 1)), ([(Leaf.mk a1 ((a3.getD a7.toNat default).At))] : List Leaf), ([] : List Rect))
 else none
 else
 bif ((a3.getD a7.toNat default).Kind) == 2 then
 bif decide (((a3.getD a7.toNat default).At) ≤ a1.X.A) then
 TT a1 a2 a3 a4 a5 a6 a7 true
 else
 TT a1 a2 a3 a4 a5 a6 a7 (decide (((a3.getD a7.toNat default).At) ≥ a1.X.B))
 else
 bif decide (((a3.getD a7.toNat default).At) ≤ a1.Y.A) then
 UJ a1 a2 a3 a4 a5 a6 a7 true
 else
 UJ a1 a2 a3 a4 a5 a6 a7 (decide (((a3.getD a7.toNat default).At) ≥ a1.Y.B))
def YB (a1 : Rect) (a2 : Int) (a3 : List Node) (a4 : List Product) (a5 : Bool) (a6 : Int) (a7 : Int) : Option (Int × Int × (List Leaf) × (List Rect)) :=
 bif decide (a7 ≥ ((a3.length : Nat) : Int)) then
 some (3, a7, ([] : List Leaf), ([] : List Rect))
 else
 bif inb a7 a3.length then
 bif decide (((a3.getD a7.toNat default).Kind) < 0) then
 ZH a1 a2 a3 a4 a5 a6 a7 true
 else
 bif decide (((a3.getD a7.toNat default).Kind) > 3) then
 ZH a1 a2 a3 a4 a5 a6 a7 true
 else
 bif ((a3.getD a7.toNat default).Kind) == 0 then
 ZH a1 a2 a3 a4 a5 a6 a7 (((a3.getD a7.toNat default).At) != 0)
 else
 ZH a1 a2 a3 a4 a5 a6 a7 false
 else none
/- sawmill/sawmillref21.walk -/
def VA (v12 : Int × Int × (List Leaf) × (List Rect)) (x17 : Int) : Option ((List Leaf) × (List Rect) × Int) :=
 bif x17 != 0 then
 some (([] : List Leaf), ([] : List Rect), x17)
 else
 some (v12.2.2.1, v12.2.2.2, 0)
def VF (v12 : Int × Int × (List Leaf) × (List Rect)) (x15 : Bool) : Option ((List Leaf) × (List Rect) × Int) :=
 bif x15 then
 VA v12 4
 else
 VA v12 v12.1
def VJ (a1 : Pattern) (a2 : List Product) (a3 : Bool) (a4 : Int) (x9 : Bool) : Option ((List Leaf) × (List Rect) × Int) :=
 bif x9 then
 some (([] : List Leaf), ([] : List Rect), 9)
 else
 bif decide (((a1.Nodes.length : Nat) : Int) > 127) then
 some (([] : List Leaf), ([] : List Rect), 4)
 else
 (YB a1.Frame 1 a1.Nodes a2 a3 a4 0).bind fun v12 =>
 bif v12.1 == 0 then
 VF v12 (decide (v12.2.1 < ((a1.Nodes.length : Nat) : Int)))
 else
 VF v12 false
def UF (a1 : Pattern) (a2 : List Product) (a3 : Bool) (a4 : Int) : Option ((List Leaf) × (List Rect) × Int) :=
 (BB a1.Frame).bind fun v5 =>
 bif !v5 then
 some (([] : List Leaf), ([] : List Rect), 19)
 else
 bif decide (a4 < 0) then
 VJ a1 a2 a3 a4 true
 else
 VJ a1 a2 a3 a4 (decide (a4 > 20))
/- sawmill/sawmillref21.Check -/
def LL (a1 : Pattern) (a2 : List Product) (a3 : Int) : Option Int :=
 (UF a1 a2 true a3).bind fun v4 =>
 some v4.2.2
/- sawmill/sawmillref22.check -/
def VM (a1 : List Slice) (a2 : List Defect) (a3 : List Product) (a4 : Pattern) (a5 : Saw) (a6 : Rates) : Option Int :=
 (QO a1).bind fun v7 =>
 bif v7 != 0 then
 some v7
 else
 (GD a2).bind fun v10 =>
 bif v10 != 0 then
 some v10
 else
 (VU a3).bind fun v13 =>
 bif v13 != 0 then
 some v13
 else
 (MA a5 a6).bind fun v16 =>
 bif v16 != 0 then
 some v16
 else
 (LL a4 a3 a5.Kerf).bind fun v19 =>
 some v19
/- sawmill/sawmillref21.Leaves -/
def DX (a1 : Pattern) (a2 : Int) : Option ((List Leaf) × Int) :=
 (UF a1 ([] : List Product) false a2).bind fun v3 =>
 some (v3.1, v3.2.2)
/- sawmill/sawmillref20.valid -/
def RH (x12 : Bool) : Option Bool :=
 some x12
def IU (a1 : List Slice) (a2 : List Defect) (a3 : Product) : Option Bool :=
 (QO a1).bind fun v4 =>
 bif v4 == 0 then
 (GD a2).bind fun v7 =>
 bif v7 == 0 then
 (VU ([a3] : List Product)).bind fun v10 =>
 RH (v10 == 0)
 else
 RH false
 else
 RH false
/- sawmill/sawmillref11.Length -/
def QZ (a1 : List Slice) : Nat → Int → Int → Option Int
 | 0, _, _ => none
 | n + 1, x5, x6 =>
 bif decide (x6 < ((a1.length : Nat) : Int)) then
 bif inb x6 a1.length then
 (QZ a1 n) (w64 (x5 + ((a1.getD x6.toNat default).Len))) (w64 (x6 + 1))
 else none
 else
 some x5
def WZ (a1 : List Slice) : Option Int :=
 (QO a1).bind fun v2 =>
 bif v2 != 0 then
 some 0
 else
 (QZ a1 FUEL 0 0).bind fun o10 =>
 some o10
/- sawmill/sawmillref20.across -/
def KO (x4 : Bool) : Option Bool :=
 some x4
def RQ (a1 : Span) : Option Bool :=
 bif decide (a1.A ≥ (-600)) then
 bif decide (a1.A < a1.B) then
 KO (decide (a1.B ≤ 600))
 else
 KO false
 else
 KO false
/- sawmill/sawmillref20.within -/
def QY (x13 : Bool) : Option Bool :=
 some x13
def BR (a1 : List Slice) (a2 : Box) : Option Bool :=
 (RQ a2.X).bind fun v3 =>
 bif v3 then
 (RQ a2.Y).bind fun v6 =>
 bif v6 then
 bif decide (a2.Z.A ≥ 0) then
 bif decide (a2.Z.A < a2.Z.B) then
 (WZ a1).bind fun v11 =>
 QY (decide (a2.Z.B ≤ v11))
 else
 QY false
 else
 QY false
 else
 QY false
 else
 QY false
/- sawmill/sawmillref19.Price -/
def WI (a1 : Product) (a2 : Int) : Nat → Int → Option ((Int × Bool) ⊕ Unit)
 | 0, _ => none
 | n + 1, x3 =>
 bif decide (x3 < ((a1.Lengths.length : Nat) : Int)) then
 bif inb x3 a1.Lengths.length then
 bif (a1.Lengths.getD x3.toNat default) == a2 then
 bif decide (x3 ≥ ((a1.Prices.length : Nat) : Int)) then
 some (Sum.inl (0, false))
 else
 bif inb x3 a1.Prices.length then
 some (Sum.inl ((a1.Prices.getD x3.toNat default), true))
 else none
 else
 (WI a1 a2 n) (w64 (x3 + 1))
 else none
 else
 some (Sum.inr ())
def VO (a1 : Product) (a2 : Int) : Option (Int × Bool) :=
 (WI a1 a2 FUEL 0).bind fun u11 => Sum.elim (fun v12 => some v12) (fun o9 =>
 some (0, false)) u11
/- sawmill/sawmillref03.Meet -/
def UH (a1 : Span) (a2 : Span) : Option Span :=
 bif decide ((imax a1.A a2.A) ≥ (imin a1.B a2.B)) then
 some (Span.mk 0 0)
 else
 some (Span.mk (imax a1.A a2.A) (imin a1.B a2.B))
/- sawmill/sawmillref13.Meet -/
def qAK (a1 : Box) (a2 : Box) : Option Box :=
 (UH a1.X a2.X).bind fun v3 =>
 (UH a1.Y a2.Y).bind fun v5 =>
 (UH a1.Z a2.Z).bind fun v7 =>
 some (Box.mk v3 v5 v7)
/- sawmill/sawmillref13.Touches -/
def XZ (a1 : Defect) (a2 : Box) : Option Bool :=
 (qAK a1.Box a2).bind fun v3 =>
 (GC v3).bind fun v5 =>
 some (!v5)
/- sawmill/sawmillref11.part -/
def NY (a1 : Span) (a2 : Int) (a3 : Int) : Option Int :=
 bif decide ((imax a1.A a2) ≥ (imin a1.B (w64 (a2 + a3)))) then
 some 0
 else
 some (w64 ((imin a1.B (w64 (a2 + a3))) - (imax a1.A a2)))
/- sawmill/sawmillref11.Cut -/
def EH (a1 : List Slice) (x7 : Int) (x8 : Int) (rec_ref11_Cut_L1 : (List Slice) → Int → Int → Option (List Slice)) (l15 : List Slice) : Option (List Slice) :=
 rec_ref11_Cut_L1 l15 (w64 (x7 + ((a1.getD x8.toNat default).Len))) (w64 (x8 + 1))
def WW (a1 : List Slice) (a2 : Span) : Nat → (List Slice) → Int → Int → Option (List Slice)
 | 0, _, _, _ => none
 | n + 1, l6, x7, x8 =>
 bif decide (x8 < ((a1.length : Nat) : Int)) then
 bif inb x8 a1.length then
 (NY (Span.mk (imax a2.A 0) (imin a2.B 20000)) x7 ((a1.getD x8.toNat default).Len)).bind fun v11 =>
 bif decide (v11 > 0) then
 bif room (l6.length + 1) 40 then
 EH a1 x7 x8 (WW a1 a2 n) (l6 ++ ([(Slice.mk v11 ((a1.getD x8.toNat default).Sec))] : List Slice))
 else none
 else
 EH a1 x7 x8 (WW a1 a2 n) l6
 else none
 else
 some l6
def OB (a1 : List Slice) (a2 : Span) : Option (List Slice) :=
 (QO a1).bind fun v3 =>
 bif v3 != 0 then
 some ([] : List Slice)
 else
 (WW a1 a2 FUEL ([] : List Slice) 0 0).bind fun o17 =>
 some o17
/- sawmill/sawmillref10.Valid -/
def GB (a1 : qK) : Option qK :=
 (GE a1).bind fun v2 =>
 bif v2 != 0 then
 some (qK.mk 0 ([] : List Span))
 else
 some a1
/- sawmill/sawmillref10.common -/
def GP (a1 : Span) (a2 : Span) (x6 : Bool) : Option Int :=
 bif x6 then
 some 0
 else
 some (w64 ((imin a1.B a2.B) - (imax a1.A a2.A)))
def TC (a1 : Span) (a2 : Span) : Option Int :=
 (YK a2).bind fun v3 =>
 bif v3 then
 GP a1 a2 true
 else
 GP a1 a2 (decide ((imax a1.A a2.A) ≥ (imin a1.B a2.B)))
/- sawmill/sawmillref10.Heights -/
def UU (a1 : Int) : Option Span :=
 some (Span.mk (w64 (10 * a1)) (w64 (10 * (w64 (a1 + 1)))))
/- sawmill/sawmillref10.Within -/
def JR (a2 : Rect) (v3 : qK) : Nat → Int → Int → Option Int
 | 0, _, _ => none
 | n + 1, x5, x6 =>
 bif decide (x6 < ((v3.Rows.length : Nat) : Int)) then
 bif inb x6 v3.Rows.length then
 (TC (v3.Rows.getD x6.toNat default) a2.X).bind fun v9 =>
 (UU (w64 (v3.Low + x6))).bind fun v11 =>
 (TC v11 a2.Y).bind fun v13 =>
 (JR a2 v3 n) (w64 (x5 + (w64 (v9 * v13)))) (w64 (x6 + 1))
 else none
 else
 some x5
def RX (a1 : qK) (a2 : Rect) : Option Int :=
 (GB a1).bind fun v3 =>
 (JR a2 v3 FUEL 0 0).bind fun o16 =>
 some o16
/- sawmill/sawmillref20.wane -/
def KG (a2 : Box) (v3 : (List Slice)) : Nat → Int → Int → Option Int
 | 0, _, _ => none
 | n + 1, x5, x6 =>
 bif decide (x6 < ((v3.length : Nat) : Int)) then
 bif inb x6 v3.length then
 (RX ((v3.getD x6.toNat default).Sec) (Rect.mk a2.X a2.Y)).bind fun v9 =>
 bif nz (w64 ((w64 (a2.X.B - a2.X.A)) * (w64 (a2.Y.B - a2.Y.A)))) then
 (KG a2 v3 n) (imax x5 (w64 (Int.tdiv (w64 ((w64 ((w64 (1000 * (w64 ((w64 ((w64 (a2.X.B - a2.X.A)) * (w64 (a2.Y.B - a2.Y.A)))) - v9)))) + (w64 ((w64 (a2.X.B - a2.X.A)) * (w64 (a2.Y.B - a2.Y.A)))))) - 1)) (w64 ((w64 (a2.X.B - a2.X.A)) * (w64 (a2.Y.B - a2.Y.A))))))) (w64 (x6 + 1))
 else none
 else none
 else
 some x5
def EG (a1 : List Slice) (a2 : Box) : Option Int :=
 (OB a1 a2.Z).bind fun v3 =>
 (KG a2 v3 FUEL 0 0).bind fun o13 =>
 some o13
/- sawmill/sawmillref20.accept -/
def GW (x19 : Int) (rec_ref20_accept_L2 : Int → Option (Bool ⊕ Unit)) (x25 : Bool) : Option (Bool ⊕ Unit) :=
 bif x25 then
 some (Sum.inl false)
 else
 rec_ref20_accept_L2 (w64 (x19 + 1))
def jQ (a2 : List Defect) (a4 : Box) : Nat → Int → Option (Bool ⊕ Unit)
 | 0, _ => none
 | n + 1, x19 =>
 bif decide (x19 < ((a2.length : Nat) : Int)) then
 bif inb x19 a2.length then
 bif ((a2.getD x19.toNat default).Kind) == 3 then
 (XZ (a2.getD x19.toNat default) a4).bind fun v23 =>
 GW x19 (jQ a2 a4 n) v23
 else
 GW x19 (jQ a2 a4 n) false
 else none
 else
 some (Sum.inr ())
def wH (a1 : List Slice) (a2 : List Defect) (a3 : Product) (a4 : Box) (x17 : Bool) : Option Bool :=
 bif x17 then
 some false
 else
 (jQ a2 a4 FUEL 0).bind fun u29 => Sum.elim (fun v30 => some v30) (fun o27 =>
 (EG a1 a4).bind fun v31 =>
 some (decide (v31 ≤ a3.Wane))) u29
def BZ (a1 : List Slice) (a2 : List Defect) (a3 : Product) (a4 : Box) : Option Bool :=
 (BR a1 a4).bind fun v5 =>
 bif !v5 then
 some false
 else
 (YH a3).bind fun v8 =>
 (VO a3 (w64 (a4.Z.B - a4.Z.A))).bind fun v10 =>
 bif !v10.2 then
 wH a1 a2 a3 a4 true
 else
 bif (w64 (a4.X.B - a4.X.A)) == v8.1 then
 bif !((w64 (a4.Y.B - a4.Y.A)) == v8.2) then
 bif (w64 (a4.X.B - a4.X.A)) == v8.2 then
 wH a1 a2 a3 a4 (!((w64 (a4.Y.B - a4.Y.A)) == v8.1))
 else
 wH a1 a2 a3 a4 true
 else
 wH a1 a2 a3 a4 false
 else
 bif (w64 (a4.X.B - a4.X.A)) == v8.2 then
 wH a1 a2 a3 a4 (!((w64 (a4.Y.B - a4.Y.A)) == v8.1))
 else
 wH a1 a2 a3 a4 true
/- sawmill/sawmillref20.value -/
def FB (x8 : Int) (rec_ref20_value_L1 : Int → Int → Option Int) (x14 : Int) : Option Int :=
 rec_ref20_value_L1 x14 (w64 (x8 + 1))
def QI (a1 : List Defect) (a3 : Box) (a4 : Int) : Nat → Int → Int → Option Int
 | 0, _, _ => none
 | n + 1, x7, x8 =>
 bif decide (x8 < ((a1.length : Nat) : Int)) then
 bif inb x8 a1.length then
 (XZ (a1.getD x8.toNat default) a3).bind fun v11 =>
 bif v11 then
 FB x8 (QI a1 a3 a4 n) (w64 (x7 - a4))
 else
 FB x8 (QI a1 a3 a4 n) x7
 else none
 else
 some x7
def LU (a1 : List Defect) (a2 : Product) (a3 : Box) (a4 : Int) : Option Int :=
 (VO a2 (w64 (a3.Z.B - a3.Z.A))).bind fun v5 =>
 (QI a1 a3 a4 FUEL v5.1 0).bind fun o16 =>
 some (imax 0 o16)
/- sawmill/sawmillref20.Best -/
def JX (x26 : Int) (rec_ref20_Best_L3 : Int → Bool → Int → Span → Option (Int × Bool × Span)) (x38 : Int) (x39 : Bool) (x40 : Span) : Option (Int × Bool × Span) :=
 rec_ref20_Best_L3 x38 x39 (w64 (x26 + 1)) x40
def MM (a3 : Product) (x19 : Int) (x24 : Int) (x25 : Bool) (x26 : Int) (x27 : Span) (rec_ref20_Best_L3 : Int → Bool → Int → Span → Option (Int × Bool × Span)) (v33 : Int) (x36 : Bool) : Option (Int × Bool × Span) :=
 bif x36 then
 JX x26 rec_ref20_Best_L3 v33 true (Span.mk x19 (w64 (x19 + (a3.Lengths.getD x26.toNat default))))
 else
 JX x26 rec_ref20_Best_L3 x24 x25 x27
def jG (a1 : List Slice) (a2 : List Defect) (a3 : Product) (a4 : Rect) (a6 : Int) (x19 : Int) : Nat → Int → Bool → Int → Span → Option (Int × Bool × Span)
 | 0, _, _, _, _ => none
 | n + 1, x24, x25, x26, x27 =>
 bif decide (x26 < ((a3.Lengths.length : Nat) : Int)) then
 bif inb x26 a3.Lengths.length then
 (BZ a1 a2 a3 (Box.mk a4.X a4.Y (Span.mk x19 (w64 (x19 + (a3.Lengths.getD x26.toNat default)))))).bind fun v30 =>
 bif !v30 then
 JX x26 (jG a1 a2 a3 a4 a6 x19 n) x24 x25 x27
 else
 (LU a2 a3 (Box.mk a4.X a4.Y (Span.mk x19 (w64 (x19 + (a3.Lengths.getD x26.toNat default))))) a6).bind fun v33 =>
 bif !x25 then
 MM a3 x19 x24 x25 x26 x27 (jG a1 a2 a3 a4 a6 x19 n) v33 true
 else
 MM a3 x19 x24 x25 x26 x27 (jG a1 a2 a3 a4 a6 x19 n) v33 (decide (v33 > x24))
 else none
 else
 some (x24, x25, x27)
def KA (a1 : List Slice) (a2 : List Defect) (a3 : Product) (a4 : Rect) (a5 : Int) (a6 : Int) : Nat → Int → Bool → Int → Span → Option (Int × Bool × Span)
 | 0, _, _, _, _ => none
 | n + 1, x17, x18, x19, x20 =>
 (WZ a1).bind fun v21 =>
 bif decide (x19 < v21) then
 (jG a1 a2 a3 a4 a6 x19 FUEL x17 x18 0 x20).bind fun o44 =>
 (KA a1 a2 a3 a4 a5 a6 n) o44.1 o44.2.1 (w64 (x19 + a5)) o44.2.2
 else
 some (x17, x18, x20)
def UZ (a1 : List Slice) (a2 : List Defect) (a3 : Product) (a4 : Rect) (a5 : Int) (a6 : Int) (x15 : Bool) : Option (Span × Int × Bool) :=
 bif x15 then
 some ((Span.mk 0 0), 0, false)
 else
 (KA a1 a2 a3 a4 a5 a6 FUEL 0 false 0 (Span.mk 0 0)).bind fun o49 =>
 some (o49.2.2, o49.1, o49.2.1)
def SU (a1 : List Slice) (a2 : List Defect) (a3 : Product) (a4 : Rect) (a5 : Int) (a6 : Int) : Option (Span × Int × Bool) :=
 (yM a5 1 20000).bind fun v7 =>
 bif !v7 then
 UZ a1 a2 a3 a4 a5 a6 true
 else
 (yM a6 0 1000000).bind fun v10 =>
 bif !v10 then
 UZ a1 a2 a3 a4 a5 a6 true
 else
 (IU a1 a2 a3).bind fun v13 =>
 UZ a1 a2 a3 a4 a5 a6 (!v13)
/- sawmill/sawmillref22.Boards -/
def KX (x13 : Int) (rec_ref22_Boards_L1 : (List Ref22_Cut) → Int → Option (List Ref22_Cut)) (l22 : List Ref22_Cut) : Option (List Ref22_Cut) :=
 rec_ref22_Boards_L1 l22 (w64 (x13 + 1))
def wQ (a1 : List Slice) (a2 : List Defect) (a3 : List Product) (a5 : Saw) (a6 : Int) (v10 : (List Leaf) × Int) : Nat → (List Ref22_Cut) → Int → Option (List Ref22_Cut)
 | 0, _, _ => none
 | n + 1, l12, x13 =>
 bif decide (x13 < ((v10.1.length : Nat) : Int)) then
 bif inb x13 v10.1.length then
 bif decide (((v10.1.getD x13.toNat default).Product) < 0) then
 KX x13 (wQ a1 a2 a3 a5 a6 v10 n) l12
 else
 bif inb ((v10.1.getD x13.toNat default).Product) a3.length then
 (SU a1 a2 (a3.getD ((v10.1.getD x13.toNat default).Product).toNat default) ((v10.1.getD x13.toNat default).Rect) a5.Step a6).bind fun v18 =>
 bif v18.2.2 then
 bif room (l12.length + 1) 72 then
 KX x13 (wQ a1 a2 a3 a5 a6 v10 n) (l12 ++ ([(Ref22_Cut.mk x13 ((v10.1.getD x13.toNat default).Product) (Box.mk (((v10.1.getD x13.toNat default).Rect).X) (((v10.1.getD x13.toNat default).Rect).Y) v18.1) v18.2.1)] : List Ref22_Cut))
 else none
 else
 KX x13 (wQ a1 a2 a3 a5 a6 v10 n) l12
 else none
 else none
 else
 some l12
def NF (a1 : List Slice) (a2 : List Defect) (a3 : List Product) (a4 : Pattern) (a5 : Saw) (a6 : Int) : Option ((List Ref22_Cut) × Int) :=
 (VM a1 a2 a3 a4 a5 (Rates.mk 0 0 a6)).bind fun v7 =>
 bif v7 != 0 then
 some (([] : List Ref22_Cut), v7)
 else
 (DX a4 a5.Kerf).bind fun v10 =>
 (wQ a1 a2 a3 a5 a6 v10 FUEL ([] : List Ref22_Cut) 0).bind fun o24 =>
 some (o24, 0)
/- sawmill/sawmillref21.Cuts -/
def EW (a1 : Pattern) (a2 : Int) : Option ((List Rect) × Int) :=
 (UF a1 ([] : List Product) false a2).bind fun v3 =>
 some (v3.2.1, v3.2.2)
/- sawmill/sawmillref10.Area -/
def KJ (v2 : qK) : Nat → Int → Int → Option Int
 | 0, _, _ => none
 | n + 1, x4, x5 =>
 bif decide (x5 < ((v2.Rows.length : Nat) : Int)) then
 bif inb x5 v2.Rows.length then
 (KJ v2 n) (w64 (x4 + (w64 (10 * (w64 (((v2.Rows.getD x5.toNat default).B) - ((v2.Rows.getD x5.toNat default).A))))))) (w64 (x5 + 1))
 else none
 else
 some x4
def EZ (a1 : qK) : Option Int :=
 (GB a1).bind fun v2 =>
 (KJ v2 FUEL 0 0).bind fun o9 =>
 some o9
/- sawmill/sawmillref11.Volume -/
def JF (a1 : List Slice) : Nat → Int → Int → Option Int
 | 0, _, _ => none
 | n + 1, x5, x6 =>
 bif decide (x6 < ((a1.length : Nat) : Int)) then
 bif inb x6 a1.length then
 (EZ ((a1.getD x6.toNat default).Sec)).bind fun v9 =>
 (JF a1 n) (w64 (x5 + (w64 (((a1.getD x6.toNat default).Len) * v9)))) (w64 (x6 + 1))
 else none
 else
 some x5
def DT (a1 : List Slice) : Option Int :=
 (QO a1).bind fun v2 =>
 bif v2 != 0 then
 some 0
 else
 (JF a1 FUEL 0 0).bind fun o12 =>
 some o12
/- sawmill/sawmillref11.Within -/
def DA (a1 : List Slice) (x11 : Int) (x12 : Int) (rec_ref11_Within_L2 : Int → Int → Int → Option Int) (x20 : Int) : Option Int :=
 rec_ref11_Within_L2 x20 (w64 (x11 + ((a1.getD x12.toNat default).Len))) (w64 (x12 + 1))
def yS (a1 : List Slice) (a2 : Box) : Nat → Int → Int → Int → Option Int
 | 0, _, _, _ => none
 | n + 1, x10, x11, x12 =>
 bif decide (x12 < ((a1.length : Nat) : Int)) then
 bif inb x12 a1.length then
 (NY (Span.mk (imax a2.Z.A 0) (imin a2.Z.B 20000)) x11 ((a1.getD x12.toNat default).Len)).bind fun v15 =>
 bif decide (v15 > 0) then
 (RX ((a1.getD x12.toNat default).Sec) (Rect.mk a2.X a2.Y)).bind fun v18 =>
 DA a1 x11 x12 (yS a1 a2 n) (w64 (x10 + (w64 (v15 * v18))))
 else
 DA a1 x11 x12 (yS a1 a2 n) x10
 else none
 else
 some x10
def ZA (a1 : List Slice) (a2 : Box) (x8 : Bool) : Option Int :=
 bif x8 then
 some 0
 else
 (yS a1 a2 FUEL 0 0 0).bind fun o22 =>
 some o22
def JA (a1 : List Slice) (a2 : Box) : Option Int :=
 (QO a1).bind fun v3 =>
 bif v3 != 0 then
 ZA a1 a2 true
 else
 bif decide (a2.X.A ≥ a2.X.B) then
 ZA a1 a2 true
 else
 bif decide (a2.Y.A ≥ a2.Y.B) then
 ZA a1 a2 true
 else
 ZA a1 a2 (decide (a2.Z.A ≥ a2.Z.B))
/- sawmill/sawmillref22.Trimmed -/
def UY (a1 : List Slice) (a2 : Box) (a3 : Int) : Option Int :=
 (WZ a1).bind fun v4 =>
 (JA a1 (Box.mk a2.X a2.Y (Span.mk (imax 0 (w64 (a2.Z.A - a3))) a2.Z.A))).bind fun v6 =>
 (JA a1 (Box.mk a2.X a2.Y (Span.mk a2.Z.B (imin (w64 (a2.Z.B + a3)) v4)))).bind fun v8 =>
 some (w64 (v6 + v8))
/- sawmill/sawmillref22.Whole -/
def IS (a1 : List Slice) (a2 : Rect) : Option Box :=
 (WZ a1).bind fun v3 =>
 some (Box.mk a2.X a2.Y (Span.mk 0 v3))
/- sawmill/sawmillref22.Of -/
def PL (a1 : List Slice) (a5 : Saw) (v10 : (List Ref22_Cut) × Int) (v14 : Int) : Nat → Int → Int → Int → Int → Option (Int × Yield)
 | 0, _, _, _, _ => none
 | n + 1, x16, x17, x18, x19 =>
 bif decide (x17 < ((v10.1.length : Nat) : Int)) then
 bif inb x17 v10.1.length then
 (JA a1 ((v10.1.getD x17.toNat default).Box)).bind fun v22 =>
 (UY a1 ((v10.1.getD x17.toNat default).Box) a5.Trim).bind fun v24 =>
 (PL a1 a5 v10 v14 n) (w64 (x16 + ((v10.1.getD x17.toNat default).Worth))) (w64 (x17 + 1)) (w64 (x18 + v22)) (w64 (x19 + v24))
 else none
 else
 some (x16, (Yield.mk v14 x18 0 x19 0))
def PO (a1 : List Slice) (v12 : (List Rect) × Int) (o28 : Int × Yield) : Nat → Int → Int → Option Yield
 | 0, _, _ => none
 | n + 1, x30, x31 =>
 bif decide (x30 < ((v12.1.length : Nat) : Int)) then
 bif inb x30 v12.1.length then
 (IS a1 (v12.1.getD x30.toNat default)).bind fun v34 =>
 (JA a1 v34).bind fun v36 =>
 (PO a1 v12 o28 n) (w64 (x30 + 1)) (w64 (x31 + v36))
 else none
 else
 some (Yield.mk o28.2.Log o28.2.Boards o28.2.Chips x31 o28.2.Value)
def MR (a1 : List Slice) (a2 : List Defect) (a3 : List Product) (a4 : Pattern) (a5 : Saw) (a6 : Rates) : Option (Yield × Int) :=
 (VM a1 a2 a3 a4 a5 a6).bind fun v7 =>
 bif v7 != 0 then
 some ((Yield.mk 0 0 0 0 0), v7)
 else
 (NF a1 a2 a3 a4 a5 a6.Fine).bind fun v10 =>
 (EW a4 a5.Kerf).bind fun v12 =>
 (DT a1).bind fun v14 =>
 (PL a1 a5 v10 v14 FUEL 0 0 0 0).bind fun o28 =>
 (PO a1 v12 o28 FUEL 0 o28.2.Dust).bind fun o39 =>
 some ((Yield.mk o39.Log o39.Boards (w64 ((w64 (o39.Log - o39.Boards)) - o39.Dust)) o39.Dust (w64 ((w64 ((w64 (1000000 * o28.1)) + (w64 (a6.Chip * (w64 ((w64 (o39.Log - o39.Boards)) - o39.Dust)))))) + (w64 (a6.Dust * o39.Dust))))), 0)
/- sawmill/sawmilllaw22.YieldOf -/
def TN (x15 : Bool) : Option Bool :=
 some x15
def MH (a1 : Law22_Given) : Option Bool :=
 (LO a1).bind fun v2 =>
 bif !v2 then
 (LV).bind fun v5 =>
 some v5
 else
 (BA a1).bind fun v7 =>
 (MR a1.Solid a1.Defects a1.Products a1.Pattern a1.Saw a1.Rates).bind fun v9 =>
 bif ((v7.1.Log == v9.1.Log) && ((v7.1.Boards == v9.1.Boards) && ((v7.1.Chips == v9.1.Chips) && ((v7.1.Dust == v9.1.Dust) && ((v7.1.Value == v9.1.Value) && true))))) then
 bif v7.2 == v9.2 then
 (LV).bind fun v13 =>
 TN v13
 else
 TN false
 else
 TN false
end Saw
end Go.SL

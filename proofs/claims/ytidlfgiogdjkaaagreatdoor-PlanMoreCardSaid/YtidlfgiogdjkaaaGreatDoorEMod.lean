import Derived.Test.YtidlfgiogdjkaaaGreatDoorYa6
set_option linter.unusedVariables false
set_option linter.unusedSimpArgs false
namespace Go.SL
namespace Saw
structure Piece where
 Size : Int
 At : Int
instance : Inhabited Piece := ⟨⟨0, 0⟩⟩
def wO (r : Piece) : List C := [ci r.Size, ci r.At]
structure Product where
 Name : ByteArray
 Thick : Int
 Width : Int
 Allow : Int
 Wane : Int
 Lengths : List Int
 Prices : List Int
instance : Inhabited Product := ⟨⟨⟨#[]⟩, 0, 0, 0, 0, [], []⟩⟩
def qC (r : Product) : List C := [cs r.Name, ci r.Thick, ci r.Width, ci r.Allow, ci r.Wane, tl e_i64 default r.Lengths, tl e_i64 default r.Prices]
structure Span where
 A : Int
 B : Int
instance : Inhabited Span := ⟨⟨0, 0⟩⟩
def e_Span (r : Span) : List C := [ci r.A, ci r.B]
structure qJ where
 Low : Int
 Rows : List Span
instance : Inhabited qJ := ⟨⟨0, []⟩⟩
def zP (r : qJ) : List C := [ci r.Low, tl e_Span default r.Rows]
structure qA where
 Len : Int
 Sec : qJ
instance : Inhabited qA := ⟨⟨0, default⟩⟩
def qG (r : qA) : List C := [ci r.Len, ci r.Sec.Low, tl e_Span default r.Sec.Rows]
structure Box where
 X : Span
 Y : Span
 Z : Span
instance : Inhabited Box := ⟨⟨default, default, default⟩⟩
def QG (r : Box) : List C := [ci r.X.A, ci r.X.B, ci r.Y.A, ci r.Y.B, ci r.Z.A, ci r.Z.B]
structure Defect where
 Kind : Int
 Box : Box
instance : Inhabited Defect := ⟨⟨0, default⟩⟩
def qF (r : Defect) : List C := [ci r.Kind, ci r.Box.X.A, ci r.Box.X.B, ci r.Box.Y.A, ci r.Box.Y.B, ci r.Box.Z.A, ci r.Box.Z.B]
structure Rect where
 X : Span
 Y : Span
instance : Inhabited Rect := ⟨⟨default, default⟩⟩
def qH (r : Rect) : List C := [ci r.X.A, ci r.X.B, ci r.Y.A, ci r.Y.B]
structure Saw where
 Kerf : Int
 Trim : Int
 Pitch : Int
 Step : Int
instance : Inhabited Saw := ⟨⟨0, 0, 0, 0⟩⟩
def qT (r : Saw) : List C := [ci r.Kerf, ci r.Trim, ci r.Pitch, ci r.Step]
structure Rates where
 Chip : Int
 Dust : Int
 Fine : Int
instance : Inhabited Rates := ⟨⟨0, 0, 0⟩⟩
def qQ (r : Rates) : List C := [ci r.Chip, ci r.Dust, ci r.Fine]
structure Law24_Given where
 Solid : List qA
 Defects : List Defect
 Products : List Product
 Frame : Rect
 Saw : Saw
 Rates : Rates
instance : Inhabited Law24_Given := ⟨⟨[], [], [], default, default, default⟩⟩
def zH (r : Law24_Given) : List C := [tl qG default r.Solid, tl qF default r.Defects, tl qC default r.Products, ci r.Frame.X.A, ci r.Frame.X.B, ci r.Frame.Y.A, ci r.Frame.Y.B, ci r.Saw.Kerf, ci r.Saw.Trim, ci r.Saw.Pitch, ci r.Saw.Step, ci r.Rates.Chip, ci r.Rates.Dust, ci r.Rates.Fine]
structure Worth_zone where
 z : Span
 lack : Int
instance : Inhabited Worth_zone := ⟨⟨default, 0⟩⟩
def qK (r : Worth_zone) : List C := [ci r.z.A, ci r.z.B, ci r.lack]
structure Worth_view where
 product : Product
 rect : Rect
 length : Int
 zones : List Worth_zone
 defects : List Defect
instance : Inhabited Worth_view := ⟨⟨default, default, 0, [], []⟩⟩
def GE (r : Worth_view) : List C := [cs r.product.Name, ci r.product.Thick, ci r.product.Width, ci r.product.Allow, ci r.product.Wane, tl e_i64 default r.product.Lengths, tl e_i64 default r.product.Prices, ci r.rect.X.A, ci r.rect.X.B, ci r.rect.Y.A, ci r.rect.Y.B, ci r.length, tl qK default r.zones, tl qF default r.defects]
structure Line where
 Len : Int
 Kerf : Int
 Pitch : Int
 Sizes : List Int
 Gain : List (List Int)
 Chip : List Int
 Dust : List Int
instance : Inhabited Line := ⟨⟨0, 0, 0, [], [], [], []⟩⟩
def zU (r : Line) : List C := [ci r.Len, ci r.Kerf, ci r.Pitch, tl e_i64 default r.Sizes, tl (qD e_i64) default r.Gain, tl e_i64 default r.Chip, tl e_i64 default r.Dust]
structure Cutting_choice where
 piece : Piece
 value : Int
instance : Inhabited Cutting_choice := ⟨⟨default, 0⟩⟩
def e_Cutting_choice (r : Cutting_choice) : List C := [ci r.piece.Size, ci r.piece.At, ci r.value]
structure Node where
 Kind : Int
 At : Int
instance : Inhabited Node := ⟨⟨0, 0⟩⟩
def e_Node (r : Node) : List C := [ci r.Kind, ci r.At]
structure Pattern where
 Frame : Rect
 Nodes : List Node
instance : Inhabited Pattern := ⟨⟨default, []⟩⟩
def AJ (r : Pattern) : List C := [ci r.Frame.X.A, ci r.Frame.X.B, ci r.Frame.Y.A, ci r.Frame.Y.B, tl e_Node default r.Nodes]
structure qOR where
 value : Int
 piece : Piece
instance : Inhabited qOR := ⟨⟨0, default⟩⟩
structure qOz where
 at_ : Span
 from_ : Int
 to : Int
instance : Inhabited qOz := ⟨⟨default, 0, 0⟩⟩
structure Pattern_place where
 rect : Rect
 level : Int
instance : Inhabited Pattern_place := ⟨⟨default, 0⟩⟩
structure Leaf where
 Rect : Rect
 Product : Int
instance : Inhabited Leaf := ⟨⟨default, 0⟩⟩
structure Yield_Cut where
 Leaf : Int
 Product : Int
 Box : Box
 Worth : Int
instance : Inhabited Yield_Cut := ⟨⟨0, 0, default, 0⟩⟩
structure Yield where
 Log : Int
 Boards : Int
 Chips : Int
 Dust : Int
 Value : Int
instance : Inhabited Yield := ⟨⟨0, 0, 0, 0, 0⟩⟩
def qF9 : Piece := (Piece.mk (-1) (-1))
def globs : List (Nat × C) := [(0, .lptr (wO qF9))]
/- sawmill/sawmilllaw24.few -/
def DJ (x3 : Int) (rec_law24_few_L1 : Int → Option (Bool ⊕ Unit)) (x8 : Bool) : Option (Bool ⊕ Unit) :=
 bif x8 then
 some (Sum.inl false)
 else
 rec_law24_few_L1 (w64 (x3 + 1))
def QP (a1 : List Product) : Nat → Int → Option (Bool ⊕ Unit)
 | 0, _ => none
 | n + 1, x3 =>
 bif decide (x3 < ((a1.length : Nat) : Int)) then
 bif inb x3 a1.length then
 bif decide (((((a1.getD x3.toNat default).Name).size : Nat) : Int) > 100) then
 DJ x3 (QP a1 n) true
 else
 bif decide (((((a1.getD x3.toNat default).Lengths).length : Nat) : Int) > 12) then
 DJ x3 (QP a1 n) true
 else
 DJ x3 (QP a1 n) (decide (((((a1.getD x3.toNat default).Prices).length : Nat) : Int) > 12))
 else none
 else
 some (Sum.inr ())
def IT (a1 : List Product) : Option Bool :=
 bif decide (((a1.length : Nat) : Int) > 20) then
 some false
 else
 (QP a1 FUEL 0).bind fun u12 => Sum.elim (fun v13 => some v13) (fun o10 =>
 some true) u12
/- sawmill/sawmilllaw24.small -/
def YH (a1 : List qA) : Nat → Int → Option (Bool ⊕ Unit)
 | 0, _ => none
 | n + 1, x3 =>
 bif decide (x3 < ((a1.length : Nat) : Int)) then
 bif inb x3 a1.length then
 bif decide ((((((a1.getD x3.toNat default).Sec).Rows).length : Nat) : Int) > 130) then
 some (Sum.inl false)
 else
 (YH a1 n) (w64 (x3 + 1))
 else none
 else
 some (Sum.inr ())
def NQ (a1 : List qA) : Option Bool :=
 bif decide (((a1.length : Nat) : Int) > 30) then
 some false
 else
 (YH a1 FUEL 0).bind fun u9 => Sum.elim (fun v10 => some v10) (fun o7 =>
 some true) u9
/- sawmill/sawmilllaw24.sample -/
def VJ : Nat → Int → (List Span) → Option (List Span)
 | 0, _, _ => none
 | n + 1, x2, l3 =>
 bif decide (x2 < 20) then
 bif room (l3.length + 1) 16 then
 (VJ n) (w64 (x2 + 1)) (l3 ++ ([(Span.mk (-100) 100)] : List Span))
 else none
 else
 some l3
def YT (a1 : Int) : Option Law24_Given :=
 (VJ FUEL 0 ([] : List Span)).bind fun o7 =>
 some (Law24_Given.mk ([(qA.mk 3000 (qJ.mk (-10) o7))] : List qA) ([] : List Defect) ([(Product.mk (ByteArray.mk #[112, 108, 97, 110, 107]) 40 100 50 0 ([2000] : List Int) ([70] : List Int))] : List Product) (Rect.mk (Span.mk (-100) 10) (Span.mk 0 a1)) (Saw.mk 4 5 5 500) (Rates.mk 0 0 0))
/- sawmill/section.inRange -/
def XZ (x3 : Bool) : Option Bool :=
 some x3
def KI (a1 : Span) : Option Bool :=
 bif decide ((imin a1.A a1.B) ≥ (-600)) then
 XZ (decide ((imax a1.A a1.B) ≤ 600))
 else
 XZ false
/- sawmill/section.isEmpty -/
def QL (a1 : Span) : Option Bool :=
 some (decide (a1.A ≥ a1.B))
/- sawmill/section.Check -/
def yU (a1 : qJ) : Nat → Int → Option (Int ⊕ Unit)
 | 0, _ => none
 | n + 1, x6 =>
 bif decide (x6 < ((a1.Rows.length : Nat) : Int)) then
 bif inb x6 a1.Rows.length then
 (KI (a1.Rows.getD x6.toNat default)).bind fun v9 =>
 bif !v9 then
 some (Sum.inl 9)
 else
 (yU a1 n) (w64 (x6 + 1))
 else none
 else
 some (Sum.inr ())
def RZ (x27 : Int) (rec_section_Check_L4 : Int → Option (Int ⊕ Unit)) (x33 : Bool) : Option (Int ⊕ Unit) :=
 bif x33 then
 some (Sum.inl 19)
 else
 rec_section_Check_L4 (w64 (x27 + 1))
def wW (a1 : qJ) : Nat → Int → Option (Int ⊕ Unit)
 | 0, _ => none
 | n + 1, x27 =>
 bif decide (x27 < ((a1.Rows.length : Nat) : Int)) then
 bif inb x27 a1.Rows.length then
 (QL (a1.Rows.getD x27.toNat default)).bind fun v30 =>
 bif v30 then
 RZ x27 (wW a1 n) (!((((a1.Rows.getD x27.toNat default).A) == 0) && ((((a1.Rows.getD x27.toNat default).B) == 0) && true)))
 else
 RZ x27 (wW a1 n) false
 else none
 else
 some (Sum.inr ())
def TF (a1 : qJ) (x25 : Bool) : Option Int :=
 bif x25 then
 some 19
 else
 (wW a1 FUEL 0).bind fun u37 => Sum.elim (fun v38 => some v38) (fun o35 =>
 some 0) u37
def TQ (a1 : qJ) (x4 : Bool) : Option Int :=
 bif x4 then
 some 9
 else
 (yU a1 FUEL 0).bind fun u14 => Sum.elim (fun v15 => some v15) (fun o12 =>
 bif ((a1.Rows.length : Nat) : Int) == 0 then
 bif a1.Low != 0 then
 some 19
 else
 some 0
 else
 bif inb 0 a1.Rows.length then
 (QL (a1.Rows.getD (0 : Int).toNat default)).bind fun v19 =>
 bif v19 then
 TF a1 true
 else
 bif inb (w64 (((a1.Rows.length : Nat) : Int) - 1)) a1.Rows.length then
 (QL (a1.Rows.getD (w64 (((a1.Rows.length : Nat) : Int) - 1)).toNat default)).bind fun v23 =>
 TF a1 v23
 else none
 else none) u14
def XK (a1 : qJ) : Option Int :=
 bif decide (((a1.Rows.length : Nat) : Int) > 120) then
 some 4
 else
 bif decide (a1.Low < (-60)) then
 TQ a1 true
 else
 TQ a1 (decide (a1.Low > (w64 (60 - ((a1.Rows.length : Nat) : Int)))))
/- sawmill/solid.Check -/
def DP (a1 : List qA) (x4 : Int) (x5 : Int) (rec_solid_Check_L1 : Int → Int → Option (Int ⊕ Unit)) (x13 : Bool) : Option (Int ⊕ Unit) :=
 bif x13 then
 some (Sum.inl 9)
 else
 rec_solid_Check_L1 (w64 (x4 + ((a1.getD x5.toNat default).Len))) (w64 (x5 + 1))
def jT (a1 : List qA) : Nat → Int → Int → Option (Int ⊕ Unit)
 | 0, _, _ => none
 | n + 1, x4, x5 =>
 bif decide (x5 < ((a1.length : Nat) : Int)) then
 bif inb x5 a1.length then
 (XK ((a1.getD x5.toNat default).Sec)).bind fun v8 =>
 bif v8 != 0 then
 some (Sum.inl v8)
 else
 bif (((((a1.getD x5.toNat default).Sec).Rows).length : Nat) : Int) == 0 then
 some (Sum.inl 18)
 else
 bif decide (((a1.getD x5.toNat default).Len) < 1) then
 DP a1 x4 x5 (jT a1 n) true
 else
 DP a1 x4 x5 (jT a1 n) (decide (((a1.getD x5.toNat default).Len) > (w64 (20000 - x4))))
 else none
 else
 some (Sum.inr ())
def WE (a1 : List qA) : Option Int :=
 bif ((a1.length : Nat) : Int) == 0 then
 some 3
 else
 bif decide (((a1.length : Nat) : Int) > 24) then
 some 4
 else
 (jT a1 FUEL 0 0).bind fun u17 => Sum.elim (fun v18 => some v18) (fun o15 =>
 some 0) u17
/- sawmill/defect.isEmpty -/
def jP (a1 : Span) : Option Bool :=
 some (decide (a1.A ≥ a1.B))
/- sawmill/defect.inside -/
def TG (x5 : Bool) : Option Bool :=
 some x5
def JM (a1 : Span) (a2 : Int) (a3 : Int) : Option Bool :=
 bif decide ((imin a1.A a1.B) ≥ a2) then
 TG (decide ((imax a1.A a1.B) ≤ a3))
 else
 TG false
/- sawmill/defect.check -/
def KH (x23 : Bool) : Option Int :=
 bif x23 then
 some 9
 else
 some 0
def KG (a1 : Defect) (x13 : Bool) : Option Int :=
 bif x13 then
 some 19
 else
 (JM a1.Box.X (-600) 600).bind fun v15 =>
 bif !v15 then
 KH true
 else
 (JM a1.Box.Y (-600) 600).bind fun v18 =>
 bif !v18 then
 KH true
 else
 (JM a1.Box.Z 0 20000).bind fun v21 =>
 KH (!v21)
def VX (a1 : Defect) (x3 : Bool) : Option Int :=
 bif x3 then
 some 10
 else
 (jP a1.Box.X).bind fun v5 =>
 bif v5 then
 KG a1 true
 else
 (jP a1.Box.Y).bind fun v8 =>
 bif v8 then
 KG a1 true
 else
 (jP a1.Box.Z).bind fun v11 =>
 KG a1 v11
def GT (a1 : Defect) : Option Int :=
 bif decide (a1.Kind < 1) then
 VX a1 true
 else
 VX a1 (decide (a1.Kind > 6))
/- sawmill/defect.Check -/
def QO (a1 : List Defect) : Nat → Int → Option (Int ⊕ Unit)
 | 0, _ => none
 | n + 1, x3 =>
 bif decide (x3 < ((a1.length : Nat) : Int)) then
 bif inb x3 a1.length then
 (GT (a1.getD x3.toNat default)).bind fun v6 =>
 bif v6 != 0 then
 some (Sum.inl v6)
 else
 (QO a1 n) (w64 (x3 + 1))
 else none
 else
 some (Sum.inr ())
def WQ (a1 : List Defect) : Option Int :=
 bif decide (((a1.length : Nat) : Int) > 64) then
 some 4
 else
 (QO a1 FUEL 0).bind fun u11 => Sum.elim (fun v12 => some v12) (fun o9 =>
 some 0) u11
/- sawmill/ident.isSmall -/
def TK (x3 : Bool) : Option Bool :=
 some x3
def XF (a1 : Int) : Option Bool :=
 bif decide (97 ≤ a1) then
 TK (decide (a1 ≤ 122))
 else
 TK false
/- sawmill/ident.isDigit -/
def RS (x3 : Bool) : Option Bool :=
 some x3
def UC (a1 : Int) : Option Bool :=
 bif decide (48 ≤ a1) then
 RS (decide (a1 ≤ 57))
 else
 RS false
/- sawmill/ident.IsName -/
def KL (x9 : Int) (rec_ident_IsName_L2 : Int → Option (Bool ⊕ Unit)) (x18 : Bool) : Option (Bool ⊕ Unit) :=
 bif x18 then
 some (Sum.inl false)
 else
 rec_ident_IsName_L2 (w64 (x9 + 1))
def wS (a1 : ByteArray) : Nat → Int → Option (Bool ⊕ Unit)
 | 0, _ => none
 | n + 1, x9 =>
 bif decide (x9 < ((a1.size : Nat) : Int)) then
 bif inb x9 a1.size then
 (XF (strAt a1 x9.toNat)).bind fun v12 =>
 bif !v12 then
 (UC (strAt a1 x9.toNat)).bind fun v15 =>
 bif !v15 then
 KL x9 (wS a1 n) ((strAt a1 x9.toNat) != 95)
 else
 KL x9 (wS a1 n) false
 else
 KL x9 (wS a1 n) false
 else none
 else
 some (Sum.inr ())
def XR (a1 : ByteArray) (x7 : Bool) : Option Bool :=
 bif x7 then
 some false
 else
 (wS a1 FUEL 1).bind fun u22 => Sum.elim (fun v23 => some v23) (fun o20 =>
 some true) u22
def GP (a1 : ByteArray) : Option Bool :=
 bif decide (((a1.size : Nat) : Int) < 1) then
 XR a1 true
 else
 bif decide (((a1.size : Nat) : Int) > 16) then
 XR a1 true
 else
 bif inb 0 a1.size then
 (XF (strAt a1 ((0 : Int).toNat))).bind fun v5 =>
 XR a1 (!v5)
 else none
/- sawmill/product.Find -/
def QW (a1 : List Product) (a2 : ByteArray) : Nat → Int → Option ((Int × Bool) ⊕ Unit)
 | 0, _ => none
 | n + 1, x3 =>
 bif decide (x3 < ((a1.length : Nat) : Int)) then
 bif inb x3 a1.length then
 bif strEq ((a1.getD x3.toNat default).Name) a2 then
 some (Sum.inl (x3, true))
 else
 (QW a1 a2 n) (w64 (x3 + 1))
 else none
 else
 some (Sum.inr ())
def GO (a1 : List Product) (a2 : ByteArray) : Option (Int × Bool) :=
 (QW a1 a2 FUEL 0).bind fun u9 => Sum.elim (fun v10 => some v10) (fun o7 =>
 some (0, false)) u9
/- sawmill/product.isSize -/
def KX (x3 : Bool) : Option Bool :=
 some x3
def YI (a1 : Int) : Option Bool :=
 bif decide (a1 ≥ 1) then
 KX (decide (a1 ≤ 600))
 else
 KX false
/- sawmill/product.grow -/
def GA (a1 : Int) (a2 : Int) : Option Int :=
 some (w64 (Int.tdiv (w64 ((w64 (a1 * (w64 (1000 + a2)))) + 999)) 1000))
/- sawmill/product.Green -/
def ZU (a1 : Product) (x9 : Bool) : Option (Int × Int) :=
 bif x9 then
 some (0, 0)
 else
 (GA a1.Thick a1.Allow).bind fun v11 =>
 (GA a1.Width a1.Allow).bind fun v13 =>
 some (v11, v13)
def yP (a1 : Product) : Option (Int × Int) :=
 (YI a1.Thick).bind fun v2 =>
 bif !v2 then
 ZU a1 true
 else
 (YI a1.Width).bind fun v5 =>
 bif !v5 then
 ZU a1 true
 else
 bif decide (a1.Allow < 0) then
 ZU a1 true
 else
 ZU a1 (decide (a1.Allow > 200))
/- sawmill/product.checkNumbers -/
def ZH (x18 : Int) (rec_product_checkNumbers_L3 : Int → Option (Int ⊕ Unit)) (x26 : Bool) : Option (Int ⊕ Unit) :=
 bif x26 then
 some (Sum.inl 11)
 else
 rec_product_checkNumbers_L3 (w64 (x18 + 1))
def ZJ (a1 : Product) (x18 : Int) (rec_product_checkNumbers_L3 : Int → Option (Int ⊕ Unit)) (x22 : Bool) : Option (Int ⊕ Unit) :=
 bif x22 then
 some (Sum.inl 9)
 else
 bif decide (x18 > 0) then
 bif inb (w64 (x18 - 1)) a1.Lengths.length then
 ZH x18 rec_product_checkNumbers_L3 (decide ((a1.Lengths.getD x18.toNat default) ≤ (a1.Lengths.getD (w64 (x18 - 1)).toNat default)))
 else none
 else
 ZH x18 rec_product_checkNumbers_L3 false
def zD (a1 : Product) : Nat → Int → Option (Int ⊕ Unit)
 | 0, _ => none
 | n + 1, x18 =>
 bif decide (x18 < ((a1.Lengths.length : Nat) : Int)) then
 bif inb x18 a1.Lengths.length then
 bif decide ((a1.Lengths.getD x18.toNat default) < 100) then
 ZJ a1 x18 (zD a1 n) true
 else
 ZJ a1 x18 (zD a1 n) (decide ((a1.Lengths.getD x18.toNat default) > 20000))
 else none
 else
 some (Sum.inr ())
def ZI (x32 : Int) (rec_product_checkNumbers_L6 : Int → Option (Int ⊕ Unit)) (x36 : Bool) : Option (Int ⊕ Unit) :=
 bif x36 then
 some (Sum.inl 9)
 else
 rec_product_checkNumbers_L6 (w64 (x32 + 1))
def zM (a1 : Product) : Nat → Int → Option (Int ⊕ Unit)
 | 0, _ => none
 | n + 1, x32 =>
 bif decide (x32 < ((a1.Prices.length : Nat) : Int)) then
 bif inb x32 a1.Prices.length then
 bif decide ((a1.Prices.getD x32.toNat default) < 0) then
 ZI x32 (zM a1 n) true
 else
 ZI x32 (zM a1 n) (decide ((a1.Prices.getD x32.toNat default) > 1000000))
 else none
 else
 some (Sum.inr ())
def wU (a1 : Product) (x10 : Bool) : Option Int :=
 bif x10 then
 some 9
 else
 (yP a1).bind fun v12 =>
 bif decide (v12.2 > 600) then
 some 9
 else
 bif ((a1.Lengths.length : Nat) : Int) == 0 then
 some 3
 else
 bif decide (((a1.Lengths.length : Nat) : Int) > 8) then
 some 4
 else
 bif ((a1.Prices.length : Nat) : Int) != ((a1.Lengths.length : Nat) : Int) then
 some 19
 else
 (zD a1 FUEL 0).bind fun u30 => Sum.elim (fun v31 => some v31) (fun o28 =>
 (zM a1 FUEL 0).bind fun u40 => Sum.elim (fun v41 => some v41) (fun o38 =>
 some 0) u40) u30
def wT (a1 : Product) (x5 : Bool) : Option Int :=
 bif x5 then
 some 9
 else
 bif decide (a1.Allow < 0) then
 wU a1 true
 else
 bif decide (a1.Allow > 200) then
 wU a1 true
 else
 bif decide (a1.Wane < 0) then
 wU a1 true
 else
 wU a1 (decide (a1.Wane > 1000))
def QN (a1 : Product) : Option Int :=
 bif decide (a1.Thick < 5) then
 wT a1 true
 else
 bif decide (a1.Thick > 300) then
 wT a1 true
 else
 bif decide (a1.Width < a1.Thick) then
 wT a1 true
 else
 wT a1 (decide (a1.Width > 600))
/- sawmill/product.Check -/
def yT (a1 : List Product) : Nat → Int → Option (Int ⊕ Unit)
 | 0, _ => none
 | n + 1, x3 =>
 bif decide (x3 < ((a1.length : Nat) : Int)) then
 bif inb x3 a1.length then
 (GP ((a1.getD x3.toNat default).Name)).bind fun v6 =>
 bif !v6 then
 some (Sum.inl 6)
 else
 bif slOk 0 x3 a1.length then
 (GO (a1.take x3.toNat) ((a1.getD x3.toNat default).Name)).bind fun v10 =>
 bif v10.2 then
 some (Sum.inl 7)
 else
 (QN (a1.getD x3.toNat default)).bind fun v13 =>
 bif v13 != 0 then
 some (Sum.inl v13)
 else
 (yT a1 n) (w64 (x3 + 1))
 else none
 else none
 else
 some (Sum.inr ())
def wY (a1 : List Product) : Option Int :=
 bif decide (((a1.length : Nat) : Int) > 16) then
 some 4
 else
 (yT a1 FUEL 0).bind fun u18 => Sum.elim (fun v19 => some v19) (fun o16 =>
 some 0) u18
/- sawmill/worth.isStep -/
def VZ (x3 : Bool) : Option Bool :=
 some x3
def RJ (a1 : Int) : Option Bool :=
 bif decide (a1 ≥ 1) then
 VZ (decide (a1 ≤ 20000))
 else
 VZ false
/- sawmill/worth.isFine -/
def VH (x3 : Bool) : Option Bool :=
 some x3
def PH (a1 : Int) : Option Bool :=
 bif decide (a1 ≥ 0) then
 VH (decide (a1 ≤ 1000000))
 else
 VH false
/- sawmill/worth.Check -/
def ZP (x20 : Bool) : Option Int :=
 bif x20 then
 some 9
 else
 some 0
def PS (a2 : Rates) (x12 : Bool) : Option Int :=
 bif x12 then
 some 9
 else
 bif decide (a2.Chip < 0) then
 ZP true
 else
 bif decide (a2.Chip > 1000) then
 ZP true
 else
 bif decide (a2.Dust < 0) then
 ZP true
 else
 bif decide (a2.Dust > 1000) then
 ZP true
 else
 (PH a2.Fine).bind fun v18 =>
 ZP (!v18)
def YG (a1 : Saw) (a2 : Rates) (x6 : Bool) : Option Int :=
 bif x6 then
 some 9
 else
 bif decide (a1.Pitch < 1) then
 PS a2 true
 else
 bif decide (a1.Pitch > 2000) then
 PS a2 true
 else
 (RJ a1.Step).bind fun v10 =>
 PS a2 (!v10)
def JZ (a1 : Saw) (a2 : Rates) : Option Int :=
 bif decide (a1.Kerf < 0) then
 YG a1 a2 true
 else
 bif decide (a1.Kerf > 20) then
 YG a1 a2 true
 else
 bif decide (a1.Trim < 0) then
 YG a1 a2 true
 else
 YG a1 a2 (decide (a1.Trim > 20))
/- sawmill/plan.checkFrame -/
def DB (x5 : Int) (rec_plan_checkFrame_L2 : Int → Option (Int ⊕ Unit)) (x9 : Bool) : Option (Int ⊕ Unit) :=
 bif x9 then
 some (Sum.inl 9)
 else
 rec_plan_checkFrame_L2 (w64 (x5 + 1))
def qZ (a1 : Rect) : Nat → Int → Option (Int ⊕ Unit)
 | 0, _ => none
 | n + 1, x5 =>
 bif decide (x5 < 4) then
 bif inb x5 4 then
 bif decide ((([a1.X.A, a1.X.B, a1.Y.A, a1.Y.B] : List Int).getD x5.toNat 0) < (-600)) then
 DB x5 (qZ a1 n) true
 else
 DB x5 (qZ a1 n) (decide ((([a1.X.A, a1.X.B, a1.Y.A, a1.Y.B] : List Int).getD x5.toNat 0) > 600))
 else none
 else
 some (Sum.inr ())
def KK (a1 : Rect) (x3 : Bool) : Option Int :=
 bif x3 then
 some 19
 else
 (qZ a1 FUEL 0).bind fun u13 => Sum.elim (fun v14 => some v14) (fun o11 =>
 some 0) u13
def WW (a1 : Rect) : Option Int :=
 bif decide (a1.X.A ≥ a1.X.B) then
 KK a1 true
 else
 KK a1 (decide (a1.Y.A ≥ a1.Y.B))
/- sawmill/plan.check -/
def TL (a1 : List qA) (a2 : List Defect) (a3 : List Product) (a4 : Rect) (a5 : Saw) (a6 : Rates) : Option Int :=
 (WE a1).bind fun v7 =>
 bif v7 != 0 then
 some v7
 else
 (WQ a2).bind fun v10 =>
 bif v10 != 0 then
 some v10
 else
 (wY a3).bind fun v13 =>
 bif v13 != 0 then
 some v13
 else
 (JZ a5 a6).bind fun v16 =>
 bif v16 != 0 then
 some v16
 else
 (WW a4).bind fun v19 =>
 some v19
/- slices.Sort[[]int,int] -/
def RX (a1 : List Int) : Option (List Int) :=
 bif Nat.blt a1.length 4611686018427387904 then some (PB (fun x y => decide (x ≤ y)) a1) else none
/- slices.Compact[[]int,int] -/
def WD (x12 : Int) (rec_slices_Compact_Si64_L2 : (List Int) → Int → Int → Option ((List Int) × Int)) (l19 : List Int) (x20 : Int) : Option ((List Int) × Int) :=
 rec_slices_Compact_Si64_L2 l19 x20 (w64 (x12 + 1))
def zW (l3 : List Int) (x4 : Int) : Nat → (List Int) → Int → Int → Option ((List Int) × Int)
 | 0, _, _, _ => none
 | n + 1, l10, x11, x12 =>
 bif decide (x12 < (((l3.length - x4.toNat) : Nat) : Int)) then
 bif inb x12 (l3.length - x4.toNat) then
 bif Nat.ble (x4.toNat + (l3.length - x4.toNat)) l10.length then
 bif inb (w64 (x12 - 1)) (l3.length - x4.toNat) then
 bif (l10.getD (x4.toNat + x12.toNat) default) != (l10.getD (x4.toNat + ((w64 (x12 - 1)).toNat)) default) then
 bif inb x11 l10.length then
 WD x12 (zW l3 x4 n) (l10.set x11.toNat (l10.getD (x4.toNat + x12.toNat) default)) (w64 (x11 + 1))
 else none
 else
 WD x12 (zW l3 x4 n) l10 x11
 else none
 else none
 else none
 else
 some (l10, x11)
def jD : Nat → (List Int) → Int → Option (((List Int) × (List Int)) ⊕ (List Int))
 | 0, _, _ => none
 | n + 1, l3, x4 =>
 bif decide (x4 < ((l3.length : Nat) : Int)) then
 bif inb x4 l3.length then
 bif inb (w64 (x4 - 1)) l3.length then
 bif (l3.getD x4.toNat default) == (l3.getD ((w64 (x4 - 1)).toNat) default) then
 bif slOk x4 ((l3.length : Nat) : Int) l3.length then
 (zW l3 x4 FUEL l3 x4 1).bind fun o23 =>
 bif slOk o23.2 ((o23.1.length : Nat) : Int) o23.1.length then
 bif slOk 0 o23.2 o23.1.length then
 some (Sum.inl ((o23.1.take o23.2.toNat), (o23.1.take o23.2.toNat)))
 else none
 else none
 else none
 else
 (jD n) l3 (w64 (x4 + 1))
 else none
 else none
 else
 some (Sum.inr l3)
def ZN (a1 : List Int) : Option ((List Int) × (List Int)) :=
 bif decide (((a1.length : Nat) : Int) < 2) then
 some (a1, a1)
 else
 (jD FUEL a1 1).bind fun u30 => Sum.elim (fun v31 => some v31) (fun o28 =>
 some (o28, o28)) u30
/- sawmill/plan.Heights -/
def JC (a1 : List Product) : Nat → (List Int) → Int → Option (List Int)
 | 0, _, _ => none
 | n + 1, l5, x6 =>
 bif decide (x6 < ((a1.length : Nat) : Int)) then
 bif inb x6 a1.length then
 (yP (a1.getD x6.toNat default)).bind fun v9 =>
 bif room (l5.length + 2) 8 then
 (JC a1 n) (l5 ++ ([v9.1, v9.2] : List Int)) (w64 (x6 + 1))
 else none
 else none
 else
 some l5
def WN (a1 : List Product) : Option (List Int) :=
 (wY a1).bind fun v2 =>
 bif v2 != 0 then
 some ([] : List Int)
 else
 (JC a1 FUEL ([] : List Int) 0).bind fun o13 =>
 (RX o13).bind fun v15 =>
 bif v15.length == o13.length then
 (ZN v15).bind fun v18 =>
 some v18.2
 else none
/- sawmill/plan.strip -/
def RY (a1 : Rect) (a2 : Int) (a3 : Int) : Option Rect :=
 some (Rect.mk a1.X (Span.mk (w64 (a1.Y.A + a2)) (w64 (a1.Y.A + a3))))
/- sawmill/edge.check -/
def FC (x22 : Int) (rec_edge_check_L2 : Int → Option (Int ⊕ Unit)) (x26 : Bool) : Option (Int ⊕ Unit) :=
 bif x26 then
 some (Sum.inl 9)
 else
 rec_edge_check_L2 (w64 (x22 + 1))
def yO (a4 : Rect) : Nat → Int → Option (Int ⊕ Unit)
 | 0, _ => none
 | n + 1, x22 =>
 bif decide (x22 < 4) then
 bif inb x22 4 then
 bif decide ((([a4.X.A, a4.X.B, a4.Y.A, a4.Y.B] : List Int).getD x22.toNat 0) < (-600)) then
 FC x22 (yO a4 n) true
 else
 FC x22 (yO a4 n) (decide ((([a4.X.A, a4.X.B, a4.Y.A, a4.Y.B] : List Int).getD x22.toNat 0) > 600))
 else none
 else
 some (Sum.inr ())
def FA (a4 : Rect) (x20 : Bool) : Option Int :=
 bif x20 then
 some 19
 else
 (yO a4 FUEL 0).bind fun u30 => Sum.elim (fun v31 => some v31) (fun o28 =>
 some 0) u30
def HK (a1 : List qA) (a2 : List Defect) (a3 : List Product) (a4 : Rect) (a5 : Saw) (a6 : Rates) : Option Int :=
 (WE a1).bind fun v7 =>
 bif v7 != 0 then
 some v7
 else
 (WQ a2).bind fun v10 =>
 bif v10 != 0 then
 some v10
 else
 (wY a3).bind fun v13 =>
 bif v13 != 0 then
 some v13
 else
 (JZ a5 a6).bind fun v16 =>
 bif v16 != 0 then
 some v16
 else
 bif decide (a4.X.A ≥ a4.X.B) then
 FA a4 true
 else
 FA a4 (decide (a4.Y.A ≥ a4.Y.B))
/- sawmill/edge.Sizes -/
def FJ (x8 : Int) (rec_edge_Sizes_L1 : (List Int) → (List Int) → Int → Option ((List Int) × (List Int))) (l19 : List Int) (l20 : List Int) : Option ((List Int) × (List Int)) :=
 rec_edge_Sizes_L1 l19 l20 (w64 (x8 + 1))
def FD (l7 : List Int) (x8 : Int) (rec_edge_Sizes_L1 : (List Int) → (List Int) → Int → Option ((List Int) × (List Int))) (l17 : List Int) : Option ((List Int) × (List Int)) :=
 bif room (l7.length + 1) 8 then
 FJ x8 rec_edge_Sizes_L1 l17 (l7 ++ ([x8] : List Int))
 else none
def jA (a1 : List Product) (a2 : Int) : Nat → (List Int) → (List Int) → Int → Option ((List Int) × (List Int))
 | 0, _, _, _ => none
 | n + 1, l6, l7, x8 =>
 bif decide (x8 < ((a1.length : Nat) : Int)) then
 bif inb x8 a1.length then
 (yP (a1.getD x8.toNat default)).bind fun v11 =>
 bif a2 == v11.1 then
 bif room (l6.length + 1) 8 then
 FD l7 x8 (jA a1 a2 n) (l6 ++ ([v11.2] : List Int))
 else none
 else
 bif a2 == v11.2 then
 bif room (l6.length + 1) 8 then
 FD l7 x8 (jA a1 a2 n) (l6 ++ ([v11.1] : List Int))
 else none
 else
 FJ x8 (jA a1 a2 n) l6 l7
 else none
 else
 some (l6, l7)
def TV (a1 : List Product) (a2 : Int) : Option ((List Int) × (List Int)) :=
 (wY a1).bind fun v3 =>
 bif v3 != 0 then
 some (([] : List Int), ([] : List Int))
 else
 (jA a1 a2 FUEL ([] : List Int) ([] : List Int) 0).bind fun o23 =>
 some (o23.1, o23.2)
/- sawmill/edge.part -/
def GK (a1 : Rect) (a2 : Int) (a3 : Int) : Option Rect :=
 some (Rect.mk (Span.mk (w64 (a1.X.A + a2)) (w64 (a1.X.A + a3))) a1.Y)
/- sawmill/worth.isRect -/
def jX (x2 : Int) (rec_worth_isRect_L1 : Int → Option (Bool ⊕ Unit)) (x7 : Bool) : Option (Bool ⊕ Unit) :=
 bif x7 then
 some (Sum.inl false)
 else
 rec_worth_isRect_L1 (w64 (x2 + 1))
def wB (a1 : Rect) : Nat → Int → Option (Bool ⊕ Unit)
 | 0, _ => none
 | n + 1, x2 =>
 bif decide (x2 < 2) then
 bif inb x2 2 then
 bif decide ((([a1.X.A, a1.X.B, a1.Y.A, a1.Y.B] : List Int).getD (x2.toNat * 2 + 0) 0) < (-600)) then
 jX x2 (wB a1 n) true
 else
 bif decide ((([a1.X.A, a1.X.B, a1.Y.A, a1.Y.B] : List Int).getD (x2.toNat * 2 + 1) 0) > 600) then
 jX x2 (wB a1 n) true
 else
 jX x2 (wB a1 n) (decide ((([a1.X.A, a1.X.B, a1.Y.A, a1.Y.B] : List Int).getD (x2.toNat * 2 + 0) 0) ≥ (([a1.X.A, a1.X.B, a1.Y.A, a1.Y.B] : List Int).getD (x2.toNat * 2 + 1) 0)))
 else none
 else
 some (Sum.inr ())
def DA (a1 : Rect) : Option Bool :=
 (wB a1 FUEL 0).bind fun u11 => Sum.elim (fun v12 => some v12) (fun o9 =>
 some true) u11
/- sawmill/solid.valid -/
def YC (a1 : List qA) : Option (List qA) :=
 (WE a1).bind fun v2 =>
 bif v2 != 0 then
 some ([] : List qA)
 else
 some a1
/- sawmill/solid.Length -/
def QH (v2 : (List qA)) : Nat → Int → Int → Option Int
 | 0, _, _ => none
 | n + 1, x4, x5 =>
 bif decide (x5 < ((v2.length : Nat) : Int)) then
 bif inb x5 v2.length then
 (QH v2 n) (w64 (x4 + ((v2.getD x5.toNat default).Len))) (w64 (x5 + 1))
 else none
 else
 some x4
def yH (a1 : List qA) : Option Int :=
 (YC a1).bind fun v2 =>
 (QH v2 FUEL 0 0).bind fun o9 =>
 some o9
/- sawmill/section.valid -/
def JN (a1 : qJ) : Option qJ :=
 (XK a1).bind fun v2 =>
 bif v2 != 0 then
 some (qJ.mk 0 ([] : List Span))
 else
 some a1
/- sawmill/section.heights -/
def WY (a1 : Int) (a2 : Int) : Option Span :=
 some (Span.mk (w64 (10 * a1)) (w64 (10 * a2)))
/- sawmill/span.Meet -/
def YD (a1 : Span) (a2 : Span) : Option Span :=
 bif decide ((imax a1.A a2.A) ≥ (imin a1.B a2.B)) then
 some (Span.mk 0 0)
 else
 some (Span.mk (imax a1.A a2.A) (imin a1.B a2.B))
/- sawmill/span.size -/
def qBo (a1 : Span) : Option Int :=
 bif decide (a1.A ≥ a1.B) then
 some 0
 else
 some (IntKind.u64.wrap ((IntKind.u64.wrap (a1.B)) - (IntKind.u64.wrap (a1.A))))
/- sawmill/span.limited -/
def ME (a1 : Int) : Option Int :=
 some (w64 (imin a1 9223372036854775807))
/- sawmill/span.Len -/
def JJ (a1 : Span) : Option Int :=
 (qBo a1).bind fun v2 =>
 (ME v2).bind fun v4 =>
 some v4
/- sawmill/section.Within -/
def QZ (a2 : Rect) (v3 : qJ) : Nat → Int → Int → Option Int
 | 0, _, _ => none
 | n + 1, x5, x6 =>
 bif decide (x6 < ((v3.Rows.length : Nat) : Int)) then
 bif inb x6 v3.Rows.length then
 (WY (w64 (v3.Low + x6)) (w64 ((w64 (v3.Low + x6)) + 1))).bind fun v9 =>
 (YD (v3.Rows.getD x6.toNat default) a2.X).bind fun v11 =>
 (JJ v11).bind fun v13 =>
 (YD v9 a2.Y).bind fun v15 =>
 (JJ v15).bind fun v17 =>
 (QZ a2 v3 n) (w64 (x5 + (w64 (v13 * v17)))) (w64 (x6 + 1))
 else none
 else
 some x5
def YM (a1 : qJ) (a2 : Rect) : Option Int :=
 (JN a1).bind fun v3 =>
 (QZ a2 v3 FUEL 0 0).bind fun o20 =>
 some o20
/- sawmill/worth.lacks -/
def YJ (a1 : List qA) (a2 : Rect) : Nat → (List Worth_zone) → Int → Int → Option (List Worth_zone)
 | 0, _, _, _ => none
 | n + 1, l3, x4, x5 =>
 bif decide (x5 < ((a1.length : Nat) : Int)) then
 bif inb x5 a1.length then
 (YM ((a1.getD x5.toNat default).Sec) a2).bind fun v8 =>
 bif nz (w64 ((w64 (a2.X.B - a2.X.A)) * (w64 (a2.Y.B - a2.Y.A)))) then
 bif room (l3.length + 1) 24 then
 (YJ a1 a2 n) (l3 ++ ([(Worth_zone.mk (Span.mk x4 (w64 (x4 + ((a1.getD x5.toNat default).Len)))) (w64 (Int.tdiv (w64 ((w64 ((w64 (1000 * (w64 ((w64 ((w64 (a2.X.B - a2.X.A)) * (w64 (a2.Y.B - a2.Y.A)))) - v8)))) + (w64 ((w64 (a2.X.B - a2.X.A)) * (w64 (a2.Y.B - a2.Y.A)))))) - 1)) (w64 ((w64 (a2.X.B - a2.X.A)) * (w64 (a2.Y.B - a2.Y.A)))))))] : List Worth_zone)) (w64 (x4 + ((a1.getD x5.toNat default).Len))) (w64 (x5 + 1))
 else none
 else none
 else none
 else
 some l3
def NL (a1 : List qA) (a2 : Rect) : Option (List Worth_zone) :=
 (YJ a1 a2 FUEL ([] : List Worth_zone) 0 0).bind fun o13 =>
 some o13
/- (sawmill/worth.view).box -/
def YF (a1 : Worth_view) (a2 : Span) : Option Box :=
 some (Box.mk a1.rect.X a1.rect.Y a2)
/- sawmill/defect.meet -/
def PY (v3 : Span) (v5 : Span) (v7 : Span) (x17 : Bool) : Option (Box × Bool) :=
 bif x17 then
 some ((Box.mk (Span.mk 0 0) (Span.mk 0 0) (Span.mk 0 0)), false)
 else
 some ((Box.mk v3 v5 v7), true)
def AD (a1 : Box) (a2 : Box) : Option (Box × Bool) :=
 (YD a1.X a2.X).bind fun v3 =>
 (YD a1.Y a2.Y).bind fun v5 =>
 (YD a1.Z a2.Z).bind fun v7 =>
 (jP v3).bind fun v9 =>
 bif v9 then
 PY v3 v5 v7 true
 else
 (jP v5).bind fun v12 =>
 bif v12 then
 PY v3 v5 v7 true
 else
 (jP v7).bind fun v15 =>
 PY v3 v5 v7 v15
/- sawmill/defect.Touches -/
def YE (a1 : Defect) (a2 : Box) : Option Bool :=
 (AD a1.Box a2).bind fun v3 =>
 some v3.2
/- sawmill/worth.look -/
def FI (x29 : Int) (rec_worth_look_L3 : Int → (List Defect) → Option (List Defect)) (l37 : List Defect) : Option (List Defect) :=
 rec_worth_look_L3 (w64 (x29 + 1)) l37
def ZD (a2 : List Defect) (v27 : Box) : Nat → Int → (List Defect) → Option (List Defect)
 | 0, _, _ => none
 | n + 1, x29, l30 =>
 bif decide (x29 < ((a2.length : Nat) : Int)) then
 bif inb x29 a2.length then
 (YE (a2.getD x29.toNat default) v27).bind fun v33 =>
 bif v33 then
 bif room (l30.length + 1) 56 then
 FI x29 (ZD a2 v27 n) (l30 ++ ([(a2.getD x29.toNat default)] : List Defect))
 else none
 else
 FI x29 (ZD a2 v27 n) l30
 else none
 else
 some l30
def UB (a1 : List qA) (a2 : List Defect) (a3 : Product) (a4 : Rect) (x21 : Bool) : Option (Worth_view × Bool) :=
 bif x21 then
 some ((Worth_view.mk (Product.mk (ByteArray.mk #[]) 0 0 0 0 ([] : List Int) ([] : List Int)) (Rect.mk (Span.mk 0 0) (Span.mk 0 0)) 0 ([] : List Worth_zone) ([] : List Defect)), false)
 else
 (yH a1).bind fun v23 =>
 (NL a1 a4).bind fun v25 =>
 (YF (Worth_view.mk a3 a4 v23 v25 ([] : List Defect)) (Span.mk 0 v23)).bind fun v27 =>
 (ZD a2 v27 FUEL 0 ([] : List Defect)).bind fun o39 =>
 some ((Worth_view.mk a3 a4 v23 v25 o39), true)
def XG (a1 : List qA) (a2 : List Defect) (a3 : Product) (a4 : Rect) (x16 : Bool) : Option (Worth_view × Bool) :=
 bif x16 then
 some ((Worth_view.mk (Product.mk (ByteArray.mk #[]) 0 0 0 0 ([] : List Int) ([] : List Int)) (Rect.mk (Span.mk 0 0) (Span.mk 0 0)) 0 ([] : List Worth_zone) ([] : List Defect)), false)
 else
 (yP a3).bind fun v18 =>
 bif !(((w64 (a4.X.B - a4.X.A)) == v18.1) && (((w64 (a4.Y.B - a4.Y.A)) == v18.2) && true)) then
 UB a1 a2 a3 a4 (!(((w64 (a4.X.B - a4.X.A)) == v18.2) && (((w64 (a4.Y.B - a4.Y.A)) == v18.1) && true)))
 else
 UB a1 a2 a3 a4 false
def MC (a1 : List qA) (a2 : List Defect) (a3 : Product) (a4 : Rect) : Option (Worth_view × Bool) :=
 (WE a1).bind fun v5 =>
 bif v5 != 0 then
 XG a1 a2 a3 a4 true
 else
 (WQ a2).bind fun v8 =>
 bif v8 != 0 then
 XG a1 a2 a3 a4 true
 else
 (wY ([a3] : List Product)).bind fun v11 =>
 bif v11 != 0 then
 XG a1 a2 a3 a4 true
 else
 (DA a4).bind fun v14 =>
 XG a1 a2 a3 a4 (!v14)
/- sawmill/worth.isWithin -/
def JO (x5 : Bool) : Option Bool :=
 some x5
def DR (a1 : Span) (a2 : Int) : Option Bool :=
 bif decide (a1.A ≥ 0) then
 bif decide (a1.A < a1.B) then
 JO (decide (a1.B ≤ a2))
 else
 JO false
 else
 JO false
/- sawmill/product.Price -/
def yQ (a1 : Product) (a2 : Int) : Nat → Int → Option ((Int × Bool) ⊕ Unit)
 | 0, _ => none
 | n + 1, x3 =>
 bif decide (x3 < ((a1.Lengths.length : Nat) : Int)) then
 bif inb x3 a1.Lengths.length then
 bif (a1.Lengths.getD x3.toNat default) != a2 then
 (yQ a1 a2 n) (w64 (x3 + 1))
 else
 bif decide (x3 ≥ ((a1.Prices.length : Nat) : Int)) then
 some (Sum.inl (0, false))
 else
 bif inb x3 a1.Prices.length then
 some (Sum.inl ((a1.Prices.getD x3.toNat default), true))
 else none
 else none
 else
 some (Sum.inr ())
def UD (a1 : Product) (a2 : Int) : Option (Int × Bool) :=
 (yQ a1 a2 FUEL 0).bind fun u11 => Sum.elim (fun v12 => some v12) (fun o9 =>
 some (0, false)) u11
/- sawmill/worth.worst -/
def DV (x4 : Int) (rec_worth_worst_L1 : Int → Int → Option Int) (x10 : Int) : Option Int :=
 rec_worth_worst_L1 x10 (w64 (x4 + 1))
def DX (a1 : List Worth_zone) (x3 : Int) (x4 : Int) (rec_worth_worst_L1 : Int → Int → Option Int) (x8 : Bool) : Option Int :=
 bif x8 then
 DV x4 rec_worth_worst_L1 (imax x3 ((a1.getD x4.toNat default).lack))
 else
 DV x4 rec_worth_worst_L1 x3
def jS (a1 : List Worth_zone) (a2 : Span) : Nat → Int → Int → Option Int
 | 0, _, _ => none
 | n + 1, x3, x4 =>
 bif decide (x4 < ((a1.length : Nat) : Int)) then
 bif inb x4 a1.length then
 bif decide ((((a1.getD x4.toNat default).z).A) < a2.B) then
 DX a1 x3 x4 (jS a1 a2 n) (decide (a2.A < (((a1.getD x4.toNat default).z).B)))
 else
 DX a1 x3 x4 (jS a1 a2 n) false
 else none
 else
 some x3
def NM (a1 : List Worth_zone) (a2 : Span) : Option Int :=
 (jS a1 a2 FUEL 0 0).bind fun o12 =>
 some o12
/- (sawmill/worth.view).worth -/
def YZ (x17 : Int) (rec_worth_view_worth_L2 : Int → Int → Option ((Int × Bool) ⊕ Int)) (x24 : Int) : Option ((Int × Bool) ⊕ Int) :=
 rec_worth_view_worth_L2 x24 (w64 (x17 + 1))
def zI (a1 : Worth_view) (a3 : Int) (v14 : Box) : Nat → Int → Int → Option ((Int × Bool) ⊕ Int)
 | 0, _, _ => none
 | n + 1, x16, x17 =>
 bif decide (x17 < ((a1.defects.length : Nat) : Int)) then
 bif inb x17 a1.defects.length then
 (YE (a1.defects.getD x17.toNat default) v14).bind fun v20 =>
 bif !v20 then
 YZ x17 (zI a1 a3 v14 n) x16
 else
 bif ((a1.defects.getD x17.toNat default).Kind) == 3 then
 some (Sum.inl (0, false))
 else
 YZ x17 (zI a1 a3 v14 n) (w64 (x16 - a3))
 else none
 else
 some (Sum.inr x16)
def XD (a1 : Worth_view) (a2 : Span) (a3 : Int) (v7 : Int × Bool) (x12 : Bool) : Option (Int × Bool) :=
 bif x12 then
 some (0, false)
 else
 (YF a1 a2).bind fun v14 =>
 (zI a1 a3 v14 FUEL v7.1 0).bind fun u28 => Sum.elim (fun v29 => some v29) (fun o26 =>
 some (imax o26 0, true)) u28
def ZY (a1 : Worth_view) (a2 : Span) (a3 : Int) : Option (Int × Bool) :=
 (DR a2 a1.length).bind fun v4 =>
 bif !v4 then
 some (0, false)
 else
 (UD a1.product (w64 (a2.B - a2.A))).bind fun v7 =>
 bif !v7.2 then
 XD a1 a2 a3 v7 true
 else
 (NM a1.zones a2).bind fun v10 =>
 XD a1 a2 a3 v7 (decide (v10 > a1.product.Wane))
/- sawmill/worth.Best -/
def NY (x24 : Int) (rec_worth_Best_L3 : Int → Bool → Int → Span → Option (Int × Bool × Span)) (x34 : Int) (x35 : Bool) (x36 : Span) : Option (Int × Bool × Span) :=
 rec_worth_Best_L3 x34 x35 (w64 (x24 + 1)) x36
def TZ (a3 : Product) (x19 : Int) (x22 : Int) (x23 : Bool) (x24 : Int) (x25 : Span) (rec_worth_Best_L3 : Int → Bool → Int → Span → Option (Int × Bool × Span)) (v28 : Int × Bool) (x32 : Bool) : Option (Int × Bool × Span) :=
 bif x32 then
 NY x24 rec_worth_Best_L3 v28.1 true (Span.mk x19 (w64 (x19 + (a3.Lengths.getD x24.toNat default))))
 else
 NY x24 rec_worth_Best_L3 x22 x23 x25
def wZ (a3 : Product) (a6 : Int) (v14 : Worth_view × Bool) (x19 : Int) : Nat → Int → Bool → Int → Span → Option (Int × Bool × Span)
 | 0, _, _, _, _ => none
 | n + 1, x22, x23, x24, x25 =>
 bif decide (x24 < ((a3.Lengths.length : Nat) : Int)) then
 bif inb x24 a3.Lengths.length then
 (ZY (Worth_view.mk v14.1.product v14.1.rect v14.1.length v14.1.zones v14.1.defects) (Span.mk x19 (w64 (x19 + (a3.Lengths.getD x24.toNat default)))) a6).bind fun v28 =>
 bif v28.2 then
 bif !x23 then
 TZ a3 x19 x22 x23 x24 x25 (wZ a3 a6 v14 x19 n) v28 true
 else
 TZ a3 x19 x22 x23 x24 x25 (wZ a3 a6 v14 x19 n) v28 (decide (v28.1 > x22))
 else
 TZ a3 x19 x22 x23 x24 x25 (wZ a3 a6 v14 x19 n) v28 false
 else none
 else
 some (x22, x23, x25)
def JL (a3 : Product) (a5 : Int) (a6 : Int) (v14 : Worth_view × Bool) : Nat → Int → Bool → Int → Span → Option (Int × Bool × Span)
 | 0, _, _, _, _ => none
 | n + 1, x17, x18, x19, x20 =>
 bif decide (x19 < v14.1.length) then
 (wZ a3 a6 v14 x19 FUEL x17 x18 0 x20).bind fun o40 =>
 (JL a3 a5 a6 v14 n) o40.1 o40.2.1 (w64 (x19 + a5)) o40.2.2
 else
 some (x17, x18, x20)
def FB (a1 : List qA) (a2 : List Defect) (a3 : Product) (a4 : Rect) (a5 : Int) (a6 : Int) (x12 : Bool) : Option (Span × Int × Bool) :=
 bif x12 then
 some ((Span.mk 0 0), 0, false)
 else
 (MC a1 a2 a3 a4).bind fun v14 =>
 bif !v14.2 then
 some ((Span.mk 0 0), 0, false)
 else
 (JL a3 a5 a6 v14 FUEL 0 false 0 (Span.mk 0 0)).bind fun o45 =>
 some (o45.2.2, o45.1, o45.2.1)
def BJ (a1 : List qA) (a2 : List Defect) (a3 : Product) (a4 : Rect) (a5 : Int) (a6 : Int) : Option (Span × Int × Bool) :=
 (RJ a5).bind fun v7 =>
 bif !v7 then
 FB a1 a2 a3 a4 a5 a6 true
 else
 (PH a6).bind fun v10 =>
 FB a1 a2 a3 a4 a5 a6 (!v10)
/- sawmill/solid.extents -/
def ZQ (a1 : List qA) : Nat → (List Span) → Int → Int → Option (List Span)
 | 0, _, _, _ => none
 | n + 1, l3, x4, x5 =>
 bif decide (x5 < ((a1.length : Nat) : Int)) then
 bif inb x5 a1.length then
 bif inb x5 l3.length then
 (ZQ a1 n) (l3.set x5.toNat (Span.mk x4 (w64 (x4 + ((a1.getD x5.toNat default).Len))))) (w64 (x4 + ((a1.getD x5.toNat default).Len))) (w64 (x5 + 1))
 else none
 else none
 else
 some l3
def UF (a1 : List qA) : Option (List Span) :=
 bif mkOk ((a1.length : Nat) : Int) 16 then
 (ZQ a1 FUEL (List.replicate (((a1.length : Nat) : Int).toNat) (Span.mk 0 0)) 0 0).bind fun o10 =>
 some o10
 else none
/- sawmill/solid.Within -/
def UY (x8 : Int) (rec_solid_Within_L1 : Int → Int → Option Int) (x19 : Int) : Option Int :=
 rec_solid_Within_L1 x19 (w64 (x8 + 1))
def jY (a2 : Box) (v3 : (List qA)) (v5 : (List Span)) : Nat → Int → Int → Option Int
 | 0, _, _ => none
 | n + 1, x7, x8 =>
 bif decide (x8 < ((v5.length : Nat) : Int)) then
 bif inb x8 v5.length then
 (YD (v5.getD x8.toNat default) a2.Z).bind fun v11 =>
 (JJ v11).bind fun v13 =>
 bif decide (v13 > 0) then
 bif inb x8 v3.length then
 (YM ((v3.getD x8.toNat default).Sec) (Rect.mk a2.X a2.Y)).bind fun v17 =>
 UY x8 (jY a2 v3 v5 n) (w64 (x7 + (w64 (v13 * v17))))
 else none
 else
 UY x8 (jY a2 v3 v5 n) x7
 else none
 else
 some x7
def yN (a1 : List qA) (a2 : Box) : Option Int :=
 (YC a1).bind fun v3 =>
 (UF v3).bind fun v5 =>
 (jY a2 v3 v5 FUEL 0 0).bind fun o21 =>
 some o21
/- sawmill/edge.volume -/
def WH (a1 : List qA) (a2 : Rect) (a3 : Span) : Option Int :=
 (yN a1 (Box.mk a2.X a2.Y a3)).bind fun v4 =>
 some v4
/- sawmill/edge.gain -/
def IB (a1 : List qA) (a2 : List Defect) (a3 : Product) (a4 : Rect) (a5 : Saw) (a6 : Rates) : Option Int :=
 (BJ a1 a2 a3 a4 a5.Step a6.Fine).bind fun v7 =>
 bif !v7.2.2 then
 some (-1)
 else
 (yH a1).bind fun v10 =>
 (WH a1 a4 (Span.mk 0 v10)).bind fun v12 =>
 (WH a1 a4 v7.1).bind fun v14 =>
 (WH a1 a4 (Span.mk (imax 0 (w64 (v7.1.A - a5.Trim))) v7.1.A)).bind fun v16 =>
 (WH a1 a4 (Span.mk v7.1.B (imin (w64 (v7.1.B + a5.Trim)) v10))).bind fun v18 =>
 some (w64 ((w64 ((w64 (1000000 * v7.2.1)) + (w64 (a6.Dust * (w64 (v16 + v18)))))) + (w64 (a6.Chip * (w64 ((w64 (v12 - v14)) - (w64 (v16 + v18))))))))
/- sawmill/edge.Line -/
def MX (l16 : List Int) (x17 : Int) (rec_edge_Line_L2 : (List Int) → Int → Option (List Int)) (x27 : Int) : Option (List Int) :=
 bif room (l16.length + 1) 8 then
 rec_edge_Line_L2 (l16 ++ ([x27] : List Int)) (w64 (x17 + 1))
 else none
def QR (a1 : List qA) (a2 : List Defect) (a3 : List Product) (a4 : Rect) (a5 : Saw) (a6 : Rates) (v10 : (List Int) × (List Int)) (x12 : Int) : Nat → (List Int) → Int → Option (List Int)
 | 0, _, _ => none
 | n + 1, l16, x17 =>
 bif decide ((w64 (x17 + (v10.1.getD x12.toNat default))) ≤ (w64 (a4.X.B - a4.X.A))) then
 bif nz a5.Pitch then
 bif (Int.tmod x17 a5.Pitch) == 0 then
 bif inb x12 v10.2.length then
 bif inb (v10.2.getD x12.toNat default) a3.length then
 (GK a4 x17 (w64 (x17 + (v10.1.getD x12.toNat default)))).bind fun v23 =>
 (IB a1 a2 (a3.getD (v10.2.getD x12.toNat default).toNat default) v23 a5 a6).bind fun v25 =>
 MX l16 x17 (QR a1 a2 a3 a4 a5 a6 v10 x12 n) v25
 else none
 else none
 else
 MX l16 x17 (QR a1 a2 a3 a4 a5 a6 v10 x12 n) (-1)
 else none
 else
 some l16
def YY (a1 : List qA) (a2 : List Defect) (a3 : List Product) (a4 : Rect) (a5 : Saw) (a6 : Rates) (v10 : (List Int) × (List Int)) : Nat → Int → (List (List Int)) → Option (List (List Int))
 | 0, _, _ => none
 | n + 1, x12, l13 =>
 bif decide (x12 < ((v10.1.length : Nat) : Int)) then
 bif inb x12 v10.1.length then
 (QR a1 a2 a3 a4 a5 a6 v10 x12 FUEL ([] : List Int) 0).bind fun o30 =>
 bif room (l13.length + 1) 24 then
 (YY a1 a2 a3 a4 a5 a6 v10 n) (w64 (x12 + 1)) (l13 ++ ([o30] : List (List Int)))
 else none
 else none
 else
 some l13
def YU (a1 : List qA) (a4 : Rect) (a6 : Rates) (v36 : Int) : Nat → Int → (List Int) → (List Int) → Option ((List Int) × (List Int))
 | 0, _, _, _ => none
 | n + 1, x38, l39, l40 =>
 bif decide (x38 < (w64 (a4.X.B - a4.X.A))) then
 (GK a4 x38 (w64 (x38 + 1))).bind fun v42 =>
 (WH a1 v42 (Span.mk 0 v36)).bind fun v44 =>
 bif room (l39.length + 1) 8 then
 bif room (l40.length + 1) 8 then
 (YU a1 a4 a6 v36 n) (w64 (x38 + 1)) (l39 ++ ([w64 (a6.Chip * v44)] : List Int)) (l40 ++ ([w64 (a6.Dust * v44)] : List Int))
 else none
 else none
 else
 some (l39, l40)
def IY (a1 : List qA) (a2 : List Defect) (a3 : List Product) (a4 : Rect) (a5 : Saw) (a6 : Rates) : Option (Line × Int) :=
 (HK a1 a2 a3 a4 a5 a6).bind fun v7 =>
 bif v7 != 0 then
 some ((Line.mk 0 0 0 ([] : List Int) ([] : List (List Int)) ([] : List Int) ([] : List Int)), v7)
 else
 (TV a3 (w64 (a4.Y.B - a4.Y.A))).bind fun v10 =>
 (YY a1 a2 a3 a4 a5 a6 v10 FUEL 0 ([] : List (List Int))).bind fun o34 =>
 (yH a1).bind fun v36 =>
 (YU a1 a4 a6 v36 FUEL 0 ([] : List Int) ([] : List Int)).bind fun o50 =>
 some ((Line.mk (w64 (a4.X.B - a4.X.A)) a5.Kerf 1 v10.1 o34 o50.1 o50.2), 0)
/- sawmill/cutting.measures -/
def XC (x10 : Int) (rec_cutting_measures_L2 : Int → Option (Int ⊕ Unit)) (x14 : Bool) : Option (Int ⊕ Unit) :=
 bif x14 then
 some (Sum.inl 9)
 else
 rec_cutting_measures_L2 (w64 (x10 + 1))
def wK (a1 : Line) : Nat → Int → Option (Int ⊕ Unit)
 | 0, _ => none
 | n + 1, x10 =>
 bif decide (x10 < ((a1.Sizes.length : Nat) : Int)) then
 bif inb x10 a1.Sizes.length then
 bif decide ((a1.Sizes.getD x10.toNat default) < 1) then
 XC x10 (wK a1 n) true
 else
 XC x10 (wK a1 n) (decide ((a1.Sizes.getD x10.toNat default) > 2000))
 else none
 else
 some (Sum.inr ())
def wL (a1 : Line) (x7 : Bool) : Option Int :=
 bif x7 then
 some 9
 else
 bif decide (((a1.Sizes.length : Nat) : Int) > 32) then
 some 4
 else
 (wK a1 FUEL 0).bind fun u18 => Sum.elim (fun v19 => some v19) (fun o16 =>
 some 0) u18
def YX (a1 : Line) : Option Int :=
 bif decide (a1.Len < 0) then
 wL a1 true
 else
 bif decide (a1.Len > 2000) then
 wL a1 true
 else
 bif decide (a1.Kerf < 0) then
 wL a1 true
 else
 bif decide (a1.Kerf > 20) then
 wL a1 true
 else
 bif decide (a1.Pitch < 1) then
 wL a1 true
 else
 wL a1 (decide (a1.Pitch > 2000))
/- sawmill/cutting.places -/
def DY (a1 : Line) (a2 : Int) : Option Int :=
 some (imax 0 (w64 ((w64 (a1.Len - a2)) + 1)))
/- sawmill/cutting.small -/
def TD (x5 : Int) (rec_cutting_small_L2 : Int → Option (Bool ⊕ Unit)) (x9 : Bool) : Option (Bool ⊕ Unit) :=
 bif x9 then
 some (Sum.inl false)
 else
 rec_cutting_small_L2 (w64 (x5 + 1))
def jH (a1 : List (List Int)) (x2 : Int) : Nat → Int → Option (Bool ⊕ Unit)
 | 0, _ => none
 | n + 1, x5 =>
 bif decide (x5 < (((a1.getD x2.toNat default).length : Nat) : Int)) then
 bif inb x5 ((a1.getD x2.toNat default).length) then
 bif decide (((a1.getD x2.toNat default).getD x5.toNat default) < (-1125899906842624)) then
 TD x5 (jH a1 x2 n) true
 else
 TD x5 (jH a1 x2 n) (decide (((a1.getD x2.toNat default).getD x5.toNat default) > 1125899906842624))
 else none
 else
 some (Sum.inr ())
def ZT (a1 : List (List Int)) : Nat → Int → Option (Bool ⊕ Unit)
 | 0, _ => none
 | n + 1, x2 =>
 bif decide (x2 < ((a1.length : Nat) : Int)) then
 bif inb x2 a1.length then
 (jH a1 x2 FUEL 0).bind fun u13 => Sum.elim (fun v14 => some (Sum.inl v14)) (fun o11 =>
 (ZT a1 n) (w64 (x2 + 1))) u13
 else none
 else
 some (Sum.inr ())
def XI (a1 : List (List Int)) : Option Bool :=
 (ZT a1 FUEL 0).bind fun u17 => Sum.elim (fun v18 => some v18) (fun o15 =>
 some true) u17
/- sawmill/cutting.Check -/
def ZR (a1 : Line) : Nat → Int → Option (Int ⊕ Unit)
 | 0, _ => none
 | n + 1, x9 =>
 bif decide (x9 < ((a1.Gain.length : Nat) : Int)) then
 bif inb x9 a1.Gain.length then
 bif inb x9 a1.Sizes.length then
 (DY a1 (a1.Sizes.getD x9.toNat default)).bind fun v13 =>
 bif (((a1.Gain.getD x9.toNat default).length : Nat) : Int) != v13 then
 some (Sum.inl 19)
 else
 (ZR a1 n) (w64 (x9 + 1))
 else none
 else none
 else
 some (Sum.inr ())
def TM (x25 : Bool) : Option Int :=
 bif x25 then
 some 9
 else
 some 0
def YV (a1 : Line) (x7 : Bool) : Option Int :=
 bif x7 then
 some 19
 else
 (ZR a1 FUEL 0).bind fun u18 => Sum.elim (fun v19 => some v19) (fun o16 =>
 (XI a1.Gain).bind fun v20 =>
 bif !v20 then
 TM true
 else
 (XI ([a1.Chip, a1.Dust] : List (List Int))).bind fun v23 =>
 TM (!v23)) u18
def TY (a1 : Line) : Option Int :=
 (YX a1).bind fun v2 =>
 bif v2 != 0 then
 some v2
 else
 bif ((a1.Gain.length : Nat) : Int) != ((a1.Sizes.length : Nat) : Int) then
 YV a1 true
 else
 bif ((a1.Chip.length : Nat) : Int) != a1.Len then
 YV a1 true
 else
 YV a1 (((a1.Dust.length : Nat) : Int) != a1.Len)
/- sawmill/cutting.sums -/
def JA (a1 : List Int) : Nat → (List Int) → Int → Option (List Int)
 | 0, _, _ => none
 | n + 1, l3, x4 =>
 bif decide (x4 < ((a1.length : Nat) : Int)) then
 bif inb x4 a1.length then
 bif inb x4 l3.length then
 bif inb (w64 (x4 + 1)) l3.length then
 (JA a1 n) (l3.set ((w64 (x4 + 1)).toNat) (w64 ((l3.getD x4.toNat default) + (a1.getD x4.toNat default)))) (w64 (x4 + 1))
 else none
 else none
 else none
 else
 some l3
def PP (a1 : List Int) : Option (List Int) :=
 bif mkOk (w64 (((a1.length : Nat) : Int) + 1)) 8 then
 (JA a1 FUEL (List.replicate ((w64 (((a1.length : Nat) : Int) + 1)).toNat) 0) 0).bind fun o10 =>
 some o10
 else none
/- sawmill/cutting.behind -/
def YL (a1 : Line) (a2 : Int) : Option Int :=
 bif a2 == a1.Len then
 some (-1)
 else
 some (imin (w64 (a2 + a1.Kerf)) a1.Len)
/- sawmill/cutting.start -/
def YQ (x5 : Int) (rec_cutting_start_L1 : Int → Cutting_choice → Option Cutting_choice) (x26 : Cutting_choice) : Option Cutting_choice :=
 rec_cutting_start_L1 (w64 (x5 + 1)) x26
def TS (x5 : Int) (x6 : Cutting_choice) (rec_cutting_start_L1 : Int → Cutting_choice → Option Cutting_choice) (x22 : Cutting_choice) (x24 : Bool) : Option Cutting_choice :=
 bif x24 then
 YQ x5 rec_cutting_start_L1 x22
 else
 YQ x5 rec_cutting_start_L1 x6
def TA (x5 : Int) (x6 : Cutting_choice) (rec_cutting_start_L1 : Int → Cutting_choice → Option Cutting_choice) (x22 : Cutting_choice) : Option Cutting_choice :=
 bif ((x6.piece.Size == (-1)) && ((x6.piece.At == (-1)) && true)) then
 TS x5 x6 rec_cutting_start_L1 x22 true
 else
 TS x5 x6 rec_cutting_start_L1 x22 (decide (x22.value > x6.value))
def RR (a1 : Line) (a2 : Int) (a3 : List Int) (a4 : List Cutting_choice) (x5 : Int) (x6 : Cutting_choice) (rec_cutting_start_L1 : Int → Cutting_choice → Option Cutting_choice) (x12 : Bool) : Option Cutting_choice :=
 bif x12 then
 YQ x5 rec_cutting_start_L1 x6
 else
 bif inb x5 a1.Gain.length then
 bif inb a2 ((a1.Gain.getD x5.toNat default).length) then
 (YL a1 (w64 (a2 + (a1.Sizes.getD x5.toNat default)))).bind fun v16 =>
 bif decide (v16 ≥ 0) then
 bif inb v16 a3.length then
 bif inb (w64 (a2 + (a1.Sizes.getD x5.toNat default))) a3.length then
 bif inb v16 a4.length then
 TA x5 x6 rec_cutting_start_L1 (Cutting_choice.mk (Piece.mk x5 a2) (w64 (((a1.Gain.getD x5.toNat default).getD a2.toNat default) + (w64 ((w64 ((a3.getD v16.toNat default) - (a3.getD (w64 (a2 + (a1.Sizes.getD x5.toNat default))).toNat default))) + ((a4.getD v16.toNat default).value))))))
 else none
 else none
 else none
 else
 TA x5 x6 rec_cutting_start_L1 (Cutting_choice.mk (Piece.mk x5 a2) ((a1.Gain.getD x5.toNat default).getD a2.toNat default))
 else none
 else none
def wC (a1 : Line) (a2 : Int) (a3 : List Int) (a4 : List Cutting_choice) : Nat → Int → Cutting_choice → Option Cutting_choice
 | 0, _, _ => none
 | n + 1, x5, x6 =>
 bif decide (x5 < ((a1.Sizes.length : Nat) : Int)) then
 bif inb x5 a1.Sizes.length then
 bif decide ((w64 (a2 + (a1.Sizes.getD x5.toNat default))) > a1.Len) then
 RR a1 a2 a3 a4 x5 x6 (wC a1 a2 a3 a4 n) true
 else
 bif inb x5 a1.Gain.length then
 bif inb a2 ((a1.Gain.getD x5.toNat default).length) then
 RR a1 a2 a3 a4 x5 x6 (wC a1 a2 a3 a4 n) (decide (((a1.Gain.getD x5.toNat default).getD a2.toNat default) < 0))
 else none
 else none
 else none
 else
 some x6
def TX (a1 : Line) (a2 : Int) (a3 : List Int) (a4 : List Cutting_choice) : Option Cutting_choice :=
 (wC a1 a2 a3 a4 FUEL 0 (Cutting_choice.mk (Piece.mk (-1) (-1)) 0)).bind fun o28 =>
 some o28
/- sawmill/cutting.choices -/
def XW (a1 : Line) (x20 : Int) (rec_cutting_choices_L4 : Int → Cutting_choice → Option Cutting_choice) (x31 : Cutting_choice) : Option Cutting_choice :=
 rec_cutting_choices_L4 (w64 (x20 + a1.Pitch)) x31
def XX (a1 : Line) (v2 : (List Int)) (v4 : (List Int)) (l8 : List Cutting_choice) (x9 : Int) (v11 : Cutting_choice) (x20 : Int) (x21 : Cutting_choice) (rec_cutting_choices_L4 : Int → Cutting_choice → Option Cutting_choice) (x29 : Bool) : Option Cutting_choice :=
 bif x29 then
 XW a1 x20 rec_cutting_choices_L4 (Cutting_choice.mk (((l8.set x9.toNat v11).getD x20.toNat default).piece) (w64 ((((l8.set x9.toNat v11).getD x20.toNat default).value) + (w64 ((w64 ((w64 ((v2.getD ((w64 (x20 - a1.Kerf)).toNat) default) - (v2.getD x9.toNat default))) + (v4.getD x20.toNat default))) - (v4.getD ((w64 (x20 - a1.Kerf)).toNat) default))))))
 else
 XW a1 x20 rec_cutting_choices_L4 x21
def zY (a1 : Line) (v2 : (List Int)) (v4 : (List Int)) (l8 : List Cutting_choice) (x9 : Int) (v11 : Cutting_choice) : Nat → Int → Cutting_choice → Option Cutting_choice
 | 0, _, _ => none
 | n + 1, x20, x21 =>
 bif decide (x20 ≤ a1.Len) then
 bif inb x20 l8.length then
 bif inb (w64 (x20 - a1.Kerf)) v2.length then
 bif inb x9 v2.length then
 bif inb x20 v4.length then
 bif inb (w64 (x20 - a1.Kerf)) v4.length then
 bif !((((((l8.set x9.toNat v11).getD x20.toNat default).piece).Size) == (-1)) && ((((((l8.set x9.toNat v11).getD x20.toNat default).piece).At) == (-1)) && true)) then
 XX a1 v2 v4 l8 x9 v11 x20 x21 (zY a1 v2 v4 l8 x9 v11 n) (decide ((w64 ((((l8.set x9.toNat v11).getD x20.toNat default).value) + (w64 ((w64 ((w64 ((v2.getD ((w64 (x20 - a1.Kerf)).toNat) default) - (v2.getD x9.toNat default))) + (v4.getD x20.toNat default))) - (v4.getD ((w64 (x20 - a1.Kerf)).toNat) default))))) > x21.value))
 else
 XX a1 v2 v4 l8 x9 v11 x20 x21 (zY a1 v2 v4 l8 x9 v11 n) false
 else none
 else none
 else none
 else none
 else none
 else
 some x21
def XO (a1 : Line) (v2 : (List Int)) (v4 : (List Int)) (l7 : List Cutting_choice) (l8 : List Cutting_choice) (x9 : Int) (rec_cutting_choices_L1 : (List Cutting_choice) → (List Cutting_choice) → Int → Option (List Cutting_choice)) (v11 : Cutting_choice) (x19 : Cutting_choice) : Option (List Cutting_choice) :=
 (zY a1 v2 v4 l8 x9 v11 FUEL (w64 ((w64 (x9 + a1.Pitch)) + a1.Kerf)) x19).bind fun o33 =>
 bif inb x9 l7.length then
 rec_cutting_choices_L1 (l7.set x9.toNat o33) (l8.set x9.toNat v11) (w64 (x9 - 1))
 else none
def XQ (a1 : Line) (v2 : (List Int)) (v4 : (List Int)) (l7 : List Cutting_choice) (l8 : List Cutting_choice) (x9 : Int) (rec_cutting_choices_L1 : (List Cutting_choice) → (List Cutting_choice) → Int → Option (List Cutting_choice)) (v11 : Cutting_choice) (x17 : Bool) : Option (List Cutting_choice) :=
 bif x17 then
 XO a1 v2 v4 l7 l8 x9 rec_cutting_choices_L1 v11 ((l8.set x9.toNat v11).getD x9.toNat default)
 else
 XO a1 v2 v4 l7 l8 x9 rec_cutting_choices_L1 v11 (Cutting_choice.mk (Piece.mk (-1) (-1)) (w64 ((v2.getD a1.Len.toNat default) - (v2.getD x9.toNat default))))
def wI (a1 : Line) (v2 : (List Int)) (v4 : (List Int)) : Nat → (List Cutting_choice) → (List Cutting_choice) → Int → Option (List Cutting_choice)
 | 0, _, _, _ => none
 | n + 1, l7, l8, x9 =>
 bif decide (x9 ≥ 0) then
 (TX a1 x9 v4 l7).bind fun v11 =>
 bif inb x9 l8.length then
 bif inb a1.Len v2.length then
 bif inb x9 v2.length then
 bif !((((((l8.set x9.toNat v11).getD x9.toNat default).piece).Size) == (-1)) && ((((((l8.set x9.toNat v11).getD x9.toNat default).piece).At) == (-1)) && true)) then
 XQ a1 v2 v4 l7 l8 x9 (wI a1 v2 v4 n) v11 (decide ((((l8.set x9.toNat v11).getD x9.toNat default).value) > (w64 ((v2.getD a1.Len.toNat default) - (v2.getD x9.toNat default)))))
 else
 XQ a1 v2 v4 l7 l8 x9 (wI a1 v2 v4 n) v11 false
 else none
 else none
 else none
 else
 some l7
def XS (a1 : Line) : Option (List Cutting_choice) :=
 (PP a1.Chip).bind fun v2 =>
 (PP a1.Dust).bind fun v4 =>
 bif mkOk (w64 (a1.Len + 1)) 24 then
 (wI a1 v2 v4 FUEL (List.replicate ((w64 (a1.Len + 1)).toNat) (Cutting_choice.mk (Piece.mk 0 0) 0)) (List.replicate ((w64 (a1.Len + 1)).toNat) (Cutting_choice.mk (Piece.mk 0 0) 0)) a1.Len).bind fun o37 =>
 some o37
 else none
/- sawmill/cutting.Best -/
def JI (a1 : Line) (v5 : (List Cutting_choice)) : Nat → (List Piece) → Int → Option (List Piece)
 | 0, _, _ => none
 | n + 1, l7, x8 =>
 bif decide (x8 ≥ 0) then
 bif inb x8 v5.length then
 bif (((((v5.getD x8.toNat default).piece).Size) == (-1)) && (((((v5.getD x8.toNat default).piece).At) == (-1)) && true)) then
 some l7
 else
 bif room (l7.length + 1) 16 then
 bif inb (((v5.getD x8.toNat default).piece).Size) a1.Sizes.length then
 (YL a1 (w64 ((((v5.getD x8.toNat default).piece).At) + (a1.Sizes.getD (((v5.getD x8.toNat default).piece).Size).toNat default)))).bind fun v14 =>
 (JI a1 v5 n) (l7 ++ ([(v5.getD x8.toNat default).piece] : List Piece)) v14
 else none
 else none
 else none
 else
 some l7
def QK (a1 : Line) : Option ((List Piece) × Int × Int) :=
 (TY a1).bind fun v2 =>
 bif v2 != 0 then
 some (([] : List Piece), 0, v2)
 else
 (XS a1).bind fun v5 =>
 (JI a1 v5 FUEL ([] : List Piece) 0).bind fun o17 =>
 bif inb 0 v5.length then
 some (o17, (v5.getD ((0 : Int).toNat) default).value, 0)
 else none
/- slices.Clone[[]sawmill/api.Node,sawmill/api.Node] -/
def WT (a1 : List Node) : Option (List Node) :=
 bif room a1.length 16 then some a1 else none
/- sawmill/edge.collect -/
def VC (a1 : List (List Node)) (a2 : List Node) : Option ((List (List Node)) × (List (List Node))) :=
 (WT a2).bind fun v3 =>
 bif room (a1.length + 1) 24 then
 some ((a1 ++ ([v3] : List (List Node))), (a1 ++ ([v3] : List (List Node))))
 else none
/- sawmill/pattern.isRip -/
def TU (x3 : Bool) : Option Bool :=
 some x3
def wF (a1 : Int) : Option Bool :=
 bif a1 == 2 then
 TU true
 else
 TU (a1 == 3)
/- sawmill/pattern.isFrame -/
def wG (x2 : Int) (rec_pattern_isFrame_L1 : Int → Option (Bool ⊕ Unit)) (x7 : Bool) : Option (Bool ⊕ Unit) :=
 bif x7 then
 some (Sum.inl false)
 else
 rec_pattern_isFrame_L1 (w64 (x2 + 1))
def qW (a1 : Rect) : Nat → Int → Option (Bool ⊕ Unit)
 | 0, _ => none
 | n + 1, x2 =>
 bif decide (x2 < 2) then
 bif inb x2 2 then
 bif decide ((([a1.X.A, a1.X.B, a1.Y.A, a1.Y.B] : List Int).getD (x2.toNat * 2 + 0) 0) < (-600)) then
 wG x2 (qW a1 n) true
 else
 bif decide ((([a1.X.A, a1.X.B, a1.Y.A, a1.Y.B] : List Int).getD (x2.toNat * 2 + 1) 0) > 600) then
 wG x2 (qW a1 n) true
 else
 wG x2 (qW a1 n) (decide ((([a1.X.A, a1.X.B, a1.Y.A, a1.Y.B] : List Int).getD (x2.toNat * 2 + 0) 0) ≥ (([a1.X.A, a1.X.B, a1.Y.A, a1.Y.B] : List Int).getD (x2.toNat * 2 + 1) 0)))
 else none
 else
 some (Sum.inr ())
def jF (a1 : Rect) : Option Bool :=
 (qW a1 FUEL 0).bind fun u11 => Sum.elim (fun v12 => some v12) (fun o9 =>
 some true) u11
/- sawmill/pattern.along -/
def ZA (a1 : Rect) (a2 : Int) : Option Span :=
 bif a2 == 2 then
 some a1.X
 else
 some a1.Y
/- sawmill/pattern.Row$1 -/
def jI (a1 : List Node) (a2 : Int) (a3 : List Node) : Option (Int × (List Node)) :=
 bif decide ((w64 (a2 + ((a1.length : Nat) : Int))) ≤ 127) then
 bif room (a3.length + a1.length) 16 then
 some (w64 (a2 + ((a1.length : Nat) : Int)), (a3 ++ a1))
 else none
 else
 some (w64 (a2 + ((a1.length : Nat) : Int)), a3)
/- sawmill/pattern.Row -/
def DT (a5 : List (List Node)) (x21 : Int) (rec_pattern_Row_L3 : Int → Bool → Int → (List Node) → Int → Option (((List Node) × Int) ⊕ (Bool × (List Node) × Int))) (x40 : Int) (x41 : Bool) (l42 : List Node) (x43 : Int) : Option (((List Node) × Int) ⊕ (Bool × (List Node) × Int)) :=
 bif inb x21 a5.length then
 (jI (a5.getD x21.toNat default) x43 l42).bind fun v45 =>
 rec_pattern_Row_L3 x40 x41 (w64 (x21 + 1)) v45.2 v45.1
 else none
def RG (a2 : Int) (a3 : Int) (a4 : List Span) (a5 : List (List Node)) (v17 : Span) (x19 : Int) (x20 : Bool) (x21 : Int) (rec_pattern_Row_L3 : Int → Bool → Int → (List Node) → Int → Option (((List Node) × Int) ⊕ (Bool × (List Node) × Int))) (l35 : List Node) (x36 : Int) : Option (((List Node) × Int) ⊕ (Bool × (List Node) × Int)) :=
 bif decide (((a4.getD x21.toNat default).B) < v17.B) then
 (jI ([(Node.mk a2 ((a4.getD x21.toNat default).B))] : List Node) x36 l35).bind fun v38 =>
 DT a5 x21 rec_pattern_Row_L3 (imin (w64 (((a4.getD x21.toNat default).B) + a3)) v17.B) x20 v38.2 v38.1
 else
 DT a5 x21 rec_pattern_Row_L3 x19 true l35 x36
def PK (a2 : Int) (a3 : Int) (a4 : List Span) (a5 : List (List Node)) (v17 : Span) (x19 : Int) (x20 : Bool) (x21 : Int) (l22 : List Node) (x23 : Int) (rec_pattern_Row_L3 : Int → Bool → Int → (List Node) → Int → Option (((List Node) × Int) ⊕ (Bool × (List Node) × Int))) (x29 : Bool) : Option (((List Node) × Int) ⊕ (Bool × (List Node) × Int)) :=
 bif x29 then
 some (Sum.inl (([] : List Node), 11))
 else
 bif decide (((a4.getD x21.toNat default).B) > v17.B) then
 some (Sum.inl (([] : List Node), 20))
 else
 bif decide (((a4.getD x21.toNat default).A) > x19) then
 (jI ([(Node.mk a2 (w64 (((a4.getD x21.toNat default).A) - a3))), (Node.mk 0 0)] : List Node) x23 l22).bind fun v33 =>
 RG a2 a3 a4 a5 v17 x19 x20 x21 rec_pattern_Row_L3 v33.2 v33.1
 else
 RG a2 a3 a4 a5 v17 x19 x20 x21 rec_pattern_Row_L3 l22 x23
def wA (a2 : Int) (a3 : Int) (a4 : List Span) (a5 : List (List Node)) (v17 : Span) : Nat → Int → Bool → Int → (List Node) → Int → Option (((List Node) × Int) ⊕ (Bool × (List Node) × Int))
 | 0, _, _, _, _, _ => none
 | n + 1, x19, x20, x21, l22, x23 =>
 bif decide (x21 < ((a4.length : Nat) : Int)) then
 bif inb x21 a4.length then
 bif decide (((a4.getD x21.toNat default).A) ≥ ((a4.getD x21.toNat default).B)) then
 some (Sum.inl (([] : List Node), 19))
 else
 bif x20 then
 PK a2 a3 a4 a5 v17 x19 x20 x21 l22 x23 (wA a2 a3 a4 a5 v17 n) true
 else
 bif ((a4.getD x21.toNat default).A) != x19 then
 PK a2 a3 a4 a5 v17 x19 x20 x21 l22 x23 (wA a2 a3 a4 a5 v17 n) (decide (((a4.getD x21.toNat default).A) < (w64 ((w64 (x19 + a3)) + 1))))
 else
 PK a2 a3 a4 a5 v17 x19 x20 x21 l22 x23 (wA a2 a3 a4 a5 v17 n) false
 else none
 else
 some (Sum.inr (x20, l22, x23))
def RF (x57 : Int) (l58 : List Node) : Option ((List Node) × Int) :=
 bif decide (x57 > 127) then
 some (([] : List Node), 4)
 else
 some (l58, 0)
def BD (a1 : Rect) (a2 : Int) (a3 : Int) (a4 : List Span) (a5 : List (List Node)) (x15 : Bool) : Option ((List Node) × Int) :=
 bif x15 then
 some (([] : List Node), 9)
 else
 (ZA a1 a2).bind fun v17 =>
 (wA a2 a3 a4 a5 v17 FUEL v17.A false 0 ([] : List Node) 0).bind fun u52 => Sum.elim (fun v53 => some v53) (fun o50 =>
 bif !o50.1 then
 (jI ([(Node.mk 0 0)] : List Node) o50.2.2 o50.2.1).bind fun v55 =>
 RF v55.1 v55.2
 else
 RF o50.2.2 o50.2.1) u52
def DS (a1 : Rect) (a2 : Int) (a3 : Int) (a4 : List Span) (a5 : List (List Node)) (x12 : Bool) : Option ((List Node) × Int) :=
 bif x12 then
 some (([] : List Node), 19)
 else
 bif decide (a3 < 0) then
 BD a1 a2 a3 a4 a5 true
 else
 BD a1 a2 a3 a4 a5 (decide (a3 > 20))
def WB (a1 : Rect) (a2 : Int) (a3 : Int) (a4 : List Span) (a5 : List (List Node)) : Option ((List Node) × Int) :=
 (wF a2).bind fun v6 =>
 bif !v6 then
 some (([] : List Node), 10)
 else
 (jF a1).bind fun v9 =>
 bif !v9 then
 DS a1 a2 a3 a4 a5 true
 else
 DS a1 a2 a3 a4 a5 (((a4.length : Nat) : Int) != ((a5.length : Nat) : Int))
/- sawmill/edge.Best -/
def PG (a4 : Rect) (v10 : (List Piece) × Int × Int) (v13 : (List Int) × (List Int)) : Nat → (List Span) → (List (List Node)) → Int → Option ((List Span) × (List (List Node)))
 | 0, _, _, _ => none
 | n + 1, l15, l16, x17 =>
 bif decide (x17 < ((v10.1.length : Nat) : Int)) then
 bif inb x17 v10.1.length then
 bif inb ((v10.1.getD x17.toNat default).Size) v13.1.length then
 (GK a4 ((v10.1.getD x17.toNat default).At) (w64 (((v10.1.getD x17.toNat default).At) + (v13.1.getD (((v10.1.getD x17.toNat default).Size).toNat) default)))).bind fun v21 =>
 bif room (l15.length + 1) 16 then
 bif inb ((v10.1.getD x17.toNat default).Size) v13.2.length then
 (VC l16 ([(Node.mk 1 (v13.2.getD (((v10.1.getD x17.toNat default).Size).toNat) default))] : List Node)).bind fun v25 =>
 (PG a4 v10 v13 n) (l15 ++ ([v21.X] : List Span)) v25.2 (w64 (x17 + 1))
 else none
 else none
 else none
 else none
 else
 some (l15, l16)
def IZ (a1 : List qA) (a2 : List Defect) (a3 : List Product) (a4 : Rect) (a5 : Saw) (a6 : Rates) : Option ((List Node) × Int × Int) :=
 (IY a1 a2 a3 a4 a5 a6).bind fun v7 =>
 bif v7.2 != 0 then
 some (([] : List Node), 0, v7.2)
 else
 (QK (Line.mk v7.1.Len v7.1.Kerf v7.1.Pitch v7.1.Sizes v7.1.Gain v7.1.Chip v7.1.Dust)).bind fun v10 =>
 bif v10.2.2 != 0 then
 some (([] : List Node), 0, v10.2.2)
 else
 (TV a3 (w64 (a4.Y.B - a4.Y.A))).bind fun v13 =>
 (PG a4 v10 v13 FUEL ([] : List Span) ([] : List (List Node)) 0).bind fun o29 =>
 (WB a4 2 a5.Kerf o29.1 o29.2).bind fun v31 =>
 bif v31.2 != 0 then
 some (([] : List Node), 0, v31.2)
 else
 some (v31.1, v10.2.1, 0)
/- sawmill/plan.hasBoard$1 -/
def UX (a1 : Node) : Option Bool :=
 some (a1.Kind == 1)
/- slices.IndexFunc[[]sawmill/api.Node,sawmill/api.Node] -/
def wJ (a1 : List Node) : Nat → Int → Option (Int ⊕ Unit)
 | 0, _ => none
 | n + 1, x2 =>
 bif decide (x2 < ((a1.length : Nat) : Int)) then
 bif inb x2 a1.length then
 (UX (a1.getD x2.toNat default)).bind fun v5 =>
 bif v5 then
 some (Sum.inl x2)
 else
 (wJ a1 n) (w64 (x2 + 1))
 else none
 else
 some (Sum.inr ())
def WF (a1 : List Node) : Option Int :=
 (wJ a1 FUEL 0).bind fun u10 => Sum.elim (fun v11 => some v11) (fun o8 =>
 some (-1)) u10
/- slices.ContainsFunc[[]sawmill/api.Node,sawmill/api.Node] -/
def QC (a1 : List Node) : Option Bool :=
 (WF a1).bind fun v2 =>
 some (decide (v2 ≥ 0))
/- sawmill/plan.hasBoard -/
def UE (a1 : List Node) : Option Bool :=
 (QC a1).bind fun v2 =>
 some v2
/- sawmill/plan.volume -/
def UK (a1 : List qA) (a2 : Rect) : Option Int :=
 (yH a1).bind fun v3 =>
 (yN a1 (Box.mk a2.X a2.Y (Span.mk 0 v3))).bind fun v5 =>
 some v5
/- sawmill/plan.line -/
def GZ (l14 : List Int) (l15 : List (List Node)) (x16 : Int) (rec_plan_line_L2 : (List Int) → (List (List Node)) → Int → Option ((List Int) × (List (List Node)))) (x30 : Int) (l31 : List Node) : Option ((List Int) × (List (List Node))) :=
 bif room (l14.length + 1) 8 then
 bif room (l15.length + 1) 24 then
 rec_plan_line_L2 (l14 ++ ([x30] : List Int)) (l15 ++ ([l31] : List (List Node))) (w64 (x16 + 1))
 else none
 else none
def HH (l14 : List Int) (l15 : List (List Node)) (x16 : Int) (rec_plan_line_L2 : (List Int) → (List (List Node)) → Int → Option ((List Int) × (List (List Node)))) (v22 : (List Node) × Int × Int) (x27 : Bool) : Option ((List Int) × (List (List Node))) :=
 bif x27 then
 GZ l14 l15 x16 rec_plan_line_L2 v22.2.1 v22.1
 else
 GZ l14 l15 x16 rec_plan_line_L2 (-1) ([] : List Node)
def jL (a1 : List qA) (a2 : List Defect) (a3 : List Product) (a4 : Rect) (a5 : Saw) (a6 : Rates) (v7 : (List Int)) (x10 : Int) : Nat → (List Int) → (List (List Node)) → Int → Option ((List Int) × (List (List Node)))
 | 0, _, _, _ => none
 | n + 1, l14, l15, x16 =>
 bif decide ((w64 (x16 + (v7.getD x10.toNat default))) ≤ (w64 (a4.Y.B - a4.Y.A))) then
 bif nz a5.Pitch then
 bif (Int.tmod x16 a5.Pitch) == 0 then
 (RY a4 x16 (w64 (x16 + (v7.getD x10.toNat default)))).bind fun v20 =>
 (IZ a1 a2 a3 v20 a5 a6).bind fun v22 =>
 bif v22.2.2 == 0 then
 (UE v22.1).bind fun v25 =>
 HH l14 l15 x16 (jL a1 a2 a3 a4 a5 a6 v7 x10 n) v22 v25
 else
 HH l14 l15 x16 (jL a1 a2 a3 a4 a5 a6 v7 x10 n) v22 false
 else
 GZ l14 l15 x16 (jL a1 a2 a3 a4 a5 a6 v7 x10 n) (-1) ([] : List Node)
 else none
 else
 some (l14, l15)
def PJ (a1 : List qA) (a2 : List Defect) (a3 : List Product) (a4 : Rect) (a5 : Saw) (a6 : Rates) (v7 : (List Int)) : Nat → (List (List (List Node))) → Int → (List (List Int)) → Option ((List (List (List Node))) × (List (List Int)))
 | 0, _, _, _ => none
 | n + 1, l9, x10, l11 =>
 bif decide (x10 < ((v7.length : Nat) : Int)) then
 bif inb x10 v7.length then
 (jL a1 a2 a3 a4 a5 a6 v7 x10 FUEL ([] : List Int) ([] : List (List Node)) 0).bind fun o36 =>
 bif room (l11.length + 1) 24 then
 bif room (l9.length + 1) 24 then
 (PJ a1 a2 a3 a4 a5 a6 v7 n) (l9 ++ ([o36.2] : List (List (List Node)))) (w64 (x10 + 1)) (l11 ++ ([o36.1] : List (List Int)))
 else none
 else none
 else none
 else
 some (l9, l11)
def PU (a1 : List qA) (a4 : Rect) (a6 : Rates) : Nat → Int → (List Int) → (List Int) → Option ((List Int) × (List Int))
 | 0, _, _, _ => none
 | n + 1, x44, l45, l46 =>
 bif decide (x44 < (w64 (a4.Y.B - a4.Y.A))) then
 (RY a4 x44 (w64 (x44 + 1))).bind fun v48 =>
 (UK a1 v48).bind fun v50 =>
 bif room (l45.length + 1) 8 then
 bif room (l46.length + 1) 8 then
 (PU a1 a4 a6 n) (w64 (x44 + 1)) (l45 ++ ([w64 (a6.Chip * v50)] : List Int)) (l46 ++ ([w64 (a6.Dust * v50)] : List Int))
 else none
 else none
 else
 some (l45, l46)
def IK (a1 : List qA) (a2 : List Defect) (a3 : List Product) (a4 : Rect) (a5 : Saw) (a6 : Rates) : Option (Line × (List (List (List Node)))) :=
 (WN a3).bind fun v7 =>
 (PJ a1 a2 a3 a4 a5 a6 v7 FUEL ([] : List (List (List Node))) 0 ([] : List (List Int))).bind fun o42 =>
 (PU a1 a4 a6 FUEL 0 ([] : List Int) ([] : List Int)).bind fun o56 =>
 some ((Line.mk (w64 (a4.Y.B - a4.Y.A)) a5.Kerf 1 v7 o42.2 o56.1 o56.2), o42.1)
/- sawmill/plan.collect -/
def VQ (a1 : List Node) (a2 : List (List Node)) : Option ((List (List Node)) × (List (List Node))) :=
 bif room (a2.length + 1) 24 then
 some ((a2 ++ ([a1] : List (List Node))), (a2 ++ ([a1] : List (List Node))))
 else none
/- sawmill/section.Area -/
def JE (v2 : qJ) : Nat → Int → Int → Option Int
 | 0, _, _ => none
 | n + 1, x4, x5 =>
 bif decide (x5 < ((v2.Rows.length : Nat) : Int)) then
 bif inb x5 v2.Rows.length then
 (JJ (v2.Rows.getD x5.toNat default)).bind fun v8 =>
 (JE v2 n) (w64 (x4 + v8)) (w64 (x5 + 1))
 else none
 else
 some x4
def DG (a1 : qJ) : Option Int :=
 (JN a1).bind fun v2 =>
 (JE v2 FUEL 0 0).bind fun o11 =>
 some (w64 (10 * o11))
/- sawmill/solid.Volume -/
def JD (v2 : (List qA)) : Nat → Int → Int → Option Int
 | 0, _, _ => none
 | n + 1, x4, x5 =>
 bif decide (x5 < ((v2.length : Nat) : Int)) then
 bif inb x5 v2.length then
 (DG ((v2.getD x5.toNat default).Sec)).bind fun v8 =>
 (JD v2 n) (w64 (x4 + (w64 (((v2.getD x5.toNat default).Len) * v8)))) (w64 (x5 + 1))
 else none
 else
 some x4
def PM (a1 : List qA) : Option Int :=
 (YC a1).bind fun v2 =>
 (JD v2 FUEL 0 0).bind fun o11 =>
 some o11
/- sawmill/plan.Best -/
def PN (a4 : Rect) (v10 : Line × (List (List (List Node)))) (v12 : (List Piece) × Int × Int) : Nat → (List Span) → (List (List Node)) → Int → Option ((List Span) × (List (List Node)))
 | 0, _, _, _ => none
 | n + 1, l15, l16, x17 =>
 bif decide (x17 < ((v12.1.length : Nat) : Int)) then
 bif inb x17 v12.1.length then
 bif inb ((v12.1.getD x17.toNat default).Size) v10.1.Sizes.length then
 (RY a4 ((v12.1.getD x17.toNat default).At) (w64 (((v12.1.getD x17.toNat default).At) + (v10.1.Sizes.getD (((v12.1.getD x17.toNat default).Size).toNat) default)))).bind fun v21 =>
 bif room (l15.length + 1) 16 then
 bif inb ((v12.1.getD x17.toNat default).Size) v10.2.length then
 bif inb ((v12.1.getD x17.toNat default).At) ((v10.2.getD (((v12.1.getD x17.toNat default).Size).toNat) default).length) then
 (VQ ((v10.2.getD (((v12.1.getD x17.toNat default).Size).toNat) default).getD ((v12.1.getD x17.toNat default).At).toNat default) l16).bind fun v26 =>
 (PN a4 v10 v12 n) (l15 ++ ([v21.Y] : List Span)) v26.2 (w64 (x17 + 1))
 else none
 else none
 else none
 else none
 else none
 else
 some (l15, l16)
def RM (a1 : List qA) (a2 : List Defect) (a3 : List Product) (a4 : Rect) (a5 : Saw) (a6 : Rates) : Option (Pattern × Int × Int) :=
 (TL a1 a2 a3 a4 a5 a6).bind fun v7 =>
 bif v7 != 0 then
 some ((Pattern.mk (Rect.mk (Span.mk 0 0) (Span.mk 0 0)) ([] : List Node)), 0, v7)
 else
 (IK a1 a2 a3 a4 a5 a6).bind fun v10 =>
 (QK (Line.mk v10.1.Len v10.1.Kerf v10.1.Pitch v10.1.Sizes v10.1.Gain v10.1.Chip v10.1.Dust)).bind fun v12 =>
 bif v12.2.2 != 0 then
 some ((Pattern.mk (Rect.mk (Span.mk 0 0) (Span.mk 0 0)) ([] : List Node)), 0, v12.2.2)
 else
 (PN a4 v10 v12 FUEL ([] : List Span) ([] : List (List Node)) 0).bind fun o30 =>
 (WB a4 3 a5.Kerf o30.1 o30.2).bind fun v32 =>
 bif v32.2 != 0 then
 some ((Pattern.mk (Rect.mk (Span.mk 0 0) (Span.mk 0 0)) ([] : List Node)), 0, 13)
 else
 (PM a1).bind fun v35 =>
 (UK a1 a4).bind fun v37 =>
 some ((Pattern.mk a4 v32.1), w64 (v12.2.1 + (w64 (a6.Chip * (w64 (v35 - v37))))), 0)
/- sawmill/sawmilllaw24.best -/
def jN (a1 : Law24_Given) : Option (Pattern × Int × Int) :=
 (RM a1.Solid a1.Defects a1.Products a1.Frame a1.Saw a1.Rates).bind fun v2 =>
 some ((Pattern.mk v2.1.Frame v2.1.Nodes), v2.2.1, v2.2.2)
/- sawmill/section.Bounds -/
def NC (x6 : Int) (rec_section_Bounds_L1 : Int → Span → Option Span) (x13 : Span) : Option Span :=
 rec_section_Bounds_L1 (w64 (x6 + 1)) x13
def JP (v2 : qJ) : Nat → Int → Span → Option Span
 | 0, _, _ => none
 | n + 1, x6, x7 =>
 bif decide (x6 < ((v2.Rows.length : Nat) : Int)) then
 bif inb x6 v2.Rows.length then
 (QL (v2.Rows.getD x6.toNat default)).bind fun v10 =>
 bif !v10 then
 NC x6 (JP v2 n) (Span.mk (imin x7.A ((v2.Rows.getD x6.toNat default).A)) (imax x7.B ((v2.Rows.getD x6.toNat default).B)))
 else
 NC x6 (JP v2 n) x7
 else none
 else
 some x7
def SS (a1 : qJ) : Option Rect :=
 (JN a1).bind fun v2 =>
 bif ((v2.Rows.length : Nat) : Int) == 0 then
 some (Rect.mk (Span.mk 0 0) (Span.mk 0 0))
 else
 bif inb 0 v2.Rows.length then
 (JP v2 FUEL 0 (v2.Rows.getD (0 : Int).toNat default)).bind fun o15 =>
 (WY v2.Low (w64 (v2.Low + ((v2.Rows.length : Nat) : Int)))).bind fun v17 =>
 some (Rect.mk o15 v17)
 else none
/- sawmill/solid.Bounds -/
def MA (x4 : Int) (rec_solid_Bounds_L1 : Int → Rect → Option Rect) (v8 : Rect) (x11 : Rect) : Option Rect :=
 rec_solid_Bounds_L1 (w64 (x4 + 1)) (Rect.mk (Span.mk (imin x11.X.A v8.X.A) (imax x11.X.B v8.X.B)) (Span.mk (imin x11.Y.A v8.Y.A) (imax x11.Y.B v8.Y.B)))
def KD (v2 : (List qA)) : Nat → Int → Rect → Option Rect
 | 0, _, _ => none
 | n + 1, x4, x5 =>
 bif decide (x4 < ((v2.length : Nat) : Int)) then
 bif inb x4 v2.length then
 (SS ((v2.getD x4.toNat default).Sec)).bind fun v8 =>
 bif x4 == 0 then
 MA x4 (KD v2 n) v8 v8
 else
 MA x4 (KD v2 n) v8 x5
 else none
 else
 some x5
def qAz (a1 : List qA) : Option Rect :=
 (YC a1).bind fun v2 =>
 (KD v2 FUEL 0 (Rect.mk (Span.mk 0 0) (Span.mk 0 0))).bind fun o13 =>
 some o13
/- sawmill/plan.Frame -/
def MB (a1 : List qA) : Option Rect :=
 (qAz a1).bind fun v2 =>
 some v2
/- sawmill/plan.tree -/
def qAQ (x3 : Int) (rec_plan_tree_L1 : Int → Int → Option (Int ⊕ Unit)) (x9 : Int) : Option (Int ⊕ Unit) :=
 bif x9 == 0 then
 some (Sum.inl (w64 (x3 + 1)))
 else
 rec_plan_tree_L1 x9 (w64 (x3 + 1))
def qAn (x2 : Int) (x3 : Int) (rec_plan_tree_L1 : Int → Int → Option (Int ⊕ Unit)) (x7 : Bool) : Option (Int ⊕ Unit) :=
 bif x7 then
 qAQ x3 rec_plan_tree_L1 (w64 ((w64 (x2 - 1)) + 2))
 else
 qAQ x3 rec_plan_tree_L1 (w64 (x2 - 1))
def PI (a1 : List Node) : Nat → Int → Int → Option (Int ⊕ Unit)
 | 0, _, _ => none
 | n + 1, x2, x3 =>
 bif decide (x3 < ((a1.length : Nat) : Int)) then
 bif inb x3 a1.length then
 bif ((a1.getD x3.toNat default).Kind) == 2 then
 qAn x2 x3 (PI a1 n) true
 else
 qAn x2 x3 (PI a1 n) (((a1.getD x3.toNat default).Kind) == 3)
 else none
 else
 some (Sum.inr ())
def qEu (a1 : List Node) : Option Int :=
 (PI a1 FUEL 1 0).bind fun u13 => Sum.elim (fun v14 => some v14) (fun o11 =>
 some ((a1.length : Nat) : Int)) u13
/- slices.Equal[[]sawmill/api.Node,sawmill/api.Node] -/
def PR (a1 : List Node) (a2 : List Node) : Nat → Int → Option (Bool ⊕ Unit)
 | 0, _ => none
 | n + 1, x4 =>
 bif decide (x4 < ((a1.length : Nat) : Int)) then
 bif inb x4 a1.length then
 bif inb x4 a2.length then
 bif !((((a1.getD x4.toNat default).Kind) == ((a2.getD x4.toNat default).Kind)) && ((((a1.getD x4.toNat default).At) == ((a2.getD x4.toNat default).At)) && true)) then
 some (Sum.inl false)
 else
 (PR a1 a2 n) (w64 (x4 + 1))
 else none
 else none
 else
 some (Sum.inr ())
def GV (a1 : List Node) (a2 : List Node) : Option Bool :=
 bif ((a1.length : Nat) : Int) != ((a2.length : Nat) : Int) then
 some false
 else
 (PR a1 a2 FUEL 0).bind fun u11 => Sum.elim (fun v12 => some v12) (fun o9 =>
 some true) u11
/- sawmill/plan.row -/
def qCq (l11 : List Node) (rec_plan_row_L2 : (List Span) → (List (List Node)) → Int → (List Node) → Option ((List Span) × (List (List Node)) × Int × (List Node))) (v18 : Int) (l27 : List Span) (l28 : List (List Node)) (x29 : Int) : Option ((List Span) × (List (List Node)) × Int × (List Node)) :=
 bif slOk v18 (((l11.drop ((1 : Int).toNat)).length : Nat) : Int) (l11.drop ((1 : Int).toNat)).length then
 rec_plan_row_L2 l27 l28 x29 ((l11.drop ((1 : Int).toNat)).drop v18.toNat)
 else none
def qCn (a3 : Int) (x7 : Span) (l8 : List Span) (l9 : List (List Node)) (x10 : Int) (l11 : List Node) (rec_plan_row_L2 : (List Span) → (List (List Node)) → Int → (List Node) → Option ((List Span) × (List (List Node)) × Int × (List Node))) (v18 : Int) (x22 : Bool) : Option ((List Span) × (List (List Node)) × Int × (List Node)) :=
 bif x22 then
 qCq l11 rec_plan_row_L2 v18 l8 l9 (w64 (((l11.getD (0 : Int).toNat default).At) + a3))
 else
 bif room (l8.length + 1) 16 then
 bif slOk 0 v18 (l11.drop ((1 : Int).toNat)).length then
 bif room (l9.length + 1) 24 then
 qCq l11 rec_plan_row_L2 v18 (l8 ++ ([(Span.mk x10 ((l11.getD (0 : Int).toNat default).At))] : List Span)) (l9 ++ ([((l11.drop ((1 : Int).toNat)).take v18.toNat)] : List (List Node))) (imin (w64 (((l11.getD (0 : Int).toNat default).At) + a3)) x7.B)
 else none
 else none
 else none
def qCx (a3 : Int) (x7 : Span) (l8 : List Span) (l9 : List (List Node)) (x10 : Int) (l11 : List Node) (rec_plan_row_L2 : (List Span) → (List (List Node)) → Int → (List Node) → Option ((List Span) × (List (List Node)) × Int × (List Node))) (x14 : Bool) : Option ((List Span) × (List (List Node)) × Int × (List Node)) :=
 bif x14 then
 bif inb 0 l11.length then
 bif slOk 1 ((l11.length : Nat) : Int) l11.length then
 (qEu (l11.drop ((1 : Int).toNat))).bind fun v18 =>
 bif v18 == 1 then
 bif inb 0 ((l11.drop ((1 : Int).toNat)).length) then
 qCn a3 x7 l8 l9 x10 l11 rec_plan_row_L2 v18 ((((l11.drop ((1 : Int).toNat)).getD (0 : Int).toNat default).Kind) == 0)
 else none
 else
 qCn a3 x7 l8 l9 x10 l11 rec_plan_row_L2 v18 false
 else none
 else none
 else
 some (l8, l9, x10, l11)
def KV (a2 : Int) (a3 : Int) (x7 : Span) : Nat → (List Span) → (List (List Node)) → Int → (List Node) → Option ((List Span) × (List (List Node)) × Int × (List Node))
 | 0, _, _, _, _ => none
 | n + 1, l8, l9, x10, l11 =>
 bif decide (((l11.length : Nat) : Int) > 0) then
 bif inb 0 l11.length then
 qCx a3 x7 l8 l9 x10 l11 (KV a2 a3 x7 n) (((l11.getD (0 : Int).toNat default).Kind) == a2)
 else none
 else
 qCx a3 x7 l8 l9 x10 l11 (KV a2 a3 x7 n) false
def qCy (l43 : List Span) (l44 : List (List Node)) (x50 : Bool) : Option ((List Span) × (List (List Node)) × Bool) :=
 bif x50 then
 some (([] : List Span), ([] : List (List Node)), false)
 else
 some (l43, l44, true)
def qCp (a1 : Rect) (a2 : Int) (a3 : Int) (a4 : List Node) (l43 : List Span) (l44 : List (List Node)) : Option ((List Span) × (List (List Node)) × Bool) :=
 (WB a1 a2 a3 l43 l44).bind fun v45 =>
 bif v45.2 != 0 then
 qCy l43 l44 true
 else
 (GV a4 v45.1).bind fun v48 =>
 qCy l43 l44 (!v48)
def qCd (a1 : Rect) (a2 : Int) (a3 : Int) (a4 : List Node) (x7 : Span) (o35 : (List Span) × (List (List Node)) × Int × (List Node)) (x39 : Bool) : Option ((List Span) × (List (List Node)) × Bool) :=
 bif x39 then
 bif room (o35.1.length + 1) 16 then
 bif room (o35.2.1.length + 1) 24 then
 qCp a1 a2 a3 a4 (o35.1 ++ ([(Span.mk o35.2.2.1 x7.B)] : List Span)) (o35.2.1 ++ ([o35.2.2.2] : List (List Node)))
 else none
 else none
 else
 qCp a1 a2 a3 a4 o35.1 o35.2.1
def qCo (a1 : Rect) (a2 : Int) (a3 : Int) (a4 : List Node) (x7 : Span) : Option ((List Span) × (List (List Node)) × Bool) :=
 (KV a2 a3 x7 FUEL ([] : List Span) ([] : List (List Node)) x7.A a4).bind fun o35 =>
 bif decide (((o35.2.2.2.length : Nat) : Int) > 0) then
 bif inb 0 o35.2.2.2.length then
 qCd a1 a2 a3 a4 x7 o35 (((o35.2.2.2.getD (0 : Int).toNat default).Kind) != 0)
 else none
 else
 qCd a1 a2 a3 a4 x7 o35 false
def qDs (a1 : Rect) (a2 : Int) (a3 : Int) (a4 : List Node) : Option ((List Span) × (List (List Node)) × Bool) :=
 bif decide (((a4.length : Nat) : Int) > 127) then
 some (([] : List Span), ([] : List (List Node)), false)
 else
 bif a2 == 3 then
 qCo a1 a2 a3 a4 a1.Y
 else
 qCo a1 a2 a3 a4 a1.X
/- slices.Index[[]int,int] -/
def TJ (a1 : List Int) (a2 : Int) : Nat → Int → Option (Int ⊕ Unit)
 | 0, _ => none
 | n + 1, x3 =>
 bif decide (x3 < ((a1.length : Nat) : Int)) then
 bif inb x3 a1.length then
 bif a2 == (a1.getD x3.toNat default) then
 some (Sum.inl x3)
 else
 (TJ a1 a2 n) (w64 (x3 + 1))
 else none
 else
 some (Sum.inr ())
def BS (a1 : List Int) (a2 : Int) : Option Int :=
 (TJ a1 a2 FUEL 0).bind fun u9 => Sum.elim (fun v10 => some v10) (fun o7 =>
 some (-1)) u9
/- slices.Contains[[]int,int] -/
def TN (a1 : List Int) (a2 : Int) : Option Bool :=
 (BS a1 a2).bind fun v3 =>
 some (decide (v3 ≥ 0))
/- sawmill/plan.isStrip -/
def VK (x23 : Int) (rec_plan_isStrip_L4 : Bool → Int → Option Bool) (x31 : Bool) : Option Bool :=
 rec_plan_isStrip_L4 x31 (w64 (x23 + 1))
def WV (v5 : (List Span) × (List (List Node)) × Bool) (v10 : (List Int) × (List Int)) (x12 : Int) : Nat → Bool → Int → Option Bool
 | 0, _, _ => none
 | n + 1, x22, x23 =>
 bif decide (x23 < ((v10.1.length : Nat) : Int)) then
 bif inb x23 v10.1.length then
 bif x22 then
 VK x23 (WV v5 v10 x12 n) true
 else
 bif (v10.1.getD x23.toNat default) == (w64 (((v5.1.getD x12.toNat default).B) - ((v5.1.getD x12.toNat default).A))) then
 bif inb x23 v10.2.length then
 bif inb x12 v5.2.1.length then
 bif inb 0 ((v5.2.1.getD x12.toNat default).length) then
 VK x23 (WV v5 v10 x12 n) ((v10.2.getD x23.toNat default) == (((v5.2.1.getD x12.toNat default).getD (0 : Int).toNat default).At))
 else none
 else none
 else none
 else
 VK x23 (WV v5 v10 x12 n) false
 else none
 else
 some x22
def VI (v5 : (List Span) × (List (List Node)) × Bool) (v10 : (List Int) × (List Int)) (x12 : Int) (rec_plan_isStrip_L2 : Int → Option (Bool ⊕ Unit)) (x20 : Bool) : Option (Bool ⊕ Unit) :=
 bif x20 then
 some (Sum.inl false)
 else
 (WV v5 v10 x12 FUEL false 0).bind fun o33 =>
 bif !o33 then
 some (Sum.inl false)
 else
 rec_plan_isStrip_L2 (w64 (x12 + 1))
def JF (a1 : Rect) (a3 : Saw) (v5 : (List Span) × (List (List Node)) × Bool) (v10 : (List Int) × (List Int)) : Nat → Int → Option (Bool ⊕ Unit)
 | 0, _ => none
 | n + 1, x12 =>
 bif decide (x12 < ((v5.1.length : Nat) : Int)) then
 bif inb x12 v5.1.length then
 bif nz a3.Pitch then
 bif (Int.tmod (w64 (((v5.1.getD x12.toNat default).A) - a1.X.A)) a3.Pitch) != 0 then
 VI v5 v10 x12 (JF a1 a3 v5 v10 n) true
 else
 bif inb x12 v5.2.1.length then
 bif (((v5.2.1.getD x12.toNat default).length : Nat) : Int) != 1 then
 VI v5 v10 x12 (JF a1 a3 v5 v10 n) true
 else
 bif inb 0 ((v5.2.1.getD x12.toNat default).length) then
 VI v5 v10 x12 (JF a1 a3 v5 v10 n) ((((v5.2.1.getD x12.toNat default).getD (0 : Int).toNat default).Kind) != 1)
 else none
 else none
 else none
 else none
 else
 some (Sum.inr ())
def LX (a1 : Rect) (a2 : List Product) (a3 : Saw) (v5 : (List Span) × (List (List Node)) × Bool) (x8 : Bool) : Option Bool :=
 bif x8 then
 some false
 else
 (TV a2 (w64 (a1.Y.B - a1.Y.A))).bind fun v10 =>
 (JF a1 a3 v5 v10 FUEL 0).bind fun u38 => Sum.elim (fun v39 => some v39) (fun o36 =>
 some true) u38
def qAu (a1 : Rect) (a2 : List Product) (a3 : Saw) (a4 : List Node) : Option Bool :=
 (qDs a1 2 a3.Kerf a4).bind fun v5 =>
 bif !v5.2.2 then
 LX a1 a2 a3 v5 true
 else
 LX a1 a2 a3 v5 (((v5.1.length : Nat) : Int) == 0)
/- sawmill/plan.Member -/
def SU (a1 : Pattern) (a2 : List Product) (a3 : Saw) (v14 : (List Span) × (List (List Node)) × Bool) (x19 : Int) (rec_plan_Member_L2 : Int → Option (Bool ⊕ Unit)) (x26 : Bool) : Option (Bool ⊕ Unit) :=
 bif x26 then
 some (Sum.inl false)
 else
 bif inb x19 v14.2.1.length then
 (qAu (Rect.mk a1.Frame.X (v14.1.getD x19.toNat default)) a2 a3 (v14.2.1.getD x19.toNat default)).bind fun v29 =>
 bif !v29 then
 some (Sum.inl false)
 else
 rec_plan_Member_L2 (w64 (x19 + 1))
 else none
def PD (a1 : Pattern) (a2 : List Product) (a3 : Saw) (v14 : (List Span) × (List (List Node)) × Bool) (v17 : (List Int)) : Nat → Int → Option (Bool ⊕ Unit)
 | 0, _ => none
 | n + 1, x19 =>
 bif decide (x19 < ((v14.1.length : Nat) : Int)) then
 bif inb x19 v14.1.length then
 bif nz a3.Pitch then
 bif (Int.tmod (w64 (((v14.1.getD x19.toNat default).A) - a1.Frame.Y.A)) a3.Pitch) != 0 then
 SU a1 a2 a3 v14 x19 (PD a1 a2 a3 v14 v17 n) true
 else
 (TN v17 (w64 (((v14.1.getD x19.toNat default).B) - ((v14.1.getD x19.toNat default).A)))).bind fun v24 =>
 SU a1 a2 a3 v14 x19 (PD a1 a2 a3 v14 v17 n) (!v24)
 else none
 else none
 else
 some (Sum.inr ())
def BC (a1 : Pattern) (a2 : List Product) (a3 : Saw) (x12 : Bool) : Option Bool :=
 bif x12 then
 some false
 else
 (qDs a1.Frame 3 a3.Kerf a1.Nodes).bind fun v14 =>
 bif !v14.2.2 then
 some false
 else
 (WN a2).bind fun v17 =>
 (PD a1 a2 a3 v14 v17 FUEL 0).bind fun u34 => Sum.elim (fun v35 => some v35) (fun o32 =>
 some true) u34
def NT (a1 : Pattern) (a2 : List Product) (a3 : Saw) : Option Bool :=
 (wY a2).bind fun v4 =>
 bif v4 != 0 then
 BC a1 a2 a3 true
 else
 (JZ a3 (Rates.mk 0 0 0)).bind fun v7 =>
 bif v7 != 0 then
 BC a1 a2 a3 true
 else
 (WW a1.Frame).bind fun v10 =>
 BC a1 a2 a3 (v10 != 0)
/- sawmill/sawmilllaw24.awake -/
def qS (x28 : Bool) : Option Bool :=
 some x28
def QF : Option Bool :=
 (YT 97).bind fun v1 =>
 (jN (Law24_Given.mk v1.Solid v1.Defects v1.Products v1.Frame v1.Saw v1.Rates)).bind fun v3 =>
 (YT 96).bind fun v5 =>
 (jN (Law24_Given.mk v5.Solid v5.Defects v5.Products v5.Frame v5.Saw v5.Rates)).bind fun v7 =>
 (WN v1.Products).bind fun v9 =>
 (MB v1.Solid).bind fun v11 =>
 bif v3.2.2 == 0 then
 bif v3.2.1 == 140000000 then
 bif v7.2.2 == 0 then
 bif v7.2.1 == 70000000 then
 bif ((v9.length : Nat) : Int) == 2 then
 bif inb 0 v9.length then
 bif (v9.getD ((0 : Int).toNat) default) == 42 then
 bif inb 1 v9.length then
 bif (v9.getD ((1 : Int).toNat) default) == 105 then
 bif (((v11.X.A == (-100)) && ((v11.X.B == 100) && true)) && (((v11.Y.A == (-100)) && ((v11.Y.B == 100) && true)) && true)) then
 bif ((v3.1.Nodes.length : Nat) : Int) == 9 then
 bif inb 0 v3.1.Nodes.length then
 bif ((((v3.1.Nodes.getD ((0 : Int).toNat) default).Kind) == 3) && ((((v3.1.Nodes.getD ((0 : Int).toNat) default).At) == 42) && true)) then
 (NT (Pattern.mk v3.1.Frame v3.1.Nodes) v1.Products v1.Saw).bind fun v26 =>
 qS v26
 else
 qS false
 else none
 else
 qS false
 else
 qS false
 else
 qS false
 else none
 else
 qS false
 else none
 else
 qS false
 else
 qS false
 else
 qS false
 else
 qS false
 else
 qS false
/- sawmill/sawmillref02.digit -/
def SI (x3 : Bool) : Option Bool :=
 some x3
def qCw (a1 : Int) : Option Bool :=
 bif decide (a1 ≥ 48) then
 SI (decide (a1 ≤ 57))
 else
 SI false
/- sawmill/sawmillref02.IsName -/
def KF (x5 : Int) (rec_ref02_IsName_L2 : Int → Option (Bool ⊕ Unit)) (x16 : Bool) : Option (Bool ⊕ Unit) :=
 bif x16 then
 some (Sum.inl false)
 else
 rec_ref02_IsName_L2 (w64 (x5 + 1))
def LV (a1 : ByteArray) (x5 : Int) (rec_ref02_IsName_L2 : Int → Option (Bool ⊕ Unit)) (x9 : Bool) : Option (Bool ⊕ Unit) :=
 bif !x9 then
 bif x5 == 0 then
 KF x5 rec_ref02_IsName_L2 true
 else
 bif inb x5 a1.size then
 bif (strAt a1 x5.toNat) != 95 then
 (qCw (strAt a1 x5.toNat)).bind fun v14 =>
 KF x5 rec_ref02_IsName_L2 (!v14)
 else
 KF x5 rec_ref02_IsName_L2 false
 else none
 else
 KF x5 rec_ref02_IsName_L2 false
def QM (a1 : ByteArray) : Nat → Int → Option (Bool ⊕ Unit)
 | 0, _ => none
 | n + 1, x5 =>
 bif decide (x5 < ((a1.size : Nat) : Int)) then
 bif inb x5 a1.size then
 bif decide ((strAt a1 x5.toNat) ≥ 97) then
 LV a1 x5 (QM a1 n) (decide ((strAt a1 x5.toNat) ≤ 122))
 else
 LV a1 x5 (QM a1 n) false
 else none
 else
 some (Sum.inr ())
def HO (a1 : ByteArray) (x3 : Bool) : Option Bool :=
 bif x3 then
 some false
 else
 (QM a1 FUEL 0).bind fun u20 => Sum.elim (fun v21 => some v21) (fun o18 =>
 some true) u20
def qA8 (a1 : ByteArray) : Option Bool :=
 bif decide (((a1.size : Nat) : Int) < 1) then
 HO a1 true
 else
 HO a1 (decide (((a1.size : Nat) : Int) > 16))
/- sawmill/sawmillref19.sized -/
def RB (x5 : Bool) : Option Bool :=
 some x5
def qFS (a1 : Product) : Option Bool :=
 bif decide (a1.Thick ≥ 1) then
 bif decide (a1.Thick ≤ 600) then
 bif decide (a1.Width ≥ 1) then
 RB (decide (a1.Width ≤ 600))
 else
 RB false
 else
 RB false
 else
 RB false
/- sawmill/sawmillref19.Green -/
def BB (a1 : Product) (x6 : Bool) : Option (Int × Int) :=
 bif x6 then
 some (0, 0)
 else
 some (w64 (Int.tdiv (w64 ((w64 (a1.Thick * (w64 (1000 + a1.Allow)))) + 999)) 1000), w64 (Int.tdiv (w64 ((w64 (a1.Width * (w64 (1000 + a1.Allow)))) + 999)) 1000))
def EY (a1 : Product) : Option (Int × Int) :=
 (qFS a1).bind fun v2 =>
 bif !v2 then
 BB a1 true
 else
 bif decide (a1.Allow < 0) then
 BB a1 true
 else
 BB a1 (decide (a1.Allow > 200))
/- sawmill/sawmillref19.checkLengths -/
def PO (x5 : Int) (rec_ref19_checkLengths_L1 : Int → Option (Int ⊕ Unit)) (x14 : Bool) : Option (Int ⊕ Unit) :=
 bif x14 then
 some (Sum.inl 11)
 else
 rec_ref19_checkLengths_L1 (w64 (x5 + 1))
def RA (a1 : Product) (x5 : Int) (rec_ref19_checkLengths_L1 : Int → Option (Int ⊕ Unit)) (x9 : Bool) : Option (Int ⊕ Unit) :=
 bif x9 then
 some (Sum.inl 9)
 else
 bif decide (x5 > 0) then
 bif inb x5 a1.Lengths.length then
 bif inb (w64 (x5 - 1)) a1.Lengths.length then
 PO x5 rec_ref19_checkLengths_L1 (decide ((a1.Lengths.getD x5.toNat default) ≤ (a1.Lengths.getD (w64 (x5 - 1)).toNat default)))
 else none
 else none
 else
 PO x5 rec_ref19_checkLengths_L1 false
def wQ (a1 : Product) : Nat → Int → Option (Int ⊕ Unit)
 | 0, _ => none
 | n + 1, x5 =>
 bif decide (x5 < ((a1.Lengths.length : Nat) : Int)) then
 bif inb x5 a1.Lengths.length then
 bif decide ((a1.Lengths.getD x5.toNat default) < 100) then
 RA a1 x5 (wQ a1 n) true
 else
 RA a1 x5 (wQ a1 n) (decide ((a1.Lengths.getD x5.toNat default) > 20000))
 else none
 else
 some (Sum.inr ())
def PT (x20 : Int) (rec_ref19_checkLengths_L4 : Int → Option (Int ⊕ Unit)) (x24 : Bool) : Option (Int ⊕ Unit) :=
 bif x24 then
 some (Sum.inl 9)
 else
 rec_ref19_checkLengths_L4 (w64 (x20 + 1))
def wP (a1 : Product) : Nat → Int → Option (Int ⊕ Unit)
 | 0, _ => none
 | n + 1, x20 =>
 bif decide (x20 < ((a1.Prices.length : Nat) : Int)) then
 bif inb x20 a1.Prices.length then
 bif decide ((a1.Prices.getD x20.toNat default) < 0) then
 PT x20 (wP a1 n) true
 else
 PT x20 (wP a1 n) (decide ((a1.Prices.getD x20.toNat default) > 1000000))
 else none
 else
 some (Sum.inr ())
def GS (a1 : Product) : Option Int :=
 bif ((a1.Lengths.length : Nat) : Int) == 0 then
 some 3
 else
 bif decide (((a1.Lengths.length : Nat) : Int) > 8) then
 some 4
 else
 bif ((a1.Prices.length : Nat) : Int) != ((a1.Lengths.length : Nat) : Int) then
 some 19
 else
 (wQ a1 FUEL 0).bind fun u18 => Sum.elim (fun v19 => some v19) (fun o16 =>
 (wP a1 FUEL 0).bind fun u28 => Sum.elim (fun v29 => some v29) (fun o26 =>
 some 0) u28) u18
/- sawmill/sawmillref19.Check -/
def YN (a1 : List Product) (x3 : Int) : Nat → Int → Option (Int ⊕ Unit)
 | 0, _ => none
 | n + 1, x9 =>
 bif decide (x9 < x3) then
 bif inb x9 a1.length then
 bif strEq ((a1.getD x9.toNat default).Name) ((a1.getD x3.toNat default).Name) then
 some (Sum.inl 7)
 else
 (YN a1 x3 n) (w64 (x9 + 1))
 else none
 else
 some (Sum.inr ())
def jR (a1 : List Product) (x3 : Int) (rec_ref19_Check_L1 : Int → Option (Int ⊕ Unit)) (x24 : Bool) : Option (Int ⊕ Unit) :=
 bif x24 then
 some (Sum.inl 9)
 else
 (EY (a1.getD x3.toNat default)).bind fun v26 =>
 bif decide (v26.2 > 600) then
 some (Sum.inl 9)
 else
 (GS (a1.getD x3.toNat default)).bind fun v29 =>
 bif v29 != 0 then
 some (Sum.inl v29)
 else
 rec_ref19_Check_L1 (w64 (x3 + 1))
def zZ (a1 : List Product) : Nat → Int → Option (Int ⊕ Unit)
 | 0, _ => none
 | n + 1, x3 =>
 bif decide (x3 < ((a1.length : Nat) : Int)) then
 bif inb x3 a1.length then
 (qA8 ((a1.getD x3.toNat default).Name)).bind fun v6 =>
 bif !v6 then
 some (Sum.inl 6)
 else
 (YN a1 x3 FUEL 0).bind fun u15 => Sum.elim (fun v16 => some (Sum.inl v16)) (fun o13 =>
 bif decide (((a1.getD x3.toNat default).Thick) < 5) then
 jR a1 x3 (zZ a1 n) true
 else
 bif decide (((a1.getD x3.toNat default).Thick) > 300) then
 jR a1 x3 (zZ a1 n) true
 else
 bif decide (((a1.getD x3.toNat default).Width) < ((a1.getD x3.toNat default).Thick)) then
 jR a1 x3 (zZ a1 n) true
 else
 bif decide (((a1.getD x3.toNat default).Width) > 600) then
 jR a1 x3 (zZ a1 n) true
 else
 bif decide (((a1.getD x3.toNat default).Allow) < 0) then
 jR a1 x3 (zZ a1 n) true
 else
 bif decide (((a1.getD x3.toNat default).Allow) > 200) then
 jR a1 x3 (zZ a1 n) true
 else
 bif decide (((a1.getD x3.toNat default).Wane) < 0) then
 jR a1 x3 (zZ a1 n) true
 else
 jR a1 x3 (zZ a1 n) (decide (((a1.getD x3.toNat default).Wane) > 1000))) u15
 else none
 else
 some (Sum.inr ())
def qCb (a1 : List Product) : Option Int :=
 bif decide (((a1.length : Nat) : Int) > 16) then
 some 4
 else
 (zZ a1 FUEL 0).bind fun u34 => Sum.elim (fun v35 => some v35) (fun o32 =>
 some 0) u34
/- sawmill/sawmillref10.beyond -/
def MR (x3 : Bool) : Option Bool :=
 some x3
def MV (a1 : Int) : Option Bool :=
 bif decide (a1 < (-600)) then
 MR true
 else
 MR (decide (a1 > 600))
/- sawmill/sawmillref10.empty -/
def EZ (a1 : Span) : Option Bool :=
 some (decide (a1.A ≥ a1.B))
/- sawmill/sawmillref10.Check -/
def ED (x6 : Int) (rec_ref10_Check_L2 : Int → Option (Int ⊕ Unit)) (x14 : Bool) : Option (Int ⊕ Unit) :=
 bif x14 then
 some (Sum.inl 9)
 else
 rec_ref10_Check_L2 (w64 (x6 + 1))
def ZO (a1 : qJ) : Nat → Int → Option (Int ⊕ Unit)
 | 0, _ => none
 | n + 1, x6 =>
 bif decide (x6 < ((a1.Rows.length : Nat) : Int)) then
 bif inb x6 a1.Rows.length then
 (MV ((a1.Rows.getD x6.toNat default).A)).bind fun v9 =>
 bif v9 then
 ED x6 (ZO a1 n) true
 else
 (MV ((a1.Rows.getD x6.toNat default).B)).bind fun v12 =>
 ED x6 (ZO a1 n) v12
 else none
 else
 some (Sum.inr ())
def SP (x31 : Int) (rec_ref10_Check_L5 : Int → Option (Int ⊕ Unit)) (x37 : Bool) : Option (Int ⊕ Unit) :=
 bif x37 then
 some (Sum.inl 19)
 else
 rec_ref10_Check_L5 (w64 (x31 + 1))
def WA (a1 : qJ) : Nat → Int → Option (Int ⊕ Unit)
 | 0, _ => none
 | n + 1, x31 =>
 bif decide (x31 < ((a1.Rows.length : Nat) : Int)) then
 bif inb x31 a1.Rows.length then
 (EZ (a1.Rows.getD x31.toNat default)).bind fun v34 =>
 bif v34 then
 SP x31 (WA a1 n) (!((((a1.Rows.getD x31.toNat default).A) == 0) && ((((a1.Rows.getD x31.toNat default).B) == 0) && true)))
 else
 SP x31 (WA a1 n) false
 else none
 else
 some (Sum.inr ())
def EP (a1 : qJ) (x29 : Bool) : Option Int :=
 bif x29 then
 some 19
 else
 (WA a1 FUEL 0).bind fun u41 => Sum.elim (fun v42 => some v42) (fun o39 =>
 some 0) u41
def ST (a1 : qJ) (x4 : Bool) : Option Int :=
 bif x4 then
 some 9
 else
 (ZO a1 FUEL 0).bind fun u18 => Sum.elim (fun v19 => some v19) (fun o16 =>
 bif ((a1.Rows.length : Nat) : Int) == 0 then
 bif a1.Low != 0 then
 some 19
 else
 some 0
 else
 bif inb 0 a1.Rows.length then
 (EZ (a1.Rows.getD (0 : Int).toNat default)).bind fun v23 =>
 bif v23 then
 EP a1 true
 else
 bif inb (w64 (((a1.Rows.length : Nat) : Int) - 1)) a1.Rows.length then
 (EZ (a1.Rows.getD (w64 (((a1.Rows.length : Nat) : Int) - 1)).toNat default)).bind fun v27 =>
 EP a1 v27
 else none
 else none) u18
def qCt (a1 : qJ) : Option Int :=
 bif decide (((a1.Rows.length : Nat) : Int) > 120) then
 some 4
 else
 bif decide (a1.Low < (-60)) then
 ST a1 true
 else
 ST a1 (decide (a1.Low > (w64 (60 - ((a1.Rows.length : Nat) : Int)))))
/- sawmill/sawmillref11.Check -/
def SJ (a1 : List qA) (x4 : Int) (x5 : Int) (rec_ref11_Check_L1 : Int → Int → Option (Int ⊕ Unit)) (x13 : Bool) : Option (Int ⊕ Unit) :=
 bif x13 then
 some (Sum.inl 9)
 else
 rec_ref11_Check_L1 (w64 (x4 + ((a1.getD x5.toNat default).Len))) (w64 (x5 + 1))
def ZW (a1 : List qA) : Nat → Int → Int → Option (Int ⊕ Unit)
 | 0, _, _ => none
 | n + 1, x4, x5 =>
 bif decide (x5 < ((a1.length : Nat) : Int)) then
 bif inb x5 a1.length then
 (qCt ((a1.getD x5.toNat default).Sec)).bind fun v8 =>
 bif v8 != 0 then
 some (Sum.inl v8)
 else
 bif (((((a1.getD x5.toNat default).Sec).Rows).length : Nat) : Int) == 0 then
 some (Sum.inl 18)
 else
 bif decide (((a1.getD x5.toNat default).Len) < 1) then
 SJ a1 x4 x5 (ZW a1 n) true
 else
 SJ a1 x4 x5 (ZW a1 n) (decide (((a1.getD x5.toNat default).Len) > (w64 (20000 - x4))))
 else none
 else
 some (Sum.inr ())
def qCh (a1 : List qA) : Option Int :=
 bif ((a1.length : Nat) : Int) == 0 then
 some 3
 else
 bif decide (((a1.length : Nat) : Int) > 24) then
 some 4
 else
 (ZW a1 FUEL 0 0).bind fun u17 => Sum.elim (fun v18 => some v18) (fun o15 =>
 some 0) u17
/- sawmill/sawmilllaw24.wide -/
def UA (a1 : Span) (a2 : Int) (x5 : Bool) : Option Int :=
 bif x5 then
 some 1
 else
 bif nz a2 then
 some (w64 ((w64 (Int.tdiv (w64 (a1.B - a1.A)) a2)) + 1))
 else none
def TC (a1 : Span) (a2 : Int) : Option Int :=
 bif decide (a1.A < (-600)) then
 UA a1 a2 true
 else
 bif decide (a1.B > 600) then
 UA a1 a2 true
 else
 UA a1 a2 (decide (a2 < 1))
/- sawmill/sawmilllaw24.light -/
def PX (a1 : Law24_Given) (x15 : Bool) : Option Bool :=
 bif x15 then
 some false
 else
 (TC a1.Frame.X a1.Saw.Pitch).bind fun v17 =>
 (TC a1.Frame.Y a1.Saw.Pitch).bind fun v19 =>
 some (decide ((w64 (v17 * v19)) ≤ 300))
def ZV (a1 : Law24_Given) (x9 : Bool) : Option Bool :=
 bif x9 then
 some false
 else
 bif decide (a1.Saw.Step ≥ 1) then
 (yH a1.Solid).bind fun v12 =>
 bif nz a1.Saw.Step then
 PX a1 (decide ((w64 (Int.tdiv v12 a1.Saw.Step)) > 30))
 else none
 else
 PX a1 false
def YB (a1 : Law24_Given) : Option Bool :=
 (NQ a1.Solid).bind fun v2 =>
 bif !v2 then
 ZV a1 true
 else
 bif decide (((a1.Defects.length : Nat) : Int) > 70) then
 ZV a1 true
 else
 (IT a1.Products).bind fun v6 =>
 bif !v6 then
 ZV a1 true
 else
 ZV a1 (decide (((a1.Products.length : Nat) : Int) > 4))
/- sawmill/sawmillref23.Sizes -/
def BA (x8 : Int) (rec_ref23_Sizes_L1 : (List Int) → (List Int) → Int → Option ((List Int) × (List Int))) (l19 : List Int) (l20 : List Int) : Option ((List Int) × (List Int)) :=
 rec_ref23_Sizes_L1 l19 l20 (w64 (x8 + 1))
def yV (a1 : List Product) (a2 : Int) : Nat → (List Int) → (List Int) → Int → Option ((List Int) × (List Int))
 | 0, _, _, _ => none
 | n + 1, l6, l7, x8 =>
 bif decide (x8 < ((a1.length : Nat) : Int)) then
 bif inb x8 a1.length then
 (EY (a1.getD x8.toNat default)).bind fun v11 =>
 bif v11.1 == a2 then
 bif room (l6.length + 1) 8 then
 bif room (l7.length + 1) 8 then
 BA x8 (yV a1 a2 n) (l6 ++ ([v11.2] : List Int)) (l7 ++ ([x8] : List Int))
 else none
 else none
 else
 bif v11.2 == a2 then
 bif room (l6.length + 1) 8 then
 bif room (l7.length + 1) 8 then
 BA x8 (yV a1 a2 n) (l6 ++ ([v11.1] : List Int)) (l7 ++ ([x8] : List Int))
 else none
 else none
 else
 BA x8 (yV a1 a2 n) l6 l7
 else none
 else
 some (l6, l7)
def qF4 (a1 : List Product) (a2 : Int) : Option ((List Int) × (List Int)) :=
 (qCb a1).bind fun v3 =>
 bif v3 != 0 then
 some (([] : List Int), ([] : List Int))
 else
 (yV a1 a2 FUEL ([] : List Int) ([] : List Int) 0).bind fun o23 =>
 some (o23.1, o23.2)
/- sawmill/sawmillref11.Length -/
def WZ (a1 : List qA) : Nat → Int → Int → Option Int
 | 0, _, _ => none
 | n + 1, x5, x6 =>
 bif decide (x6 < ((a1.length : Nat) : Int)) then
 bif inb x6 a1.length then
 (WZ a1 n) (w64 (x5 + ((a1.getD x6.toNat default).Len))) (w64 (x6 + 1))
 else none
 else
 some x5
def qEh (a1 : List qA) : Option Int :=
 (qCh a1).bind fun v2 =>
 bif v2 != 0 then
 some 0
 else
 (WZ a1 FUEL 0 0).bind fun o10 =>
 some o10
/- sawmill/sawmilllaw24.short -/
def NU (a1 : Law24_Given) : Option Bool :=
 (TC a1.Frame.X a1.Saw.Pitch).bind fun v2 =>
 some (decide (v2 ≤ 31))
/- sawmill/sawmilllaw24.PlanMore -/
def wE (x34 : Bool) : Option Bool :=
 some x34
def NA (a1 : Law24_Given) (a2 : Product) (x17 : Bool) : Option Bool :=
 bif x17 then
 (QF).bind fun v19 =>
 some v19
 else
 (jN a1).bind fun v21 =>
 (jN (Law24_Given.mk a1.Solid a1.Defects ((([] : List Product) ++ a1.Products) ++ ([a2] : List Product)) a1.Frame a1.Saw a1.Rates)).bind fun v23 =>
 bif v21.2.2 != 0 then
 (QF).bind fun v26 =>
 wE v26
 else
 bif v23.2.2 != 0 then
 (QF).bind fun v29 =>
 wE v29
 else
 bif decide (v23.2.1 ≥ v21.2.1) then
 (QF).bind fun v32 =>
 wE v32
 else
 wE false
def ND (a1 : Law24_Given) (a2 : Product) (x6 : Bool) : Option Bool :=
 bif x6 then
 (QF).bind fun v8 =>
 some v8
 else
 bif room (0 + a1.Products.length) 96 then
 bif room ((0 + a1.Products.length) + 1) 96 then
 (YB a1).bind fun v12 =>
 bif !v12 then
 NA a1 a2 true
 else
 (YB (Law24_Given.mk a1.Solid a1.Defects ((([] : List Product) ++ a1.Products) ++ ([a2] : List Product)) a1.Frame a1.Saw a1.Rates)).bind fun v15 =>
 NA a1 a2 (!v15)
 else none
 else none
def DU (a1 : Law24_Given) (a2 : Product) : Option Bool :=
 bif decide (((a1.Products.length : Nat) : Int) > 3) then
 ND a1 a2 true
 else
 (NU a1).bind fun v4 =>
 ND a1 a2 (!v4)
/- sawmill/pattern.places -/
def yZ (a1 : Pattern) (a2 : Int) : Option (Pattern × Int) :=
 some (a1, a2)
/- sawmill/pattern.checkNode -/
def JQ : Option Int :=
 some 0
def RP (x15 : Bool) : Option Int :=
 bif x15 then
 some 20
 else
 JQ
def jU (a1 : Node) (a2 : Pattern_place) (x6 : Bool) : Option Int :=
 bif x6 then
 some 10
 else
 bif decide (a2.level > 64) then
 some 28
 else
 (wF a1.Kind).bind fun v9 =>
 bif v9 then
 (ZA a2.rect a1.Kind).bind fun v12 =>
 bif decide (a1.At ≤ v12.A) then
 RP true
 else
 RP (decide (a1.At ≥ v12.B))
 else
 JQ
def PA (a1 : Node) (a2 : Pattern_place) : Option Int :=
 bif decide (a1.Kind < 0) then
 jU a1 a2 true
 else
 bif decide (a1.Kind > 3) then
 jU a1 a2 true
 else
 bif a1.Kind == 0 then
 jU a1 a2 (a1.At != 0)
 else
 jU a1 a2 false
/- sawmill/pattern.Check$1 -/
def yY (x18 : Bool) : Option Int :=
 bif x18 then
 some 20
 else
 some 0
def WP (a1 : Rect) (a2 : Int) (a3 : List Product) (x5 : Bool) : Option Int :=
 bif x5 then
 some 8
 else
 bif inb a2 a3.length then
 (yP (a3.getD a2.toNat default)).bind fun v8 =>
 (JJ a1.X).bind fun v10 =>
 (JJ a1.Y).bind fun v12 =>
 bif v10 != v8.1 then
 bif v10 != v8.2 then
 yY true
 else
 yY (v12 != v8.1)
 else
 bif v12 != v8.2 then
 bif v10 != v8.2 then
 yY true
 else
 yY (v12 != v8.1)
 else
 yY false
 else none
def HR (a1 : Rect) (a2 : Int) (a3 : List Product) : Option Int :=
 bif decide (a2 < 0) then
 WP a1 a2 a3 true
 else
 WP a1 a2 a3 (decide (a2 ≥ ((a3.length : Nat) : Int)))
/- sawmill/pattern.check -/
def KN (a1 : Int) (a5 : Int) (a6 : Int) (x16 : Int) : Option (Nat × Int × Int) :=
 bif x16 != 0 then
 some (1, x16, a6)
 else
 some (0, a5, w64 (a1 + 1))
def KU (a1 : Int) (a2 : Pattern_place) (a3 : Pattern) (a4 : List Product) (a5 : Int) (a6 : Int) (v9 : Int) (x12 : Bool) : Option (Nat × Int × Int) :=
 bif x12 then
 (HR a2.rect ((a3.Nodes.getD a1.toNat default).At) a4).bind fun v14 =>
 KN a1 a5 a6 v14
 else
 KN a1 a5 a6 v9
def ZL (a1 : Int) (a2 : Pattern_place) (a3 : Pattern) (a4 : List Product) (a5 : Int) (a6 : Int) : Option (Nat × Int × Int) :=
 bif decide (a1 ≥ ((a3.Nodes.length : Nat) : Int)) then
 some (1, 3, a6)
 else
 bif inb a1 a3.Nodes.length then
 (PA (a3.Nodes.getD a1.toNat default) a2).bind fun v9 =>
 bif v9 == 0 then
 KU a1 a2 a3 a4 a5 a6 v9 (((a3.Nodes.getD a1.toNat default).Kind) == 1)
 else
 KU a1 a2 a3 a4 a5 a6 v9 false
 else none
/- sawmill/pattern.with -/
def MT (x5 : Rect) : Option Rect :=
 some x5
def GX (a1 : Rect) (a2 : Int) (a3 : Span) : Option Rect :=
 bif a2 == 2 then
 MT (Rect.mk a3 a1.Y)
 else
 MT (Rect.mk a1.X a3)
/- sawmill/pattern.parts -/
def ZC (a1 : Rect) (a2 : Node) (a3 : Int) : Option (Rect × Rect × Rect) :=
 (ZA a1 a2.Kind).bind fun v4 =>
 (GX a1 a2.Kind (Span.mk v4.A a2.At)).bind fun v6 =>
 (GX a1 a2.Kind (Span.mk a2.At (imin (w64 (a2.At + a3)) v4.B))).bind fun v8 =>
 (GX a1 a2.Kind (Span.mk (imin (w64 (a2.At + a3)) v4.B) v4.B)).bind fun v10 =>
 some (v6, v8, v10)
/- sawmill/pattern.places$1 -/
def UP (x8 : Int) (rec_pattern_places_1_L1 : (List Pattern_place) → Int → Int → Int → Option ((Nat × Int × Int) ⊕ (Int × Int))) (l25 : List Pattern_place) (x26 : Int) (x27 : Int) : Option ((Nat × Int × Int) ⊕ (Int × Int)) :=
 rec_pattern_places_1_L1 l25 (w64 (x8 + 1)) x27 x26
def ZM (a1 : Pattern) (a2 : List Product) (a5 : Pattern) (a6 : Int) : Nat → (List Pattern_place) → Int → Int → Int → Option ((Nat × Int × Int) ⊕ (Int × Int))
 | 0, _, _, _, _ => none
 | n + 1, l7, x8, x9, x10 =>
 bif decide (((l7.length : Nat) : Int) > 0) then
 bif inb (w64 (((l7.length : Nat) : Int) - 1)) l7.length then
 bif slOk 0 (w64 (((l7.length : Nat) : Int) - 1)) l7.length then
 (ZL x8 (l7.getD ((w64 (((l7.length : Nat) : Int) - 1)).toNat) default) a1 a2 x9 x10).bind fun v14 =>
 bif !(Nat.beq v14.1 0) then
 some (Sum.inl (v14.1, v14.2.1, v14.2.2))
 else
 bif decide (x8 ≥ ((a5.Nodes.length : Nat) : Int)) then
 some (Sum.inl (0, v14.2.1, v14.2.2))
 else
 bif inb x8 a5.Nodes.length then
 (wF ((a5.Nodes.getD x8.toNat default).Kind)).bind fun v19 =>
 bif v19 then
 (ZC ((l7.getD ((w64 (((l7.length : Nat) : Int) - 1)).toNat) default).rect) (a5.Nodes.getD x8.toNat default) a6).bind fun v22 =>
 bif room ((w64 (((l7.length : Nat) : Int) - 1)).toNat + 2) 40 then
 UP x8 (ZM a1 a2 a5 a6 n) ((l7.take ((w64 (((l7.length : Nat) : Int) - 1)).toNat)) ++ ([(Pattern_place.mk v22.2.2 (w64 (((l7.getD ((w64 (((l7.length : Nat) : Int) - 1)).toNat) default).level) + 1))), (Pattern_place.mk v22.1 (w64 (((l7.getD ((w64 (((l7.length : Nat) : Int) - 1)).toNat) default).level) + 1)))] : List Pattern_place)) v14.2.2 v14.2.1
 else none
 else
 UP x8 (ZM a1 a2 a5 a6 n) (l7.take ((w64 (((l7.length : Nat) : Int) - 1)).toNat)) v14.2.2 v14.2.1
 else none
 else none
 else none
 else
 some (Sum.inr (x10, x9))
def FL (a1 : Pattern) (a2 : List Product) (a3 : Int) (a4 : Int) (a5 : Pattern) (a6 : Int) : Option (Nat × Int × Int) :=
 (ZM a1 a2 a5 a6 FUEL ([(Pattern_place.mk a5.Frame 1)] : List Pattern_place) 0 a3 a4).bind fun u32 => Sum.elim (fun v33 => some v33) (fun o30 =>
 some (0, o30.2, o30.1)) u32
/- sawmill/pattern.check -/
def YS (a1 : Pattern) (a2 : Int) (a3 : List Product) (x8 : Bool) : Option Int :=
 bif x8 then
 some 9
 else
 bif decide (((a1.Nodes.length : Nat) : Int) > 127) then
 some 4
 else
 (yZ a1 a2).bind fun v11 =>
 (FL a1 a3 0 0 v11.1 v11.2).bind fun v13 =>
 bif Nat.beq v13.1 0 then
 bif decide (v13.2.2 < ((a1.Nodes.length : Nat) : Int)) then
 some 4
 else
 some 0
 else
 bif Nat.beq v13.1 1 then
 some v13.2.1
 else
 none
def qD4 (a1 : Pattern) (a2 : Int) (a3 : List Product) : Option Int :=
 (jF a1.Frame).bind fun v4 =>
 bif !v4 then
 some 19
 else
 bif decide (a2 < 0) then
 YS a1 a2 a3 true
 else
 YS a1 a2 a3 (decide (a2 > 20))
/- sawmill/pattern.Check -/
def OK (a1 : Pattern) (a2 : List Product) (a3 : Int) : Option Int :=
 (qD4 a1 a3 a2).bind fun v4 =>
 some v4
/- sawmill/yield.check -/
def EV (a1 : List qA) (a2 : List Defect) (a3 : List Product) (a4 : Pattern) (a5 : Saw) (a6 : Rates) : Option Int :=
 (WE a1).bind fun v7 =>
 bif v7 != 0 then
 some v7
 else
 (WQ a2).bind fun v10 =>
 bif v10 != 0 then
 some v10
 else
 (wY a3).bind fun v13 =>
 bif v13 != 0 then
 some v13
 else
 (JZ a5 a6).bind fun v16 =>
 bif v16 != 0 then
 some v16
 else
 (OK a4 a3 a5.Kerf).bind fun v19 =>
 some v19
/- sawmill/pattern.anyBoard -/
def UR (x4 : Bool) : Option Int :=
 bif x4 then
 some 8
 else
 some 0
def FK (a1 : Rect) (a2 : Int) : Option Int :=
 bif decide (a2 < 0) then
 UR true
 else
 UR (decide (a2 ≥ 16))
/- sawmill/pattern.check -/
def JR (a1 : Int) (a4 : Int) (a5 : Int) (x15 : Int) : Option (Nat × Int × Int) :=
 bif x15 != 0 then
 some (1, x15, a5)
 else
 some (0, a4, w64 (a1 + 1))
def JW (a1 : Int) (a2 : Pattern_place) (a3 : Pattern) (a4 : Int) (a5 : Int) (v8 : Int) (x11 : Bool) : Option (Nat × Int × Int) :=
 bif x11 then
 (FK a2.rect ((a3.Nodes.getD a1.toNat default).At)).bind fun v13 =>
 JR a1 a4 a5 v13
 else
 JR a1 a4 a5 v8
def yL (a1 : Int) (a2 : Pattern_place) (a3 : Pattern) (a4 : Int) (a5 : Int) : Option (Nat × Int × Int) :=
 bif decide (a1 ≥ ((a3.Nodes.length : Nat) : Int)) then
 some (1, 3, a5)
 else
 bif inb a1 a3.Nodes.length then
 (PA (a3.Nodes.getD a1.toNat default) a2).bind fun v8 =>
 bif v8 == 0 then
 JW a1 a2 a3 a4 a5 v8 (((a3.Nodes.getD a1.toNat default).Kind) == 1)
 else
 JW a1 a2 a3 a4 a5 v8 false
 else none
/- sawmill/pattern.places$1 -/
def KO (x7 : Int) (rec_pattern_places_1_s1_L1 : (List Pattern_place) → Int → Int → Int → Option ((Nat × Int × Int) ⊕ (Int × Int))) (l24 : List Pattern_place) (x25 : Int) (x26 : Int) : Option ((Nat × Int × Int) ⊕ (Int × Int)) :=
 rec_pattern_places_1_s1_L1 l24 (w64 (x7 + 1)) x26 x25
def yF (a1 : Pattern) (a4 : Pattern) (a5 : Int) : Nat → (List Pattern_place) → Int → Int → Int → Option ((Nat × Int × Int) ⊕ (Int × Int))
 | 0, _, _, _, _ => none
 | n + 1, l6, x7, x8, x9 =>
 bif decide (((l6.length : Nat) : Int) > 0) then
 bif inb (w64 (((l6.length : Nat) : Int) - 1)) l6.length then
 bif slOk 0 (w64 (((l6.length : Nat) : Int) - 1)) l6.length then
 (yL x7 (l6.getD ((w64 (((l6.length : Nat) : Int) - 1)).toNat) default) a1 x8 x9).bind fun v13 =>
 bif !(Nat.beq v13.1 0) then
 some (Sum.inl (v13.1, v13.2.1, v13.2.2))
 else
 bif decide (x7 ≥ ((a4.Nodes.length : Nat) : Int)) then
 some (Sum.inl (0, v13.2.1, v13.2.2))
 else
 bif inb x7 a4.Nodes.length then
 (wF ((a4.Nodes.getD x7.toNat default).Kind)).bind fun v18 =>
 bif v18 then
 (ZC ((l6.getD ((w64 (((l6.length : Nat) : Int) - 1)).toNat) default).rect) (a4.Nodes.getD x7.toNat default) a5).bind fun v21 =>
 bif room ((w64 (((l6.length : Nat) : Int) - 1)).toNat + 2) 40 then
 KO x7 (yF a1 a4 a5 n) ((l6.take ((w64 (((l6.length : Nat) : Int) - 1)).toNat)) ++ ([(Pattern_place.mk v21.2.2 (w64 (((l6.getD ((w64 (((l6.length : Nat) : Int) - 1)).toNat) default).level) + 1))), (Pattern_place.mk v21.1 (w64 (((l6.getD ((w64 (((l6.length : Nat) : Int) - 1)).toNat) default).level) + 1)))] : List Pattern_place)) v13.2.2 v13.2.1
 else none
 else
 KO x7 (yF a1 a4 a5 n) (l6.take ((w64 (((l6.length : Nat) : Int) - 1)).toNat)) v13.2.2 v13.2.1
 else none
 else none
 else none
 else
 some (Sum.inr (x9, x8))
def UN (a1 : Pattern) (a2 : Int) (a3 : Int) (a4 : Pattern) (a5 : Int) : Option (Nat × Int × Int) :=
 (yF a1 a4 a5 FUEL ([(Pattern_place.mk a4.Frame 1)] : List Pattern_place) 0 a2 a3).bind fun u31 => Sum.elim (fun v32 => some v32) (fun o29 =>
 some (0, o29.2, o29.1)) u31
/- sawmill/pattern.check -/
def UW (a1 : Pattern) (a2 : Int) (x7 : Bool) : Option Int :=
 bif x7 then
 some 9
 else
 bif decide (((a1.Nodes.length : Nat) : Int) > 127) then
 some 4
 else
 (yZ a1 a2).bind fun v10 =>
 (UN a1 0 0 v10.1 v10.2).bind fun v12 =>
 bif Nat.beq v12.1 0 then
 bif decide (v12.2.2 < ((a1.Nodes.length : Nat) : Int)) then
 some 4
 else
 some 0
 else
 bif Nat.beq v12.1 1 then
 some v12.2.1
 else
 none
def TB (a1 : Pattern) (a2 : Int) : Option Int :=
 (jF a1.Frame).bind fun v3 =>
 bif !v3 then
 some 19
 else
 bif decide (a2 < 0) then
 UW a1 a2 true
 else
 UW a1 a2 (decide (a2 > 20))
/- sawmill/pattern.Leaves -/
def QX (a1 : Int) (a2 : Pattern_place) (a3 : Pattern) (a4 : List Leaf) : Option (Nat × (List Leaf)) :=
 bif inb a1 a3.Nodes.length then
 bif ((a3.Nodes.getD a1.toNat default).Kind) == 0 then
 bif room (a4.length + 1) 40 then
 some (0, (a4 ++ ([(Leaf.mk a2.rect (-1))] : List Leaf)))
 else none
 else
 bif ((a3.Nodes.getD a1.toNat default).Kind) == 1 then
 bif room (a4.length + 1) 40 then
 some (0, (a4 ++ ([(Leaf.mk a2.rect ((a3.Nodes.getD a1.toNat default).At))] : List Leaf)))
 else none
 else
 some (0, a4)
 else none
/- sawmill/pattern.places$1 -/
def KS (x6 : Int) (rec_pattern_places_1_s2_L1 : (List Pattern_place) → Int → (List Leaf) → Option ((Nat × (List Leaf)) ⊕ (List Leaf))) (l22 : List Pattern_place) (l23 : List Leaf) : Option ((Nat × (List Leaf)) ⊕ (List Leaf)) :=
 rec_pattern_places_1_s2_L1 l22 (w64 (x6 + 1)) l23
def yM (a1 : Pattern) (a2 : Pattern) (a3 : Int) : Nat → (List Pattern_place) → Int → (List Leaf) → Option ((Nat × (List Leaf)) ⊕ (List Leaf))
 | 0, _, _, _ => none
 | n + 1, l5, x6, l7 =>
 bif decide (((l5.length : Nat) : Int) > 0) then
 bif inb (w64 (((l5.length : Nat) : Int) - 1)) l5.length then
 bif slOk 0 (w64 (((l5.length : Nat) : Int) - 1)) l5.length then
 (QX x6 (l5.getD ((w64 (((l5.length : Nat) : Int) - 1)).toNat) default) a1 l7).bind fun v11 =>
 bif !(Nat.beq v11.1 0) then
 some (Sum.inl (v11.1, v11.2))
 else
 bif decide (x6 ≥ ((a2.Nodes.length : Nat) : Int)) then
 some (Sum.inl (0, v11.2))
 else
 bif inb x6 a2.Nodes.length then
 (wF ((a2.Nodes.getD x6.toNat default).Kind)).bind fun v16 =>
 bif v16 then
 (ZC ((l5.getD ((w64 (((l5.length : Nat) : Int) - 1)).toNat) default).rect) (a2.Nodes.getD x6.toNat default) a3).bind fun v19 =>
 bif room ((w64 (((l5.length : Nat) : Int) - 1)).toNat + 2) 40 then
 KS x6 (yM a1 a2 a3 n) ((l5.take ((w64 (((l5.length : Nat) : Int) - 1)).toNat)) ++ ([(Pattern_place.mk v19.2.2 (w64 (((l5.getD ((w64 (((l5.length : Nat) : Int) - 1)).toNat) default).level) + 1))), (Pattern_place.mk v19.1 (w64 (((l5.getD ((w64 (((l5.length : Nat) : Int) - 1)).toNat) default).level) + 1)))] : List Pattern_place)) v11.2
 else none
 else
 KS x6 (yM a1 a2 a3 n) (l5.take ((w64 (((l5.length : Nat) : Int) - 1)).toNat)) v11.2
 else none
 else none
 else none
 else
 some (Sum.inr l7)
def UO (a1 : Pattern) (a2 : Pattern) (a3 : Int) (a4 : List Leaf) : Option (Nat × (List Leaf)) :=
 (yM a1 a2 a3 FUEL ([(Pattern_place.mk a2.Frame 1)] : List Pattern_place) 0 a4).bind fun u27 => Sum.elim (fun v28 => some v28) (fun o25 =>
 some (0, o25)) u27
/- sawmill/pattern.Leaves -/
def SO (a1 : Pattern) (a2 : Int) : Option ((List Leaf) × Int) :=
 (TB a1 a2).bind fun v3 =>
 bif v3 != 0 then
 some (([] : List Leaf), v3)
 else
 (yZ a1 a2).bind fun v6 =>
 (UO a1 v6.1 v6.2 ([] : List Leaf)).bind fun v8 =>
 bif Nat.beq v8.1 0 then
 some (v8.2, 0)
 else
 none
/- sawmill/yield.boardLeaves -/
def CW (a1 : List Leaf) : Option (List Leaf) :=
 some a1
/- sawmill/yield.box -/
def GQ (a1 : Rect) (a2 : Span) : Option Box :=
 some (Box.mk a1.X a1.Y a2)
/- sawmill/yield.Boards -/
def AI (a1 : Int) (a2 : Leaf) (a3 : List qA) (a4 : List Defect) (a5 : List Product) (a6 : Saw) (a7 : Int) (a8 : List Yield_Cut) : Option (Nat × (List Yield_Cut)) :=
 bif inb a2.Product a5.length then
 (BJ a3 a4 (a5.getD a2.Product.toNat default) a2.Rect a6.Step a7).bind fun v10 =>
 bif v10.2.2 then
 (GQ a2.Rect v10.1).bind fun v13 =>
 bif room (a8.length + 1) 72 then
 some (0, (a8 ++ ([(Yield_Cut.mk a1 a2.Product v13 v10.2.1)] : List Yield_Cut)))
 else none
 else
 some (0, a8)
 else none
/- sawmill/yield.boardLeaves$1 -/
def KM (x8 : Int) (rec_yield_boardLeaves_1_L1 : Int → (List Yield_Cut) → Option ((Nat × (List Yield_Cut)) ⊕ (List Yield_Cut))) (l16 : List Yield_Cut) : Option ((Nat × (List Yield_Cut)) ⊕ (List Yield_Cut)) :=
 rec_yield_boardLeaves_1_L1 (w64 (x8 + 1)) l16
def zX (a1 : List qA) (a2 : List Defect) (a3 : List Product) (a4 : Saw) (a5 : Int) (a6 : List Leaf) : Nat → Int → (List Yield_Cut) → Option ((Nat × (List Yield_Cut)) ⊕ (List Yield_Cut))
 | 0, _, _ => none
 | n + 1, x8, l9 =>
 bif decide (x8 < ((a6.length : Nat) : Int)) then
 bif inb x8 a6.length then
 bif ((a6.getD x8.toNat default).Product) != (-1) then
 (AI x8 (a6.getD x8.toNat default) a1 a2 a3 a4 a5 l9).bind fun v13 =>
 bif !(Nat.beq v13.1 0) then
 some (Sum.inl (v13.1, v13.2))
 else
 KM x8 (zX a1 a2 a3 a4 a5 a6 n) v13.2
 else
 KM x8 (zX a1 a2 a3 a4 a5 a6 n) l9
 else none
 else
 some (Sum.inr l9)
def UM (a1 : List qA) (a2 : List Defect) (a3 : List Product) (a4 : Saw) (a5 : Int) (a6 : List Leaf) (a7 : List Yield_Cut) : Option (Nat × (List Yield_Cut)) :=
 (zX a1 a2 a3 a4 a5 a6 FUEL 0 a7).bind fun u20 => Sum.elim (fun v21 => some v21) (fun o18 =>
 some (0, o18)) u20
/- sawmill/yield.Boards -/
def qBb (a1 : List qA) (a2 : List Defect) (a3 : List Product) (a4 : Pattern) (a5 : Saw) (a6 : Int) : Option ((List Yield_Cut) × Int) :=
 (EV a1 a2 a3 a4 a5 (Rates.mk 0 0 a6)).bind fun v7 =>
 bif v7 != 0 then
 some (([] : List Yield_Cut), v7)
 else
 (SO a4 a5.Kerf).bind fun v10 =>
 bif v10.2 != 0 then
 some (([] : List Yield_Cut), v10.2)
 else
 (CW v10.1).bind fun v13 =>
 (UM a1 a2 a3 a5 a6 v13 ([] : List Yield_Cut)).bind fun v15 =>
 bif Nat.beq v15.1 0 then
 some (v15.2, 0)
 else
 none
/- sawmill/pattern.Cuts -/
def WM (a1 : Int) (a2 : Pattern_place) (a3 : Pattern) (a4 : Int) (a5 : List Rect) : Option (Nat × (List Rect)) :=
 bif inb a1 a3.Nodes.length then
 (wF ((a3.Nodes.getD a1.toNat default).Kind)).bind fun v7 =>
 bif v7 then
 (ZC a2.rect (a3.Nodes.getD a1.toNat default) a4).bind fun v10 =>
 bif room (a5.length + 1) 32 then
 some (0, (a5 ++ ([v10.2.1] : List Rect)))
 else none
 else
 some (0, a5)
 else none
/- sawmill/pattern.places$1 -/
def KQ (x7 : Int) (rec_pattern_places_1_s3_L1 : (List Pattern_place) → Int → (List Rect) → Option ((Nat × (List Rect)) ⊕ (List Rect))) (l23 : List Pattern_place) (l24 : List Rect) : Option ((Nat × (List Rect)) ⊕ (List Rect)) :=
 rec_pattern_places_1_s3_L1 l23 (w64 (x7 + 1)) l24
def yK (a1 : Pattern) (a2 : Int) (a3 : Pattern) (a4 : Int) : Nat → (List Pattern_place) → Int → (List Rect) → Option ((Nat × (List Rect)) ⊕ (List Rect))
 | 0, _, _, _ => none
 | n + 1, l6, x7, l8 =>
 bif decide (((l6.length : Nat) : Int) > 0) then
 bif inb (w64 (((l6.length : Nat) : Int) - 1)) l6.length then
 bif slOk 0 (w64 (((l6.length : Nat) : Int) - 1)) l6.length then
 (WM x7 (l6.getD ((w64 (((l6.length : Nat) : Int) - 1)).toNat) default) a1 a2 l8).bind fun v12 =>
 bif !(Nat.beq v12.1 0) then
 some (Sum.inl (v12.1, v12.2))
 else
 bif decide (x7 ≥ ((a3.Nodes.length : Nat) : Int)) then
 some (Sum.inl (0, v12.2))
 else
 bif inb x7 a3.Nodes.length then
 (wF ((a3.Nodes.getD x7.toNat default).Kind)).bind fun v17 =>
 bif v17 then
 (ZC ((l6.getD ((w64 (((l6.length : Nat) : Int) - 1)).toNat) default).rect) (a3.Nodes.getD x7.toNat default) a4).bind fun v20 =>
 bif room ((w64 (((l6.length : Nat) : Int) - 1)).toNat + 2) 40 then
 KQ x7 (yK a1 a2 a3 a4 n) ((l6.take ((w64 (((l6.length : Nat) : Int) - 1)).toNat)) ++ ([(Pattern_place.mk v20.2.2 (w64 (((l6.getD ((w64 (((l6.length : Nat) : Int) - 1)).toNat) default).level) + 1))), (Pattern_place.mk v20.1 (w64 (((l6.getD ((w64 (((l6.length : Nat) : Int) - 1)).toNat) default).level) + 1)))] : List Pattern_place)) v12.2
 else none
 else
 KQ x7 (yK a1 a2 a3 a4 n) (l6.take ((w64 (((l6.length : Nat) : Int) - 1)).toNat)) v12.2
 else none
 else none
 else none
 else
 some (Sum.inr l8)
def UT (a1 : Pattern) (a2 : Int) (a3 : Pattern) (a4 : Int) (a5 : List Rect) : Option (Nat × (List Rect)) :=
 (yK a1 a2 a3 a4 FUEL ([(Pattern_place.mk a3.Frame 1)] : List Pattern_place) 0 a5).bind fun u28 => Sum.elim (fun v29 => some v29) (fun o26 =>
 some (0, o26)) u28
/- sawmill/pattern.Cuts -/
def qBa (a1 : Pattern) (a2 : Int) : Option ((List Rect) × Int) :=
 (TB a1 a2).bind fun v3 =>
 bif v3 != 0 then
 some (([] : List Rect), v3)
 else
 (yZ a1 a2).bind fun v6 =>
 (UT a1 a2 v6.1 v6.2 ([] : List Rect)).bind fun v8 =>
 bif Nat.beq v8.1 0 then
 some (v8.2, 0)
 else
 none
/- sawmill/yield.Of -/
def UI (a1 : List qA) (v13 : (List Rect) × Int) (v16 : Int) (v18 : Int) : Nat → Int → Int → Option Yield
 | 0, _, _ => none
 | n + 1, x20, x21 =>
 bif decide (x20 < ((v13.1.length : Nat) : Int)) then
 bif inb x20 v13.1.length then
 (GQ (v13.1.getD x20.toNat default) (Span.mk 0 v16)).bind fun v24 =>
 (yN a1 v24).bind fun v26 =>
 (UI a1 v13 v16 v18 n) (w64 (x20 + 1)) (w64 (x21 + v26))
 else none
 else
 some (Yield.mk v18 0 0 x21 0)
def UH (a1 : List qA) (a5 : Saw) (v10 : (List Yield_Cut) × Int) (v16 : Int) (o29 : Yield) : Nat → Int → Int → Int → Int → Option Yield
 | 0, _, _, _, _ => none
 | n + 1, x31, x32, x33, x34 =>
 bif decide (x31 < ((v10.1.length : Nat) : Int)) then
 bif inb x31 v10.1.length then
 (yN a1 ((v10.1.getD x31.toNat default).Box)).bind fun v37 =>
 (GQ (Rect.mk (((v10.1.getD x31.toNat default).Box).X) (((v10.1.getD x31.toNat default).Box).Y)) (Span.mk (imax 0 (w64 (((((v10.1.getD x31.toNat default).Box).Z).A) - a5.Trim))) ((((v10.1.getD x31.toNat default).Box).Z).A))).bind fun v39 =>
 (yN a1 v39).bind fun v41 =>
 (GQ (Rect.mk (((v10.1.getD x31.toNat default).Box).X) (((v10.1.getD x31.toNat default).Box).Y)) (Span.mk ((((v10.1.getD x31.toNat default).Box).Z).B) (imin (w64 (((((v10.1.getD x31.toNat default).Box).Z).B) + a5.Trim)) v16))).bind fun v43 =>
 (yN a1 v43).bind fun v45 =>
 (UH a1 a5 v10 v16 o29 n) (w64 (x31 + 1)) (w64 (x32 + v37)) (w64 ((w64 (x33 + v41)) + v45)) (w64 (x34 + (w64 (1000000 * ((v10.1.getD x31.toNat default).Worth)))))
 else none
 else
 some (Yield.mk o29.Log x32 o29.Chips x33 x34)
def qMB (a1 : List qA) (a2 : List Defect) (a3 : List Product) (a4 : Pattern) (a5 : Saw) (a6 : Rates) : Option (Yield × Int) :=
 (EV a1 a2 a3 a4 a5 a6).bind fun v7 =>
 bif v7 != 0 then
 some ((Yield.mk 0 0 0 0 0), v7)
 else
 (qBb a1 a2 a3 a4 a5 a6.Fine).bind fun v10 =>
 bif v10.2 != 0 then
 some ((Yield.mk 0 0 0 0 0), v10.2)
 else
 (qBa a4 a5.Kerf).bind fun v13 =>
 bif v13.2 != 0 then
 some ((Yield.mk 0 0 0 0 0), v13.2)
 else
 (yH a1).bind fun v16 =>
 (PM a1).bind fun v18 =>
 (UI a1 v13 v16 v18 FUEL 0 0).bind fun o29 =>
 (UH a1 a5 v10 v16 o29 FUEL 0 o29.Boards o29.Dust o29.Value).bind fun o48 =>
 some ((Yield.mk o48.Log o48.Boards (w64 ((w64 (o48.Log - o48.Boards)) - o48.Dust)) o48.Dust (w64 (o48.Value + (w64 ((w64 (a6.Chip * (w64 ((w64 (o48.Log - o48.Boards)) - o48.Dust)))) + (w64 (a6.Dust * o48.Dust))))))), 0)
end Saw
end Go.SL

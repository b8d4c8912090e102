import Derived.Test.YtjobdnkaonbgnaaYa6
set_option linter.unusedVariables false
set_option linter.unusedSimpArgs false
namespace Go.SL
namespace Saw
structure Span where
 A : Int
 B : Int
instance : Inhabited Span := ⟨⟨0, 0⟩⟩
def e_Span (r : Span) : List C := [ci r.A, ci r.B]
structure qI where
 Low : Int
 Rows : List Span
instance : Inhabited qI := ⟨⟨0, []⟩⟩
def zZ (r : qI) : List C := [ci r.Low, tl e_Span default r.Rows]
structure qF where
 Len : Int
 Sec : qI
instance : Inhabited qF := ⟨⟨0, default⟩⟩
def qH (r : qF) : List C := [ci r.Len, ci r.Sec.Low, tl e_Span default r.Sec.Rows]
structure Box where
 X : Span
 Y : Span
 Z : Span
instance : Inhabited Box := ⟨⟨default, default, default⟩⟩
def wT (r : Box) : List C := [ci r.X.A, ci r.X.B, ci r.Y.A, ci r.Y.B, ci r.Z.A, ci r.Z.B]
structure Defect where
 Kind : Int
 Box : Box
instance : Inhabited Defect := ⟨⟨0, default⟩⟩
def qG (r : Defect) : List C := [ci r.Kind, ci r.Box.X.A, ci r.Box.X.B, ci r.Box.Y.A, ci r.Box.Y.B, ci r.Box.Z.A, ci r.Box.Z.B]
structure Product where
 Name : ByteArray
 Thick : Int
 Width : Int
 Allow : Int
 Wane : Int
 Lengths : List Int
 Prices : List Int
instance : Inhabited Product := ⟨⟨⟨#[]⟩, 0, 0, 0, 0, [], []⟩⟩
def qE (r : Product) : List C := [cs r.Name, ci r.Thick, ci r.Width, ci r.Allow, ci r.Wane, tl qM default r.Lengths, tl qM default r.Prices]
structure Rect where
 X : Span
 Y : Span
instance : Inhabited Rect := ⟨⟨default, default⟩⟩
def qK (r : Rect) : List C := [ci r.X.A, ci r.X.B, ci r.Y.A, ci r.Y.B]
structure Node where
 Kind : Int
 At : Int
instance : Inhabited Node := ⟨⟨0, 0⟩⟩
def wQ (r : Node) : List C := [ci r.Kind, ci r.At]
structure Pattern where
 Frame : Rect
 Nodes : List Node
instance : Inhabited Pattern := ⟨⟨default, []⟩⟩
def qD (r : Pattern) : List C := [ci r.Frame.X.A, ci r.Frame.X.B, ci r.Frame.Y.A, ci r.Frame.Y.B, tl wQ default r.Nodes]
structure Saw where
 Kerf : Int
 Trim : Int
 Pitch : Int
 Step : Int
instance : Inhabited Saw := ⟨⟨0, 0, 0, 0⟩⟩
def jD (r : Saw) : List C := [ci r.Kerf, ci r.Trim, ci r.Pitch, ci r.Step]
structure Rates where
 Chip : Int
 Dust : Int
 Fine : Int
instance : Inhabited Rates := ⟨⟨0, 0, 0⟩⟩
def WN (r : Rates) : List C := [ci r.Chip, ci r.Dust, ci r.Fine]
structure Law22_Given where
 Solid : List qF
 Defects : List Defect
 Products : List Product
 Pattern : Pattern
 Saw : Saw
 Rates : Rates
instance : Inhabited Law22_Given := ⟨⟨[], [], [], default, default, default⟩⟩
def qO (r : Law22_Given) : List C := [tl qH default r.Solid, tl qG default r.Defects, tl qE default r.Products, ci r.Pattern.Frame.X.A, ci r.Pattern.Frame.X.B, ci r.Pattern.Frame.Y.A, ci r.Pattern.Frame.Y.B, tl wQ default r.Pattern.Nodes, ci r.Saw.Kerf, ci r.Saw.Trim, ci r.Saw.Pitch, ci r.Saw.Step, ci r.Rates.Chip, ci r.Rates.Dust, ci r.Rates.Fine]
structure Pattern_place where
 rect : Rect
 level : Int
instance : Inhabited Pattern_place := ⟨⟨default, 0⟩⟩
def e_Pattern_place (r : Pattern_place) : List C := [ci r.rect.X.A, ci r.rect.X.B, ci r.rect.Y.A, ci r.rect.Y.B, ci r.level]
structure Leaf where
 Rect : Rect
 Product : Int
instance : Inhabited Leaf := ⟨⟨default, 0⟩⟩
def qS (r : Leaf) : List C := [ci r.Rect.X.A, ci r.Rect.X.B, ci r.Rect.Y.A, ci r.Rect.Y.B, ci r.Product]
structure Yield_Cut where
 Leaf : Int
 Product : Int
 Box : Box
 Worth : Int
instance : Inhabited Yield_Cut := ⟨⟨0, 0, default, 0⟩⟩
def qL (r : Yield_Cut) : List C := [ci r.Leaf, ci r.Product, ci r.Box.X.A, ci r.Box.X.B, ci r.Box.Y.A, ci r.Box.Y.B, ci r.Box.Z.A, ci r.Box.Z.B, ci r.Worth]
structure Worth_zone where
 z : Span
 lack : Int
instance : Inhabited Worth_zone := ⟨⟨default, 0⟩⟩
def qJ (r : Worth_zone) : List C := [ci r.z.A, ci r.z.B, ci r.lack]
structure Worth_view where
 product : Product
 rect : Rect
 length : Int
 zones : List Worth_zone
 defects : List Defect
instance : Inhabited Worth_view := ⟨⟨default, default, 0, [], []⟩⟩
def TN (r : Worth_view) : List C := [cs r.product.Name, ci r.product.Thick, ci r.product.Width, ci r.product.Allow, ci r.product.Wane, tl qM default r.product.Lengths, tl qM default r.product.Prices, ci r.rect.X.A, ci r.rect.X.B, ci r.rect.Y.A, ci r.rect.Y.B, ci r.length, tl qJ default r.zones, tl qG default r.defects]
structure Yield where
 Log : Int
 Boards : Int
 Chips : Int
 Dust : Int
 Value : Int
instance : Inhabited Yield := ⟨⟨0, 0, 0, 0, 0⟩⟩
def zF (r : Yield) : List C := [ci r.Log, ci r.Boards, ci r.Chips, ci r.Dust, ci r.Value]
def globs : List (Nat × C) := []
/- sawmill/sawmilllaw22.Work -/
def PU (a1 : Law22_Given) (x2 : Int) (x3 : Int) (rec_law22_Work_L1 : Int → Int → Option Int) (x5 : Bool) : Option Int :=
 bif x5 then
 bif inb x3 a1.Solid.length then
 rec_law22_Work_L1 (imin 20000 (w64 (x2 + (imax 0 (imin 20000 ((a1.Solid.getD x3.toNat default).Len)))))) (w64 (x3 + 1))
 else none
 else
 some x2
def yZ (a1 : Law22_Given) : Nat → Int → Int → Option Int
 | 0, _, _ => none
 | n + 1, x2, x3 =>
 bif decide (x3 < ((a1.Solid.length : Nat) : Int)) then
 PU a1 x2 x3 (yZ a1 n) (decide (x3 < 30))
 else
 PU a1 x2 x3 (yZ a1 n) false
def JT (a1 : Law22_Given) : Nat → Int → Int → Option Int
 | 0, _, _ => none
 | n + 1, x11, x12 =>
 bif decide (x12 < ((a1.Products.length : Nat) : Int)) then
 bif inb x12 a1.Products.length then
 (JT a1 n) (imax x11 (imin 10 ((((a1.Products.getD x12.toNat default).Lengths).length : Nat) : Int))) (w64 (x12 + 1))
 else none
 else
 some x11
def GQ (a1 : Law22_Given) (o16 : Int) (x20 : Int) : Option Int :=
 some (w64 ((w64 ((w64 (x20 * o16)) * (w64 (1 + (imin 30 ((a1.Solid.length : Nat) : Int)))))) * (w64 (1 + (imin 140 ((a1.Pattern.Nodes.length : Nat) : Int))))))
def BJ (a1 : Law22_Given) : Option Int :=
 (yZ a1 FUEL 0 0).bind fun o9 =>
 (JT a1 FUEL 1 0).bind fun o16 =>
 bif decide (a1.Saw.Step > 0) then
 bif nz a1.Saw.Step then
 GQ a1 o16 (w64 (1 + (w64 (Int.tdiv o9 a1.Saw.Step))))
 else none
 else
 GQ a1 o16 1
/- sawmill/sawmilllaw22.Small -/
def WP (a1 : Law22_Given) : Nat → Int → Option (Bool ⊕ Unit)
 | 0, _ => none
 | n + 1, x10 =>
 bif decide (x10 < ((a1.Solid.length : Nat) : Int)) then
 bif inb x10 a1.Solid.length then
 bif decide ((((((a1.Solid.getD x10.toNat default).Sec).Rows).length : Nat) : Int) > 130) then
 some (Sum.inl false)
 else
 (WP a1 n) (w64 (x10 + 1))
 else none
 else
 some (Sum.inr ())
def XV (x18 : Int) (rec_law22_Small_L3 : Int → Option (Bool ⊕ Unit)) (x23 : Bool) : Option (Bool ⊕ Unit) :=
 bif x23 then
 some (Sum.inl false)
 else
 rec_law22_Small_L3 (w64 (x18 + 1))
def wY (a1 : Law22_Given) : Nat → Int → Option (Bool ⊕ Unit)
 | 0, _ => none
 | n + 1, x18 =>
 bif decide (x18 < ((a1.Products.length : Nat) : Int)) then
 bif inb x18 a1.Products.length then
 bif decide (((((a1.Products.getD x18.toNat default).Lengths).length : Nat) : Int) > 10) then
 XV x18 (wY a1 n) true
 else
 bif decide (((((a1.Products.getD x18.toNat default).Prices).length : Nat) : Int) > 10) then
 XV x18 (wY a1 n) true
 else
 XV x18 (wY a1 n) (decide (((((a1.Products.getD x18.toNat default).Name).size : Nat) : Int) > 100))
 else none
 else
 some (Sum.inr ())
def jC (a1 : Law22_Given) (x8 : Bool) : Option Bool :=
 bif x8 then
 some false
 else
 (WP a1 FUEL 0).bind fun u16 => Sum.elim (fun v17 => some v17) (fun o14 =>
 (wY a1 FUEL 0).bind fun u27 => Sum.elim (fun v28 => some v28) (fun o25 =>
 some true) u27) u16
def GA (a1 : Law22_Given) : Option Bool :=
 bif decide (((a1.Solid.length : Nat) : Int) > 30) then
 jC a1 true
 else
 bif decide (((a1.Defects.length : Nat) : Int) > 70) then
 jC a1 true
 else
 bif decide (((a1.Products.length : Nat) : Int) > 20) then
 jC a1 true
 else
 bif decide (((a1.Pattern.Nodes.length : Nat) : Int) > 140) then
 jC a1 true
 else
 (BJ a1).bind fun v6 =>
 jC a1 (decide (v6 > 200000))
/- sawmill/sawmilllaw22.Block -/
def zaQ (a3 : Int) (a4 : Span) : Nat → Int → (List Span) → Option (List Span)
 | 0, _, _ => none
 | n + 1, x5, l6 =>
 bif decide (x5 < a3) then
 bif room (l6.length + 1) 16 then
 (zaQ a3 a4 n) (w64 (x5 + 1)) (l6 ++ ([a4] : List Span))
 else none
 else
 some l6
def IP (a1 : Int) (a2 : Int) (a3 : Int) (a4 : Span) : Option (List qF) :=
 (zaQ a3 a4 FUEL 0 ([] : List Span)).bind fun o10 =>
 some ([(qF.mk a1 (qI.mk a2 o10))] : List qF)
/- sawmill/sawmilllaw22.Plank -/
def IH : Option (List Product) :=
 some ([(Product.mk (ByteArray.mk #[112, 108, 97, 110, 107]) 40 100 50 0 ([2000] : List Int) ([70] : List Int))] : List Product)
/- sawmill/sawmilllaw22.sample -/
def SI : Option Law22_Given :=
 (IP 3000 (-10) 20 (Span.mk (-100) 100)).bind fun v1 =>
 (IH).bind fun v3 =>
 some (Law22_Given.mk v1 ([] : List Defect) v3 (Pattern.mk (Rect.mk (Span.mk (-50) 55) (Span.mk 0 42)) ([(Node.mk 1 0)] : List Node)) (Saw.mk 4 5 1 500) (Rates.mk 1 0 0))
/- sawmill/section.inRange -/
def YH (x3 : Bool) : Option Bool :=
 some x3
def YK (a1 : Span) : Option Bool :=
 bif decide ((imin a1.A a1.B) ≥ (-600)) then
 YH (decide ((imax a1.A a1.B) ≤ 600))
 else
 YH false
/- sawmill/section.isEmpty -/
def ZT (a1 : Span) : Option Bool :=
 some (decide (a1.A ≥ a1.B))
/- sawmill/section.Check -/
def jR (a1 : qI) : Nat → Int → Option (Int ⊕ Unit)
 | 0, _ => none
 | n + 1, x6 =>
 bif decide (x6 < ((a1.Rows.length : Nat) : Int)) then
 bif inb x6 a1.Rows.length then
 (YK (a1.Rows.getD x6.toNat default)).bind fun v9 =>
 bif !v9 then
 some (Sum.inl 9)
 else
 (jR a1 n) (w64 (x6 + 1))
 else none
 else
 some (Sum.inr ())
def PE (x27 : Int) (rec_section_Check_L4 : Int → Option (Int ⊕ Unit)) (x33 : Bool) : Option (Int ⊕ Unit) :=
 bif x33 then
 some (Sum.inl 19)
 else
 rec_section_Check_L4 (w64 (x27 + 1))
def wF (a1 : qI) : Nat → Int → Option (Int ⊕ Unit)
 | 0, _ => none
 | n + 1, x27 =>
 bif decide (x27 < ((a1.Rows.length : Nat) : Int)) then
 bif inb x27 a1.Rows.length then
 (ZT (a1.Rows.getD x27.toNat default)).bind fun v30 =>
 bif v30 then
 PE x27 (wF a1 n) (!((((a1.Rows.getD x27.toNat default).A) == 0) && ((((a1.Rows.getD x27.toNat default).B) == 0) && true)))
 else
 PE x27 (wF a1 n) false
 else none
 else
 some (Sum.inr ())
def KV (a1 : qI) (x25 : Bool) : Option Int :=
 bif x25 then
 some 19
 else
 (wF a1 FUEL 0).bind fun u37 => Sum.elim (fun v38 => some v38) (fun o35 =>
 some 0) u37
def KS (a1 : qI) (x4 : Bool) : Option Int :=
 bif x4 then
 some 9
 else
 (jR a1 FUEL 0).bind fun u14 => Sum.elim (fun v15 => some v15) (fun o12 =>
 bif ((a1.Rows.length : Nat) : Int) == 0 then
 bif a1.Low != 0 then
 some 19
 else
 some 0
 else
 bif inb 0 a1.Rows.length then
 (ZT (a1.Rows.getD (0 : Int).toNat default)).bind fun v19 =>
 bif v19 then
 KV a1 true
 else
 bif inb (w64 (((a1.Rows.length : Nat) : Int) - 1)) a1.Rows.length then
 (ZT (a1.Rows.getD (w64 (((a1.Rows.length : Nat) : Int) - 1)).toNat default)).bind fun v23 =>
 KV a1 v23
 else none
 else none) u14
def JU (a1 : qI) : Option Int :=
 bif decide (((a1.Rows.length : Nat) : Int) > 120) then
 some 4
 else
 bif decide (a1.Low < (-60)) then
 KS a1 true
 else
 KS a1 (decide (a1.Low > (w64 (60 - ((a1.Rows.length : Nat) : Int)))))
/- sawmill/solid.Check -/
def UV (a1 : List qF) (x4 : Int) (x5 : Int) (rec_solid_Check_L1 : Int → Int → Option (Int ⊕ Unit)) (x13 : Bool) : Option (Int ⊕ Unit) :=
 bif x13 then
 some (Sum.inl 9)
 else
 rec_solid_Check_L1 (w64 (x4 + ((a1.getD x5.toNat default).Len))) (w64 (x5 + 1))
def jE (a1 : List qF) : Nat → Int → Int → Option (Int ⊕ Unit)
 | 0, _, _ => none
 | n + 1, x4, x5 =>
 bif decide (x5 < ((a1.length : Nat) : Int)) then
 bif inb x5 a1.length then
 (JU ((a1.getD x5.toNat default).Sec)).bind fun v8 =>
 bif v8 != 0 then
 some (Sum.inl v8)
 else
 bif (((((a1.getD x5.toNat default).Sec).Rows).length : Nat) : Int) == 0 then
 some (Sum.inl 18)
 else
 bif decide (((a1.getD x5.toNat default).Len) < 1) then
 UV a1 x4 x5 (jE a1 n) true
 else
 UV a1 x4 x5 (jE a1 n) (decide (((a1.getD x5.toNat default).Len) > (w64 (20000 - x4))))
 else none
 else
 some (Sum.inr ())
def YW (a1 : List qF) : Option Int :=
 bif ((a1.length : Nat) : Int) == 0 then
 some 3
 else
 bif decide (((a1.length : Nat) : Int) > 24) then
 some 4
 else
 (jE a1 FUEL 0 0).bind fun u17 => Sum.elim (fun v18 => some v18) (fun o15 =>
 some 0) u17
/- sawmill/defect.isEmpty -/
def wZ (a1 : Span) : Option Bool :=
 some (decide (a1.A ≥ a1.B))
/- sawmill/defect.inside -/
def PB (x5 : Bool) : Option Bool :=
 some x5
def ZX (a1 : Span) (a2 : Int) (a3 : Int) : Option Bool :=
 bif decide ((imin a1.A a1.B) ≥ a2) then
 PB (decide ((imax a1.A a1.B) ≤ a3))
 else
 PB false
/- sawmill/defect.check -/
def YE (x23 : Bool) : Option Int :=
 bif x23 then
 some 9
 else
 some 0
def YJ (a1 : Defect) (x13 : Bool) : Option Int :=
 bif x13 then
 some 19
 else
 (ZX a1.Box.X (-600) 600).bind fun v15 =>
 bif !v15 then
 YE true
 else
 (ZX a1.Box.Y (-600) 600).bind fun v18 =>
 bif !v18 then
 YE true
 else
 (ZX a1.Box.Z 0 20000).bind fun v21 =>
 YE (!v21)
def RR (a1 : Defect) (x3 : Bool) : Option Int :=
 bif x3 then
 some 10
 else
 (wZ a1.Box.X).bind fun v5 =>
 bif v5 then
 YJ a1 true
 else
 (wZ a1.Box.Y).bind fun v8 =>
 bif v8 then
 YJ a1 true
 else
 (wZ a1.Box.Z).bind fun v11 =>
 YJ a1 v11
def TG (a1 : Defect) : Option Int :=
 bif decide (a1.Kind < 1) then
 RR a1 true
 else
 RR a1 (decide (a1.Kind > 6))
/- sawmill/defect.Check -/
def yM (a1 : List Defect) : Nat → Int → Option (Int ⊕ Unit)
 | 0, _ => none
 | n + 1, x3 =>
 bif decide (x3 < ((a1.length : Nat) : Int)) then
 bif inb x3 a1.length then
 (TG (a1.getD x3.toNat default)).bind fun v6 =>
 bif v6 != 0 then
 some (Sum.inl v6)
 else
 (yM a1 n) (w64 (x3 + 1))
 else none
 else
 some (Sum.inr ())
def KC (a1 : List Defect) : Option Int :=
 bif decide (((a1.length : Nat) : Int) > 64) then
 some 4
 else
 (yM a1 FUEL 0).bind fun u11 => Sum.elim (fun v12 => some v12) (fun o9 =>
 some 0) u11
/- sawmill/ident.isSmall -/
def KZ (x3 : Bool) : Option Bool :=
 some x3
def JP (a1 : Int) : Option Bool :=
 bif decide (97 ≤ a1) then
 KZ (decide (a1 ≤ 122))
 else
 KZ false
/- sawmill/ident.isDigit -/
def KR (x3 : Bool) : Option Bool :=
 some x3
def PS (a1 : Int) : Option Bool :=
 bif decide (48 ≤ a1) then
 KR (decide (a1 ≤ 57))
 else
 KR false
/- sawmill/ident.IsName -/
def YO (x9 : Int) (rec_ident_IsName_L2 : Int → Option (Bool ⊕ Unit)) (x18 : Bool) : Option (Bool ⊕ Unit) :=
 bif x18 then
 some (Sum.inl false)
 else
 rec_ident_IsName_L2 (w64 (x9 + 1))
def zY (a1 : ByteArray) : Nat → Int → Option (Bool ⊕ Unit)
 | 0, _ => none
 | n + 1, x9 =>
 bif decide (x9 < ((a1.size : Nat) : Int)) then
 bif inb x9 a1.size then
 (JP (strAt a1 x9.toNat)).bind fun v12 =>
 bif !v12 then
 (PS (strAt a1 x9.toNat)).bind fun v15 =>
 bif !v15 then
 YO x9 (zY a1 n) ((strAt a1 x9.toNat) != 95)
 else
 YO x9 (zY a1 n) false
 else
 YO x9 (zY a1 n) false
 else none
 else
 some (Sum.inr ())
def YI (a1 : ByteArray) (x7 : Bool) : Option Bool :=
 bif x7 then
 some false
 else
 (zY a1 FUEL 1).bind fun u22 => Sum.elim (fun v23 => some v23) (fun o20 =>
 some true) u22
def UA (a1 : ByteArray) : Option Bool :=
 bif decide (((a1.size : Nat) : Int) < 1) then
 YI a1 true
 else
 bif decide (((a1.size : Nat) : Int) > 16) then
 YI a1 true
 else
 bif inb 0 a1.size then
 (JP (strAt a1 ((0 : Int).toNat))).bind fun v5 =>
 YI a1 (!v5)
 else none
/- sawmill/product.Find -/
def yJ (a1 : List Product) (a2 : ByteArray) : Nat → Int → Option ((Int × Bool) ⊕ Unit)
 | 0, _ => none
 | n + 1, x3 =>
 bif decide (x3 < ((a1.length : Nat) : Int)) then
 bif inb x3 a1.length then
 bif strEq ((a1.getD x3.toNat default).Name) a2 then
 some (Sum.inl (x3, true))
 else
 (yJ a1 a2 n) (w64 (x3 + 1))
 else none
 else
 some (Sum.inr ())
def UC (a1 : List Product) (a2 : ByteArray) : Option (Int × Bool) :=
 (yJ a1 a2 FUEL 0).bind fun u9 => Sum.elim (fun v10 => some v10) (fun o7 =>
 some (0, false)) u9
/- sawmill/product.isSize -/
def XA (x3 : Bool) : Option Bool :=
 some x3
def WJ (a1 : Int) : Option Bool :=
 bif decide (a1 ≥ 1) then
 XA (decide (a1 ≤ 600))
 else
 XA false
/- sawmill/product.grow -/
def UF (a1 : Int) (a2 : Int) : Option Int :=
 some (w64 (Int.tdiv (w64 ((w64 (a1 * (w64 (1000 + a2)))) + 999)) 1000))
/- sawmill/product.Green -/
def QX (a1 : Product) (x9 : Bool) : Option (Int × Int) :=
 bif x9 then
 some (0, 0)
 else
 (UF a1.Thick a1.Allow).bind fun v11 =>
 (UF a1.Width a1.Allow).bind fun v13 =>
 some (v11, v13)
def ZY (a1 : Product) : Option (Int × Int) :=
 (WJ a1.Thick).bind fun v2 =>
 bif !v2 then
 QX a1 true
 else
 (WJ a1.Width).bind fun v5 =>
 bif !v5 then
 QX a1 true
 else
 bif decide (a1.Allow < 0) then
 QX a1 true
 else
 QX a1 (decide (a1.Allow > 200))
/- sawmill/product.checkNumbers -/
def QF (x18 : Int) (rec_product_checkNumbers_L3 : Int → Option (Int ⊕ Unit)) (x26 : Bool) : Option (Int ⊕ Unit) :=
 bif x26 then
 some (Sum.inl 11)
 else
 rec_product_checkNumbers_L3 (w64 (x18 + 1))
def QH (a1 : Product) (x18 : Int) (rec_product_checkNumbers_L3 : Int → Option (Int ⊕ Unit)) (x22 : Bool) : Option (Int ⊕ Unit) :=
 bif x22 then
 some (Sum.inl 9)
 else
 bif decide (x18 > 0) then
 bif inb (w64 (x18 - 1)) a1.Lengths.length then
 QF x18 rec_product_checkNumbers_L3 (decide ((a1.Lengths.getD x18.toNat default) ≤ (a1.Lengths.getD (w64 (x18 - 1)).toNat default)))
 else none
 else
 QF x18 rec_product_checkNumbers_L3 false
def zA (a1 : Product) : Nat → Int → Option (Int ⊕ Unit)
 | 0, _ => none
 | n + 1, x18 =>
 bif decide (x18 < ((a1.Lengths.length : Nat) : Int)) then
 bif inb x18 a1.Lengths.length then
 bif decide ((a1.Lengths.getD x18.toNat default) < 100) then
 QH a1 x18 (zA a1 n) true
 else
 QH a1 x18 (zA a1 n) (decide ((a1.Lengths.getD x18.toNat default) > 20000))
 else none
 else
 some (Sum.inr ())
def QD (x32 : Int) (rec_product_checkNumbers_L6 : Int → Option (Int ⊕ Unit)) (x36 : Bool) : Option (Int ⊕ Unit) :=
 bif x36 then
 some (Sum.inl 9)
 else
 rec_product_checkNumbers_L6 (w64 (x32 + 1))
def zG (a1 : Product) : Nat → Int → Option (Int ⊕ Unit)
 | 0, _ => none
 | n + 1, x32 =>
 bif decide (x32 < ((a1.Prices.length : Nat) : Int)) then
 bif inb x32 a1.Prices.length then
 bif decide ((a1.Prices.getD x32.toNat default) < 0) then
 QD x32 (zG a1 n) true
 else
 QD x32 (zG a1 n) (decide ((a1.Prices.getD x32.toNat default) > 1000000))
 else none
 else
 some (Sum.inr ())
def wC (a1 : Product) (x10 : Bool) : Option Int :=
 bif x10 then
 some 9
 else
 (ZY a1).bind fun v12 =>
 bif decide (v12.2 > 600) then
 some 9
 else
 bif ((a1.Lengths.length : Nat) : Int) == 0 then
 some 3
 else
 bif decide (((a1.Lengths.length : Nat) : Int) > 8) then
 some 4
 else
 bif ((a1.Prices.length : Nat) : Int) != ((a1.Lengths.length : Nat) : Int) then
 some 19
 else
 (zA a1 FUEL 0).bind fun u30 => Sum.elim (fun v31 => some v31) (fun o28 =>
 (zG a1 FUEL 0).bind fun u40 => Sum.elim (fun v41 => some v41) (fun o38 =>
 some 0) u40) u30
def wB (a1 : Product) (x5 : Bool) : Option Int :=
 bif x5 then
 some 9
 else
 bif decide (a1.Allow < 0) then
 wC a1 true
 else
 bif decide (a1.Allow > 200) then
 wC a1 true
 else
 bif decide (a1.Wane < 0) then
 wC a1 true
 else
 wC a1 (decide (a1.Wane > 1000))
def yR (a1 : Product) : Option Int :=
 bif decide (a1.Thick < 5) then
 wB a1 true
 else
 bif decide (a1.Thick > 300) then
 wB a1 true
 else
 bif decide (a1.Width < a1.Thick) then
 wB a1 true
 else
 wB a1 (decide (a1.Width > 600))
/- sawmill/product.Check -/
def jS (a1 : List Product) : Nat → Int → Option (Int ⊕ Unit)
 | 0, _ => none
 | n + 1, x3 =>
 bif decide (x3 < ((a1.length : Nat) : Int)) then
 bif inb x3 a1.length then
 (UA ((a1.getD x3.toNat default).Name)).bind fun v6 =>
 bif !v6 then
 some (Sum.inl 6)
 else
 bif slOk 0 x3 a1.length then
 (UC (a1.take x3.toNat) ((a1.getD x3.toNat default).Name)).bind fun v10 =>
 bif v10.2 then
 some (Sum.inl 7)
 else
 (yR (a1.getD x3.toNat default)).bind fun v13 =>
 bif v13 != 0 then
 some (Sum.inl v13)
 else
 (jS a1 n) (w64 (x3 + 1))
 else none
 else none
 else
 some (Sum.inr ())
def JW (a1 : List Product) : Option Int :=
 bif decide (((a1.length : Nat) : Int) > 16) then
 some 4
 else
 (jS a1 FUEL 0).bind fun u18 => Sum.elim (fun v19 => some v19) (fun o16 =>
 some 0) u18
/- sawmill/worth.isStep -/
def TD (x3 : Bool) : Option Bool :=
 some x3
def XR (a1 : Int) : Option Bool :=
 bif decide (a1 ≥ 1) then
 TD (decide (a1 ≤ 20000))
 else
 TD false
/- sawmill/worth.isFine -/
def RW (x3 : Bool) : Option Bool :=
 some x3
def XL (a1 : Int) : Option Bool :=
 bif decide (a1 ≥ 0) then
 RW (decide (a1 ≤ 1000000))
 else
 RW false
/- sawmill/worth.Check -/
def QM (x20 : Bool) : Option Int :=
 bif x20 then
 some 9
 else
 some 0
def XM (a2 : Rates) (x12 : Bool) : Option Int :=
 bif x12 then
 some 9
 else
 bif decide (a2.Chip < 0) then
 QM true
 else
 bif decide (a2.Chip > 1000) then
 QM true
 else
 bif decide (a2.Dust < 0) then
 QM true
 else
 bif decide (a2.Dust > 1000) then
 QM true
 else
 (XL a2.Fine).bind fun v18 =>
 QM (!v18)
def WL (a1 : Saw) (a2 : Rates) (x6 : Bool) : Option Int :=
 bif x6 then
 some 9
 else
 bif decide (a1.Pitch < 1) then
 XM a2 true
 else
 bif decide (a1.Pitch > 2000) then
 XM a2 true
 else
 (XR a1.Step).bind fun v10 =>
 XM a2 (!v10)
def GC (a1 : Saw) (a2 : Rates) : Option Int :=
 bif decide (a1.Kerf < 0) then
 WL a1 a2 true
 else
 bif decide (a1.Kerf > 20) then
 WL a1 a2 true
 else
 bif decide (a1.Trim < 0) then
 WL a1 a2 true
 else
 WL a1 a2 (decide (a1.Trim > 20))
/- sawmill/pattern.isFrame -/
def wA (x2 : Int) (rec_pattern_isFrame_L1 : Int → Option (Bool ⊕ Unit)) (x7 : Bool) : Option (Bool ⊕ Unit) :=
 bif x7 then
 some (Sum.inl false)
 else
 rec_pattern_isFrame_L1 (w64 (x2 + 1))
def zE (a1 : Rect) : Nat → Int → Option (Bool ⊕ Unit)
 | 0, _ => none
 | n + 1, x2 =>
 bif decide (x2 < 2) then
 bif inb x2 2 then
 bif decide ((([a1.X.A, a1.X.B, a1.Y.A, a1.Y.B] : List Int).getD (x2.toNat * 2 + 0) 0) < (-600)) then
 wA x2 (zE a1 n) true
 else
 bif decide ((([a1.X.A, a1.X.B, a1.Y.A, a1.Y.B] : List Int).getD (x2.toNat * 2 + 1) 0) > 600) then
 wA x2 (zE a1 n) true
 else
 wA x2 (zE a1 n) (decide ((([a1.X.A, a1.X.B, a1.Y.A, a1.Y.B] : List Int).getD (x2.toNat * 2 + 0) 0) ≥ (([a1.X.A, a1.X.B, a1.Y.A, a1.Y.B] : List Int).getD (x2.toNat * 2 + 1) 0)))
 else none
 else
 some (Sum.inr ())
def ZU (a1 : Rect) : Option Bool :=
 (zE a1 FUEL 0).bind fun u11 => Sum.elim (fun v12 => some v12) (fun o9 =>
 some true) u11
/- sawmill/pattern.places -/
def wN (a1 : Pattern) (a2 : Int) : Option (Pattern × Int) :=
 some (a1, a2)
/- sawmill/pattern.isRip -/
def KU (x3 : Bool) : Option Bool :=
 some x3
def wL (a1 : Int) : Option Bool :=
 bif a1 == 2 then
 KU true
 else
 KU (a1 == 3)
/- sawmill/pattern.along -/
def JR (a1 : Rect) (a2 : Int) : Option Span :=
 bif a2 == 2 then
 some a1.X
 else
 some a1.Y
/- sawmill/pattern.checkNode -/
def yK : Option Int :=
 some 0
def WD (x15 : Bool) : Option Int :=
 bif x15 then
 some 20
 else
 yK
def wE (a1 : Node) (a2 : Pattern_place) (x6 : Bool) : Option Int :=
 bif x6 then
 some 10
 else
 bif decide (a2.level > 64) then
 some 28
 else
 (wL a1.Kind).bind fun v9 =>
 bif v9 then
 (JR a2.rect a1.Kind).bind fun v12 =>
 bif decide (a1.At ≤ v12.A) then
 WD true
 else
 WD (decide (a1.At ≥ v12.B))
 else
 yK
def yY (a1 : Node) (a2 : Pattern_place) : Option Int :=
 bif decide (a1.Kind < 0) then
 wE a1 a2 true
 else
 bif decide (a1.Kind > 3) then
 wE a1 a2 true
 else
 bif a1.Kind == 0 then
 wE a1 a2 (a1.At != 0)
 else
 wE a1 a2 false
/- sawmill/span.size -/
def AH (a1 : Span) : Option Int :=
 bif decide (a1.A ≥ a1.B) then
 some 0
 else
 some (IntKind.u64.wrap ((IntKind.u64.wrap (a1.B)) - (IntKind.u64.wrap (a1.A))))
/- sawmill/span.limited -/
def BM (a1 : Int) : Option Int :=
 some (w64 (imin a1 9223372036854775807))
/- sawmill/span.Len -/
def ZZ (a1 : Span) : Option Int :=
 (AH a1).bind fun v2 =>
 (BM v2).bind fun v4 =>
 some v4
/- sawmill/pattern.Check$1 -/
def wU (x18 : Bool) : Option Int :=
 bif x18 then
 some 20
 else
 some 0
def jX (a1 : Rect) (a2 : Int) (a3 : List Product) (x5 : Bool) : Option Int :=
 bif x5 then
 some 8
 else
 bif inb a2 a3.length then
 (ZY (a3.getD a2.toNat default)).bind fun v8 =>
 (ZZ a1.X).bind fun v10 =>
 (ZZ a1.Y).bind fun v12 =>
 bif v10 != v8.1 then
 bif v10 != v8.2 then
 wU true
 else
 wU (v12 != v8.1)
 else
 bif v12 != v8.2 then
 bif v10 != v8.2 then
 wU true
 else
 wU (v12 != v8.1)
 else
 wU false
 else none
def YA (a1 : Rect) (a2 : Int) (a3 : List Product) : Option Int :=
 bif decide (a2 < 0) then
 jX a1 a2 a3 true
 else
 jX a1 a2 a3 (decide (a2 ≥ ((a3.length : Nat) : Int)))
/- sawmill/pattern.check -/
def QZ (a1 : Int) (a5 : Int) (a6 : Int) (x16 : Int) : Option (Nat × Int × Int) :=
 bif x16 != 0 then
 some (1, x16, a6)
 else
 some (0, a5, w64 (a1 + 1))
def ZC (a1 : Int) (a2 : Pattern_place) (a3 : Pattern) (a4 : List Product) (a5 : Int) (a6 : Int) (v9 : Int) (x12 : Bool) : Option (Nat × Int × Int) :=
 bif x12 then
 (YA a2.rect ((a3.Nodes.getD a1.toNat default).At) a4).bind fun v14 =>
 QZ a1 a5 a6 v14
 else
 QZ a1 a5 a6 v9
def wO (a1 : Int) (a2 : Pattern_place) (a3 : Pattern) (a4 : List Product) (a5 : Int) (a6 : Int) : Option (Nat × Int × Int) :=
 bif decide (a1 ≥ ((a3.Nodes.length : Nat) : Int)) then
 some (1, 3, a6)
 else
 bif inb a1 a3.Nodes.length then
 (yY (a3.Nodes.getD a1.toNat default) a2).bind fun v9 =>
 bif v9 == 0 then
 ZC a1 a2 a3 a4 a5 a6 v9 (((a3.Nodes.getD a1.toNat default).Kind) == 1)
 else
 ZC a1 a2 a3 a4 a5 a6 v9 false
 else none
/- sawmill/pattern.with -/
def TB (x5 : Rect) : Option Rect :=
 some x5
def WY (a1 : Rect) (a2 : Int) (a3 : Span) : Option Rect :=
 bif a2 == 2 then
 TB (Rect.mk a3 a1.Y)
 else
 TB (Rect.mk a1.X a3)
/- sawmill/pattern.parts -/
def wX (a1 : Rect) (a2 : Node) (a3 : Int) : Option (Rect × Rect × Rect) :=
 (JR a1 a2.Kind).bind fun v4 =>
 (WY a1 a2.Kind (Span.mk v4.A a2.At)).bind fun v6 =>
 (WY a1 a2.Kind (Span.mk a2.At (imin (w64 (a2.At + a3)) v4.B))).bind fun v8 =>
 (WY a1 a2.Kind (Span.mk (imin (w64 (a2.At + a3)) v4.B) v4.B)).bind fun v10 =>
 some (v6, v8, v10)
/- sawmill/pattern.places$1 -/
def JN (x8 : Int) (rec_pattern_places_1_L1 : (List Pattern_place) → Int → Int → Int → Option ((Nat × Int × Int) ⊕ (Int × Int))) (l25 : List Pattern_place) (x26 : Int) (x27 : Int) : Option ((Nat × Int × Int) ⊕ (Int × Int)) :=
 rec_pattern_places_1_L1 l25 (w64 (x8 + 1)) x27 x26
def wP (a1 : Pattern) (a2 : List Product) (a5 : Pattern) (a6 : Int) : Nat → (List Pattern_place) → Int → Int → Int → Option ((Nat × Int × Int) ⊕ (Int × Int))
 | 0, _, _, _, _ => none
 | n + 1, l7, x8, x9, x10 =>
 bif decide (((l7.length : Nat) : Int) > 0) then
 bif inb (w64 (((l7.length : Nat) : Int) - 1)) l7.length then
 bif slOk 0 (w64 (((l7.length : Nat) : Int) - 1)) l7.length then
 (wO x8 (l7.getD ((w64 (((l7.length : Nat) : Int) - 1)).toNat) default) a1 a2 x9 x10).bind fun v14 =>
 bif !(Nat.beq v14.1 0) then
 some (Sum.inl (v14.1, v14.2.1, v14.2.2))
 else
 bif decide (x8 ≥ ((a5.Nodes.length : Nat) : Int)) then
 some (Sum.inl (0, v14.2.1, v14.2.2))
 else
 bif inb x8 a5.Nodes.length then
 (wL ((a5.Nodes.getD x8.toNat default).Kind)).bind fun v19 =>
 bif v19 then
 (wX ((l7.getD ((w64 (((l7.length : Nat) : Int) - 1)).toNat) default).rect) (a5.Nodes.getD x8.toNat default) a6).bind fun v22 =>
 bif room ((w64 (((l7.length : Nat) : Int) - 1)).toNat + 2) 40 then
 JN x8 (wP a1 a2 a5 a6 n) ((l7.take ((w64 (((l7.length : Nat) : Int) - 1)).toNat)) ++ ([(Pattern_place.mk v22.2.2 (w64 (((l7.getD ((w64 (((l7.length : Nat) : Int) - 1)).toNat) default).level) + 1))), (Pattern_place.mk v22.1 (w64 (((l7.getD ((w64 (((l7.length : Nat) : Int) - 1)).toNat) default).level) + 1)))] : List Pattern_place)) v14.2.2 v14.2.1
 else none
 else
 JN x8 (wP a1 a2 a5 a6 n) (l7.take ((w64 (((l7.length : Nat) : Int) - 1)).toNat)) v14.2.2 v14.2.1
 else none
 else none
 else none
 else
 some (Sum.inr (x10, x9))
def WV (a1 : Pattern) (a2 : List Product) (a3 : Int) (a4 : Int) (a5 : Pattern) (a6 : Int) : Option (Nat × Int × Int) :=
 (wP a1 a2 a5 a6 FUEL ([(Pattern_place.mk a5.Frame 1)] : List Pattern_place) 0 a3 a4).bind fun u32 => Sum.elim (fun v33 => some v33) (fun o30 =>
 some (0, o30.2, o30.1)) u32
/- sawmill/pattern.check -/
def QN (a1 : Pattern) (a2 : Int) (a3 : List Product) (x8 : Bool) : Option Int :=
 bif x8 then
 some 9
 else
 bif decide (((a1.Nodes.length : Nat) : Int) > 127) then
 some 4
 else
 (wN a1 a2).bind fun v11 =>
 (WV a1 a3 0 0 v11.1 v11.2).bind fun v13 =>
 bif Nat.beq v13.1 0 then
 bif decide (v13.2.2 < ((a1.Nodes.length : Nat) : Int)) then
 some 4
 else
 some 0
 else
 bif Nat.beq v13.1 1 then
 some v13.2.1
 else
 none
def GO (a1 : Pattern) (a2 : Int) (a3 : List Product) : Option Int :=
 (ZU a1.Frame).bind fun v4 =>
 bif !v4 then
 some 19
 else
 bif decide (a2 < 0) then
 QN a1 a2 a3 true
 else
 QN a1 a2 a3 (decide (a2 > 20))
/- sawmill/pattern.Check -/
def PO (a1 : Pattern) (a2 : List Product) (a3 : Int) : Option Int :=
 (GO a1 a3 a2).bind fun v4 =>
 some v4
/- sawmill/yield.check -/
def RB (a1 : List qF) (a2 : List Defect) (a3 : List Product) (a4 : Pattern) (a5 : Saw) (a6 : Rates) : Option Int :=
 (YW a1).bind fun v7 =>
 bif v7 != 0 then
 some v7
 else
 (KC a2).bind fun v10 =>
 bif v10 != 0 then
 some v10
 else
 (JW a3).bind fun v13 =>
 bif v13 != 0 then
 some v13
 else
 (GC a5 a6).bind fun v16 =>
 bif v16 != 0 then
 some v16
 else
 (PO a4 a3 a5.Kerf).bind fun v19 =>
 some v19
/- sawmill/pattern.anyBoard -/
def JL (x4 : Bool) : Option Int :=
 bif x4 then
 some 8
 else
 some 0
def WZ (a1 : Rect) (a2 : Int) : Option Int :=
 bif decide (a2 < 0) then
 JL true
 else
 JL (decide (a2 ≥ 16))
/- sawmill/pattern.check -/
def yE (a1 : Int) (a4 : Int) (a5 : Int) (x15 : Int) : Option (Nat × Int × Int) :=
 bif x15 != 0 then
 some (1, x15, a5)
 else
 some (0, a4, w64 (a1 + 1))
def yF (a1 : Int) (a2 : Pattern_place) (a3 : Pattern) (a4 : Int) (a5 : Int) (v8 : Int) (x11 : Bool) : Option (Nat × Int × Int) :=
 bif x11 then
 (WZ a2.rect ((a3.Nodes.getD a1.toNat default).At)).bind fun v13 =>
 yE a1 a4 a5 v13
 else
 yE a1 a4 a5 v8
def zV (a1 : Int) (a2 : Pattern_place) (a3 : Pattern) (a4 : Int) (a5 : Int) : Option (Nat × Int × Int) :=
 bif decide (a1 ≥ ((a3.Nodes.length : Nat) : Int)) then
 some (1, 3, a5)
 else
 bif inb a1 a3.Nodes.length then
 (yY (a3.Nodes.getD a1.toNat default) a2).bind fun v8 =>
 bif v8 == 0 then
 yF a1 a2 a3 a4 a5 v8 (((a3.Nodes.getD a1.toNat default).Kind) == 1)
 else
 yF a1 a2 a3 a4 a5 v8 false
 else none
/- sawmill/pattern.places$1 -/
def ZA (x7 : Int) (rec_pattern_places_1_s1_L1 : (List Pattern_place) → Int → Int → Int → Option ((Nat × Int × Int) ⊕ (Int × Int))) (l24 : List Pattern_place) (x25 : Int) (x26 : Int) : Option ((Nat × Int × Int) ⊕ (Int × Int)) :=
 rec_pattern_places_1_s1_L1 l24 (w64 (x7 + 1)) x26 x25
def zU (a1 : Pattern) (a4 : Pattern) (a5 : Int) : Nat → (List Pattern_place) → Int → Int → Int → Option ((Nat × Int × Int) ⊕ (Int × Int))
 | 0, _, _, _, _ => none
 | n + 1, l6, x7, x8, x9 =>
 bif decide (((l6.length : Nat) : Int) > 0) then
 bif inb (w64 (((l6.length : Nat) : Int) - 1)) l6.length then
 bif slOk 0 (w64 (((l6.length : Nat) : Int) - 1)) l6.length then
 (zV x7 (l6.getD ((w64 (((l6.length : Nat) : Int) - 1)).toNat) default) a1 x8 x9).bind fun v13 =>
 bif !(Nat.beq v13.1 0) then
 some (Sum.inl (v13.1, v13.2.1, v13.2.2))
 else
 bif decide (x7 ≥ ((a4.Nodes.length : Nat) : Int)) then
 some (Sum.inl (0, v13.2.1, v13.2.2))
 else
 bif inb x7 a4.Nodes.length then
 (wL ((a4.Nodes.getD x7.toNat default).Kind)).bind fun v18 =>
 bif v18 then
 (wX ((l6.getD ((w64 (((l6.length : Nat) : Int) - 1)).toNat) default).rect) (a4.Nodes.getD x7.toNat default) a5).bind fun v21 =>
 bif room ((w64 (((l6.length : Nat) : Int) - 1)).toNat + 2) 40 then
 ZA x7 (zU a1 a4 a5 n) ((l6.take ((w64 (((l6.length : Nat) : Int) - 1)).toNat)) ++ ([(Pattern_place.mk v21.2.2 (w64 (((l6.getD ((w64 (((l6.length : Nat) : Int) - 1)).toNat) default).level) + 1))), (Pattern_place.mk v21.1 (w64 (((l6.getD ((w64 (((l6.length : Nat) : Int) - 1)).toNat) default).level) + 1)))] : List Pattern_place)) v13.2.2 v13.2.1
 else none
 else
 ZA x7 (zU a1 a4 a5 n) (l6.take ((w64 (((l6.length : Nat) : Int) - 1)).toNat)) v13.2.2 v13.2.1
 else none
 else none
 else none
 else
 some (Sum.inr (x9, x8))
def QL (a1 : Pattern) (a2 : Int) (a3 : Int) (a4 : Pattern) (a5 : Int) : Option (Nat × Int × Int) :=
 (zU a1 a4 a5 FUEL ([(Pattern_place.mk a4.Frame 1)] : List Pattern_place) 0 a2 a3).bind fun u31 => Sum.elim (fun v32 => some v32) (fun o29 =>
 some (0, o29.2, o29.1)) u31
/- sawmill/pattern.check -/
def JM (a1 : Pattern) (a2 : Int) (x7 : Bool) : Option Int :=
 bif x7 then
 some 9
 else
 bif decide (((a1.Nodes.length : Nat) : Int) > 127) then
 some 4
 else
 (wN a1 a2).bind fun v10 =>
 (QL a1 0 0 v10.1 v10.2).bind fun v12 =>
 bif Nat.beq v12.1 0 then
 bif decide (v12.2.2 < ((a1.Nodes.length : Nat) : Int)) then
 some 4
 else
 some 0
 else
 bif Nat.beq v12.1 1 then
 some v12.2.1
 else
 none
def QU (a1 : Pattern) (a2 : Int) : Option Int :=
 (ZU a1.Frame).bind fun v3 =>
 bif !v3 then
 some 19
 else
 bif decide (a2 < 0) then
 JM a1 a2 true
 else
 JM a1 a2 (decide (a2 > 20))
/- sawmill/pattern.Leaves -/
def wG (a1 : Int) (a2 : Pattern_place) (a3 : Pattern) (a4 : List Leaf) : Option (Nat × (List Leaf)) :=
 bif inb a1 a3.Nodes.length then
 bif ((a3.Nodes.getD a1.toNat default).Kind) == 0 then
 bif room (a4.length + 1) 40 then
 some (0, (a4 ++ ([(Leaf.mk a2.rect (-1))] : List Leaf)))
 else none
 else
 bif ((a3.Nodes.getD a1.toNat default).Kind) == 1 then
 bif room (a4.length + 1) 40 then
 some (0, (a4 ++ ([(Leaf.mk a2.rect ((a3.Nodes.getD a1.toNat default).At))] : List Leaf)))
 else none
 else
 some (0, a4)
 else none
/- sawmill/pattern.places$1 -/
def ZE (x6 : Int) (rec_pattern_places_1_s2_L1 : (List Pattern_place) → Int → (List Leaf) → Option ((Nat × (List Leaf)) ⊕ (List Leaf))) (l22 : List Pattern_place) (l23 : List Leaf) : Option ((Nat × (List Leaf)) ⊕ (List Leaf)) :=
 rec_pattern_places_1_s2_L1 l22 (w64 (x6 + 1)) l23
def zS (a1 : Pattern) (a2 : Pattern) (a3 : Int) : Nat → (List Pattern_place) → Int → (List Leaf) → Option ((Nat × (List Leaf)) ⊕ (List Leaf))
 | 0, _, _, _ => none
 | n + 1, l5, x6, l7 =>
 bif decide (((l5.length : Nat) : Int) > 0) then
 bif inb (w64 (((l5.length : Nat) : Int) - 1)) l5.length then
 bif slOk 0 (w64 (((l5.length : Nat) : Int) - 1)) l5.length then
 (wG x6 (l5.getD ((w64 (((l5.length : Nat) : Int) - 1)).toNat) default) a1 l7).bind fun v11 =>
 bif !(Nat.beq v11.1 0) then
 some (Sum.inl (v11.1, v11.2))
 else
 bif decide (x6 ≥ ((a2.Nodes.length : Nat) : Int)) then
 some (Sum.inl (0, v11.2))
 else
 bif inb x6 a2.Nodes.length then
 (wL ((a2.Nodes.getD x6.toNat default).Kind)).bind fun v16 =>
 bif v16 then
 (wX ((l5.getD ((w64 (((l5.length : Nat) : Int) - 1)).toNat) default).rect) (a2.Nodes.getD x6.toNat default) a3).bind fun v19 =>
 bif room ((w64 (((l5.length : Nat) : Int) - 1)).toNat + 2) 40 then
 ZE x6 (zS a1 a2 a3 n) ((l5.take ((w64 (((l5.length : Nat) : Int) - 1)).toNat)) ++ ([(Pattern_place.mk v19.2.2 (w64 (((l5.getD ((w64 (((l5.length : Nat) : Int) - 1)).toNat) default).level) + 1))), (Pattern_place.mk v19.1 (w64 (((l5.getD ((w64 (((l5.length : Nat) : Int) - 1)).toNat) default).level) + 1)))] : List Pattern_place)) v11.2
 else none
 else
 ZE x6 (zS a1 a2 a3 n) (l5.take ((w64 (((l5.length : Nat) : Int) - 1)).toNat)) v11.2
 else none
 else none
 else none
 else
 some (Sum.inr l7)
def QK (a1 : Pattern) (a2 : Pattern) (a3 : Int) (a4 : List Leaf) : Option (Nat × (List Leaf)) :=
 (zS a1 a2 a3 FUEL ([(Pattern_place.mk a2.Frame 1)] : List Pattern_place) 0 a4).bind fun u27 => Sum.elim (fun v28 => some v28) (fun o25 =>
 some (0, o25)) u27
/- sawmill/pattern.Leaves -/
def XZ (a1 : Pattern) (a2 : Int) : Option ((List Leaf) × Int) :=
 (QU a1 a2).bind fun v3 =>
 bif v3 != 0 then
 some (([] : List Leaf), v3)
 else
 (wN a1 a2).bind fun v6 =>
 (QK a1 v6.1 v6.2 ([] : List Leaf)).bind fun v8 =>
 bif Nat.beq v8.1 0 then
 some (v8.2, 0)
 else
 none
/- sawmill/yield.boardLeaves -/
def YZ (a1 : List Leaf) : Option (List Leaf) :=
 some a1
/- sawmill/worth.isRect -/
def jJ (x2 : Int) (rec_worth_isRect_L1 : Int → Option (Bool ⊕ Unit)) (x7 : Bool) : Option (Bool ⊕ Unit) :=
 bif x7 then
 some (Sum.inl false)
 else
 rec_worth_isRect_L1 (w64 (x2 + 1))
def zO (a1 : Rect) : Nat → Int → Option (Bool ⊕ Unit)
 | 0, _ => none
 | n + 1, x2 =>
 bif decide (x2 < 2) then
 bif inb x2 2 then
 bif decide ((([a1.X.A, a1.X.B, a1.Y.A, a1.Y.B] : List Int).getD (x2.toNat * 2 + 0) 0) < (-600)) then
 jJ x2 (zO a1 n) true
 else
 bif decide ((([a1.X.A, a1.X.B, a1.Y.A, a1.Y.B] : List Int).getD (x2.toNat * 2 + 1) 0) > 600) then
 jJ x2 (zO a1 n) true
 else
 jJ x2 (zO a1 n) (decide ((([a1.X.A, a1.X.B, a1.Y.A, a1.Y.B] : List Int).getD (x2.toNat * 2 + 0) 0) ≥ (([a1.X.A, a1.X.B, a1.Y.A, a1.Y.B] : List Int).getD (x2.toNat * 2 + 1) 0)))
 else none
 else
 some (Sum.inr ())
def TV (a1 : Rect) : Option Bool :=
 (zO a1 FUEL 0).bind fun u11 => Sum.elim (fun v12 => some v12) (fun o9 =>
 some true) u11
/- sawmill/solid.valid -/
def YY (a1 : List qF) : Option (List qF) :=
 (YW a1).bind fun v2 =>
 bif v2 != 0 then
 some ([] : List qF)
 else
 some a1
/- sawmill/solid.Length -/
def yS (v2 : (List qF)) : Nat → Int → Int → Option Int
 | 0, _, _ => none
 | n + 1, x4, x5 =>
 bif decide (x5 < ((v2.length : Nat) : Int)) then
 bif inb x5 v2.length then
 (yS v2 n) (w64 (x4 + ((v2.getD x5.toNat default).Len))) (w64 (x5 + 1))
 else none
 else
 some x4
def JF (a1 : List qF) : Option Int :=
 (YY a1).bind fun v2 =>
 (yS v2 FUEL 0 0).bind fun o9 =>
 some o9
/- sawmill/section.valid -/
def JX (a1 : qI) : Option qI :=
 (JU a1).bind fun v2 =>
 bif v2 != 0 then
 some (qI.mk 0 ([] : List Span))
 else
 some a1
/- sawmill/section.heights -/
def YG (a1 : Int) (a2 : Int) : Option Span :=
 some (Span.mk (w64 (10 * a1)) (w64 (10 * a2)))
/- sawmill/span.Meet -/
def WH (a1 : Span) (a2 : Span) : Option Span :=
 bif decide ((imax a1.A a2.A) ≥ (imin a1.B a2.B)) then
 some (Span.mk 0 0)
 else
 some (Span.mk (imax a1.A a2.A) (imin a1.B a2.B))
/- sawmill/section.Within -/
def yX (a2 : Rect) (v3 : qI) : Nat → Int → Int → Option Int
 | 0, _, _ => none
 | n + 1, x5, x6 =>
 bif decide (x6 < ((v3.Rows.length : Nat) : Int)) then
 bif inb x6 v3.Rows.length then
 (YG (w64 (v3.Low + x6)) (w64 ((w64 (v3.Low + x6)) + 1))).bind fun v9 =>
 (WH (v3.Rows.getD x6.toNat default) a2.X).bind fun v11 =>
 (ZZ v11).bind fun v13 =>
 (WH v9 a2.Y).bind fun v15 =>
 (ZZ v15).bind fun v17 =>
 (yX a2 v3 n) (w64 (x5 + (w64 (v13 * v17)))) (w64 (x6 + 1))
 else none
 else
 some x5
def WU (a1 : qI) (a2 : Rect) : Option Int :=
 (JX a1).bind fun v3 =>
 (yX a2 v3 FUEL 0 0).bind fun o20 =>
 some o20
/- sawmill/worth.lacks -/
def WQ (a1 : List qF) (a2 : Rect) : Nat → (List Worth_zone) → Int → Int → Option (List Worth_zone)
 | 0, _, _, _ => none
 | n + 1, l3, x4, x5 =>
 bif decide (x5 < ((a1.length : Nat) : Int)) then
 bif inb x5 a1.length then
 (WU ((a1.getD x5.toNat default).Sec) a2).bind fun v8 =>
 bif nz (w64 ((w64 (a2.X.B - a2.X.A)) * (w64 (a2.Y.B - a2.Y.A)))) then
 bif room (l3.length + 1) 24 then
 (WQ a1 a2 n) (l3 ++ ([(Worth_zone.mk (Span.mk x4 (w64 (x4 + ((a1.getD x5.toNat default).Len)))) (w64 (Int.tdiv (w64 ((w64 ((w64 (1000 * (w64 ((w64 ((w64 (a2.X.B - a2.X.A)) * (w64 (a2.Y.B - a2.Y.A)))) - v8)))) + (w64 ((w64 (a2.X.B - a2.X.A)) * (w64 (a2.Y.B - a2.Y.A)))))) - 1)) (w64 ((w64 (a2.X.B - a2.X.A)) * (w64 (a2.Y.B - a2.Y.A)))))))] : List Worth_zone)) (w64 (x4 + ((a1.getD x5.toNat default).Len))) (w64 (x5 + 1))
 else none
 else none
 else none
 else
 some l3
def GE (a1 : List qF) (a2 : Rect) : Option (List Worth_zone) :=
 (WQ a1 a2 FUEL ([] : List Worth_zone) 0 0).bind fun o13 =>
 some o13
/- (sawmill/worth.view).box -/
def WO (a1 : Worth_view) (a2 : Span) : Option Box :=
 some (Box.mk a1.rect.X a1.rect.Y a2)
/- sawmill/defect.meet -/
def KE (v3 : Span) (v5 : Span) (v7 : Span) (x17 : Bool) : Option (Box × Bool) :=
 bif x17 then
 some ((Box.mk (Span.mk 0 0) (Span.mk 0 0) (Span.mk 0 0)), false)
 else
 some ((Box.mk v3 v5 v7), true)
def FV (a1 : Box) (a2 : Box) : Option (Box × Bool) :=
 (WH a1.X a2.X).bind fun v3 =>
 (WH a1.Y a2.Y).bind fun v5 =>
 (WH a1.Z a2.Z).bind fun v7 =>
 (wZ v3).bind fun v9 =>
 bif v9 then
 KE v3 v5 v7 true
 else
 (wZ v5).bind fun v12 =>
 bif v12 then
 KE v3 v5 v7 true
 else
 (wZ v7).bind fun v15 =>
 KE v3 v5 v7 v15
/- sawmill/defect.Touches -/
def WK (a1 : Defect) (a2 : Box) : Option Bool :=
 (FV a1.Box a2).bind fun v3 =>
 some v3.2
/- sawmill/worth.look -/
def GN (x29 : Int) (rec_worth_look_L3 : Int → (List Defect) → Option (List Defect)) (l37 : List Defect) : Option (List Defect) :=
 rec_worth_look_L3 (w64 (x29 + 1)) l37
def QC (a2 : List Defect) (v27 : Box) : Nat → Int → (List Defect) → Option (List Defect)
 | 0, _, _ => none
 | n + 1, x29, l30 =>
 bif decide (x29 < ((a2.length : Nat) : Int)) then
 bif inb x29 a2.length then
 (WK (a2.getD x29.toNat default) v27).bind fun v33 =>
 bif v33 then
 bif room (l30.length + 1) 56 then
 GN x29 (QC a2 v27 n) (l30 ++ ([(a2.getD x29.toNat default)] : List Defect))
 else none
 else
 GN x29 (QC a2 v27 n) l30
 else none
 else
 some l30
def PM (a1 : List qF) (a2 : List Defect) (a3 : Product) (a4 : Rect) (x21 : Bool) : Option (Worth_view × Bool) :=
 bif x21 then
 some ((Worth_view.mk (Product.mk (ByteArray.mk #[]) 0 0 0 0 ([] : List Int) ([] : List Int)) (Rect.mk (Span.mk 0 0) (Span.mk 0 0)) 0 ([] : List Worth_zone) ([] : List Defect)), false)
 else
 (JF a1).bind fun v23 =>
 (GE a1 a4).bind fun v25 =>
 (WO (Worth_view.mk a3 a4 v23 v25 ([] : List Defect)) (Span.mk 0 v23)).bind fun v27 =>
 (QC a2 v27 FUEL 0 ([] : List Defect)).bind fun o39 =>
 some ((Worth_view.mk a3 a4 v23 v25 o39), true)
def JV (a1 : List qF) (a2 : List Defect) (a3 : Product) (a4 : Rect) (x16 : Bool) : Option (Worth_view × Bool) :=
 bif x16 then
 some ((Worth_view.mk (Product.mk (ByteArray.mk #[]) 0 0 0 0 ([] : List Int) ([] : List Int)) (Rect.mk (Span.mk 0 0) (Span.mk 0 0)) 0 ([] : List Worth_zone) ([] : List Defect)), false)
 else
 (ZY a3).bind fun v18 =>
 bif !(((w64 (a4.X.B - a4.X.A)) == v18.1) && (((w64 (a4.Y.B - a4.Y.A)) == v18.2) && true)) then
 PM a1 a2 a3 a4 (!(((w64 (a4.X.B - a4.X.A)) == v18.2) && (((w64 (a4.Y.B - a4.Y.A)) == v18.1) && true)))
 else
 PM a1 a2 a3 a4 false
def BO (a1 : List qF) (a2 : List Defect) (a3 : Product) (a4 : Rect) : Option (Worth_view × Bool) :=
 (YW a1).bind fun v5 =>
 bif v5 != 0 then
 JV a1 a2 a3 a4 true
 else
 (KC a2).bind fun v8 =>
 bif v8 != 0 then
 JV a1 a2 a3 a4 true
 else
 (JW ([a3] : List Product)).bind fun v11 =>
 bif v11 != 0 then
 JV a1 a2 a3 a4 true
 else
 (TV a4).bind fun v14 =>
 JV a1 a2 a3 a4 (!v14)
/- sawmill/worth.isWithin -/
def WB (x5 : Bool) : Option Bool :=
 some x5
def VB (a1 : Span) (a2 : Int) : Option Bool :=
 bif decide (a1.A ≥ 0) then
 bif decide (a1.A < a1.B) then
 WB (decide (a1.B ≤ a2))
 else
 WB false
 else
 WB false
/- sawmill/product.Price -/
def jQ (a1 : Product) (a2 : Int) : Nat → Int → Option ((Int × Bool) ⊕ Unit)
 | 0, _ => none
 | n + 1, x3 =>
 bif decide (x3 < ((a1.Lengths.length : Nat) : Int)) then
 bif inb x3 a1.Lengths.length then
 bif (a1.Lengths.getD x3.toNat default) != a2 then
 (jQ a1 a2 n) (w64 (x3 + 1))
 else
 bif decide (x3 ≥ ((a1.Prices.length : Nat) : Int)) then
 some (Sum.inl (0, false))
 else
 bif inb x3 a1.Prices.length then
 some (Sum.inl ((a1.Prices.getD x3.toNat default), true))
 else none
 else none
 else
 some (Sum.inr ())
def PK (a1 : Product) (a2 : Int) : Option (Int × Bool) :=
 (jQ a1 a2 FUEL 0).bind fun u11 => Sum.elim (fun v12 => some v12) (fun o9 =>
 some (0, false)) u11
/- sawmill/worth.worst -/
def VF (x4 : Int) (rec_worth_worst_L1 : Int → Int → Option Int) (x10 : Int) : Option Int :=
 rec_worth_worst_L1 x10 (w64 (x4 + 1))
def UX (a1 : List Worth_zone) (x3 : Int) (x4 : Int) (rec_worth_worst_L1 : Int → Int → Option Int) (x8 : Bool) : Option Int :=
 bif x8 then
 VF x4 rec_worth_worst_L1 (imax x3 ((a1.getD x4.toNat default).lack))
 else
 VF x4 rec_worth_worst_L1 x3
def jA (a1 : List Worth_zone) (a2 : Span) : Nat → Int → Int → Option Int
 | 0, _, _ => none
 | n + 1, x3, x4 =>
 bif decide (x4 < ((a1.length : Nat) : Int)) then
 bif inb x4 a1.length then
 bif decide ((((a1.getD x4.toNat default).z).A) < a2.B) then
 UX a1 x3 x4 (jA a1 a2 n) (decide (a2.A < (((a1.getD x4.toNat default).z).B)))
 else
 UX a1 x3 x4 (jA a1 a2 n) false
 else none
 else
 some x3
def GJ (a1 : List Worth_zone) (a2 : Span) : Option Int :=
 (jA a1 a2 FUEL 0 0).bind fun o12 =>
 some o12
/- (sawmill/worth.view).worth -/
def JI (x17 : Int) (rec_worth_view_worth_L2 : Int → Int → Option ((Int × Bool) ⊕ Int)) (x24 : Int) : Option ((Int × Bool) ⊕ Int) :=
 rec_worth_view_worth_L2 x24 (w64 (x17 + 1))
def zC (a1 : Worth_view) (a3 : Int) (v14 : Box) : Nat → Int → Int → Option ((Int × Bool) ⊕ Int)
 | 0, _, _ => none
 | n + 1, x16, x17 =>
 bif decide (x17 < ((a1.defects.length : Nat) : Int)) then
 bif inb x17 a1.defects.length then
 (WK (a1.defects.getD x17.toNat default) v14).bind fun v20 =>
 bif !v20 then
 JI x17 (zC a1 a3 v14 n) x16
 else
 bif ((a1.defects.getD x17.toNat default).Kind) == 3 then
 some (Sum.inl (0, false))
 else
 JI x17 (zC a1 a3 v14 n) (w64 (x16 - a3))
 else none
 else
 some (Sum.inr x16)
def JK (a1 : Worth_view) (a2 : Span) (a3 : Int) (v7 : Int × Bool) (x12 : Bool) : Option (Int × Bool) :=
 bif x12 then
 some (0, false)
 else
 (WO a1 a2).bind fun v14 =>
 (zC a1 a3 v14 FUEL v7.1 0).bind fun u28 => Sum.elim (fun v29 => some v29) (fun o26 =>
 some (imax o26 0, true)) u28
def QS (a1 : Worth_view) (a2 : Span) (a3 : Int) : Option (Int × Bool) :=
 (VB a2 a1.length).bind fun v4 =>
 bif !v4 then
 some (0, false)
 else
 (PK a1.product (w64 (a2.B - a2.A))).bind fun v7 =>
 bif !v7.2 then
 JK a1 a2 a3 v7 true
 else
 (GJ a1.zones a2).bind fun v10 =>
 JK a1 a2 a3 v7 (decide (v10 > a1.product.Wane))
/- sawmill/worth.Best -/
def GP (x24 : Int) (rec_worth_Best_L3 : Int → Bool → Int → Span → Option (Int × Bool × Span)) (x34 : Int) (x35 : Bool) (x36 : Span) : Option (Int × Bool × Span) :=
 rec_worth_Best_L3 x34 x35 (w64 (x24 + 1)) x36
def PQ (a3 : Product) (x19 : Int) (x22 : Int) (x23 : Bool) (x24 : Int) (x25 : Span) (rec_worth_Best_L3 : Int → Bool → Int → Span → Option (Int × Bool × Span)) (v28 : Int × Bool) (x32 : Bool) : Option (Int × Bool × Span) :=
 bif x32 then
 GP x24 rec_worth_Best_L3 v28.1 true (Span.mk x19 (w64 (x19 + (a3.Lengths.getD x24.toNat default))))
 else
 GP x24 rec_worth_Best_L3 x22 x23 x25
def wK (a3 : Product) (a6 : Int) (v14 : Worth_view × Bool) (x19 : Int) : Nat → Int → Bool → Int → Span → Option (Int × Bool × Span)
 | 0, _, _, _, _ => none
 | n + 1, x22, x23, x24, x25 =>
 bif decide (x24 < ((a3.Lengths.length : Nat) : Int)) then
 bif inb x24 a3.Lengths.length then
 (QS (Worth_view.mk v14.1.product v14.1.rect v14.1.length v14.1.zones v14.1.defects) (Span.mk x19 (w64 (x19 + (a3.Lengths.getD x24.toNat default)))) a6).bind fun v28 =>
 bif v28.2 then
 bif !x23 then
 PQ a3 x19 x22 x23 x24 x25 (wK a3 a6 v14 x19 n) v28 true
 else
 PQ a3 x19 x22 x23 x24 x25 (wK a3 a6 v14 x19 n) v28 (decide (v28.1 > x22))
 else
 PQ a3 x19 x22 x23 x24 x25 (wK a3 a6 v14 x19 n) v28 false
 else none
 else
 some (x22, x23, x25)
def ZV (a3 : Product) (a5 : Int) (a6 : Int) (v14 : Worth_view × Bool) : Nat → Int → Bool → Int → Span → Option (Int × Bool × Span)
 | 0, _, _, _, _ => none
 | n + 1, x17, x18, x19, x20 =>
 bif decide (x19 < v14.1.length) then
 (wK a3 a6 v14 x19 FUEL x17 x18 0 x20).bind fun o40 =>
 (ZV a3 a5 a6 v14 n) o40.1 o40.2.1 (w64 (x19 + a5)) o40.2.2
 else
 some (x17, x18, x20)
def GM (a1 : List qF) (a2 : List Defect) (a3 : Product) (a4 : Rect) (a5 : Int) (a6 : Int) (x12 : Bool) : Option (Span × Int × Bool) :=
 bif x12 then
 some ((Span.mk 0 0), 0, false)
 else
 (BO a1 a2 a3 a4).bind fun v14 =>
 bif !v14.2 then
 some ((Span.mk 0 0), 0, false)
 else
 (ZV a3 a5 a6 v14 FUEL 0 false 0 (Span.mk 0 0)).bind fun o45 =>
 some (o45.2.2, o45.1, o45.2.1)
def NE (a1 : List qF) (a2 : List Defect) (a3 : Product) (a4 : Rect) (a5 : Int) (a6 : Int) : Option (Span × Int × Bool) :=
 (XR a5).bind fun v7 =>
 bif !v7 then
 GM a1 a2 a3 a4 a5 a6 true
 else
 (XL a6).bind fun v10 =>
 GM a1 a2 a3 a4 a5 a6 (!v10)
/- sawmill/yield.box -/
def YC (a1 : Rect) (a2 : Span) : Option Box :=
 some (Box.mk a1.X a1.Y a2)
/- sawmill/yield.Boards -/
def YQ (a1 : Int) (a2 : Leaf) (a3 : List qF) (a4 : List Defect) (a5 : List Product) (a6 : Saw) (a7 : Int) (a8 : List Yield_Cut) : Option (Nat × (List Yield_Cut)) :=
 bif inb a2.Product a5.length then
 (NE a3 a4 (a5.getD a2.Product.toNat default) a2.Rect a6.Step a7).bind fun v10 =>
 bif v10.2.2 then
 (YC a2.Rect v10.1).bind fun v13 =>
 bif room (a8.length + 1) 72 then
 some (0, (a8 ++ ([(Yield_Cut.mk a1 a2.Product v13 v10.2.1)] : List Yield_Cut)))
 else none
 else
 some (0, a8)
 else none
/- sawmill/yield.boardLeaves$1 -/
def ZD (x8 : Int) (rec_yield_boardLeaves_1_L1 : Int → (List Yield_Cut) → Option ((Nat × (List Yield_Cut)) ⊕ (List Yield_Cut))) (l16 : List Yield_Cut) : Option ((Nat × (List Yield_Cut)) ⊕ (List Yield_Cut)) :=
 rec_yield_boardLeaves_1_L1 (w64 (x8 + 1)) l16
def zD (a1 : List qF) (a2 : List Defect) (a3 : List Product) (a4 : Saw) (a5 : Int) (a6 : List Leaf) : Nat → Int → (List Yield_Cut) → Option ((Nat × (List Yield_Cut)) ⊕ (List Yield_Cut))
 | 0, _, _ => none
 | n + 1, x8, l9 =>
 bif decide (x8 < ((a6.length : Nat) : Int)) then
 bif inb x8 a6.length then
 bif ((a6.getD x8.toNat default).Product) != (-1) then
 (YQ x8 (a6.getD x8.toNat default) a1 a2 a3 a4 a5 l9).bind fun v13 =>
 bif !(Nat.beq v13.1 0) then
 some (Sum.inl (v13.1, v13.2))
 else
 ZD x8 (zD a1 a2 a3 a4 a5 a6 n) v13.2
 else
 ZD x8 (zD a1 a2 a3 a4 a5 a6 n) l9
 else none
 else
 some (Sum.inr l9)
def QJ (a1 : List qF) (a2 : List Defect) (a3 : List Product) (a4 : Saw) (a5 : Int) (a6 : List Leaf) (a7 : List Yield_Cut) : Option (Nat × (List Yield_Cut)) :=
 (zD a1 a2 a3 a4 a5 a6 FUEL 0 a7).bind fun u20 => Sum.elim (fun v21 => some v21) (fun o18 =>
 some (0, o18)) u20
/- sawmill/yield.Boards -/
def ZH (a1 : List qF) (a2 : List Defect) (a3 : List Product) (a4 : Pattern) (a5 : Saw) (a6 : Int) : Option ((List Yield_Cut) × Int) :=
 (RB a1 a2 a3 a4 a5 (Rates.mk 0 0 a6)).bind fun v7 =>
 bif v7 != 0 then
 some (([] : List Yield_Cut), v7)
 else
 (XZ a4 a5.Kerf).bind fun v10 =>
 bif v10.2 != 0 then
 some (([] : List Yield_Cut), v10.2)
 else
 (YZ v10.1).bind fun v13 =>
 (QJ a1 a2 a3 a5 a6 v13 ([] : List Yield_Cut)).bind fun v15 =>
 bif Nat.beq v15.1 0 then
 some (v15.2, 0)
 else
 none
/- sawmill/pattern.Cuts -/
def wV (a1 : Int) (a2 : Pattern_place) (a3 : Pattern) (a4 : Int) (a5 : List Rect) : Option (Nat × (List Rect)) :=
 bif inb a1 a3.Nodes.length then
 (wL ((a3.Nodes.getD a1.toNat default).Kind)).bind fun v7 =>
 bif v7 then
 (wX a2.rect (a3.Nodes.getD a1.toNat default) a4).bind fun v10 =>
 bif room (a5.length + 1) 32 then
 some (0, (a5 ++ ([v10.2.1] : List Rect)))
 else none
 else
 some (0, a5)
 else none
/- sawmill/pattern.places$1 -/
def ZF (x7 : Int) (rec_pattern_places_1_s3_L1 : (List Pattern_place) → Int → (List Rect) → Option ((Nat × (List Rect)) ⊕ (List Rect))) (l23 : List Pattern_place) (l24 : List Rect) : Option ((Nat × (List Rect)) ⊕ (List Rect)) :=
 rec_pattern_places_1_s3_L1 l23 (w64 (x7 + 1)) l24
def zT (a1 : Pattern) (a2 : Int) (a3 : Pattern) (a4 : Int) : Nat → (List Pattern_place) → Int → (List Rect) → Option ((Nat × (List Rect)) ⊕ (List Rect))
 | 0, _, _, _ => none
 | n + 1, l6, x7, l8 =>
 bif decide (((l6.length : Nat) : Int) > 0) then
 bif inb (w64 (((l6.length : Nat) : Int) - 1)) l6.length then
 bif slOk 0 (w64 (((l6.length : Nat) : Int) - 1)) l6.length then
 (wV x7 (l6.getD ((w64 (((l6.length : Nat) : Int) - 1)).toNat) default) a1 a2 l8).bind fun v12 =>
 bif !(Nat.beq v12.1 0) then
 some (Sum.inl (v12.1, v12.2))
 else
 bif decide (x7 ≥ ((a3.Nodes.length : Nat) : Int)) then
 some (Sum.inl (0, v12.2))
 else
 bif inb x7 a3.Nodes.length then
 (wL ((a3.Nodes.getD x7.toNat default).Kind)).bind fun v17 =>
 bif v17 then
 (wX ((l6.getD ((w64 (((l6.length : Nat) : Int) - 1)).toNat) default).rect) (a3.Nodes.getD x7.toNat default) a4).bind fun v20 =>
 bif room ((w64 (((l6.length : Nat) : Int) - 1)).toNat + 2) 40 then
 ZF x7 (zT a1 a2 a3 a4 n) ((l6.take ((w64 (((l6.length : Nat) : Int) - 1)).toNat)) ++ ([(Pattern_place.mk v20.2.2 (w64 (((l6.getD ((w64 (((l6.length : Nat) : Int) - 1)).toNat) default).level) + 1))), (Pattern_place.mk v20.1 (w64 (((l6.getD ((w64 (((l6.length : Nat) : Int) - 1)).toNat) default).level) + 1)))] : List Pattern_place)) v12.2
 else none
 else
 ZF x7 (zT a1 a2 a3 a4 n) (l6.take ((w64 (((l6.length : Nat) : Int) - 1)).toNat)) v12.2
 else none
 else none
 else none
 else
 some (Sum.inr l8)
def QI (a1 : Pattern) (a2 : Int) (a3 : Pattern) (a4 : Int) (a5 : List Rect) : Option (Nat × (List Rect)) :=
 (zT a1 a2 a3 a4 FUEL ([(Pattern_place.mk a3.Frame 1)] : List Pattern_place) 0 a5).bind fun u28 => Sum.elim (fun v29 => some v29) (fun o26 =>
 some (0, o26)) u28
/- sawmill/pattern.Cuts -/
def TZ (a1 : Pattern) (a2 : Int) : Option ((List Rect) × Int) :=
 (QU a1 a2).bind fun v3 =>
 bif v3 != 0 then
 some (([] : List Rect), v3)
 else
 (wN a1 a2).bind fun v6 =>
 (QI a1 a2 v6.1 v6.2 ([] : List Rect)).bind fun v8 =>
 bif Nat.beq v8.1 0 then
 some (v8.2, 0)
 else
 none
/- sawmill/section.Area -/
def ZQ (v2 : qI) : Nat → Int → Int → Option Int
 | 0, _, _ => none
 | n + 1, x4, x5 =>
 bif decide (x5 < ((v2.Rows.length : Nat) : Int)) then
 bif inb x5 v2.Rows.length then
 (ZZ (v2.Rows.getD x5.toNat default)).bind fun v8 =>
 (ZQ v2 n) (w64 (x4 + v8)) (w64 (x5 + 1))
 else none
 else
 some x4
def TI (a1 : qI) : Option Int :=
 (JX a1).bind fun v2 =>
 (ZQ v2 FUEL 0 0).bind fun o11 =>
 some (w64 (10 * o11))
/- sawmill/solid.Volume -/
def ZS (v2 : (List qF)) : Nat → Int → Int → Option Int
 | 0, _, _ => none
 | n + 1, x4, x5 =>
 bif decide (x5 < ((v2.length : Nat) : Int)) then
 bif inb x5 v2.length then
 (TI ((v2.getD x5.toNat default).Sec)).bind fun v8 =>
 (ZS v2 n) (w64 (x4 + (w64 (((v2.getD x5.toNat default).Len) * v8)))) (w64 (x5 + 1))
 else none
 else
 some x4
def XX (a1 : List qF) : Option Int :=
 (YY a1).bind fun v2 =>
 (ZS v2 FUEL 0 0).bind fun o11 =>
 some o11
/- sawmill/solid.extents -/
def QT (a1 : List qF) : Nat → (List Span) → Int → Int → Option (List Span)
 | 0, _, _, _ => none
 | n + 1, l3, x4, x5 =>
 bif decide (x5 < ((a1.length : Nat) : Int)) then
 bif inb x5 a1.length then
 bif inb x5 l3.length then
 (QT a1 n) (l3.set x5.toNat (Span.mk x4 (w64 (x4 + ((a1.getD x5.toNat default).Len))))) (w64 (x4 + ((a1.getD x5.toNat default).Len))) (w64 (x5 + 1))
 else none
 else none
 else
 some l3
def PR (a1 : List qF) : Option (List Span) :=
 bif mkOk ((a1.length : Nat) : Int) 16 then
 (QT a1 FUEL (List.replicate (((a1.length : Nat) : Int).toNat) (Span.mk 0 0)) 0 0).bind fun o10 =>
 some o10
 else none
/- sawmill/solid.Within -/
def RU (x8 : Int) (rec_solid_Within_L1 : Int → Int → Option Int) (x19 : Int) : Option Int :=
 rec_solid_Within_L1 x19 (w64 (x8 + 1))
def jI (a2 : Box) (v3 : (List qF)) (v5 : (List Span)) : Nat → Int → Int → Option Int
 | 0, _, _ => none
 | n + 1, x7, x8 =>
 bif decide (x8 < ((v5.length : Nat) : Int)) then
 bif inb x8 v5.length then
 (WH (v5.getD x8.toNat default) a2.Z).bind fun v11 =>
 (ZZ v11).bind fun v13 =>
 bif decide (v13 > 0) then
 bif inb x8 v3.length then
 (WU ((v3.getD x8.toNat default).Sec) (Rect.mk a2.X a2.Y)).bind fun v17 =>
 RU x8 (jI a2 v3 v5 n) (w64 (x7 + (w64 (v13 * v17))))
 else none
 else
 RU x8 (jI a2 v3 v5 n) x7
 else none
 else
 some x7
def yN (a1 : List qF) (a2 : Box) : Option Int :=
 (YY a1).bind fun v3 =>
 (PR v3).bind fun v5 =>
 (jI a2 v3 v5 FUEL 0 0).bind fun o21 =>
 some o21
/- sawmill/yield.Of -/
def YU (a1 : List qF) (v13 : (List Rect) × Int) (v16 : Int) (v18 : Int) : Nat → Int → Int → Option Yield
 | 0, _, _ => none
 | n + 1, x20, x21 =>
 bif decide (x20 < ((v13.1.length : Nat) : Int)) then
 bif inb x20 v13.1.length then
 (YC (v13.1.getD x20.toNat default) (Span.mk 0 v16)).bind fun v24 =>
 (yN a1 v24).bind fun v26 =>
 (YU a1 v13 v16 v18 n) (w64 (x20 + 1)) (w64 (x21 + v26))
 else none
 else
 some (Yield.mk v18 0 0 x21 0)
def YT (a1 : List qF) (a5 : Saw) (v10 : (List Yield_Cut) × Int) (v16 : Int) (o29 : Yield) : Nat → Int → Int → Int → Int → Option Yield
 | 0, _, _, _, _ => none
 | n + 1, x31, x32, x33, x34 =>
 bif decide (x31 < ((v10.1.length : Nat) : Int)) then
 bif inb x31 v10.1.length then
 (yN a1 ((v10.1.getD x31.toNat default).Box)).bind fun v37 =>
 (YC (Rect.mk (((v10.1.getD x31.toNat default).Box).X) (((v10.1.getD x31.toNat default).Box).Y)) (Span.mk (imax 0 (w64 (((((v10.1.getD x31.toNat default).Box).Z).A) - a5.Trim))) ((((v10.1.getD x31.toNat default).Box).Z).A))).bind fun v39 =>
 (yN a1 v39).bind fun v41 =>
 (YC (Rect.mk (((v10.1.getD x31.toNat default).Box).X) (((v10.1.getD x31.toNat default).Box).Y)) (Span.mk ((((v10.1.getD x31.toNat default).Box).Z).B) (imin (w64 (((((v10.1.getD x31.toNat default).Box).Z).B) + a5.Trim)) v16))).bind fun v43 =>
 (yN a1 v43).bind fun v45 =>
 (YT a1 a5 v10 v16 o29 n) (w64 (x31 + 1)) (w64 (x32 + v37)) (w64 ((w64 (x33 + v41)) + v45)) (w64 (x34 + (w64 (1000000 * ((v10.1.getD x31.toNat default).Worth)))))
 else none
 else
 some (Yield.mk o29.Log x32 o29.Chips x33 x34)
def GT (a1 : List qF) (a2 : List Defect) (a3 : List Product) (a4 : Pattern) (a5 : Saw) (a6 : Rates) : Option (Yield × Int) :=
 (RB a1 a2 a3 a4 a5 a6).bind fun v7 =>
 bif v7 != 0 then
 some ((Yield.mk 0 0 0 0 0), v7)
 else
 (ZH a1 a2 a3 a4 a5 a6.Fine).bind fun v10 =>
 bif v10.2 != 0 then
 some ((Yield.mk 0 0 0 0 0), v10.2)
 else
 (TZ a4 a5.Kerf).bind fun v13 =>
 bif v13.2 != 0 then
 some ((Yield.mk 0 0 0 0 0), v13.2)
 else
 (JF a1).bind fun v16 =>
 (XX a1).bind fun v18 =>
 (YU a1 v13 v16 v18 FUEL 0 0).bind fun o29 =>
 (YT a1 a5 v10 v16 o29 FUEL 0 o29.Boards o29.Dust o29.Value).bind fun o48 =>
 some ((Yield.mk o48.Log o48.Boards (w64 ((w64 (o48.Log - o48.Boards)) - o48.Dust)) o48.Dust (w64 (o48.Value + (w64 ((w64 (a6.Chip * (w64 ((w64 (o48.Log - o48.Boards)) - o48.Dust)))) + (w64 (a6.Dust * o48.Dust))))))), 0)
/- sawmill/sawmilllaw22.of -/
def PI (a1 : Law22_Given) : Option (Yield × Int) :=
 (GT a1.Solid a1.Defects a1.Products a1.Pattern a1.Saw a1.Rates).bind fun v2 =>
 some (v2.1, v2.2)
/- sawmill/sawmilllaw22.boards -/
def ZN (a1 : Law22_Given) : Option ((List Yield_Cut) × Int) :=
 (ZH a1.Solid a1.Defects a1.Products a1.Pattern a1.Saw a1.Rates.Fine).bind fun v2 =>
 some (v2.1, v2.2)
/- sawmill/yield.Balanced -/
def VN (x2 : Int) (rec_yield_Balanced_L1 : Int → Option (Bool ⊕ Unit)) (x6 : Bool) : Option (Bool ⊕ Unit) :=
 bif x6 then
 some (Sum.inl false)
 else
 rec_yield_Balanced_L1 (w64 (x2 + 1))
def qZ (a1 : Yield) : Nat → Int → Option (Bool ⊕ Unit)
 | 0, _ => none
 | n + 1, x2 =>
 bif decide (x2 < 4) then
 bif inb x2 4 then
 bif decide ((([a1.Log, a1.Boards, a1.Chips, a1.Dust] : List Int).getD x2.toNat 0) < 0) then
 VN x2 (qZ a1 n) true
 else
 VN x2 (qZ a1 n) (decide ((([a1.Log, a1.Boards, a1.Chips, a1.Dust] : List Int).getD x2.toNat 0) > 2305843009213693952))
 else none
 else
 some (Sum.inr ())
def QP (a1 : Yield) : Option Bool :=
 (qZ a1 FUEL 0).bind fun u10 => Sum.elim (fun v11 => some v11) (fun o8 =>
 some (a1.Log == (w64 ((w64 (a1.Boards + a1.Chips)) + a1.Dust)))) u10
/- sawmill/units.magnitude -/
def YF (a1 : Int) : Option Int :=
 bif decide (a1 < 0) then
 some (IntKind.u64.wrap (0 - (IntKind.u64.wrap (a1))))
 else
 some (IntKind.u64.wrap (a1))
/- math/bits.Mul64 -/
def YP (a1 : Int) (a2 : Int) : Option (Int × Int) :=
 some (IntKind.u64.wrap ((IntKind.u64.wrap ((IntKind.u64.wrap ((shrI .u64 a1 32) * (shrI .u64 a2 32))) + (shrI .u64 (IntKind.u64.wrap ((IntKind.u64.wrap ((shrI .u64 a1 32) * (andI .u64 a2 4294967295))) + (shrI .u64 (IntKind.u64.wrap ((andI .u64 a1 4294967295) * (andI .u64 a2 4294967295))) 32))) 32))) + (shrI .u64 (IntKind.u64.wrap ((andI .u64 (IntKind.u64.wrap ((IntKind.u64.wrap ((shrI .u64 a1 32) * (andI .u64 a2 4294967295))) + (shrI .u64 (IntKind.u64.wrap ((andI .u64 a1 4294967295) * (andI .u64 a2 4294967295))) 32))) 4294967295) + (IntKind.u64.wrap ((andI .u64 a1 4294967295) * (shrI .u64 a2 32))))) 32)), IntKind.u64.wrap (a1 * a2))
/- math/bits.Len64 -/
def TS (x9 : Int) (x10 : Int) : Option Int :=
 bif inb (IntKind.u8.wrap (x9)) ((ByteArray.mk #[0, 1, 2, 2, 3, 3, 3, 3, 4, 4, 4, 4, 4, 4, 4, 4, 5, 5, 5, 5, 5, 5, 5, 5, 5, 5, 5, 5, 5, 5, 5, 5, 6, 6, 6, 6, 6, 6, 6, 6, 6, 6, 6, 6, 6, 6, 6, 6, 6, 6, 6, 6, 6, 6, 6, 6, 6, 6, 6, 6, 6, 6, 6, 6, 7, 7, 7, 7, 7, 7, 7, 7, 7, 7, 7, 7, 7, 7, 7, 7, 7, 7, 7, 7, 7, 7, 7, 7, 7, 7, 7, 7, 7, 7, 7, 7, 7, 7, 7, 7, 7, 7, 7, 7, 7, 7, 7, 7, 7, 7, 7, 7, 7, 7, 7, 7, 7, 7, 7, 7, 7, 7, 7, 7, 7, 7, 7, 7, 8, 8, 8, 8, 8, 8, 8, 8, 8, 8, 8, 8, 8, 8, 8, 8, 8, 8, 8, 8, 8, 8, 8, 8, 8, 8, 8, 8, 8, 8, 8, 8, 8, 8, 8, 8, 8, 8, 8, 8, 8, 8, 8, 8, 8, 8, 8, 8, 8, 8, 8, 8, 8, 8, 8, 8, 8, 8, 8, 8, 8, 8, 8, 8, 8, 8, 8, 8, 8, 8, 8, 8, 8, 8, 8, 8, 8, 8, 8, 8, 8, 8, 8, 8, 8, 8, 8, 8, 8, 8, 8, 8, 8, 8, 8, 8, 8, 8, 8, 8, 8, 8, 8, 8, 8, 8, 8, 8, 8, 8, 8, 8, 8, 8, 8, 8, 8, 8, 8, 8, 8, 8, 8, 8, 8, 8, 8, 8]).size) then
 some (w64 (x10 + (w64 (strAt (ByteArray.mk #[0, 1, 2, 2, 3, 3, 3, 3, 4, 4, 4, 4, 4, 4, 4, 4, 5, 5, 5, 5, 5, 5, 5, 5, 5, 5, 5, 5, 5, 5, 5, 5, 6, 6, 6, 6, 6, 6, 6, 6, 6, 6, 6, 6, 6, 6, 6, 6, 6, 6, 6, 6, 6, 6, 6, 6, 6, 6, 6, 6, 6, 6, 6, 6, 7, 7, 7, 7, 7, 7, 7, 7, 7, 7, 7, 7, 7, 7, 7, 7, 7, 7, 7, 7, 7, 7, 7, 7, 7, 7, 7, 7, 7, 7, 7, 7, 7, 7, 7, 7, 7, 7, 7, 7, 7, 7, 7, 7, 7, 7, 7, 7, 7, 7, 7, 7, 7, 7, 7, 7, 7, 7, 7, 7, 7, 7, 7, 7, 8, 8, 8, 8, 8, 8, 8, 8, 8, 8, 8, 8, 8, 8, 8, 8, 8, 8, 8, 8, 8, 8, 8, 8, 8, 8, 8, 8, 8, 8, 8, 8, 8, 8, 8, 8, 8, 8, 8, 8, 8, 8, 8, 8, 8, 8, 8, 8, 8, 8, 8, 8, 8, 8, 8, 8, 8, 8, 8, 8, 8, 8, 8, 8, 8, 8, 8, 8, 8, 8, 8, 8, 8, 8, 8, 8, 8, 8, 8, 8, 8, 8, 8, 8, 8, 8, 8, 8, 8, 8, 8, 8, 8, 8, 8, 8, 8, 8, 8, 8, 8, 8, 8, 8, 8, 8, 8, 8, 8, 8, 8, 8, 8, 8, 8, 8, 8, 8, 8, 8, 8, 8, 8, 8, 8, 8, 8, 8]) ((IntKind.u8.wrap (x9)).toNat)))))
 else none
def UI (x6 : Int) (x7 : Int) : Option Int :=
 bif decide (x6 ≥ 256) then
 TS (shrI .u64 x6 8) (w64 (x7 + 8))
 else
 TS x6 x7
def UB (x3 : Int) (x4 : Int) : Option Int :=
 bif decide (x3 ≥ 65536) then
 UI (shrI .u64 x3 16) (w64 (x4 + 16))
 else
 UI x3 x4
def NF (a1 : Int) : Option Int :=
 bif decide (a1 ≥ 4294967296) then
 UB (shrI .u64 a1 32) 32
 else
 UB a1 0
/- math/bits.LeadingZeros64 -/
def JA (a1 : Int) : Option Int :=
 (NF a1).bind fun v2 =>
 some (w64 (64 - v2))
/- math/bits.Div64 -/
def TU (a3 : Int) (v8 : Int) (x13 : Int) (x14 : Int) (rec_math_bits_Div64_L1 : Int → Int → Option Int) (x16 : Bool) : Option Int :=
 bif x16 then
 bif decide ((IntKind.u64.wrap (x14 + (shrI .u64 (shlI .u64 a3 (IntKind.u64.wrap (v8))) 32))) ≥ 4294967296) then
 some (IntKind.u64.wrap (x13 - 1))
 else
 rec_math_bits_Div64_L1 (IntKind.u64.wrap (x13 - 1)) (IntKind.u64.wrap (x14 + (shrI .u64 (shlI .u64 a3 (IntKind.u64.wrap (v8))) 32)))
 else
 some x13
def ZL (a2 : Int) (a3 : Int) (v8 : Int) : Nat → Int → Int → Option Int
 | 0, _, _ => none
 | n + 1, x13, x14 =>
 bif decide (x13 ≥ 4294967296) then
 TU a3 v8 x13 x14 (ZL a2 a3 v8 n) true
 else
 TU a3 v8 x13 x14 (ZL a2 a3 v8 n) (decide ((IntKind.u64.wrap (x13 * (andI .u64 (shlI .u64 a3 (IntKind.u64.wrap (v8))) 4294967295))) > (IntKind.u64.wrap ((IntKind.u64.wrap (4294967296 * x14)) + (shrI .u64 (shlI .u64 a2 (IntKind.u64.wrap (v8))) 32)))))
def TW (a3 : Int) (v8 : Int) (x22 : Int) (x23 : Int) (rec_math_bits_Div64_L3 : Int → Int → Option Int) (x25 : Bool) : Option Int :=
 bif x25 then
 bif decide ((IntKind.u64.wrap (x22 + (shrI .u64 (shlI .u64 a3 (IntKind.u64.wrap (v8))) 32))) ≥ 4294967296) then
 some (IntKind.u64.wrap (x23 - 1))
 else
 rec_math_bits_Div64_L3 (IntKind.u64.wrap (x22 + (shrI .u64 (shlI .u64 a3 (IntKind.u64.wrap (v8))) 32))) (IntKind.u64.wrap (x23 - 1))
 else
 some x23
def ZJ (a2 : Int) (a3 : Int) (v8 : Int) : Nat → Int → Int → Option Int
 | 0, _, _ => none
 | n + 1, x22, x23 =>
 bif decide (x23 ≥ 4294967296) then
 TW a3 v8 x22 x23 (ZJ a2 a3 v8 n) true
 else
 TW a3 v8 x22 x23 (ZJ a2 a3 v8 n) (decide ((IntKind.u64.wrap (x23 * (andI .u64 (shlI .u64 a3 (IntKind.u64.wrap (v8))) 4294967295))) > (IntKind.u64.wrap ((IntKind.u64.wrap (4294967296 * x22)) + (andI .u64 (shlI .u64 a2 (IntKind.u64.wrap (v8))) 4294967295)))))
def RT (a1 : Int) (a2 : Int) (a3 : Int) : Option (Int × Int) :=
 bif a3 == 0 then
 none
 else
 bif decide (a3 ≤ a1) then
 none
 else
 bif a1 == 0 then
 bif nz a3 then
 some (IntKind.u64.wrap (Int.tdiv a2 a3), Int.tmod a2 a3)
 else none
 else
 (JA a3).bind fun v8 =>
 bif nneg (IntKind.u64.wrap (v8)) then
 bif nneg (IntKind.u64.wrap (64 - (IntKind.u64.wrap (v8)))) then
 bif nz (shrI .u64 (shlI .u64 a3 (IntKind.u64.wrap (v8))) 32) then
 (ZL a2 a3 v8 FUEL (IntKind.u64.wrap (Int.tdiv (orI .u64 (shlI .u64 a1 (IntKind.u64.wrap (v8))) (shrI .u64 a2 (IntKind.u64.wrap (64 - (IntKind.u64.wrap (v8)))))) (shrI .u64 (shlI .u64 a3 (IntKind.u64.wrap (v8))) 32))) (IntKind.u64.wrap ((orI .u64 (shlI .u64 a1 (IntKind.u64.wrap (v8))) (shrI .u64 a2 (IntKind.u64.wrap (64 - (IntKind.u64.wrap (v8)))))) - (IntKind.u64.wrap ((IntKind.u64.wrap (Int.tdiv (orI .u64 (shlI .u64 a1 (IntKind.u64.wrap (v8))) (shrI .u64 a2 (IntKind.u64.wrap (64 - (IntKind.u64.wrap (v8)))))) (shrI .u64 (shlI .u64 a3 (IntKind.u64.wrap (v8))) 32))) * (shrI .u64 (shlI .u64 a3 (IntKind.u64.wrap (v8))) 32)))))).bind fun o20 =>
 (ZJ a2 a3 v8 FUEL (IntKind.u64.wrap ((IntKind.u64.wrap ((IntKind.u64.wrap ((IntKind.u64.wrap ((orI .u64 (shlI .u64 a1 (IntKind.u64.wrap (v8))) (shrI .u64 a2 (IntKind.u64.wrap (64 - (IntKind.u64.wrap (v8)))))) * 4294967296)) + (shrI .u64 (shlI .u64 a2 (IntKind.u64.wrap (v8))) 32))) - (IntKind.u64.wrap (o20 * (shlI .u64 a3 (IntKind.u64.wrap (v8))))))) - (IntKind.u64.wrap ((IntKind.u64.wrap (Int.tdiv (IntKind.u64.wrap ((IntKind.u64.wrap ((IntKind.u64.wrap ((orI .u64 (shlI .u64 a1 (IntKind.u64.wrap (v8))) (shrI .u64 a2 (IntKind.u64.wrap (64 - (IntKind.u64.wrap (v8)))))) * 4294967296)) + (shrI .u64 (shlI .u64 a2 (IntKind.u64.wrap (v8))) 32))) - (IntKind.u64.wrap (o20 * (shlI .u64 a3 (IntKind.u64.wrap (v8))))))) (shrI .u64 (shlI .u64 a3 (IntKind.u64.wrap (v8))) 32))) * (shrI .u64 (shlI .u64 a3 (IntKind.u64.wrap (v8))) 32))))) (IntKind.u64.wrap (Int.tdiv (IntKind.u64.wrap ((IntKind.u64.wrap ((IntKind.u64.wrap ((orI .u64 (shlI .u64 a1 (IntKind.u64.wrap (v8))) (shrI .u64 a2 (IntKind.u64.wrap (64 - (IntKind.u64.wrap (v8)))))) * 4294967296)) + (shrI .u64 (shlI .u64 a2 (IntKind.u64.wrap (v8))) 32))) - (IntKind.u64.wrap (o20 * (shlI .u64 a3 (IntKind.u64.wrap (v8))))))) (shrI .u64 (shlI .u64 a3 (IntKind.u64.wrap (v8))) 32)))).bind fun o29 =>
 some (IntKind.u64.wrap ((IntKind.u64.wrap (o20 * 4294967296)) + o29), shrI .u64 (IntKind.u64.wrap ((IntKind.u64.wrap ((IntKind.u64.wrap ((IntKind.u64.wrap ((IntKind.u64.wrap ((IntKind.u64.wrap ((orI .u64 (shlI .u64 a1 (IntKind.u64.wrap (v8))) (shrI .u64 a2 (IntKind.u64.wrap (64 - (IntKind.u64.wrap (v8)))))) * 4294967296)) + (shrI .u64 (shlI .u64 a2 (IntKind.u64.wrap (v8))) 32))) - (IntKind.u64.wrap (o20 * (shlI .u64 a3 (IntKind.u64.wrap (v8))))))) * 4294967296)) + (andI .u64 (shlI .u64 a2 (IntKind.u64.wrap (v8))) 4294967295))) - (IntKind.u64.wrap (o29 * (shlI .u64 a3 (IntKind.u64.wrap (v8))))))) (IntKind.u64.wrap (v8)))
 else none
 else none
 else none
/- sawmill/units.MulDiv -/
def BF (x21 : Int) : Option (Int × Int) :=
 some (w64 (IntKind.u64.wrap (0 - x21)), 0)
def RO (v12 : Int × Int) (x18 : Bool) : Option (Int × Int) :=
 bif x18 then
 some (0, 9)
 else
 bif decide (v12.2 > 0) then
 BF (IntKind.u64.wrap (v12.1 + 1))
 else
 BF v12.1
def TJ (a1 : Int) (a2 : Int) (a3 : Int) : Option (Int × Int) :=
 bif decide (a3 ≤ 0) then
 some (0, 9)
 else
 (YF a1).bind fun v5 =>
 (YF a2).bind fun v7 =>
 (YP v5 v7).bind fun v9 =>
 bif decide (v9.1 ≥ (IntKind.u64.wrap (a3))) then
 some (0, 9)
 else
 (RT v9.1 v9.2 (IntKind.u64.wrap (a3))).bind fun v12 =>
 bif (decide (a1 < 0)) == (decide (a2 < 0)) then
 bif decide (v12.1 > 9223372036854775807) then
 some (0, 9)
 else
 some (w64 (v12.1), 0)
 else
 bif decide (v12.1 > 9223372036854775808) then
 RO v12 true
 else
 bif v12.1 == 9223372036854775808 then
 RO v12 (decide (v12.2 > 0))
 else
 RO v12 false
/- sawmill/yield.Recovery -/
def XD (a1 : Yield) (x5 : Bool) : Option Int :=
 bif x5 then
 some 0
 else
 (TJ 1000 a1.Boards a1.Log).bind fun v7 =>
 bif v7.2 != 0 then
 some 0
 else
 some v7.1
def QV (a1 : Yield) : Option Int :=
 (QP a1).bind fun v2 =>
 bif !v2 then
 XD a1 true
 else
 XD a1 (a1.Log == 0)
/- sawmill/sawmilllaw22.awake -/
def jT (x25 : Bool) : Option Bool :=
 some x25
def XS (v3 : Yield × Int) (v5 : (List Yield_Cut) × Int) (v7 : Yield × Int) (x12 : Bool) : Option Bool :=
 bif x12 then
 some false
 else
 bif ((v3.1.Log == 120000000) && ((v3.1.Boards == 8820000) && ((v3.1.Chips == 111157950) && ((v3.1.Dust == 22050) && ((v3.1.Value == 181157950) && true))))) then
 bif inb 0 v5.1.length then
 bif ((((v5.1.getD ((0 : Int).toNat) default).Leaf) == 0) && ((((v5.1.getD ((0 : Int).toNat) default).Product) == 0) && ((((((((v5.1.getD ((0 : Int).toNat) default).Box).X).A) == (-50)) && ((((((v5.1.getD ((0 : Int).toNat) default).Box).X).B) == 55) && true)) && (((((((v5.1.getD ((0 : Int).toNat) default).Box).Y).A) == 0) && ((((((v5.1.getD ((0 : Int).toNat) default).Box).Y).B) == 42) && true)) && (((((((v5.1.getD ((0 : Int).toNat) default).Box).Z).A) == 0) && ((((((v5.1.getD ((0 : Int).toNat) default).Box).Z).B) == 2000) && true)) && true))) && ((((v5.1.getD ((0 : Int).toNat) default).Worth) == 70) && true)))) then
 bif v7.1.Dust == 1282050 then
 bif v7.1.Boards == 8820000 then
 bif v7.1.Value == 70000000 then
 (QV v3.1).bind fun v20 =>
 bif v20 == 73 then
 (QP v3.1).bind fun v23 =>
 jT v23
 else
 jT false
 else
 jT false
 else
 jT false
 else
 jT false
 else
 jT false
 else none
 else
 jT false
def PW : Option Bool :=
 (SI).bind fun v1 =>
 (PI (Law22_Given.mk v1.Solid v1.Defects v1.Products (Pattern.mk v1.Pattern.Frame v1.Pattern.Nodes) v1.Saw v1.Rates)).bind fun v3 =>
 (ZN (Law22_Given.mk v1.Solid v1.Defects v1.Products (Pattern.mk v1.Pattern.Frame v1.Pattern.Nodes) v1.Saw v1.Rates)).bind fun v5 =>
 (PI (Law22_Given.mk v1.Solid v1.Defects v1.Products (Pattern.mk (Rect.mk v1.Pattern.Frame.X (Span.mk v1.Pattern.Frame.Y.A 90)) ([(Node.mk 3 42), (Node.mk 1 0), (Node.mk 0 0)] : List Node)) v1.Saw (Rates.mk 0 v1.Rates.Dust v1.Rates.Fine))).bind fun v7 =>
 bif v3.2 != 0 then
 XS v3 v5 v7 true
 else
 bif v5.2 != 0 then
 XS v3 v5 v7 true
 else
 bif v7.2 != 0 then
 XS v3 v5 v7 true
 else
 XS v3 v5 v7 (((v5.1.length : Nat) : Int) != 1)
/- sawmill/sawmilllaw22.apart -/
def jZ (x8 : Bool) : Option Bool :=
 some x8
def GG (a1 : Box) (a2 : Box) : Option Bool :=
 bif decide (a1.X.B ≤ a2.X.A) then
 jZ true
 else
 bif decide (a2.X.B ≤ a1.X.A) then
 jZ true
 else
 bif decide (a1.Y.B ≤ a2.Y.A) then
 jZ true
 else
 bif decide (a2.Y.B ≤ a1.Y.A) then
 jZ true
 else
 bif decide (a1.Z.B ≤ a2.Z.A) then
 jZ true
 else
 jZ (decide (a2.Z.B ≤ a1.Z.A))
/- sawmill/sawmilllaw22.YieldParts -/
def RF (x15 : Bool) : Option Bool :=
 some x15
def JO (x41 : Int) (rec_law22_YieldParts_L5 : Int → Option (Bool ⊕ Unit)) (x48 : Bool) : Option (Bool ⊕ Unit) :=
 bif x48 then
 some (Sum.inl false)
 else
 rec_law22_YieldParts_L5 (w64 (x41 + 1))
def zP (v9 : (List Yield_Cut) × Int) (x28 : Int) : Nat → Int → Option (Bool ⊕ Unit)
 | 0, _ => none
 | n + 1, x41 =>
 bif decide (x41 < x28) then
 bif inb x41 v9.1.length then
 bif inb x28 v9.1.length then
 bif decide (((v9.1.getD x41.toNat default).Leaf) ≥ ((v9.1.getD x28.toNat default).Leaf)) then
 JO x41 (zP v9 x28 n) true
 else
 (GG ((v9.1.getD x41.toNat default).Box) ((v9.1.getD x28.toNat default).Box)).bind fun v46 =>
 JO x41 (zP v9 x28 n) (!v46)
 else none
 else none
 else
 some (Sum.inr ())
def zQ (a1 : Law22_Given) (v9 : (List Yield_Cut) × Int) (x27 : Int) (x28 : Int) (rec_law22_YieldParts_L3 : Int → Int → Option (Bool ⊕ Int)) (x39 : Bool) : Option (Bool ⊕ Int) :=
 bif x39 then
 some (Sum.inl false)
 else
 (zP v9 x28 FUEL 0).bind fun u52 => Sum.elim (fun v53 => some (Sum.inl v53)) (fun o50 =>
 (yN a1.Solid ((v9.1.getD x28.toNat default).Box)).bind fun v54 =>
 rec_law22_YieldParts_L3 (w64 (x27 + v54)) (w64 (x28 + 1))) u52
def qX (a1 : Law22_Given) (v9 : (List Yield_Cut) × Int) : Nat → Int → Int → Option (Bool ⊕ Int)
 | 0, _, _ => none
 | n + 1, x27, x28 =>
 bif decide (x28 < ((v9.1.length : Nat) : Int)) then
 bif inb x28 v9.1.length then
 bif decide (((((v9.1.getD x28.toNat default).Box).X).A) < a1.Pattern.Frame.X.A) then
 zQ a1 v9 x27 x28 (qX a1 v9 n) true
 else
 bif decide (((((v9.1.getD x28.toNat default).Box).X).B) > a1.Pattern.Frame.X.B) then
 zQ a1 v9 x27 x28 (qX a1 v9 n) true
 else
 bif decide (((((v9.1.getD x28.toNat default).Box).Y).A) < a1.Pattern.Frame.Y.A) then
 zQ a1 v9 x27 x28 (qX a1 v9 n) true
 else
 bif decide (((((v9.1.getD x28.toNat default).Box).Y).B) > a1.Pattern.Frame.Y.B) then
 zQ a1 v9 x27 x28 (qX a1 v9 n) true
 else
 bif decide (((((v9.1.getD x28.toNat default).Box).Z).A) < 0) then
 zQ a1 v9 x27 x28 (qX a1 v9 n) true
 else
 (JF a1.Solid).bind fun v36 =>
 bif decide (((((v9.1.getD x28.toNat default).Box).Z).B) > v36) then
 zQ a1 v9 x27 x28 (qX a1 v9 n) true
 else
 zQ a1 v9 x27 x28 (qX a1 v9 n) (decide (((v9.1.getD x28.toNat default).Worth) < 0))
 else none
 else
 some (Sum.inr x27)
def RG (x64 : Bool) : Option Bool :=
 some x64
def jK (a1 : Law22_Given) (v7 : Yield × Int) (v9 : (List Yield_Cut) × Int) (x25 : Bool) : Option Bool :=
 bif x25 then
 some false
 else
 (qX a1 v9 FUEL 0 0).bind fun u59 => Sum.elim (fun v60 => some v60) (fun o57 =>
 bif o57 == v7.1.Boards then
 (PW).bind fun v62 =>
 RG v62
 else
 RG false) u59
def KW (a1 : Law22_Given) : Option Bool :=
 (GA a1).bind fun v2 =>
 bif !v2 then
 (PW).bind fun v5 =>
 some v5
 else
 (PI a1).bind fun v7 =>
 (ZN a1).bind fun v9 =>
 bif v7.2 != 0 then
 bif ((v7.1.Log == 0) && ((v7.1.Boards == 0) && ((v7.1.Chips == 0) && ((v7.1.Dust == 0) && ((v7.1.Value == 0) && true))))) then
 (PW).bind fun v13 =>
 RF v13
 else
 RF false
 else
 bif v9.2 != 0 then
 jK a1 v7 v9 true
 else
 (QP v7.1).bind fun v17 =>
 bif !v17 then
 jK a1 v7 v9 true
 else
 (XX a1.Solid).bind fun v20 =>
 bif v7.1.Log != v20 then
 jK a1 v7 v9 true
 else
 (QV v7.1).bind fun v23 =>
 jK a1 v7 v9 (decide (v23 > 1000))
end Saw
end Go.SL

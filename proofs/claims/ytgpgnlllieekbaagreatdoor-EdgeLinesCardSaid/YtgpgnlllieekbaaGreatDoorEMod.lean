import Derived.Test.YtgpgnlllieekbaaGreatDoorYa5
set_option linter.unusedVariables false
set_option linter.unusedSimpArgs false
namespace Go.SL
namespace Saw
structure Piece where
 Size : Int
 At : Int
instance : Inhabited Piece := ⟨⟨0, 0⟩⟩
def jN (r : Piece) : List C := [ci r.Size, ci r.At]
structure Span where
 A : Int
 B : Int
instance : Inhabited Span := ⟨⟨0, 0⟩⟩
def e_Span (r : Span) : List C := [ci r.A, ci r.B]
structure qH where
 Low : Int
 Rows : List Span
instance : Inhabited qH := ⟨⟨0, []⟩⟩
def qY (r : qH) : List C := [ci r.Low, tl e_Span default r.Rows]
structure Slice where
 Len : Int
 Sec : qH
instance : Inhabited Slice := ⟨⟨0, default⟩⟩
def qF (r : Slice) : List C := [ci r.Len, ci r.Sec.Low, tl e_Span default r.Sec.Rows]
structure Box where
 X : Span
 Y : Span
 Z : Span
instance : Inhabited Box := ⟨⟨default, default, default⟩⟩
def zA (r : Box) : List C := [ci r.X.A, ci r.X.B, ci r.Y.A, ci r.Y.B, ci r.Z.A, ci r.Z.B]
structure Defect where
 Kind : Int
 Box : Box
instance : Inhabited Defect := ⟨⟨0, default⟩⟩
def qG (r : Defect) : List C := [ci r.Kind, ci r.Box.X.A, ci r.Box.X.B, ci r.Box.Y.A, ci r.Box.Y.B, ci r.Box.Z.A, ci r.Box.Z.B]
structure qA where
 Name : ByteArray
 Thick : Int
 Width : Int
 Allow : Int
 Wane : Int
 Lengths : List Int
 Prices : List Int
instance : Inhabited qA := ⟨⟨⟨#[]⟩, 0, 0, 0, 0, [], []⟩⟩
def qE (r : qA) : List C := [cs r.Name, ci r.Thick, ci r.Width, ci r.Allow, ci r.Wane, tl e_i64 default r.Lengths, tl e_i64 default r.Prices]
structure Rect where
 X : Span
 Y : Span
instance : Inhabited Rect := ⟨⟨default, default⟩⟩
def qK (r : Rect) : List C := [ci r.X.A, ci r.X.B, ci r.Y.A, ci r.Y.B]
structure Saw where
 Kerf : Int
 Trim : Int
 Pitch : Int
 Step : Int
instance : Inhabited Saw := ⟨⟨0, 0, 0, 0⟩⟩
def wA (r : Saw) : List C := [ci r.Kerf, ci r.Trim, ci r.Pitch, ci r.Step]
structure Rates where
 Chip : Int
 Dust : Int
 Fine : Int
instance : Inhabited Rates := ⟨⟨0, 0, 0⟩⟩
def qW (r : Rates) : List C := [ci r.Chip, ci r.Dust, ci r.Fine]
structure qO where
 Solid : List Slice
 Defects : List Defect
 Products : List qA
 Strip : Rect
 Saw : Saw
 Rates : Rates
instance : Inhabited qO := ⟨⟨[], [], [], default, default, default⟩⟩
def zK (r : qO) : List C := [tl qF default r.Solid, tl qG default r.Defects, tl qE default r.Products, ci r.Strip.X.A, ci r.Strip.X.B, ci r.Strip.Y.A, ci r.Strip.Y.B, ci r.Saw.Kerf, ci r.Saw.Trim, ci r.Saw.Pitch, ci r.Saw.Step, ci r.Rates.Chip, ci r.Rates.Dust, ci r.Rates.Fine]
structure Worth_zone where
 z : Span
 lack : Int
instance : Inhabited Worth_zone := ⟨⟨default, 0⟩⟩
def qL (r : Worth_zone) : List C := [ci r.z.A, ci r.z.B, ci r.lack]
structure Worth_view where
 product : qA
 rect : Rect
 length : Int
 zones : List Worth_zone
 defects : List Defect
instance : Inhabited Worth_view := ⟨⟨default, default, 0, [], []⟩⟩
def TF (r : Worth_view) : List C := [cs r.product.Name, ci r.product.Thick, ci r.product.Width, ci r.product.Allow, ci r.product.Wane, tl e_i64 default r.product.Lengths, tl e_i64 default r.product.Prices, ci r.rect.X.A, ci r.rect.X.B, ci r.rect.Y.A, ci r.rect.Y.B, ci r.length, tl qL default r.zones, tl qG default r.defects]
structure Line where
 Len : Int
 Kerf : Int
 Pitch : Int
 Sizes : List Int
 Gain : List (List Int)
 Chip : List Int
 Dust : List Int
instance : Inhabited Line := ⟨⟨0, 0, 0, [], [], [], []⟩⟩
def zF (r : Line) : List C := [ci r.Len, ci r.Kerf, ci r.Pitch, tl e_i64 default r.Sizes, tl (qM e_i64) default r.Gain, tl e_i64 default r.Chip, tl e_i64 default r.Dust]
structure Cutting_choice where
 piece : Piece
 value : Int
instance : Inhabited Cutting_choice := ⟨⟨default, 0⟩⟩
def e_Cutting_choice (r : Cutting_choice) : List C := [ci r.piece.Size, ci r.piece.At, ci r.value]
structure Node where
 Kind : Int
 At : Int
instance : Inhabited Node := ⟨⟨0, 0⟩⟩
def e_Node (r : Node) : List C := [ci r.Kind, ci r.At]
structure qFE where
 value : Int
 piece : Piece
instance : Inhabited qFE := ⟨⟨0, default⟩⟩
def qEW : Piece := (Piece.mk (-1) (-1))
def globs : List (Nat × C) := [(0, .lptr (jN qEW))]
/- sawmill/sawmilllaw19.Short -/
def JB (x2 : Int) (rec_law19_Short_L1 : Int → Option (Bool ⊕ Unit)) (x8 : Bool) : Option (Bool ⊕ Unit) :=
 bif x8 then
 some (Sum.inl false)
 else
 rec_law19_Short_L1 (w64 (x2 + 1))
def zU (a1 : List qA) : Nat → Int → Option (Bool ⊕ Unit)
 | 0, _ => none
 | n + 1, x2 =>
 bif decide (x2 < ((a1.length : Nat) : Int)) then
 bif decide (x2 ≥ 20) then
 JB x2 (zU a1 n) true
 else
 bif inb x2 a1.length then
 bif decide (((((a1.getD x2.toNat default).Lengths).length : Nat) : Int) > 12) then
 JB x2 (zU a1 n) true
 else
 bif decide (((((a1.getD x2.toNat default).Prices).length : Nat) : Int) > 12) then
 JB x2 (zU a1 n) true
 else
 JB x2 (zU a1 n) (decide (((((a1.getD x2.toNat default).Name).size : Nat) : Int) > 100))
 else none
 else
 some (Sum.inr ())
def GQ (a1 : List qA) : Option Bool :=
 (zU a1 FUEL 0).bind fun u12 => Sum.elim (fun v13 => some v13) (fun o10 =>
 some true) u12
/- sawmill/sawmillref10.beyond -/
def RK (x3 : Bool) : Option Bool :=
 some x3
def XE (a1 : Int) : Option Bool :=
 bif decide (a1 < (-600)) then
 RK true
 else
 RK (decide (a1 > 600))
/- sawmill/sawmillref10.empty -/
def WR (a1 : Span) : Option Bool :=
 some (decide (a1.A ≥ a1.B))
/- sawmill/sawmillref10.Check -/
def UD (x6 : Int) (rec_ref10_Check_L2 : Int → Option (Int ⊕ Unit)) (x14 : Bool) : Option (Int ⊕ Unit) :=
 bif x14 then
 some (Sum.inl 9)
 else
 rec_ref10_Check_L2 (w64 (x6 + 1))
def jP (a1 : qH) : Nat → Int → Option (Int ⊕ Unit)
 | 0, _ => none
 | n + 1, x6 =>
 bif decide (x6 < ((a1.Rows.length : Nat) : Int)) then
 bif inb x6 a1.Rows.length then
 (XE ((a1.Rows.getD x6.toNat default).A)).bind fun v9 =>
 bif v9 then
 UD x6 (jP a1 n) true
 else
 (XE ((a1.Rows.getD x6.toNat default).B)).bind fun v12 =>
 UD x6 (jP a1 n) v12
 else none
 else
 some (Sum.inr ())
def UT (x31 : Int) (rec_ref10_Check_L5 : Int → Option (Int ⊕ Unit)) (x37 : Bool) : Option (Int ⊕ Unit) :=
 bif x37 then
 some (Sum.inl 19)
 else
 rec_ref10_Check_L5 (w64 (x31 + 1))
def jI (a1 : qH) : Nat → Int → Option (Int ⊕ Unit)
 | 0, _ => none
 | n + 1, x31 =>
 bif decide (x31 < ((a1.Rows.length : Nat) : Int)) then
 bif inb x31 a1.Rows.length then
 (WR (a1.Rows.getD x31.toNat default)).bind fun v34 =>
 bif v34 then
 UT x31 (jI a1 n) (!((((a1.Rows.getD x31.toNat default).A) == 0) && ((((a1.Rows.getD x31.toNat default).B) == 0) && true)))
 else
 UT x31 (jI a1 n) false
 else none
 else
 some (Sum.inr ())
def UR (a1 : qH) (x29 : Bool) : Option Int :=
 bif x29 then
 some 19
 else
 (jI a1 FUEL 0).bind fun u41 => Sum.elim (fun v42 => some v42) (fun o39 =>
 some 0) u41
def UX (a1 : qH) (x4 : Bool) : Option Int :=
 bif x4 then
 some 9
 else
 (jP a1 FUEL 0).bind fun u18 => Sum.elim (fun v19 => some v19) (fun o16 =>
 bif ((a1.Rows.length : Nat) : Int) == 0 then
 bif a1.Low != 0 then
 some 19
 else
 some 0
 else
 bif inb 0 a1.Rows.length then
 (WR (a1.Rows.getD (0 : Int).toNat default)).bind fun v23 =>
 bif v23 then
 UR a1 true
 else
 bif inb (w64 (((a1.Rows.length : Nat) : Int) - 1)) a1.Rows.length then
 (WR (a1.Rows.getD (w64 (((a1.Rows.length : Nat) : Int) - 1)).toNat default)).bind fun v27 =>
 UR a1 v27
 else none
 else none) u18
def PK (a1 : qH) : Option Int :=
 bif decide (((a1.Rows.length : Nat) : Int) > 120) then
 some 4
 else
 bif decide (a1.Low < (-60)) then
 UX a1 true
 else
 UX a1 (decide (a1.Low > (w64 (60 - ((a1.Rows.length : Nat) : Int)))))
/- sawmill/sawmillref11.Check -/
def UL (a1 : List Slice) (x4 : Int) (x5 : Int) (rec_ref11_Check_L1 : Int → Int → Option (Int ⊕ Unit)) (x13 : Bool) : Option (Int ⊕ Unit) :=
 bif x13 then
 some (Sum.inl 9)
 else
 rec_ref11_Check_L1 (w64 (x4 + ((a1.getD x5.toNat default).Len))) (w64 (x5 + 1))
def jE (a1 : List Slice) : Nat → Int → Int → Option (Int ⊕ Unit)
 | 0, _, _ => none
 | n + 1, x4, x5 =>
 bif decide (x5 < ((a1.length : Nat) : Int)) then
 bif inb x5 a1.length then
 (PK ((a1.getD x5.toNat default).Sec)).bind fun v8 =>
 bif v8 != 0 then
 some (Sum.inl v8)
 else
 bif (((((a1.getD x5.toNat default).Sec).Rows).length : Nat) : Int) == 0 then
 some (Sum.inl 18)
 else
 bif decide (((a1.getD x5.toNat default).Len) < 1) then
 UL a1 x4 x5 (jE a1 n) true
 else
 UL a1 x4 x5 (jE a1 n) (decide (((a1.getD x5.toNat default).Len) > (w64 (20000 - x4))))
 else none
 else
 some (Sum.inr ())
def ZH (a1 : List Slice) : Option Int :=
 bif ((a1.length : Nat) : Int) == 0 then
 some 3
 else
 bif decide (((a1.length : Nat) : Int) > 24) then
 some 4
 else
 (jE a1 FUEL 0 0).bind fun u17 => Sum.elim (fun v18 => some v18) (fun o15 =>
 some 0) u17
/- sawmill/sawmillref11.Length -/
def QH (a1 : List Slice) : Nat → Int → Int → Option Int
 | 0, _, _ => none
 | n + 1, x5, x6 =>
 bif decide (x6 < ((a1.length : Nat) : Int)) then
 bif inb x6 a1.length then
 (QH a1 n) (w64 (x5 + ((a1.getD x6.toNat default).Len))) (w64 (x6 + 1))
 else none
 else
 some x5
def yQ (a1 : List Slice) : Option Int :=
 (ZH a1).bind fun v2 =>
 bif v2 != 0 then
 some 0
 else
 (QH a1 FUEL 0 0).bind fun o10 =>
 some o10
/- sawmill/sawmilllaw23.Small -/
def QW (a1 : qO) : Nat → Int → Option (Bool ⊕ Unit)
 | 0, _ => none
 | n + 1, x9 =>
 bif decide (x9 < ((a1.Solid.length : Nat) : Int)) then
 bif inb x9 a1.Solid.length then
 bif decide ((((((a1.Solid.getD x9.toNat default).Sec).Rows).length : Nat) : Int) > 130) then
 some (Sum.inl false)
 else
 (QW a1 n) (w64 (x9 + 1))
 else none
 else
 some (Sum.inr ())
def ZD (a1 : qO) : Nat → Int → Option (Bool ⊕ Unit)
 | 0, _ => none
 | n + 1, x17 =>
 bif decide (x17 < ((a1.Products.length : Nat) : Int)) then
 bif inb x17 a1.Products.length then
 bif decide (((((a1.Products.getD x17.toNat default).Lengths).length : Nat) : Int) > 4) then
 some (Sum.inl false)
 else
 (ZD a1 n) (w64 (x17 + 1))
 else none
 else
 some (Sum.inr ())
def jG (a1 : qO) (x30 : Bool) : Option Bool :=
 bif x30 then
 some false
 else
 (yQ a1.Solid).bind fun v32 =>
 some (decide ((w64 (Int.tdiv v32 12)) ≤ a1.Saw.Step))
def WY (a1 : qO) (x7 : Bool) : Option Bool :=
 bif x7 then
 some false
 else
 (QW a1 FUEL 0).bind fun u15 => Sum.elim (fun v16 => some v16) (fun o13 =>
 (ZD a1 FUEL 0).bind fun u23 => Sum.elim (fun v24 => some v24) (fun o21 =>
 bif decide (a1.Saw.Pitch < 5) then
 jG a1 true
 else
 bif decide (a1.Saw.Step < 1) then
 jG a1 true
 else
 bif decide (a1.Strip.X.A < (-1000)) then
 jG a1 true
 else
 bif decide (a1.Strip.X.B > 1000) then
 jG a1 true
 else
 bif decide (a1.Strip.X.B > a1.Strip.X.A) then
 jG a1 (decide ((w64 (a1.Strip.X.B - a1.Strip.X.A)) > 300))
 else
 jG a1 false) u23) u15
def GI (a1 : qO) : Option Bool :=
 bif decide (((a1.Solid.length : Nat) : Int) > 6) then
 WY a1 true
 else
 bif decide (((a1.Defects.length : Nat) : Int) > 70) then
 WY a1 true
 else
 bif decide (((a1.Products.length : Nat) : Int) > 4) then
 WY a1 true
 else
 (GQ a1.Products).bind fun v5 =>
 WY a1 (!v5)
/- sawmill/sawmilllaw19.Plank -/
def qBb : Option qA :=
 some (qA.mk (ByteArray.mk #[112, 108, 97, 110, 107]) 40 100 50 0 ([2000] : List Int) ([70] : List Int))
/- sawmill/sawmilllaw23.sample -/
def FD : Nat → Int → (List Span) → Option (List Span)
 | 0, _, _ => none
 | n + 1, x1, l2 =>
 bif decide (x1 < 20) then
 bif room (l2.length + 1) 16 then
 (FD n) (w64 (x1 + 1)) (l2 ++ ([(Span.mk (-100) 100)] : List Span))
 else none
 else
 some l2
def IW : Option qO :=
 (FD FUEL 0 ([] : List Span)).bind fun o6 =>
 (qBb).bind fun v10 =>
 some (qO.mk ([(Slice.mk 3000 (qH.mk (-10) o6))] : List Slice) ([] : List Defect) ([v10] : List qA) (Rect.mk (Span.mk (-100) 10) (Span.mk 0 42)) (Saw.mk 4 5 5 500) (Rates.mk 0 0 0))
/- sawmill/section.inRange -/
def YN (x3 : Bool) : Option Bool :=
 some x3
def YT (a1 : Span) : Option Bool :=
 bif decide ((imin a1.A a1.B) ≥ (-600)) then
 YN (decide ((imax a1.A a1.B) ≤ 600))
 else
 YN false
/- sawmill/section.isEmpty -/
def ZY (a1 : Span) : Option Bool :=
 some (decide (a1.A ≥ a1.B))
/- sawmill/section.Check -/
def yC (a1 : qH) : Nat → Int → Option (Int ⊕ Unit)
 | 0, _ => none
 | n + 1, x6 =>
 bif decide (x6 < ((a1.Rows.length : Nat) : Int)) then
 bif inb x6 a1.Rows.length then
 (YT (a1.Rows.getD x6.toNat default)).bind fun v9 =>
 bif !v9 then
 some (Sum.inl 9)
 else
 (yC a1 n) (w64 (x6 + 1))
 else none
 else
 some (Sum.inr ())
def KM (x27 : Int) (rec_section_Check_L4 : Int → Option (Int ⊕ Unit)) (x33 : Bool) : Option (Int ⊕ Unit) :=
 bif x33 then
 some (Sum.inl 19)
 else
 rec_section_Check_L4 (w64 (x27 + 1))
def wO (a1 : qH) : Nat → Int → Option (Int ⊕ Unit)
 | 0, _ => none
 | n + 1, x27 =>
 bif decide (x27 < ((a1.Rows.length : Nat) : Int)) then
 bif inb x27 a1.Rows.length then
 (ZY (a1.Rows.getD x27.toNat default)).bind fun v30 =>
 bif v30 then
 KM x27 (wO a1 n) (!((((a1.Rows.getD x27.toNat default).A) == 0) && ((((a1.Rows.getD x27.toNat default).B) == 0) && true)))
 else
 KM x27 (wO a1 n) false
 else none
 else
 some (Sum.inr ())
def KS (a1 : qH) (x25 : Bool) : Option Int :=
 bif x25 then
 some 19
 else
 (wO a1 FUEL 0).bind fun u37 => Sum.elim (fun v38 => some v38) (fun o35 =>
 some 0) u37
def KJ (a1 : qH) (x4 : Bool) : Option Int :=
 bif x4 then
 some 9
 else
 (yC a1 FUEL 0).bind fun u14 => Sum.elim (fun v15 => some v15) (fun o12 =>
 bif ((a1.Rows.length : Nat) : Int) == 0 then
 bif a1.Low != 0 then
 some 19
 else
 some 0
 else
 bif inb 0 a1.Rows.length then
 (ZY (a1.Rows.getD (0 : Int).toNat default)).bind fun v19 =>
 bif v19 then
 KS a1 true
 else
 bif inb (w64 (((a1.Rows.length : Nat) : Int) - 1)) a1.Rows.length then
 (ZY (a1.Rows.getD (w64 (((a1.Rows.length : Nat) : Int) - 1)).toNat default)).bind fun v23 =>
 KS a1 v23
 else none
 else none) u14
def JT (a1 : qH) : Option Int :=
 bif decide (((a1.Rows.length : Nat) : Int) > 120) then
 some 4
 else
 bif decide (a1.Low < (-60)) then
 KJ a1 true
 else
 KJ a1 (decide (a1.Low > (w64 (60 - ((a1.Rows.length : Nat) : Int)))))
/- sawmill/solid.Check -/
def US (a1 : List Slice) (x4 : Int) (x5 : Int) (rec_solid_Check_L1 : Int → Int → Option (Int ⊕ Unit)) (x13 : Bool) : Option (Int ⊕ Unit) :=
 bif x13 then
 some (Sum.inl 9)
 else
 rec_solid_Check_L1 (w64 (x4 + ((a1.getD x5.toNat default).Len))) (w64 (x5 + 1))
def jM (a1 : List Slice) : Nat → Int → Int → Option (Int ⊕ Unit)
 | 0, _, _ => none
 | n + 1, x4, x5 =>
 bif decide (x5 < ((a1.length : Nat) : Int)) then
 bif inb x5 a1.length then
 (JT ((a1.getD x5.toNat default).Sec)).bind fun v8 =>
 bif v8 != 0 then
 some (Sum.inl v8)
 else
 bif (((((a1.getD x5.toNat default).Sec).Rows).length : Nat) : Int) == 0 then
 some (Sum.inl 18)
 else
 bif decide (((a1.getD x5.toNat default).Len) < 1) then
 US a1 x4 x5 (jM a1 n) true
 else
 US a1 x4 x5 (jM a1 n) (decide (((a1.getD x5.toNat default).Len) > (w64 (20000 - x4))))
 else none
 else
 some (Sum.inr ())
def YX (a1 : List Slice) : Option Int :=
 bif ((a1.length : Nat) : Int) == 0 then
 some 3
 else
 bif decide (((a1.length : Nat) : Int) > 24) then
 some 4
 else
 (jM a1 FUEL 0 0).bind fun u17 => Sum.elim (fun v18 => some v18) (fun o15 =>
 some 0) u17
/- sawmill/defect.isEmpty -/
def jL (a1 : Span) : Option Bool :=
 some (decide (a1.A ≥ a1.B))
/- sawmill/defect.inside -/
def KC (x5 : Bool) : Option Bool :=
 some x5
def WJ (a1 : Span) (a2 : Int) (a3 : Int) : Option Bool :=
 bif decide ((imin a1.A a1.B) ≥ a2) then
 KC (decide ((imax a1.A a1.B) ≤ a3))
 else
 KC false
/- sawmill/defect.check -/
def JY (x23 : Bool) : Option Int :=
 bif x23 then
 some 9
 else
 some 0
def YL (a1 : Defect) (x13 : Bool) : Option Int :=
 bif x13 then
 some 19
 else
 (WJ a1.Box.X (-600) 600).bind fun v15 =>
 bif !v15 then
 JY true
 else
 (WJ a1.Box.Y (-600) 600).bind fun v18 =>
 bif !v18 then
 JY true
 else
 (WJ a1.Box.Z 0 20000).bind fun v21 =>
 JY (!v21)
def RC (a1 : Defect) (x3 : Bool) : Option Int :=
 bif x3 then
 some 10
 else
 (jL a1.Box.X).bind fun v5 =>
 bif v5 then
 YL a1 true
 else
 (jL a1.Box.Y).bind fun v8 =>
 bif v8 then
 YL a1 true
 else
 (jL a1.Box.Z).bind fun v11 =>
 YL a1 v11
def TU (a1 : Defect) : Option Int :=
 bif decide (a1.Kind < 1) then
 RC a1 true
 else
 RC a1 (decide (a1.Kind > 6))
/- sawmill/defect.Check -/
def yW (a1 : List Defect) : Nat → Int → Option (Int ⊕ Unit)
 | 0, _ => none
 | n + 1, x3 =>
 bif decide (x3 < ((a1.length : Nat) : Int)) then
 bif inb x3 a1.length then
 (TU (a1.getD x3.toNat default)).bind fun v6 =>
 bif v6 != 0 then
 some (Sum.inl v6)
 else
 (yW a1 n) (w64 (x3 + 1))
 else none
 else
 some (Sum.inr ())
def XO (a1 : List Defect) : Option Int :=
 bif decide (((a1.length : Nat) : Int) > 64) then
 some 4
 else
 (yW a1 FUEL 0).bind fun u11 => Sum.elim (fun v12 => some v12) (fun o9 =>
 some 0) u11
/- sawmill/ident.isSmall -/
def KO (x3 : Bool) : Option Bool :=
 some x3
def JU (a1 : Int) : Option Bool :=
 bif decide (97 ≤ a1) then
 KO (decide (a1 ≤ 122))
 else
 KO false
/- sawmill/ident.isDigit -/
def KL (x3 : Bool) : Option Bool :=
 some x3
def PA (a1 : Int) : Option Bool :=
 bif decide (48 ≤ a1) then
 KL (decide (a1 ≤ 57))
 else
 KL false
/- sawmill/ident.IsName -/
def YF (x9 : Int) (rec_ident_IsName_L2 : Int → Option (Bool ⊕ Unit)) (x18 : Bool) : Option (Bool ⊕ Unit) :=
 bif x18 then
 some (Sum.inl false)
 else
 rec_ident_IsName_L2 (w64 (x9 + 1))
def wI (a1 : ByteArray) : Nat → Int → Option (Bool ⊕ Unit)
 | 0, _ => none
 | n + 1, x9 =>
 bif decide (x9 < ((a1.size : Nat) : Int)) then
 bif inb x9 a1.size then
 (JU (strAt a1 x9.toNat)).bind fun v12 =>
 bif !v12 then
 (PA (strAt a1 x9.toNat)).bind fun v15 =>
 bif !v15 then
 YF x9 (wI a1 n) ((strAt a1 x9.toNat) != 95)
 else
 YF x9 (wI a1 n) false
 else
 YF x9 (wI a1 n) false
 else none
 else
 some (Sum.inr ())
def YK (a1 : ByteArray) (x7 : Bool) : Option Bool :=
 bif x7 then
 some false
 else
 (wI a1 FUEL 1).bind fun u22 => Sum.elim (fun v23 => some v23) (fun o20 =>
 some true) u22
def TM (a1 : ByteArray) : Option Bool :=
 bif decide (((a1.size : Nat) : Int) < 1) then
 YK a1 true
 else
 bif decide (((a1.size : Nat) : Int) > 16) then
 YK a1 true
 else
 bif inb 0 a1.size then
 (JU (strAt a1 ((0 : Int).toNat))).bind fun v5 =>
 YK a1 (!v5)
 else none
/- sawmill/product.Find -/
def QB (a1 : List qA) (a2 : ByteArray) : Nat → Int → Option ((Int × Bool) ⊕ Unit)
 | 0, _ => none
 | n + 1, x3 =>
 bif decide (x3 < ((a1.length : Nat) : Int)) then
 bif inb x3 a1.length then
 bif strEq ((a1.getD x3.toNat default).Name) a2 then
 some (Sum.inl (x3, true))
 else
 (QB a1 a2 n) (w64 (x3 + 1))
 else none
 else
 some (Sum.inr ())
def TX (a1 : List qA) (a2 : ByteArray) : Option (Int × Bool) :=
 (QB a1 a2 FUEL 0).bind fun u9 => Sum.elim (fun v10 => some v10) (fun o7 =>
 some (0, false)) u9
/- sawmill/product.isSize -/
def YZ (x3 : Bool) : Option Bool :=
 some x3
def WX (a1 : Int) : Option Bool :=
 bif decide (a1 ≥ 1) then
 YZ (decide (a1 ≤ 600))
 else
 YZ false
/- sawmill/product.grow -/
def TL (a1 : Int) (a2 : Int) : Option Int :=
 some (w64 (Int.tdiv (w64 ((w64 (a1 * (w64 (1000 + a2)))) + 999)) 1000))
/- sawmill/product.Green -/
def ZE (a1 : qA) (x9 : Bool) : Option (Int × Int) :=
 bif x9 then
 some (0, 0)
 else
 (TL a1.Thick a1.Allow).bind fun v11 =>
 (TL a1.Width a1.Allow).bind fun v13 =>
 some (v11, v13)
def WI (a1 : qA) : Option (Int × Int) :=
 (WX a1.Thick).bind fun v2 =>
 bif !v2 then
 ZE a1 true
 else
 (WX a1.Width).bind fun v5 =>
 bif !v5 then
 ZE a1 true
 else
 bif decide (a1.Allow < 0) then
 ZE a1 true
 else
 ZE a1 (decide (a1.Allow > 200))
/- sawmill/product.checkNumbers -/
def QQ (x18 : Int) (rec_product_checkNumbers_L3 : Int → Option (Int ⊕ Unit)) (x26 : Bool) : Option (Int ⊕ Unit) :=
 bif x26 then
 some (Sum.inl 11)
 else
 rec_product_checkNumbers_L3 (w64 (x18 + 1))
def QO (a1 : qA) (x18 : Int) (rec_product_checkNumbers_L3 : Int → Option (Int ⊕ Unit)) (x22 : Bool) : Option (Int ⊕ Unit) :=
 bif x22 then
 some (Sum.inl 9)
 else
 bif decide (x18 > 0) then
 bif inb (w64 (x18 - 1)) a1.Lengths.length then
 QQ x18 rec_product_checkNumbers_L3 (decide ((a1.Lengths.getD x18.toNat default) ≤ (a1.Lengths.getD (w64 (x18 - 1)).toNat default)))
 else none
 else
 QQ x18 rec_product_checkNumbers_L3 false
def zE (a1 : qA) : Nat → Int → Option (Int ⊕ Unit)
 | 0, _ => none
 | n + 1, x18 =>
 bif decide (x18 < ((a1.Lengths.length : Nat) : Int)) then
 bif inb x18 a1.Lengths.length then
 bif decide ((a1.Lengths.getD x18.toNat default) < 100) then
 QO a1 x18 (zE a1 n) true
 else
 QO a1 x18 (zE a1 n) (decide ((a1.Lengths.getD x18.toNat default) > 20000))
 else none
 else
 some (Sum.inr ())
def QP (x32 : Int) (rec_product_checkNumbers_L6 : Int → Option (Int ⊕ Unit)) (x36 : Bool) : Option (Int ⊕ Unit) :=
 bif x36 then
 some (Sum.inl 9)
 else
 rec_product_checkNumbers_L6 (w64 (x32 + 1))
def zP (a1 : qA) : Nat → Int → Option (Int ⊕ Unit)
 | 0, _ => none
 | n + 1, x32 =>
 bif decide (x32 < ((a1.Prices.length : Nat) : Int)) then
 bif inb x32 a1.Prices.length then
 bif decide ((a1.Prices.getD x32.toNat default) < 0) then
 QP x32 (zP a1 n) true
 else
 QP x32 (zP a1 n) (decide ((a1.Prices.getD x32.toNat default) > 1000000))
 else none
 else
 some (Sum.inr ())
def wK (a1 : qA) (x10 : Bool) : Option Int :=
 bif x10 then
 some 9
 else
 (WI a1).bind fun v12 =>
 bif decide (v12.2 > 600) then
 some 9
 else
 bif ((a1.Lengths.length : Nat) : Int) == 0 then
 some 3
 else
 bif decide (((a1.Lengths.length : Nat) : Int) > 8) then
 some 4
 else
 bif ((a1.Prices.length : Nat) : Int) != ((a1.Lengths.length : Nat) : Int) then
 some 19
 else
 (zE a1 FUEL 0).bind fun u30 => Sum.elim (fun v31 => some v31) (fun o28 =>
 (zP a1 FUEL 0).bind fun u40 => Sum.elim (fun v41 => some v41) (fun o38 =>
 some 0) u40) u30
def wL (a1 : qA) (x5 : Bool) : Option Int :=
 bif x5 then
 some 9
 else
 bif decide (a1.Allow < 0) then
 wK a1 true
 else
 bif decide (a1.Allow > 200) then
 wK a1 true
 else
 bif decide (a1.Wane < 0) then
 wK a1 true
 else
 wK a1 (decide (a1.Wane > 1000))
def yZ (a1 : qA) : Option Int :=
 bif decide (a1.Thick < 5) then
 wL a1 true
 else
 bif decide (a1.Thick > 300) then
 wL a1 true
 else
 bif decide (a1.Width < a1.Thick) then
 wL a1 true
 else
 wL a1 (decide (a1.Width > 600))
/- sawmill/product.Check -/
def yB (a1 : List qA) : Nat → Int → Option (Int ⊕ Unit)
 | 0, _ => none
 | n + 1, x3 =>
 bif decide (x3 < ((a1.length : Nat) : Int)) then
 bif inb x3 a1.length then
 (TM ((a1.getD x3.toNat default).Name)).bind fun v6 =>
 bif !v6 then
 some (Sum.inl 6)
 else
 bif slOk 0 x3 a1.length then
 (TX (a1.take x3.toNat) ((a1.getD x3.toNat default).Name)).bind fun v10 =>
 bif v10.2 then
 some (Sum.inl 7)
 else
 (yZ (a1.getD x3.toNat default)).bind fun v13 =>
 bif v13 != 0 then
 some (Sum.inl v13)
 else
 (yB a1 n) (w64 (x3 + 1))
 else none
 else none
 else
 some (Sum.inr ())
def WD (a1 : List qA) : Option Int :=
 bif decide (((a1.length : Nat) : Int) > 16) then
 some 4
 else
 (yB a1 FUEL 0).bind fun u18 => Sum.elim (fun v19 => some v19) (fun o16 =>
 some 0) u18
/- sawmill/worth.isStep -/
def PW (x3 : Bool) : Option Bool :=
 some x3
def XK (a1 : Int) : Option Bool :=
 bif decide (a1 ≥ 1) then
 PW (decide (a1 ≤ 20000))
 else
 PW false
/- sawmill/worth.isFine -/
def RM (x3 : Bool) : Option Bool :=
 some x3
def XI (a1 : Int) : Option Bool :=
 bif decide (a1 ≥ 0) then
 RM (decide (a1 ≤ 1000000))
 else
 RM false
/- sawmill/worth.Check -/
def QX (x20 : Bool) : Option Int :=
 bif x20 then
 some 9
 else
 some 0
def XC (a2 : Rates) (x12 : Bool) : Option Int :=
 bif x12 then
 some 9
 else
 bif decide (a2.Chip < 0) then
 QX true
 else
 bif decide (a2.Chip > 1000) then
 QX true
 else
 bif decide (a2.Dust < 0) then
 QX true
 else
 bif decide (a2.Dust > 1000) then
 QX true
 else
 (XI a2.Fine).bind fun v18 =>
 QX (!v18)
def WZ (a1 : Saw) (a2 : Rates) (x6 : Bool) : Option Int :=
 bif x6 then
 some 9
 else
 bif decide (a1.Pitch < 1) then
 XC a2 true
 else
 bif decide (a1.Pitch > 2000) then
 XC a2 true
 else
 (XK a1.Step).bind fun v10 =>
 XC a2 (!v10)
def GS (a1 : Saw) (a2 : Rates) : Option Int :=
 bif decide (a1.Kerf < 0) then
 WZ a1 a2 true
 else
 bif decide (a1.Kerf > 20) then
 WZ a1 a2 true
 else
 bif decide (a1.Trim < 0) then
 WZ a1 a2 true
 else
 WZ a1 a2 (decide (a1.Trim > 20))
/- sawmill/edge.check -/
def GZ (x22 : Int) (rec_edge_check_L2 : Int → Option (Int ⊕ Unit)) (x26 : Bool) : Option (Int ⊕ Unit) :=
 bif x26 then
 some (Sum.inl 9)
 else
 rec_edge_check_L2 (w64 (x22 + 1))
def jX (a4 : Rect) : Nat → Int → Option (Int ⊕ Unit)
 | 0, _ => none
 | n + 1, x22 =>
 bif decide (x22 < 4) then
 bif inb x22 4 then
 bif decide ((([a4.X.A, a4.X.B, a4.Y.A, a4.Y.B] : List Int).getD x22.toNat 0) < (-600)) then
 GZ x22 (jX a4 n) true
 else
 GZ x22 (jX a4 n) (decide ((([a4.X.A, a4.X.B, a4.Y.A, a4.Y.B] : List Int).getD x22.toNat 0) > 600))
 else none
 else
 some (Sum.inr ())
def GY (a4 : Rect) (x20 : Bool) : Option Int :=
 bif x20 then
 some 19
 else
 (jX a4 FUEL 0).bind fun u30 => Sum.elim (fun v31 => some v31) (fun o28 =>
 some 0) u30
def LD (a1 : List Slice) (a2 : List Defect) (a3 : List qA) (a4 : Rect) (a5 : Saw) (a6 : Rates) : Option Int :=
 (YX a1).bind fun v7 =>
 bif v7 != 0 then
 some v7
 else
 (XO a2).bind fun v10 =>
 bif v10 != 0 then
 some v10
 else
 (WD a3).bind fun v13 =>
 bif v13 != 0 then
 some v13
 else
 (GS a5 a6).bind fun v16 =>
 bif v16 != 0 then
 some v16
 else
 bif decide (a4.X.A ≥ a4.X.B) then
 GY a4 true
 else
 GY a4 (decide (a4.Y.A ≥ a4.Y.B))
/- sawmill/edge.Sizes -/
def DC (x8 : Int) (rec_edge_Sizes_L1 : (List Int) → (List Int) → Int → Option ((List Int) × (List Int))) (l19 : List Int) (l20 : List Int) : Option ((List Int) × (List Int)) :=
 rec_edge_Sizes_L1 l19 l20 (w64 (x8 + 1))
def DL (l7 : List Int) (x8 : Int) (rec_edge_Sizes_L1 : (List Int) → (List Int) → Int → Option ((List Int) × (List Int))) (l17 : List Int) : Option ((List Int) × (List Int)) :=
 bif room (l7.length + 1) 8 then
 DC x8 rec_edge_Sizes_L1 l17 (l7 ++ ([x8] : List Int))
 else none
def wR (a1 : List qA) (a2 : Int) : Nat → (List Int) → (List Int) → Int → Option ((List Int) × (List Int))
 | 0, _, _, _ => none
 | n + 1, l6, l7, x8 =>
 bif decide (x8 < ((a1.length : Nat) : Int)) then
 bif inb x8 a1.length then
 (WI (a1.getD x8.toNat default)).bind fun v11 =>
 bif a2 == v11.1 then
 bif room (l6.length + 1) 8 then
 DL l7 x8 (wR a1 a2 n) (l6 ++ ([v11.2] : List Int))
 else none
 else
 bif a2 == v11.2 then
 bif room (l6.length + 1) 8 then
 DL l7 x8 (wR a1 a2 n) (l6 ++ ([v11.1] : List Int))
 else none
 else
 DC x8 (wR a1 a2 n) l6 l7
 else none
 else
 some (l6, l7)
def KU (a1 : List qA) (a2 : Int) : Option ((List Int) × (List Int)) :=
 (WD a1).bind fun v3 =>
 bif v3 != 0 then
 some (([] : List Int), ([] : List Int))
 else
 (wR a1 a2 FUEL ([] : List Int) ([] : List Int) 0).bind fun o23 =>
 some (o23.1, o23.2)
/- sawmill/edge.part -/
def TR (a1 : Rect) (a2 : Int) (a3 : Int) : Option Rect :=
 some (Rect.mk (Span.mk (w64 (a1.X.A + a2)) (w64 (a1.X.A + a3))) a1.Y)
/- sawmill/worth.isRect -/
def jT (x2 : Int) (rec_worth_isRect_L1 : Int → Option (Bool ⊕ Unit)) (x7 : Bool) : Option (Bool ⊕ Unit) :=
 bif x7 then
 some (Sum.inl false)
 else
 rec_worth_isRect_L1 (w64 (x2 + 1))
def zY (a1 : Rect) : Nat → Int → Option (Bool ⊕ Unit)
 | 0, _ => none
 | n + 1, x2 =>
 bif decide (x2 < 2) then
 bif inb x2 2 then
 bif decide ((([a1.X.A, a1.X.B, a1.Y.A, a1.Y.B] : List Int).getD (x2.toNat * 2 + 0) 0) < (-600)) then
 jT x2 (zY a1 n) true
 else
 bif decide ((([a1.X.A, a1.X.B, a1.Y.A, a1.Y.B] : List Int).getD (x2.toNat * 2 + 1) 0) > 600) then
 jT x2 (zY a1 n) true
 else
 jT x2 (zY a1 n) (decide ((([a1.X.A, a1.X.B, a1.Y.A, a1.Y.B] : List Int).getD (x2.toNat * 2 + 0) 0) ≥ (([a1.X.A, a1.X.B, a1.Y.A, a1.Y.B] : List Int).getD (x2.toNat * 2 + 1) 0)))
 else none
 else
 some (Sum.inr ())
def TS (a1 : Rect) : Option Bool :=
 (zY a1 FUEL 0).bind fun u11 => Sum.elim (fun v12 => some v12) (fun o9 =>
 some true) u11
/- sawmill/solid.valid -/
def PR (a1 : List Slice) : Option (List Slice) :=
 (YX a1).bind fun v2 =>
 bif v2 != 0 then
 some ([] : List Slice)
 else
 some a1
/- sawmill/solid.Length -/
def yV (v2 : (List Slice)) : Nat → Int → Int → Option Int
 | 0, _, _ => none
 | n + 1, x4, x5 =>
 bif decide (x5 < ((v2.length : Nat) : Int)) then
 bif inb x5 v2.length then
 (yV v2 n) (w64 (x4 + ((v2.getD x5.toNat default).Len))) (w64 (x5 + 1))
 else none
 else
 some x4
def JK (a1 : List Slice) : Option Int :=
 (PR a1).bind fun v2 =>
 (yV v2 FUEL 0 0).bind fun o9 =>
 some o9
/- sawmill/section.valid -/
def PB (a1 : qH) : Option qH :=
 (JT a1).bind fun v2 =>
 bif v2 != 0 then
 some (qH.mk 0 ([] : List Span))
 else
 some a1
/- sawmill/section.heights -/
def YI (a1 : Int) (a2 : Int) : Option Span :=
 some (Span.mk (w64 (10 * a1)) (w64 (10 * a2)))
/- sawmill/span.Meet -/
def WS (a1 : Span) (a2 : Span) : Option Span :=
 bif decide ((imax a1.A a2.A) ≥ (imin a1.B a2.B)) then
 some (Span.mk 0 0)
 else
 some (Span.mk (imax a1.A a2.A) (imin a1.B a2.B))
/- sawmill/span.size -/
def qAk (a1 : Span) : Option Int :=
 bif decide (a1.A ≥ a1.B) then
 some 0
 else
 some (IntKind.u64.wrap ((IntKind.u64.wrap (a1.B)) - (IntKind.u64.wrap (a1.A))))
/- sawmill/span.limited -/
def NU (a1 : Int) : Option Int :=
 some (w64 (imin a1 9223372036854775807))
/- sawmill/span.Len -/
def KE (a1 : Span) : Option Int :=
 (qAk a1).bind fun v2 =>
 (NU v2).bind fun v4 =>
 some v4
/- sawmill/section.Within -/
def QK (a2 : Rect) (v3 : qH) : Nat → Int → Int → Option Int
 | 0, _, _ => none
 | n + 1, x5, x6 =>
 bif decide (x6 < ((v3.Rows.length : Nat) : Int)) then
 bif inb x6 v3.Rows.length then
 (YI (w64 (v3.Low + x6)) (w64 ((w64 (v3.Low + x6)) + 1))).bind fun v9 =>
 (WS (v3.Rows.getD x6.toNat default) a2.X).bind fun v11 =>
 (KE v11).bind fun v13 =>
 (WS v9 a2.Y).bind fun v15 =>
 (KE v15).bind fun v17 =>
 (QK a2 v3 n) (w64 (x5 + (w64 (v13 * v17)))) (w64 (x6 + 1))
 else none
 else
 some x5
def WU (a1 : qH) (a2 : Rect) : Option Int :=
 (PB a1).bind fun v3 =>
 (QK a2 v3 FUEL 0 0).bind fun o20 =>
 some o20
/- sawmill/worth.lacks -/
def JA (a1 : List Slice) (a2 : Rect) : Nat → (List Worth_zone) → Int → Int → Option (List Worth_zone)
 | 0, _, _, _ => none
 | n + 1, l3, x4, x5 =>
 bif decide (x5 < ((a1.length : Nat) : Int)) then
 bif inb x5 a1.length then
 (WU ((a1.getD x5.toNat default).Sec) a2).bind fun v8 =>
 bif nz (w64 ((w64 (a2.X.B - a2.X.A)) * (w64 (a2.Y.B - a2.Y.A)))) then
 bif room (l3.length + 1) 24 then
 (JA a1 a2 n) (l3 ++ ([(Worth_zone.mk (Span.mk x4 (w64 (x4 + ((a1.getD x5.toNat default).Len)))) (w64 (Int.tdiv (w64 ((w64 ((w64 (1000 * (w64 ((w64 ((w64 (a2.X.B - a2.X.A)) * (w64 (a2.Y.B - a2.Y.A)))) - v8)))) + (w64 ((w64 (a2.X.B - a2.X.A)) * (w64 (a2.Y.B - a2.Y.A)))))) - 1)) (w64 ((w64 (a2.X.B - a2.X.A)) * (w64 (a2.Y.B - a2.Y.A)))))))] : List Worth_zone)) (w64 (x4 + ((a1.getD x5.toNat default).Len))) (w64 (x5 + 1))
 else none
 else none
 else none
 else
 some l3
def GJ (a1 : List Slice) (a2 : Rect) : Option (List Worth_zone) :=
 (JA a1 a2 FUEL ([] : List Worth_zone) 0 0).bind fun o13 =>
 some o13
/- (sawmill/worth.view).box -/
def WW (a1 : Worth_view) (a2 : Span) : Option Box :=
 some (Box.mk a1.rect.X a1.rect.Y a2)
/- sawmill/defect.meet -/
def XU (v3 : Span) (v5 : Span) (v7 : Span) (x17 : Bool) : Option (Box × Bool) :=
 bif x17 then
 some ((Box.mk (Span.mk 0 0) (Span.mk 0 0) (Span.mk 0 0)), false)
 else
 some ((Box.mk v3 v5 v7), true)
def HF (a1 : Box) (a2 : Box) : Option (Box × Bool) :=
 (WS a1.X a2.X).bind fun v3 =>
 (WS a1.Y a2.Y).bind fun v5 =>
 (WS a1.Z a2.Z).bind fun v7 =>
 (jL v3).bind fun v9 =>
 bif v9 then
 XU v3 v5 v7 true
 else
 (jL v5).bind fun v12 =>
 bif v12 then
 XU v3 v5 v7 true
 else
 (jL v7).bind fun v15 =>
 XU v3 v5 v7 v15
/- sawmill/defect.Touches -/
def JF (a1 : Defect) (a2 : Box) : Option Bool :=
 (HF a1.Box a2).bind fun v3 =>
 some v3.2
/- sawmill/worth.look -/
def GU (x29 : Int) (rec_worth_look_L3 : Int → (List Defect) → Option (List Defect)) (l37 : List Defect) : Option (List Defect) :=
 rec_worth_look_L3 (w64 (x29 + 1)) l37
def QM (a2 : List Defect) (v27 : Box) : Nat → Int → (List Defect) → Option (List Defect)
 | 0, _, _ => none
 | n + 1, x29, l30 =>
 bif decide (x29 < ((a2.length : Nat) : Int)) then
 bif inb x29 a2.length then
 (JF (a2.getD x29.toNat default) v27).bind fun v33 =>
 bif v33 then
 bif room (l30.length + 1) 56 then
 GU x29 (QM a2 v27 n) (l30 ++ ([(a2.getD x29.toNat default)] : List Defect))
 else none
 else
 GU x29 (QM a2 v27 n) l30
 else none
 else
 some l30
def KY (a1 : List Slice) (a2 : List Defect) (a3 : qA) (a4 : Rect) (x21 : Bool) : Option (Worth_view × Bool) :=
 bif x21 then
 some ((Worth_view.mk (qA.mk (ByteArray.mk #[]) 0 0 0 0 ([] : List Int) ([] : List Int)) (Rect.mk (Span.mk 0 0) (Span.mk 0 0)) 0 ([] : List Worth_zone) ([] : List Defect)), false)
 else
 (JK a1).bind fun v23 =>
 (GJ a1 a4).bind fun v25 =>
 (WW (Worth_view.mk a3 a4 v23 v25 ([] : List Defect)) (Span.mk 0 v23)).bind fun v27 =>
 (QM a2 v27 FUEL 0 ([] : List Defect)).bind fun o39 =>
 some ((Worth_view.mk a3 a4 v23 v25 o39), true)
def JX (a1 : List Slice) (a2 : List Defect) (a3 : qA) (a4 : Rect) (x16 : Bool) : Option (Worth_view × Bool) :=
 bif x16 then
 some ((Worth_view.mk (qA.mk (ByteArray.mk #[]) 0 0 0 0 ([] : List Int) ([] : List Int)) (Rect.mk (Span.mk 0 0) (Span.mk 0 0)) 0 ([] : List Worth_zone) ([] : List Defect)), false)
 else
 (WI a3).bind fun v18 =>
 bif !(((w64 (a4.X.B - a4.X.A)) == v18.1) && (((w64 (a4.Y.B - a4.Y.A)) == v18.2) && true)) then
 KY a1 a2 a3 a4 (!(((w64 (a4.X.B - a4.X.A)) == v18.2) && (((w64 (a4.Y.B - a4.Y.A)) == v18.1) && true)))
 else
 KY a1 a2 a3 a4 false
def NS (a1 : List Slice) (a2 : List Defect) (a3 : qA) (a4 : Rect) : Option (Worth_view × Bool) :=
 (YX a1).bind fun v5 =>
 bif v5 != 0 then
 JX a1 a2 a3 a4 true
 else
 (XO a2).bind fun v8 =>
 bif v8 != 0 then
 JX a1 a2 a3 a4 true
 else
 (WD ([a3] : List qA)).bind fun v11 =>
 bif v11 != 0 then
 JX a1 a2 a3 a4 true
 else
 (TS a4).bind fun v14 =>
 JX a1 a2 a3 a4 (!v14)
/- sawmill/worth.isWithin -/
def WK (x5 : Bool) : Option Bool :=
 some x5
def UY (a1 : Span) (a2 : Int) : Option Bool :=
 bif decide (a1.A ≥ 0) then
 bif decide (a1.A < a1.B) then
 WK (decide (a1.B ≤ a2))
 else
 WK false
 else
 WK false
/- sawmill/product.Price -/
def yA (a1 : qA) (a2 : Int) : Nat → Int → Option ((Int × Bool) ⊕ Unit)
 | 0, _ => none
 | n + 1, x3 =>
 bif decide (x3 < ((a1.Lengths.length : Nat) : Int)) then
 bif inb x3 a1.Lengths.length then
 bif (a1.Lengths.getD x3.toNat default) != a2 then
 (yA a1 a2 n) (w64 (x3 + 1))
 else
 bif decide (x3 ≥ ((a1.Prices.length : Nat) : Int)) then
 some (Sum.inl (0, false))
 else
 bif inb x3 a1.Prices.length then
 some (Sum.inl ((a1.Prices.getD x3.toNat default), true))
 else none
 else none
 else
 some (Sum.inr ())
def PF (a1 : qA) (a2 : Int) : Option (Int × Bool) :=
 (yA a1 a2 FUEL 0).bind fun u11 => Sum.elim (fun v12 => some v12) (fun o9 =>
 some (0, false)) u11
/- sawmill/worth.worst -/
def UU (x4 : Int) (rec_worth_worst_L1 : Int → Int → Option Int) (x10 : Int) : Option Int :=
 rec_worth_worst_L1 x10 (w64 (x4 + 1))
def UB (a1 : List Worth_zone) (x3 : Int) (x4 : Int) (rec_worth_worst_L1 : Int → Int → Option Int) (x8 : Bool) : Option Int :=
 bif x8 then
 UU x4 rec_worth_worst_L1 (imax x3 ((a1.getD x4.toNat default).lack))
 else
 UU x4 rec_worth_worst_L1 x3
def jF (a1 : List Worth_zone) (a2 : Span) : Nat → Int → Int → Option Int
 | 0, _, _ => none
 | n + 1, x3, x4 =>
 bif decide (x4 < ((a1.length : Nat) : Int)) then
 bif inb x4 a1.length then
 bif decide ((((a1.getD x4.toNat default).z).A) < a2.B) then
 UB a1 x3 x4 (jF a1 a2 n) (decide (a2.A < (((a1.getD x4.toNat default).z).B)))
 else
 UB a1 x3 x4 (jF a1 a2 n) false
 else none
 else
 some x3
def GD (a1 : List Worth_zone) (a2 : Span) : Option Int :=
 (jF a1 a2 FUEL 0 0).bind fun o12 =>
 some o12
/- (sawmill/worth.view).worth -/
def JN (x17 : Int) (rec_worth_view_worth_L2 : Int → Int → Option ((Int × Bool) ⊕ Int)) (x24 : Int) : Option ((Int × Bool) ⊕ Int) :=
 rec_worth_view_worth_L2 x24 (w64 (x17 + 1))
def zJ (a1 : Worth_view) (a3 : Int) (v14 : Box) : Nat → Int → Int → Option ((Int × Bool) ⊕ Int)
 | 0, _, _ => none
 | n + 1, x16, x17 =>
 bif decide (x17 < ((a1.defects.length : Nat) : Int)) then
 bif inb x17 a1.defects.length then
 (JF (a1.defects.getD x17.toNat default) v14).bind fun v20 =>
 bif !v20 then
 JN x17 (zJ a1 a3 v14 n) x16
 else
 bif ((a1.defects.getD x17.toNat default).Kind) == 3 then
 some (Sum.inl (0, false))
 else
 JN x17 (zJ a1 a3 v14 n) (w64 (x16 - a3))
 else none
 else
 some (Sum.inr x16)
def JL (a1 : Worth_view) (a2 : Span) (a3 : Int) (v7 : Int × Bool) (x12 : Bool) : Option (Int × Bool) :=
 bif x12 then
 some (0, false)
 else
 (WW a1 a2).bind fun v14 =>
 (zJ a1 a3 v14 FUEL v7.1 0).bind fun u28 => Sum.elim (fun v29 => some v29) (fun o26 =>
 some (imax o26 0, true)) u28
def QZ (a1 : Worth_view) (a2 : Span) (a3 : Int) : Option (Int × Bool) :=
 (UY a2 a1.length).bind fun v4 =>
 bif !v4 then
 some (0, false)
 else
 (PF a1.product (w64 (a2.B - a2.A))).bind fun v7 =>
 bif !v7.2 then
 JL a1 a2 a3 v7 true
 else
 (GD a1.zones a2).bind fun v10 =>
 JL a1 a2 a3 v7 (decide (v10 > a1.product.Wane))
/- sawmill/worth.Best -/
def GV (x24 : Int) (rec_worth_Best_L3 : Int → Bool → Int → Span → Option (Int × Bool × Span)) (x34 : Int) (x35 : Bool) (x36 : Span) : Option (Int × Bool × Span) :=
 rec_worth_Best_L3 x34 x35 (w64 (x24 + 1)) x36
def PD (a3 : qA) (x19 : Int) (x22 : Int) (x23 : Bool) (x24 : Int) (x25 : Span) (rec_worth_Best_L3 : Int → Bool → Int → Span → Option (Int × Bool × Span)) (v28 : Int × Bool) (x32 : Bool) : Option (Int × Bool × Span) :=
 bif x32 then
 GV x24 rec_worth_Best_L3 v28.1 true (Span.mk x19 (w64 (x19 + (a3.Lengths.getD x24.toNat default))))
 else
 GV x24 rec_worth_Best_L3 x22 x23 x25
def wP (a3 : qA) (a6 : Int) (v14 : Worth_view × Bool) (x19 : Int) : Nat → Int → Bool → Int → Span → Option (Int × Bool × Span)
 | 0, _, _, _, _ => none
 | n + 1, x22, x23, x24, x25 =>
 bif decide (x24 < ((a3.Lengths.length : Nat) : Int)) then
 bif inb x24 a3.Lengths.length then
 (QZ (Worth_view.mk v14.1.product v14.1.rect v14.1.length v14.1.zones v14.1.defects) (Span.mk x19 (w64 (x19 + (a3.Lengths.getD x24.toNat default)))) a6).bind fun v28 =>
 bif v28.2 then
 bif !x23 then
 PD a3 x19 x22 x23 x24 x25 (wP a3 a6 v14 x19 n) v28 true
 else
 PD a3 x19 x22 x23 x24 x25 (wP a3 a6 v14 x19 n) v28 (decide (v28.1 > x22))
 else
 PD a3 x19 x22 x23 x24 x25 (wP a3 a6 v14 x19 n) v28 false
 else none
 else
 some (x22, x23, x25)
def WE (a3 : qA) (a5 : Int) (a6 : Int) (v14 : Worth_view × Bool) : Nat → Int → Bool → Int → Span → Option (Int × Bool × Span)
 | 0, _, _, _, _ => none
 | n + 1, x17, x18, x19, x20 =>
 bif decide (x19 < v14.1.length) then
 (wP a3 a6 v14 x19 FUEL x17 x18 0 x20).bind fun o40 =>
 (WE a3 a5 a6 v14 n) o40.1 o40.2.1 (w64 (x19 + a5)) o40.2.2
 else
 some (x17, x18, x20)
def GT (a1 : List Slice) (a2 : List Defect) (a3 : qA) (a4 : Rect) (a5 : Int) (a6 : Int) (x12 : Bool) : Option (Span × Int × Bool) :=
 bif x12 then
 some ((Span.mk 0 0), 0, false)
 else
 (NS a1 a2 a3 a4).bind fun v14 =>
 bif !v14.2 then
 some ((Span.mk 0 0), 0, false)
 else
 (WE a3 a5 a6 v14 FUEL 0 false 0 (Span.mk 0 0)).bind fun o45 =>
 some (o45.2.2, o45.1, o45.2.1)
def FW (a1 : List Slice) (a2 : List Defect) (a3 : qA) (a4 : Rect) (a5 : Int) (a6 : Int) : Option (Span × Int × Bool) :=
 (XK a5).bind fun v7 =>
 bif !v7 then
 GT a1 a2 a3 a4 a5 a6 true
 else
 (XI a6).bind fun v10 =>
 GT a1 a2 a3 a4 a5 a6 (!v10)
/- sawmill/solid.extents -/
def QU (a1 : List Slice) : Nat → (List Span) → Int → Int → Option (List Span)
 | 0, _, _, _ => none
 | n + 1, l3, x4, x5 =>
 bif decide (x5 < ((a1.length : Nat) : Int)) then
 bif inb x5 a1.length then
 bif inb x5 l3.length then
 (QU a1 n) (l3.set x5.toNat (Span.mk x4 (w64 (x4 + ((a1.getD x5.toNat default).Len))))) (w64 (x4 + ((a1.getD x5.toNat default).Len))) (w64 (x5 + 1))
 else none
 else none
 else
 some l3
def PG (a1 : List Slice) : Option (List Span) :=
 bif mkOk ((a1.length : Nat) : Int) 16 then
 (QU a1 FUEL (List.replicate (((a1.length : Nat) : Int).toNat) (Span.mk 0 0)) 0 0).bind fun o10 =>
 some o10
 else none
/- sawmill/solid.Within -/
def PY (x8 : Int) (rec_solid_Within_L1 : Int → Int → Option Int) (x19 : Int) : Option Int :=
 rec_solid_Within_L1 x19 (w64 (x8 + 1))
def jS (a2 : Box) (v3 : (List Slice)) (v5 : (List Span)) : Nat → Int → Int → Option Int
 | 0, _, _ => none
 | n + 1, x7, x8 =>
 bif decide (x8 < ((v5.length : Nat) : Int)) then
 bif inb x8 v5.length then
 (WS (v5.getD x8.toNat default) a2.Z).bind fun v11 =>
 (KE v11).bind fun v13 =>
 bif decide (v13 > 0) then
 bif inb x8 v3.length then
 (WU ((v3.getD x8.toNat default).Sec) (Rect.mk a2.X a2.Y)).bind fun v17 =>
 PY x8 (jS a2 v3 v5 n) (w64 (x7 + (w64 (v13 * v17))))
 else none
 else
 PY x8 (jS a2 v3 v5 n) x7
 else none
 else
 some x7
def TH (a1 : List Slice) (a2 : Box) : Option Int :=
 (PR a1).bind fun v3 =>
 (PG v3).bind fun v5 =>
 (jS a2 v3 v5 FUEL 0 0).bind fun o21 =>
 some o21
/- sawmill/edge.volume -/
def ZG (a1 : List Slice) (a2 : Rect) (a3 : Span) : Option Int :=
 (TH a1 (Box.mk a2.X a2.Y a3)).bind fun v4 =>
 some v4
/- sawmill/edge.gain -/
def SI (a1 : List Slice) (a2 : List Defect) (a3 : qA) (a4 : Rect) (a5 : Saw) (a6 : Rates) : Option Int :=
 (FW a1 a2 a3 a4 a5.Step a6.Fine).bind fun v7 =>
 bif !v7.2.2 then
 some (-1)
 else
 (JK a1).bind fun v10 =>
 (ZG a1 a4 (Span.mk 0 v10)).bind fun v12 =>
 (ZG a1 a4 v7.1).bind fun v14 =>
 (ZG a1 a4 (Span.mk (imax 0 (w64 (v7.1.A - a5.Trim))) v7.1.A)).bind fun v16 =>
 (ZG a1 a4 (Span.mk v7.1.B (imin (w64 (v7.1.B + a5.Trim)) v10))).bind fun v18 =>
 some (w64 ((w64 ((w64 (1000000 * v7.2.1)) + (w64 (a6.Dust * (w64 (v16 + v18)))))) + (w64 (a6.Chip * (w64 ((w64 (v12 - v14)) - (w64 (v16 + v18))))))))
/- sawmill/edge.Line -/
def NP (l16 : List Int) (x17 : Int) (rec_edge_Line_L2 : (List Int) → Int → Option (List Int)) (x27 : Int) : Option (List Int) :=
 bif room (l16.length + 1) 8 then
 rec_edge_Line_L2 (l16 ++ ([x27] : List Int)) (w64 (x17 + 1))
 else none
def yX (a1 : List Slice) (a2 : List Defect) (a3 : List qA) (a4 : Rect) (a5 : Saw) (a6 : Rates) (v10 : (List Int) × (List Int)) (x12 : Int) : Nat → (List Int) → Int → Option (List Int)
 | 0, _, _ => none
 | n + 1, l16, x17 =>
 bif decide ((w64 (x17 + (v10.1.getD x12.toNat default))) ≤ (w64 (a4.X.B - a4.X.A))) then
 bif nz a5.Pitch then
 bif (Int.tmod x17 a5.Pitch) == 0 then
 bif inb x12 v10.2.length then
 bif inb (v10.2.getD x12.toNat default) a3.length then
 (TR a4 x17 (w64 (x17 + (v10.1.getD x12.toNat default)))).bind fun v23 =>
 (SI a1 a2 (a3.getD (v10.2.getD x12.toNat default).toNat default) v23 a5 a6).bind fun v25 =>
 NP l16 x17 (yX a1 a2 a3 a4 a5 a6 v10 x12 n) v25
 else none
 else none
 else
 NP l16 x17 (yX a1 a2 a3 a4 a5 a6 v10 x12 n) (-1)
 else none
 else
 some l16
def JI (a1 : List Slice) (a2 : List Defect) (a3 : List qA) (a4 : Rect) (a5 : Saw) (a6 : Rates) (v10 : (List Int) × (List Int)) : Nat → Int → (List (List Int)) → Option (List (List Int))
 | 0, _, _ => none
 | n + 1, x12, l13 =>
 bif decide (x12 < ((v10.1.length : Nat) : Int)) then
 bif inb x12 v10.1.length then
 (yX a1 a2 a3 a4 a5 a6 v10 x12 FUEL ([] : List Int) 0).bind fun o30 =>
 bif room (l13.length + 1) 24 then
 (JI a1 a2 a3 a4 a5 a6 v10 n) (w64 (x12 + 1)) (l13 ++ ([o30] : List (List Int)))
 else none
 else none
 else
 some l13
def JH (a1 : List Slice) (a4 : Rect) (a6 : Rates) (v36 : Int) : Nat → Int → (List Int) → (List Int) → Option ((List Int) × (List Int))
 | 0, _, _, _ => none
 | n + 1, x38, l39, l40 =>
 bif decide (x38 < (w64 (a4.X.B - a4.X.A))) then
 (TR a4 x38 (w64 (x38 + 1))).bind fun v42 =>
 (ZG a1 v42 (Span.mk 0 v36)).bind fun v44 =>
 bif room (l39.length + 1) 8 then
 bif room (l40.length + 1) 8 then
 (JH a1 a4 a6 v36 n) (w64 (x38 + 1)) (l39 ++ ([w64 (a6.Chip * v44)] : List Int)) (l40 ++ ([w64 (a6.Dust * v44)] : List Int))
 else none
 else none
 else
 some (l39, l40)
def NI (a1 : List Slice) (a2 : List Defect) (a3 : List qA) (a4 : Rect) (a5 : Saw) (a6 : Rates) : Option (Line × Int) :=
 (LD a1 a2 a3 a4 a5 a6).bind fun v7 =>
 bif v7 != 0 then
 some ((Line.mk 0 0 0 ([] : List Int) ([] : List (List Int)) ([] : List Int) ([] : List Int)), v7)
 else
 (KU a3 (w64 (a4.Y.B - a4.Y.A))).bind fun v10 =>
 (JI a1 a2 a3 a4 a5 a6 v10 FUEL 0 ([] : List (List Int))).bind fun o34 =>
 (JK a1).bind fun v36 =>
 (JH a1 a4 a6 v36 FUEL 0 ([] : List Int) ([] : List Int)).bind fun o50 =>
 some ((Line.mk (w64 (a4.X.B - a4.X.A)) a5.Kerf 1 v10.1 o34 o50.1 o50.2), 0)
/- sawmill/sawmilllaw23.line -/
def VA (a1 : qO) : Option (Line × Int) :=
 (NI a1.Solid a1.Defects a1.Products a1.Strip a1.Saw a1.Rates).bind fun v2 =>
 some ((Line.mk v2.1.Len v2.1.Kerf v2.1.Pitch v2.1.Sizes v2.1.Gain v2.1.Chip v2.1.Dust), v2.2)
/- sawmill/cutting.measures -/
def PT (x10 : Int) (rec_cutting_measures_L2 : Int → Option (Int ⊕ Unit)) (x14 : Bool) : Option (Int ⊕ Unit) :=
 bif x14 then
 some (Sum.inl 9)
 else
 rec_cutting_measures_L2 (w64 (x10 + 1))
def QS (a1 : Line) : Nat → Int → Option (Int ⊕ Unit)
 | 0, _ => none
 | n + 1, x10 =>
 bif decide (x10 < ((a1.Sizes.length : Nat) : Int)) then
 bif inb x10 a1.Sizes.length then
 bif decide ((a1.Sizes.getD x10.toNat default) < 1) then
 PT x10 (QS a1 n) true
 else
 PT x10 (QS a1 n) (decide ((a1.Sizes.getD x10.toNat default) > 2000))
 else none
 else
 some (Sum.inr ())
def wX (a1 : Line) (x7 : Bool) : Option Int :=
 bif x7 then
 some 9
 else
 bif decide (((a1.Sizes.length : Nat) : Int) > 32) then
 some 4
 else
 (QS a1 FUEL 0).bind fun u18 => Sum.elim (fun v19 => some v19) (fun o16 =>
 some 0) u18
def BR (a1 : Line) : Option Int :=
 bif decide (a1.Len < 0) then
 wX a1 true
 else
 bif decide (a1.Len > 2000) then
 wX a1 true
 else
 bif decide (a1.Kerf < 0) then
 wX a1 true
 else
 bif decide (a1.Kerf > 20) then
 wX a1 true
 else
 bif decide (a1.Pitch < 1) then
 wX a1 true
 else
 wX a1 (decide (a1.Pitch > 2000))
/- sawmill/cutting.places -/
def LO (a1 : Line) (a2 : Int) : Option Int :=
 some (imax 0 (w64 ((w64 (a1.Len - a2)) + 1)))
/- sawmill/cutting.small -/
def BG (x5 : Int) (rec_cutting_small_L2 : Int → Option (Bool ⊕ Unit)) (x9 : Bool) : Option (Bool ⊕ Unit) :=
 bif x9 then
 some (Sum.inl false)
 else
 rec_cutting_small_L2 (w64 (x5 + 1))
def JJ (a1 : List (List Int)) (x2 : Int) : Nat → Int → Option (Bool ⊕ Unit)
 | 0, _ => none
 | n + 1, x5 =>
 bif decide (x5 < (((a1.getD x2.toNat default).length : Nat) : Int)) then
 bif inb x5 ((a1.getD x2.toNat default).length) then
 bif decide (((a1.getD x2.toNat default).getD x5.toNat default) < (-1125899906842624)) then
 BG x5 (JJ a1 x2 n) true
 else
 BG x5 (JJ a1 x2 n) (decide (((a1.getD x2.toNat default).getD x5.toNat default) > 1125899906842624))
 else none
 else
 some (Sum.inr ())
def BB (a1 : List (List Int)) : Nat → Int → Option (Bool ⊕ Unit)
 | 0, _ => none
 | n + 1, x2 =>
 bif decide (x2 < ((a1.length : Nat) : Int)) then
 bif inb x2 a1.length then
 (JJ a1 x2 FUEL 0).bind fun u13 => Sum.elim (fun v14 => some (Sum.inl v14)) (fun o11 =>
 (BB a1 n) (w64 (x2 + 1))) u13
 else none
 else
 some (Sum.inr ())
def DJ (a1 : List (List Int)) : Option Bool :=
 (BB a1 FUEL 0).bind fun u17 => Sum.elim (fun v18 => some v18) (fun o15 =>
 some true) u17
/- sawmill/cutting.Check -/
def BO (a1 : Line) : Nat → Int → Option (Int ⊕ Unit)
 | 0, _ => none
 | n + 1, x9 =>
 bif decide (x9 < ((a1.Gain.length : Nat) : Int)) then
 bif inb x9 a1.Gain.length then
 bif inb x9 a1.Sizes.length then
 (LO a1 (a1.Sizes.getD x9.toNat default)).bind fun v13 =>
 bif (((a1.Gain.getD x9.toNat default).length : Nat) : Int) != v13 then
 some (Sum.inl 19)
 else
 (BO a1 n) (w64 (x9 + 1))
 else none
 else none
 else
 some (Sum.inr ())
def BE (x25 : Bool) : Option Int :=
 bif x25 then
 some 9
 else
 some 0
def KP (a1 : Line) (x7 : Bool) : Option Int :=
 bif x7 then
 some 19
 else
 (BO a1 FUEL 0).bind fun u18 => Sum.elim (fun v19 => some v19) (fun o16 =>
 (DJ a1.Gain).bind fun v20 =>
 bif !v20 then
 BE true
 else
 (DJ ([a1.Chip, a1.Dust] : List (List Int))).bind fun v23 =>
 BE (!v23)) u18
def EJ (a1 : Line) : Option Int :=
 (BR a1).bind fun v2 =>
 bif v2 != 0 then
 some v2
 else
 bif ((a1.Gain.length : Nat) : Int) != ((a1.Sizes.length : Nat) : Int) then
 KP a1 true
 else
 bif ((a1.Chip.length : Nat) : Int) != a1.Len then
 KP a1 true
 else
 KP a1 (((a1.Dust.length : Nat) : Int) != a1.Len)
/- sawmill/cutting.sums -/
def NL (a1 : List Int) : Nat → (List Int) → Int → Option (List Int)
 | 0, _, _ => none
 | n + 1, l3, x4 =>
 bif decide (x4 < ((a1.length : Nat) : Int)) then
 bif inb x4 a1.length then
 bif inb x4 l3.length then
 bif inb (w64 (x4 + 1)) l3.length then
 (NL a1 n) (l3.set ((w64 (x4 + 1)).toNat) (w64 ((l3.getD x4.toNat default) + (a1.getD x4.toNat default)))) (w64 (x4 + 1))
 else none
 else none
 else none
 else
 some l3
def NM (a1 : List Int) : Option (List Int) :=
 bif mkOk (w64 (((a1.length : Nat) : Int) + 1)) 8 then
 (NL a1 FUEL (List.replicate ((w64 (((a1.length : Nat) : Int) + 1)).toNat) 0) 0).bind fun o10 =>
 some o10
 else none
/- sawmill/cutting.behind -/
def UV (a1 : Line) (a2 : Int) : Option Int :=
 bif a2 == a1.Len then
 some (-1)
 else
 some (imin (w64 (a2 + a1.Kerf)) a1.Len)
/- sawmill/cutting.start -/
def KR (x5 : Int) (rec_cutting_start_L1 : Int → Cutting_choice → Option Cutting_choice) (x26 : Cutting_choice) : Option Cutting_choice :=
 rec_cutting_start_L1 (w64 (x5 + 1)) x26
def DV (x5 : Int) (x6 : Cutting_choice) (rec_cutting_start_L1 : Int → Cutting_choice → Option Cutting_choice) (x22 : Cutting_choice) (x24 : Bool) : Option Cutting_choice :=
 bif x24 then
 KR x5 rec_cutting_start_L1 x22
 else
 KR x5 rec_cutting_start_L1 x6
def DS (x5 : Int) (x6 : Cutting_choice) (rec_cutting_start_L1 : Int → Cutting_choice → Option Cutting_choice) (x22 : Cutting_choice) : Option Cutting_choice :=
 bif ((x6.piece.Size == (-1)) && ((x6.piece.At == (-1)) && true)) then
 DV x5 x6 rec_cutting_start_L1 x22 true
 else
 DV x5 x6 rec_cutting_start_L1 x22 (decide (x22.value > x6.value))
def BH (a1 : Line) (a2 : Int) (a3 : List Int) (a4 : List Cutting_choice) (x5 : Int) (x6 : Cutting_choice) (rec_cutting_start_L1 : Int → Cutting_choice → Option Cutting_choice) (x12 : Bool) : Option Cutting_choice :=
 bif x12 then
 KR x5 rec_cutting_start_L1 x6
 else
 bif inb x5 a1.Gain.length then
 bif inb a2 ((a1.Gain.getD x5.toNat default).length) then
 (UV a1 (w64 (a2 + (a1.Sizes.getD x5.toNat default)))).bind fun v16 =>
 bif decide (v16 ≥ 0) then
 bif inb v16 a3.length then
 bif inb (w64 (a2 + (a1.Sizes.getD x5.toNat default))) a3.length then
 bif inb v16 a4.length then
 DS x5 x6 rec_cutting_start_L1 (Cutting_choice.mk (Piece.mk x5 a2) (w64 (((a1.Gain.getD x5.toNat default).getD a2.toNat default) + (w64 ((w64 ((a3.getD v16.toNat default) - (a3.getD (w64 (a2 + (a1.Sizes.getD x5.toNat default))).toNat default))) + ((a4.getD v16.toNat default).value))))))
 else none
 else none
 else none
 else
 DS x5 x6 rec_cutting_start_L1 (Cutting_choice.mk (Piece.mk x5 a2) ((a1.Gain.getD x5.toNat default).getD a2.toNat default))
 else none
 else none
def jC (a1 : Line) (a2 : Int) (a3 : List Int) (a4 : List Cutting_choice) : Nat → Int → Cutting_choice → Option Cutting_choice
 | 0, _, _ => none
 | n + 1, x5, x6 =>
 bif decide (x5 < ((a1.Sizes.length : Nat) : Int)) then
 bif inb x5 a1.Sizes.length then
 bif decide ((w64 (a2 + (a1.Sizes.getD x5.toNat default))) > a1.Len) then
 BH a1 a2 a3 a4 x5 x6 (jC a1 a2 a3 a4 n) true
 else
 bif inb x5 a1.Gain.length then
 bif inb a2 ((a1.Gain.getD x5.toNat default).length) then
 BH a1 a2 a3 a4 x5 x6 (jC a1 a2 a3 a4 n) (decide (((a1.Gain.getD x5.toNat default).getD a2.toNat default) < 0))
 else none
 else none
 else none
 else
 some x6
def SZ (a1 : Line) (a2 : Int) (a3 : List Int) (a4 : List Cutting_choice) : Option Cutting_choice :=
 (jC a1 a2 a3 a4 FUEL 0 (Cutting_choice.mk (Piece.mk (-1) (-1)) 0)).bind fun o28 =>
 some o28
/- sawmill/cutting.choices -/
def TB (a1 : Line) (x20 : Int) (rec_cutting_choices_L4 : Int → Cutting_choice → Option Cutting_choice) (x31 : Cutting_choice) : Option Cutting_choice :=
 rec_cutting_choices_L4 (w64 (x20 + a1.Pitch)) x31
def TQ (a1 : Line) (v2 : (List Int)) (v4 : (List Int)) (l8 : List Cutting_choice) (x9 : Int) (v11 : Cutting_choice) (x20 : Int) (x21 : Cutting_choice) (rec_cutting_choices_L4 : Int → Cutting_choice → Option Cutting_choice) (x29 : Bool) : Option Cutting_choice :=
 bif x29 then
 TB a1 x20 rec_cutting_choices_L4 (Cutting_choice.mk (((l8.set x9.toNat v11).getD x20.toNat default).piece) (w64 ((((l8.set x9.toNat v11).getD x20.toNat default).value) + (w64 ((w64 ((w64 ((v2.getD ((w64 (x20 - a1.Kerf)).toNat) default) - (v2.getD x9.toNat default))) + (v4.getD x20.toNat default))) - (v4.getD ((w64 (x20 - a1.Kerf)).toNat) default))))))
 else
 TB a1 x20 rec_cutting_choices_L4 x21
def yG (a1 : Line) (v2 : (List Int)) (v4 : (List Int)) (l8 : List Cutting_choice) (x9 : Int) (v11 : Cutting_choice) : Nat → Int → Cutting_choice → Option Cutting_choice
 | 0, _, _ => none
 | n + 1, x20, x21 =>
 bif decide (x20 ≤ a1.Len) then
 bif inb x20 l8.length then
 bif inb (w64 (x20 - a1.Kerf)) v2.length then
 bif inb x9 v2.length then
 bif inb x20 v4.length then
 bif inb (w64 (x20 - a1.Kerf)) v4.length then
 bif !((((((l8.set x9.toNat v11).getD x20.toNat default).piece).Size) == (-1)) && ((((((l8.set x9.toNat v11).getD x20.toNat default).piece).At) == (-1)) && true)) then
 TQ a1 v2 v4 l8 x9 v11 x20 x21 (yG a1 v2 v4 l8 x9 v11 n) (decide ((w64 ((((l8.set x9.toNat v11).getD x20.toNat default).value) + (w64 ((w64 ((w64 ((v2.getD ((w64 (x20 - a1.Kerf)).toNat) default) - (v2.getD x9.toNat default))) + (v4.getD x20.toNat default))) - (v4.getD ((w64 (x20 - a1.Kerf)).toNat) default))))) > x21.value))
 else
 TQ a1 v2 v4 l8 x9 v11 x20 x21 (yG a1 v2 v4 l8 x9 v11 n) false
 else none
 else none
 else none
 else none
 else none
 else
 some x21
def RY (a1 : Line) (v2 : (List Int)) (v4 : (List Int)) (l7 : List Cutting_choice) (l8 : List Cutting_choice) (x9 : Int) (rec_cutting_choices_L1 : (List Cutting_choice) → (List Cutting_choice) → Int → Option (List Cutting_choice)) (v11 : Cutting_choice) (x19 : Cutting_choice) : Option (List Cutting_choice) :=
 (yG a1 v2 v4 l8 x9 v11 FUEL (w64 ((w64 (x9 + a1.Pitch)) + a1.Kerf)) x19).bind fun o33 =>
 bif inb x9 l7.length then
 rec_cutting_choices_L1 (l7.set x9.toNat o33) (l8.set x9.toNat v11) (w64 (x9 - 1))
 else none
def TG (a1 : Line) (v2 : (List Int)) (v4 : (List Int)) (l7 : List Cutting_choice) (l8 : List Cutting_choice) (x9 : Int) (rec_cutting_choices_L1 : (List Cutting_choice) → (List Cutting_choice) → Int → Option (List Cutting_choice)) (v11 : Cutting_choice) (x17 : Bool) : Option (List Cutting_choice) :=
 bif x17 then
 RY a1 v2 v4 l7 l8 x9 rec_cutting_choices_L1 v11 ((l8.set x9.toNat v11).getD x9.toNat default)
 else
 RY a1 v2 v4 l7 l8 x9 rec_cutting_choices_L1 v11 (Cutting_choice.mk (Piece.mk (-1) (-1)) (w64 ((v2.getD a1.Len.toNat default) - (v2.getD x9.toNat default))))
def yF (a1 : Line) (v2 : (List Int)) (v4 : (List Int)) : Nat → (List Cutting_choice) → (List Cutting_choice) → Int → Option (List Cutting_choice)
 | 0, _, _, _ => none
 | n + 1, l7, l8, x9 =>
 bif decide (x9 ≥ 0) then
 (SZ a1 x9 v4 l7).bind fun v11 =>
 bif inb x9 l8.length then
 bif inb a1.Len v2.length then
 bif inb x9 v2.length then
 bif !((((((l8.set x9.toNat v11).getD x9.toNat default).piece).Size) == (-1)) && ((((((l8.set x9.toNat v11).getD x9.toNat default).piece).At) == (-1)) && true)) then
 TG a1 v2 v4 l7 l8 x9 (yF a1 v2 v4 n) v11 (decide ((((l8.set x9.toNat v11).getD x9.toNat default).value) > (w64 ((v2.getD a1.Len.toNat default) - (v2.getD x9.toNat default)))))
 else
 TG a1 v2 v4 l7 l8 x9 (yF a1 v2 v4 n) v11 false
 else none
 else none
 else none
 else
 some l7
def LA (a1 : Line) : Option (List Cutting_choice) :=
 (NM a1.Chip).bind fun v2 =>
 (NM a1.Dust).bind fun v4 =>
 bif mkOk (w64 (a1.Len + 1)) 24 then
 (yF a1 v2 v4 FUEL (List.replicate ((w64 (a1.Len + 1)).toNat) (Cutting_choice.mk (Piece.mk 0 0) 0)) (List.replicate ((w64 (a1.Len + 1)).toNat) (Cutting_choice.mk (Piece.mk 0 0) 0)) a1.Len).bind fun o37 =>
 some o37
 else none
/- sawmill/cutting.Best -/
def FI (a1 : Line) (v5 : (List Cutting_choice)) : Nat → (List Piece) → Int → Option (List Piece)
 | 0, _, _ => none
 | n + 1, l7, x8 =>
 bif decide (x8 ≥ 0) then
 bif inb x8 v5.length then
 bif (((((v5.getD x8.toNat default).piece).Size) == (-1)) && (((((v5.getD x8.toNat default).piece).At) == (-1)) && true)) then
 some l7
 else
 bif room (l7.length + 1) 16 then
 bif inb (((v5.getD x8.toNat default).piece).Size) a1.Sizes.length then
 (UV a1 (w64 ((((v5.getD x8.toNat default).piece).At) + (a1.Sizes.getD (((v5.getD x8.toNat default).piece).Size).toNat default)))).bind fun v14 =>
 (FI a1 v5 n) (l7 ++ ([(v5.getD x8.toNat default).piece] : List Piece)) v14
 else none
 else none
 else none
 else
 some l7
def IQ (a1 : Line) : Option ((List Piece) × Int × Int) :=
 (EJ a1).bind fun v2 =>
 bif v2 != 0 then
 some (([] : List Piece), 0, v2)
 else
 (LA a1).bind fun v5 =>
 (FI a1 v5 FUEL ([] : List Piece) 0).bind fun o17 =>
 bif inb 0 v5.length then
 some (o17, (v5.getD ((0 : Int).toNat) default).value, 0)
 else none
/- slices.Clone[[]sawmill/api.Node,sawmill/api.Node] -/
def TW (a1 : List Node) : Option (List Node) :=
 bif room a1.length 16 then some a1 else none
/- sawmill/edge.collect -/
def LC (a1 : List (List Node)) (a2 : List Node) : Option ((List (List Node)) × (List (List Node))) :=
 (TW a2).bind fun v3 =>
 bif room (a1.length + 1) 24 then
 some ((a1 ++ ([v3] : List (List Node))), (a1 ++ ([v3] : List (List Node))))
 else none
/- sawmill/pattern.isRip -/
def BS (x3 : Bool) : Option Bool :=
 some x3
def EC (a1 : Int) : Option Bool :=
 bif a1 == 2 then
 BS true
 else
 BS (a1 == 3)
/- sawmill/pattern.isFrame -/
def YQ (x2 : Int) (rec_pattern_isFrame_L1 : Int → Option (Bool ⊕ Unit)) (x7 : Bool) : Option (Bool ⊕ Unit) :=
 bif x7 then
 some (Sum.inl false)
 else
 rec_pattern_isFrame_L1 (w64 (x2 + 1))
def yE (a1 : Rect) : Nat → Int → Option (Bool ⊕ Unit)
 | 0, _ => none
 | n + 1, x2 =>
 bif decide (x2 < 2) then
 bif inb x2 2 then
 bif decide ((([a1.X.A, a1.X.B, a1.Y.A, a1.Y.B] : List Int).getD (x2.toNat * 2 + 0) 0) < (-600)) then
 YQ x2 (yE a1 n) true
 else
 bif decide ((([a1.X.A, a1.X.B, a1.Y.A, a1.Y.B] : List Int).getD (x2.toNat * 2 + 1) 0) > 600) then
 YQ x2 (yE a1 n) true
 else
 YQ x2 (yE a1 n) (decide ((([a1.X.A, a1.X.B, a1.Y.A, a1.Y.B] : List Int).getD (x2.toNat * 2 + 0) 0) ≥ (([a1.X.A, a1.X.B, a1.Y.A, a1.Y.B] : List Int).getD (x2.toNat * 2 + 1) 0)))
 else none
 else
 some (Sum.inr ())
def NZ (a1 : Rect) : Option Bool :=
 (yE a1 FUEL 0).bind fun u11 => Sum.elim (fun v12 => some v12) (fun o9 =>
 some true) u11
/- sawmill/pattern.along -/
def EE (a1 : Rect) (a2 : Int) : Option Span :=
 bif a2 == 2 then
 some a1.X
 else
 some a1.Y
/- sawmill/pattern.Row$1 -/
def QT (a1 : List Node) (a2 : Int) (a3 : List Node) : Option (Int × (List Node)) :=
 bif decide ((w64 (a2 + ((a1.length : Nat) : Int))) ≤ 127) then
 bif room (a3.length + a1.length) 16 then
 some (w64 (a2 + ((a1.length : Nat) : Int)), (a3 ++ a1))
 else none
 else
 some (w64 (a2 + ((a1.length : Nat) : Int)), a3)
/- sawmill/pattern.Row -/
def MI (a5 : List (List Node)) (x21 : Int) (rec_pattern_Row_L3 : Int → Bool → Int → (List Node) → Int → Option (((List Node) × Int) ⊕ (Bool × (List Node) × Int))) (x40 : Int) (x41 : Bool) (l42 : List Node) (x43 : Int) : Option (((List Node) × Int) ⊕ (Bool × (List Node) × Int)) :=
 bif inb x21 a5.length then
 (QT (a5.getD x21.toNat default) x43 l42).bind fun v45 =>
 rec_pattern_Row_L3 x40 x41 (w64 (x21 + 1)) v45.2 v45.1
 else none
def LU (a2 : Int) (a3 : Int) (a4 : List Span) (a5 : List (List Node)) (v17 : Span) (x19 : Int) (x20 : Bool) (x21 : Int) (rec_pattern_Row_L3 : Int → Bool → Int → (List Node) → Int → Option (((List Node) × Int) ⊕ (Bool × (List Node) × Int))) (l35 : List Node) (x36 : Int) : Option (((List Node) × Int) ⊕ (Bool × (List Node) × Int)) :=
 bif decide (((a4.getD x21.toNat default).B) < v17.B) then
 (QT ([(Node.mk a2 ((a4.getD x21.toNat default).B))] : List Node) x36 l35).bind fun v38 =>
 MI a5 x21 rec_pattern_Row_L3 (imin (w64 (((a4.getD x21.toNat default).B) + a3)) v17.B) x20 v38.2 v38.1
 else
 MI a5 x21 rec_pattern_Row_L3 x19 true l35 x36
def UQ (a2 : Int) (a3 : Int) (a4 : List Span) (a5 : List (List Node)) (v17 : Span) (x19 : Int) (x20 : Bool) (x21 : Int) (l22 : List Node) (x23 : Int) (rec_pattern_Row_L3 : Int → Bool → Int → (List Node) → Int → Option (((List Node) × Int) ⊕ (Bool × (List Node) × Int))) (x29 : Bool) : Option (((List Node) × Int) ⊕ (Bool × (List Node) × Int)) :=
 bif x29 then
 some (Sum.inl (([] : List Node), 11))
 else
 bif decide (((a4.getD x21.toNat default).B) > v17.B) then
 some (Sum.inl (([] : List Node), 20))
 else
 bif decide (((a4.getD x21.toNat default).A) > x19) then
 (QT ([(Node.mk a2 (w64 (((a4.getD x21.toNat default).A) - a3))), (Node.mk 0 0)] : List Node) x23 l22).bind fun v33 =>
 LU a2 a3 a4 a5 v17 x19 x20 x21 rec_pattern_Row_L3 v33.2 v33.1
 else
 LU a2 a3 a4 a5 v17 x19 x20 x21 rec_pattern_Row_L3 l22 x23
def yJ (a2 : Int) (a3 : Int) (a4 : List Span) (a5 : List (List Node)) (v17 : Span) : Nat → Int → Bool → Int → (List Node) → Int → Option (((List Node) × Int) ⊕ (Bool × (List Node) × Int))
 | 0, _, _, _, _, _ => none
 | n + 1, x19, x20, x21, l22, x23 =>
 bif decide (x21 < ((a4.length : Nat) : Int)) then
 bif inb x21 a4.length then
 bif decide (((a4.getD x21.toNat default).A) ≥ ((a4.getD x21.toNat default).B)) then
 some (Sum.inl (([] : List Node), 19))
 else
 bif x20 then
 UQ a2 a3 a4 a5 v17 x19 x20 x21 l22 x23 (yJ a2 a3 a4 a5 v17 n) true
 else
 bif ((a4.getD x21.toNat default).A) != x19 then
 UQ a2 a3 a4 a5 v17 x19 x20 x21 l22 x23 (yJ a2 a3 a4 a5 v17 n) (decide (((a4.getD x21.toNat default).A) < (w64 ((w64 (x19 + a3)) + 1))))
 else
 UQ a2 a3 a4 a5 v17 x19 x20 x21 l22 x23 (yJ a2 a3 a4 a5 v17 n) false
 else none
 else
 some (Sum.inr (x20, l22, x23))
def MT (x57 : Int) (l58 : List Node) : Option ((List Node) × Int) :=
 bif decide (x57 > 127) then
 some (([] : List Node), 4)
 else
 some (l58, 0)
def LV (a1 : Rect) (a2 : Int) (a3 : Int) (a4 : List Span) (a5 : List (List Node)) (x15 : Bool) : Option ((List Node) × Int) :=
 bif x15 then
 some (([] : List Node), 9)
 else
 (EE a1 a2).bind fun v17 =>
 (yJ a2 a3 a4 a5 v17 FUEL v17.A false 0 ([] : List Node) 0).bind fun u52 => Sum.elim (fun v53 => some v53) (fun o50 =>
 bif !o50.1 then
 (QT ([(Node.mk 0 0)] : List Node) o50.2.2 o50.2.1).bind fun v55 =>
 MT v55.1 v55.2
 else
 MT o50.2.2 o50.2.1) u52
def MQ (a1 : Rect) (a2 : Int) (a3 : Int) (a4 : List Span) (a5 : List (List Node)) (x12 : Bool) : Option ((List Node) × Int) :=
 bif x12 then
 some (([] : List Node), 19)
 else
 bif decide (a3 < 0) then
 LV a1 a2 a3 a4 a5 true
 else
 LV a1 a2 a3 a4 a5 (decide (a3 > 20))
def qBa (a1 : Rect) (a2 : Int) (a3 : Int) (a4 : List Span) (a5 : List (List Node)) : Option ((List Node) × Int) :=
 (EC a2).bind fun v6 =>
 bif !v6 then
 some (([] : List Node), 10)
 else
 (NZ a1).bind fun v9 =>
 bif !v9 then
 MQ a1 a2 a3 a4 a5 true
 else
 MQ a1 a2 a3 a4 a5 (((a4.length : Nat) : Int) != ((a5.length : Nat) : Int))
/- sawmill/edge.Best -/
def IR (a4 : Rect) (v10 : (List Piece) × Int × Int) (v13 : (List Int) × (List Int)) : Nat → (List Span) → (List (List Node)) → Int → Option ((List Span) × (List (List Node)))
 | 0, _, _, _ => none
 | n + 1, l15, l16, x17 =>
 bif decide (x17 < ((v10.1.length : Nat) : Int)) then
 bif inb x17 v10.1.length then
 bif inb ((v10.1.getD x17.toNat default).Size) v13.1.length then
 (TR a4 ((v10.1.getD x17.toNat default).At) (w64 (((v10.1.getD x17.toNat default).At) + (v13.1.getD (((v10.1.getD x17.toNat default).Size).toNat) default)))).bind fun v21 =>
 bif room (l15.length + 1) 16 then
 bif inb ((v10.1.getD x17.toNat default).Size) v13.2.length then
 (LC l16 ([(Node.mk 1 (v13.2.getD (((v10.1.getD x17.toNat default).Size).toNat) default))] : List Node)).bind fun v25 =>
 (IR a4 v10 v13 n) (l15 ++ ([v21.X] : List Span)) v25.2 (w64 (x17 + 1))
 else none
 else none
 else none
 else none
 else
 some (l15, l16)
def qDl (a1 : List Slice) (a2 : List Defect) (a3 : List qA) (a4 : Rect) (a5 : Saw) (a6 : Rates) : Option ((List Node) × Int × Int) :=
 (NI a1 a2 a3 a4 a5 a6).bind fun v7 =>
 bif v7.2 != 0 then
 some (([] : List Node), 0, v7.2)
 else
 (IQ (Line.mk v7.1.Len v7.1.Kerf v7.1.Pitch v7.1.Sizes v7.1.Gain v7.1.Chip v7.1.Dust)).bind fun v10 =>
 bif v10.2.2 != 0 then
 some (([] : List Node), 0, v10.2.2)
 else
 (KU a3 (w64 (a4.Y.B - a4.Y.A))).bind fun v13 =>
 (IR a4 v10 v13 FUEL ([] : List Span) ([] : List (List Node)) 0).bind fun o29 =>
 (qBa a4 2 a5.Kerf o29.1 o29.2).bind fun v31 =>
 bif v31.2 != 0 then
 some (([] : List Node), 0, v31.2)
 else
 some (v31.1, v10.2.1, 0)
/- sawmill/sawmilllaw23.best -/
def IC (a1 : qO) : Option ((List Node) × Int × Int) :=
 (qDl a1.Solid a1.Defects a1.Products a1.Strip a1.Saw a1.Rates).bind fun v2 =>
 some (v2.1, v2.2.1, v2.2.2)
/- sawmill/sawmilllaw23.awake -/
def wH (x38 : Bool) : Option Bool :=
 some x38
def jO (v3 : Line × Int) (v5 : (List Node) × Int × Int) (v7 : (List Node) × Int × Int) (v9 : (List Int) × (List Int)) (x19 : Bool) : Option Bool :=
 bif x19 then
 some false
 else
 bif v3.1.Len == 110 then
 bif inb 0 v3.1.Gain.length then
 bif inb 5 ((v3.1.Gain.getD ((0 : Int).toNat) default).length) then
 bif ((v3.1.Gain.getD ((0 : Int).toNat) default).getD (5 : Int).toNat default) == 70000000 then
 bif inb 4 ((v3.1.Gain.getD ((0 : Int).toNat) default).length) then
 bif ((v3.1.Gain.getD ((0 : Int).toNat) default).getD (4 : Int).toNat default) == (-1) then
 bif v5.2.1 == 70000000 then
 bif v7.2.1 == 74513950 then
 bif inb 0 v5.1.length then
 bif ((((v5.1.getD ((0 : Int).toNat) default).Kind) == 2) && ((((v5.1.getD ((0 : Int).toNat) default).At) == 5) && true)) then
 bif inb 1 v5.1.length then
 bif ((v5.1.getD ((1 : Int).toNat) default).Kind) == 1 then
 bif inb 2 v5.1.length then
 bif ((v5.1.getD ((2 : Int).toNat) default).Kind) == 0 then
 bif inb 0 v9.1.length then
 bif (v9.1.getD ((0 : Int).toNat) default) == 105 then
 bif inb 0 v9.2.length then
 wH ((v9.2.getD ((0 : Int).toNat) default) == 0)
 else none
 else
 wH false
 else none
 else
 wH false
 else none
 else
 wH false
 else none
 else
 wH false
 else none
 else
 wH false
 else
 wH false
 else
 wH false
 else none
 else
 wH false
 else none
 else none
 else
 wH false
def GK : Option Bool :=
 (IW).bind fun v1 =>
 (VA v1).bind fun v3 =>
 (IC v1).bind fun v5 =>
 (IC (qO.mk v1.Solid v1.Defects v1.Products v1.Strip v1.Saw (Rates.mk 1 v1.Rates.Dust v1.Rates.Fine))).bind fun v7 =>
 (KU v1.Products 42).bind fun v9 =>
 bif v3.2 != 0 then
 jO v3 v5 v7 v9 true
 else
 bif v5.2.2 != 0 then
 jO v3 v5 v7 v9 true
 else
 bif v7.2.2 != 0 then
 jO v3 v5 v7 v9 true
 else
 bif ((v5.1.length : Nat) : Int) != 3 then
 jO v3 v5 v7 v9 true
 else
 bif ((v9.1.length : Nat) : Int) != 1 then
 jO v3 v5 v7 v9 true
 else
 bif ((v9.2.length : Nat) : Int) != 1 then
 jO v3 v5 v7 v9 true
 else
 bif ((v3.1.Gain.length : Nat) : Int) != 1 then
 jO v3 v5 v7 v9 true
 else
 bif inb 0 v3.1.Gain.length then
 jO v3 v5 v7 v9 ((((v3.1.Gain.getD ((0 : Int).toNat) default).length : Nat) : Int) != 6)
 else none
/- sawmill/sawmillref13.Empty -/
def XB (x4 : Bool) : Option Bool :=
 some x4
def PP (a1 : Box) : Option Bool :=
 bif decide (a1.X.A ≥ a1.X.B) then
 XB true
 else
 bif decide (a1.Y.A ≥ a1.Y.B) then
 XB true
 else
 XB (decide (a1.Z.A ≥ a1.Z.B))
/- sawmill/sawmillref13.in -/
def MX (x5 : Bool) : Option Bool :=
 some x5
def BJ (a1 : Span) (a2 : Int) (a3 : Int) : Option Bool :=
 bif decide (a2 ≤ a1.A) then
 MX (decide (a1.B ≤ a3))
 else
 MX false
/- sawmill/sawmillref13.Ranged -/
def YP (x10 : Bool) : Option Bool :=
 some x10
def RU (a1 : Box) : Option Bool :=
 (BJ a1.X (-600) 600).bind fun v2 =>
 bif v2 then
 (BJ a1.Y (-600) 600).bind fun v5 =>
 bif v5 then
 (BJ a1.Z 0 20000).bind fun v8 =>
 YP v8
 else
 YP false
 else
 YP false
/- sawmill/sawmillref13.Check -/
def UC (a1 : List Defect) (x3 : Int) (rec_ref13_Check_L1 : Int → Option (Int ⊕ Unit)) (x7 : Bool) : Option (Int ⊕ Unit) :=
 bif x7 then
 some (Sum.inl 10)
 else
 bif inb x3 a1.length then
 (PP ((a1.getD x3.toNat default).Box)).bind fun v10 =>
 bif v10 then
 some (Sum.inl 19)
 else
 (RU ((a1.getD x3.toNat default).Box)).bind fun v13 =>
 bif !v13 then
 some (Sum.inl 9)
 else
 rec_ref13_Check_L1 (w64 (x3 + 1))
 else none
def jJ (a1 : List Defect) : Nat → Int → Option (Int ⊕ Unit)
 | 0, _ => none
 | n + 1, x3 =>
 bif decide (x3 < ((a1.length : Nat) : Int)) then
 bif inb x3 a1.length then
 bif decide (((a1.getD x3.toNat default).Kind) < 1) then
 UC a1 x3 (jJ a1 n) true
 else
 UC a1 x3 (jJ a1 n) (decide (((a1.getD x3.toNat default).Kind) > 6))
 else none
 else
 some (Sum.inr ())
def PM (a1 : List Defect) : Option Int :=
 bif decide (((a1.length : Nat) : Int) > 64) then
 some 4
 else
 (jJ a1 FUEL 0).bind fun u18 => Sum.elim (fun v19 => some v19) (fun o16 =>
 some 0) u18
/- sawmill/sawmillref02.digit -/
def UN (x3 : Bool) : Option Bool :=
 some x3
def GR (a1 : Int) : Option Bool :=
 bif decide (a1 ≥ 48) then
 UN (decide (a1 ≤ 57))
 else
 UN false
/- sawmill/sawmillref02.IsName -/
def ZQ (x5 : Int) (rec_ref02_IsName_L2 : Int → Option (Bool ⊕ Unit)) (x16 : Bool) : Option (Bool ⊕ Unit) :=
 bif x16 then
 some (Sum.inl false)
 else
 rec_ref02_IsName_L2 (w64 (x5 + 1))
def RE (a1 : ByteArray) (x5 : Int) (rec_ref02_IsName_L2 : Int → Option (Bool ⊕ Unit)) (x9 : Bool) : Option (Bool ⊕ Unit) :=
 bif !x9 then
 bif x5 == 0 then
 ZQ x5 rec_ref02_IsName_L2 true
 else
 bif inb x5 a1.size then
 bif (strAt a1 x5.toNat) != 95 then
 (GR (strAt a1 x5.toNat)).bind fun v14 =>
 ZQ x5 rec_ref02_IsName_L2 (!v14)
 else
 ZQ x5 rec_ref02_IsName_L2 false
 else none
 else
 ZQ x5 rec_ref02_IsName_L2 false
def wJ (a1 : ByteArray) : Nat → Int → Option (Bool ⊕ Unit)
 | 0, _ => none
 | n + 1, x5 =>
 bif decide (x5 < ((a1.size : Nat) : Int)) then
 bif inb x5 a1.size then
 bif decide ((strAt a1 x5.toNat) ≥ 97) then
 RE a1 x5 (wJ a1 n) (decide ((strAt a1 x5.toNat) ≤ 122))
 else
 RE a1 x5 (wJ a1 n) false
 else none
 else
 some (Sum.inr ())
def RB (a1 : ByteArray) (x3 : Bool) : Option Bool :=
 bif x3 then
 some false
 else
 (wJ a1 FUEL 0).bind fun u20 => Sum.elim (fun v21 => some v21) (fun o18 =>
 some true) u20
def RS (a1 : ByteArray) : Option Bool :=
 bif decide (((a1.size : Nat) : Int) < 1) then
 RB a1 true
 else
 RB a1 (decide (((a1.size : Nat) : Int) > 16))
/- sawmill/sawmillref19.sized -/
def JG (x5 : Bool) : Option Bool :=
 some x5
def HA (a1 : qA) : Option Bool :=
 bif decide (a1.Thick ≥ 1) then
 bif decide (a1.Thick ≤ 600) then
 bif decide (a1.Width ≥ 1) then
 JG (decide (a1.Width ≤ 600))
 else
 JG false
 else
 JG false
 else
 JG false
/- sawmill/sawmillref19.Green -/
def XL (a1 : qA) (x6 : Bool) : Option (Int × Int) :=
 bif x6 then
 some (0, 0)
 else
 some (w64 (Int.tdiv (w64 ((w64 (a1.Thick * (w64 (1000 + a1.Allow)))) + 999)) 1000), w64 (Int.tdiv (w64 ((w64 (a1.Width * (w64 (1000 + a1.Allow)))) + 999)) 1000))
def YW (a1 : qA) : Option (Int × Int) :=
 (HA a1).bind fun v2 =>
 bif !v2 then
 XL a1 true
 else
 bif decide (a1.Allow < 0) then
 XL a1 true
 else
 XL a1 (decide (a1.Allow > 200))
/- sawmill/sawmillref19.checkLengths -/
def ZT (x5 : Int) (rec_ref19_checkLengths_L1 : Int → Option (Int ⊕ Unit)) (x14 : Bool) : Option (Int ⊕ Unit) :=
 bif x14 then
 some (Sum.inl 11)
 else
 rec_ref19_checkLengths_L1 (w64 (x5 + 1))
def WA (a1 : qA) (x5 : Int) (rec_ref19_checkLengths_L1 : Int → Option (Int ⊕ Unit)) (x9 : Bool) : Option (Int ⊕ Unit) :=
 bif x9 then
 some (Sum.inl 9)
 else
 bif decide (x5 > 0) then
 bif inb x5 a1.Lengths.length then
 bif inb (w64 (x5 - 1)) a1.Lengths.length then
 ZT x5 rec_ref19_checkLengths_L1 (decide ((a1.Lengths.getD x5.toNat default) ≤ (a1.Lengths.getD (w64 (x5 - 1)).toNat default)))
 else none
 else none
 else
 ZT x5 rec_ref19_checkLengths_L1 false
def zN (a1 : qA) : Nat → Int → Option (Int ⊕ Unit)
 | 0, _ => none
 | n + 1, x5 =>
 bif decide (x5 < ((a1.Lengths.length : Nat) : Int)) then
 bif inb x5 a1.Lengths.length then
 bif decide ((a1.Lengths.getD x5.toNat default) < 100) then
 WA a1 x5 (zN a1 n) true
 else
 WA a1 x5 (zN a1 n) (decide ((a1.Lengths.getD x5.toNat default) > 20000))
 else none
 else
 some (Sum.inr ())
def ZV (x20 : Int) (rec_ref19_checkLengths_L4 : Int → Option (Int ⊕ Unit)) (x24 : Bool) : Option (Int ⊕ Unit) :=
 bif x24 then
 some (Sum.inl 9)
 else
 rec_ref19_checkLengths_L4 (w64 (x20 + 1))
def zT (a1 : qA) : Nat → Int → Option (Int ⊕ Unit)
 | 0, _ => none
 | n + 1, x20 =>
 bif decide (x20 < ((a1.Prices.length : Nat) : Int)) then
 bif inb x20 a1.Prices.length then
 bif decide ((a1.Prices.getD x20.toNat default) < 0) then
 ZV x20 (zT a1 n) true
 else
 ZV x20 (zT a1 n) (decide ((a1.Prices.getD x20.toNat default) > 1000000))
 else none
 else
 some (Sum.inr ())
def ZN (a1 : qA) : Option Int :=
 bif ((a1.Lengths.length : Nat) : Int) == 0 then
 some 3
 else
 bif decide (((a1.Lengths.length : Nat) : Int) > 8) then
 some 4
 else
 bif ((a1.Prices.length : Nat) : Int) != ((a1.Lengths.length : Nat) : Int) then
 some 19
 else
 (zN a1 FUEL 0).bind fun u18 => Sum.elim (fun v19 => some v19) (fun o16 =>
 (zT a1 FUEL 0).bind fun u28 => Sum.elim (fun v29 => some v29) (fun o26 =>
 some 0) u28) u18
/- sawmill/sawmillref19.Check -/
def ZF (a1 : List qA) (x3 : Int) : Nat → Int → Option (Int ⊕ Unit)
 | 0, _ => none
 | n + 1, x9 =>
 bif decide (x9 < x3) then
 bif inb x9 a1.length then
 bif strEq ((a1.getD x9.toNat default).Name) ((a1.getD x3.toNat default).Name) then
 some (Sum.inl 7)
 else
 (ZF a1 x3 n) (w64 (x9 + 1))
 else none
 else
 some (Sum.inr ())
def wS (a1 : List qA) (x3 : Int) (rec_ref19_Check_L1 : Int → Option (Int ⊕ Unit)) (x24 : Bool) : Option (Int ⊕ Unit) :=
 bif x24 then
 some (Sum.inl 9)
 else
 (YW (a1.getD x3.toNat default)).bind fun v26 =>
 bif decide (v26.2 > 600) then
 some (Sum.inl 9)
 else
 (ZN (a1.getD x3.toNat default)).bind fun v29 =>
 bif v29 != 0 then
 some (Sum.inl v29)
 else
 rec_ref19_Check_L1 (w64 (x3 + 1))
def zQ (a1 : List qA) : Nat → Int → Option (Int ⊕ Unit)
 | 0, _ => none
 | n + 1, x3 =>
 bif decide (x3 < ((a1.length : Nat) : Int)) then
 bif inb x3 a1.length then
 (RS ((a1.getD x3.toNat default).Name)).bind fun v6 =>
 bif !v6 then
 some (Sum.inl 6)
 else
 (ZF a1 x3 FUEL 0).bind fun u15 => Sum.elim (fun v16 => some (Sum.inl v16)) (fun o13 =>
 bif decide (((a1.getD x3.toNat default).Thick) < 5) then
 wS a1 x3 (zQ a1 n) true
 else
 bif decide (((a1.getD x3.toNat default).Thick) > 300) then
 wS a1 x3 (zQ a1 n) true
 else
 bif decide (((a1.getD x3.toNat default).Width) < ((a1.getD x3.toNat default).Thick)) then
 wS a1 x3 (zQ a1 n) true
 else
 bif decide (((a1.getD x3.toNat default).Width) > 600) then
 wS a1 x3 (zQ a1 n) true
 else
 bif decide (((a1.getD x3.toNat default).Allow) < 0) then
 wS a1 x3 (zQ a1 n) true
 else
 bif decide (((a1.getD x3.toNat default).Allow) > 200) then
 wS a1 x3 (zQ a1 n) true
 else
 bif decide (((a1.getD x3.toNat default).Wane) < 0) then
 wS a1 x3 (zQ a1 n) true
 else
 wS a1 x3 (zQ a1 n) (decide (((a1.getD x3.toNat default).Wane) > 1000))) u15
 else none
 else
 some (Sum.inr ())
def YY (a1 : List qA) : Option Int :=
 bif decide (((a1.length : Nat) : Int) > 16) then
 some 4
 else
 (zQ a1 FUEL 0).bind fun u34 => Sum.elim (fun v35 => some v35) (fun o32 =>
 some 0) u34
/- sawmill/sawmillref20.from -/
def DH (x5 : Bool) : Option Bool :=
 some x5
def jK (a1 : Int) (a2 : Int) (a3 : Int) : Option Bool :=
 bif decide (a1 ≥ a2) then
 DH (decide (a1 ≤ a3))
 else
 DH false
/- sawmill/sawmillref20.Check -/
def XW (x24 : Bool) : Option Int :=
 bif x24 then
 some 9
 else
 some 0
def WV (a2 : Rates) (x14 : Bool) : Option Int :=
 bif x14 then
 some 9
 else
 (jK a2.Chip 0 1000).bind fun v16 =>
 bif !v16 then
 XW true
 else
 (jK a2.Dust 0 1000).bind fun v19 =>
 bif !v19 then
 XW true
 else
 (jK a2.Fine 0 1000000).bind fun v22 =>
 XW (!v22)
def GG (a1 : Saw) (a2 : Rates) : Option Int :=
 (jK a1.Kerf 0 20).bind fun v3 =>
 bif !v3 then
 WV a2 true
 else
 (jK a1.Trim 0 20).bind fun v6 =>
 bif !v6 then
 WV a2 true
 else
 (jK a1.Pitch 1 2000).bind fun v9 =>
 bif !v9 then
 WV a2 true
 else
 (jK a1.Step 1 20000).bind fun v12 =>
 WV a2 (!v12)
/- sawmill/sawmillref23.beyond -/
def ZR (x5 : Bool) : Option Bool :=
 some x5
def XV (a1 : Span) : Option Bool :=
 bif decide (a1.A < (-600)) then
 ZR true
 else
 bif decide (a1.A > 600) then
 ZR true
 else
 bif decide (a1.B < (-600)) then
 ZR true
 else
 ZR (decide (a1.B > 600))
/- sawmill/sawmillref23.check -/
def UI (x27 : Bool) : Option Int :=
 bif x27 then
 some 9
 else
 some 0
def UW (a4 : Rect) (x20 : Bool) : Option Int :=
 bif x20 then
 some 19
 else
 (XV a4.X).bind fun v22 =>
 bif v22 then
 UI true
 else
 (XV a4.Y).bind fun v25 =>
 UI v25
def GP (a1 : List Slice) (a2 : List Defect) (a3 : List qA) (a4 : Rect) (a5 : Saw) (a6 : Rates) : Option Int :=
 (ZH a1).bind fun v7 =>
 bif v7 != 0 then
 some v7
 else
 (PM a2).bind fun v10 =>
 bif v10 != 0 then
 some v10
 else
 (YY a3).bind fun v13 =>
 bif v13 != 0 then
 some v13
 else
 (GG a5 a6).bind fun v16 =>
 bif v16 != 0 then
 some v16
 else
 bif decide (a4.X.A ≥ a4.X.B) then
 UW a4 true
 else
 UW a4 (decide (a4.Y.A ≥ a4.Y.B))
/- sawmill/sawmillref23.Sizes -/
def XF (x8 : Int) (rec_ref23_Sizes_L1 : (List Int) → (List Int) → Int → Option ((List Int) × (List Int))) (l19 : List Int) (l20 : List Int) : Option ((List Int) × (List Int)) :=
 rec_ref23_Sizes_L1 l19 l20 (w64 (x8 + 1))
def wU (a1 : List qA) (a2 : Int) : Nat → (List Int) → (List Int) → Int → Option ((List Int) × (List Int))
 | 0, _, _, _ => none
 | n + 1, l6, l7, x8 =>
 bif decide (x8 < ((a1.length : Nat) : Int)) then
 bif inb x8 a1.length then
 (YW (a1.getD x8.toNat default)).bind fun v11 =>
 bif v11.1 == a2 then
 bif room (l6.length + 1) 8 then
 bif room (l7.length + 1) 8 then
 XF x8 (wU a1 a2 n) (l6 ++ ([v11.2] : List Int)) (l7 ++ ([x8] : List Int))
 else none
 else none
 else
 bif v11.2 == a2 then
 bif room (l6.length + 1) 8 then
 bif room (l7.length + 1) 8 then
 XF x8 (wU a1 a2 n) (l6 ++ ([v11.1] : List Int)) (l7 ++ ([x8] : List Int))
 else none
 else none
 else
 XF x8 (wU a1 a2 n) l6 l7
 else none
 else
 some (l6, l7)
def GE (a1 : List qA) (a2 : Int) : Option ((List Int) × (List Int)) :=
 (YY a1).bind fun v3 =>
 bif v3 != 0 then
 some (([] : List Int), ([] : List Int))
 else
 (wU a1 a2 FUEL ([] : List Int) ([] : List Int) 0).bind fun o23 =>
 some (o23.1, o23.2)
/- sawmill/sawmillref23.Part -/
def UF (a1 : Rect) (a2 : Int) (a3 : Int) : Option Rect :=
 some (Rect.mk (Span.mk (w64 (a1.X.A + a2)) (w64 (a1.X.A + a3))) a1.Y)
/- sawmill/sawmillref20.valid -/
def XR (x12 : Bool) : Option Bool :=
 some x12
def HD (a1 : List Slice) (a2 : List Defect) (a3 : qA) : Option Bool :=
 (ZH a1).bind fun v4 =>
 bif v4 == 0 then
 (PM a2).bind fun v7 =>
 bif v7 == 0 then
 (YY ([a3] : List qA)).bind fun v10 =>
 XR (v10 == 0)
 else
 XR false
 else
 XR false
/- sawmill/sawmillref20.across -/
def YD (x4 : Bool) : Option Bool :=
 some x4
def XJ (a1 : Span) : Option Bool :=
 bif decide (a1.A ≥ (-600)) then
 bif decide (a1.A < a1.B) then
 YD (decide (a1.B ≤ 600))
 else
 YD false
 else
 YD false
/- sawmill/sawmillref20.within -/
def QF (x13 : Bool) : Option Bool :=
 some x13
def TZ (a1 : List Slice) (a2 : Box) : Option Bool :=
 (XJ a2.X).bind fun v3 =>
 bif v3 then
 (XJ a2.Y).bind fun v6 =>
 bif v6 then
 bif decide (a2.Z.A ≥ 0) then
 bif decide (a2.Z.A < a2.Z.B) then
 (yQ a1).bind fun v11 =>
 QF (decide (a2.Z.B ≤ v11))
 else
 QF false
 else
 QF false
 else
 QF false
 else
 QF false
/- sawmill/sawmillref19.Price -/
def QY (a1 : qA) (a2 : Int) : Nat → Int → Option ((Int × Bool) ⊕ Unit)
 | 0, _ => none
 | n + 1, x3 =>
 bif decide (x3 < ((a1.Lengths.length : Nat) : Int)) then
 bif inb x3 a1.Lengths.length then
 bif (a1.Lengths.getD x3.toNat default) == a2 then
 bif decide (x3 ≥ ((a1.Prices.length : Nat) : Int)) then
 some (Sum.inl (0, false))
 else
 bif inb x3 a1.Prices.length then
 some (Sum.inl ((a1.Prices.getD x3.toNat default), true))
 else none
 else
 (QY a1 a2 n) (w64 (x3 + 1))
 else none
 else
 some (Sum.inr ())
def PL (a1 : qA) (a2 : Int) : Option (Int × Bool) :=
 (QY a1 a2 FUEL 0).bind fun u11 => Sum.elim (fun v12 => some v12) (fun o9 =>
 some (0, false)) u11
/- sawmill/sawmillref03.Meet -/
def KV (a1 : Span) (a2 : Span) : Option Span :=
 bif decide ((imax a1.A a2.A) ≥ (imin a1.B a2.B)) then
 some (Span.mk 0 0)
 else
 some (Span.mk (imax a1.A a2.A) (imin a1.B a2.B))
/- sawmill/sawmillref13.Meet -/
def IE (a1 : Box) (a2 : Box) : Option Box :=
 (KV a1.X a2.X).bind fun v3 =>
 (KV a1.Y a2.Y).bind fun v5 =>
 (KV a1.Z a2.Z).bind fun v7 =>
 some (Box.mk v3 v5 v7)
/- sawmill/sawmillref13.Touches -/
def JQ (a1 : Defect) (a2 : Box) : Option Bool :=
 (IE a1.Box a2).bind fun v3 =>
 (PP v3).bind fun v5 =>
 some (!v5)
/- sawmill/sawmillref11.part -/
def UM (a1 : Span) (a2 : Int) (a3 : Int) : Option Int :=
 bif decide ((imax a1.A a2) ≥ (imin a1.B (w64 (a2 + a3)))) then
 some 0
 else
 some (w64 ((imin a1.B (w64 (a2 + a3))) - (imax a1.A a2)))
/- sawmill/sawmillref11.Cut -/
def LG (a1 : List Slice) (x7 : Int) (x8 : Int) (rec_ref11_Cut_L1 : (List Slice) → Int → Int → Option (List Slice)) (l15 : List Slice) : Option (List Slice) :=
 rec_ref11_Cut_L1 l15 (w64 (x7 + ((a1.getD x8.toNat default).Len))) (w64 (x8 + 1))
def ZK (a1 : List Slice) (a2 : Span) : Nat → (List Slice) → Int → Int → Option (List Slice)
 | 0, _, _, _ => none
 | n + 1, l6, x7, x8 =>
 bif decide (x8 < ((a1.length : Nat) : Int)) then
 bif inb x8 a1.length then
 (UM (Span.mk (imax a2.A 0) (imin a2.B 20000)) x7 ((a1.getD x8.toNat default).Len)).bind fun v11 =>
 bif decide (v11 > 0) then
 bif room (l6.length + 1) 40 then
 LG a1 x7 x8 (ZK a1 a2 n) (l6 ++ ([(Slice.mk v11 ((a1.getD x8.toNat default).Sec))] : List Slice))
 else none
 else
 LG a1 x7 x8 (ZK a1 a2 n) l6
 else none
 else
 some l6
def HR (a1 : List Slice) (a2 : Span) : Option (List Slice) :=
 (ZH a1).bind fun v3 =>
 bif v3 != 0 then
 some ([] : List Slice)
 else
 (ZK a1 a2 FUEL ([] : List Slice) 0 0).bind fun o17 =>
 some o17
/- sawmill/sawmillref10.Valid -/
def GL (a1 : qH) : Option qH :=
 (PK a1).bind fun v2 =>
 bif v2 != 0 then
 some (qH.mk 0 ([] : List Span))
 else
 some a1
/- sawmill/sawmillref10.common -/
def RQ (a1 : Span) (a2 : Span) (x6 : Bool) : Option Int :=
 bif x6 then
 some 0
 else
 some (w64 ((imin a1.B a2.B) - (imax a1.A a2.A)))
def XH (a1 : Span) (a2 : Span) : Option Int :=
 (WR a2).bind fun v3 =>
 bif v3 then
 RQ a1 a2 true
 else
 RQ a1 a2 (decide ((imax a1.A a2.A) ≥ (imin a1.B a2.B)))
/- sawmill/sawmillref10.Heights -/
def PC (a1 : Int) : Option Span :=
 some (Span.mk (w64 (10 * a1)) (w64 (10 * (w64 (a1 + 1)))))
/- sawmill/sawmillref10.Within -/
def WB (a2 : Rect) (v3 : qH) : Nat → Int → Int → Option Int
 | 0, _, _ => none
 | n + 1, x5, x6 =>
 bif decide (x6 < ((v3.Rows.length : Nat) : Int)) then
 bif inb x6 v3.Rows.length then
 (XH (v3.Rows.getD x6.toNat default) a2.X).bind fun v9 =>
 (PC (w64 (v3.Low + x6))).bind fun v11 =>
 (XH v11 a2.Y).bind fun v13 =>
 (WB a2 v3 n) (w64 (x5 + (w64 (v9 * v13)))) (w64 (x6 + 1))
 else none
 else
 some x5
def XN (a1 : qH) (a2 : Rect) : Option Int :=
 (GL a1).bind fun v3 =>
 (WB a2 v3 FUEL 0 0).bind fun o16 =>
 some o16
/- sawmill/sawmillref20.wane -/
def JV (a2 : Box) (v3 : (List Slice)) : Nat → Int → Int → Option Int
 | 0, _, _ => none
 | n + 1, x5, x6 =>
 bif decide (x6 < ((v3.length : Nat) : Int)) then
 bif inb x6 v3.length then
 (XN ((v3.getD x6.toNat default).Sec) (Rect.mk a2.X a2.Y)).bind fun v9 =>
 bif nz (w64 ((w64 (a2.X.B - a2.X.A)) * (w64 (a2.Y.B - a2.Y.A)))) then
 (JV a2 v3 n) (imax x5 (w64 (Int.tdiv (w64 ((w64 ((w64 (1000 * (w64 ((w64 ((w64 (a2.X.B - a2.X.A)) * (w64 (a2.Y.B - a2.Y.A)))) - v9)))) + (w64 ((w64 (a2.X.B - a2.X.A)) * (w64 (a2.Y.B - a2.Y.A)))))) - 1)) (w64 ((w64 (a2.X.B - a2.X.A)) * (w64 (a2.Y.B - a2.Y.A))))))) (w64 (x6 + 1))
 else none
 else none
 else
 some x5
def LB (a1 : List Slice) (a2 : Box) : Option Int :=
 (HR a1 a2.Z).bind fun v3 =>
 (JV a2 v3 FUEL 0 0).bind fun o13 =>
 some o13
/- sawmill/sawmillref20.accept -/
def RO (x19 : Int) (rec_ref20_accept_L2 : Int → Option (Bool ⊕ Unit)) (x25 : Bool) : Option (Bool ⊕ Unit) :=
 bif x25 then
 some (Sum.inl false)
 else
 rec_ref20_accept_L2 (w64 (x19 + 1))
def wZ (a2 : List Defect) (a4 : Box) : Nat → Int → Option (Bool ⊕ Unit)
 | 0, _ => none
 | n + 1, x19 =>
 bif decide (x19 < ((a2.length : Nat) : Int)) then
 bif inb x19 a2.length then
 bif ((a2.getD x19.toNat default).Kind) == 3 then
 (JQ (a2.getD x19.toNat default) a4).bind fun v23 =>
 RO x19 (wZ a2 a4 n) v23
 else
 RO x19 (wZ a2 a4 n) false
 else none
 else
 some (Sum.inr ())
def wB (a1 : List Slice) (a2 : List Defect) (a3 : qA) (a4 : Box) (x17 : Bool) : Option Bool :=
 bif x17 then
 some false
 else
 (wZ a2 a4 FUEL 0).bind fun u29 => Sum.elim (fun v30 => some v30) (fun o27 =>
 (LB a1 a4).bind fun v31 =>
 some (decide (v31 ≤ a3.Wane))) u29
def RR (a1 : List Slice) (a2 : List Defect) (a3 : qA) (a4 : Box) : Option Bool :=
 (TZ a1 a4).bind fun v5 =>
 bif !v5 then
 some false
 else
 (YW a3).bind fun v8 =>
 (PL a3 (w64 (a4.Z.B - a4.Z.A))).bind fun v10 =>
 bif !v10.2 then
 wB a1 a2 a3 a4 true
 else
 bif (w64 (a4.X.B - a4.X.A)) == v8.1 then
 bif !((w64 (a4.Y.B - a4.Y.A)) == v8.2) then
 bif (w64 (a4.X.B - a4.X.A)) == v8.2 then
 wB a1 a2 a3 a4 (!((w64 (a4.Y.B - a4.Y.A)) == v8.1))
 else
 wB a1 a2 a3 a4 true
 else
 wB a1 a2 a3 a4 false
 else
 bif (w64 (a4.X.B - a4.X.A)) == v8.2 then
 wB a1 a2 a3 a4 (!((w64 (a4.Y.B - a4.Y.A)) == v8.1))
 else
 wB a1 a2 a3 a4 true
/- sawmill/sawmillref20.value -/
def UJ (x8 : Int) (rec_ref20_value_L1 : Int → Int → Option Int) (x14 : Int) : Option Int :=
 rec_ref20_value_L1 x14 (w64 (x8 + 1))
def yL (a1 : List Defect) (a3 : Box) (a4 : Int) : Nat → Int → Int → Option Int
 | 0, _, _ => none
 | n + 1, x7, x8 =>
 bif decide (x8 < ((a1.length : Nat) : Int)) then
 bif inb x8 a1.length then
 (JQ (a1.getD x8.toNat default) a3).bind fun v11 =>
 bif v11 then
 UJ x8 (yL a1 a3 a4 n) (w64 (x7 - a4))
 else
 UJ x8 (yL a1 a3 a4 n) x7
 else none
 else
 some x7
def GM (a1 : List Defect) (a2 : qA) (a3 : Box) (a4 : Int) : Option Int :=
 (PL a2 (w64 (a3.Z.B - a3.Z.A))).bind fun v5 =>
 (yL a1 a3 a4 FUEL v5.1 0).bind fun o16 =>
 some (imax 0 o16)
/- sawmill/sawmillref20.Best -/
def WF (x26 : Int) (rec_ref20_Best_L3 : Int → Bool → Int → Span → Option (Int × Bool × Span)) (x38 : Int) (x39 : Bool) (x40 : Span) : Option (Int × Bool × Span) :=
 rec_ref20_Best_L3 x38 x39 (w64 (x26 + 1)) x40
def DE (a3 : qA) (x19 : Int) (x24 : Int) (x25 : Bool) (x26 : Int) (x27 : Span) (rec_ref20_Best_L3 : Int → Bool → Int → Span → Option (Int × Bool × Span)) (v33 : Int) (x36 : Bool) : Option (Int × Bool × Span) :=
 bif x36 then
 WF x26 rec_ref20_Best_L3 v33 true (Span.mk x19 (w64 (x19 + (a3.Lengths.getD x26.toNat default))))
 else
 WF x26 rec_ref20_Best_L3 x24 x25 x27
def wQ (a1 : List Slice) (a2 : List Defect) (a3 : qA) (a4 : Rect) (a6 : Int) (x19 : Int) : Nat → Int → Bool → Int → Span → Option (Int × Bool × Span)
 | 0, _, _, _, _ => none
 | n + 1, x24, x25, x26, x27 =>
 bif decide (x26 < ((a3.Lengths.length : Nat) : Int)) then
 bif inb x26 a3.Lengths.length then
 (RR a1 a2 a3 (Box.mk a4.X a4.Y (Span.mk x19 (w64 (x19 + (a3.Lengths.getD x26.toNat default)))))).bind fun v30 =>
 bif !v30 then
 WF x26 (wQ a1 a2 a3 a4 a6 x19 n) x24 x25 x27
 else
 (GM a2 a3 (Box.mk a4.X a4.Y (Span.mk x19 (w64 (x19 + (a3.Lengths.getD x26.toNat default))))) a6).bind fun v33 =>
 bif !x25 then
 DE a3 x19 x24 x25 x26 x27 (wQ a1 a2 a3 a4 a6 x19 n) v33 true
 else
 DE a3 x19 x24 x25 x26 x27 (wQ a1 a2 a3 a4 a6 x19 n) v33 (decide (v33 > x24))
 else none
 else
 some (x24, x25, x27)
def JS (a1 : List Slice) (a2 : List Defect) (a3 : qA) (a4 : Rect) (a5 : Int) (a6 : Int) : Nat → Int → Bool → Int → Span → Option (Int × Bool × Span)
 | 0, _, _, _, _ => none
 | n + 1, x17, x18, x19, x20 =>
 (yQ a1).bind fun v21 =>
 bif decide (x19 < v21) then
 (wQ a1 a2 a3 a4 a6 x19 FUEL x17 x18 0 x20).bind fun o44 =>
 (JS a1 a2 a3 a4 a5 a6 n) o44.1 o44.2.1 (w64 (x19 + a5)) o44.2.2
 else
 some (x17, x18, x20)
def PE (a1 : List Slice) (a2 : List Defect) (a3 : qA) (a4 : Rect) (a5 : Int) (a6 : Int) (x15 : Bool) : Option (Span × Int × Bool) :=
 bif x15 then
 some ((Span.mk 0 0), 0, false)
 else
 (JS a1 a2 a3 a4 a5 a6 FUEL 0 false 0 (Span.mk 0 0)).bind fun o49 =>
 some (o49.2.2, o49.1, o49.2.1)
def FJ (a1 : List Slice) (a2 : List Defect) (a3 : qA) (a4 : Rect) (a5 : Int) (a6 : Int) : Option (Span × Int × Bool) :=
 (jK a5 1 20000).bind fun v7 =>
 bif !v7 then
 PE a1 a2 a3 a4 a5 a6 true
 else
 (jK a6 0 1000000).bind fun v10 =>
 bif !v10 then
 PE a1 a2 a3 a4 a5 a6 true
 else
 (HD a1 a2 a3).bind fun v13 =>
 PE a1 a2 a3 a4 a5 a6 (!v13)
/- sawmill/sawmillref11.Within -/
def RG (a1 : List Slice) (x11 : Int) (x12 : Int) (rec_ref11_Within_L2 : Int → Int → Int → Option Int) (x20 : Int) : Option Int :=
 rec_ref11_Within_L2 x20 (w64 (x11 + ((a1.getD x12.toNat default).Len))) (w64 (x12 + 1))
def jR (a1 : List Slice) (a2 : Box) : Nat → Int → Int → Int → Option Int
 | 0, _, _, _ => none
 | n + 1, x10, x11, x12 =>
 bif decide (x12 < ((a1.length : Nat) : Int)) then
 bif inb x12 a1.length then
 (UM (Span.mk (imax a2.Z.A 0) (imin a2.Z.B 20000)) x11 ((a1.getD x12.toNat default).Len)).bind fun v15 =>
 bif decide (v15 > 0) then
 (XN ((a1.getD x12.toNat default).Sec) (Rect.mk a2.X a2.Y)).bind fun v18 =>
 RG a1 x11 x12 (jR a1 a2 n) (w64 (x10 + (w64 (v15 * v18))))
 else
 RG a1 x11 x12 (jR a1 a2 n) x10
 else none
 else
 some x10
def QD (a1 : List Slice) (a2 : Box) (x8 : Bool) : Option Int :=
 bif x8 then
 some 0
 else
 (jR a1 a2 FUEL 0 0 0).bind fun o22 =>
 some o22
def TA (a1 : List Slice) (a2 : Box) : Option Int :=
 (ZH a1).bind fun v3 =>
 bif v3 != 0 then
 QD a1 a2 true
 else
 bif decide (a2.X.A ≥ a2.X.B) then
 QD a1 a2 true
 else
 bif decide (a2.Y.A ≥ a2.Y.B) then
 QD a1 a2 true
 else
 QD a1 a2 (decide (a2.Z.A ≥ a2.Z.B))
/- sawmill/sawmillref23.along -/
def WT (a1 : List Slice) (a2 : Rect) (a3 : Span) : Option Int :=
 (TA a1 (Box.mk a2.X a2.Y a3)).bind fun v4 =>
 some v4
/- sawmill/sawmillref23.volume -/
def XD (a1 : List Slice) (a2 : Rect) : Option Int :=
 (yQ a1).bind fun v3 =>
 (WT a1 a2 (Span.mk 0 v3)).bind fun v5 =>
 some v5
/- sawmill/sawmillref23.gain -/
def FX (a1 : List Slice) (a2 : List Defect) (a3 : qA) (a4 : Rect) (a5 : Saw) (a6 : Rates) : Option Int :=
 (FJ a1 a2 a3 a4 a5.Step a6.Fine).bind fun v7 =>
 bif !v7.2.2 then
 some (-1)
 else
 (WT a1 a4 (Span.mk (imax 0 (w64 (v7.1.A - a5.Trim))) v7.1.A)).bind fun v10 =>
 (yQ a1).bind fun v12 =>
 (WT a1 a4 (Span.mk v7.1.B (imin (w64 (v7.1.B + a5.Trim)) v12))).bind fun v14 =>
 (XD a1 a4).bind fun v16 =>
 (WT a1 a4 v7.1).bind fun v18 =>
 some (w64 ((w64 ((w64 (1000000 * v7.2.1)) + (w64 (a6.Dust * (w64 (v10 + v14)))))) + (w64 (a6.Chip * (w64 ((w64 (v16 - v18)) - (w64 (v10 + v14))))))))
/- sawmill/sawmillref23.Line -/
def GX (l15 : List Int) (x16 : Int) (rec_ref23_Line_L2 : (List Int) → Int → Option (List Int)) (x27 : Int) : Option (List Int) :=
 bif room (l15.length + 1) 8 then
 rec_ref23_Line_L2 (l15 ++ ([x27] : List Int)) (w64 (x16 + 1))
 else none
def jY (a1 : List Slice) (a2 : List Defect) (a3 : List qA) (a4 : Rect) (a5 : Saw) (a6 : Rates) (v10 : (List Int) × (List Int)) (x12 : Int) : Nat → (List Int) → Int → Option (List Int)
 | 0, _, _ => none
 | n + 1, l15, x16 =>
 bif inb x12 v10.1.length then
 bif decide ((w64 (x16 + (v10.1.getD x12.toNat default))) ≤ (w64 (a4.X.B - a4.X.A))) then
 bif nz a5.Pitch then
 bif (Int.tmod x16 a5.Pitch) == 0 then
 bif inb x12 v10.2.length then
 bif inb (v10.2.getD x12.toNat default) a3.length then
 (UF a4 x16 (w64 (x16 + (v10.1.getD x12.toNat default)))).bind fun v23 =>
 (FX a1 a2 (a3.getD (v10.2.getD x12.toNat default).toNat default) v23 a5 a6).bind fun v25 =>
 GX l15 x16 (jY a1 a2 a3 a4 a5 a6 v10 x12 n) v25
 else none
 else none
 else
 GX l15 x16 (jY a1 a2 a3 a4 a5 a6 v10 x12 n) (-1)
 else none
 else
 some l15
 else none
def WH (a1 : List Slice) (a2 : List Defect) (a3 : List qA) (a4 : Rect) (a5 : Saw) (a6 : Rates) (v10 : (List Int) × (List Int)) : Nat → Int → (List (List Int)) → Option (List (List Int))
 | 0, _, _ => none
 | n + 1, x12, l13 =>
 bif decide (x12 < ((v10.1.length : Nat) : Int)) then
 (jY a1 a2 a3 a4 a5 a6 v10 x12 FUEL ([] : List Int) 0).bind fun o30 =>
 bif room (l13.length + 1) 24 then
 (WH a1 a2 a3 a4 a5 a6 v10 n) (w64 (x12 + 1)) (l13 ++ ([o30] : List (List Int)))
 else none
 else
 some l13
def WG (a1 : List Slice) (a4 : Rect) (a6 : Rates) : Nat → Int → (List Int) → (List Int) → Option ((List Int) × (List Int))
 | 0, _, _, _ => none
 | n + 1, x36, l37, l38 =>
 bif decide (x36 < (w64 (a4.X.B - a4.X.A))) then
 (UF a4 x36 (w64 (x36 + 1))).bind fun v40 =>
 (XD a1 v40).bind fun v42 =>
 bif room (l37.length + 1) 8 then
 bif room (l38.length + 1) 8 then
 (WG a1 a4 a6 n) (w64 (x36 + 1)) (l37 ++ ([w64 (a6.Chip * v42)] : List Int)) (l38 ++ ([w64 (a6.Dust * v42)] : List Int))
 else none
 else none
 else
 some (l37, l38)
def FR (a1 : List Slice) (a2 : List Defect) (a3 : List qA) (a4 : Rect) (a5 : Saw) (a6 : Rates) : Option (Line × Int) :=
 (GP a1 a2 a3 a4 a5 a6).bind fun v7 =>
 bif v7 != 0 then
 some ((Line.mk 0 0 0 ([] : List Int) ([] : List (List Int)) ([] : List Int) ([] : List Int)), v7)
 else
 (GE a3 (w64 (a4.Y.B - a4.Y.A))).bind fun v10 =>
 (WH a1 a2 a3 a4 a5 a6 v10 FUEL 0 ([] : List (List Int))).bind fun o34 =>
 (WG a1 a4 a6 FUEL 0 ([] : List Int) ([] : List Int)).bind fun o48 =>
 some ((Line.mk (w64 (a4.X.B - a4.X.A)) a5.Kerf 1 v10.1 o34 o48.1 o48.2), 0)
/- sawmill/sawmillref17.sameInts -/
def QJ (a1 : List Int) (a2 : List Int) : Nat → Int → Option (Bool ⊕ Unit)
 | 0, _ => none
 | n + 1, x4 =>
 bif decide (x4 < ((a1.length : Nat) : Int)) then
 bif inb x4 a1.length then
 bif inb x4 a2.length then
 bif (a1.getD x4.toNat default) != (a2.getD x4.toNat default) then
 some (Sum.inl false)
 else
 (QJ a1 a2 n) (w64 (x4 + 1))
 else none
 else none
 else
 some (Sum.inr ())
def yK (a1 : List Int) (a2 : List Int) : Option Bool :=
 bif ((a1.length : Nat) : Int) != ((a2.length : Nat) : Int) then
 some false
 else
 (QJ a1 a2 FUEL 0).bind fun u11 => Sum.elim (fun v12 => some v12) (fun o9 =>
 some true) u11
/- sawmill/sawmillref17.SameLine -/
def QI (a1 : Line) (a2 : Line) : Nat → Int → Option (Bool ⊕ Unit)
 | 0, _ => none
 | n + 1, x17 =>
 bif decide (x17 < ((a1.Gain.length : Nat) : Int)) then
 bif inb x17 a1.Gain.length then
 bif inb x17 a2.Gain.length then
 (yK (a1.Gain.getD x17.toNat default) (a2.Gain.getD x17.toNat default)).bind fun v21 =>
 bif !v21 then
 some (Sum.inl false)
 else
 (QI a1 a2 n) (w64 (x17 + 1))
 else none
 else none
 else
 some (Sum.inr ())
def wG (a1 : Line) (a2 : Line) (x15 : Bool) : Option Bool :=
 bif x15 then
 some false
 else
 (QI a1 a2 FUEL 0).bind fun u26 => Sum.elim (fun v27 => some v27) (fun o24 =>
 some true) u26
def JC (a1 : Line) (a2 : Line) : Option Bool :=
 bif a1.Len != a2.Len then
 wG a1 a2 true
 else
 bif a1.Kerf != a2.Kerf then
 wG a1 a2 true
 else
 bif a1.Pitch != a2.Pitch then
 wG a1 a2 true
 else
 (yK a1.Sizes a2.Sizes).bind fun v6 =>
 bif !v6 then
 wG a1 a2 true
 else
 bif ((a1.Gain.length : Nat) : Int) != ((a2.Gain.length : Nat) : Int) then
 wG a1 a2 true
 else
 (yK a1.Chip a2.Chip).bind fun v10 =>
 bif !v10 then
 wG a1 a2 true
 else
 (yK a1.Dust a2.Dust).bind fun v13 =>
 wG a1 a2 (!v13)
/- sawmill/sawmilllaw23.EdgeLines -/
def ZO (x17 : Bool) : Option Bool :=
 some x17
def RH (a1 : qO) : Option Bool :=
 (GI a1).bind fun v2 =>
 bif !v2 then
 (GK).bind fun v5 =>
 some v5
 else
 (VA a1).bind fun v7 =>
 (FR a1.Solid a1.Defects a1.Products a1.Strip a1.Saw a1.Rates).bind fun v9 =>
 (JC (Line.mk v7.1.Len v7.1.Kerf v7.1.Pitch v7.1.Sizes v7.1.Gain v7.1.Chip v7.1.Dust) (Line.mk v9.1.Len v9.1.Kerf v9.1.Pitch v9.1.Sizes v9.1.Gain v9.1.Chip v9.1.Dust)).bind fun v11 =>
 bif v11 then
 bif v7.2 == v9.2 then
 (GK).bind fun v15 =>
 ZO v15
 else
 ZO false
 else
 ZO false
end Saw
end Go.SL

import Derived.Test.YtgpgnlllieekbaaGreatDoorYa5
set_option linter.unusedVariables false
set_option linter.unusedSimpArgs false
namespace Go.SL
namespace Saw
structure Piece where
 Size : Int
 At : Int
instance : Inhabited Piece := ⟨⟨0, 0⟩⟩
def zD (r : Piece) : List C := [ci r.Size, ci r.At]
structure Span where
 A : Int
 B : Int
instance : Inhabited Span := ⟨⟨0, 0⟩⟩
def e_Span (r : Span) : List C := [ci r.A, ci r.B]
structure qJ where
 Low : Int
 Rows : List Span
instance : Inhabited qJ := ⟨⟨0, []⟩⟩
def qZ (r : qJ) : List C := [ci r.Low, tl e_Span default r.Rows]
structure Slice where
 Len : Int
 Sec : qJ
instance : Inhabited Slice := ⟨⟨0, default⟩⟩
def qG (r : Slice) : List C := [ci r.Len, ci r.Sec.Low, tl e_Span default r.Sec.Rows]
structure Box where
 X : Span
 Y : Span
 Z : Span
instance : Inhabited Box := ⟨⟨default, default, default⟩⟩
def zC (r : Box) : List C := [ci r.X.A, ci r.X.B, ci r.Y.A, ci r.Y.B, ci r.Z.A, ci r.Z.B]
structure Defect where
 Kind : Int
 Box : Box
instance : Inhabited Defect := ⟨⟨0, default⟩⟩
def qH (r : Defect) : List C := [ci r.Kind, ci r.Box.X.A, ci r.Box.X.B, ci r.Box.Y.A, ci r.Box.Y.B, ci r.Box.Z.A, ci r.Box.Z.B]
structure qC where
 Name : ByteArray
 Thick : Int
 Width : Int
 Allow : Int
 Wane : Int
 Lengths : List Int
 Prices : List Int
instance : Inhabited qC := ⟨⟨⟨#[]⟩, 0, 0, 0, 0, [], []⟩⟩
def qE (r : qC) : List C := [cs r.Name, ci r.Thick, ci r.Width, ci r.Allow, ci r.Wane, tl e_i64 default r.Lengths, tl e_i64 default r.Prices]
structure Rect where
 X : Span
 Y : Span
instance : Inhabited Rect := ⟨⟨default, default⟩⟩
def qK (r : Rect) : List C := [ci r.X.A, ci r.X.B, ci r.Y.A, ci r.Y.B]
structure Saw where
 Kerf : Int
 Trim : Int
 Pitch : Int
 Step : Int
instance : Inhabited Saw := ⟨⟨0, 0, 0, 0⟩⟩
def zY (r : Saw) : List C := [ci r.Kerf, ci r.Trim, ci r.Pitch, ci r.Step]
structure Rates where
 Chip : Int
 Dust : Int
 Fine : Int
instance : Inhabited Rates := ⟨⟨0, 0, 0⟩⟩
def qW (r : Rates) : List C := [ci r.Chip, ci r.Dust, ci r.Fine]
structure qP where
 Solid : List Slice
 Defects : List Defect
 Products : List qC
 Strip : Rect
 Saw : Saw
 Rates : Rates
instance : Inhabited qP := ⟨⟨[], [], [], default, default, default⟩⟩
def zO (r : qP) : List C := [tl qG default r.Solid, tl qH default r.Defects, tl qE default r.Products, ci r.Strip.X.A, ci r.Strip.X.B, ci r.Strip.Y.A, ci r.Strip.Y.B, ci r.Saw.Kerf, ci r.Saw.Trim, ci r.Saw.Pitch, ci r.Saw.Step, ci r.Rates.Chip, ci r.Rates.Dust, ci r.Rates.Fine]
structure Worth_zone where
 z : Span
 lack : Int
instance : Inhabited Worth_zone := ⟨⟨default, 0⟩⟩
def qN (r : Worth_zone) : List C := [ci r.z.A, ci r.z.B, ci r.lack]
structure Worth_view where
 product : qC
 rect : Rect
 length : Int
 zones : List Worth_zone
 defects : List Defect
instance : Inhabited Worth_view := ⟨⟨default, default, 0, [], []⟩⟩
def VK (r : Worth_view) : List C := [cs r.product.Name, ci r.product.Thick, ci r.product.Width, ci r.product.Allow, ci r.product.Wane, tl e_i64 default r.product.Lengths, tl e_i64 default r.product.Prices, ci r.rect.X.A, ci r.rect.X.B, ci r.rect.Y.A, ci r.rect.Y.B, ci r.length, tl qN default r.zones, tl qH default r.defects]
structure Line where
 Len : Int
 Kerf : Int
 Pitch : Int
 Sizes : List Int
 Gain : List (List Int)
 Chip : List Int
 Dust : List Int
instance : Inhabited Line := ⟨⟨0, 0, 0, [], [], [], []⟩⟩
def qS (r : Line) : List C := [ci r.Len, ci r.Kerf, ci r.Pitch, tl e_i64 default r.Sizes, tl (qL e_i64) default r.Gain, tl e_i64 default r.Chip, tl e_i64 default r.Dust]
structure Cutting_choice where
 piece : Piece
 value : Int
instance : Inhabited Cutting_choice := ⟨⟨default, 0⟩⟩
def e_Cutting_choice (r : Cutting_choice) : List C := [ci r.piece.Size, ci r.piece.At, ci r.value]
structure Node where
 Kind : Int
 At : Int
instance : Inhabited Node := ⟨⟨0, 0⟩⟩
def e_Node (r : Node) : List C := [ci r.Kind, ci r.At]
structure Ref17_step where
 value : Int
 piece : Piece
instance : Inhabited Ref17_step := ⟨⟨0, default⟩⟩
def e_Ref17_step (r : Ref17_step) : List C := [ci r.value, ci r.piece.Size, ci r.piece.At]
def qGp : Piece := (Piece.mk (-1) (-1))
def globs : List (Nat × C) := [(0, .lptr (zD qGp))]
/- sawmill/sawmilllaw19.Short -/
def JT (x2 : Int) (rec_law19_Short_L1 : Int → Option (Bool ⊕ Unit)) (x8 : Bool) : Option (Bool ⊕ Unit) :=
 bif x8 then
 some (Sum.inl false)
 else
 rec_law19_Short_L1 (w64 (x2 + 1))
def zZ (a1 : List qC) : Nat → Int → Option (Bool ⊕ Unit)
 | 0, _ => none
 | n + 1, x2 =>
 bif decide (x2 < ((a1.length : Nat) : Int)) then
 bif decide (x2 ≥ 20) then
 JT x2 (zZ a1 n) true
 else
 bif inb x2 a1.length then
 bif decide (((((a1.getD x2.toNat default).Lengths).length : Nat) : Int) > 12) then
 JT x2 (zZ a1 n) true
 else
 bif decide (((((a1.getD x2.toNat default).Prices).length : Nat) : Int) > 12) then
 JT x2 (zZ a1 n) true
 else
 JT x2 (zZ a1 n) (decide (((((a1.getD x2.toNat default).Name).size : Nat) : Int) > 100))
 else none
 else
 some (Sum.inr ())
def NJ (a1 : List qC) : Option Bool :=
 (zZ a1 FUEL 0).bind fun u12 => Sum.elim (fun v13 => some v13) (fun o10 =>
 some true) u12
/- sawmill/sawmillref10.beyond -/
def UK (x3 : Bool) : Option Bool :=
 some x3
def PI (a1 : Int) : Option Bool :=
 bif decide (a1 < (-600)) then
 UK true
 else
 UK (decide (a1 > 600))
/- sawmill/sawmillref10.empty -/
def JJ (a1 : Span) : Option Bool :=
 some (decide (a1.A ≥ a1.B))
/- sawmill/sawmillref10.Check -/
def GT (x6 : Int) (rec_ref10_Check_L2 : Int → Option (Int ⊕ Unit)) (x14 : Bool) : Option (Int ⊕ Unit) :=
 bif x14 then
 some (Sum.inl 9)
 else
 rec_ref10_Check_L2 (w64 (x6 + 1))
def yA (a1 : qJ) : Nat → Int → Option (Int ⊕ Unit)
 | 0, _ => none
 | n + 1, x6 =>
 bif decide (x6 < ((a1.Rows.length : Nat) : Int)) then
 bif inb x6 a1.Rows.length then
 (PI ((a1.Rows.getD x6.toNat default).A)).bind fun v9 =>
 bif v9 then
 GT x6 (yA a1 n) true
 else
 (PI ((a1.Rows.getD x6.toNat default).B)).bind fun v12 =>
 GT x6 (yA a1 n) v12
 else none
 else
 some (Sum.inr ())
def GW (x31 : Int) (rec_ref10_Check_L5 : Int → Option (Int ⊕ Unit)) (x37 : Bool) : Option (Int ⊕ Unit) :=
 bif x37 then
 some (Sum.inl 19)
 else
 rec_ref10_Check_L5 (w64 (x31 + 1))
def jZ (a1 : qJ) : Nat → Int → Option (Int ⊕ Unit)
 | 0, _ => none
 | n + 1, x31 =>
 bif decide (x31 < ((a1.Rows.length : Nat) : Int)) then
 bif inb x31 a1.Rows.length then
 (JJ (a1.Rows.getD x31.toNat default)).bind fun v34 =>
 bif v34 then
 GW x31 (jZ a1 n) (!((((a1.Rows.getD x31.toNat default).A) == 0) && ((((a1.Rows.getD x31.toNat default).B) == 0) && true)))
 else
 GW x31 (jZ a1 n) false
 else none
 else
 some (Sum.inr ())
def DL (a1 : qJ) (x29 : Bool) : Option Int :=
 bif x29 then
 some 19
 else
 (jZ a1 FUEL 0).bind fun u41 => Sum.elim (fun v42 => some v42) (fun o39 =>
 some 0) u41
def GQ (a1 : qJ) (x4 : Bool) : Option Int :=
 bif x4 then
 some 9
 else
 (yA a1 FUEL 0).bind fun u18 => Sum.elim (fun v19 => some v19) (fun o16 =>
 bif ((a1.Rows.length : Nat) : Int) == 0 then
 bif a1.Low != 0 then
 some 19
 else
 some 0
 else
 bif inb 0 a1.Rows.length then
 (JJ (a1.Rows.getD (0 : Int).toNat default)).bind fun v23 =>
 bif v23 then
 DL a1 true
 else
 bif inb (w64 (((a1.Rows.length : Nat) : Int) - 1)) a1.Rows.length then
 (JJ (a1.Rows.getD (w64 (((a1.Rows.length : Nat) : Int) - 1)).toNat default)).bind fun v27 =>
 DL a1 v27
 else none
 else none) u18
def TP (a1 : qJ) : Option Int :=
 bif decide (((a1.Rows.length : Nat) : Int) > 120) then
 some 4
 else
 bif decide (a1.Low < (-60)) then
 GQ a1 true
 else
 GQ a1 (decide (a1.Low > (w64 (60 - ((a1.Rows.length : Nat) : Int)))))
/- sawmill/sawmillref11.Check -/
def DC (a1 : List Slice) (x4 : Int) (x5 : Int) (rec_ref11_Check_L1 : Int → Int → Option (Int ⊕ Unit)) (x13 : Bool) : Option (Int ⊕ Unit) :=
 bif x13 then
 some (Sum.inl 9)
 else
 rec_ref11_Check_L1 (w64 (x4 + ((a1.getD x5.toNat default).Len))) (w64 (x5 + 1))
def jS (a1 : List Slice) : Nat → Int → Int → Option (Int ⊕ Unit)
 | 0, _, _ => none
 | n + 1, x4, x5 =>
 bif decide (x5 < ((a1.length : Nat) : Int)) then
 bif inb x5 a1.length then
 (TP ((a1.getD x5.toNat default).Sec)).bind fun v8 =>
 bif v8 != 0 then
 some (Sum.inl v8)
 else
 bif (((((a1.getD x5.toNat default).Sec).Rows).length : Nat) : Int) == 0 then
 some (Sum.inl 18)
 else
 bif decide (((a1.getD x5.toNat default).Len) < 1) then
 DC a1 x4 x5 (jS a1 n) true
 else
 DC a1 x4 x5 (jS a1 n) (decide (((a1.getD x5.toNat default).Len) > (w64 (20000 - x4))))
 else none
 else
 some (Sum.inr ())
def ZW (a1 : List Slice) : Option Int :=
 bif ((a1.length : Nat) : Int) == 0 then
 some 3
 else
 bif decide (((a1.length : Nat) : Int) > 24) then
 some 4
 else
 (jS a1 FUEL 0 0).bind fun u17 => Sum.elim (fun v18 => some v18) (fun o15 =>
 some 0) u17
/- sawmill/sawmillref11.Length -/
def QM (a1 : List Slice) : Nat → Int → Int → Option Int
 | 0, _, _ => none
 | n + 1, x5, x6 =>
 bif decide (x6 < ((a1.length : Nat) : Int)) then
 bif inb x6 a1.length then
 (QM a1 n) (w64 (x5 + ((a1.getD x6.toNat default).Len))) (w64 (x6 + 1))
 else none
 else
 some x5
def QN (a1 : List Slice) : Option Int :=
 (ZW a1).bind fun v2 =>
 bif v2 != 0 then
 some 0
 else
 (QM a1 FUEL 0 0).bind fun o10 =>
 some o10
/- sawmill/sawmilllaw23.Small -/
def ZN (a1 : qP) : Nat → Int → Option (Bool ⊕ Unit)
 | 0, _ => none
 | n + 1, x9 =>
 bif decide (x9 < ((a1.Solid.length : Nat) : Int)) then
 bif inb x9 a1.Solid.length then
 bif decide ((((((a1.Solid.getD x9.toNat default).Sec).Rows).length : Nat) : Int) > 130) then
 some (Sum.inl false)
 else
 (ZN a1 n) (w64 (x9 + 1))
 else none
 else
 some (Sum.inr ())
def ZK (a1 : qP) : Nat → Int → Option (Bool ⊕ Unit)
 | 0, _ => none
 | n + 1, x17 =>
 bif decide (x17 < ((a1.Products.length : Nat) : Int)) then
 bif inb x17 a1.Products.length then
 bif decide (((((a1.Products.getD x17.toNat default).Lengths).length : Nat) : Int) > 4) then
 some (Sum.inl false)
 else
 (ZK a1 n) (w64 (x17 + 1))
 else none
 else
 some (Sum.inr ())
def jU (a1 : qP) (x30 : Bool) : Option Bool :=
 bif x30 then
 some false
 else
 (QN a1.Solid).bind fun v32 =>
 some (decide ((w64 (Int.tdiv v32 12)) ≤ a1.Saw.Step))
def YB (a1 : qP) (x7 : Bool) : Option Bool :=
 bif x7 then
 some false
 else
 (ZN a1 FUEL 0).bind fun u15 => Sum.elim (fun v16 => some v16) (fun o13 =>
 (ZK a1 FUEL 0).bind fun u23 => Sum.elim (fun v24 => some v24) (fun o21 =>
 bif decide (a1.Saw.Pitch < 5) then
 jU a1 true
 else
 bif decide (a1.Saw.Step < 1) then
 jU a1 true
 else
 bif decide (a1.Strip.X.A < (-1000)) then
 jU a1 true
 else
 bif decide (a1.Strip.X.B > 1000) then
 jU a1 true
 else
 bif decide (a1.Strip.X.B > a1.Strip.X.A) then
 jU a1 (decide ((w64 (a1.Strip.X.B - a1.Strip.X.A)) > 300))
 else
 jU a1 false) u23) u15
def NB (a1 : qP) : Option Bool :=
 bif decide (((a1.Solid.length : Nat) : Int) > 6) then
 YB a1 true
 else
 bif decide (((a1.Defects.length : Nat) : Int) > 70) then
 YB a1 true
 else
 bif decide (((a1.Products.length : Nat) : Int) > 4) then
 YB a1 true
 else
 (NJ a1.Products).bind fun v5 =>
 YB a1 (!v5)
/- sawmill/sawmilllaw19.Plank -/
def qCJ : Option qC :=
 some (qC.mk (ByteArray.mk #[112, 108, 97, 110, 107]) 40 100 50 0 ([2000] : List Int) ([70] : List Int))
/- sawmill/sawmilllaw23.sample -/
def MX : Nat → Int → (List Span) → Option (List Span)
 | 0, _, _ => none
 | n + 1, x1, l2 =>
 bif decide (x1 < 20) then
 bif room (l2.length + 1) 16 then
 (MX n) (w64 (x1 + 1)) (l2 ++ ([(Span.mk (-100) 100)] : List Span))
 else none
 else
 some l2
def qAn : Option qP :=
 (MX FUEL 0 ([] : List Span)).bind fun o6 =>
 (qCJ).bind fun v10 =>
 some (qP.mk ([(Slice.mk 3000 (qJ.mk (-10) o6))] : List Slice) ([] : List Defect) ([v10] : List qC) (Rect.mk (Span.mk (-100) 10) (Span.mk 0 42)) (Saw.mk 4 5 5 500) (Rates.mk 0 0 0))
/- sawmill/section.inRange -/
def XZ (x3 : Bool) : Option Bool :=
 some x3
def XS (a1 : Span) : Option Bool :=
 bif decide ((imin a1.A a1.B) ≥ (-600)) then
 XZ (decide ((imax a1.A a1.B) ≤ 600))
 else
 XZ false
/- sawmill/section.isEmpty -/
def WL (a1 : Span) : Option Bool :=
 some (decide (a1.A ≥ a1.B))
/- sawmill/section.Check -/
def yP (a1 : qJ) : Nat → Int → Option (Int ⊕ Unit)
 | 0, _ => none
 | n + 1, x6 =>
 bif decide (x6 < ((a1.Rows.length : Nat) : Int)) then
 bif inb x6 a1.Rows.length then
 (XS (a1.Rows.getD x6.toNat default)).bind fun v9 =>
 bif !v9 then
 some (Sum.inl 9)
 else
 (yP a1 n) (w64 (x6 + 1))
 else none
 else
 some (Sum.inr ())
def RJ (x27 : Int) (rec_section_Check_L4 : Int → Option (Int ⊕ Unit)) (x33 : Bool) : Option (Int ⊕ Unit) :=
 bif x33 then
 some (Sum.inl 19)
 else
 rec_section_Check_L4 (w64 (x27 + 1))
def jA (a1 : qJ) : Nat → Int → Option (Int ⊕ Unit)
 | 0, _ => none
 | n + 1, x27 =>
 bif decide (x27 < ((a1.Rows.length : Nat) : Int)) then
 bif inb x27 a1.Rows.length then
 (WL (a1.Rows.getD x27.toNat default)).bind fun v30 =>
 bif v30 then
 RJ x27 (jA a1 n) (!((((a1.Rows.getD x27.toNat default).A) == 0) && ((((a1.Rows.getD x27.toNat default).B) == 0) && true)))
 else
 RJ x27 (jA a1 n) false
 else none
 else
 some (Sum.inr ())
def RD (a1 : qJ) (x25 : Bool) : Option Int :=
 bif x25 then
 some 19
 else
 (jA a1 FUEL 0).bind fun u37 => Sum.elim (fun v38 => some v38) (fun o35 =>
 some 0) u37
def RR (a1 : qJ) (x4 : Bool) : Option Int :=
 bif x4 then
 some 9
 else
 (yP a1 FUEL 0).bind fun u14 => Sum.elim (fun v15 => some v15) (fun o12 =>
 bif ((a1.Rows.length : Nat) : Int) == 0 then
 bif a1.Low != 0 then
 some 19
 else
 some 0
 else
 bif inb 0 a1.Rows.length then
 (WL (a1.Rows.getD (0 : Int).toNat default)).bind fun v19 =>
 bif v19 then
 RD a1 true
 else
 bif inb (w64 (((a1.Rows.length : Nat) : Int) - 1)) a1.Rows.length then
 (WL (a1.Rows.getD (w64 (((a1.Rows.length : Nat) : Int) - 1)).toNat default)).bind fun v23 =>
 RD a1 v23
 else none
 else none) u14
def YT (a1 : qJ) : Option Int :=
 bif decide (((a1.Rows.length : Nat) : Int) > 120) then
 some 4
 else
 bif decide (a1.Low < (-60)) then
 RR a1 true
 else
 RR a1 (decide (a1.Low > (w64 (60 - ((a1.Rows.length : Nat) : Int)))))
/- sawmill/solid.Check -/
def GY (a1 : List Slice) (x4 : Int) (x5 : Int) (rec_solid_Check_L1 : Int → Int → Option (Int ⊕ Unit)) (x13 : Bool) : Option (Int ⊕ Unit) :=
 bif x13 then
 some (Sum.inl 9)
 else
 rec_solid_Check_L1 (w64 (x4 + ((a1.getD x5.toNat default).Len))) (w64 (x5 + 1))
def jQ (a1 : List Slice) : Nat → Int → Int → Option (Int ⊕ Unit)
 | 0, _, _ => none
 | n + 1, x4, x5 =>
 bif decide (x5 < ((a1.length : Nat) : Int)) then
 bif inb x5 a1.length then
 (YT ((a1.getD x5.toNat default).Sec)).bind fun v8 =>
 bif v8 != 0 then
 some (Sum.inl v8)
 else
 bif (((((a1.getD x5.toNat default).Sec).Rows).length : Nat) : Int) == 0 then
 some (Sum.inl 18)
 else
 bif decide (((a1.getD x5.toNat default).Len) < 1) then
 GY a1 x4 x5 (jQ a1 n) true
 else
 GY a1 x4 x5 (jQ a1 n) (decide (((a1.getD x5.toNat default).Len) > (w64 (20000 - x4))))
 else none
 else
 some (Sum.inr ())
def KH (a1 : List Slice) : Option Int :=
 bif ((a1.length : Nat) : Int) == 0 then
 some 3
 else
 bif decide (((a1.length : Nat) : Int) > 24) then
 some 4
 else
 (jQ a1 FUEL 0 0).bind fun u17 => Sum.elim (fun v18 => some v18) (fun o15 =>
 some 0) u17
/- sawmill/defect.isEmpty -/
def jW (a1 : Span) : Option Bool :=
 some (decide (a1.A ≥ a1.B))
/- sawmill/defect.inside -/
def RO (x5 : Bool) : Option Bool :=
 some x5
def WW (a1 : Span) (a2 : Int) (a3 : Int) : Option Bool :=
 bif decide ((imin a1.A a1.B) ≥ a2) then
 RO (decide ((imax a1.A a1.B) ≤ a3))
 else
 RO false
/- sawmill/defect.check -/
def KE (x23 : Bool) : Option Int :=
 bif x23 then
 some 9
 else
 some 0
def XR (a1 : Defect) (x13 : Bool) : Option Int :=
 bif x13 then
 some 19
 else
 (WW a1.Box.X (-600) 600).bind fun v15 =>
 bif !v15 then
 KE true
 else
 (WW a1.Box.Y (-600) 600).bind fun v18 =>
 bif !v18 then
 KE true
 else
 (WW a1.Box.Z 0 20000).bind fun v21 =>
 KE (!v21)
def TZ (a1 : Defect) (x3 : Bool) : Option Int :=
 bif x3 then
 some 10
 else
 (jW a1.Box.X).bind fun v5 =>
 bif v5 then
 XR a1 true
 else
 (jW a1.Box.Y).bind fun v8 =>
 bif v8 then
 XR a1 true
 else
 (jW a1.Box.Z).bind fun v11 =>
 XR a1 v11
def GO (a1 : Defect) : Option Int :=
 bif decide (a1.Kind < 1) then
 TZ a1 true
 else
 TZ a1 (decide (a1.Kind > 6))
/- sawmill/defect.Check -/
def QL (a1 : List Defect) : Nat → Int → Option (Int ⊕ Unit)
 | 0, _ => none
 | n + 1, x3 =>
 bif decide (x3 < ((a1.length : Nat) : Int)) then
 bif inb x3 a1.length then
 (GO (a1.getD x3.toNat default)).bind fun v6 =>
 bif v6 != 0 then
 some (Sum.inl v6)
 else
 (QL a1 n) (w64 (x3 + 1))
 else none
 else
 some (Sum.inr ())
def KR (a1 : List Defect) : Option Int :=
 bif decide (((a1.length : Nat) : Int) > 64) then
 some 4
 else
 (QL a1 FUEL 0).bind fun u11 => Sum.elim (fun v12 => some v12) (fun o9 =>
 some 0) u11
/- sawmill/ident.isSmall -/
def RP (x3 : Bool) : Option Bool :=
 some x3
def YZ (a1 : Int) : Option Bool :=
 bif decide (97 ≤ a1) then
 RP (decide (a1 ≤ 122))
 else
 RP false
/- sawmill/ident.isDigit -/
def RB (x3 : Bool) : Option Bool :=
 some x3
def RT (a1 : Int) : Option Bool :=
 bif decide (48 ≤ a1) then
 RB (decide (a1 ≤ 57))
 else
 RB false
/- sawmill/ident.IsName -/
def XH (x9 : Int) (rec_ident_IsName_L2 : Int → Option (Bool ⊕ Unit)) (x18 : Bool) : Option (Bool ⊕ Unit) :=
 bif x18 then
 some (Sum.inl false)
 else
 rec_ident_IsName_L2 (w64 (x9 + 1))
def wT (a1 : ByteArray) : Nat → Int → Option (Bool ⊕ Unit)
 | 0, _ => none
 | n + 1, x9 =>
 bif decide (x9 < ((a1.size : Nat) : Int)) then
 bif inb x9 a1.size then
 (YZ (strAt a1 x9.toNat)).bind fun v12 =>
 bif !v12 then
 (RT (strAt a1 x9.toNat)).bind fun v15 =>
 bif !v15 then
 XH x9 (wT a1 n) ((strAt a1 x9.toNat) != 95)
 else
 XH x9 (wT a1 n) false
 else
 XH x9 (wT a1 n) false
 else none
 else
 some (Sum.inr ())
def XP (a1 : ByteArray) (x7 : Bool) : Option Bool :=
 bif x7 then
 some false
 else
 (wT a1 FUEL 1).bind fun u22 => Sum.elim (fun v23 => some v23) (fun o20 =>
 some true) u22
def UW (a1 : ByteArray) : Option Bool :=
 bif decide (((a1.size : Nat) : Int) < 1) then
 XP a1 true
 else
 bif decide (((a1.size : Nat) : Int) > 16) then
 XP a1 true
 else
 bif inb 0 a1.size then
 (YZ (strAt a1 ((0 : Int).toNat))).bind fun v5 =>
 XP a1 (!v5)
 else none
/- sawmill/product.Find -/
def QF (a1 : List qC) (a2 : ByteArray) : Nat → Int → Option ((Int × Bool) ⊕ Unit)
 | 0, _ => none
 | n + 1, x3 =>
 bif decide (x3 < ((a1.length : Nat) : Int)) then
 bif inb x3 a1.length then
 bif strEq ((a1.getD x3.toNat default).Name) a2 then
 some (Sum.inl (x3, true))
 else
 (QF a1 a2 n) (w64 (x3 + 1))
 else none
 else
 some (Sum.inr ())
def GL (a1 : List qC) (a2 : ByteArray) : Option (Int × Bool) :=
 (QF a1 a2 FUEL 0).bind fun u9 => Sum.elim (fun v10 => some v10) (fun o7 =>
 some (0, false)) u9
/- sawmill/product.isSize -/
def KK (x3 : Bool) : Option Bool :=
 some x3
def JQ (a1 : Int) : Option Bool :=
 bif decide (a1 ≥ 1) then
 KK (decide (a1 ≤ 600))
 else
 KK false
/- sawmill/product.grow -/
def VZ (a1 : Int) (a2 : Int) : Option Int :=
 some (w64 (Int.tdiv (w64 ((w64 (a1 * (w64 (1000 + a2)))) + 999)) 1000))
/- sawmill/product.Green -/
def ZV (a1 : qC) (x9 : Bool) : Option (Int × Int) :=
 bif x9 then
 some (0, 0)
 else
 (VZ a1.Thick a1.Allow).bind fun v11 =>
 (VZ a1.Width a1.Allow).bind fun v13 =>
 some (v11, v13)
def JC (a1 : qC) : Option (Int × Int) :=
 (JQ a1.Thick).bind fun v2 =>
 bif !v2 then
 ZV a1 true
 else
 (JQ a1.Width).bind fun v5 =>
 bif !v5 then
 ZV a1 true
 else
 bif decide (a1.Allow < 0) then
 ZV a1 true
 else
 ZV a1 (decide (a1.Allow > 200))
/- sawmill/product.checkNumbers -/
def ZI (x18 : Int) (rec_product_checkNumbers_L3 : Int → Option (Int ⊕ Unit)) (x26 : Bool) : Option (Int ⊕ Unit) :=
 bif x26 then
 some (Sum.inl 11)
 else
 rec_product_checkNumbers_L3 (w64 (x18 + 1))
def ZG (a1 : qC) (x18 : Int) (rec_product_checkNumbers_L3 : Int → Option (Int ⊕ Unit)) (x22 : Bool) : Option (Int ⊕ Unit) :=
 bif x22 then
 some (Sum.inl 9)
 else
 bif decide (x18 > 0) then
 bif inb (w64 (x18 - 1)) a1.Lengths.length then
 ZI x18 rec_product_checkNumbers_L3 (decide ((a1.Lengths.getD x18.toNat default) ≤ (a1.Lengths.getD (w64 (x18 - 1)).toNat default)))
 else none
 else
 ZI x18 rec_product_checkNumbers_L3 false
def zK (a1 : qC) : Nat → Int → Option (Int ⊕ Unit)
 | 0, _ => none
 | n + 1, x18 =>
 bif decide (x18 < ((a1.Lengths.length : Nat) : Int)) then
 bif inb x18 a1.Lengths.length then
 bif decide ((a1.Lengths.getD x18.toNat default) < 100) then
 ZG a1 x18 (zK a1 n) true
 else
 ZG a1 x18 (zK a1 n) (decide ((a1.Lengths.getD x18.toNat default) > 20000))
 else none
 else
 some (Sum.inr ())
def ZF (x32 : Int) (rec_product_checkNumbers_L6 : Int → Option (Int ⊕ Unit)) (x36 : Bool) : Option (Int ⊕ Unit) :=
 bif x36 then
 some (Sum.inl 9)
 else
 rec_product_checkNumbers_L6 (w64 (x32 + 1))
def zU (a1 : qC) : Nat → Int → Option (Int ⊕ Unit)
 | 0, _ => none
 | n + 1, x32 =>
 bif decide (x32 < ((a1.Prices.length : Nat) : Int)) then
 bif inb x32 a1.Prices.length then
 bif decide ((a1.Prices.getD x32.toNat default) < 0) then
 ZF x32 (zU a1 n) true
 else
 ZF x32 (zU a1 n) (decide ((a1.Prices.getD x32.toNat default) > 1000000))
 else none
 else
 some (Sum.inr ())
def wU (a1 : qC) (x10 : Bool) : Option Int :=
 bif x10 then
 some 9
 else
 (JC a1).bind fun v12 =>
 bif decide (v12.2 > 600) then
 some 9
 else
 bif ((a1.Lengths.length : Nat) : Int) == 0 then
 some 3
 else
 bif decide (((a1.Lengths.length : Nat) : Int) > 8) then
 some 4
 else
 bif ((a1.Prices.length : Nat) : Int) != ((a1.Lengths.length : Nat) : Int) then
 some 19
 else
 (zK a1 FUEL 0).bind fun u30 => Sum.elim (fun v31 => some v31) (fun o28 =>
 (zU a1 FUEL 0).bind fun u40 => Sum.elim (fun v41 => some v41) (fun o38 =>
 some 0) u40) u30
def wV (a1 : qC) (x5 : Bool) : Option Int :=
 bif x5 then
 some 9
 else
 bif decide (a1.Allow < 0) then
 wU a1 true
 else
 bif decide (a1.Allow > 200) then
 wU a1 true
 else
 bif decide (a1.Wane < 0) then
 wU a1 true
 else
 wU a1 (decide (a1.Wane > 1000))
def QS (a1 : qC) : Option Int :=
 bif decide (a1.Thick < 5) then
 wV a1 true
 else
 bif decide (a1.Thick > 300) then
 wV a1 true
 else
 bif decide (a1.Width < a1.Thick) then
 wV a1 true
 else
 wV a1 (decide (a1.Width > 600))
/- sawmill/product.Check -/
def yQ (a1 : List qC) : Nat → Int → Option (Int ⊕ Unit)
 | 0, _ => none
 | n + 1, x3 =>
 bif decide (x3 < ((a1.length : Nat) : Int)) then
 bif inb x3 a1.length then
 (UW ((a1.getD x3.toNat default).Name)).bind fun v6 =>
 bif !v6 then
 some (Sum.inl 6)
 else
 bif slOk 0 x3 a1.length then
 (GL (a1.take x3.toNat) ((a1.getD x3.toNat default).Name)).bind fun v10 =>
 bif v10.2 then
 some (Sum.inl 7)
 else
 (QS (a1.getD x3.toNat default)).bind fun v13 =>
 bif v13 != 0 then
 some (Sum.inl v13)
 else
 (yQ a1 n) (w64 (x3 + 1))
 else none
 else none
 else
 some (Sum.inr ())
def WZ (a1 : List qC) : Option Int :=
 bif decide (((a1.length : Nat) : Int) > 16) then
 some 4
 else
 (yQ a1 FUEL 0).bind fun u18 => Sum.elim (fun v19 => some v19) (fun o16 =>
 some 0) u18
/- sawmill/worth.isStep -/
def UI (x3 : Bool) : Option Bool :=
 some x3
def KW (a1 : Int) : Option Bool :=
 bif decide (a1 ≥ 1) then
 UI (decide (a1 ≤ 20000))
 else
 UI false
/- sawmill/worth.isFine -/
def US (x3 : Bool) : Option Bool :=
 some x3
def PE (a1 : Int) : Option Bool :=
 bif decide (a1 ≥ 0) then
 US (decide (a1 ≤ 1000000))
 else
 US false
/- sawmill/worth.Check -/
def ZP (x20 : Bool) : Option Int :=
 bif x20 then
 some 9
 else
 some 0
def KU (a2 : Rates) (x12 : Bool) : Option Int :=
 bif x12 then
 some 9
 else
 bif decide (a2.Chip < 0) then
 ZP true
 else
 bif decide (a2.Chip > 1000) then
 ZP true
 else
 bif decide (a2.Dust < 0) then
 ZP true
 else
 bif decide (a2.Dust > 1000) then
 ZP true
 else
 (PE a2.Fine).bind fun v18 =>
 ZP (!v18)
def JW (a1 : Saw) (a2 : Rates) (x6 : Bool) : Option Int :=
 bif x6 then
 some 9
 else
 bif decide (a1.Pitch < 1) then
 KU a2 true
 else
 bif decide (a1.Pitch > 2000) then
 KU a2 true
 else
 (KW a1.Step).bind fun v10 =>
 KU a2 (!v10)
def BS (a1 : Saw) (a2 : Rates) : Option Int :=
 bif decide (a1.Kerf < 0) then
 JW a1 a2 true
 else
 bif decide (a1.Kerf > 20) then
 JW a1 a2 true
 else
 bif decide (a1.Trim < 0) then
 JW a1 a2 true
 else
 JW a1 a2 (decide (a1.Trim > 20))
/- sawmill/edge.check -/
def NZ (x22 : Int) (rec_edge_check_L2 : Int → Option (Int ⊕ Unit)) (x26 : Bool) : Option (Int ⊕ Unit) :=
 bif x26 then
 some (Sum.inl 9)
 else
 rec_edge_check_L2 (w64 (x22 + 1))
def yL (a4 : Rect) : Nat → Int → Option (Int ⊕ Unit)
 | 0, _ => none
 | n + 1, x22 =>
 bif decide (x22 < 4) then
 bif inb x22 4 then
 bif decide ((([a4.X.A, a4.X.B, a4.Y.A, a4.Y.B] : List Int).getD x22.toNat 0) < (-600)) then
 NZ x22 (yL a4 n) true
 else
 NZ x22 (yL a4 n) (decide ((([a4.X.A, a4.X.B, a4.Y.A, a4.Y.B] : List Int).getD x22.toNat 0) > 600))
 else none
 else
 some (Sum.inr ())
def NN (a4 : Rect) (x20 : Bool) : Option Int :=
 bif x20 then
 some 19
 else
 (yL a4 FUEL 0).bind fun u30 => Sum.elim (fun v31 => some v31) (fun o28 =>
 some 0) u30
def HZ (a1 : List Slice) (a2 : List Defect) (a3 : List qC) (a4 : Rect) (a5 : Saw) (a6 : Rates) : Option Int :=
 (KH a1).bind fun v7 =>
 bif v7 != 0 then
 some v7
 else
 (KR a2).bind fun v10 =>
 bif v10 != 0 then
 some v10
 else
 (WZ a3).bind fun v13 =>
 bif v13 != 0 then
 some v13
 else
 (BS a5 a6).bind fun v16 =>
 bif v16 != 0 then
 some v16
 else
 bif decide (a4.X.A ≥ a4.X.B) then
 NN a4 true
 else
 NN a4 (decide (a4.Y.A ≥ a4.Y.B))
/- sawmill/edge.Sizes -/
def FA (x8 : Int) (rec_edge_Sizes_L1 : (List Int) → (List Int) → Int → Option ((List Int) × (List Int))) (l19 : List Int) (l20 : List Int) : Option ((List Int) × (List Int)) :=
 rec_edge_Sizes_L1 l19 l20 (w64 (x8 + 1))
def NX (l7 : List Int) (x8 : Int) (rec_edge_Sizes_L1 : (List Int) → (List Int) → Int → Option ((List Int) × (List Int))) (l17 : List Int) : Option ((List Int) × (List Int)) :=
 bif room (l7.length + 1) 8 then
 FA x8 rec_edge_Sizes_L1 l17 (l7 ++ ([x8] : List Int))
 else none
def jC (a1 : List qC) (a2 : Int) : Nat → (List Int) → (List Int) → Int → Option ((List Int) × (List Int))
 | 0, _, _, _ => none
 | n + 1, l6, l7, x8 =>
 bif decide (x8 < ((a1.length : Nat) : Int)) then
 bif inb x8 a1.length then
 (JC (a1.getD x8.toNat default)).bind fun v11 =>
 bif a2 == v11.1 then
 bif room (l6.length + 1) 8 then
 NX l7 x8 (jC a1 a2 n) (l6 ++ ([v11.2] : List Int))
 else none
 else
 bif a2 == v11.2 then
 bif room (l6.length + 1) 8 then
 NX l7 x8 (jC a1 a2 n) (l6 ++ ([v11.1] : List Int))
 else none
 else
 FA x8 (jC a1 a2 n) l6 l7
 else none
 else
 some (l6, l7)
def PZ (a1 : List qC) (a2 : Int) : Option ((List Int) × (List Int)) :=
 (WZ a1).bind fun v3 =>
 bif v3 != 0 then
 some (([] : List Int), ([] : List Int))
 else
 (jC a1 a2 FUEL ([] : List Int) ([] : List Int) 0).bind fun o23 =>
 some (o23.1, o23.2)
/- sawmill/edge.part -/
def GH (a1 : Rect) (a2 : Int) (a3 : Int) : Option Rect :=
 some (Rect.mk (Span.mk (w64 (a1.X.A + a2)) (w64 (a1.X.A + a3))) a1.Y)
/- sawmill/worth.isRect -/
def yE (x2 : Int) (rec_worth_isRect_L1 : Int → Option (Bool ⊕ Unit)) (x7 : Bool) : Option (Bool ⊕ Unit) :=
 bif x7 then
 some (Sum.inl false)
 else
 rec_worth_isRect_L1 (w64 (x2 + 1))
def wG (a1 : Rect) : Nat → Int → Option (Bool ⊕ Unit)
 | 0, _ => none
 | n + 1, x2 =>
 bif decide (x2 < 2) then
 bif inb x2 2 then
 bif decide ((([a1.X.A, a1.X.B, a1.Y.A, a1.Y.B] : List Int).getD (x2.toNat * 2 + 0) 0) < (-600)) then
 yE x2 (wG a1 n) true
 else
 bif decide ((([a1.X.A, a1.X.B, a1.Y.A, a1.Y.B] : List Int).getD (x2.toNat * 2 + 1) 0) > 600) then
 yE x2 (wG a1 n) true
 else
 yE x2 (wG a1 n) (decide ((([a1.X.A, a1.X.B, a1.Y.A, a1.Y.B] : List Int).getD (x2.toNat * 2 + 0) 0) ≥ (([a1.X.A, a1.X.B, a1.Y.A, a1.Y.B] : List Int).getD (x2.toNat * 2 + 1) 0)))
 else none
 else
 some (Sum.inr ())
def GJ (a1 : Rect) : Option Bool :=
 (wG a1 FUEL 0).bind fun u11 => Sum.elim (fun v12 => some v12) (fun o9 =>
 some true) u11
/- sawmill/solid.valid -/
def TS (a1 : List Slice) : Option (List Slice) :=
 (KH a1).bind fun v2 =>
 bif v2 != 0 then
 some ([] : List Slice)
 else
 some a1
/- sawmill/solid.Length -/
def QJ (v2 : (List Slice)) : Nat → Int → Int → Option Int
 | 0, _, _ => none
 | n + 1, x4, x5 =>
 bif decide (x5 < ((v2.length : Nat) : Int)) then
 bif inb x5 v2.length then
 (QJ v2 n) (w64 (x4 + ((v2.getD x5.toNat default).Len))) (w64 (x5 + 1))
 else none
 else
 some x4
def YG (a1 : List Slice) : Option Int :=
 (TS a1).bind fun v2 =>
 (QJ v2 FUEL 0 0).bind fun o9 =>
 some o9
/- sawmill/section.valid -/
def TB (a1 : qJ) : Option qJ :=
 (YT a1).bind fun v2 =>
 bif v2 != 0 then
 some (qJ.mk 0 ([] : List Span))
 else
 some a1
/- sawmill/section.heights -/
def XM (a1 : Int) (a2 : Int) : Option Span :=
 some (Span.mk (w64 (10 * a1)) (w64 (10 * a2)))
/- sawmill/span.Meet -/
def JN (a1 : Span) (a2 : Span) : Option Span :=
 bif decide ((imax a1.A a2.A) ≥ (imin a1.B a2.B)) then
 some (Span.mk 0 0)
 else
 some (Span.mk (imax a1.A a2.A) (imin a1.B a2.B))
/- sawmill/span.size -/
def qCi (a1 : Span) : Option Int :=
 bif decide (a1.A ≥ a1.B) then
 some 0
 else
 some (IntKind.u64.wrap ((IntKind.u64.wrap (a1.B)) - (IntKind.u64.wrap (a1.A))))
/- sawmill/span.limited -/
def MZ (a1 : Int) : Option Int :=
 some (w64 (imin a1 9223372036854775807))
/- sawmill/span.Len -/
def RQ (a1 : Span) : Option Int :=
 (qCi a1).bind fun v2 =>
 (MZ v2).bind fun v4 =>
 some v4
/- sawmill/section.Within -/
def ZA (a2 : Rect) (v3 : qJ) : Nat → Int → Int → Option Int
 | 0, _, _ => none
 | n + 1, x5, x6 =>
 bif decide (x6 < ((v3.Rows.length : Nat) : Int)) then
 bif inb x6 v3.Rows.length then
 (XM (w64 (v3.Low + x6)) (w64 ((w64 (v3.Low + x6)) + 1))).bind fun v9 =>
 (JN (v3.Rows.getD x6.toNat default) a2.X).bind fun v11 =>
 (RQ v11).bind fun v13 =>
 (JN v9 a2.Y).bind fun v15 =>
 (RQ v15).bind fun v17 =>
 (ZA a2 v3 n) (w64 (x5 + (w64 (v13 * v17)))) (w64 (x6 + 1))
 else none
 else
 some x5
def JO (a1 : qJ) (a2 : Rect) : Option Int :=
 (TB a1).bind fun v3 =>
 (ZA a2 v3 FUEL 0 0).bind fun o20 =>
 some o20
/- sawmill/worth.lacks -/
def JU (a1 : List Slice) (a2 : Rect) : Nat → (List Worth_zone) → Int → Int → Option (List Worth_zone)
 | 0, _, _, _ => none
 | n + 1, l3, x4, x5 =>
 bif decide (x5 < ((a1.length : Nat) : Int)) then
 bif inb x5 a1.length then
 (JO ((a1.getD x5.toNat default).Sec) a2).bind fun v8 =>
 bif nz (w64 ((w64 (a2.X.B - a2.X.A)) * (w64 (a2.Y.B - a2.Y.A)))) then
 bif room (l3.length + 1) 24 then
 (JU a1 a2 n) (l3 ++ ([(Worth_zone.mk (Span.mk x4 (w64 (x4 + ((a1.getD x5.toNat default).Len)))) (w64 (Int.tdiv (w64 ((w64 ((w64 (1000 * (w64 ((w64 ((w64 (a2.X.B - a2.X.A)) * (w64 (a2.Y.B - a2.Y.A)))) - v8)))) + (w64 ((w64 (a2.X.B - a2.X.A)) * (w64 (a2.Y.B - a2.Y.A)))))) - 1)) (w64 ((w64 (a2.X.B - a2.X.A)) * (w64 (a2.Y.B - a2.Y.A)))))))] : List Worth_zone)) (w64 (x4 + ((a1.getD x5.toNat default).Len))) (w64 (x5 + 1))
 else none
 else none
 else none
 else
 some l3
def BT (a1 : List Slice) (a2 : Rect) : Option (List Worth_zone) :=
 (JU a1 a2 FUEL ([] : List Worth_zone) 0 0).bind fun o13 =>
 some o13
/- (sawmill/worth.view).box -/
def JS (a1 : Worth_view) (a2 : Span) : Option Box :=
 some (Box.mk a1.rect.X a1.rect.Y a2)
/- sawmill/defect.meet -/
def PL (v3 : Span) (v5 : Span) (v7 : Span) (x17 : Bool) : Option (Box × Bool) :=
 bif x17 then
 some ((Box.mk (Span.mk 0 0) (Span.mk 0 0) (Span.mk 0 0)), false)
 else
 some ((Box.mk v3 v5 v7), true)
def ET (a1 : Box) (a2 : Box) : Option (Box × Bool) :=
 (JN a1.X a2.X).bind fun v3 =>
 (JN a1.Y a2.Y).bind fun v5 =>
 (JN a1.Z a2.Z).bind fun v7 =>
 (jW v3).bind fun v9 =>
 bif v9 then
 PL v3 v5 v7 true
 else
 (jW v5).bind fun v12 =>
 bif v12 then
 PL v3 v5 v7 true
 else
 (jW v7).bind fun v15 =>
 PL v3 v5 v7 v15
/- sawmill/defect.Touches -/
def JR (a1 : Defect) (a2 : Box) : Option Bool :=
 (ET a1.Box a2).bind fun v3 =>
 some v3.2
/- sawmill/worth.look -/
def NQ (x29 : Int) (rec_worth_look_L3 : Int → (List Defect) → Option (List Defect)) (l37 : List Defect) : Option (List Defect) :=
 rec_worth_look_L3 (w64 (x29 + 1)) l37
def ZE (a2 : List Defect) (v27 : Box) : Nat → Int → (List Defect) → Option (List Defect)
 | 0, _, _ => none
 | n + 1, x29, l30 =>
 bif decide (x29 < ((a2.length : Nat) : Int)) then
 bif inb x29 a2.length then
 (JR (a2.getD x29.toNat default) v27).bind fun v33 =>
 bif v33 then
 bif room (l30.length + 1) 56 then
 NQ x29 (ZE a2 v27 n) (l30 ++ ([(a2.getD x29.toNat default)] : List Defect))
 else none
 else
 NQ x29 (ZE a2 v27 n) l30
 else none
 else
 some l30
def RZ (a1 : List Slice) (a2 : List Defect) (a3 : qC) (a4 : Rect) (x21 : Bool) : Option (Worth_view × Bool) :=
 bif x21 then
 some ((Worth_view.mk (qC.mk (ByteArray.mk #[]) 0 0 0 0 ([] : List Int) ([] : List Int)) (Rect.mk (Span.mk 0 0) (Span.mk 0 0)) 0 ([] : List Worth_zone) ([] : List Defect)), false)
 else
 (YG a1).bind fun v23 =>
 (BT a1 a4).bind fun v25 =>
 (JS (Worth_view.mk a3 a4 v23 v25 ([] : List Defect)) (Span.mk 0 v23)).bind fun v27 =>
 (ZE a2 v27 FUEL 0 ([] : List Defect)).bind fun o39 =>
 some ((Worth_view.mk a3 a4 v23 v25 o39), true)
def YX (a1 : List Slice) (a2 : List Defect) (a3 : qC) (a4 : Rect) (x16 : Bool) : Option (Worth_view × Bool) :=
 bif x16 then
 some ((Worth_view.mk (qC.mk (ByteArray.mk #[]) 0 0 0 0 ([] : List Int) ([] : List Int)) (Rect.mk (Span.mk 0 0) (Span.mk 0 0)) 0 ([] : List Worth_zone) ([] : List Defect)), false)
 else
 (JC a3).bind fun v18 =>
 bif !(((w64 (a4.X.B - a4.X.A)) == v18.1) && (((w64 (a4.Y.B - a4.Y.A)) == v18.2) && true)) then
 RZ a1 a2 a3 a4 (!(((w64 (a4.X.B - a4.X.A)) == v18.2) && (((w64 (a4.Y.B - a4.Y.A)) == v18.1) && true)))
 else
 RZ a1 a2 a3 a4 false
def MU (a1 : List Slice) (a2 : List Defect) (a3 : qC) (a4 : Rect) : Option (Worth_view × Bool) :=
 (KH a1).bind fun v5 =>
 bif v5 != 0 then
 YX a1 a2 a3 a4 true
 else
 (KR a2).bind fun v8 =>
 bif v8 != 0 then
 YX a1 a2 a3 a4 true
 else
 (WZ ([a3] : List qC)).bind fun v11 =>
 bif v11 != 0 then
 YX a1 a2 a3 a4 true
 else
 (GJ a4).bind fun v14 =>
 YX a1 a2 a3 a4 (!v14)
/- sawmill/worth.isWithin -/
def JD (x5 : Bool) : Option Bool :=
 some x5
def DA (a1 : Span) (a2 : Int) : Option Bool :=
 bif decide (a1.A ≥ 0) then
 bif decide (a1.A < a1.B) then
 JD (decide (a1.B ≤ a2))
 else
 JD false
 else
 JD false
/- sawmill/product.Price -/
def yO (a1 : qC) (a2 : Int) : Nat → Int → Option ((Int × Bool) ⊕ Unit)
 | 0, _ => none
 | n + 1, x3 =>
 bif decide (x3 < ((a1.Lengths.length : Nat) : Int)) then
 bif inb x3 a1.Lengths.length then
 bif (a1.Lengths.getD x3.toNat default) != a2 then
 (yO a1 a2 n) (w64 (x3 + 1))
 else
 bif decide (x3 ≥ ((a1.Prices.length : Nat) : Int)) then
 some (Sum.inl (0, false))
 else
 bif inb x3 a1.Prices.length then
 some (Sum.inl ((a1.Prices.getD x3.toNat default), true))
 else none
 else none
 else
 some (Sum.inr ())
def TC (a1 : qC) (a2 : Int) : Option (Int × Bool) :=
 (yO a1 a2 FUEL 0).bind fun u11 => Sum.elim (fun v12 => some v12) (fun o9 =>
 some (0, false)) u11
/- sawmill/worth.worst -/
def DM (x4 : Int) (rec_worth_worst_L1 : Int → Int → Option Int) (x10 : Int) : Option Int :=
 rec_worth_worst_L1 x10 (w64 (x4 + 1))
def DK (a1 : List Worth_zone) (x3 : Int) (x4 : Int) (rec_worth_worst_L1 : Int → Int → Option Int) (x8 : Bool) : Option Int :=
 bif x8 then
 DM x4 rec_worth_worst_L1 (imax x3 ((a1.getD x4.toNat default).lack))
 else
 DM x4 rec_worth_worst_L1 x3
def jY (a1 : List Worth_zone) (a2 : Span) : Nat → Int → Int → Option Int
 | 0, _, _ => none
 | n + 1, x3, x4 =>
 bif decide (x4 < ((a1.length : Nat) : Int)) then
 bif inb x4 a1.length then
 bif decide ((((a1.getD x4.toNat default).z).A) < a2.B) then
 DK a1 x3 x4 (jY a1 a2 n) (decide (a2.A < (((a1.getD x4.toNat default).z).B)))
 else
 DK a1 x3 x4 (jY a1 a2 n) false
 else none
 else
 some x3
def NH (a1 : List Worth_zone) (a2 : Span) : Option Int :=
 (jY a1 a2 FUEL 0 0).bind fun o12 =>
 some o12
/- (sawmill/worth.view).worth -/
def YK (x17 : Int) (rec_worth_view_worth_L2 : Int → Int → Option ((Int × Bool) ⊕ Int)) (x24 : Int) : Option ((Int × Bool) ⊕ Int) :=
 rec_worth_view_worth_L2 x24 (w64 (x17 + 1))
def zP (a1 : Worth_view) (a3 : Int) (v14 : Box) : Nat → Int → Int → Option ((Int × Bool) ⊕ Int)
 | 0, _, _ => none
 | n + 1, x16, x17 =>
 bif decide (x17 < ((a1.defects.length : Nat) : Int)) then
 bif inb x17 a1.defects.length then
 (JR (a1.defects.getD x17.toNat default) v14).bind fun v20 =>
 bif !v20 then
 YK x17 (zP a1 a3 v14 n) x16
 else
 bif ((a1.defects.getD x17.toNat default).Kind) == 3 then
 some (Sum.inl (0, false))
 else
 YK x17 (zP a1 a3 v14 n) (w64 (x16 - a3))
 else none
 else
 some (Sum.inr x16)
def YL (a1 : Worth_view) (a2 : Span) (a3 : Int) (v7 : Int × Bool) (x12 : Bool) : Option (Int × Bool) :=
 bif x12 then
 some (0, false)
 else
 (JS a1 a2).bind fun v14 =>
 (zP a1 a3 v14 FUEL v7.1 0).bind fun u28 => Sum.elim (fun v29 => some v29) (fun o26 =>
 some (imax o26 0, true)) u28
def ZJ (a1 : Worth_view) (a2 : Span) (a3 : Int) : Option (Int × Bool) :=
 (DA a2 a1.length).bind fun v4 =>
 bif !v4 then
 some (0, false)
 else
 (TC a1.product (w64 (a2.B - a2.A))).bind fun v7 =>
 bif !v7.2 then
 YL a1 a2 a3 v7 true
 else
 (NH a1.zones a2).bind fun v10 =>
 YL a1 a2 a3 v7 (decide (v10 > a1.product.Wane))
/- sawmill/worth.Best -/
def NL (x24 : Int) (rec_worth_Best_L3 : Int → Bool → Int → Span → Option (Int × Bool × Span)) (x34 : Int) (x35 : Bool) (x36 : Span) : Option (Int × Bool × Span) :=
 rec_worth_Best_L3 x34 x35 (w64 (x24 + 1)) x36
def TF (a3 : qC) (x19 : Int) (x22 : Int) (x23 : Bool) (x24 : Int) (x25 : Span) (rec_worth_Best_L3 : Int → Bool → Int → Span → Option (Int × Bool × Span)) (v28 : Int × Bool) (x32 : Bool) : Option (Int × Bool × Span) :=
 bif x32 then
 NL x24 rec_worth_Best_L3 v28.1 true (Span.mk x19 (w64 (x19 + (a3.Lengths.getD x24.toNat default))))
 else
 NL x24 rec_worth_Best_L3 x22 x23 x25
def jD (a3 : qC) (a6 : Int) (v14 : Worth_view × Bool) (x19 : Int) : Nat → Int → Bool → Int → Span → Option (Int × Bool × Span)
 | 0, _, _, _, _ => none
 | n + 1, x22, x23, x24, x25 =>
 bif decide (x24 < ((a3.Lengths.length : Nat) : Int)) then
 bif inb x24 a3.Lengths.length then
 (ZJ (Worth_view.mk v14.1.product v14.1.rect v14.1.length v14.1.zones v14.1.defects) (Span.mk x19 (w64 (x19 + (a3.Lengths.getD x24.toNat default)))) a6).bind fun v28 =>
 bif v28.2 then
 bif !x23 then
 TF a3 x19 x22 x23 x24 x25 (jD a3 a6 v14 x19 n) v28 true
 else
 TF a3 x19 x22 x23 x24 x25 (jD a3 a6 v14 x19 n) v28 (decide (v28.1 > x22))
 else
 TF a3 x19 x22 x23 x24 x25 (jD a3 a6 v14 x19 n) v28 false
 else none
 else
 some (x22, x23, x25)
def JA (a3 : qC) (a5 : Int) (a6 : Int) (v14 : Worth_view × Bool) : Nat → Int → Bool → Int → Span → Option (Int × Bool × Span)
 | 0, _, _, _, _ => none
 | n + 1, x17, x18, x19, x20 =>
 bif decide (x19 < v14.1.length) then
 (jD a3 a6 v14 x19 FUEL x17 x18 0 x20).bind fun o40 =>
 (JA a3 a5 a6 v14 n) o40.1 o40.2.1 (w64 (x19 + a5)) o40.2.2
 else
 some (x17, x18, x20)
def NM (a1 : List Slice) (a2 : List Defect) (a3 : qC) (a4 : Rect) (a5 : Int) (a6 : Int) (x12 : Bool) : Option (Span × Int × Bool) :=
 bif x12 then
 some ((Span.mk 0 0), 0, false)
 else
 (MU a1 a2 a3 a4).bind fun v14 =>
 bif !v14.2 then
 some ((Span.mk 0 0), 0, false)
 else
 (JA a3 a5 a6 v14 FUEL 0 false 0 (Span.mk 0 0)).bind fun o45 =>
 some (o45.2.2, o45.1, o45.2.1)
def HJ (a1 : List Slice) (a2 : List Defect) (a3 : qC) (a4 : Rect) (a5 : Int) (a6 : Int) : Option (Span × Int × Bool) :=
 (KW a5).bind fun v7 =>
 bif !v7 then
 NM a1 a2 a3 a4 a5 a6 true
 else
 (PE a6).bind fun v10 =>
 NM a1 a2 a3 a4 a5 a6 (!v10)
/- sawmill/solid.extents -/
def ZR (a1 : List Slice) : Nat → (List Span) → Int → Int → Option (List Span)
 | 0, _, _, _ => none
 | n + 1, l3, x4, x5 =>
 bif decide (x5 < ((a1.length : Nat) : Int)) then
 bif inb x5 a1.length then
 bif inb x5 l3.length then
 (ZR a1 n) (l3.set x5.toNat (Span.mk x4 (w64 (x4 + ((a1.getD x5.toNat default).Len))))) (w64 (x4 + ((a1.getD x5.toNat default).Len))) (w64 (x5 + 1))
 else none
 else none
 else
 some l3
def TJ (a1 : List Slice) : Option (List Span) :=
 bif mkOk ((a1.length : Nat) : Int) 16 then
 (ZR a1 FUEL (List.replicate (((a1.length : Nat) : Int).toNat) (Span.mk 0 0)) 0 0).bind fun o10 =>
 some o10
 else none
/- sawmill/solid.Within -/
def TY (x8 : Int) (rec_solid_Within_L1 : Int → Int → Option Int) (x19 : Int) : Option Int :=
 rec_solid_Within_L1 x19 (w64 (x8 + 1))
def yG (a2 : Box) (v3 : (List Slice)) (v5 : (List Span)) : Nat → Int → Int → Option Int
 | 0, _, _ => none
 | n + 1, x7, x8 =>
 bif decide (x8 < ((v5.length : Nat) : Int)) then
 bif inb x8 v5.length then
 (JN (v5.getD x8.toNat default) a2.Z).bind fun v11 =>
 (RQ v11).bind fun v13 =>
 bif decide (v13 > 0) then
 bif inb x8 v3.length then
 (JO ((v3.getD x8.toNat default).Sec) (Rect.mk a2.X a2.Y)).bind fun v17 =>
 TY x8 (yG a2 v3 v5 n) (w64 (x7 + (w64 (v13 * v17))))
 else none
 else
 TY x8 (yG a2 v3 v5 n) x7
 else none
 else
 some x7
def UY (a1 : List Slice) (a2 : Box) : Option Int :=
 (TS a1).bind fun v3 =>
 (TJ v3).bind fun v5 =>
 (yG a2 v3 v5 FUEL 0 0).bind fun o21 =>
 some o21
/- sawmill/edge.volume -/
def ZX (a1 : List Slice) (a2 : Rect) (a3 : Span) : Option Int :=
 (UY a1 (Box.mk a2.X a2.Y a3)).bind fun v4 =>
 some v4
/- sawmill/edge.gain -/
def AX (a1 : List Slice) (a2 : List Defect) (a3 : qC) (a4 : Rect) (a5 : Saw) (a6 : Rates) : Option Int :=
 (HJ a1 a2 a3 a4 a5.Step a6.Fine).bind fun v7 =>
 bif !v7.2.2 then
 some (-1)
 else
 (YG a1).bind fun v10 =>
 (ZX a1 a4 (Span.mk 0 v10)).bind fun v12 =>
 (ZX a1 a4 v7.1).bind fun v14 =>
 (ZX a1 a4 (Span.mk (imax 0 (w64 (v7.1.A - a5.Trim))) v7.1.A)).bind fun v16 =>
 (ZX a1 a4 (Span.mk v7.1.B (imin (w64 (v7.1.B + a5.Trim)) v10))).bind fun v18 =>
 some (w64 ((w64 ((w64 (1000000 * v7.2.1)) + (w64 (a6.Dust * (w64 (v16 + v18)))))) + (w64 (a6.Chip * (w64 ((w64 (v12 - v14)) - (w64 (v16 + v18))))))))
/- sawmill/edge.Line -/
def MK (l16 : List Int) (x17 : Int) (rec_edge_Line_L2 : (List Int) → Int → Option (List Int)) (x27 : Int) : Option (List Int) :=
 bif room (l16.length + 1) 8 then
 rec_edge_Line_L2 (l16 ++ ([x27] : List Int)) (w64 (x17 + 1))
 else none
def QU (a1 : List Slice) (a2 : List Defect) (a3 : List qC) (a4 : Rect) (a5 : Saw) (a6 : Rates) (v10 : (List Int) × (List Int)) (x12 : Int) : Nat → (List Int) → Int → Option (List Int)
 | 0, _, _ => none
 | n + 1, l16, x17 =>
 bif decide ((w64 (x17 + (v10.1.getD x12.toNat default))) ≤ (w64 (a4.X.B - a4.X.A))) then
 bif nz a5.Pitch then
 bif (Int.tmod x17 a5.Pitch) == 0 then
 bif inb x12 v10.2.length then
 bif inb (v10.2.getD x12.toNat default) a3.length then
 (GH a4 x17 (w64 (x17 + (v10.1.getD x12.toNat default)))).bind fun v23 =>
 (AX a1 a2 (a3.getD (v10.2.getD x12.toNat default).toNat default) v23 a5 a6).bind fun v25 =>
 MK l16 x17 (QU a1 a2 a3 a4 a5 a6 v10 x12 n) v25
 else none
 else none
 else
 MK l16 x17 (QU a1 a2 a3 a4 a5 a6 v10 x12 n) (-1)
 else none
 else
 some l16
def YI (a1 : List Slice) (a2 : List Defect) (a3 : List qC) (a4 : Rect) (a5 : Saw) (a6 : Rates) (v10 : (List Int) × (List Int)) : Nat → Int → (List (List Int)) → Option (List (List Int))
 | 0, _, _ => none
 | n + 1, x12, l13 =>
 bif decide (x12 < ((v10.1.length : Nat) : Int)) then
 bif inb x12 v10.1.length then
 (QU a1 a2 a3 a4 a5 a6 v10 x12 FUEL ([] : List Int) 0).bind fun o30 =>
 bif room (l13.length + 1) 24 then
 (YI a1 a2 a3 a4 a5 a6 v10 n) (w64 (x12 + 1)) (l13 ++ ([o30] : List (List Int)))
 else none
 else none
 else
 some l13
def YE (a1 : List Slice) (a4 : Rect) (a6 : Rates) (v36 : Int) : Nat → Int → (List Int) → (List Int) → Option ((List Int) × (List Int))
 | 0, _, _, _ => none
 | n + 1, x38, l39, l40 =>
 bif decide (x38 < (w64 (a4.X.B - a4.X.A))) then
 (GH a4 x38 (w64 (x38 + 1))).bind fun v42 =>
 (ZX a1 v42 (Span.mk 0 v36)).bind fun v44 =>
 bif room (l39.length + 1) 8 then
 bif room (l40.length + 1) 8 then
 (YE a1 a4 a6 v36 n) (w64 (x38 + 1)) (l39 ++ ([w64 (a6.Chip * v44)] : List Int)) (l40 ++ ([w64 (a6.Dust * v44)] : List Int))
 else none
 else none
 else
 some (l39, l40)
def LH (a1 : List Slice) (a2 : List Defect) (a3 : List qC) (a4 : Rect) (a5 : Saw) (a6 : Rates) : Option (Line × Int) :=
 (HZ a1 a2 a3 a4 a5 a6).bind fun v7 =>
 bif v7 != 0 then
 some ((Line.mk 0 0 0 ([] : List Int) ([] : List (List Int)) ([] : List Int) ([] : List Int)), v7)
 else
 (PZ a3 (w64 (a4.Y.B - a4.Y.A))).bind fun v10 =>
 (YI a1 a2 a3 a4 a5 a6 v10 FUEL 0 ([] : List (List Int))).bind fun o34 =>
 (YG a1).bind fun v36 =>
 (YE a1 a4 a6 v36 FUEL 0 ([] : List Int) ([] : List Int)).bind fun o50 =>
 some ((Line.mk (w64 (a4.X.B - a4.X.A)) a5.Kerf 1 v10.1 o34 o50.1 o50.2), 0)
/- sawmill/sawmilllaw23.line -/
def qDB (a1 : qP) : Option (Line × Int) :=
 (LH a1.Solid a1.Defects a1.Products a1.Strip a1.Saw a1.Rates).bind fun v2 =>
 some ((Line.mk v2.1.Len v2.1.Kerf v2.1.Pitch v2.1.Sizes v2.1.Gain v2.1.Chip v2.1.Dust), v2.2)
/- sawmill/cutting.measures -/
def YM (x10 : Int) (rec_cutting_measures_L2 : Int → Option (Int ⊕ Unit)) (x14 : Bool) : Option (Int ⊕ Unit) :=
 bif x14 then
 some (Sum.inl 9)
 else
 rec_cutting_measures_L2 (w64 (x10 + 1))
def wN (a1 : Line) : Nat → Int → Option (Int ⊕ Unit)
 | 0, _ => none
 | n + 1, x10 =>
 bif decide (x10 < ((a1.Sizes.length : Nat) : Int)) then
 bif inb x10 a1.Sizes.length then
 bif decide ((a1.Sizes.getD x10.toNat default) < 1) then
 YM x10 (wN a1 n) true
 else
 YM x10 (wN a1 n) (decide ((a1.Sizes.getD x10.toNat default) > 2000))
 else none
 else
 some (Sum.inr ())
def wM (a1 : Line) (x7 : Bool) : Option Int :=
 bif x7 then
 some 9
 else
 bif decide (((a1.Sizes.length : Nat) : Int) > 32) then
 some 4
 else
 (wN a1 FUEL 0).bind fun u18 => Sum.elim (fun v19 => some v19) (fun o16 =>
 some 0) u18
def YC (a1 : Line) : Option Int :=
 bif decide (a1.Len < 0) then
 wM a1 true
 else
 bif decide (a1.Len > 2000) then
 wM a1 true
 else
 bif decide (a1.Kerf < 0) then
 wM a1 true
 else
 bif decide (a1.Kerf > 20) then
 wM a1 true
 else
 bif decide (a1.Pitch < 1) then
 wM a1 true
 else
 wM a1 (decide (a1.Pitch > 2000))
/- sawmill/cutting.places -/
def DF (a1 : Line) (a2 : Int) : Option Int :=
 some (imax 0 (w64 ((w64 (a1.Len - a2)) + 1)))
/- sawmill/cutting.small -/
def RI (x5 : Int) (rec_cutting_small_L2 : Int → Option (Bool ⊕ Unit)) (x9 : Bool) : Option (Bool ⊕ Unit) :=
 bif x9 then
 some (Sum.inl false)
 else
 rec_cutting_small_L2 (w64 (x5 + 1))
def jN (a1 : List (List Int)) (x2 : Int) : Nat → Int → Option (Bool ⊕ Unit)
 | 0, _ => none
 | n + 1, x5 =>
 bif decide (x5 < (((a1.getD x2.toNat default).length : Nat) : Int)) then
 bif inb x5 ((a1.getD x2.toNat default).length) then
 bif decide (((a1.getD x2.toNat default).getD x5.toNat default) < (-1125899906842624)) then
 RI x5 (jN a1 x2 n) true
 else
 RI x5 (jN a1 x2 n) (decide (((a1.getD x2.toNat default).getD x5.toNat default) > 1125899906842624))
 else none
 else
 some (Sum.inr ())
def ZM (a1 : List (List Int)) : Nat → Int → Option (Bool ⊕ Unit)
 | 0, _ => none
 | n + 1, x2 =>
 bif decide (x2 < ((a1.length : Nat) : Int)) then
 bif inb x2 a1.length then
 (jN a1 x2 FUEL 0).bind fun u13 => Sum.elim (fun v14 => some (Sum.inl v14)) (fun o11 =>
 (ZM a1 n) (w64 (x2 + 1))) u13
 else none
 else
 some (Sum.inr ())
def YR (a1 : List (List Int)) : Option Bool :=
 (ZM a1 FUEL 0).bind fun u17 => Sum.elim (fun v18 => some v18) (fun o15 =>
 some true) u17
/- sawmill/cutting.Check -/
def ZL (a1 : Line) : Nat → Int → Option (Int ⊕ Unit)
 | 0, _ => none
 | n + 1, x9 =>
 bif decide (x9 < ((a1.Gain.length : Nat) : Int)) then
 bif inb x9 a1.Gain.length then
 bif inb x9 a1.Sizes.length then
 (DF a1 (a1.Sizes.getD x9.toNat default)).bind fun v13 =>
 bif (((a1.Gain.getD x9.toNat default).length : Nat) : Int) != v13 then
 some (Sum.inl 19)
 else
 (ZL a1 n) (w64 (x9 + 1))
 else none
 else none
 else
 some (Sum.inr ())
def RS (x25 : Bool) : Option Int :=
 bif x25 then
 some 9
 else
 some 0
def YD (a1 : Line) (x7 : Bool) : Option Int :=
 bif x7 then
 some 19
 else
 (ZL a1 FUEL 0).bind fun u18 => Sum.elim (fun v19 => some v19) (fun o16 =>
 (YR a1.Gain).bind fun v20 =>
 bif !v20 then
 RS true
 else
 (YR ([a1.Chip, a1.Dust] : List (List Int))).bind fun v23 =>
 RS (!v23)) u18
def RY (a1 : Line) : Option Int :=
 (YC a1).bind fun v2 =>
 bif v2 != 0 then
 some v2
 else
 bif ((a1.Gain.length : Nat) : Int) != ((a1.Sizes.length : Nat) : Int) then
 YD a1 true
 else
 bif ((a1.Chip.length : Nat) : Int) != a1.Len then
 YD a1 true
 else
 YD a1 (((a1.Dust.length : Nat) : Int) != a1.Len)
/- sawmill/cutting.sums -/
def WT (a1 : List Int) : Nat → (List Int) → Int → Option (List Int)
 | 0, _, _ => none
 | n + 1, l3, x4 =>
 bif decide (x4 < ((a1.length : Nat) : Int)) then
 bif inb x4 a1.length then
 bif inb x4 l3.length then
 bif inb (w64 (x4 + 1)) l3.length then
 (WT a1 n) (l3.set ((w64 (x4 + 1)).toNat) (w64 ((l3.getD x4.toNat default) + (a1.getD x4.toNat default)))) (w64 (x4 + 1))
 else none
 else none
 else none
 else
 some l3
def PA (a1 : List Int) : Option (List Int) :=
 bif mkOk (w64 (((a1.length : Nat) : Int) + 1)) 8 then
 (WT a1 FUEL (List.replicate ((w64 (((a1.length : Nat) : Int) + 1)).toNat) 0) 0).bind fun o10 =>
 some o10
 else none
/- sawmill/cutting.behind -/
def JY (a1 : Line) (a2 : Int) : Option Int :=
 bif a2 == a1.Len then
 some (-1)
 else
 some (imin (w64 (a2 + a1.Kerf)) a1.Len)
/- sawmill/cutting.start -/
def YF (x5 : Int) (rec_cutting_start_L1 : Int → Cutting_choice → Option Cutting_choice) (x26 : Cutting_choice) : Option Cutting_choice :=
 rec_cutting_start_L1 (w64 (x5 + 1)) x26
def PX (x5 : Int) (x6 : Cutting_choice) (rec_cutting_start_L1 : Int → Cutting_choice → Option Cutting_choice) (x22 : Cutting_choice) (x24 : Bool) : Option Cutting_choice :=
 bif x24 then
 YF x5 rec_cutting_start_L1 x22
 else
 YF x5 rec_cutting_start_L1 x6
def RH (x5 : Int) (x6 : Cutting_choice) (rec_cutting_start_L1 : Int → Cutting_choice → Option Cutting_choice) (x22 : Cutting_choice) : Option Cutting_choice :=
 bif ((x6.piece.Size == (-1)) && ((x6.piece.At == (-1)) && true)) then
 PX x5 x6 rec_cutting_start_L1 x22 true
 else
 PX x5 x6 rec_cutting_start_L1 x22 (decide (x22.value > x6.value))
def RL (a1 : Line) (a2 : Int) (a3 : List Int) (a4 : List Cutting_choice) (x5 : Int) (x6 : Cutting_choice) (rec_cutting_start_L1 : Int → Cutting_choice → Option Cutting_choice) (x12 : Bool) : Option Cutting_choice :=
 bif x12 then
 YF x5 rec_cutting_start_L1 x6
 else
 bif inb x5 a1.Gain.length then
 bif inb a2 ((a1.Gain.getD x5.toNat default).length) then
 (JY a1 (w64 (a2 + (a1.Sizes.getD x5.toNat default)))).bind fun v16 =>
 bif decide (v16 ≥ 0) then
 bif inb v16 a3.length then
 bif inb (w64 (a2 + (a1.Sizes.getD x5.toNat default))) a3.length then
 bif inb v16 a4.length then
 RH x5 x6 rec_cutting_start_L1 (Cutting_choice.mk (Piece.mk x5 a2) (w64 (((a1.Gain.getD x5.toNat default).getD a2.toNat default) + (w64 ((w64 ((a3.getD v16.toNat default) - (a3.getD (w64 (a2 + (a1.Sizes.getD x5.toNat default))).toNat default))) + ((a4.getD v16.toNat default).value))))))
 else none
 else none
 else none
 else
 RH x5 x6 rec_cutting_start_L1 (Cutting_choice.mk (Piece.mk x5 a2) ((a1.Gain.getD x5.toNat default).getD a2.toNat default))
 else none
 else none
def wH (a1 : Line) (a2 : Int) (a3 : List Int) (a4 : List Cutting_choice) : Nat → Int → Cutting_choice → Option Cutting_choice
 | 0, _, _ => none
 | n + 1, x5, x6 =>
 bif decide (x5 < ((a1.Sizes.length : Nat) : Int)) then
 bif inb x5 a1.Sizes.length then
 bif decide ((w64 (a2 + (a1.Sizes.getD x5.toNat default))) > a1.Len) then
 RL a1 a2 a3 a4 x5 x6 (wH a1 a2 a3 a4 n) true
 else
 bif inb x5 a1.Gain.length then
 bif inb a2 ((a1.Gain.getD x5.toNat default).length) then
 RL a1 a2 a3 a4 x5 x6 (wH a1 a2 a3 a4 n) (decide (((a1.Gain.getD x5.toNat default).getD a2.toNat default) < 0))
 else none
 else none
 else none
 else
 some x6
def TA (a1 : Line) (a2 : Int) (a3 : List Int) (a4 : List Cutting_choice) : Option Cutting_choice :=
 (wH a1 a2 a3 a4 FUEL 0 (Cutting_choice.mk (Piece.mk (-1) (-1)) 0)).bind fun o28 =>
 some o28
/- sawmill/cutting.choices -/
def XQ (a1 : Line) (x20 : Int) (rec_cutting_choices_L4 : Int → Cutting_choice → Option Cutting_choice) (x31 : Cutting_choice) : Option Cutting_choice :=
 rec_cutting_choices_L4 (w64 (x20 + a1.Pitch)) x31
def XT (a1 : Line) (v2 : (List Int)) (v4 : (List Int)) (l8 : List Cutting_choice) (x9 : Int) (v11 : Cutting_choice) (x20 : Int) (x21 : Cutting_choice) (rec_cutting_choices_L4 : Int → Cutting_choice → Option Cutting_choice) (x29 : Bool) : Option Cutting_choice :=
 bif x29 then
 XQ a1 x20 rec_cutting_choices_L4 (Cutting_choice.mk (((l8.set x9.toNat v11).getD x20.toNat default).piece) (w64 ((((l8.set x9.toNat v11).getD x20.toNat default).value) + (w64 ((w64 ((w64 ((v2.getD ((w64 (x20 - a1.Kerf)).toNat) default) - (v2.getD x9.toNat default))) + (v4.getD x20.toNat default))) - (v4.getD ((w64 (x20 - a1.Kerf)).toNat) default))))))
 else
 XQ a1 x20 rec_cutting_choices_L4 x21
def wD (a1 : Line) (v2 : (List Int)) (v4 : (List Int)) (l8 : List Cutting_choice) (x9 : Int) (v11 : Cutting_choice) : Nat → Int → Cutting_choice → Option Cutting_choice
 | 0, _, _ => none
 | n + 1, x20, x21 =>
 bif decide (x20 ≤ a1.Len) then
 bif inb x20 l8.length then
 bif inb (w64 (x20 - a1.Kerf)) v2.length then
 bif inb x9 v2.length then
 bif inb x20 v4.length then
 bif inb (w64 (x20 - a1.Kerf)) v4.length then
 bif !((((((l8.set x9.toNat v11).getD x20.toNat default).piece).Size) == (-1)) && ((((((l8.set x9.toNat v11).getD x20.toNat default).piece).At) == (-1)) && true)) then
 XT a1 v2 v4 l8 x9 v11 x20 x21 (wD a1 v2 v4 l8 x9 v11 n) (decide ((w64 ((((l8.set x9.toNat v11).getD x20.toNat default).value) + (w64 ((w64 ((w64 ((v2.getD ((w64 (x20 - a1.Kerf)).toNat) default) - (v2.getD x9.toNat default))) + (v4.getD x20.toNat default))) - (v4.getD ((w64 (x20 - a1.Kerf)).toNat) default))))) > x21.value))
 else
 XT a1 v2 v4 l8 x9 v11 x20 x21 (wD a1 v2 v4 l8 x9 v11 n) false
 else none
 else none
 else none
 else none
 else none
 else
 some x21
def XO (a1 : Line) (v2 : (List Int)) (v4 : (List Int)) (l7 : List Cutting_choice) (l8 : List Cutting_choice) (x9 : Int) (rec_cutting_choices_L1 : (List Cutting_choice) → (List Cutting_choice) → Int → Option (List Cutting_choice)) (v11 : Cutting_choice) (x19 : Cutting_choice) : Option (List Cutting_choice) :=
 (wD a1 v2 v4 l8 x9 v11 FUEL (w64 ((w64 (x9 + a1.Pitch)) + a1.Kerf)) x19).bind fun o33 =>
 bif inb x9 l7.length then
 rec_cutting_choices_L1 (l7.set x9.toNat o33) (l8.set x9.toNat v11) (w64 (x9 - 1))
 else none
def XV (a1 : Line) (v2 : (List Int)) (v4 : (List Int)) (l7 : List Cutting_choice) (l8 : List Cutting_choice) (x9 : Int) (rec_cutting_choices_L1 : (List Cutting_choice) → (List Cutting_choice) → Int → Option (List Cutting_choice)) (v11 : Cutting_choice) (x17 : Bool) : Option (List Cutting_choice) :=
 bif x17 then
 XO a1 v2 v4 l7 l8 x9 rec_cutting_choices_L1 v11 ((l8.set x9.toNat v11).getD x9.toNat default)
 else
 XO a1 v2 v4 l7 l8 x9 rec_cutting_choices_L1 v11 (Cutting_choice.mk (Piece.mk (-1) (-1)) (w64 ((v2.getD a1.Len.toNat default) - (v2.getD x9.toNat default))))
def wK (a1 : Line) (v2 : (List Int)) (v4 : (List Int)) : Nat → (List Cutting_choice) → (List Cutting_choice) → Int → Option (List Cutting_choice)
 | 0, _, _, _ => none
 | n + 1, l7, l8, x9 =>
 bif decide (x9 ≥ 0) then
 (TA a1 x9 v4 l7).bind fun v11 =>
 bif inb x9 l8.length then
 bif inb a1.Len v2.length then
 bif inb x9 v2.length then
 bif !((((((l8.set x9.toNat v11).getD x9.toNat default).piece).Size) == (-1)) && ((((((l8.set x9.toNat v11).getD x9.toNat default).piece).At) == (-1)) && true)) then
 XV a1 v2 v4 l7 l8 x9 (wK a1 v2 v4 n) v11 (decide ((((l8.set x9.toNat v11).getD x9.toNat default).value) > (w64 ((v2.getD a1.Len.toNat default) - (v2.getD x9.toNat default)))))
 else
 XV a1 v2 v4 l7 l8 x9 (wK a1 v2 v4 n) v11 false
 else none
 else none
 else none
 else
 some l7
def XC (a1 : Line) : Option (List Cutting_choice) :=
 (PA a1.Chip).bind fun v2 =>
 (PA a1.Dust).bind fun v4 =>
 bif mkOk (w64 (a1.Len + 1)) 24 then
 (wK a1 v2 v4 FUEL (List.replicate ((w64 (a1.Len + 1)).toNat) (Cutting_choice.mk (Piece.mk 0 0) 0)) (List.replicate ((w64 (a1.Len + 1)).toNat) (Cutting_choice.mk (Piece.mk 0 0) 0)) a1.Len).bind fun o37 =>
 some o37
 else none
/- sawmill/cutting.Best -/
def WP (a1 : Line) (v5 : (List Cutting_choice)) : Nat → (List Piece) → Int → Option (List Piece)
 | 0, _, _ => none
 | n + 1, l7, x8 =>
 bif decide (x8 ≥ 0) then
 bif inb x8 v5.length then
 bif (((((v5.getD x8.toNat default).piece).Size) == (-1)) && (((((v5.getD x8.toNat default).piece).At) == (-1)) && true)) then
 some l7
 else
 bif room (l7.length + 1) 16 then
 bif inb (((v5.getD x8.toNat default).piece).Size) a1.Sizes.length then
 (JY a1 (w64 ((((v5.getD x8.toNat default).piece).At) + (a1.Sizes.getD (((v5.getD x8.toNat default).piece).Size).toNat default)))).bind fun v14 =>
 (WP a1 v5 n) (l7 ++ ([(v5.getD x8.toNat default).piece] : List Piece)) v14
 else none
 else none
 else none
 else
 some l7
def VN (a1 : Line) : Option ((List Piece) × Int × Int) :=
 (RY a1).bind fun v2 =>
 bif v2 != 0 then
 some (([] : List Piece), 0, v2)
 else
 (XC a1).bind fun v5 =>
 (WP a1 v5 FUEL ([] : List Piece) 0).bind fun o17 =>
 bif inb 0 v5.length then
 some (o17, (v5.getD ((0 : Int).toNat) default).value, 0)
 else none
/- slices.Clone[[]sawmill/api.Node,sawmill/api.Node] -/
def WA (a1 : List Node) : Option (List Node) :=
 bif room a1.length 16 then some a1 else none
/- sawmill/edge.collect -/
def UP (a1 : List (List Node)) (a2 : List Node) : Option ((List (List Node)) × (List (List Node))) :=
 (WA a2).bind fun v3 =>
 bif room (a1.length + 1) 24 then
 some ((a1 ++ ([v3] : List (List Node))), (a1 ++ ([v3] : List (List Node))))
 else none
/- sawmill/pattern.isRip -/
def FK (x3 : Bool) : Option Bool :=
 some x3
def NO (a1 : Int) : Option Bool :=
 bif a1 == 2 then
 FK true
 else
 FK (a1 == 3)
/- sawmill/pattern.isFrame -/
def WB (x2 : Int) (rec_pattern_isFrame_L1 : Int → Option (Bool ⊕ Unit)) (x7 : Bool) : Option (Bool ⊕ Unit) :=
 bif x7 then
 some (Sum.inl false)
 else
 rec_pattern_isFrame_L1 (w64 (x2 + 1))
def wJ (a1 : Rect) : Nat → Int → Option (Bool ⊕ Unit)
 | 0, _ => none
 | n + 1, x2 =>
 bif decide (x2 < 2) then
 bif inb x2 2 then
 bif decide ((([a1.X.A, a1.X.B, a1.Y.A, a1.Y.B] : List Int).getD (x2.toNat * 2 + 0) 0) < (-600)) then
 WB x2 (wJ a1 n) true
 else
 bif decide ((([a1.X.A, a1.X.B, a1.Y.A, a1.Y.B] : List Int).getD (x2.toNat * 2 + 1) 0) > 600) then
 WB x2 (wJ a1 n) true
 else
 WB x2 (wJ a1 n) (decide ((([a1.X.A, a1.X.B, a1.Y.A, a1.Y.B] : List Int).getD (x2.toNat * 2 + 0) 0) ≥ (([a1.X.A, a1.X.B, a1.Y.A, a1.Y.B] : List Int).getD (x2.toNat * 2 + 1) 0)))
 else none
 else
 some (Sum.inr ())
def XD (a1 : Rect) : Option Bool :=
 (wJ a1 FUEL 0).bind fun u11 => Sum.elim (fun v12 => some v12) (fun o9 =>
 some true) u11
/- sawmill/pattern.along -/
def NV (a1 : Rect) (a2 : Int) : Option Span :=
 bif a2 == 2 then
 some a1.X
 else
 some a1.Y
/- sawmill/pattern.Row$1 -/
def jM (a1 : List Node) (a2 : Int) (a3 : List Node) : Option (Int × (List Node)) :=
 bif decide ((w64 (a2 + ((a1.length : Nat) : Int))) ≤ 127) then
 bif room (a3.length + a1.length) 16 then
 some (w64 (a2 + ((a1.length : Nat) : Int)), (a3 ++ a1))
 else none
 else
 some (w64 (a2 + ((a1.length : Nat) : Int)), a3)
/- sawmill/pattern.Row -/
def DO (a5 : List (List Node)) (x21 : Int) (rec_pattern_Row_L3 : Int → Bool → Int → (List Node) → Int → Option (((List Node) × Int) ⊕ (Bool × (List Node) × Int))) (x40 : Int) (x41 : Bool) (l42 : List Node) (x43 : Int) : Option (((List Node) × Int) ⊕ (Bool × (List Node) × Int)) :=
 bif inb x21 a5.length then
 (jM (a5.getD x21.toNat default) x43 l42).bind fun v45 =>
 rec_pattern_Row_L3 x40 x41 (w64 (x21 + 1)) v45.2 v45.1
 else none
def KP (a2 : Int) (a3 : Int) (a4 : List Span) (a5 : List (List Node)) (v17 : Span) (x19 : Int) (x20 : Bool) (x21 : Int) (rec_pattern_Row_L3 : Int → Bool → Int → (List Node) → Int → Option (((List Node) × Int) ⊕ (Bool × (List Node) × Int))) (l35 : List Node) (x36 : Int) : Option (((List Node) × Int) ⊕ (Bool × (List Node) × Int)) :=
 bif decide (((a4.getD x21.toNat default).B) < v17.B) then
 (jM ([(Node.mk a2 ((a4.getD x21.toNat default).B))] : List Node) x36 l35).bind fun v38 =>
 DO a5 x21 rec_pattern_Row_L3 (imin (w64 (((a4.getD x21.toNat default).B) + a3)) v17.B) x20 v38.2 v38.1
 else
 DO a5 x21 rec_pattern_Row_L3 x19 true l35 x36
def KS (a2 : Int) (a3 : Int) (a4 : List Span) (a5 : List (List Node)) (v17 : Span) (x19 : Int) (x20 : Bool) (x21 : Int) (l22 : List Node) (x23 : Int) (rec_pattern_Row_L3 : Int → Bool → Int → (List Node) → Int → Option (((List Node) × Int) ⊕ (Bool × (List Node) × Int))) (x29 : Bool) : Option (((List Node) × Int) ⊕ (Bool × (List Node) × Int)) :=
 bif x29 then
 some (Sum.inl (([] : List Node), 11))
 else
 bif decide (((a4.getD x21.toNat default).B) > v17.B) then
 some (Sum.inl (([] : List Node), 20))
 else
 bif decide (((a4.getD x21.toNat default).A) > x19) then
 (jM ([(Node.mk a2 (w64 (((a4.getD x21.toNat default).A) - a3))), (Node.mk 0 0)] : List Node) x23 l22).bind fun v33 =>
 KP a2 a3 a4 a5 v17 x19 x20 x21 rec_pattern_Row_L3 v33.2 v33.1
 else
 KP a2 a3 a4 a5 v17 x19 x20 x21 rec_pattern_Row_L3 l22 x23
def wE (a2 : Int) (a3 : Int) (a4 : List Span) (a5 : List (List Node)) (v17 : Span) : Nat → Int → Bool → Int → (List Node) → Int → Option (((List Node) × Int) ⊕ (Bool × (List Node) × Int))
 | 0, _, _, _, _, _ => none
 | n + 1, x19, x20, x21, l22, x23 =>
 bif decide (x21 < ((a4.length : Nat) : Int)) then
 bif inb x21 a4.length then
 bif decide (((a4.getD x21.toNat default).A) ≥ ((a4.getD x21.toNat default).B)) then
 some (Sum.inl (([] : List Node), 19))
 else
 bif x20 then
 KS a2 a3 a4 a5 v17 x19 x20 x21 l22 x23 (wE a2 a3 a4 a5 v17 n) true
 else
 bif ((a4.getD x21.toNat default).A) != x19 then
 KS a2 a3 a4 a5 v17 x19 x20 x21 l22 x23 (wE a2 a3 a4 a5 v17 n) (decide (((a4.getD x21.toNat default).A) < (w64 ((w64 (x19 + a3)) + 1))))
 else
 KS a2 a3 a4 a5 v17 x19 x20 x21 l22 x23 (wE a2 a3 a4 a5 v17 n) false
 else none
 else
 some (Sum.inr (x20, l22, x23))
def PH (x57 : Int) (l58 : List Node) : Option ((List Node) × Int) :=
 bif decide (x57 > 127) then
 some (([] : List Node), 4)
 else
 some (l58, 0)
def GU (a1 : Rect) (a2 : Int) (a3 : Int) (a4 : List Span) (a5 : List (List Node)) (x15 : Bool) : Option ((List Node) × Int) :=
 bif x15 then
 some (([] : List Node), 9)
 else
 (NV a1 a2).bind fun v17 =>
 (wE a2 a3 a4 a5 v17 FUEL v17.A false 0 ([] : List Node) 0).bind fun u52 => Sum.elim (fun v53 => some v53) (fun o50 =>
 bif !o50.1 then
 (jM ([(Node.mk 0 0)] : List Node) o50.2.2 o50.2.1).bind fun v55 =>
 PH v55.1 v55.2
 else
 PH o50.2.2 o50.2.1) u52
def GP (a1 : Rect) (a2 : Int) (a3 : Int) (a4 : List Span) (a5 : List (List Node)) (x12 : Bool) : Option ((List Node) × Int) :=
 bif x12 then
 some (([] : List Node), 19)
 else
 bif decide (a3 < 0) then
 GU a1 a2 a3 a4 a5 true
 else
 GU a1 a2 a3 a4 a5 (decide (a3 > 20))
def BZ (a1 : Rect) (a2 : Int) (a3 : Int) (a4 : List Span) (a5 : List (List Node)) : Option ((List Node) × Int) :=
 (NO a2).bind fun v6 =>
 bif !v6 then
 some (([] : List Node), 10)
 else
 (XD a1).bind fun v9 =>
 bif !v9 then
 GP a1 a2 a3 a4 a5 true
 else
 GP a1 a2 a3 a4 a5 (((a4.length : Nat) : Int) != ((a5.length : Nat) : Int))
/- sawmill/edge.Best -/
def KY (a4 : Rect) (v10 : (List Piece) × Int × Int) (v13 : (List Int) × (List Int)) : Nat → (List Span) → (List (List Node)) → Int → Option ((List Span) × (List (List Node)))
 | 0, _, _, _ => none
 | n + 1, l15, l16, x17 =>
 bif decide (x17 < ((v10.1.length : Nat) : Int)) then
 bif inb x17 v10.1.length then
 bif inb ((v10.1.getD x17.toNat default).Size) v13.1.length then
 (GH a4 ((v10.1.getD x17.toNat default).At) (w64 (((v10.1.getD x17.toNat default).At) + (v13.1.getD (((v10.1.getD x17.toNat default).Size).toNat) default)))).bind fun v21 =>
 bif room (l15.length + 1) 16 then
 bif inb ((v10.1.getD x17.toNat default).Size) v13.2.length then
 (UP l16 ([(Node.mk 1 (v13.2.getD (((v10.1.getD x17.toNat default).Size).toNat) default))] : List Node)).bind fun v25 =>
 (KY a4 v10 v13 n) (l15 ++ ([v21.X] : List Span)) v25.2 (w64 (x17 + 1))
 else none
 else none
 else none
 else none
 else
 some (l15, l16)
def AY (a1 : List Slice) (a2 : List Defect) (a3 : List qC) (a4 : Rect) (a5 : Saw) (a6 : Rates) : Option ((List Node) × Int × Int) :=
 (LH a1 a2 a3 a4 a5 a6).bind fun v7 =>
 bif v7.2 != 0 then
 some (([] : List Node), 0, v7.2)
 else
 (VN (Line.mk v7.1.Len v7.1.Kerf v7.1.Pitch v7.1.Sizes v7.1.Gain v7.1.Chip v7.1.Dust)).bind fun v10 =>
 bif v10.2.2 != 0 then
 some (([] : List Node), 0, v10.2.2)
 else
 (PZ a3 (w64 (a4.Y.B - a4.Y.A))).bind fun v13 =>
 (KY a4 v10 v13 FUEL ([] : List Span) ([] : List (List Node)) 0).bind fun o29 =>
 (BZ a4 2 a5.Kerf o29.1 o29.2).bind fun v31 =>
 bif v31.2 != 0 then
 some (([] : List Node), 0, v31.2)
 else
 some (v31.1, v10.2.1, 0)
/- sawmill/sawmilllaw23.best -/
def PY (a1 : qP) : Option ((List Node) × Int × Int) :=
 (AY a1.Solid a1.Defects a1.Products a1.Strip a1.Saw a1.Rates).bind fun v2 =>
 some (v2.1, v2.2.1, v2.2.2)
/- sawmill/sawmilllaw23.awake -/
def wQ (x38 : Bool) : Option Bool :=
 some x38
def jX (v3 : Line × Int) (v5 : (List Node) × Int × Int) (v7 : (List Node) × Int × Int) (v9 : (List Int) × (List Int)) (x19 : Bool) : Option Bool :=
 bif x19 then
 some false
 else
 bif v3.1.Len == 110 then
 bif inb 0 v3.1.Gain.length then
 bif inb 5 ((v3.1.Gain.getD ((0 : Int).toNat) default).length) then
 bif ((v3.1.Gain.getD ((0 : Int).toNat) default).getD (5 : Int).toNat default) == 70000000 then
 bif inb 4 ((v3.1.Gain.getD ((0 : Int).toNat) default).length) then
 bif ((v3.1.Gain.getD ((0 : Int).toNat) default).getD (4 : Int).toNat default) == (-1) then
 bif v5.2.1 == 70000000 then
 bif v7.2.1 == 74513950 then
 bif inb 0 v5.1.length then
 bif ((((v5.1.getD ((0 : Int).toNat) default).Kind) == 2) && ((((v5.1.getD ((0 : Int).toNat) default).At) == 5) && true)) then
 bif inb 1 v5.1.length then
 bif ((v5.1.getD ((1 : Int).toNat) default).Kind) == 1 then
 bif inb 2 v5.1.length then
 bif ((v5.1.getD ((2 : Int).toNat) default).Kind) == 0 then
 bif inb 0 v9.1.length then
 bif (v9.1.getD ((0 : Int).toNat) default) == 105 then
 bif inb 0 v9.2.length then
 wQ ((v9.2.getD ((0 : Int).toNat) default) == 0)
 else none
 else
 wQ false
 else none
 else
 wQ false
 else none
 else
 wQ false
 else none
 else
 wQ false
 else none
 else
 wQ false
 else
 wQ false
 else
 wQ false
 else none
 else
 wQ false
 else none
 else none
 else
 wQ false
def NK : Option Bool :=
 (qAn).bind fun v1 =>
 (qDB v1).bind fun v3 =>
 (PY v1).bind fun v5 =>
 (PY (qP.mk v1.Solid v1.Defects v1.Products v1.Strip v1.Saw (Rates.mk 1 v1.Rates.Dust v1.Rates.Fine))).bind fun v7 =>
 (PZ v1.Products 42).bind fun v9 =>
 bif v3.2 != 0 then
 jX v3 v5 v7 v9 true
 else
 bif v5.2.2 != 0 then
 jX v3 v5 v7 v9 true
 else
 bif v7.2.2 != 0 then
 jX v3 v5 v7 v9 true
 else
 bif ((v5.1.length : Nat) : Int) != 3 then
 jX v3 v5 v7 v9 true
 else
 bif ((v9.1.length : Nat) : Int) != 1 then
 jX v3 v5 v7 v9 true
 else
 bif ((v9.2.length : Nat) : Int) != 1 then
 jX v3 v5 v7 v9 true
 else
 bif ((v3.1.Gain.length : Nat) : Int) != 1 then
 jX v3 v5 v7 v9 true
 else
 bif inb 0 v3.1.Gain.length then
 jX v3 v5 v7 v9 ((((v3.1.Gain.getD ((0 : Int).toNat) default).length : Nat) : Int) != 6)
 else none
/- sawmill/sawmillref13.Empty -/
def PN (x4 : Bool) : Option Bool :=
 some x4
def TT (a1 : Box) : Option Bool :=
 bif decide (a1.X.A ≥ a1.X.B) then
 PN true
 else
 bif decide (a1.Y.A ≥ a1.Y.B) then
 PN true
 else
 PN (decide (a1.Z.A ≥ a1.Z.B))
/- sawmill/sawmillref13.in -/
def EP (x5 : Bool) : Option Bool :=
 some x5
def FF (a1 : Span) (a2 : Int) (a3 : Int) : Option Bool :=
 bif decide (a2 ≤ a1.A) then
 EP (decide (a1.B ≤ a3))
 else
 EP false
/- sawmill/sawmillref13.Ranged -/
def XU (x10 : Bool) : Option Bool :=
 some x10
def VQ (a1 : Box) : Option Bool :=
 (FF a1.X (-600) 600).bind fun v2 =>
 bif v2 then
 (FF a1.Y (-600) 600).bind fun v5 =>
 bif v5 then
 (FF a1.Z 0 20000).bind fun v8 =>
 XU v8
 else
 XU false
 else
 XU false
/- sawmill/sawmillref13.Check -/
def DR (a1 : List Defect) (x3 : Int) (rec_ref13_Check_L1 : Int → Option (Int ⊕ Unit)) (x7 : Bool) : Option (Int ⊕ Unit) :=
 bif x7 then
 some (Sum.inl 10)
 else
 bif inb x3 a1.length then
 (TT ((a1.getD x3.toNat default).Box)).bind fun v10 =>
 bif v10 then
 some (Sum.inl 19)
 else
 (VQ ((a1.getD x3.toNat default).Box)).bind fun v13 =>
 bif !v13 then
 some (Sum.inl 9)
 else
 rec_ref13_Check_L1 (w64 (x3 + 1))
 else none
def jT (a1 : List Defect) : Nat → Int → Option (Int ⊕ Unit)
 | 0, _ => none
 | n + 1, x3 =>
 bif decide (x3 < ((a1.length : Nat) : Int)) then
 bif inb x3 a1.length then
 bif decide (((a1.getD x3.toNat default).Kind) < 1) then
 DR a1 x3 (jT a1 n) true
 else
 DR a1 x3 (jT a1 n) (decide (((a1.getD x3.toNat default).Kind) > 6))
 else none
 else
 some (Sum.inr ())
def TW (a1 : List Defect) : Option Int :=
 bif decide (((a1.length : Nat) : Int) > 64) then
 some 4
 else
 (jT a1 FUEL 0).bind fun u18 => Sum.elim (fun v19 => some v19) (fun o16 =>
 some 0) u18
/- sawmill/sawmillref02.digit -/
def DT (x3 : Bool) : Option Bool :=
 some x3
def NC (a1 : Int) : Option Bool :=
 bif decide (a1 ≥ 48) then
 DT (decide (a1 ≤ 57))
 else
 DT false
/- sawmill/sawmillref02.IsName -/
def WM (x5 : Int) (rec_ref02_IsName_L2 : Int → Option (Bool ⊕ Unit)) (x16 : Bool) : Option (Bool ⊕ Unit) :=
 bif x16 then
 some (Sum.inl false)
 else
 rec_ref02_IsName_L2 (w64 (x5 + 1))
def UF (a1 : ByteArray) (x5 : Int) (rec_ref02_IsName_L2 : Int → Option (Bool ⊕ Unit)) (x9 : Bool) : Option (Bool ⊕ Unit) :=
 bif !x9 then
 bif x5 == 0 then
 WM x5 rec_ref02_IsName_L2 true
 else
 bif inb x5 a1.size then
 bif (strAt a1 x5.toNat) != 95 then
 (NC (strAt a1 x5.toNat)).bind fun v14 =>
 WM x5 rec_ref02_IsName_L2 (!v14)
 else
 WM x5 rec_ref02_IsName_L2 false
 else none
 else
 WM x5 rec_ref02_IsName_L2 false
def wS (a1 : ByteArray) : Nat → Int → Option (Bool ⊕ Unit)
 | 0, _ => none
 | n + 1, x5 =>
 bif decide (x5 < ((a1.size : Nat) : Int)) then
 bif inb x5 a1.size then
 bif decide ((strAt a1 x5.toNat) ≥ 97) then
 UF a1 x5 (wS a1 n) (decide ((strAt a1 x5.toNat) ≤ 122))
 else
 UF a1 x5 (wS a1 n) false
 else none
 else
 some (Sum.inr ())
def UO (a1 : ByteArray) (x3 : Bool) : Option Bool :=
 bif x3 then
 some false
 else
 (wS a1 FUEL 0).bind fun u20 => Sum.elim (fun v21 => some v21) (fun o18 =>
 some true) u20
def GB (a1 : ByteArray) : Option Bool :=
 bif decide (((a1.size : Nat) : Int) < 1) then
 UO a1 true
 else
 UO a1 (decide (((a1.size : Nat) : Int) > 16))
/- sawmill/sawmillref19.sized -/
def JV (x5 : Bool) : Option Bool :=
 some x5
def EV (a1 : qC) : Option Bool :=
 bif decide (a1.Thick ≥ 1) then
 bif decide (a1.Thick ≤ 600) then
 bif decide (a1.Width ≥ 1) then
 JV (decide (a1.Width ≤ 600))
 else
 JV false
 else
 JV false
 else
 JV false
/- sawmill/sawmillref19.Green -/
def PJ (a1 : qC) (x6 : Bool) : Option (Int × Int) :=
 bif x6 then
 some (0, 0)
 else
 some (w64 (Int.tdiv (w64 ((w64 (a1.Thick * (w64 (1000 + a1.Allow)))) + 999)) 1000), w64 (Int.tdiv (w64 ((w64 (a1.Width * (w64 (1000 + a1.Allow)))) + 999)) 1000))
def KJ (a1 : qC) : Option (Int × Int) :=
 (EV a1).bind fun v2 =>
 bif !v2 then
 PJ a1 true
 else
 bif decide (a1.Allow < 0) then
 PJ a1 true
 else
 PJ a1 (decide (a1.Allow > 200))
/- sawmill/sawmillref19.checkLengths -/
def WS (x5 : Int) (rec_ref19_checkLengths_L1 : Int → Option (Int ⊕ Unit)) (x14 : Bool) : Option (Int ⊕ Unit) :=
 bif x14 then
 some (Sum.inl 11)
 else
 rec_ref19_checkLengths_L1 (w64 (x5 + 1))
def WH (a1 : qC) (x5 : Int) (rec_ref19_checkLengths_L1 : Int → Option (Int ⊕ Unit)) (x9 : Bool) : Option (Int ⊕ Unit) :=
 bif x9 then
 some (Sum.inl 9)
 else
 bif decide (x5 > 0) then
 bif inb x5 a1.Lengths.length then
 bif inb (w64 (x5 - 1)) a1.Lengths.length then
 WS x5 rec_ref19_checkLengths_L1 (decide ((a1.Lengths.getD x5.toNat default) ≤ (a1.Lengths.getD (w64 (x5 - 1)).toNat default)))
 else none
 else none
 else
 WS x5 rec_ref19_checkLengths_L1 false
def zR (a1 : qC) : Nat → Int → Option (Int ⊕ Unit)
 | 0, _ => none
 | n + 1, x5 =>
 bif decide (x5 < ((a1.Lengths.length : Nat) : Int)) then
 bif inb x5 a1.Lengths.length then
 bif decide ((a1.Lengths.getD x5.toNat default) < 100) then
 WH a1 x5 (zR a1 n) true
 else
 WH a1 x5 (zR a1 n) (decide ((a1.Lengths.getD x5.toNat default) > 20000))
 else none
 else
 some (Sum.inr ())
def WI (x20 : Int) (rec_ref19_checkLengths_L4 : Int → Option (Int ⊕ Unit)) (x24 : Bool) : Option (Int ⊕ Unit) :=
 bif x24 then
 some (Sum.inl 9)
 else
 rec_ref19_checkLengths_L4 (w64 (x20 + 1))
def wA (a1 : qC) : Nat → Int → Option (Int ⊕ Unit)
 | 0, _ => none
 | n + 1, x20 =>
 bif decide (x20 < ((a1.Prices.length : Nat) : Int)) then
 bif inb x20 a1.Prices.length then
 bif decide ((a1.Prices.getD x20.toNat default) < 0) then
 WI x20 (wA a1 n) true
 else
 WI x20 (wA a1 n) (decide ((a1.Prices.getD x20.toNat default) > 1000000))
 else none
 else
 some (Sum.inr ())
def WF (a1 : qC) : Option Int :=
 bif ((a1.Lengths.length : Nat) : Int) == 0 then
 some 3
 else
 bif decide (((a1.Lengths.length : Nat) : Int) > 8) then
 some 4
 else
 bif ((a1.Prices.length : Nat) : Int) != ((a1.Lengths.length : Nat) : Int) then
 some 19
 else
 (zR a1 FUEL 0).bind fun u18 => Sum.elim (fun v19 => some v19) (fun o16 =>
 (wA a1 FUEL 0).bind fun u28 => Sum.elim (fun v29 => some v29) (fun o26 =>
 some 0) u28) u18
/- sawmill/sawmillref19.Check -/
def ZO (a1 : List qC) (x3 : Int) : Nat → Int → Option (Int ⊕ Unit)
 | 0, _ => none
 | n + 1, x9 =>
 bif decide (x9 < x3) then
 bif inb x9 a1.length then
 bif strEq ((a1.getD x9.toNat default).Name) ((a1.getD x3.toNat default).Name) then
 some (Sum.inl 7)
 else
 (ZO a1 x3 n) (w64 (x9 + 1))
 else none
 else
 some (Sum.inr ())
def jG (a1 : List qC) (x3 : Int) (rec_ref19_Check_L1 : Int → Option (Int ⊕ Unit)) (x24 : Bool) : Option (Int ⊕ Unit) :=
 bif x24 then
 some (Sum.inl 9)
 else
 (KJ (a1.getD x3.toNat default)).bind fun v26 =>
 bif decide (v26.2 > 600) then
 some (Sum.inl 9)
 else
 (WF (a1.getD x3.toNat default)).bind fun v29 =>
 bif v29 != 0 then
 some (Sum.inl v29)
 else
 rec_ref19_Check_L1 (w64 (x3 + 1))
def zV (a1 : List qC) : Nat → Int → Option (Int ⊕ Unit)
 | 0, _ => none
 | n + 1, x3 =>
 bif decide (x3 < ((a1.length : Nat) : Int)) then
 bif inb x3 a1.length then
 (GB ((a1.getD x3.toNat default).Name)).bind fun v6 =>
 bif !v6 then
 some (Sum.inl 6)
 else
 (ZO a1 x3 FUEL 0).bind fun u15 => Sum.elim (fun v16 => some (Sum.inl v16)) (fun o13 =>
 bif decide (((a1.getD x3.toNat default).Thick) < 5) then
 jG a1 x3 (zV a1 n) true
 else
 bif decide (((a1.getD x3.toNat default).Thick) > 300) then
 jG a1 x3 (zV a1 n) true
 else
 bif decide (((a1.getD x3.toNat default).Width) < ((a1.getD x3.toNat default).Thick)) then
 jG a1 x3 (zV a1 n) true
 else
 bif decide (((a1.getD x3.toNat default).Width) > 600) then
 jG a1 x3 (zV a1 n) true
 else
 bif decide (((a1.getD x3.toNat default).Allow) < 0) then
 jG a1 x3 (zV a1 n) true
 else
 bif decide (((a1.getD x3.toNat default).Allow) > 200) then
 jG a1 x3 (zV a1 n) true
 else
 bif decide (((a1.getD x3.toNat default).Wane) < 0) then
 jG a1 x3 (zV a1 n) true
 else
 jG a1 x3 (zV a1 n) (decide (((a1.getD x3.toNat default).Wane) > 1000))) u15
 else none
 else
 some (Sum.inr ())
def KG (a1 : List qC) : Option Int :=
 bif decide (((a1.length : Nat) : Int) > 16) then
 some 4
 else
 (zV a1 FUEL 0).bind fun u34 => Sum.elim (fun v35 => some v35) (fun o32 =>
 some 0) u34
/- sawmill/sawmillref20.from -/
def NW (x5 : Bool) : Option Bool :=
 some x5
def jR (a1 : Int) (a2 : Int) (a3 : Int) : Option Bool :=
 bif decide (a1 ≥ a2) then
 NW (decide (a1 ≤ a3))
 else
 NW false
/- sawmill/sawmillref20.Check -/
def PK (x24 : Bool) : Option Int :=
 bif x24 then
 some 9
 else
 some 0
def JZ (a2 : Rates) (x14 : Bool) : Option Int :=
 bif x14 then
 some 9
 else
 (jR a2.Chip 0 1000).bind fun v16 =>
 bif !v16 then
 PK true
 else
 (jR a2.Dust 0 1000).bind fun v19 =>
 bif !v19 then
 PK true
 else
 (jR a2.Fine 0 1000000).bind fun v22 =>
 PK (!v22)
def NG (a1 : Saw) (a2 : Rates) : Option Int :=
 (jR a1.Kerf 0 20).bind fun v3 =>
 bif !v3 then
 JZ a2 true
 else
 (jR a1.Trim 0 20).bind fun v6 =>
 bif !v6 then
 JZ a2 true
 else
 (jR a1.Pitch 1 2000).bind fun v9 =>
 bif !v9 then
 JZ a2 true
 else
 (jR a1.Step 1 20000).bind fun v12 =>
 JZ a2 (!v12)
/- sawmill/sawmillref23.beyond -/
def WN (x5 : Bool) : Option Bool :=
 some x5
def PP (a1 : Span) : Option Bool :=
 bif decide (a1.A < (-600)) then
 WN true
 else
 bif decide (a1.A > 600) then
 WN true
 else
 bif decide (a1.B < (-600)) then
 WN true
 else
 WN (decide (a1.B > 600))
/- sawmill/sawmillref23.check -/
def DE (x27 : Bool) : Option Int :=
 bif x27 then
 some 9
 else
 some 0
def GR (a4 : Rect) (x20 : Bool) : Option Int :=
 bif x20 then
 some 19
 else
 (PP a4.X).bind fun v22 =>
 bif v22 then
 DE true
 else
 (PP a4.Y).bind fun v25 =>
 DE v25
def ND (a1 : List Slice) (a2 : List Defect) (a3 : List qC) (a4 : Rect) (a5 : Saw) (a6 : Rates) : Option Int :=
 (ZW a1).bind fun v7 =>
 bif v7 != 0 then
 some v7
 else
 (TW a2).bind fun v10 =>
 bif v10 != 0 then
 some v10
 else
 (KG a3).bind fun v13 =>
 bif v13 != 0 then
 some v13
 else
 (NG a5 a6).bind fun v16 =>
 bif v16 != 0 then
 some v16
 else
 bif decide (a4.X.A ≥ a4.X.B) then
 GR a4 true
 else
 GR a4 (decide (a4.Y.A ≥ a4.Y.B))
/- sawmill/sawmillref23.Sizes -/
def PG (x8 : Int) (rec_ref23_Sizes_L1 : (List Int) → (List Int) → Int → Option ((List Int) × (List Int))) (l19 : List Int) (l20 : List Int) : Option ((List Int) × (List Int)) :=
 rec_ref23_Sizes_L1 l19 l20 (w64 (x8 + 1))
def jE (a1 : List qC) (a2 : Int) : Nat → (List Int) → (List Int) → Int → Option ((List Int) × (List Int))
 | 0, _, _, _ => none
 | n + 1, l6, l7, x8 =>
 bif decide (x8 < ((a1.length : Nat) : Int)) then
 bif inb x8 a1.length then
 (KJ (a1.getD x8.toNat default)).bind fun v11 =>
 bif v11.1 == a2 then
 bif room (l6.length + 1) 8 then
 bif room (l7.length + 1) 8 then
 PG x8 (jE a1 a2 n) (l6 ++ ([v11.2] : List Int)) (l7 ++ ([x8] : List Int))
 else none
 else none
 else
 bif v11.2 == a2 then
 bif room (l6.length + 1) 8 then
 bif room (l7.length + 1) 8 then
 PG x8 (jE a1 a2 n) (l6 ++ ([v11.1] : List Int)) (l7 ++ ([x8] : List Int))
 else none
 else none
 else
 PG x8 (jE a1 a2 n) l6 l7
 else none
 else
 some (l6, l7)
def TU (a1 : List qC) (a2 : Int) : Option ((List Int) × (List Int)) :=
 (KG a1).bind fun v3 =>
 bif v3 != 0 then
 some (([] : List Int), ([] : List Int))
 else
 (jE a1 a2 FUEL ([] : List Int) ([] : List Int) 0).bind fun o23 =>
 some (o23.1, o23.2)
/- sawmill/sawmillref23.Part -/
def RG (a1 : Rect) (a2 : Int) (a3 : Int) : Option Rect :=
 some (Rect.mk (Span.mk (w64 (a1.X.A + a2)) (w64 (a1.X.A + a3))) a1.Y)
/- sawmill/sawmillref20.valid -/
def KN (x12 : Bool) : Option Bool :=
 some x12
def EN (a1 : List Slice) (a2 : List Defect) (a3 : qC) : Option Bool :=
 (ZW a1).bind fun v4 =>
 bif v4 == 0 then
 (TW a2).bind fun v7 =>
 bif v7 == 0 then
 (KG ([a3] : List qC)).bind fun v10 =>
 KN (v10 == 0)
 else
 KN false
 else
 KN false
/- sawmill/sawmillref20.across -/
def XG (x4 : Bool) : Option Bool :=
 some x4
def KQ (a1 : Span) : Option Bool :=
 bif decide (a1.A ≥ (-600)) then
 bif decide (a1.A < a1.B) then
 XG (decide (a1.B ≤ 600))
 else
 XG false
 else
 XG false
/- sawmill/sawmillref20.within -/
def QG (x13 : Bool) : Option Bool :=
 some x13
def UZ (a1 : List Slice) (a2 : Box) : Option Bool :=
 (KQ a2.X).bind fun v3 =>
 bif v3 then
 (KQ a2.Y).bind fun v6 =>
 bif v6 then
 bif decide (a2.Z.A ≥ 0) then
 bif decide (a2.Z.A < a2.Z.B) then
 (QN a1).bind fun v11 =>
 QG (decide (a2.Z.B ≤ v11))
 else
 QG false
 else
 QG false
 else
 QG false
 else
 QG false
/- sawmill/sawmillref19.Price -/
def ZQ (a1 : qC) (a2 : Int) : Nat → Int → Option ((Int × Bool) ⊕ Unit)
 | 0, _ => none
 | n + 1, x3 =>
 bif decide (x3 < ((a1.Lengths.length : Nat) : Int)) then
 bif inb x3 a1.Lengths.length then
 bif (a1.Lengths.getD x3.toNat default) == a2 then
 bif decide (x3 ≥ ((a1.Prices.length : Nat) : Int)) then
 some (Sum.inl (0, false))
 else
 bif inb x3 a1.Prices.length then
 some (Sum.inl ((a1.Prices.getD x3.toNat default), true))
 else none
 else
 (ZQ a1 a2 n) (w64 (x3 + 1))
 else none
 else
 some (Sum.inr ())
def TR (a1 : qC) (a2 : Int) : Option (Int × Bool) :=
 (ZQ a1 a2 FUEL 0).bind fun u11 => Sum.elim (fun v12 => some v12) (fun o9 =>
 some (0, false)) u11
/- sawmill/sawmillref03.Meet -/
def RE (a1 : Span) (a2 : Span) : Option Span :=
 bif decide ((imax a1.A a2.A) ≥ (imin a1.B a2.B)) then
 some (Span.mk 0 0)
 else
 some (Span.mk (imax a1.A a2.A) (imin a1.B a2.B))
/- sawmill/sawmillref13.Meet -/
def qAa (a1 : Box) (a2 : Box) : Option Box :=
 (RE a1.X a2.X).bind fun v3 =>
 (RE a1.Y a2.Y).bind fun v5 =>
 (RE a1.Z a2.Z).bind fun v7 =>
 some (Box.mk v3 v5 v7)
/- sawmill/sawmillref13.Touches -/
def YV (a1 : Defect) (a2 : Box) : Option Bool :=
 (qAa a1.Box a2).bind fun v3 =>
 (TT v3).bind fun v5 =>
 some (!v5)
/- sawmill/sawmillref11.part -/
def GS (a1 : Span) (a2 : Int) (a3 : Int) : Option Int :=
 bif decide ((imax a1.A a2) ≥ (imin a1.B (w64 (a2 + a3)))) then
 some 0
 else
 some (w64 ((imin a1.B (w64 (a2 + a3))) - (imax a1.A a2)))
/- sawmill/sawmillref11.Cut -/
def HW (a1 : List Slice) (x7 : Int) (x8 : Int) (rec_ref11_Cut_L1 : (List Slice) → Int → Int → Option (List Slice)) (l15 : List Slice) : Option (List Slice) :=
 rec_ref11_Cut_L1 l15 (w64 (x7 + ((a1.getD x8.toNat default).Len))) (w64 (x8 + 1))
def WG (a1 : List Slice) (a2 : Span) : Nat → (List Slice) → Int → Int → Option (List Slice)
 | 0, _, _, _ => none
 | n + 1, l6, x7, x8 =>
 bif decide (x8 < ((a1.length : Nat) : Int)) then
 bif inb x8 a1.length then
 (GS (Span.mk (imax a2.A 0) (imin a2.B 20000)) x7 ((a1.getD x8.toNat default).Len)).bind fun v11 =>
 bif decide (v11 > 0) then
 bif room (l6.length + 1) 40 then
 HW a1 x7 x8 (WG a1 a2 n) (l6 ++ ([(Slice.mk v11 ((a1.getD x8.toNat default).Sec))] : List Slice))
 else none
 else
 HW a1 x7 x8 (WG a1 a2 n) l6
 else none
 else
 some l6
def AF (a1 : List Slice) (a2 : Span) : Option (List Slice) :=
 (ZW a1).bind fun v3 =>
 bif v3 != 0 then
 some ([] : List Slice)
 else
 (WG a1 a2 FUEL ([] : List Slice) 0 0).bind fun o17 =>
 some o17
/- sawmill/sawmillref10.Valid -/
def NA (a1 : qJ) : Option qJ :=
 (TP a1).bind fun v2 =>
 bif v2 != 0 then
 some (qJ.mk 0 ([] : List Span))
 else
 some a1
/- sawmill/sawmillref10.common -/
def UN (a1 : Span) (a2 : Span) (x6 : Bool) : Option Int :=
 bif x6 then
 some 0
 else
 some (w64 ((imin a1.B a2.B) - (imax a1.A a2.A)))
def PQ (a1 : Span) (a2 : Span) : Option Int :=
 (JJ a2).bind fun v3 =>
 bif v3 then
 UN a1 a2 true
 else
 UN a1 a2 (decide ((imax a1.A a2.A) ≥ (imin a1.B a2.B)))
/- sawmill/sawmillref10.Heights -/
def RW (a1 : Int) : Option Span :=
 some (Span.mk (w64 (10 * a1)) (w64 (10 * (w64 (a1 + 1)))))
/- sawmill/sawmillref10.Within -/
def WJ (a2 : Rect) (v3 : qJ) : Nat → Int → Int → Option Int
 | 0, _, _ => none
 | n + 1, x5, x6 =>
 bif decide (x6 < ((v3.Rows.length : Nat) : Int)) then
 bif inb x6 v3.Rows.length then
 (PQ (v3.Rows.getD x6.toNat default) a2.X).bind fun v9 =>
 (RW (w64 (v3.Low + x6))).bind fun v11 =>
 (PQ v11 a2.Y).bind fun v13 =>
 (WJ a2 v3 n) (w64 (x5 + (w64 (v9 * v13)))) (w64 (x6 + 1))
 else none
 else
 some x5
def PB (a1 : qJ) (a2 : Rect) : Option Int :=
 (NA a1).bind fun v3 =>
 (WJ a2 v3 FUEL 0 0).bind fun o16 =>
 some o16
/- sawmill/sawmillref20.wane -/
def YY (a2 : Box) (v3 : (List Slice)) : Nat → Int → Int → Option Int
 | 0, _, _ => none
 | n + 1, x5, x6 =>
 bif decide (x6 < ((v3.length : Nat) : Int)) then
 bif inb x6 v3.length then
 (PB ((v3.getD x6.toNat default).Sec) (Rect.mk a2.X a2.Y)).bind fun v9 =>
 bif nz (w64 ((w64 (a2.X.B - a2.X.A)) * (w64 (a2.Y.B - a2.Y.A)))) then
 (YY a2 v3 n) (imax x5 (w64 (Int.tdiv (w64 ((w64 ((w64 (1000 * (w64 ((w64 ((w64 (a2.X.B - a2.X.A)) * (w64 (a2.Y.B - a2.Y.A)))) - v9)))) + (w64 ((w64 (a2.X.B - a2.X.A)) * (w64 (a2.Y.B - a2.Y.A)))))) - 1)) (w64 ((w64 (a2.X.B - a2.X.A)) * (w64 (a2.Y.B - a2.Y.A))))))) (w64 (x6 + 1))
 else none
 else none
 else
 some x5
def HA (a1 : List Slice) (a2 : Box) : Option Int :=
 (AF a1 a2.Z).bind fun v3 =>
 (YY a2 v3 FUEL 0 0).bind fun o13 =>
 some o13
/- sawmill/sawmillref20.accept -/
def UE (x19 : Int) (rec_ref20_accept_L2 : Int → Option (Bool ⊕ Unit)) (x25 : Bool) : Option (Bool ⊕ Unit) :=
 bif x25 then
 some (Sum.inl false)
 else
 rec_ref20_accept_L2 (w64 (x19 + 1))
def jI (a2 : List Defect) (a4 : Box) : Nat → Int → Option (Bool ⊕ Unit)
 | 0, _ => none
 | n + 1, x19 =>
 bif decide (x19 < ((a2.length : Nat) : Int)) then
 bif inb x19 a2.length then
 bif ((a2.getD x19.toNat default).Kind) == 3 then
 (YV (a2.getD x19.toNat default) a4).bind fun v23 =>
 UE x19 (jI a2 a4 n) v23
 else
 UE x19 (jI a2 a4 n) false
 else none
 else
 some (Sum.inr ())
def wI (a1 : List Slice) (a2 : List Defect) (a3 : qC) (a4 : Box) (x17 : Bool) : Option Bool :=
 bif x17 then
 some false
 else
 (jI a2 a4 FUEL 0).bind fun u29 => Sum.elim (fun v30 => some v30) (fun o27 =>
 (HA a1 a4).bind fun v31 =>
 some (decide (v31 ≤ a3.Wane))) u29
def GA (a1 : List Slice) (a2 : List Defect) (a3 : qC) (a4 : Box) : Option Bool :=
 (UZ a1 a4).bind fun v5 =>
 bif !v5 then
 some false
 else
 (KJ a3).bind fun v8 =>
 (TR a3 (w64 (a4.Z.B - a4.Z.A))).bind fun v10 =>
 bif !v10.2 then
 wI a1 a2 a3 a4 true
 else
 bif (w64 (a4.X.B - a4.X.A)) == v8.1 then
 bif !((w64 (a4.Y.B - a4.Y.A)) == v8.2) then
 bif (w64 (a4.X.B - a4.X.A)) == v8.2 then
 wI a1 a2 a3 a4 (!((w64 (a4.Y.B - a4.Y.A)) == v8.1))
 else
 wI a1 a2 a3 a4 true
 else
 wI a1 a2 a3 a4 false
 else
 bif (w64 (a4.X.B - a4.X.A)) == v8.2 then
 wI a1 a2 a3 a4 (!((w64 (a4.Y.B - a4.Y.A)) == v8.1))
 else
 wI a1 a2 a3 a4 true
/- sawmill/sawmillref20.value -/
def DQ (x8 : Int) (rec_ref20_value_L1 : Int → Int → Option Int) (x14 : Int) : Option Int :=
 rec_ref20_value_L1 x14 (w64 (x8 + 1))
def yU (a1 : List Defect) (a3 : Box) (a4 : Int) : Nat → Int → Int → Option Int
 | 0, _, _ => none
 | n + 1, x7, x8 =>
 bif decide (x8 < ((a1.length : Nat) : Int)) then
 bif inb x8 a1.length then
 (YV (a1.getD x8.toNat default) a3).bind fun v11 =>
 bif v11 then
 DQ x8 (yU a1 a3 a4 n) (w64 (x7 - a4))
 else
 DQ x8 (yU a1 a3 a4 n) x7
 else none
 else
 some x7
def BU (a1 : List Defect) (a2 : qC) (a3 : Box) (a4 : Int) : Option Int :=
 (TR a2 (w64 (a3.Z.B - a3.Z.A))).bind fun v5 =>
 (yU a1 a3 a4 FUEL v5.1 0).bind fun o16 =>
 some (imax 0 o16)
/- sawmill/sawmillref20.Best -/
def WX (x26 : Int) (rec_ref20_Best_L3 : Int → Bool → Int → Span → Option (Int × Bool × Span)) (x38 : Int) (x39 : Bool) (x40 : Span) : Option (Int × Bool × Span) :=
 rec_ref20_Best_L3 x38 x39 (w64 (x26 + 1)) x40
def NR (a3 : qC) (x19 : Int) (x24 : Int) (x25 : Bool) (x26 : Int) (x27 : Span) (rec_ref20_Best_L3 : Int → Bool → Int → Span → Option (Int × Bool × Span)) (v33 : Int) (x36 : Bool) : Option (Int × Bool × Span) :=
 bif x36 then
 WX x26 rec_ref20_Best_L3 v33 true (Span.mk x19 (w64 (x19 + (a3.Lengths.getD x26.toNat default))))
 else
 WX x26 rec_ref20_Best_L3 x24 x25 x27
def jB (a1 : List Slice) (a2 : List Defect) (a3 : qC) (a4 : Rect) (a6 : Int) (x19 : Int) : Nat → Int → Bool → Int → Span → Option (Int × Bool × Span)
 | 0, _, _, _, _ => none
 | n + 1, x24, x25, x26, x27 =>
 bif decide (x26 < ((a3.Lengths.length : Nat) : Int)) then
 bif inb x26 a3.Lengths.length then
 (GA a1 a2 a3 (Box.mk a4.X a4.Y (Span.mk x19 (w64 (x19 + (a3.Lengths.getD x26.toNat default)))))).bind fun v30 =>
 bif !v30 then
 WX x26 (jB a1 a2 a3 a4 a6 x19 n) x24 x25 x27
 else
 (BU a2 a3 (Box.mk a4.X a4.Y (Span.mk x19 (w64 (x19 + (a3.Lengths.getD x26.toNat default))))) a6).bind fun v33 =>
 bif !x25 then
 NR a3 x19 x24 x25 x26 x27 (jB a1 a2 a3 a4 a6 x19 n) v33 true
 else
 NR a3 x19 x24 x25 x26 x27 (jB a1 a2 a3 a4 a6 x19 n) v33 (decide (v33 > x24))
 else none
 else
 some (x24, x25, x27)
def YW (a1 : List Slice) (a2 : List Defect) (a3 : qC) (a4 : Rect) (a5 : Int) (a6 : Int) : Nat → Int → Bool → Int → Span → Option (Int × Bool × Span)
 | 0, _, _, _, _ => none
 | n + 1, x17, x18, x19, x20 =>
 (QN a1).bind fun v21 =>
 bif decide (x19 < v21) then
 (jB a1 a2 a3 a4 a6 x19 FUEL x17 x18 0 x20).bind fun o44 =>
 (YW a1 a2 a3 a4 a5 a6 n) o44.1 o44.2.1 (w64 (x19 + a5)) o44.2.2
 else
 some (x17, x18, x20)
def TD (a1 : List Slice) (a2 : List Defect) (a3 : qC) (a4 : Rect) (a5 : Int) (a6 : Int) (x15 : Bool) : Option (Span × Int × Bool) :=
 bif x15 then
 some ((Span.mk 0 0), 0, false)
 else
 (YW a1 a2 a3 a4 a5 a6 FUEL 0 false 0 (Span.mk 0 0)).bind fun o49 =>
 some (o49.2.2, o49.1, o49.2.1)
def MY (a1 : List Slice) (a2 : List Defect) (a3 : qC) (a4 : Rect) (a5 : Int) (a6 : Int) : Option (Span × Int × Bool) :=
 (jR a5 1 20000).bind fun v7 =>
 bif !v7 then
 TD a1 a2 a3 a4 a5 a6 true
 else
 (jR a6 0 1000000).bind fun v10 =>
 bif !v10 then
 TD a1 a2 a3 a4 a5 a6 true
 else
 (EN a1 a2 a3).bind fun v13 =>
 TD a1 a2 a3 a4 a5 a6 (!v13)
/- sawmill/sawmillref11.Within -/
def UU (a1 : List Slice) (x11 : Int) (x12 : Int) (rec_ref11_Within_L2 : Int → Int → Int → Option Int) (x20 : Int) : Option Int :=
 rec_ref11_Within_L2 x20 (w64 (x11 + ((a1.getD x12.toNat default).Len))) (w64 (x12 + 1))
def yF (a1 : List Slice) (a2 : Box) : Nat → Int → Int → Int → Option Int
 | 0, _, _, _ => none
 | n + 1, x10, x11, x12 =>
 bif decide (x12 < ((a1.length : Nat) : Int)) then
 bif inb x12 a1.length then
 (GS (Span.mk (imax a2.Z.A 0) (imin a2.Z.B 20000)) x11 ((a1.getD x12.toNat default).Len)).bind fun v15 =>
 bif decide (v15 > 0) then
 (PB ((a1.getD x12.toNat default).Sec) (Rect.mk a2.X a2.Y)).bind fun v18 =>
 UU a1 x11 x12 (yF a1 a2 n) (w64 (x10 + (w64 (v15 * v18))))
 else
 UU a1 x11 x12 (yF a1 a2 n) x10
 else none
 else
 some x10
def QW (a1 : List Slice) (a2 : Box) (x8 : Bool) : Option Int :=
 bif x8 then
 some 0
 else
 (yF a1 a2 FUEL 0 0 0).bind fun o22 =>
 some o22
def UX (a1 : List Slice) (a2 : Box) : Option Int :=
 (ZW a1).bind fun v3 =>
 bif v3 != 0 then
 QW a1 a2 true
 else
 bif decide (a2.X.A ≥ a2.X.B) then
 QW a1 a2 true
 else
 bif decide (a2.Y.A ≥ a2.Y.B) then
 QW a1 a2 true
 else
 QW a1 a2 (decide (a2.Z.A ≥ a2.Z.B))
/- sawmill/sawmillref23.along -/
def JK (a1 : List Slice) (a2 : Rect) (a3 : Span) : Option Int :=
 (UX a1 (Box.mk a2.X a2.Y a3)).bind fun v4 =>
 some v4
/- sawmill/sawmillref23.volume -/
def KO (a1 : List Slice) (a2 : Rect) : Option Int :=
 (QN a1).bind fun v3 =>
 (JK a1 a2 (Span.mk 0 v3)).bind fun v5 =>
 some v5
/- sawmill/sawmillref23.gain -/
def MH (a1 : List Slice) (a2 : List Defect) (a3 : qC) (a4 : Rect) (a5 : Saw) (a6 : Rates) : Option Int :=
 (MY a1 a2 a3 a4 a5.Step a6.Fine).bind fun v7 =>
 bif !v7.2.2 then
 some (-1)
 else
 (JK a1 a4 (Span.mk (imax 0 (w64 (v7.1.A - a5.Trim))) v7.1.A)).bind fun v10 =>
 (QN a1).bind fun v12 =>
 (JK a1 a4 (Span.mk v7.1.B (imin (w64 (v7.1.B + a5.Trim)) v12))).bind fun v14 =>
 (KO a1 a4).bind fun v16 =>
 (JK a1 a4 v7.1).bind fun v18 =>
 some (w64 ((w64 ((w64 (1000000 * v7.2.1)) + (w64 (a6.Dust * (w64 (v10 + v14)))))) + (w64 (a6.Chip * (w64 ((w64 (v16 - v18)) - (w64 (v10 + v14))))))))
/- sawmill/sawmillref23.Line -/
def NY (l15 : List Int) (x16 : Int) (rec_ref23_Line_L2 : (List Int) → Int → Option (List Int)) (x27 : Int) : Option (List Int) :=
 bif room (l15.length + 1) 8 then
 rec_ref23_Line_L2 (l15 ++ ([x27] : List Int)) (w64 (x16 + 1))
 else none
def yK (a1 : List Slice) (a2 : List Defect) (a3 : List qC) (a4 : Rect) (a5 : Saw) (a6 : Rates) (v10 : (List Int) × (List Int)) (x12 : Int) : Nat → (List Int) → Int → Option (List Int)
 | 0, _, _ => none
 | n + 1, l15, x16 =>
 bif inb x12 v10.1.length then
 bif decide ((w64 (x16 + (v10.1.getD x12.toNat default))) ≤ (w64 (a4.X.B - a4.X.A))) then
 bif nz a5.Pitch then
 bif (Int.tmod x16 a5.Pitch) == 0 then
 bif inb x12 v10.2.length then
 bif inb (v10.2.getD x12.toNat default) a3.length then
 (RG a4 x16 (w64 (x16 + (v10.1.getD x12.toNat default)))).bind fun v23 =>
 (MH a1 a2 (a3.getD (v10.2.getD x12.toNat default).toNat default) v23 a5 a6).bind fun v25 =>
 NY l15 x16 (yK a1 a2 a3 a4 a5 a6 v10 x12 n) v25
 else none
 else none
 else
 NY l15 x16 (yK a1 a2 a3 a4 a5 a6 v10 x12 n) (-1)
 else none
 else
 some l15
 else none
def JB (a1 : List Slice) (a2 : List Defect) (a3 : List qC) (a4 : Rect) (a5 : Saw) (a6 : Rates) (v10 : (List Int) × (List Int)) : Nat → Int → (List (List Int)) → Option (List (List Int))
 | 0, _, _ => none
 | n + 1, x12, l13 =>
 bif decide (x12 < ((v10.1.length : Nat) : Int)) then
 (yK a1 a2 a3 a4 a5 a6 v10 x12 FUEL ([] : List Int) 0).bind fun o30 =>
 bif room (l13.length + 1) 24 then
 (JB a1 a2 a3 a4 a5 a6 v10 n) (w64 (x12 + 1)) (l13 ++ ([o30] : List (List Int)))
 else none
 else
 some l13
def WV (a1 : List Slice) (a4 : Rect) (a6 : Rates) : Nat → Int → (List Int) → (List Int) → Option ((List Int) × (List Int))
 | 0, _, _, _ => none
 | n + 1, x36, l37, l38 =>
 bif decide (x36 < (w64 (a4.X.B - a4.X.A))) then
 (RG a4 x36 (w64 (x36 + 1))).bind fun v40 =>
 (KO a1 v40).bind fun v42 =>
 bif room (l37.length + 1) 8 then
 bif room (l38.length + 1) 8 then
 (WV a1 a4 a6 n) (w64 (x36 + 1)) (l37 ++ ([w64 (a6.Chip * v42)] : List Int)) (l38 ++ ([w64 (a6.Dust * v42)] : List Int))
 else none
 else none
 else
 some (l37, l38)
def MN (a1 : List Slice) (a2 : List Defect) (a3 : List qC) (a4 : Rect) (a5 : Saw) (a6 : Rates) : Option (Line × Int) :=
 (ND a1 a2 a3 a4 a5 a6).bind fun v7 =>
 bif v7 != 0 then
 some ((Line.mk 0 0 0 ([] : List Int) ([] : List (List Int)) ([] : List Int) ([] : List Int)), v7)
 else
 (TU a3 (w64 (a4.Y.B - a4.Y.A))).bind fun v10 =>
 (JB a1 a2 a3 a4 a5 a6 v10 FUEL 0 ([] : List (List Int))).bind fun o34 =>
 (WV a1 a4 a6 FUEL 0 ([] : List Int) ([] : List Int)).bind fun o48 =>
 some ((Line.mk (w64 (a4.X.B - a4.X.A)) a5.Kerf 1 v10.1 o34 o48.1 o48.2), 0)
/- sawmill/sawmillref17.small -/
def GX (x2 : Int) (rec_ref17_small_L1 : Int → Option (Bool ⊕ Unit)) (x6 : Bool) : Option (Bool ⊕ Unit) :=
 bif x6 then
 some (Sum.inl false)
 else
 rec_ref17_small_L1 (w64 (x2 + 1))
def yZ (a1 : List Int) : Nat → Int → Option (Bool ⊕ Unit)
 | 0, _ => none
 | n + 1, x2 =>
 bif decide (x2 < ((a1.length : Nat) : Int)) then
 bif inb x2 a1.length then
 bif decide ((a1.getD x2.toNat default) < (-1125899906842624)) then
 GX x2 (yZ a1 n) true
 else
 GX x2 (yZ a1 n) (decide ((a1.getD x2.toNat default) > 1125899906842624))
 else none
 else
 some (Sum.inr ())
def KI (a1 : List Int) : Option Bool :=
 (yZ a1 FUEL 0).bind fun u10 => Sum.elim (fun v11 => some v11) (fun o8 =>
 some true) u10
/- sawmill/sawmillref17.Check -/
def DP (x10 : Int) (rec_ref17_Check_L2 : Int → Option (Int ⊕ Unit)) (x14 : Bool) : Option (Int ⊕ Unit) :=
 bif x14 then
 some (Sum.inl 9)
 else
 rec_ref17_Check_L2 (w64 (x10 + 1))
def yY (a1 : Line) : Nat → Int → Option (Int ⊕ Unit)
 | 0, _ => none
 | n + 1, x10 =>
 bif decide (x10 < ((a1.Sizes.length : Nat) : Int)) then
 bif inb x10 a1.Sizes.length then
 bif decide ((a1.Sizes.getD x10.toNat default) < 1) then
 DP x10 (yY a1 n) true
 else
 DP x10 (yY a1 n) (decide ((a1.Sizes.getD x10.toNat default) > 2000))
 else none
 else
 some (Sum.inr ())
def JP (a1 : Line) : Nat → Int → Option (Int ⊕ Unit)
 | 0, _ => none
 | n + 1, x24 =>
 bif decide (x24 < ((a1.Gain.length : Nat) : Int)) then
 bif inb x24 a1.Gain.length then
 bif inb x24 a1.Sizes.length then
 bif (((a1.Gain.getD x24.toNat default).length : Nat) : Int) != (imax 0 (w64 ((w64 (a1.Len - (a1.Sizes.getD x24.toNat default))) + 1))) then
 some (Sum.inl 19)
 else
 (JP a1 n) (w64 (x24 + 1))
 else none
 else none
 else
 some (Sum.inr ())
def DN (x40 : Int) (rec_ref17_Check_L7 : Bool → Int → Option Bool) (x46 : Bool) : Option Bool :=
 rec_ref17_Check_L7 x46 (w64 (x40 + 1))
def yT (a1 : Line) : Nat → Bool → Int → Option Bool
 | 0, _, _ => none
 | n + 1, x39, x40 =>
 bif decide (x40 < ((a1.Gain.length : Nat) : Int)) then
 bif x39 then
 bif inb x40 a1.Gain.length then
 (KI (a1.Gain.getD x40.toNat default)).bind fun v44 =>
 DN x40 (yT a1 n) v44
 else none
 else
 DN x40 (yT a1 n) false
 else
 some x39
def DB (a1 : Line) (x38 : Bool) : Option Int :=
 (yT a1 FUEL x38 0).bind fun o48 =>
 bif !o48 then
 some 9
 else
 some 0
def PC (a1 : Line) (x22 : Bool) : Option Int :=
 bif x22 then
 some 19
 else
 (JP a1 FUEL 0).bind fun u31 => Sum.elim (fun v32 => some v32) (fun o29 =>
 (KI a1.Chip).bind fun v33 =>
 bif v33 then
 (KI a1.Dust).bind fun v36 =>
 DB a1 v36
 else
 DB a1 false) u31
def yR (a1 : Line) (x7 : Bool) : Option Int :=
 bif x7 then
 some 9
 else
 bif decide (((a1.Sizes.length : Nat) : Int) > 32) then
 some 4
 else
 (yY a1 FUEL 0).bind fun u18 => Sum.elim (fun v19 => some v19) (fun o16 =>
 bif ((a1.Gain.length : Nat) : Int) != ((a1.Sizes.length : Nat) : Int) then
 PC a1 true
 else
 bif ((a1.Chip.length : Nat) : Int) != a1.Len then
 PC a1 true
 else
 PC a1 (((a1.Dust.length : Nat) : Int) != a1.Len)) u18
def BR (a1 : Line) : Option Int :=
 bif decide (a1.Len < 0) then
 yR a1 true
 else
 bif decide (a1.Len > 2000) then
 yR a1 true
 else
 bif decide (a1.Kerf < 0) then
 yR a1 true
 else
 bif decide (a1.Kerf > 20) then
 yR a1 true
 else
 bif decide (a1.Pitch < 1) then
 yR a1 true
 else
 yR a1 (decide (a1.Pitch > 2000))
/- sawmill/sawmillref17.prefix -/
def WO (a1 : List Int) : Nat → (List Int) → Int → Option (List Int)
 | 0, _, _ => none
 | n + 1, l2, x3 =>
 bif decide (x3 < ((a1.length : Nat) : Int)) then
 bif inb x3 l2.length then
 bif inb x3 a1.length then
 bif room (l2.length + 1) 8 then
 (WO a1 n) (l2 ++ ([w64 ((l2.getD x3.toNat default) + (a1.getD x3.toNat default))] : List Int)) (w64 (x3 + 1))
 else none
 else none
 else none
 else
 some l2
def KZ (a1 : List Int) : Option (List Int) :=
 (WO a1 FUEL ([0] : List Int) 0).bind fun o9 =>
 some o9
/- sawmill/sawmillref17.after -/
def NI (a1 : Line) (a2 : Piece) (a3 : List Int) (a4 : List Ref17_step) : Option Int :=
 bif inb a2.Size a1.Gain.length then
 bif inb a2.At ((a1.Gain.getD a2.Size.toNat default).length) then
 bif inb a2.Size a1.Sizes.length then
 bif (w64 (a2.At + (a1.Sizes.getD a2.Size.toNat default))) == a1.Len then
 some ((a1.Gain.getD a2.Size.toNat default).getD a2.At.toNat default)
 else
 bif inb (imin (w64 ((w64 (a2.At + (a1.Sizes.getD a2.Size.toNat default))) + a1.Kerf)) a1.Len) a3.length then
 bif inb (w64 (a2.At + (a1.Sizes.getD a2.Size.toNat default))) a3.length then
 bif inb (imin (w64 ((w64 (a2.At + (a1.Sizes.getD a2.Size.toNat default))) + a1.Kerf)) a1.Len) a4.length then
 some (w64 ((w64 ((w64 (((a1.Gain.getD a2.Size.toNat default).getD a2.At.toNat default) + (a3.getD (imin (w64 ((w64 (a2.At + (a1.Sizes.getD a2.Size.toNat default))) + a1.Kerf)) a1.Len).toNat default))) - (a3.getD (w64 (a2.At + (a1.Sizes.getD a2.Size.toNat default))).toNat default))) + ((a4.getD (imin (w64 ((w64 (a2.At + (a1.Sizes.getD a2.Size.toNat default))) + a1.Kerf)) a1.Len).toNat default).value)))
 else none
 else none
 else none
 else none
 else none
 else none
/- sawmill/sawmillref17.from -/
def TM (x19 : Int) (rec_ref17_from_L3 : Int → Ref17_step → Option Ref17_step) (x31 : Ref17_step) : Option Ref17_step :=
 rec_ref17_from_L3 (w64 (x19 + 1)) x31
def FB (a1 : Line) (a4 : List Int) (a5 : List Ref17_step) (x17 : Int) (x18 : Int) (x19 : Int) (x20 : Ref17_step) (rec_ref17_from_L3 : Int → Ref17_step → Option Ref17_step) (x26 : Bool) : Option Ref17_step :=
 bif x26 then
 TM x19 rec_ref17_from_L3 x20
 else
 (NI a1 (Piece.mk x19 x17) a4 a5).bind fun v28 =>
 bif decide ((w64 (x18 + v28)) > x20.value) then
 TM x19 rec_ref17_from_L3 (Ref17_step.mk (w64 (x18 + v28)) (Piece.mk x19 x17))
 else
 TM x19 rec_ref17_from_L3 x20
def jP (a1 : Line) (a4 : List Int) (a5 : List Ref17_step) (x17 : Int) (x18 : Int) : Nat → Int → Ref17_step → Option Ref17_step
 | 0, _, _ => none
 | n + 1, x19, x20 =>
 bif decide (x19 < ((a1.Sizes.length : Nat) : Int)) then
 bif inb x19 a1.Sizes.length then
 bif decide (x17 > (w64 (a1.Len - (a1.Sizes.getD x19.toNat default)))) then
 FB a1 a4 a5 x17 x18 x19 x20 (jP a1 a4 a5 x17 x18 n) true
 else
 bif inb x19 a1.Gain.length then
 bif inb x17 ((a1.Gain.getD x19.toNat default).length) then
 FB a1 a4 a5 x17 x18 x19 x20 (jP a1 a4 a5 x17 x18 n) (decide (((a1.Gain.getD x19.toNat default).getD x17.toNat default) < 0))
 else none
 else none
 else none
 else
 some x20
def RV (a1 : Line) (a4 : List Int) (a5 : List Ref17_step) (x8 : Int) (x9 : Ref17_step) (rec_ref17_from_L1 : Int → Ref17_step → Option Ref17_step) (x17 : Int) (x18 : Int) : Option Ref17_step :=
 (jP a1 a4 a5 x17 x18 FUEL 0 x9).bind fun o33 =>
 rec_ref17_from_L1 (w64 (x8 + a1.Pitch)) o33
def jO (a1 : Line) (a2 : Int) (a3 : List Int) (a4 : List Int) (a5 : List Ref17_step) : Nat → Int → Ref17_step → Option Ref17_step
 | 0, _, _ => none
 | n + 1, x8, x9 =>
 bif decide ((w64 (a2 + x8)) ≤ a1.Len) then
 bif decide (x8 > 0) then
 bif decide ((w64 ((w64 (a2 + x8)) + a1.Kerf)) > a1.Len) then
 some x9
 else
 bif inb (w64 (a2 + x8)) a3.length then
 bif inb a2 a3.length then
 bif inb (w64 ((w64 (a2 + x8)) + a1.Kerf)) a4.length then
 bif inb (w64 (a2 + x8)) a4.length then
 RV a1 a4 a5 x8 x9 (jO a1 a2 a3 a4 a5 n) (w64 ((w64 (a2 + x8)) + a1.Kerf)) (w64 ((w64 ((w64 ((a3.getD (w64 (a2 + x8)).toNat default) - (a3.getD a2.toNat default))) + (a4.getD (w64 ((w64 (a2 + x8)) + a1.Kerf)).toNat default))) - (a4.getD (w64 (a2 + x8)).toNat default)))
 else none
 else none
 else none
 else none
 else
 RV a1 a4 a5 x8 x9 (jO a1 a2 a3 a4 a5 n) a2 0
 else
 some x9
def MF (a1 : Line) (a2 : Int) (a3 : List Int) (a4 : List Int) (a5 : List Ref17_step) : Option Ref17_step :=
 bif inb a1.Len a3.length then
 bif inb a2 a3.length then
 (jO a1 a2 a3 a4 a5 FUEL 0 (Ref17_step.mk (w64 ((a3.getD a1.Len.toNat default) - (a3.getD a2.toNat default))) (Piece.mk (-1) 0))).bind fun o36 =>
 some o36
 else none
 else none
/- sawmill/sawmillref17.Best -/
def YS (a1 : Line) (v5 : (List Int)) (v7 : (List Int)) : Nat → (List Ref17_step) → Int → Option (List Ref17_step)
 | 0, _, _ => none
 | n + 1, l10, x11 =>
 bif decide (x11 ≥ 0) then
 (MF a1 x11 v5 v7 l10).bind fun v13 =>
 bif inb x11 l10.length then
 (YS a1 v5 v7 n) (l10.set x11.toNat v13) (w64 (x11 - 1))
 else none
 else
 some l10
def TH (a1 : Line) (o17 : (List Ref17_step)) : Nat → (List Piece) → Int → Option (List Piece)
 | 0, _, _ => none
 | n + 1, l19, x20 =>
 bif inb x20 o17.length then
 bif decide ((((o17.getD x20.toNat default).piece).Size) ≥ 0) then
 bif room (l19.length + 1) 16 then
 bif inb (((o17.getD x20.toNat default).piece).Size) a1.Sizes.length then
 bif (w64 ((((o17.getD x20.toNat default).piece).At) + (a1.Sizes.getD (((o17.getD x20.toNat default).piece).Size).toNat default))) == a1.Len then
 some (l19 ++ ([(o17.getD x20.toNat default).piece] : List Piece))
 else
 (TH a1 o17 n) (l19 ++ ([(o17.getD x20.toNat default).piece] : List Piece)) (imin (w64 ((w64 ((((o17.getD x20.toNat default).piece).At) + (a1.Sizes.getD (((o17.getD x20.toNat default).piece).Size).toNat default))) + a1.Kerf)) a1.Len)
 else none
 else none
 else
 some l19
 else none
def HO (a1 : Line) : Option ((List Piece) × Int × Int) :=
 (BR a1).bind fun v2 =>
 bif v2 != 0 then
 some (([] : List Piece), 0, v2)
 else
 (KZ a1.Chip).bind fun v5 =>
 (KZ a1.Dust).bind fun v7 =>
 bif mkOk (w64 (a1.Len + 1)) 24 then
 (YS a1 v5 v7 FUEL (List.replicate ((w64 (a1.Len + 1)).toNat) (Ref17_step.mk 0 (Piece.mk 0 0))) a1.Len).bind fun o17 =>
 (TH a1 o17 FUEL ([] : List Piece) 0).bind fun o27 =>
 bif inb 0 o17.length then
 some (o27, (o17.getD ((0 : Int).toNat) default).value, 0)
 else none
 else none
/- sawmill/sawmillref21.Framed -/
def QR (x7 : Bool) : Option Bool :=
 some x7
def VT (a1 : Rect) : Option Bool :=
 bif decide (a1.X.A < a1.X.B) then
 bif decide (a1.Y.A < a1.Y.B) then
 bif decide (a1.X.A ≥ (-600)) then
 bif decide (a1.X.B ≤ 600) then
 bif decide (a1.Y.A ≥ (-600)) then
 QR (decide (a1.Y.B ≤ 600))
 else
 QR false
 else
 QR false
 else
 QR false
 else
 QR false
 else
 QR false
/- sawmill/sawmillref21.Row -/
def MA (a3 : Int) (a4 : List Span) (a5 : List (List Node)) (x18 : Span) (x22 : Int) (rec_ref21_Row_L5 : (List Node) → Int → Bool → Int → Option (((List Node) × Int) ⊕ ((List Node) × Bool))) (l36 : List Node) : Option (((List Node) × Int) ⊕ ((List Node) × Bool)) :=
 bif inb x22 a5.length then
 bif room (l36.length + (a5.getD x22.toNat default).length) 16 then
 rec_ref21_Row_L5 (l36 ++ (a5.getD x22.toNat default)) (imin (w64 (((a4.getD x22.toNat default).B) + a3)) x18.B) (((a4.getD x22.toNat default).B) == x18.B) (w64 (x22 + 1))
 else none
 else none
def VX (a2 : Int) (a3 : Int) (a4 : List Span) (a5 : List (List Node)) (x18 : Span) (x22 : Int) (rec_ref21_Row_L5 : (List Node) → Int → Bool → Int → Option (((List Node) × Int) ⊕ ((List Node) × Bool))) (l33 : List Node) : Option (((List Node) × Int) ⊕ ((List Node) × Bool)) :=
 bif !(((a4.getD x22.toNat default).B) == x18.B) then
 bif room (l33.length + 1) 16 then
 MA a3 a4 a5 x18 x22 rec_ref21_Row_L5 (l33 ++ ([(Node.mk a2 ((a4.getD x22.toNat default).B))] : List Node))
 else none
 else
 MA a3 a4 a5 x18 x22 rec_ref21_Row_L5 l33
def GF (a2 : Int) (a3 : Int) (a4 : List Span) (a5 : List (List Node)) (x18 : Span) (l19 : List Node) (x20 : Int) (x22 : Int) (rec_ref21_Row_L5 : (List Node) → Int → Bool → Int → Option (((List Node) × Int) ⊕ ((List Node) × Bool))) (x28 : Bool) : Option (((List Node) × Int) ⊕ ((List Node) × Bool)) :=
 bif x28 then
 some (Sum.inl (([] : List Node), 11))
 else
 bif decide (((a4.getD x22.toNat default).B) > x18.B) then
 some (Sum.inl (([] : List Node), 20))
 else
 bif ((a4.getD x22.toNat default).A) != x20 then
 bif room (l19.length + 2) 16 then
 VX a2 a3 a4 a5 x18 x22 rec_ref21_Row_L5 (l19 ++ ([(Node.mk a2 (w64 (((a4.getD x22.toNat default).A) - a3))), (Node.mk 0 0)] : List Node))
 else none
 else
 VX a2 a3 a4 a5 x18 x22 rec_ref21_Row_L5 l19
def wR (a2 : Int) (a3 : Int) (a4 : List Span) (a5 : List (List Node)) (x18 : Span) : Nat → (List Node) → Int → Bool → Int → Option (((List Node) × Int) ⊕ ((List Node) × Bool))
 | 0, _, _, _, _ => none
 | n + 1, l19, x20, x21, x22 =>
 bif decide (x22 < ((a4.length : Nat) : Int)) then
 bif inb x22 a4.length then
 bif decide (((a4.getD x22.toNat default).A) ≥ ((a4.getD x22.toNat default).B)) then
 some (Sum.inl (([] : List Node), 19))
 else
 bif x21 then
 GF a2 a3 a4 a5 x18 l19 x20 x22 (wR a2 a3 a4 a5 x18 n) true
 else
 bif ((a4.getD x22.toNat default).A) != x20 then
 GF a2 a3 a4 a5 x18 l19 x20 x22 (wR a2 a3 a4 a5 x18 n) (decide (((a4.getD x22.toNat default).A) < (w64 ((w64 (x20 + a3)) + 1))))
 else
 GF a2 a3 a4 a5 x18 l19 x20 x22 (wR a2 a3 a4 a5 x18 n) false
 else none
 else
 some (Sum.inr (l19, x21))
def GC (l47 : List Node) : Option ((List Node) × Int) :=
 bif decide (((l47.length : Nat) : Int) > 127) then
 some (([] : List Node), 4)
 else
 some (l47, 0)
def VU (a2 : Int) (a3 : Int) (a4 : List Span) (a5 : List (List Node)) (x18 : Span) : Option ((List Node) × Int) :=
 (wR a2 a3 a4 a5 x18 FUEL ([] : List Node) x18.A false 0).bind fun u43 => Sum.elim (fun v44 => some v44) (fun o41 =>
 bif !o41.2 then
 bif room (o41.1.length + 1) 16 then
 GC (o41.1 ++ ([(Node.mk 0 0)] : List Node))
 else none
 else
 GC o41.1) u43
def MJ (a1 : Rect) (a2 : Int) (a3 : Int) (a4 : List Span) (a5 : List (List Node)) (x15 : Bool) : Option ((List Node) × Int) :=
 bif x15 then
 some (([] : List Node), 9)
 else
 bif a2 == 3 then
 VU a2 a3 a4 a5 a1.Y
 else
 VU a2 a3 a4 a5 a1.X
def LV (a1 : Rect) (a2 : Int) (a3 : Int) (a4 : List Span) (a5 : List (List Node)) (x12 : Bool) : Option ((List Node) × Int) :=
 bif x12 then
 some (([] : List Node), 19)
 else
 bif decide (a3 < 0) then
 MJ a1 a2 a3 a4 a5 true
 else
 MJ a1 a2 a3 a4 a5 (decide (a3 > 20))
def HQ (a1 : Rect) (a2 : Int) (a3 : Int) (a4 : List Span) (a5 : List (List Node)) (x7 : Bool) : Option ((List Node) × Int) :=
 bif x7 then
 some (([] : List Node), 10)
 else
 (VT a1).bind fun v9 =>
 bif !v9 then
 LV a1 a2 a3 a4 a5 true
 else
 LV a1 a2 a3 a4 a5 (((a4.length : Nat) : Int) != ((a5.length : Nat) : Int))
def LO (a1 : Rect) (a2 : Int) (a3 : Int) (a4 : List Span) (a5 : List (List Node)) : Option ((List Node) × Int) :=
 bif a2 != 2 then
 HQ a1 a2 a3 a4 a5 (a2 != 3)
 else
 HQ a1 a2 a3 a4 a5 false
/- sawmill/sawmillref23.Best -/
def YU (a4 : Rect) (v7 : Line × Int) (v10 : (List Int) × (List Int)) (v12 : (List Piece) × Int × Int) : Nat → (List Span) → (List (List Node)) → Int → Option ((List Span) × (List (List Node)))
 | 0, _, _, _ => none
 | n + 1, l15, l16, x17 =>
 bif decide (x17 < ((v12.1.length : Nat) : Int)) then
 bif inb x17 v12.1.length then
 bif inb ((v12.1.getD x17.toNat default).Size) v7.1.Sizes.length then
 (RG a4 ((v12.1.getD x17.toNat default).At) (w64 (((v12.1.getD x17.toNat default).At) + (v7.1.Sizes.getD (((v12.1.getD x17.toNat default).Size).toNat) default)))).bind fun v21 =>
 bif room (l15.length + 1) 16 then
 bif inb ((v12.1.getD x17.toNat default).Size) v10.2.length then
 bif room (l16.length + 1) 24 then
 (YU a4 v7 v10 v12 n) (l15 ++ ([v21.X] : List Span)) (l16 ++ ([([(Node.mk 1 (v10.2.getD (((v12.1.getD x17.toNat default).Size).toNat) default))] : List Node)] : List (List Node))) (w64 (x17 + 1))
 else none
 else none
 else none
 else none
 else none
 else
 some (l15, l16)
def MD (a1 : List Slice) (a2 : List Defect) (a3 : List qC) (a4 : Rect) (a5 : Saw) (a6 : Rates) : Option ((List Node) × Int × Int) :=
 (MN a1 a2 a3 a4 a5 a6).bind fun v7 =>
 bif v7.2 != 0 then
 some (([] : List Node), 0, v7.2)
 else
 (TU a3 (w64 (a4.Y.B - a4.Y.A))).bind fun v10 =>
 (HO (Line.mk v7.1.Len v7.1.Kerf v7.1.Pitch v7.1.Sizes v7.1.Gain v7.1.Chip v7.1.Dust)).bind fun v12 =>
 bif v12.2.2 != 0 then
 some (([] : List Node), 0, v12.2.2)
 else
 (YU a4 v7 v10 v12 FUEL ([] : List Span) ([] : List (List Node)) 0).bind fun o28 =>
 (LO a4 2 a5.Kerf o28.1 o28.2).bind fun v30 =>
 bif v30.2 != 0 then
 some (([] : List Node), 0, v30.2)
 else
 some (v30.1, v12.2.1, 0)
/- sawmill/sawmillref23.SameNodes -/
def yW (a1 : List Node) (a2 : List Node) : Nat → Int → Option (Bool ⊕ Unit)
 | 0, _ => none
 | n + 1, x4 =>
 bif decide (x4 < ((a1.length : Nat) : Int)) then
 bif inb x4 a1.length then
 bif inb x4 a2.length then
 bif !((((a1.getD x4.toNat default).Kind) == ((a2.getD x4.toNat default).Kind)) && ((((a1.getD x4.toNat default).At) == ((a2.getD x4.toNat default).At)) && true)) then
 some (Sum.inl false)
 else
 (yW a1 a2 n) (w64 (x4 + 1))
 else none
 else none
 else
 some (Sum.inr ())
def XK (a1 : List Node) (a2 : List Node) : Option Bool :=
 bif ((a1.length : Nat) : Int) != ((a2.length : Nat) : Int) then
 some false
 else
 (yW a1 a2 FUEL 0).bind fun u11 => Sum.elim (fun v12 => some v12) (fun o9 =>
 some true) u11
/- sawmill/sawmilllaw23.EdgeBests -/
def QB (x18 : Bool) : Option Bool :=
 some x18
def UJ (a1 : qP) : Option Bool :=
 (NB a1).bind fun v2 =>
 bif !v2 then
 (NK).bind fun v5 =>
 some v5
 else
 (PY a1).bind fun v7 =>
 (MD a1.Solid a1.Defects a1.Products a1.Strip a1.Saw a1.Rates).bind fun v9 =>
 (XK v7.1 v9.1).bind fun v11 =>
 bif v11 then
 bif v7.2.1 == v9.2.1 then
 bif v7.2.2 == v9.2.2 then
 (NK).bind fun v16 =>
 QB v16
 else
 QB false
 else
 QB false
 else
 QB false
end Saw
end Go.SL

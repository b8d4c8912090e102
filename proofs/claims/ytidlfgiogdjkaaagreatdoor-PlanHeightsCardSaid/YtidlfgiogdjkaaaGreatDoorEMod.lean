import Derived.Test.YtidlfgiogdjkaaaGreatDoorYa6
set_option linter.unusedVariables false
set_option linter.unusedSimpArgs false
namespace Go.SL
namespace Saw
structure Piece where
 Size:Int
 At:Int
instance : Inhabited Piece:=⟨⟨0,0⟩⟩
def wO (r:Piece):List C:=[ci r.Size,ci r.At]
structure Product where
 Name:ByteArray
 Thick:Int
 Width:Int
 Allow:Int
 Wane:Int
 Lengths:List Int
 Prices:List Int
instance : Inhabited Product:=⟨⟨⟨#[]⟩,0,0,0,0,[],[]⟩⟩
def qC (r:Product):List C:=[cs r.Name,ci r.Thick,ci r.Width,ci r.Allow,ci r.Wane,tl e_i64 default r.Lengths,tl e_i64 default r.Prices]
structure Span where
 A:Int
 B:Int
instance : Inhabited Span:=⟨⟨0,0⟩⟩
def e_Span (r:Span):List C:=[ci r.A,ci r.B]
structure qF where
 Low:Int
 Rows:List Span
instance : Inhabited qF:=⟨⟨0,[]⟩⟩
def qO (r:qF):List C:=[ci r.Low,tl e_Span default r.Rows]
structure qB where
 Len:Int
 Sec:qF
instance : Inhabited qB:=⟨⟨0,default⟩⟩
def qE (r:qB):List C:=[ci r.Len,ci r.Sec.Low,tl e_Span default r.Sec.Rows]
structure Box where
 X:Span
 Y:Span
 Z:Span
instance : Inhabited Box:=⟨⟨default,default,default⟩⟩
def ZI (r:Box):List C:=[ci r.X.A,ci r.X.B,ci r.Y.A,ci r.Y.B,ci r.Z.A,ci r.Z.B]
structure Defect where
 Kind:Int
 Box:Box
instance : Inhabited Defect:=⟨⟨0,default⟩⟩
def qJ (r:Defect):List C:=[ci r.Kind,ci r.Box.X.A,ci r.Box.X.B,ci r.Box.Y.A,ci r.Box.Y.B,ci r.Box.Z.A,ci r.Box.Z.B]
structure Rect where
 X:Span
 Y:Span
instance : Inhabited Rect:=⟨⟨default,default⟩⟩
def qH (r:Rect):List C:=[ci r.X.A,ci r.X.B,ci r.Y.A,ci r.Y.B]
structure Saw where
 Kerf:Int
 Trim:Int
 Pitch:Int
 Step:Int
instance : Inhabited Saw:=⟨⟨0,0,0,0⟩⟩
def qX (r:Saw):List C:=[ci r.Kerf,ci r.Trim,ci r.Pitch,ci r.Step]
structure Rates where
 Chip:Int
 Dust:Int
 Fine:Int
instance : Inhabited Rates:=⟨⟨0,0,0⟩⟩
def qS (r:Rates):List C:=[ci r.Chip,ci r.Dust,ci r.Fine]
structure Law24_Given where
 Solid:List qB
 Defects:List Defect
 Products:List Product
 Frame:Rect
 Saw:Saw
 Rates:Rates
instance : Inhabited Law24_Given:=⟨⟨[],[],[],default,default,default⟩⟩
def qE1 (r:Law24_Given):List C:=[tl qE default r.Solid,tl qJ default r.Defects,tl qC default r.Products,ci r.Frame.X.A,ci r.Frame.X.B,ci r.Frame.Y.A,ci r.Frame.Y.B,ci r.Saw.Kerf,ci r.Saw.Trim,ci r.Saw.Pitch,ci r.Saw.Step,ci r.Rates.Chip,ci r.Rates.Dust,ci r.Rates.Fine]
structure Worth_zone where
 z:Span
 lack:Int
instance : Inhabited Worth_zone:=⟨⟨default,0⟩⟩
def qK (r:Worth_zone):List C:=[ci r.z.A,ci r.z.B,ci r.lack]
structure Worth_view where
 product:Product
 rect:Rect
 length:Int
 zones:List Worth_zone
 defects:List Defect
instance : Inhabited Worth_view:=⟨⟨default,default,0,[],[]⟩⟩
def DI (r:Worth_view):List C:=[cs r.product.Name,ci r.product.Thick,ci r.product.Width,ci r.product.Allow,ci r.product.Wane,tl e_i64 default r.product.Lengths,tl e_i64 default r.product.Prices,ci r.rect.X.A,ci r.rect.X.B,ci r.rect.Y.A,ci r.rect.Y.B,ci r.length,tl qK default r.zones,tl qJ default r.defects]
structure Line where
 Len:Int
 Kerf:Int
 Pitch:Int
 Sizes:List Int
 Gain:List (List Int)
 Chip:List Int
 Dust:List Int
instance : Inhabited Line:=⟨⟨0,0,0,[],[],[],[]⟩⟩
def zT (r:Line):List C:=[ci r.Len,ci r.Kerf,ci r.Pitch,tl e_i64 default r.Sizes,tl (qD e_i64) default r.Gain,tl e_i64 default r.Chip,tl e_i64 default r.Dust]
structure Cutting_choice where
 piece:Piece
 value:Int
instance : Inhabited Cutting_choice:=⟨⟨default,0⟩⟩
def e_Cutting_choice (r:Cutting_choice):List C:=[ci r.piece.Size,ci r.piece.At,ci r.value]
structure Node where
 Kind:Int
 At:Int
instance : Inhabited Node:=⟨⟨0,0⟩⟩
def e_Node (r:Node):List C:=[ci r.Kind,ci r.At]
structure Pattern where
 Frame:Rect
 Nodes:List Node
instance : Inhabited Pattern:=⟨⟨default,[]⟩⟩
def CC (r:Pattern):List C:=[ci r.Frame.X.A,ci r.Frame.X.B,ci r.Frame.Y.A,ci r.Frame.Y.B,tl e_Node default r.Nodes]
structure qIz where
 value:Int
 piece:Piece
instance : Inhabited qIz:=⟨⟨0,default⟩⟩
structure qPR where
 at_:Span
 from_:Int
 to:Int
instance : Inhabited qPR:=⟨⟨default,0,0⟩⟩
structure Pattern_place where
 rect:Rect
 level:Int
instance : Inhabited Pattern_place:=⟨⟨default,0⟩⟩
structure Leaf where
 Rect:Rect
 Product:Int
instance : Inhabited Leaf:=⟨⟨default,0⟩⟩
structure Yield_Cut where
 Leaf:Int
 Product:Int
 Box:Box
 Worth:Int
instance : Inhabited Yield_Cut:=⟨⟨0,0,default,0⟩⟩
structure Yield where
 Log:Int
 Boards:Int
 Chips:Int
 Dust:Int
 Value:Int
instance : Inhabited Yield:=⟨⟨0,0,0,0,0⟩⟩
def qHM :Piece:=(Piece.mk (-1) (-1))
def globs :List (Nat×C):=[(0,.lptr (wO qHM))]
/- sawmill/sawmilllaw24.few -/
def DU (x3:Int) (rec_law24_few_L1:Int->Option (Bool⊕Unit)) (x8:Bool):Option (Bool⊕Unit):=
 bif x8 then
 some (Sum.inl false)
 else
 rec_law24_few_L1 (w64 (x3+1))
def QG (a1:List Product):Nat->Int->Option (Bool⊕Unit)
 |0,_=>none
 |n+1,x3=>
 bif decide (x3<((a1.length:Nat):Int)) then
 bif inb x3 a1.length then
 bif decide (((((a1.getD x3.toNat default).Name).size:Nat):Int)>100) then
 DU x3 (QG a1 n) true
 else
 bif decide (((((a1.getD x3.toNat default).Lengths).length:Nat):Int)>12) then
 DU x3 (QG a1 n) true
 else
 DU x3 (QG a1 n) (decide (((((a1.getD x3.toNat default).Prices).length:Nat):Int)>12))
 else none
 else
 some (Sum.inr ())
def HO (a1:List Product):Option Bool:=
 bif decide (((a1.length:Nat):Int)>20) then
 some false
 else
 (QG a1 FUEL 0).bind λu12=>Sum.elim (λv13=>some v13) (λo10=>
 some true) u12
/- sawmill/sawmilllaw24.small -/
def YM (a1:List qB):Nat->Int->Option (Bool⊕Unit)
 |0,_=>none
 |n+1,x3=>
 bif decide (x3<((a1.length:Nat):Int)) then
 bif inb x3 a1.length then
 bif decide ((((((a1.getD x3.toNat default).Sec).Rows).length:Nat):Int)>130) then
 some (Sum.inl false)
 else
 (YM a1 n) (w64 (x3+1))
 else none
 else
 some (Sum.inr ())
def UW (a1:List qB):Option Bool:=
 bif decide (((a1.length:Nat):Int)>30) then
 some false
 else
 (YM a1 FUEL 0).bind λu9=>Sum.elim (λv10=>some v10) (λo7=>
 some true) u9
/- sawmill/sawmilllaw24.sample -/
def GD :Nat->Int->(List Span)->Option (List Span)
 |0,_,_=>none
 |n+1,x2,l3=>
 bif decide (x2<20) then
 bif room (l3.length+1) 16 then
 (GD n) (w64 (x2+1)) (l3++([(Span.mk (-100) 100)]:List Span))
 else none
 else
 some l3
def YW (a1:Int):Option Law24_Given:=
 (GD FUEL 0 ([]:List Span)).bind λo7=>
 some (Law24_Given.mk ([(qB.mk 3000 (qF.mk (-10) o7))]:List qB) ([]:List Defect) ([(Product.mk (ByteArray.mk #[112,108,97,110,107]) 40 100 50 0 ([2000]:List Int) ([70]:List Int))]:List Product) (Rect.mk (Span.mk (-100) 10) (Span.mk 0 a1)) (Saw.mk 4 5 5 500) (Rates.mk 0 0 0))
/- sawmill/section.inRange -/
def KM (x3:Bool):Option Bool:=
 some x3
def KQ (a1:Span):Option Bool:=
 bif decide ((imin a1.A a1.B)≥(-600)) then
 KM (decide ((imax a1.A a1.B)<=600))
 else
 KM false
/- sawmill/section.isEmpty -/
def QL (a1:Span):Option Bool:=
 some (decide (a1.A≥a1.B))
/- sawmill/section.Check -/
def yT (a1:qF):Nat->Int->Option (Int⊕Unit)
 |0,_=>none
 |n+1,x6=>
 bif decide (x6<((a1.Rows.length:Nat):Int)) then
 bif inb x6 a1.Rows.length then
 (KQ (a1.Rows.getD x6.toNat default)).bind λv9=>
 bif !v9 then
 some (Sum.inl 9)
 else
 (yT a1 n) (w64 (x6+1))
 else none
 else
 some (Sum.inr ())
def TC (x27:Int) (rec_section_Check_L4:Int->Option (Int⊕Unit)) (x33:Bool):Option (Int⊕Unit):=
 bif x33 then
 some (Sum.inl 19)
 else
 rec_section_Check_L4 (w64 (x27+1))
def wT (a1:qF):Nat->Int->Option (Int⊕Unit)
 |0,_=>none
 |n+1,x27=>
 bif decide (x27<((a1.Rows.length:Nat):Int)) then
 bif inb x27 a1.Rows.length then
 (QL (a1.Rows.getD x27.toNat default)).bind λv30=>
 bif v30 then
 TC x27 (wT a1 n) (!((((a1.Rows.getD x27.toNat default).A)==0)&&((((a1.Rows.getD x27.toNat default).B)==0)&&true)))
 else
 TC x27 (wT a1 n) false
 else none
 else
 some (Sum.inr ())
def TO (a1:qF) (x25:Bool):Option Int:=
 bif x25 then
 some 19
 else
 (wT a1 FUEL 0).bind λu37=>Sum.elim (λv38=>some v38) (λo35=>
 some 0) u37
def TU (a1:qF) (x4:Bool):Option Int:=
 bif x4 then
 some 9
 else
 (yT a1 FUEL 0).bind λu14=>Sum.elim (λv15=>some v15) (λo12=>
 bif ((a1.Rows.length:Nat):Int)==0 then
 bif a1.Low !=0 then
 some 19
 else
 some 0
 else
 bif inb 0 a1.Rows.length then
 (QL (a1.Rows.getD (0:Int).toNat default)).bind λv19=>
 bif v19 then
 TO a1 true
 else
 bif inb (w64 (((a1.Rows.length:Nat):Int)-1)) a1.Rows.length then
 (QL (a1.Rows.getD (w64 (((a1.Rows.length:Nat):Int)-1)).toNat default)).bind λv23=>
 TO a1 v23
 else none
 else none) u14
def XV (a1:qF):Option Int:=
 bif decide (((a1.Rows.length:Nat):Int)>120) then
 some 4
 else
 bif decide (a1.Low<(-60)) then
 TU a1 true
 else
 TU a1 (decide (a1.Low>(w64 (60-((a1.Rows.length:Nat):Int)))))
/- sawmill/solid.Check -/
def BY (a1:List qB) (x4:Int) (x5:Int) (rec_solid_Check_L1:Int->Int->Option (Int⊕Unit)) (x13:Bool):Option (Int⊕Unit):=
 bif x13 then
 some (Sum.inl 9)
 else
 rec_solid_Check_L1 (w64 (x4+((a1.getD x5.toNat default).Len))) (w64 (x5+1))
def jN (a1:List qB):Nat->Int->Int->Option (Int⊕Unit)
 |0,_,_=>none
 |n+1,x4,x5=>
 bif decide (x5<((a1.length:Nat):Int)) then
 bif inb x5 a1.length then
 (XV ((a1.getD x5.toNat default).Sec)).bind λv8=>
 bif v8 !=0 then
 some (Sum.inl v8)
 else
 bif (((((a1.getD x5.toNat default).Sec).Rows).length:Nat):Int)==0 then
 some (Sum.inl 18)
 else
 bif decide (((a1.getD x5.toNat default).Len)<1) then
 BY a1 x4 x5 (jN a1 n) true
 else
 BY a1 x4 x5 (jN a1 n) (decide (((a1.getD x5.toNat default).Len)>(w64 (20000-x4))))
 else none
 else
 some (Sum.inr ())
def WH (a1:List qB):Option Int:=
 bif ((a1.length:Nat):Int)==0 then
 some 3
 else
 bif decide (((a1.length:Nat):Int)>24) then
 some 4
 else
 (jN a1 FUEL 0 0).bind λu17=>Sum.elim (λv18=>some v18) (λo15=>
 some 0) u17
/- sawmill/defect.isEmpty -/
def jM (a1:Span):Option Bool:=
 some (decide (a1.A≥a1.B))
/- sawmill/defect.inside -/
def UG (x5:Bool):Option Bool:=
 some x5
def JQ (a1:Span) (a2:Int) (a3:Int):Option Bool:=
 bif decide ((imin a1.A a1.B)≥a2) then
 UG (decide ((imax a1.A a1.B)<=a3))
 else
 UG false
/- sawmill/defect.check -/
def XX (x23:Bool):Option Int:=
 bif x23 then
 some 9
 else
 some 0
def KA (a1:Defect) (x13:Bool):Option Int:=
 bif x13 then
 some 19
 else
 (JQ a1.Box.X (-600) 600).bind λv15=>
 bif !v15 then
 XX true
 else
 (JQ a1.Box.Y (-600) 600).bind λv18=>
 bif !v18 then
 XX true
 else
 (JQ a1.Box.Z 0 20000).bind λv21=>
 XX (!v21)
def GE (a1:Defect) (x3:Bool):Option Int:=
 bif x3 then
 some 10
 else
 (jM a1.Box.X).bind λv5=>
 bif v5 then
 KA a1 true
 else
 (jM a1.Box.Y).bind λv8=>
 bif v8 then
 KA a1 true
 else
 (jM a1.Box.Z).bind λv11=>
 KA a1 v11
def DW (a1:Defect):Option Int:=
 bif decide (a1.Kind<1) then
 GE a1 true
 else
 GE a1 (decide (a1.Kind>6))
/- sawmill/defect.Check -/
def QU (a1:List Defect):Nat->Int->Option (Int⊕Unit)
 |0,_=>none
 |n+1,x3=>
 bif decide (x3<((a1.length:Nat):Int)) then
 bif inb x3 a1.length then
 (DW (a1.getD x3.toNat default)).bind λv6=>
 bif v6 !=0 then
 some (Sum.inl v6)
 else
 (QU a1 n) (w64 (x3+1))
 else none
 else
 some (Sum.inr ())
def WJ (a1:List Defect):Option Int:=
 bif decide (((a1.length:Nat):Int)>64) then
 some 4
 else
 (QU a1 FUEL 0).bind λu11=>Sum.elim (λv12=>some v12) (λo9=>
 some 0) u11
/- sawmill/ident.isSmall -/
def UF (x3:Bool):Option Bool:=
 some x3
def XR (a1:Int):Option Bool:=
 bif decide (97<=a1) then
 UF (decide (a1<=122))
 else
 UF false
/- sawmill/ident.isDigit -/
def TA (x3:Bool):Option Bool:=
 some x3
def UK (a1:Int):Option Bool:=
 bif decide (48<=a1) then
 TA (decide (a1<=57))
 else
 TA false
/- sawmill/ident.IsName -/
def KS (x9:Int) (rec_ident_IsName_L2:Int->Option (Bool⊕Unit)) (x18:Bool):Option (Bool⊕Unit):=
 bif x18 then
 some (Sum.inl false)
 else
 rec_ident_IsName_L2 (w64 (x9+1))
def wP (a1:ByteArray):Nat->Int->Option (Bool⊕Unit)
 |0,_=>none
 |n+1,x9=>
 bif decide (x9<((a1.size:Nat):Int)) then
 bif inb x9 a1.size then
 (XR (strAt a1 x9.toNat)).bind λv12=>
 bif !v12 then
 (UK (strAt a1 x9.toNat)).bind λv15=>
 bif !v15 then
 KS x9 (wP a1 n) ((strAt a1 x9.toNat) !=95)
 else
 KS x9 (wP a1 n) false
 else
 KS x9 (wP a1 n) false
 else none
 else
 some (Sum.inr ())
def KE (a1:ByteArray) (x7:Bool):Option Bool:=
 bif x7 then
 some false
 else
 (wP a1 FUEL 1).bind λu22=>Sum.elim (λv23=>some v23) (λo20=>
 some true) u22
def DZ (a1:ByteArray):Option Bool:=
 bif decide (((a1.size:Nat):Int)<1) then
 KE a1 true
 else
 bif decide (((a1.size:Nat):Int)>16) then
 KE a1 true
 else
 bif inb 0 a1.size then
 (XR (strAt a1 ((0:Int).toNat))).bind λv5=>
 KE a1 (!v5)
 else none
/- sawmill/product.Find -/
def QJ (a1:List Product) (a2:ByteArray):Nat->Int->Option ((Int×Bool)⊕Unit)
 |0,_=>none
 |n+1,x3=>
 bif decide (x3<((a1.length:Nat):Int)) then
 bif inb x3 a1.length then
 bif strEq ((a1.getD x3.toNat default).Name) a2 then
 some (Sum.inl (x3,true))
 else
 (QJ a1 a2 n) (w64 (x3+1))
 else none
 else
 some (Sum.inr ())
def BK (a1:List Product) (a2:ByteArray):Option (Int×Bool):=
 (QJ a1 a2 FUEL 0).bind λu9=>Sum.elim (λv10=>some v10) (λo7=>
 some (0,false)) u9
/- sawmill/product.isSize -/
def PO (x3:Bool):Option Bool:=
 some x3
def YL (a1:Int):Option Bool:=
 bif decide (a1≥1) then
 PO (decide (a1<=600))
 else
 PO false
/- sawmill/product.grow -/
def BD (a1:Int) (a2:Int):Option Int:=
 some (w64 (Int.tdiv (w64 ((w64 (a1*(w64 (1000+a2))))+999)) 1000))
/- sawmill/product.Green -/
def ZY (a1:Product) (x9:Bool):Option (Int×Int):=
 bif x9 then
 some (0,0)
 else
 (BD a1.Thick a1.Allow).bind λv11=>
 (BD a1.Width a1.Allow).bind λv13=>
 some (v11,v13)
def yO (a1:Product):Option (Int×Int):=
 (YL a1.Thick).bind λv2=>
 bif !v2 then
 ZY a1 true
 else
 (YL a1.Width).bind λv5=>
 bif !v5 then
 ZY a1 true
 else
 bif decide (a1.Allow<0) then
 ZY a1 true
 else
 ZY a1 (decide (a1.Allow>200))
/- sawmill/product.checkNumbers -/
def ZK (x18:Int) (rec_product_checkNumbers_L3:Int->Option (Int⊕Unit)) (x26:Bool):Option (Int⊕Unit):=
 bif x26 then
 some (Sum.inl 11)
 else
 rec_product_checkNumbers_L3 (w64 (x18+1))
def ZG (a1:Product) (x18:Int) (rec_product_checkNumbers_L3:Int->Option (Int⊕Unit)) (x22:Bool):Option (Int⊕Unit):=
 bif x22 then
 some (Sum.inl 9)
 else
 bif decide (x18>0) then
 bif inb (w64 (x18-1)) a1.Lengths.length then
 ZK x18 rec_product_checkNumbers_L3 (decide ((a1.Lengths.getD x18.toNat default)<=(a1.Lengths.getD (w64 (x18-1)).toNat default)))
 else none
 else
 ZK x18 rec_product_checkNumbers_L3 false
def zE (a1:Product):Nat->Int->Option (Int⊕Unit)
 |0,_=>none
 |n+1,x18=>
 bif decide (x18<((a1.Lengths.length:Nat):Int)) then
 bif inb x18 a1.Lengths.length then
 bif decide ((a1.Lengths.getD x18.toNat default)<100) then
 ZG a1 x18 (zE a1 n) true
 else
 ZG a1 x18 (zE a1 n) (decide ((a1.Lengths.getD x18.toNat default)>20000))
 else none
 else
 some (Sum.inr ())
def ZL (x32:Int) (rec_product_checkNumbers_L6:Int->Option (Int⊕Unit)) (x36:Bool):Option (Int⊕Unit):=
 bif x36 then
 some (Sum.inl 9)
 else
 rec_product_checkNumbers_L6 (w64 (x32+1))
def zK (a1:Product):Nat->Int->Option (Int⊕Unit)
 |0,_=>none
 |n+1,x32=>
 bif decide (x32<((a1.Prices.length:Nat):Int)) then
 bif inb x32 a1.Prices.length then
 bif decide ((a1.Prices.getD x32.toNat default)<0) then
 ZL x32 (zK a1 n) true
 else
 ZL x32 (zK a1 n) (decide ((a1.Prices.getD x32.toNat default)>1000000))
 else none
 else
 some (Sum.inr ())
def wR (a1:Product) (x10:Bool):Option Int:=
 bif x10 then
 some 9
 else
 (yO a1).bind λv12=>
 bif decide (v12.2>600) then
 some 9
 else
 bif ((a1.Lengths.length:Nat):Int)==0 then
 some 3
 else
 bif decide (((a1.Lengths.length:Nat):Int)>8) then
 some 4
 else
 bif ((a1.Prices.length:Nat):Int) !=((a1.Lengths.length:Nat):Int) then
 some 19
 else
 (zE a1 FUEL 0).bind λu30=>Sum.elim (λv31=>some v31) (λo28=>
 (zK a1 FUEL 0).bind λu40=>Sum.elim (λv41=>some v41) (λo38=>
 some 0) u40) u30
def wS (a1:Product) (x5:Bool):Option Int:=
 bif x5 then
 some 9
 else
 bif decide (a1.Allow<0) then
 wR a1 true
 else
 bif decide (a1.Allow>200) then
 wR a1 true
 else
 bif decide (a1.Wane<0) then
 wR a1 true
 else
 wR a1 (decide (a1.Wane>1000))
def QM (a1:Product):Option Int:=
 bif decide (a1.Thick<5) then
 wS a1 true
 else
 bif decide (a1.Thick>300) then
 wS a1 true
 else
 bif decide (a1.Width<a1.Thick) then
 wS a1 true
 else
 wS a1 (decide (a1.Width>600))
/- sawmill/product.Check -/
def yS (a1:List Product):Nat->Int->Option (Int⊕Unit)
 |0,_=>none
 |n+1,x3=>
 bif decide (x3<((a1.length:Nat):Int)) then
 bif inb x3 a1.length then
 (DZ ((a1.getD x3.toNat default).Name)).bind λv6=>
 bif !v6 then
 some (Sum.inl 6)
 else
 bif slOk 0 x3 a1.length then
 (BK (a1.take x3.toNat) ((a1.getD x3.toNat default).Name)).bind λv10=>
 bif v10.2 then
 some (Sum.inl 7)
 else
 (QM (a1.getD x3.toNat default)).bind λv13=>
 bif v13 !=0 then
 some (Sum.inl v13)
 else
 (yS a1 n) (w64 (x3+1))
 else none
 else none
 else
 some (Sum.inr ())
def wY (a1:List Product):Option Int:=
 bif decide (((a1.length:Nat):Int)>16) then
 some 4
 else
 (yS a1 FUEL 0).bind λu18=>Sum.elim (λv19=>some v19) (λo16=>
 some 0) u18
/- sawmill/worth.isStep -/
def GV (x3:Bool):Option Bool:=
 some x3
def RO (a1:Int):Option Bool:=
 bif decide (a1≥1) then
 GV (decide (a1<=20000))
 else
 GV false
/- sawmill/worth.isFine -/
def GU (x3:Bool):Option Bool:=
 some x3
def PX (a1:Int):Option Bool:=
 bif decide (a1≥0) then
 GU (decide (a1<=1000000))
 else
 GU false
/- sawmill/worth.Check -/
def ZQ (x20:Bool):Option Int:=
 bif x20 then
 some 9
 else
 some 0
def RL (a2:Rates) (x12:Bool):Option Int:=
 bif x12 then
 some 9
 else
 bif decide (a2.Chip<0) then
 ZQ true
 else
 bif decide (a2.Chip>1000) then
 ZQ true
 else
 bif decide (a2.Dust<0) then
 ZQ true
 else
 bif decide (a2.Dust>1000) then
 ZQ true
 else
 (PX a2.Fine).bind λv18=>
 ZQ (!v18)
def YN (a1:Saw) (a2:Rates) (x6:Bool):Option Int:=
 bif x6 then
 some 9
 else
 bif decide (a1.Pitch<1) then
 RL a2 true
 else
 bif decide (a1.Pitch>2000) then
 RL a2 true
 else
 (RO a1.Step).bind λv10=>
 RL a2 (!v10)
def YI (a1:Saw) (a2:Rates):Option Int:=
 bif decide (a1.Kerf<0) then
 YN a1 a2 true
 else
 bif decide (a1.Kerf>20) then
 YN a1 a2 true
 else
 bif decide (a1.Trim<0) then
 YN a1 a2 true
 else
 YN a1 a2 (decide (a1.Trim>20))
/- sawmill/plan.checkFrame -/
def DP (x5:Int) (rec_plan_checkFrame_L2:Int->Option (Int⊕Unit)) (x9:Bool):Option (Int⊕Unit):=
 bif x9 then
 some (Sum.inl 9)
 else
 rec_plan_checkFrame_L2 (w64 (x5+1))
def zB (a1:Rect):Nat->Int->Option (Int⊕Unit)
 |0,_=>none
 |n+1,x5=>
 bif decide (x5<4) then
 bif inb x5 4 then
 bif decide ((([a1.X.A,a1.X.B,a1.Y.A,a1.Y.B]:List Int).getD x5.toNat 0)<(-600)) then
 DP x5 (zB a1 n) true
 else
 DP x5 (zB a1 n) (decide ((([a1.X.A,a1.X.B,a1.Y.A,a1.Y.B]:List Int).getD x5.toNat 0)>600))
 else none
 else
 some (Sum.inr ())
def KJ (a1:Rect) (x3:Bool):Option Int:=
 bif x3 then
 some 19
 else
 (zB a1 FUEL 0).bind λu13=>Sum.elim (λv14=>some v14) (λo11=>
 some 0) u13
def JE (a1:Rect):Option Int:=
 bif decide (a1.X.A≥a1.X.B) then
 KJ a1 true
 else
 KJ a1 (decide (a1.Y.A≥a1.Y.B))
/- sawmill/plan.check -/
def TG (a1:List qB) (a2:List Defect) (a3:List Product) (a4:Rect) (a5:Saw) (a6:Rates):Option Int:=
 (WH a1).bind λv7=>
 bif v7 !=0 then
 some v7
 else
 (WJ a2).bind λv10=>
 bif v10 !=0 then
 some v10
 else
 (wY a3).bind λv13=>
 bif v13 !=0 then
 some v13
 else
 (YI a5 a6).bind λv16=>
 bif v16 !=0 then
 some v16
 else
 (JE a4).bind λv19=>
 some v19
/- slices.Sort[[]int,int] -/
def TH (a1:List Int):Option (List Int):=
 bif Nat.blt a1.length 4611686018427387904 then some (PQ (λx y=>decide (x<=y)) a1) else none
/- slices.Compact[[]int,int] -/
def WC (x12:Int) (rec_slices_Compact_Si64_L2:(List Int)->Int->Int->Option ((List Int)×Int)) (l19:List Int) (x20:Int):Option ((List Int)×Int):=
 rec_slices_Compact_Si64_L2 l19 x20 (w64 (x12+1))
def zY (l3:List Int) (x4:Int):Nat->(List Int)->Int->Int->Option ((List Int)×Int)
 |0,_,_,_=>none
 |n+1,l10,x11,x12=>
 bif decide (x12<(((l3.length-x4.toNat):Nat):Int)) then
 bif inb x12 (l3.length-x4.toNat) then
 bif Nat.ble (x4.toNat+(l3.length-x4.toNat)) l10.length then
 bif inb (w64 (x12-1)) (l3.length-x4.toNat) then
 bif (l10.getD (x4.toNat+x12.toNat) default) !=(l10.getD (x4.toNat+((w64 (x12-1)).toNat)) default) then
 bif inb x11 l10.length then
 WC x12 (zY l3 x4 n) (l10.set x11.toNat (l10.getD (x4.toNat+x12.toNat) default)) (w64 (x11+1))
 else none
 else
 WC x12 (zY l3 x4 n) l10 x11
 else none
 else none
 else none
 else
 some (l10,x11)
def jB :Nat->(List Int)->Int->Option (((List Int)×(List Int))⊕(List Int))
 |0,_,_=>none
 |n+1,l3,x4=>
 bif decide (x4<((l3.length:Nat):Int)) then
 bif inb x4 l3.length then
 bif inb (w64 (x4-1)) l3.length then
 bif (l3.getD x4.toNat default)==(l3.getD ((w64 (x4-1)).toNat) default) then
 bif slOk x4 ((l3.length:Nat):Int) l3.length then
 (zY l3 x4 FUEL l3 x4 1).bind λo23=>
 bif slOk o23.2 ((o23.1.length:Nat):Int) o23.1.length then
 bif slOk 0 o23.2 o23.1.length then
 some (Sum.inl ((o23.1.take o23.2.toNat),(o23.1.take o23.2.toNat)))
 else none
 else none
 else none
 else
 (jB n) l3 (w64 (x4+1))
 else none
 else none
 else
 some (Sum.inr l3)
def ZN (a1:List Int):Option ((List Int)×(List Int)):=
 bif decide (((a1.length:Nat):Int)<2) then
 some (a1,a1)
 else
 (jB FUEL a1 1).bind λu30=>Sum.elim (λv31=>some v31) (λo28=>
 some (o28,o28)) u30
/- sawmill/plan.Heights -/
def JM (a1:List Product):Nat->(List Int)->Int->Option (List Int)
 |0,_,_=>none
 |n+1,l5,x6=>
 bif decide (x6<((a1.length:Nat):Int)) then
 bif inb x6 a1.length then
 (yO (a1.getD x6.toNat default)).bind λv9=>
 bif room (l5.length+2) 8 then
 (JM a1 n) (l5++([v9.1,v9.2]:List Int)) (w64 (x6+1))
 else none
 else none
 else
 some l5
def yI (a1:List Product):Option (List Int):=
 (wY a1).bind λv2=>
 bif v2 !=0 then
 some ([]:List Int)
 else
 (JM a1 FUEL ([]:List Int) 0).bind λo13=>
 (TH o13).bind λv15=>
 bif v15.length==o13.length then
 (ZN v15).bind λv18=>
 some v18.2
 else none
/- sawmill/plan.strip -/
def TW (a1:Rect) (a2:Int) (a3:Int):Option Rect:=
 some (Rect.mk a1.X (Span.mk (w64 (a1.Y.A+a2)) (w64 (a1.Y.A+a3))))
/- sawmill/edge.check -/
def LW (x22:Int) (rec_edge_check_L2:Int->Option (Int⊕Unit)) (x26:Bool):Option (Int⊕Unit):=
 bif x26 then
 some (Sum.inl 9)
 else
 rec_edge_check_L2 (w64 (x22+1))
def yP (a4:Rect):Nat->Int->Option (Int⊕Unit)
 |0,_=>none
 |n+1,x22=>
 bif decide (x22<4) then
 bif inb x22 4 then
 bif decide ((([a4.X.A,a4.X.B,a4.Y.A,a4.Y.B]:List Int).getD x22.toNat 0)<(-600)) then
 LW x22 (yP a4 n) true
 else
 LW x22 (yP a4 n) (decide ((([a4.X.A,a4.X.B,a4.Y.A,a4.Y.B]:List Int).getD x22.toNat 0)>600))
 else none
 else
 some (Sum.inr ())
def LO (a4:Rect) (x20:Bool):Option Int:=
 bif x20 then
 some 19
 else
 (yP a4 FUEL 0).bind λu30=>Sum.elim (λv31=>some v31) (λo28=>
 some 0) u30
def SR (a1:List qB) (a2:List Defect) (a3:List Product) (a4:Rect) (a5:Saw) (a6:Rates):Option Int:=
 (WH a1).bind λv7=>
 bif v7 !=0 then
 some v7
 else
 (WJ a2).bind λv10=>
 bif v10 !=0 then
 some v10
 else
 (wY a3).bind λv13=>
 bif v13 !=0 then
 some v13
 else
 (YI a5 a6).bind λv16=>
 bif v16 !=0 then
 some v16
 else
 bif decide (a4.X.A≥a4.X.B) then
 LO a4 true
 else
 LO a4 (decide (a4.Y.A≥a4.Y.B))
/- sawmill/edge.Sizes -/
def LT (x8:Int) (rec_edge_Sizes_L1:(List Int)->(List Int)->Int->Option ((List Int)×(List Int))) (l19:List Int) (l20:List Int):Option ((List Int)×(List Int)):=
 rec_edge_Sizes_L1 l19 l20 (w64 (x8+1))
def LY (l7:List Int) (x8:Int) (rec_edge_Sizes_L1:(List Int)->(List Int)->Int->Option ((List Int)×(List Int))) (l17:List Int):Option ((List Int)×(List Int)):=
 bif room (l7.length+1) 8 then
 LT x8 rec_edge_Sizes_L1 l17 (l7++([x8]:List Int))
 else none
def jA (a1:List Product) (a2:Int):Nat->(List Int)->(List Int)->Int->Option ((List Int)×(List Int))
 |0,_,_,_=>none
 |n+1,l6,l7,x8=>
 bif decide (x8<((a1.length:Nat):Int)) then
 bif inb x8 a1.length then
 (yO (a1.getD x8.toNat default)).bind λv11=>
 bif a2==v11.1 then
 bif room (l6.length+1) 8 then
 LY l7 x8 (jA a1 a2 n) (l6++([v11.2]:List Int))
 else none
 else
 bif a2==v11.2 then
 bif room (l6.length+1) 8 then
 LY l7 x8 (jA a1 a2 n) (l6++([v11.1]:List Int))
 else none
 else
 LT x8 (jA a1 a2 n) l6 l7
 else none
 else
 some (l6,l7)
def TY (a1:List Product) (a2:Int):Option ((List Int)×(List Int)):=
 (wY a1).bind λv3=>
 bif v3 !=0 then
 some (([]:List Int),([]:List Int))
 else
 (jA a1 a2 FUEL ([]:List Int) ([]:List Int) 0).bind λo23=>
 some (o23.1,o23.2)
/- sawmill/edge.part -/
def DL (a1:Rect) (a2:Int) (a3:Int):Option Rect:=
 some (Rect.mk (Span.mk (w64 (a1.X.A+a2)) (w64 (a1.X.A+a3))) a1.Y)
/- sawmill/worth.isRect -/
def jY (x2:Int) (rec_worth_isRect_L1:Int->Option (Bool⊕Unit)) (x7:Bool):Option (Bool⊕Unit):=
 bif x7 then
 some (Sum.inl false)
 else
 rec_worth_isRect_L1 (w64 (x2+1))
def wA (a1:Rect):Nat->Int->Option (Bool⊕Unit)
 |0,_=>none
 |n+1,x2=>
 bif decide (x2<2) then
 bif inb x2 2 then
 bif decide ((([a1.X.A,a1.X.B,a1.Y.A,a1.Y.B]:List Int).getD (x2.toNat*2+0) 0)<(-600)) then
 jY x2 (wA a1 n) true
 else
 bif decide ((([a1.X.A,a1.X.B,a1.Y.A,a1.Y.B]:List Int).getD (x2.toNat*2+1) 0)>600) then
 jY x2 (wA a1 n) true
 else
 jY x2 (wA a1 n) (decide ((([a1.X.A,a1.X.B,a1.Y.A,a1.Y.B]:List Int).getD (x2.toNat*2+0) 0)≥(([a1.X.A,a1.X.B,a1.Y.A,a1.Y.B]:List Int).getD (x2.toNat*2+1) 0)))
 else none
 else
 some (Sum.inr ())
def BJ (a1:Rect):Option Bool:=
 (wA a1 FUEL 0).bind λu11=>Sum.elim (λv12=>some v12) (λo9=>
 some true) u11
/- sawmill/solid.valid -/
def YG (a1:List qB):Option (List qB):=
 (WH a1).bind λv2=>
 bif v2 !=0 then
 some ([]:List qB)
 else
 some a1
/- sawmill/solid.Length -/
def QQ (v2:(List qB)):Nat->Int->Int->Option Int
 |0,_,_=>none
 |n+1,x4,x5=>
 bif decide (x5<((v2.length:Nat):Int)) then
 bif inb x5 v2.length then
 (QQ v2 n) (w64 (x4+((v2.getD x5.toNat default).Len))) (w64 (x5+1))
 else none
 else
 some x4
def QN (a1:List qB):Option Int:=
 (YG a1).bind λv2=>
 (QQ v2 FUEL 0 0).bind λo9=>
 some o9
/- sawmill/section.valid -/
def JS (a1:qF):Option qF:=
 (XV a1).bind λv2=>
 bif v2 !=0 then
 some (qF.mk 0 ([]:List Span))
 else
 some a1
/- sawmill/section.heights -/
def QT (a1:Int) (a2:Int):Option Span:=
 some (Span.mk (w64 (10*a1)) (w64 (10*a2)))
/- sawmill/span.Meet -/
def YH (a1:Span) (a2:Span):Option Span:=
 bif decide ((imax a1.A a2.A)≥(imin a1.B a2.B)) then
 some (Span.mk 0 0)
 else
 some (Span.mk (imax a1.A a2.A) (imin a1.B a2.B))
/- sawmill/span.size -/
def qCh (a1:Span):Option Int:=
 bif decide (a1.A≥a1.B) then
 some 0
 else
 some (IntKind.u64.wrap ((IntKind.u64.wrap (a1.B))-(IntKind.u64.wrap (a1.A))))
/- sawmill/span.limited -/
def SU (a1:Int):Option Int:=
 some (w64 (imin a1 9223372036854775807))
/- sawmill/span.Len -/
def JP (a1:Span):Option Int:=
 (qCh a1).bind λv2=>
 (SU v2).bind λv4=>
 some v4
/- sawmill/section.Within -/
def QX (a2:Rect) (v3:qF):Nat->Int->Int->Option Int
 |0,_,_=>none
 |n+1,x5,x6=>
 bif decide (x6<((v3.Rows.length:Nat):Int)) then
 bif inb x6 v3.Rows.length then
 (QT (w64 (v3.Low+x6)) (w64 ((w64 (v3.Low+x6))+1))).bind λv9=>
 (YH (v3.Rows.getD x6.toNat default) a2.X).bind λv11=>
 (JP v11).bind λv13=>
 (YH v9 a2.Y).bind λv15=>
 (JP v15).bind λv17=>
 (QX a2 v3 n) (w64 (x5+(w64 (v13*v17)))) (w64 (x6+1))
 else none
 else
 some x5
def YU (a1:qF) (a2:Rect):Option Int:=
 (JS a1).bind λv3=>
 (QX a2 v3 FUEL 0 0).bind λo20=>
 some o20
/- sawmill/worth.lacks -/
def YQ (a1:List qB) (a2:Rect):Nat->(List Worth_zone)->Int->Int->Option (List Worth_zone)
 |0,_,_,_=>none
 |n+1,l3,x4,x5=>
 bif decide (x5<((a1.length:Nat):Int)) then
 bif inb x5 a1.length then
 (YU ((a1.getD x5.toNat default).Sec) a2).bind λv8=>
 bif nz (w64 ((w64 (a2.X.B-a2.X.A))*(w64 (a2.Y.B-a2.Y.A)))) then
 bif room (l3.length+1) 24 then
 (YQ a1 a2 n) (l3++([(Worth_zone.mk (Span.mk x4 (w64 (x4+((a1.getD x5.toNat default).Len)))) (w64 (Int.tdiv (w64 ((w64 ((w64 (1000*(w64 ((w64 ((w64 (a2.X.B-a2.X.A))*(w64 (a2.Y.B-a2.Y.A))))-v8))))+(w64 ((w64 (a2.X.B-a2.X.A))*(w64 (a2.Y.B-a2.Y.A))))))-1)) (w64 ((w64 (a2.X.B-a2.X.A))*(w64 (a2.Y.B-a2.Y.A)))))))]:List Worth_zone)) (w64 (x4+((a1.getD x5.toNat default).Len))) (w64 (x5+1))
 else none
 else none
 else none
 else
 some l3
def LB (a1:List qB) (a2:Rect):Option (List Worth_zone):=
 (YQ a1 a2 FUEL ([]:List Worth_zone) 0 0).bind λo13=>
 some o13
/- (sawmill/worth.view).box -/
def YK (a1:Worth_view) (a2:Span):Option Box:=
 some (Box.mk a1.rect.X a1.rect.Y a2)
/- sawmill/defect.meet -/
def RE (v3:Span) (v5:Span) (v7:Span) (x17:Bool):Option (Box×Bool):=
 bif x17 then
 some ((Box.mk (Span.mk 0 0) (Span.mk 0 0) (Span.mk 0 0)),false)
 else
 some ((Box.mk v3 v5 v7),true)
def IN (a1:Box) (a2:Box):Option (Box×Bool):=
 (YH a1.X a2.X).bind λv3=>
 (YH a1.Y a2.Y).bind λv5=>
 (YH a1.Z a2.Z).bind λv7=>
 (jM v3).bind λv9=>
 bif v9 then
 RE v3 v5 v7 true
 else
 (jM v5).bind λv12=>
 bif v12 then
 RE v3 v5 v7 true
 else
 (jM v7).bind λv15=>
 RE v3 v5 v7 v15
/- sawmill/defect.Touches -/
def YT (a1:Defect) (a2:Box):Option Bool:=
 (IN a1.Box a2).bind λv3=>
 some v3.2
/- sawmill/worth.look -/
def LV (x29:Int) (rec_worth_look_L3:Int->(List Defect)->Option (List Defect)) (l37:List Defect):Option (List Defect):=
 rec_worth_look_L3 (w64 (x29+1)) l37
def ZA (a2:List Defect) (v27:Box):Nat->Int->(List Defect)->Option (List Defect)
 |0,_,_=>none
 |n+1,x29,l30=>
 bif decide (x29<((a2.length:Nat):Int)) then
 bif inb x29 a2.length then
 (YT (a2.getD x29.toNat default) v27).bind λv33=>
 bif v33 then
 bif room (l30.length+1) 56 then
 LV x29 (ZA a2 v27 n) (l30++([(a2.getD x29.toNat default)]:List Defect))
 else none
 else
 LV x29 (ZA a2 v27 n) l30
 else none
 else
 some l30
def UT (a1:List qB) (a2:List Defect) (a3:Product) (a4:Rect) (x21:Bool):Option (Worth_view×Bool):=
 bif x21 then
 some ((Worth_view.mk (Product.mk (ByteArray.mk #[]) 0 0 0 0 ([]:List Int) ([]:List Int)) (Rect.mk (Span.mk 0 0) (Span.mk 0 0)) 0 ([]:List Worth_zone) ([]:List Defect)),false)
 else
 (QN a1).bind λv23=>
 (LB a1 a4).bind λv25=>
 (YK (Worth_view.mk a3 a4 v23 v25 ([]:List Defect)) (Span.mk 0 v23)).bind λv27=>
 (ZA a2 v27 FUEL 0 ([]:List Defect)).bind λo39=>
 some ((Worth_view.mk a3 a4 v23 v25 o39),true)
def XS (a1:List qB) (a2:List Defect) (a3:Product) (a4:Rect) (x16:Bool):Option (Worth_view×Bool):=
 bif x16 then
 some ((Worth_view.mk (Product.mk (ByteArray.mk #[]) 0 0 0 0 ([]:List Int) ([]:List Int)) (Rect.mk (Span.mk 0 0) (Span.mk 0 0)) 0 ([]:List Worth_zone) ([]:List Defect)),false)
 else
 (yO a3).bind λv18=>
 bif !(((w64 (a4.X.B-a4.X.A))==v18.1)&&(((w64 (a4.Y.B-a4.Y.A))==v18.2)&&true)) then
 UT a1 a2 a3 a4 (!(((w64 (a4.X.B-a4.X.A))==v18.2)&&(((w64 (a4.Y.B-a4.Y.A))==v18.1)&&true)))
 else
 UT a1 a2 a3 a4 false
def SM (a1:List qB) (a2:List Defect) (a3:Product) (a4:Rect):Option (Worth_view×Bool):=
 (WH a1).bind λv5=>
 bif v5 !=0 then
 XS a1 a2 a3 a4 true
 else
 (WJ a2).bind λv8=>
 bif v8 !=0 then
 XS a1 a2 a3 a4 true
 else
 (wY ([a3]:List Product)).bind λv11=>
 bif v11 !=0 then
 XS a1 a2 a3 a4 true
 else
 (BJ a4).bind λv14=>
 XS a1 a2 a3 a4 (!v14)
/- sawmill/worth.isWithin -/
def JU (x5:Bool):Option Bool:=
 some x5
def BU (a1:Span) (a2:Int):Option Bool:=
 bif decide (a1.A≥0) then
 bif decide (a1.A<a1.B) then
 JU (decide (a1.B<=a2))
 else
 JU false
 else
 JU false
/- sawmill/product.Price -/
def yR (a1:Product) (a2:Int):Nat->Int->Option ((Int×Bool)⊕Unit)
 |0,_=>none
 |n+1,x3=>
 bif decide (x3<((a1.Lengths.length:Nat):Int)) then
 bif inb x3 a1.Lengths.length then
 bif (a1.Lengths.getD x3.toNat default) !=a2 then
 (yR a1 a2 n) (w64 (x3+1))
 else
 bif decide (x3≥((a1.Prices.length:Nat):Int)) then
 some (Sum.inl (0,false))
 else
 bif inb x3 a1.Prices.length then
 some (Sum.inl ((a1.Prices.getD x3.toNat default),true))
 else none
 else none
 else
 some (Sum.inr ())
def US (a1:Product) (a2:Int):Option (Int×Bool):=
 (yR a1 a2 FUEL 0).bind λu11=>Sum.elim (λv12=>some v12) (λo9=>
 some (0,false)) u11
/- sawmill/worth.worst -/
def NU (x4:Int) (rec_worth_worst_L1:Int->Int->Option Int) (x10:Int):Option Int:=
 rec_worth_worst_L1 x10 (w64 (x4+1))
def NT (a1:List Worth_zone) (x3:Int) (x4:Int) (rec_worth_worst_L1:Int->Int->Option Int) (x8:Bool):Option Int:=
 bif x8 then
 NU x4 rec_worth_worst_L1 (imax x3 ((a1.getD x4.toNat default).lack))
 else
 NU x4 rec_worth_worst_L1 x3
def jL (a1:List Worth_zone) (a2:Span):Nat->Int->Int->Option Int
 |0,_,_=>none
 |n+1,x3,x4=>
 bif decide (x4<((a1.length:Nat):Int)) then
 bif inb x4 a1.length then
 bif decide ((((a1.getD x4.toNat default).z).A)<a2.B) then
 NT a1 x3 x4 (jL a1 a2 n) (decide (a2.A<(((a1.getD x4.toNat default).z).B)))
 else
 NT a1 x3 x4 (jL a1 a2 n) false
 else none
 else
 some x3
def LG (a1:List Worth_zone) (a2:Span):Option Int:=
 (jL a1 a2 FUEL 0 0).bind λo12=>
 some o12
/- (sawmill/worth.view).worth -/
def XM (x17:Int) (rec_worth_view_worth_L2:Int->Int->Option ((Int×Bool)⊕Int)) (x24:Int):Option ((Int×Bool)⊕Int):=
 rec_worth_view_worth_L2 x24 (w64 (x17+1))
def zG (a1:Worth_view) (a3:Int) (v14:Box):Nat->Int->Int->Option ((Int×Bool)⊕Int)
 |0,_,_=>none
 |n+1,x16,x17=>
 bif decide (x17<((a1.defects.length:Nat):Int)) then
 bif inb x17 a1.defects.length then
 (YT (a1.defects.getD x17.toNat default) v14).bind λv20=>
 bif !v20 then
 XM x17 (zG a1 a3 v14 n) x16
 else
 bif ((a1.defects.getD x17.toNat default).Kind)==3 then
 some (Sum.inl (0,false))
 else
 XM x17 (zG a1 a3 v14 n) (w64 (x16-a3))
 else none
 else
 some (Sum.inr x16)
def XK (a1:Worth_view) (a2:Span) (a3:Int) (v7:Int×Bool) (x12:Bool):Option (Int×Bool):=
 bif x12 then
 some (0,false)
 else
 (YK a1 a2).bind λv14=>
 (zG a1 a3 v14 FUEL v7.1 0).bind λu28=>Sum.elim (λv29=>some v29) (λo26=>
 some (imax o26 0,true)) u28
def ZW (a1:Worth_view) (a2:Span) (a3:Int):Option (Int×Bool):=
 (BU a2 a1.length).bind λv4=>
 bif !v4 then
 some (0,false)
 else
 (US a1.product (w64 (a2.B-a2.A))).bind λv7=>
 bif !v7.2 then
 XK a1 a2 a3 v7 true
 else
 (LG a1.zones a2).bind λv10=>
 XK a1 a2 a3 v7 (decide (v10>a1.product.Wane))
/- sawmill/worth.Best -/
def LU (x24:Int) (rec_worth_Best_L3:Int->Bool->Int->Span->Option (Int×Bool×Span)) (x34:Int) (x35:Bool) (x36:Span):Option (Int×Bool×Span):=
 rec_worth_Best_L3 x34 x35 (w64 (x24+1)) x36
def UO (a3:Product) (x19:Int) (x22:Int) (x23:Bool) (x24:Int) (x25:Span) (rec_worth_Best_L3:Int->Bool->Int->Span->Option (Int×Bool×Span)) (v28:Int×Bool) (x32:Bool):Option (Int×Bool×Span):=
 bif x32 then
 LU x24 rec_worth_Best_L3 v28.1 true (Span.mk x19 (w64 (x19+(a3.Lengths.getD x24.toNat default))))
 else
 LU x24 rec_worth_Best_L3 x22 x23 x25
def wZ (a3:Product) (a6:Int) (v14:Worth_view×Bool) (x19:Int):Nat->Int->Bool->Int->Span->Option (Int×Bool×Span)
 |0,_,_,_,_=>none
 |n+1,x22,x23,x24,x25=>
 bif decide (x24<((a3.Lengths.length:Nat):Int)) then
 bif inb x24 a3.Lengths.length then
 (ZW (Worth_view.mk v14.1.product v14.1.rect v14.1.length v14.1.zones v14.1.defects) (Span.mk x19 (w64 (x19+(a3.Lengths.getD x24.toNat default)))) a6).bind λv28=>
 bif v28.2 then
 bif !x23 then
 UO a3 x19 x22 x23 x24 x25 (wZ a3 a6 v14 x19 n) v28 true
 else
 UO a3 x19 x22 x23 x24 x25 (wZ a3 a6 v14 x19 n) v28 (decide (v28.1>x22))
 else
 UO a3 x19 x22 x23 x24 x25 (wZ a3 a6 v14 x19 n) v28 false
 else none
 else
 some (x22,x23,x25)
def JT (a3:Product) (a5:Int) (a6:Int) (v14:Worth_view×Bool):Nat->Int->Bool->Int->Span->Option (Int×Bool×Span)
 |0,_,_,_,_=>none
 |n+1,x17,x18,x19,x20=>
 bif decide (x19<v14.1.length) then
 (wZ a3 a6 v14 x19 FUEL x17 x18 0 x20).bind λo40=>
 (JT a3 a5 a6 v14 n) o40.1 o40.2.1 (w64 (x19+a5)) o40.2.2
 else
 some (x17,x18,x20)
def LR (a1:List qB) (a2:List Defect) (a3:Product) (a4:Rect) (a5:Int) (a6:Int) (x12:Bool):Option (Span×Int×Bool):=
 bif x12 then
 some ((Span.mk 0 0),0,false)
 else
 (SM a1 a2 a3 a4).bind λv14=>
 bif !v14.2 then
 some ((Span.mk 0 0),0,false)
 else
 (JT a3 a5 a6 v14 FUEL 0 false 0 (Span.mk 0 0)).bind λo45=>
 some (o45.2.2,o45.1,o45.2.1)
def NW (a1:List qB) (a2:List Defect) (a3:Product) (a4:Rect) (a5:Int) (a6:Int):Option (Span×Int×Bool):=
 (RO a5).bind λv7=>
 bif !v7 then
 LR a1 a2 a3 a4 a5 a6 true
 else
 (PX a6).bind λv10=>
 LR a1 a2 a3 a4 a5 a6 (!v10)
/- sawmill/solid.extents -/
def ZV (a1:List qB):Nat->(List Span)->Int->Int->Option (List Span)
 |0,_,_,_=>none
 |n+1,l3,x4,x5=>
 bif decide (x5<((a1.length:Nat):Int)) then
 bif inb x5 a1.length then
 bif inb x5 l3.length then
 (ZV a1 n) (l3.set x5.toNat (Span.mk x4 (w64 (x4+((a1.getD x5.toNat default).Len))))) (w64 (x4+((a1.getD x5.toNat default).Len))) (w64 (x5+1))
 else none
 else none
 else
 some l3
def UR (a1:List qB):Option (List Span):=
 bif mkOk ((a1.length:Nat):Int) 16 then
 (ZV a1 FUEL (List.replicate (((a1.length:Nat):Int).toNat) (Span.mk 0 0)) 0 0).bind λo10=>
 some o10
 else none
/- sawmill/solid.Within -/
def GL (x8:Int) (rec_solid_Within_L1:Int->Int->Option Int) (x19:Int):Option Int:=
 rec_solid_Within_L1 x19 (w64 (x8+1))
def yE (a2:Box) (v3:(List qB)) (v5:(List Span)):Nat->Int->Int->Option Int
 |0,_,_=>none
 |n+1,x7,x8=>
 bif decide (x8<((v5.length:Nat):Int)) then
 bif inb x8 v5.length then
 (YH (v5.getD x8.toNat default) a2.Z).bind λv11=>
 (JP v11).bind λv13=>
 bif decide (v13>0) then
 bif inb x8 v3.length then
 (YU ((v3.getD x8.toNat default).Sec) (Rect.mk a2.X a2.Y)).bind λv17=>
 GL x8 (yE a2 v3 v5 n) (w64 (x7+(w64 (v13*v17))))
 else none
 else
 GL x8 (yE a2 v3 v5 n) x7
 else none
 else
 some x7
def yG (a1:List qB) (a2:Box):Option Int:=
 (YG a1).bind λv3=>
 (UR v3).bind λv5=>
 (yE a2 v3 v5 FUEL 0 0).bind λo21=>
 some o21
/- sawmill/edge.volume -/
def WG (a1:List qB) (a2:Rect) (a3:Span):Option Int:=
 (yG a1 (Box.mk a2.X a2.Y a3)).bind λv4=>
 some v4
/- sawmill/edge.gain -/
def CE (a1:List qB) (a2:List Defect) (a3:Product) (a4:Rect) (a5:Saw) (a6:Rates):Option Int:=
 (NW a1 a2 a3 a4 a5.Step a6.Fine).bind λv7=>
 bif !v7.2.2 then
 some (-1)
 else
 (QN a1).bind λv10=>
 (WG a1 a4 (Span.mk 0 v10)).bind λv12=>
 (WG a1 a4 v7.1).bind λv14=>
 (WG a1 a4 (Span.mk (imax 0 (w64 (v7.1.A-a5.Trim))) v7.1.A)).bind λv16=>
 (WG a1 a4 (Span.mk v7.1.B (imin (w64 (v7.1.B+a5.Trim)) v10))).bind λv18=>
 some (w64 ((w64 ((w64 (1000000*v7.2.1))+(w64 (a6.Dust*(w64 (v16+v18))))))+(w64 (a6.Chip*(w64 ((w64 (v12-v14))-(w64 (v16+v18))))))))
/- sawmill/edge.Line -/
def HT (l16:List Int) (x17:Int) (rec_edge_Line_L2:(List Int)->Int->Option (List Int)) (x27:Int):Option (List Int):=
 bif room (l16.length+1) 8 then
 rec_edge_Line_L2 (l16++([x27]:List Int)) (w64 (x17+1))
 else none
def QS (a1:List qB) (a2:List Defect) (a3:List Product) (a4:Rect) (a5:Saw) (a6:Rates) (v10:(List Int)×(List Int)) (x12:Int):Nat->(List Int)->Int->Option (List Int)
 |0,_,_=>none
 |n+1,l16,x17=>
 bif decide ((w64 (x17+(v10.1.getD x12.toNat default)))<=(w64 (a4.X.B-a4.X.A))) then
 bif nz a5.Pitch then
 bif (Int.tmod x17 a5.Pitch)==0 then
 bif inb x12 v10.2.length then
 bif inb (v10.2.getD x12.toNat default) a3.length then
 (DL a4 x17 (w64 (x17+(v10.1.getD x12.toNat default)))).bind λv23=>
 (CE a1 a2 (a3.getD (v10.2.getD x12.toNat default).toNat default) v23 a5 a6).bind λv25=>
 HT l16 x17 (QS a1 a2 a3 a4 a5 a6 v10 x12 n) v25
 else none
 else none
 else
 HT l16 x17 (QS a1 a2 a3 a4 a5 a6 v10 x12 n) (-1)
 else none
 else
 some l16
def XG (a1:List qB) (a2:List Defect) (a3:List Product) (a4:Rect) (a5:Saw) (a6:Rates) (v10:(List Int)×(List Int)):Nat->Int->(List (List Int))->Option (List (List Int))
 |0,_,_=>none
 |n+1,x12,l13=>
 bif decide (x12<((v10.1.length:Nat):Int)) then
 bif inb x12 v10.1.length then
 (QS a1 a2 a3 a4 a5 a6 v10 x12 FUEL ([]:List Int) 0).bind λo30=>
 bif room (l13.length+1) 24 then
 (XG a1 a2 a3 a4 a5 a6 v10 n) (w64 (x12+1)) (l13++([o30]:List (List Int)))
 else none
 else none
 else
 some l13
def XD (a1:List qB) (a4:Rect) (a6:Rates) (v36:Int):Nat->Int->(List Int)->(List Int)->Option ((List Int)×(List Int))
 |0,_,_,_=>none
 |n+1,x38,l39,l40=>
 bif decide (x38<(w64 (a4.X.B-a4.X.A))) then
 (DL a4 x38 (w64 (x38+1))).bind λv42=>
 (WG a1 v42 (Span.mk 0 v36)).bind λv44=>
 bif room (l39.length+1) 8 then
 bif room (l40.length+1) 8 then
 (XD a1 a4 a6 v36 n) (w64 (x38+1)) (l39++([w64 (a6.Chip*v44)]:List Int)) (l40++([w64 (a6.Dust*v44)]:List Int))
 else none
 else none
 else
 some (l39,l40)
def OS (a1:List qB) (a2:List Defect) (a3:List Product) (a4:Rect) (a5:Saw) (a6:Rates):Option (Line×Int):=
 (SR a1 a2 a3 a4 a5 a6).bind λv7=>
 bif v7 !=0 then
 some ((Line.mk 0 0 0 ([]:List Int) ([]:List (List Int)) ([]:List Int) ([]:List Int)),v7)
 else
 (TY a3 (w64 (a4.Y.B-a4.Y.A))).bind λv10=>
 (XG a1 a2 a3 a4 a5 a6 v10 FUEL 0 ([]:List (List Int))).bind λo34=>
 (QN a1).bind λv36=>
 (XD a1 a4 a6 v36 FUEL 0 ([]:List Int) ([]:List Int)).bind λo50=>
 some ((Line.mk (w64 (a4.X.B-a4.X.A)) a5.Kerf 1 v10.1 o34 o50.1 o50.2),0)
/- sawmill/cutting.measures -/
def XI (x10:Int) (rec_cutting_measures_L2:Int->Option (Int⊕Unit)) (x14:Bool):Option (Int⊕Unit):=
 bif x14 then
 some (Sum.inl 9)
 else
 rec_cutting_measures_L2 (w64 (x10+1))
def wL (a1:Line):Nat->Int->Option (Int⊕Unit)
 |0,_=>none
 |n+1,x10=>
 bif decide (x10<((a1.Sizes.length:Nat):Int)) then
 bif inb x10 a1.Sizes.length then
 bif decide ((a1.Sizes.getD x10.toNat default)<1) then
 XI x10 (wL a1 n) true
 else
 XI x10 (wL a1 n) (decide ((a1.Sizes.getD x10.toNat default)>2000))
 else none
 else
 some (Sum.inr ())
def wM (a1:Line) (x7:Bool):Option Int:=
 bif x7 then
 some 9
 else
 bif decide (((a1.Sizes.length:Nat):Int)>32) then
 some 4
 else
 (wL a1 FUEL 0).bind λu18=>Sum.elim (λv19=>some v19) (λo16=>
 some 0) u18
def XF (a1:Line):Option Int:=
 bif decide (a1.Len<0) then
 wM a1 true
 else
 bif decide (a1.Len>2000) then
 wM a1 true
 else
 bif decide (a1.Kerf<0) then
 wM a1 true
 else
 bif decide (a1.Kerf>20) then
 wM a1 true
 else
 bif decide (a1.Pitch<1) then
 wM a1 true
 else
 wM a1 (decide (a1.Pitch>2000))
/- sawmill/cutting.places -/
def NI (a1:Line) (a2:Int):Option Int:=
 some (imax 0 (w64 ((w64 (a1.Len-a2))+1)))
/- sawmill/cutting.small -/
def TD (x5:Int) (rec_cutting_small_L2:Int->Option (Bool⊕Unit)) (x9:Bool):Option (Bool⊕Unit):=
 bif x9 then
 some (Sum.inl false)
 else
 rec_cutting_small_L2 (w64 (x5+1))
def jI (a1:List (List Int)) (x2:Int):Nat->Int->Option (Bool⊕Unit)
 |0,_=>none
 |n+1,x5=>
 bif decide (x5<(((a1.getD x2.toNat default).length:Nat):Int)) then
 bif inb x5 ((a1.getD x2.toNat default).length) then
 bif decide (((a1.getD x2.toNat default).getD x5.toNat default)<(-1125899906842624)) then
 TD x5 (jI a1 x2 n) true
 else
 TD x5 (jI a1 x2 n) (decide (((a1.getD x2.toNat default).getD x5.toNat default)>1125899906842624))
 else none
 else
 some (Sum.inr ())
def ZR (a1:List (List Int)):Nat->Int->Option (Bool⊕Unit)
 |0,_=>none
 |n+1,x2=>
 bif decide (x2<((a1.length:Nat):Int)) then
 bif inb x2 a1.length then
 (jI a1 x2 FUEL 0).bind λu13=>Sum.elim (λv14=>some (Sum.inl v14)) (λo11=>
 (ZR a1 n) (w64 (x2+1))) u13
 else none
 else
 some (Sum.inr ())
def XQ (a1:List (List Int)):Option Bool:=
 (ZR a1 FUEL 0).bind λu17=>Sum.elim (λv18=>some v18) (λo15=>
 some true) u17
/- sawmill/cutting.Check -/
def ZS (a1:Line):Nat->Int->Option (Int⊕Unit)
 |0,_=>none
 |n+1,x9=>
 bif decide (x9<((a1.Gain.length:Nat):Int)) then
 bif inb x9 a1.Gain.length then
 bif inb x9 a1.Sizes.length then
 (NI a1 (a1.Sizes.getD x9.toNat default)).bind λv13=>
 bif (((a1.Gain.getD x9.toNat default).length:Nat):Int) !=v13 then
 some (Sum.inl 19)
 else
 (ZS a1 n) (w64 (x9+1))
 else none
 else none
 else
 some (Sum.inr ())
def TT (x25:Bool):Option Int:=
 bif x25 then
 some 9
 else
 some 0
def XE (a1:Line) (x7:Bool):Option Int:=
 bif x7 then
 some 19
 else
 (ZS a1 FUEL 0).bind λu18=>Sum.elim (λv19=>some v19) (λo16=>
 (XQ a1.Gain).bind λv20=>
 bif !v20 then
 TT true
 else
 (XQ ([a1.Chip,a1.Dust]:List (List Int))).bind λv23=>
 TT (!v23)) u18
def UJ (a1:Line):Option Int:=
 (XF a1).bind λv2=>
 bif v2 !=0 then
 some v2
 else
 bif ((a1.Gain.length:Nat):Int) !=((a1.Sizes.length:Nat):Int) then
 XE a1 true
 else
 bif ((a1.Chip.length:Nat):Int) !=a1.Len then
 XE a1 true
 else
 XE a1 (((a1.Dust.length:Nat):Int) !=a1.Len)
/- sawmill/cutting.sums -/
def JD (a1:List Int):Nat->(List Int)->Int->Option (List Int)
 |0,_,_=>none
 |n+1,l3,x4=>
 bif decide (x4<((a1.length:Nat):Int)) then
 bif inb x4 a1.length then
 bif inb x4 l3.length then
 bif inb (w64 (x4+1)) l3.length then
 (JD a1 n) (l3.set ((w64 (x4+1)).toNat) (w64 ((l3.getD x4.toNat default)+(a1.getD x4.toNat default)))) (w64 (x4+1))
 else none
 else none
 else none
 else
 some l3
def RJ (a1:List Int):Option (List Int):=
 bif mkOk (w64 (((a1.length:Nat):Int)+1)) 8 then
 (JD a1 FUEL (List.replicate ((w64 (((a1.length:Nat):Int)+1)).toNat) 0) 0).bind λo10=>
 some o10
 else none
/- sawmill/cutting.behind -/
def YJ (a1:Line) (a2:Int):Option Int:=
 bif a2==a1.Len then
 some (-1)
 else
 some (imin (w64 (a2+a1.Kerf)) a1.Len)
/- sawmill/cutting.start -/
def XC (x5:Int) (rec_cutting_start_L1:Int->Cutting_choice->Option Cutting_choice) (x26:Cutting_choice):Option Cutting_choice:=
 rec_cutting_start_L1 (w64 (x5+1)) x26
def TP (x5:Int) (x6:Cutting_choice) (rec_cutting_start_L1:Int->Cutting_choice->Option Cutting_choice) (x22:Cutting_choice) (x24:Bool):Option Cutting_choice:=
 bif x24 then
 XC x5 rec_cutting_start_L1 x22
 else
 XC x5 rec_cutting_start_L1 x6
def TE (x5:Int) (x6:Cutting_choice) (rec_cutting_start_L1:Int->Cutting_choice->Option Cutting_choice) (x22:Cutting_choice):Option Cutting_choice:=
 bif ((x6.piece.Size==(-1))&&((x6.piece.At==(-1))&&true)) then
 TP x5 x6 rec_cutting_start_L1 x22 true
 else
 TP x5 x6 rec_cutting_start_L1 x22 (decide (x22.value>x6.value))
def TR (a1:Line) (a2:Int) (a3:List Int) (a4:List Cutting_choice) (x5:Int) (x6:Cutting_choice) (rec_cutting_start_L1:Int->Cutting_choice->Option Cutting_choice) (x12:Bool):Option Cutting_choice:=
 bif x12 then
 XC x5 rec_cutting_start_L1 x6
 else
 bif inb x5 a1.Gain.length then
 bif inb a2 ((a1.Gain.getD x5.toNat default).length) then
 (YJ a1 (w64 (a2+(a1.Sizes.getD x5.toNat default)))).bind λv16=>
 bif decide (v16≥0) then
 bif inb v16 a3.length then
 bif inb (w64 (a2+(a1.Sizes.getD x5.toNat default))) a3.length then
 bif inb v16 a4.length then
 TE x5 x6 rec_cutting_start_L1 (Cutting_choice.mk (Piece.mk x5 a2) (w64 (((a1.Gain.getD x5.toNat default).getD a2.toNat default)+(w64 ((w64 ((a3.getD v16.toNat default)-(a3.getD (w64 (a2+(a1.Sizes.getD x5.toNat default))).toNat default)))+((a4.getD v16.toNat default).value))))))
 else none
 else none
 else none
 else
 TE x5 x6 rec_cutting_start_L1 (Cutting_choice.mk (Piece.mk x5 a2) ((a1.Gain.getD x5.toNat default).getD a2.toNat default))
 else none
 else none
def wC (a1:Line) (a2:Int) (a3:List Int) (a4:List Cutting_choice):Nat->Int->Cutting_choice->Option Cutting_choice
 |0,_,_=>none
 |n+1,x5,x6=>
 bif decide (x5<((a1.Sizes.length:Nat):Int)) then
 bif inb x5 a1.Sizes.length then
 bif decide ((w64 (a2+(a1.Sizes.getD x5.toNat default)))>a1.Len) then
 TR a1 a2 a3 a4 x5 x6 (wC a1 a2 a3 a4 n) true
 else
 bif inb x5 a1.Gain.length then
 bif inb a2 ((a1.Gain.getD x5.toNat default).length) then
 TR a1 a2 a3 a4 x5 x6 (wC a1 a2 a3 a4 n) (decide (((a1.Gain.getD x5.toNat default).getD a2.toNat default)<0))
 else none
 else none
 else none
 else
 some x6
def UP (a1:Line) (a2:Int) (a3:List Int) (a4:List Cutting_choice):Option Cutting_choice:=
 (wC a1 a2 a3 a4 FUEL 0 (Cutting_choice.mk (Piece.mk (-1) (-1)) 0)).bind λo28=>
 some o28
/- sawmill/cutting.choices -/
def KB (a1:Line) (x20:Int) (rec_cutting_choices_L4:Int->Cutting_choice->Option Cutting_choice) (x31:Cutting_choice):Option Cutting_choice:=
 rec_cutting_choices_L4 (w64 (x20+a1.Pitch)) x31
def KP (a1:Line) (v2:(List Int)) (v4:(List Int)) (l8:List Cutting_choice) (x9:Int) (v11:Cutting_choice) (x20:Int) (x21:Cutting_choice) (rec_cutting_choices_L4:Int->Cutting_choice->Option Cutting_choice) (x29:Bool):Option Cutting_choice:=
 bif x29 then
 KB a1 x20 rec_cutting_choices_L4 (Cutting_choice.mk (((l8.set x9.toNat v11).getD x20.toNat default).piece) (w64 ((((l8.set x9.toNat v11).getD x20.toNat default).value)+(w64 ((w64 ((w64 ((v2.getD ((w64 (x20-a1.Kerf)).toNat) default)-(v2.getD x9.toNat default)))+(v4.getD x20.toNat default)))-(v4.getD ((w64 (x20-a1.Kerf)).toNat) default))))))
 else
 KB a1 x20 rec_cutting_choices_L4 x21
def zX (a1:Line) (v2:(List Int)) (v4:(List Int)) (l8:List Cutting_choice) (x9:Int) (v11:Cutting_choice):Nat->Int->Cutting_choice->Option Cutting_choice
 |0,_,_=>none
 |n+1,x20,x21=>
 bif decide (x20<=a1.Len) then
 bif inb x20 l8.length then
 bif inb (w64 (x20-a1.Kerf)) v2.length then
 bif inb x9 v2.length then
 bif inb x20 v4.length then
 bif inb (w64 (x20-a1.Kerf)) v4.length then
 bif !((((((l8.set x9.toNat v11).getD x20.toNat default).piece).Size)==(-1))&&((((((l8.set x9.toNat v11).getD x20.toNat default).piece).At)==(-1))&&true)) then
 KP a1 v2 v4 l8 x9 v11 x20 x21 (zX a1 v2 v4 l8 x9 v11 n) (decide ((w64 ((((l8.set x9.toNat v11).getD x20.toNat default).value)+(w64 ((w64 ((w64 ((v2.getD ((w64 (x20-a1.Kerf)).toNat) default)-(v2.getD x9.toNat default)))+(v4.getD x20.toNat default)))-(v4.getD ((w64 (x20-a1.Kerf)).toNat) default)))))>x21.value))
 else
 KP a1 v2 v4 l8 x9 v11 x20 x21 (zX a1 v2 v4 l8 x9 v11 n) false
 else none
 else none
 else none
 else none
 else none
 else
 some x21
def KF (a1:Line) (v2:(List Int)) (v4:(List Int)) (l7:List Cutting_choice) (l8:List Cutting_choice) (x9:Int) (rec_cutting_choices_L1:(List Cutting_choice)->(List Cutting_choice)->Int->Option (List Cutting_choice)) (v11:Cutting_choice) (x19:Cutting_choice):Option (List Cutting_choice):=
 (zX a1 v2 v4 l8 x9 v11 FUEL (w64 ((w64 (x9+a1.Pitch))+a1.Kerf)) x19).bind λo33=>
 bif inb x9 l7.length then
 rec_cutting_choices_L1 (l7.set x9.toNat o33) (l8.set x9.toNat v11) (w64 (x9-1))
 else none
def XZ (a1:Line) (v2:(List Int)) (v4:(List Int)) (l7:List Cutting_choice) (l8:List Cutting_choice) (x9:Int) (rec_cutting_choices_L1:(List Cutting_choice)->(List Cutting_choice)->Int->Option (List Cutting_choice)) (v11:Cutting_choice) (x17:Bool):Option (List Cutting_choice):=
 bif x17 then
 KF a1 v2 v4 l7 l8 x9 rec_cutting_choices_L1 v11 ((l8.set x9.toNat v11).getD x9.toNat default)
 else
 KF a1 v2 v4 l7 l8 x9 rec_cutting_choices_L1 v11 (Cutting_choice.mk (Piece.mk (-1) (-1)) (w64 ((v2.getD a1.Len.toNat default)-(v2.getD x9.toNat default))))
def wG (a1:Line) (v2:(List Int)) (v4:(List Int)):Nat->(List Cutting_choice)->(List Cutting_choice)->Int->Option (List Cutting_choice)
 |0,_,_,_=>none
 |n+1,l7,l8,x9=>
 bif decide (x9≥0) then
 (UP a1 x9 v4 l7).bind λv11=>
 bif inb x9 l8.length then
 bif inb a1.Len v2.length then
 bif inb x9 v2.length then
 bif !((((((l8.set x9.toNat v11).getD x9.toNat default).piece).Size)==(-1))&&((((((l8.set x9.toNat v11).getD x9.toNat default).piece).At)==(-1))&&true)) then
 XZ a1 v2 v4 l7 l8 x9 (wG a1 v2 v4 n) v11 (decide ((((l8.set x9.toNat v11).getD x9.toNat default).value)>(w64 ((v2.getD a1.Len.toNat default)-(v2.getD x9.toNat default)))))
 else
 XZ a1 v2 v4 l7 l8 x9 (wG a1 v2 v4 n) v11 false
 else none
 else none
 else none
 else
 some l7
def KN (a1:Line):Option (List Cutting_choice):=
 (RJ a1.Chip).bind λv2=>
 (RJ a1.Dust).bind λv4=>
 bif mkOk (w64 (a1.Len+1)) 24 then
 (wG a1 v2 v4 FUEL (List.replicate ((w64 (a1.Len+1)).toNat) (Cutting_choice.mk (Piece.mk 0 0) 0)) (List.replicate ((w64 (a1.Len+1)).toNat) (Cutting_choice.mk (Piece.mk 0 0) 0)) a1.Len).bind λo37=>
 some o37
 else none
/- sawmill/cutting.Best -/
def WY (a1:Line) (v5:(List Cutting_choice)):Nat->(List Piece)->Int->Option (List Piece)
 |0,_,_=>none
 |n+1,l7,x8=>
 bif decide (x8≥0) then
 bif inb x8 v5.length then
 bif (((((v5.getD x8.toNat default).piece).Size)==(-1))&&(((((v5.getD x8.toNat default).piece).At)==(-1))&&true)) then
 some l7
 else
 bif room (l7.length+1) 16 then
 bif inb (((v5.getD x8.toNat default).piece).Size) a1.Sizes.length then
 (YJ a1 (w64 ((((v5.getD x8.toNat default).piece).At)+(a1.Sizes.getD (((v5.getD x8.toNat default).piece).Size).toNat default)))).bind λv14=>
 (WY a1 v5 n) (l7++([(v5.getD x8.toNat default).piece]:List Piece)) v14
 else none
 else none
 else none
 else
 some l7
def QI (a1:Line):Option ((List Piece)×Int×Int):=
 (UJ a1).bind λv2=>
 bif v2 !=0 then
 some (([]:List Piece),0,v2)
 else
 (KN a1).bind λv5=>
 (WY a1 v5 FUEL ([]:List Piece) 0).bind λo17=>
 bif inb 0 v5.length then
 some (o17,(v5.getD ((0:Int).toNat) default).value,0)
 else none
/- slices.Clone[[]sawmill/api.Node,sawmill/api.Node] -/
def WP (a1:List Node):Option (List Node):=
 bif room a1.length 16 then some a1 else none
/- sawmill/edge.collect -/
def GP (a1:List (List Node)) (a2:List Node):Option ((List (List Node))×(List (List Node))):=
 (WP a2).bind λv3=>
 bif room (a1.length+1) 24 then
 some ((a1++([v3]:List (List Node))),(a1++([v3]:List (List Node))))
 else none
/- sawmill/pattern.isRip -/
def TQ (x3:Bool):Option Bool:=
 some x3
def wE (a1:Int):Option Bool:=
 bif a1==2 then
 TQ true
 else
 TQ (a1==3)
/- sawmill/pattern.isFrame -/
def wH (x2:Int) (rec_pattern_isFrame_L1:Int->Option (Bool⊕Unit)) (x7:Bool):Option (Bool⊕Unit):=
 bif x7 then
 some (Sum.inl false)
 else
 rec_pattern_isFrame_L1 (w64 (x2+1))
def qY (a1:Rect):Nat->Int->Option (Bool⊕Unit)
 |0,_=>none
 |n+1,x2=>
 bif decide (x2<2) then
 bif inb x2 2 then
 bif decide ((([a1.X.A,a1.X.B,a1.Y.A,a1.Y.B]:List Int).getD (x2.toNat*2+0) 0)<(-600)) then
 wH x2 (qY a1 n) true
 else
 bif decide ((([a1.X.A,a1.X.B,a1.Y.A,a1.Y.B]:List Int).getD (x2.toNat*2+1) 0)>600) then
 wH x2 (qY a1 n) true
 else
 wH x2 (qY a1 n) (decide ((([a1.X.A,a1.X.B,a1.Y.A,a1.Y.B]:List Int).getD (x2.toNat*2+0) 0)≥(([a1.X.A,a1.X.B,a1.Y.A,a1.Y.B]:List Int).getD (x2.toNat*2+1) 0)))
 else none
 else
 some (Sum.inr ())
def jF (a1:Rect):Option Bool:=
 (qY a1 FUEL 0).bind λu11=>Sum.elim (λv12=>some v12) (λo9=>
 some true) u11
/- sawmill/pattern.along -/
def QZ (a1:Rect) (a2:Int):Option Span:=
 bif a2==2 then
 some a1.X
 else
 some a1.Y
/- sawmill/pattern.Row$1 -/
def jK (a1:List Node) (a2:Int) (a3:List Node):Option (Int×(List Node)):=
 bif decide ((w64 (a2+((a1.length:Nat):Int)))<=127) then
 bif room (a3.length+a1.length) 16 then
 some (w64 (a2+((a1.length:Nat):Int)),(a3++a1))
 else none
 else
 some (w64 (a2+((a1.length:Nat):Int)),a3)
/- sawmill/pattern.Row -/
def NH (a5:List (List Node)) (x21:Int) (rec_pattern_Row_L3:Int->Bool->Int->(List Node)->Int->Option (((List Node)×Int)⊕(Bool×(List Node)×Int))) (x40:Int) (x41:Bool) (l42:List Node) (x43:Int):Option (((List Node)×Int)⊕(Bool×(List Node)×Int)):=
 bif inb x21 a5.length then
 (jK (a5.getD x21.toNat default) x43 l42).bind λv45=>
 rec_pattern_Row_L3 x40 x41 (w64 (x21+1)) v45.2 v45.1
 else none
def PY (a2:Int) (a3:Int) (a4:List Span) (a5:List (List Node)) (v17:Span) (x19:Int) (x20:Bool) (x21:Int) (rec_pattern_Row_L3:Int->Bool->Int->(List Node)->Int->Option (((List Node)×Int)⊕(Bool×(List Node)×Int))) (l35:List Node) (x36:Int):Option (((List Node)×Int)⊕(Bool×(List Node)×Int)):=
 bif decide (((a4.getD x21.toNat default).B)<v17.B) then
 (jK ([(Node.mk a2 ((a4.getD x21.toNat default).B))]:List Node) x36 l35).bind λv38=>
 NH a5 x21 rec_pattern_Row_L3 (imin (w64 (((a4.getD x21.toNat default).B)+a3)) v17.B) x20 v38.2 v38.1
 else
 NH a5 x21 rec_pattern_Row_L3 x19 true l35 x36
def PT (a2:Int) (a3:Int) (a4:List Span) (a5:List (List Node)) (v17:Span) (x19:Int) (x20:Bool) (x21:Int) (l22:List Node) (x23:Int) (rec_pattern_Row_L3:Int->Bool->Int->(List Node)->Int->Option (((List Node)×Int)⊕(Bool×(List Node)×Int))) (x29:Bool):Option (((List Node)×Int)⊕(Bool×(List Node)×Int)):=
 bif x29 then
 some (Sum.inl (([]:List Node),11))
 else
 bif decide (((a4.getD x21.toNat default).B)>v17.B) then
 some (Sum.inl (([]:List Node),20))
 else
 bif decide (((a4.getD x21.toNat default).A)>x19) then
 (jK ([(Node.mk a2 (w64 (((a4.getD x21.toNat default).A)-a3))),(Node.mk 0 0)]:List Node) x23 l22).bind λv33=>
 PY a2 a3 a4 a5 v17 x19 x20 x21 rec_pattern_Row_L3 v33.2 v33.1
 else
 PY a2 a3 a4 a5 v17 x19 x20 x21 rec_pattern_Row_L3 l22 x23
def zZ (a2:Int) (a3:Int) (a4:List Span) (a5:List (List Node)) (v17:Span):Nat->Int->Bool->Int->(List Node)->Int->Option (((List Node)×Int)⊕(Bool×(List Node)×Int))
 |0,_,_,_,_,_=>none
 |n+1,x19,x20,x21,l22,x23=>
 bif decide (x21<((a4.length:Nat):Int)) then
 bif inb x21 a4.length then
 bif decide (((a4.getD x21.toNat default).A)≥((a4.getD x21.toNat default).B)) then
 some (Sum.inl (([]:List Node),19))
 else
 bif x20 then
 PT a2 a3 a4 a5 v17 x19 x20 x21 l22 x23 (zZ a2 a3 a4 a5 v17 n) true
 else
 bif ((a4.getD x21.toNat default).A) !=x19 then
 PT a2 a3 a4 a5 v17 x19 x20 x21 l22 x23 (zZ a2 a3 a4 a5 v17 n) (decide (((a4.getD x21.toNat default).A)<(w64 ((w64 (x19+a3))+1))))
 else
 PT a2 a3 a4 a5 v17 x19 x20 x21 l22 x23 (zZ a2 a3 a4 a5 v17 n) false
 else none
 else
 some (Sum.inr (x20,l22,x23))
def RQ (x57:Int) (l58:List Node):Option ((List Node)×Int):=
 bif decide (x57>127) then
 some (([]:List Node),4)
 else
 some (l58,0)
def NA (a1:Rect) (a2:Int) (a3:Int) (a4:List Span) (a5:List (List Node)) (x15:Bool):Option ((List Node)×Int):=
 bif x15 then
 some (([]:List Node),9)
 else
 (QZ a1 a2).bind λv17=>
 (zZ a2 a3 a4 a5 v17 FUEL v17.A false 0 ([]:List Node) 0).bind λu52=>Sum.elim (λv53=>some v53) (λo50=>
 bif !o50.1 then
 (jK ([(Node.mk 0 0)]:List Node) o50.2.2 o50.2.1).bind λv55=>
 RQ v55.1 v55.2
 else
 RQ o50.2.2 o50.2.1) u52
def NP (a1:Rect) (a2:Int) (a3:Int) (a4:List Span) (a5:List (List Node)) (x12:Bool):Option ((List Node)×Int):=
 bif x12 then
 some (([]:List Node),19)
 else
 bif decide (a3<0) then
 NA a1 a2 a3 a4 a5 true
 else
 NA a1 a2 a3 a4 a5 (decide (a3>20))
def WD (a1:Rect) (a2:Int) (a3:Int) (a4:List Span) (a5:List (List Node)):Option ((List Node)×Int):=
 (wE a2).bind λv6=>
 bif !v6 then
 some (([]:List Node),10)
 else
 (jF a1).bind λv9=>
 bif !v9 then
 NP a1 a2 a3 a4 a5 true
 else
 NP a1 a2 a3 a4 a5 (((a4.length:Nat):Int) !=((a5.length:Nat):Int))
/- sawmill/edge.Best -/
def RD (a4:Rect) (v10:(List Piece)×Int×Int) (v13:(List Int)×(List Int)):Nat->(List Span)->(List (List Node))->Int->Option ((List Span)×(List (List Node)))
 |0,_,_,_=>none
 |n+1,l15,l16,x17=>
 bif decide (x17<((v10.1.length:Nat):Int)) then
 bif inb x17 v10.1.length then
 bif inb ((v10.1.getD x17.toNat default).Size) v13.1.length then
 (DL a4 ((v10.1.getD x17.toNat default).At) (w64 (((v10.1.getD x17.toNat default).At)+(v13.1.getD (((v10.1.getD x17.toNat default).Size).toNat) default)))).bind λv21=>
 bif room (l15.length+1) 16 then
 bif inb ((v10.1.getD x17.toNat default).Size) v13.2.length then
 (GP l16 ([(Node.mk 1 (v13.2.getD (((v10.1.getD x17.toNat default).Size).toNat) default))]:List Node)).bind λv25=>
 (RD a4 v10 v13 n) (l15++([v21.X]:List Span)) v25.2 (w64 (x17+1))
 else none
 else none
 else none
 else none
 else
 some (l15,l16)
def OO (a1:List qB) (a2:List Defect) (a3:List Product) (a4:Rect) (a5:Saw) (a6:Rates):Option ((List Node)×Int×Int):=
 (OS a1 a2 a3 a4 a5 a6).bind λv7=>
 bif v7.2 !=0 then
 some (([]:List Node),0,v7.2)
 else
 (QI (Line.mk v7.1.Len v7.1.Kerf v7.1.Pitch v7.1.Sizes v7.1.Gain v7.1.Chip v7.1.Dust)).bind λv10=>
 bif v10.2.2 !=0 then
 some (([]:List Node),0,v10.2.2)
 else
 (TY a3 (w64 (a4.Y.B-a4.Y.A))).bind λv13=>
 (RD a4 v10 v13 FUEL ([]:List Span) ([]:List (List Node)) 0).bind λo29=>
 (WD a4 2 a5.Kerf o29.1 o29.2).bind λv31=>
 bif v31.2 !=0 then
 some (([]:List Node),0,v31.2)
 else
 some (v31.1,v10.2.1,0)
/- sawmill/plan.hasBoard$1 -/
def GM (a1:Node):Option Bool:=
 some (a1.Kind==1)
/- slices.IndexFunc[[]sawmill/api.Node,sawmill/api.Node] -/
def wK (a1:List Node):Nat->Int->Option (Int⊕Unit)
 |0,_=>none
 |n+1,x2=>
 bif decide (x2<((a1.length:Nat):Int)) then
 bif inb x2 a1.length then
 (GM (a1.getD x2.toNat default)).bind λv5=>
 bif v5 then
 some (Sum.inl x2)
 else
 (wK a1 n) (w64 (x2+1))
 else none
 else
 some (Sum.inr ())
def WE (a1:List Node):Option Int:=
 (wK a1 FUEL 0).bind λu10=>Sum.elim (λv11=>some v11) (λo8=>
 some (-1)) u10
/- slices.ContainsFunc[[]sawmill/api.Node,sawmill/api.Node] -/
def QE (a1:List Node):Option Bool:=
 (WE a1).bind λv2=>
 some (decide (v2≥0))
/- sawmill/plan.hasBoard -/
def UL (a1:List Node):Option Bool:=
 (QE a1).bind λv2=>
 some v2
/- sawmill/plan.volume -/
def VB (a1:List qB) (a2:Rect):Option Int:=
 (QN a1).bind λv3=>
 (yG a1 (Box.mk a2.X a2.Y (Span.mk 0 v3))).bind λv5=>
 some v5
/- sawmill/plan.line -/
def BB (l14:List Int) (l15:List (List Node)) (x16:Int) (rec_plan_line_L2:(List Int)->(List (List Node))->Int->Option ((List Int)×(List (List Node)))) (x30:Int) (l31:List Node):Option ((List Int)×(List (List Node))):=
 bif room (l14.length+1) 8 then
 bif room (l15.length+1) 24 then
 rec_plan_line_L2 (l14++([x30]:List Int)) (l15++([l31]:List (List Node))) (w64 (x16+1))
 else none
 else none
def ED (l14:List Int) (l15:List (List Node)) (x16:Int) (rec_plan_line_L2:(List Int)->(List (List Node))->Int->Option ((List Int)×(List (List Node)))) (v22:(List Node)×Int×Int) (x27:Bool):Option ((List Int)×(List (List Node))):=
 bif x27 then
 BB l14 l15 x16 rec_plan_line_L2 v22.2.1 v22.1
 else
 BB l14 l15 x16 rec_plan_line_L2 (-1) ([]:List Node)
def jH (a1:List qB) (a2:List Defect) (a3:List Product) (a4:Rect) (a5:Saw) (a6:Rates) (v7:(List Int)) (x10:Int):Nat->(List Int)->(List (List Node))->Int->Option ((List Int)×(List (List Node)))
 |0,_,_,_=>none
 |n+1,l14,l15,x16=>
 bif decide ((w64 (x16+(v7.getD x10.toNat default)))<=(w64 (a4.Y.B-a4.Y.A))) then
 bif nz a5.Pitch then
 bif (Int.tmod x16 a5.Pitch)==0 then
 (TW a4 x16 (w64 (x16+(v7.getD x10.toNat default)))).bind λv20=>
 (OO a1 a2 a3 v20 a5 a6).bind λv22=>
 bif v22.2.2==0 then
 (UL v22.1).bind λv25=>
 ED l14 l15 x16 (jH a1 a2 a3 a4 a5 a6 v7 x10 n) v22 v25
 else
 ED l14 l15 x16 (jH a1 a2 a3 a4 a5 a6 v7 x10 n) v22 false
 else
 BB l14 l15 x16 (jH a1 a2 a3 a4 a5 a6 v7 x10 n) (-1) ([]:List Node)
 else none
 else
 some (l14,l15)
def PR (a1:List qB) (a2:List Defect) (a3:List Product) (a4:Rect) (a5:Saw) (a6:Rates) (v7:(List Int)):Nat->(List (List (List Node)))->Int->(List (List Int))->Option ((List (List (List Node)))×(List (List Int)))
 |0,_,_,_=>none
 |n+1,l9,x10,l11=>
 bif decide (x10<((v7.length:Nat):Int)) then
 bif inb x10 v7.length then
 (jH a1 a2 a3 a4 a5 a6 v7 x10 FUEL ([]:List Int) ([]:List (List Node)) 0).bind λo36=>
 bif room (l11.length+1) 24 then
 bif room (l9.length+1) 24 then
 (PR a1 a2 a3 a4 a5 a6 v7 n) (l9++([o36.2]:List (List (List Node)))) (w64 (x10+1)) (l11++([o36.1]:List (List Int)))
 else none
 else none
 else none
 else
 some (l9,l11)
def PZ (a1:List qB) (a4:Rect) (a6:Rates):Nat->Int->(List Int)->(List Int)->Option ((List Int)×(List Int))
 |0,_,_,_=>none
 |n+1,x44,l45,l46=>
 bif decide (x44<(w64 (a4.Y.B-a4.Y.A))) then
 (TW a4 x44 (w64 (x44+1))).bind λv48=>
 (VB a1 v48).bind λv50=>
 bif room (l45.length+1) 8 then
 bif room (l46.length+1) 8 then
 (PZ a1 a4 a6 n) (w64 (x44+1)) (l45++([w64 (a6.Chip*v50)]:List Int)) (l46++([w64 (a6.Dust*v50)]:List Int))
 else none
 else none
 else
 some (l45,l46)
def OK (a1:List qB) (a2:List Defect) (a3:List Product) (a4:Rect) (a5:Saw) (a6:Rates):Option (Line×(List (List (List Node)))):=
 (yI a3).bind λv7=>
 (PR a1 a2 a3 a4 a5 a6 v7 FUEL ([]:List (List (List Node))) 0 ([]:List (List Int))).bind λo42=>
 (PZ a1 a4 a6 FUEL 0 ([]:List Int) ([]:List Int)).bind λo56=>
 some ((Line.mk (w64 (a4.Y.B-a4.Y.A)) a5.Kerf 1 v7 o42.2 o56.1 o56.2),o42.1)
/- sawmill/plan.collect -/
def GR (a1:List Node) (a2:List (List Node)):Option ((List (List Node))×(List (List Node))):=
 bif room (a2.length+1) 24 then
 some ((a2++([a1]:List (List Node))),(a2++([a1]:List (List Node))))
 else none
/- sawmill/section.Area -/
def WW (v2:qF):Nat->Int->Int->Option Int
 |0,_,_=>none
 |n+1,x4,x5=>
 bif decide (x5<((v2.Rows.length:Nat):Int)) then
 bif inb x5 v2.Rows.length then
 (JP (v2.Rows.getD x5.toNat default)).bind λv8=>
 (WW v2 n) (w64 (x4+v8)) (w64 (x5+1))
 else none
 else
 some x4
def DV (a1:qF):Option Int:=
 (JS a1).bind λv2=>
 (WW v2 FUEL 0 0).bind λo11=>
 some (w64 (10*o11))
/- sawmill/solid.Volume -/
def JA (v2:(List qB)):Nat->Int->Int->Option Int
 |0,_,_=>none
 |n+1,x4,x5=>
 bif decide (x5<((v2.length:Nat):Int)) then
 bif inb x5 v2.length then
 (DV ((v2.getD x5.toNat default).Sec)).bind λv8=>
 (JA v2 n) (w64 (x4+(w64 (((v2.getD x5.toNat default).Len)*v8)))) (w64 (x5+1))
 else none
 else
 some x4
def RT (a1:List qB):Option Int:=
 (YG a1).bind λv2=>
 (JA v2 FUEL 0 0).bind λo11=>
 some o11
/- sawmill/plan.Best -/
def RA (a4:Rect) (v10:Line×(List (List (List Node)))) (v12:(List Piece)×Int×Int):Nat->(List Span)->(List (List Node))->Int->Option ((List Span)×(List (List Node)))
 |0,_,_,_=>none
 |n+1,l15,l16,x17=>
 bif decide (x17<((v12.1.length:Nat):Int)) then
 bif inb x17 v12.1.length then
 bif inb ((v12.1.getD x17.toNat default).Size) v10.1.Sizes.length then
 (TW a4 ((v12.1.getD x17.toNat default).At) (w64 (((v12.1.getD x17.toNat default).At)+(v10.1.Sizes.getD (((v12.1.getD x17.toNat default).Size).toNat) default)))).bind λv21=>
 bif room (l15.length+1) 16 then
 bif inb ((v12.1.getD x17.toNat default).Size) v10.2.length then
 bif inb ((v12.1.getD x17.toNat default).At) ((v10.2.getD (((v12.1.getD x17.toNat default).Size).toNat) default).length) then
 (GR ((v10.2.getD (((v12.1.getD x17.toNat default).Size).toNat) default).getD ((v12.1.getD x17.toNat default).At).toNat default) l16).bind λv26=>
 (RA a4 v10 v12 n) (l15++([v21.Y]:List Span)) v26.2 (w64 (x17+1))
 else none
 else none
 else none
 else none
 else none
 else
 some (l15,l16)
def RV (a1:List qB) (a2:List Defect) (a3:List Product) (a4:Rect) (a5:Saw) (a6:Rates):Option (Pattern×Int×Int):=
 (TG a1 a2 a3 a4 a5 a6).bind λv7=>
 bif v7 !=0 then
 some ((Pattern.mk (Rect.mk (Span.mk 0 0) (Span.mk 0 0)) ([]:List Node)),0,v7)
 else
 (OK a1 a2 a3 a4 a5 a6).bind λv10=>
 (QI (Line.mk v10.1.Len v10.1.Kerf v10.1.Pitch v10.1.Sizes v10.1.Gain v10.1.Chip v10.1.Dust)).bind λv12=>
 bif v12.2.2 !=0 then
 some ((Pattern.mk (Rect.mk (Span.mk 0 0) (Span.mk 0 0)) ([]:List Node)),0,v12.2.2)
 else
 (RA a4 v10 v12 FUEL ([]:List Span) ([]:List (List Node)) 0).bind λo30=>
 (WD a4 3 a5.Kerf o30.1 o30.2).bind λv32=>
 bif v32.2 !=0 then
 some ((Pattern.mk (Rect.mk (Span.mk 0 0) (Span.mk 0 0)) ([]:List Node)),0,13)
 else
 (RT a1).bind λv35=>
 (VB a1 a4).bind λv37=>
 some ((Pattern.mk a4 v32.1),w64 (v12.2.1+(w64 (a6.Chip*(w64 (v35-v37))))),0)
/- sawmill/sawmilllaw24.best -/
def TJ (a1:Law24_Given):Option (Pattern×Int×Int):=
 (RV a1.Solid a1.Defects a1.Products a1.Frame a1.Saw a1.Rates).bind λv2=>
 some ((Pattern.mk v2.1.Frame v2.1.Nodes),v2.2.1,v2.2.2)
/- sawmill/section.Bounds -/
def PP (x6:Int) (rec_section_Bounds_L1:Int->Span->Option Span) (x13:Span):Option Span:=
 rec_section_Bounds_L1 (w64 (x6+1)) x13
def jD (v2:qF):Nat->Int->Span->Option Span
 |0,_,_=>none
 |n+1,x6,x7=>
 bif decide (x6<((v2.Rows.length:Nat):Int)) then
 bif inb x6 v2.Rows.length then
 (QL (v2.Rows.getD x6.toNat default)).bind λv10=>
 bif !v10 then
 PP x6 (jD v2 n) (Span.mk (imin x7.A ((v2.Rows.getD x6.toNat default).A)) (imax x7.B ((v2.Rows.getD x6.toNat default).B)))
 else
 PP x6 (jD v2 n) x7
 else none
 else
 some x7
def RM (a1:qF):Option Rect:=
 (JS a1).bind λv2=>
 bif ((v2.Rows.length:Nat):Int)==0 then
 some (Rect.mk (Span.mk 0 0) (Span.mk 0 0))
 else
 bif inb 0 v2.Rows.length then
 (jD v2 FUEL 0 (v2.Rows.getD (0:Int).toNat default)).bind λo15=>
 (QT v2.Low (w64 (v2.Low+((v2.Rows.length:Nat):Int)))).bind λv17=>
 some (Rect.mk o15 v17)
 else none
/- sawmill/solid.Bounds -/
def GK (x4:Int) (rec_solid_Bounds_L1:Int->Rect->Option Rect) (v8:Rect) (x11:Rect):Option Rect:=
 rec_solid_Bounds_L1 (w64 (x4+1)) (Rect.mk (Span.mk (imin x11.X.A v8.X.A) (imax x11.X.B v8.X.B)) (Span.mk (imin x11.Y.A v8.Y.A) (imax x11.Y.B v8.Y.B)))
def jE (v2:(List qB)):Nat->Int->Rect->Option Rect
 |0,_,_=>none
 |n+1,x4,x5=>
 bif decide (x4<((v2.length:Nat):Int)) then
 bif inb x4 v2.length then
 (RM ((v2.getD x4.toNat default).Sec)).bind λv8=>
 bif x4==0 then
 GK x4 (jE v2 n) v8 v8
 else
 GK x4 (jE v2 n) v8 x5
 else none
 else
 some x5
def SH (a1:List qB):Option Rect:=
 (YG a1).bind λv2=>
 (jE v2 FUEL 0 (Rect.mk (Span.mk 0 0) (Span.mk 0 0))).bind λo13=>
 some o13
/- sawmill/plan.Frame -/
def JV (a1:List qB):Option Rect:=
 (SH a1).bind λv2=>
 some v2
/- sawmill/plan.tree -/
def qBq (x3:Int) (rec_plan_tree_L1:Int->Int->Option (Int⊕Unit)) (x9:Int):Option (Int⊕Unit):=
 bif x9==0 then
 some (Sum.inl (w64 (x3+1)))
 else
 rec_plan_tree_L1 x9 (w64 (x3+1))
def qA8 (x2:Int) (x3:Int) (rec_plan_tree_L1:Int->Int->Option (Int⊕Unit)) (x7:Bool):Option (Int⊕Unit):=
 bif x7 then
 qBq x3 rec_plan_tree_L1 (w64 ((w64 (x2-1))+2))
 else
 qBq x3 rec_plan_tree_L1 (w64 (x2-1))
def RU (a1:List Node):Nat->Int->Int->Option (Int⊕Unit)
 |0,_,_=>none
 |n+1,x2,x3=>
 bif decide (x3<((a1.length:Nat):Int)) then
 bif inb x3 a1.length then
 bif ((a1.getD x3.toNat default).Kind)==2 then
 qA8 x2 x3 (RU a1 n) true
 else
 qA8 x2 x3 (RU a1 n) (((a1.getD x3.toNat default).Kind)==3)
 else none
 else
 some (Sum.inr ())
def qFO (a1:List Node):Option Int:=
 (RU a1 FUEL 1 0).bind λu13=>Sum.elim (λv14=>some v14) (λo11=>
 some ((a1.length:Nat):Int)) u13
/- slices.Equal[[]sawmill/api.Node,sawmill/api.Node] -/
def RK (a1:List Node) (a2:List Node):Nat->Int->Option (Bool⊕Unit)
 |0,_=>none
 |n+1,x4=>
 bif decide (x4<((a1.length:Nat):Int)) then
 bif inb x4 a1.length then
 bif inb x4 a2.length then
 bif !((((a1.getD x4.toNat default).Kind)==((a2.getD x4.toNat default).Kind))&&((((a1.getD x4.toNat default).At)==((a2.getD x4.toNat default).At))&&true)) then
 some (Sum.inl false)
 else
 (RK a1 a2 n) (w64 (x4+1))
 else none
 else none
 else
 some (Sum.inr ())
def BQ (a1:List Node) (a2:List Node):Option Bool:=
 bif ((a1.length:Nat):Int) !=((a2.length:Nat):Int) then
 some false
 else
 (RK a1 a2 FUEL 0).bind λu11=>Sum.elim (λv12=>some v12) (λo9=>
 some true) u11
/- sawmill/plan.row -/
def qDe (l11:List Node) (rec_plan_row_L2:(List Span)->(List (List Node))->Int->(List Node)->Option ((List Span)×(List (List Node))×Int×(List Node))) (v18:Int) (l27:List Span) (l28:List (List Node)) (x29:Int):Option ((List Span)×(List (List Node))×Int×(List Node)):=
 bif slOk v18 (((l11.drop ((1:Int).toNat)).length:Nat):Int) (l11.drop ((1:Int).toNat)).length then
 rec_plan_row_L2 l27 l28 x29 ((l11.drop ((1:Int).toNat)).drop v18.toNat)
 else none
def qDl (a3:Int) (x7:Span) (l8:List Span) (l9:List (List Node)) (x10:Int) (l11:List Node) (rec_plan_row_L2:(List Span)->(List (List Node))->Int->(List Node)->Option ((List Span)×(List (List Node))×Int×(List Node))) (v18:Int) (x22:Bool):Option ((List Span)×(List (List Node))×Int×(List Node)):=
 bif x22 then
 qDe l11 rec_plan_row_L2 v18 l8 l9 (w64 (((l11.getD (0:Int).toNat default).At)+a3))
 else
 bif room (l8.length+1) 16 then
 bif slOk 0 v18 (l11.drop ((1:Int).toNat)).length then
 bif room (l9.length+1) 24 then
 qDe l11 rec_plan_row_L2 v18 (l8++([(Span.mk x10 ((l11.getD (0:Int).toNat default).At))]:List Span)) (l9++([((l11.drop ((1:Int).toNat)).take v18.toNat)]:List (List Node))) (imin (w64 (((l11.getD (0:Int).toNat default).At)+a3)) x7.B)
 else none
 else none
 else none
def qC9 (a3:Int) (x7:Span) (l8:List Span) (l9:List (List Node)) (x10:Int) (l11:List Node) (rec_plan_row_L2:(List Span)->(List (List Node))->Int->(List Node)->Option ((List Span)×(List (List Node))×Int×(List Node))) (x14:Bool):Option ((List Span)×(List (List Node))×Int×(List Node)):=
 bif x14 then
 bif inb 0 l11.length then
 bif slOk 1 ((l11.length:Nat):Int) l11.length then
 (qFO (l11.drop ((1:Int).toNat))).bind λv18=>
 bif v18==1 then
 bif inb 0 ((l11.drop ((1:Int).toNat)).length) then
 qDl a3 x7 l8 l9 x10 l11 rec_plan_row_L2 v18 ((((l11.drop ((1:Int).toNat)).getD (0:Int).toNat default).Kind)==0)
 else none
 else
 qDl a3 x7 l8 l9 x10 l11 rec_plan_row_L2 v18 false
 else none
 else none
 else
 some (l8,l9,x10,l11)
def KY (a2:Int) (a3:Int) (x7:Span):Nat->(List Span)->(List (List Node))->Int->(List Node)->Option ((List Span)×(List (List Node))×Int×(List Node))
 |0,_,_,_,_=>none
 |n+1,l8,l9,x10,l11=>
 bif decide (((l11.length:Nat):Int)>0) then
 bif inb 0 l11.length then
 qC9 a3 x7 l8 l9 x10 l11 (KY a2 a3 x7 n) (((l11.getD (0:Int).toNat default).Kind)==a2)
 else none
 else
 qC9 a3 x7 l8 l9 x10 l11 (KY a2 a3 x7 n) false
def qDc (l43:List Span) (l44:List (List Node)) (x50:Bool):Option ((List Span)×(List (List Node))×Bool):=
 bif x50 then
 some (([]:List Span),([]:List (List Node)),false)
 else
 some (l43,l44,true)
def qC6 (a1:Rect) (a2:Int) (a3:Int) (a4:List Node) (l43:List Span) (l44:List (List Node)):Option ((List Span)×(List (List Node))×Bool):=
 (WD a1 a2 a3 l43 l44).bind λv45=>
 bif v45.2 !=0 then
 qDc l43 l44 true
 else
 (BQ a4 v45.1).bind λv48=>
 qDc l43 l44 (!v48)
def qDf (a1:Rect) (a2:Int) (a3:Int) (a4:List Node) (x7:Span) (o35:(List Span)×(List (List Node))×Int×(List Node)) (x39:Bool):Option ((List Span)×(List (List Node))×Bool):=
 bif x39 then
 bif room (o35.1.length+1) 16 then
 bif room (o35.2.1.length+1) 24 then
 qC6 a1 a2 a3 a4 (o35.1++([(Span.mk o35.2.2.1 x7.B)]:List Span)) (o35.2.1++([o35.2.2.2]:List (List Node)))
 else none
 else none
 else
 qC6 a1 a2 a3 a4 o35.1 o35.2.1
def qDa (a1:Rect) (a2:Int) (a3:Int) (a4:List Node) (x7:Span):Option ((List Span)×(List (List Node))×Bool):=
 (KY a2 a3 x7 FUEL ([]:List Span) ([]:List (List Node)) x7.A a4).bind λo35=>
 bif decide (((o35.2.2.2.length:Nat):Int)>0) then
 bif inb 0 o35.2.2.2.length then
 qDf a1 a2 a3 a4 x7 o35 (((o35.2.2.2.getD (0:Int).toNat default).Kind) !=0)
 else none
 else
 qDf a1 a2 a3 a4 x7 o35 false
def qEJ (a1:Rect) (a2:Int) (a3:Int) (a4:List Node):Option ((List Span)×(List (List Node))×Bool):=
 bif decide (((a4.length:Nat):Int)>127) then
 some (([]:List Span),([]:List (List Node)),false)
 else
 bif a2==3 then
 qDa a1 a2 a3 a4 a1.Y
 else
 qDa a1 a2 a3 a4 a1.X
/- slices.Index[[]int,int] -/
def TV (a1:List Int) (a2:Int):Nat->Int->Option (Int⊕Unit)
 |0,_=>none
 |n+1,x3=>
 bif decide (x3<((a1.length:Nat):Int)) then
 bif inb x3 a1.length then
 bif a2==(a1.getD x3.toNat default) then
 some (Sum.inl x3)
 else
 (TV a1 a2 n) (w64 (x3+1))
 else none
 else
 some (Sum.inr ())
def FL (a1:List Int) (a2:Int):Option Int:=
 (TV a1 a2 FUEL 0).bind λu9=>Sum.elim (λv10=>some v10) (λo7=>
 some (-1)) u9
/- slices.Contains[[]int,int] -/
def UB (a1:List Int) (a2:Int):Option Bool:=
 (FL a1 a2).bind λv3=>
 some (decide (v3≥0))
/- sawmill/plan.isStrip -/
def GA (x23:Int) (rec_plan_isStrip_L4:Bool->Int->Option Bool) (x31:Bool):Option Bool:=
 rec_plan_isStrip_L4 x31 (w64 (x23+1))
def JJ (v5:(List Span)×(List (List Node))×Bool) (v10:(List Int)×(List Int)) (x12:Int):Nat->Bool->Int->Option Bool
 |0,_,_=>none
 |n+1,x22,x23=>
 bif decide (x23<((v10.1.length:Nat):Int)) then
 bif inb x23 v10.1.length then
 bif x22 then
 GA x23 (JJ v5 v10 x12 n) true
 else
 bif (v10.1.getD x23.toNat default)==(w64 (((v5.1.getD x12.toNat default).B)-((v5.1.getD x12.toNat default).A))) then
 bif inb x23 v10.2.length then
 bif inb x12 v5.2.1.length then
 bif inb 0 ((v5.2.1.getD x12.toNat default).length) then
 GA x23 (JJ v5 v10 x12 n) ((v10.2.getD x23.toNat default)==(((v5.2.1.getD x12.toNat default).getD (0:Int).toNat default).At))
 else none
 else none
 else none
 else
 GA x23 (JJ v5 v10 x12 n) false
 else none
 else
 some x22
def GQ (v5:(List Span)×(List (List Node))×Bool) (v10:(List Int)×(List Int)) (x12:Int) (rec_plan_isStrip_L2:Int->Option (Bool⊕Unit)) (x20:Bool):Option (Bool⊕Unit):=
 bif x20 then
 some (Sum.inl false)
 else
 (JJ v5 v10 x12 FUEL false 0).bind λo33=>
 bif !o33 then
 some (Sum.inl false)
 else
 rec_plan_isStrip_L2 (w64 (x12+1))
def JO (a1:Rect) (a3:Saw) (v5:(List Span)×(List (List Node))×Bool) (v10:(List Int)×(List Int)):Nat->Int->Option (Bool⊕Unit)
 |0,_=>none
 |n+1,x12=>
 bif decide (x12<((v5.1.length:Nat):Int)) then
 bif inb x12 v5.1.length then
 bif nz a3.Pitch then
 bif (Int.tmod (w64 (((v5.1.getD x12.toNat default).A)-a1.X.A)) a3.Pitch) !=0 then
 GQ v5 v10 x12 (JO a1 a3 v5 v10 n) true
 else
 bif inb x12 v5.2.1.length then
 bif (((v5.2.1.getD x12.toNat default).length:Nat):Int) !=1 then
 GQ v5 v10 x12 (JO a1 a3 v5 v10 n) true
 else
 bif inb 0 ((v5.2.1.getD x12.toNat default).length) then
 GQ v5 v10 x12 (JO a1 a3 v5 v10 n) ((((v5.2.1.getD x12.toNat default).getD (0:Int).toNat default).Kind) !=1)
 else none
 else none
 else none
 else none
 else
 some (Sum.inr ())
def EA (a1:Rect) (a2:List Product) (a3:Saw) (v5:(List Span)×(List (List Node))×Bool) (x8:Bool):Option Bool:=
 bif x8 then
 some false
 else
 (TY a2 (w64 (a1.Y.B-a1.Y.A))).bind λv10=>
 (JO a1 a3 v5 v10 FUEL 0).bind λu38=>Sum.elim (λv39=>some v39) (λo36=>
 some true) u38
def qBn (a1:Rect) (a2:List Product) (a3:Saw) (a4:List Node):Option Bool:=
 (qEJ a1 2 a3.Kerf a4).bind λv5=>
 bif !v5.2.2 then
 EA a1 a2 a3 v5 true
 else
 EA a1 a2 a3 v5 (((v5.1.length:Nat):Int)==0)
/- sawmill/plan.Member -/
def AV (a1:Pattern) (a2:List Product) (a3:Saw) (v14:(List Span)×(List (List Node))×Bool) (x19:Int) (rec_plan_Member_L2:Int->Option (Bool⊕Unit)) (x26:Bool):Option (Bool⊕Unit):=
 bif x26 then
 some (Sum.inl false)
 else
 bif inb x19 v14.2.1.length then
 (qBn (Rect.mk a1.Frame.X (v14.1.getD x19.toNat default)) a2 a3 (v14.2.1.getD x19.toNat default)).bind λv29=>
 bif !v29 then
 some (Sum.inl false)
 else
 rec_plan_Member_L2 (w64 (x19+1))
 else none
def RS (a1:Pattern) (a2:List Product) (a3:Saw) (v14:(List Span)×(List (List Node))×Bool) (v17:(List Int)):Nat->Int->Option (Bool⊕Unit)
 |0,_=>none
 |n+1,x19=>
 bif decide (x19<((v14.1.length:Nat):Int)) then
 bif inb x19 v14.1.length then
 bif nz a3.Pitch then
 bif (Int.tmod (w64 (((v14.1.getD x19.toNat default).A)-a1.Frame.Y.A)) a3.Pitch) !=0 then
 AV a1 a2 a3 v14 x19 (RS a1 a2 a3 v14 v17 n) true
 else
 (UB v17 (w64 (((v14.1.getD x19.toNat default).B)-((v14.1.getD x19.toNat default).A)))).bind λv24=>
 AV a1 a2 a3 v14 x19 (RS a1 a2 a3 v14 v17 n) (!v24)
 else none
 else none
 else
 some (Sum.inr ())
def NO (a1:Pattern) (a2:List Product) (a3:Saw) (x12:Bool):Option Bool:=
 bif x12 then
 some false
 else
 (qEJ a1.Frame 3 a3.Kerf a1.Nodes).bind λv14=>
 bif !v14.2.2 then
 some false
 else
 (yI a2).bind λv17=>
 (RS a1 a2 a3 v14 v17 FUEL 0).bind λu34=>Sum.elim (λv35=>some v35) (λo32=>
 some true) u34
def LD (a1:Pattern) (a2:List Product) (a3:Saw):Option Bool:=
 (wY a2).bind λv4=>
 bif v4 !=0 then
 NO a1 a2 a3 true
 else
 (YI a3 (Rates.mk 0 0 0)).bind λv7=>
 bif v7 !=0 then
 NO a1 a2 a3 true
 else
 (JE a1.Frame).bind λv10=>
 NO a1 a2 a3 (v10 !=0)
/- sawmill/sawmilllaw24.awake -/
def qU (x28:Bool):Option Bool:=
 some x28
def PC :Option Bool:=
 (YW 97).bind λv1=>
 (TJ (Law24_Given.mk v1.Solid v1.Defects v1.Products v1.Frame v1.Saw v1.Rates)).bind λv3=>
 (YW 96).bind λv5=>
 (TJ (Law24_Given.mk v5.Solid v5.Defects v5.Products v5.Frame v5.Saw v5.Rates)).bind λv7=>
 (yI v1.Products).bind λv9=>
 (JV v1.Solid).bind λv11=>
 bif v3.2.2==0 then
 bif v3.2.1==140000000 then
 bif v7.2.2==0 then
 bif v7.2.1==70000000 then
 bif ((v9.length:Nat):Int)==2 then
 bif inb 0 v9.length then
 bif (v9.getD ((0:Int).toNat) default)==42 then
 bif inb 1 v9.length then
 bif (v9.getD ((1:Int).toNat) default)==105 then
 bif (((v11.X.A==(-100))&&((v11.X.B==100)&&true))&&(((v11.Y.A==(-100))&&((v11.Y.B==100)&&true))&&true)) then
 bif ((v3.1.Nodes.length:Nat):Int)==9 then
 bif inb 0 v3.1.Nodes.length then
 bif ((((v3.1.Nodes.getD ((0:Int).toNat) default).Kind)==3)&&((((v3.1.Nodes.getD ((0:Int).toNat) default).At)==42)&&true)) then
 (LD (Pattern.mk v3.1.Frame v3.1.Nodes) v1.Products v1.Saw).bind λv26=>
 qU v26
 else
 qU false
 else none
 else
 qU false
 else
 qU false
 else
 qU false
 else none
 else
 qU false
 else none
 else
 qU false
 else
 qU false
 else
 qU false
 else
 qU false
 else
 qU false
/- sawmill/sawmillref02.digit -/
def NM (x3:Bool):Option Bool:=
 some x3
def LF (a1:Int):Option Bool:=
 bif decide (a1≥48) then
 NM (decide (a1<=57))
 else
 NM false
/- sawmill/sawmillref02.IsName -/
def JC (x5:Int) (rec_ref02_IsName_L2:Int->Option (Bool⊕Unit)) (x16:Bool):Option (Bool⊕Unit):=
 bif x16 then
 some (Sum.inl false)
 else
 rec_ref02_IsName_L2 (w64 (x5+1))
def GF (a1:ByteArray) (x5:Int) (rec_ref02_IsName_L2:Int->Option (Bool⊕Unit)) (x9:Bool):Option (Bool⊕Unit):=
 bif !x9 then
 bif x5==0 then
 JC x5 rec_ref02_IsName_L2 true
 else
 bif inb x5 a1.size then
 bif (strAt a1 x5.toNat) !=95 then
 (LF (strAt a1 x5.toNat)).bind λv14=>
 JC x5 rec_ref02_IsName_L2 (!v14)
 else
 JC x5 rec_ref02_IsName_L2 false
 else none
 else
 JC x5 rec_ref02_IsName_L2 false
def wQ (a1:ByteArray):Nat->Int->Option (Bool⊕Unit)
 |0,_=>none
 |n+1,x5=>
 bif decide (x5<((a1.size:Nat):Int)) then
 bif inb x5 a1.size then
 bif decide ((strAt a1 x5.toNat)≥97) then
 GF a1 x5 (wQ a1 n) (decide ((strAt a1 x5.toNat)<=122))
 else
 GF a1 x5 (wQ a1 n) false
 else none
 else
 some (Sum.inr ())
def GN (a1:ByteArray) (x3:Bool):Option Bool:=
 bif x3 then
 some false
 else
 (wQ a1 FUEL 0).bind λu20=>Sum.elim (λv21=>some v21) (λo18=>
 some true) u20
def DO (a1:ByteArray):Option Bool:=
 bif decide (((a1.size:Nat):Int)<1) then
 GN a1 true
 else
 GN a1 (decide (((a1.size:Nat):Int)>16))
/- sawmill/sawmillref19.sized -/
def YS (x5:Bool):Option Bool:=
 some x5
def IR (a1:Product):Option Bool:=
 bif decide (a1.Thick≥1) then
 bif decide (a1.Thick<=600) then
 bif decide (a1.Width≥1) then
 YS (decide (a1.Width<=600))
 else
 YS false
 else
 YS false
 else
 YS false
/- sawmill/sawmillref19.Green -/
def RF (a1:Product) (x6:Bool):Option (Int×Int):=
 bif x6 then
 some (0,0)
 else
 some (w64 (Int.tdiv (w64 ((w64 (a1.Thick*(w64 (1000+a1.Allow))))+999)) 1000),w64 (Int.tdiv (w64 ((w64 (a1.Width*(w64 (1000+a1.Allow))))+999)) 1000))
def PE (a1:Product):Option (Int×Int):=
 (IR a1).bind λv2=>
 bif !v2 then
 RF a1 true
 else
 bif decide (a1.Allow<0) then
 RF a1 true
 else
 RF a1 (decide (a1.Allow>200))
/- sawmill/sawmillref19.checkLengths -/
def JG (x5:Int) (rec_ref19_checkLengths_L1:Int->Option (Int⊕Unit)) (x14:Bool):Option (Int⊕Unit):=
 bif x14 then
 some (Sum.inl 11)
 else
 rec_ref19_checkLengths_L1 (w64 (x5+1))
def JN (a1:Product) (x5:Int) (rec_ref19_checkLengths_L1:Int->Option (Int⊕Unit)) (x9:Bool):Option (Int⊕Unit):=
 bif x9 then
 some (Sum.inl 9)
 else
 bif decide (x5>0) then
 bif inb x5 a1.Lengths.length then
 bif inb (w64 (x5-1)) a1.Lengths.length then
 JG x5 rec_ref19_checkLengths_L1 (decide ((a1.Lengths.getD x5.toNat default)<=(a1.Lengths.getD (w64 (x5-1)).toNat default)))
 else none
 else none
 else
 JG x5 rec_ref19_checkLengths_L1 false
def zJ (a1:Product):Nat->Int->Option (Int⊕Unit)
 |0,_=>none
 |n+1,x5=>
 bif decide (x5<((a1.Lengths.length:Nat):Int)) then
 bif inb x5 a1.Lengths.length then
 bif decide ((a1.Lengths.getD x5.toNat default)<100) then
 JN a1 x5 (zJ a1 n) true
 else
 JN a1 x5 (zJ a1 n) (decide ((a1.Lengths.getD x5.toNat default)>20000))
 else none
 else
 some (Sum.inr ())
def JF (x20:Int) (rec_ref19_checkLengths_L4:Int->Option (Int⊕Unit)) (x24:Bool):Option (Int⊕Unit):=
 bif x24 then
 some (Sum.inl 9)
 else
 rec_ref19_checkLengths_L4 (w64 (x20+1))
def zR (a1:Product):Nat->Int->Option (Int⊕Unit)
 |0,_=>none
 |n+1,x20=>
 bif decide (x20<((a1.Prices.length:Nat):Int)) then
 bif inb x20 a1.Prices.length then
 bif decide ((a1.Prices.getD x20.toNat default)<0) then
 JF x20 (zR a1 n) true
 else
 JF x20 (zR a1 n) (decide ((a1.Prices.getD x20.toNat default)>1000000))
 else none
 else
 some (Sum.inr ())
def WN (a1:Product):Option Int:=
 bif ((a1.Lengths.length:Nat):Int)==0 then
 some 3
 else
 bif decide (((a1.Lengths.length:Nat):Int)>8) then
 some 4
 else
 bif ((a1.Prices.length:Nat):Int) !=((a1.Lengths.length:Nat):Int) then
 some 19
 else
 (zJ a1 FUEL 0).bind λu18=>Sum.elim (λv19=>some v19) (λo16=>
 (zR a1 FUEL 0).bind λu28=>Sum.elim (λv29=>some v29) (λo26=>
 some 0) u28) u18
/- sawmill/sawmillref19.Check -/
def WB (a1:List Product) (x3:Int):Nat->Int->Option (Int⊕Unit)
 |0,_=>none
 |n+1,x9=>
 bif decide (x9<x3) then
 bif inb x9 a1.length then
 bif strEq ((a1.getD x9.toNat default).Name) ((a1.getD x3.toNat default).Name) then
 some (Sum.inl 7)
 else
 (WB a1 x3 n) (w64 (x9+1))
 else none
 else
 some (Sum.inr ())
def jC (a1:List Product) (x3:Int) (rec_ref19_Check_L1:Int->Option (Int⊕Unit)) (x24:Bool):Option (Int⊕Unit):=
 bif x24 then
 some (Sum.inl 9)
 else
 (PE (a1.getD x3.toNat default)).bind λv26=>
 bif decide (v26.2>600) then
 some (Sum.inl 9)
 else
 (WN (a1.getD x3.toNat default)).bind λv29=>
 bif v29 !=0 then
 some (Sum.inl v29)
 else
 rec_ref19_Check_L1 (w64 (x3+1))
def zM (a1:List Product):Nat->Int->Option (Int⊕Unit)
 |0,_=>none
 |n+1,x3=>
 bif decide (x3<((a1.length:Nat):Int)) then
 bif inb x3 a1.length then
 (DO ((a1.getD x3.toNat default).Name)).bind λv6=>
 bif !v6 then
 some (Sum.inl 6)
 else
 (WB a1 x3 FUEL 0).bind λu15=>Sum.elim (λv16=>some (Sum.inl v16)) (λo13=>
 bif decide (((a1.getD x3.toNat default).Thick)<5) then
 jC a1 x3 (zM a1 n) true
 else
 bif decide (((a1.getD x3.toNat default).Thick)>300) then
 jC a1 x3 (zM a1 n) true
 else
 bif decide (((a1.getD x3.toNat default).Width)<((a1.getD x3.toNat default).Thick)) then
 jC a1 x3 (zM a1 n) true
 else
 bif decide (((a1.getD x3.toNat default).Width)>600) then
 jC a1 x3 (zM a1 n) true
 else
 bif decide (((a1.getD x3.toNat default).Allow)<0) then
 jC a1 x3 (zM a1 n) true
 else
 bif decide (((a1.getD x3.toNat default).Allow)>200) then
 jC a1 x3 (zM a1 n) true
 else
 bif decide (((a1.getD x3.toNat default).Wane)<0) then
 jC a1 x3 (zM a1 n) true
 else
 jC a1 x3 (zM a1 n) (decide (((a1.getD x3.toNat default).Wane)>1000))) u15
 else none
 else
 some (Sum.inr ())
def UU (a1:List Product):Option Int:=
 bif decide (((a1.length:Nat):Int)>16) then
 some 4
 else
 (zM a1 FUEL 0).bind λu34=>Sum.elim (λv35=>some v35) (λo32=>
 some 0) u34
/- sawmill/sawmillref24.add -/
def DK (a1:List Int) (x5:Int) (rec_ref24_add_L1:(List Int)->Bool->Int->Option ((List Int)×Bool)) (l15:List Int) (x16:Bool):Option ((List Int)×Bool):=
 bif inb x5 a1.length then
 bif room (l15.length+1) 8 then
 rec_ref24_add_L1 (l15++([(a1.getD x5.toNat default)]:List Int)) x16 (w64 (x5+1))
 else none
 else none
def HU (a1:List Int) (x5:Int) (rec_ref24_add_L1:(List Int)->Bool->Int->Option ((List Int)×Bool)) (l14:List Int):Option ((List Int)×Bool):=
 DK a1 x5 rec_ref24_add_L1 l14 true
def DJ (a1:List Int) (a2:Int) (l3:List Int) (x4:Bool) (x5:Int) (rec_ref24_add_L1:(List Int)->Bool->Int->Option ((List Int)×Bool)) (x9:Bool):Option ((List Int)×Bool):=
 bif x9 then
 bif inb x5 a1.length then
 bif decide ((a1.getD x5.toNat default)>a2) then
 bif room (l3.length+1) 8 then
 HU a1 x5 rec_ref24_add_L1 (l3++([a2]:List Int))
 else none
 else
 HU a1 x5 rec_ref24_add_L1 l3
 else none
 else
 DK a1 x5 rec_ref24_add_L1 l3 x4
def yM (a1:List Int) (a2:Int):Nat->(List Int)->Bool->Int->Option ((List Int)×Bool)
 |0,_,_,_=>none
 |n+1,l3,x4,x5=>
 bif decide (x5<((a1.length:Nat):Int)) then
 bif !x4 then
 bif inb x5 a1.length then
 DJ a1 a2 l3 x4 x5 (yM a1 a2 n) (decide ((a1.getD x5.toNat default)≥a2))
 else none
 else
 DJ a1 a2 l3 x4 x5 (yM a1 a2 n) false
 else
 some (l3,x4)
def EJ (l25:List Int):Option (List Int):=
 some l25
def HP (a1:List Int) (a2:Int):Option (List Int):=
 (yM a1 a2 FUEL ([]:List Int) false 0).bind λo21=>
 bif !o21.2 then
 bif room (o21.1.length+1) 8 then
 EJ (o21.1++([a2]:List Int))
 else none
 else
 EJ o21.1
/- sawmill/sawmillref24.Heights -/
def ZP (a1:List Product):Nat->(List Int)->Int->Option (List Int)
 |0,_,_=>none
 |n+1,l5,x6=>
 bif decide (x6<((a1.length:Nat):Int)) then
 bif inb x6 a1.length then
 (PE (a1.getD x6.toNat default)).bind λv9=>
 (HP l5 v9.1).bind λv11=>
 (HP v11 v9.2).bind λv13=>
 (ZP a1 n) v13 (w64 (x6+1))
 else none
 else
 some l5
def XW (a1:List Product):Option (List Int):=
 (UU a1).bind λv2=>
 bif v2 !=0 then
 some ([]:List Int)
 else
 (ZP a1 FUEL ([]:List Int) 0).bind λo16=>
 some o16
/- sawmill/sawmilllaw24.sameInts -/
def QY (a1:List Int) (a2:List Int):Nat->Int->Option (Bool⊕Unit)
 |0,_=>none
 |n+1,x4=>
 bif decide (x4<((a1.length:Nat):Int)) then
 bif inb x4 a1.length then
 bif inb x4 a2.length then
 bif (a1.getD x4.toNat default) !=(a2.getD x4.toNat default) then
 some (Sum.inl false)
 else
 (QY a1 a2 n) (w64 (x4+1))
 else none
 else none
 else
 some (Sum.inr ())
def YV (a1:List Int) (a2:List Int):Option Bool:=
 bif ((a1.length:Nat):Int) !=((a2.length:Nat):Int) then
 some false
 else
 (QY a1 a2 FUEL 0).bind λu11=>Sum.elim (λv12=>some v12) (λo9=>
 some true) u11
/- sawmill/sawmillref10.beyond -/
def GH (x3:Bool):Option Bool:=
 some x3
def RC (a1:Int):Option Bool:=
 bif decide (a1<(-600)) then
 GH true
 else
 GH (decide (a1>600))
/- sawmill/sawmillref10.empty -/
def PA (a1:Span):Option Bool:=
 some (decide (a1.A≥a1.B))
/- sawmill/sawmillref10.Check -/
def NR (x6:Int) (rec_ref10_Check_L2:Int->Option (Int⊕Unit)) (x14:Bool):Option (Int⊕Unit):=
 bif x14 then
 some (Sum.inl 9)
 else
 rec_ref10_Check_L2 (w64 (x6+1))
def jR (a1:qF):Nat->Int->Option (Int⊕Unit)
 |0,_=>none
 |n+1,x6=>
 bif decide (x6<((a1.Rows.length:Nat):Int)) then
 bif inb x6 a1.Rows.length then
 (RC ((a1.Rows.getD x6.toNat default).A)).bind λv9=>
 bif v9 then
 NR x6 (jR a1 n) true
 else
 (RC ((a1.Rows.getD x6.toNat default).B)).bind λv12=>
 NR x6 (jR a1 n) v12
 else none
 else
 some (Sum.inr ())
def ND (x31:Int) (rec_ref10_Check_L5:Int->Option (Int⊕Unit)) (x37:Bool):Option (Int⊕Unit):=
 bif x37 then
 some (Sum.inl 19)
 else
 rec_ref10_Check_L5 (w64 (x31+1))
def jQ (a1:qF):Nat->Int->Option (Int⊕Unit)
 |0,_=>none
 |n+1,x31=>
 bif decide (x31<((a1.Rows.length:Nat):Int)) then
 bif inb x31 a1.Rows.length then
 (PA (a1.Rows.getD x31.toNat default)).bind λv34=>
 bif v34 then
 ND x31 (jQ a1 n) (!((((a1.Rows.getD x31.toNat default).A)==0)&&((((a1.Rows.getD x31.toNat default).B)==0)&&true)))
 else
 ND x31 (jQ a1 n) false
 else none
 else
 some (Sum.inr ())
def NK (a1:qF) (x29:Bool):Option Int:=
 bif x29 then
 some 19
 else
 (jQ a1 FUEL 0).bind λu41=>Sum.elim (λv42=>some v42) (λo39=>
 some 0) u41
def BZ (a1:qF) (x4:Bool):Option Int:=
 bif x4 then
 some 9
 else
 (jR a1 FUEL 0).bind λu18=>Sum.elim (λv19=>some v19) (λo16=>
 bif ((a1.Rows.length:Nat):Int)==0 then
 bif a1.Low !=0 then
 some 19
 else
 some 0
 else
 bif inb 0 a1.Rows.length then
 (PA (a1.Rows.getD (0:Int).toNat default)).bind λv23=>
 bif v23 then
 NK a1 true
 else
 bif inb (w64 (((a1.Rows.length:Nat):Int)-1)) a1.Rows.length then
 (PA (a1.Rows.getD (w64 (((a1.Rows.length:Nat):Int)-1)).toNat default)).bind λv27=>
 NK a1 v27
 else none
 else none) u18
def UV (a1:qF):Option Int:=
 bif decide (((a1.Rows.length:Nat):Int)>120) then
 some 4
 else
 bif decide (a1.Low<(-60)) then
 BZ a1 true
 else
 BZ a1 (decide (a1.Low>(w64 (60-((a1.Rows.length:Nat):Int)))))
/- sawmill/sawmillref11.Check -/
def BX (a1:List qB) (x4:Int) (x5:Int) (rec_ref11_Check_L1:Int->Int->Option (Int⊕Unit)) (x13:Bool):Option (Int⊕Unit):=
 bif x13 then
 some (Sum.inl 9)
 else
 rec_ref11_Check_L1 (w64 (x4+((a1.getD x5.toNat default).Len))) (w64 (x5+1))
def jP (a1:List qB):Nat->Int->Int->Option (Int⊕Unit)
 |0,_,_=>none
 |n+1,x4,x5=>
 bif decide (x5<((a1.length:Nat):Int)) then
 bif inb x5 a1.length then
 (UV ((a1.getD x5.toNat default).Sec)).bind λv8=>
 bif v8 !=0 then
 some (Sum.inl v8)
 else
 bif (((((a1.getD x5.toNat default).Sec).Rows).length:Nat):Int)==0 then
 some (Sum.inl 18)
 else
 bif decide (((a1.getD x5.toNat default).Len)<1) then
 BX a1 x4 x5 (jP a1 n) true
 else
 BX a1 x4 x5 (jP a1 n) (decide (((a1.getD x5.toNat default).Len)>(w64 (20000-x4))))
 else none
 else
 some (Sum.inr ())
def UX (a1:List qB):Option Int:=
 bif ((a1.length:Nat):Int)==0 then
 some 3
 else
 bif decide (((a1.length:Nat):Int)>24) then
 some 4
 else
 (jP a1 FUEL 0 0).bind λu17=>Sum.elim (λv18=>some v18) (λo15=>
 some 0) u17
/- sawmill/sawmillref10.Valid -/
def LE (a1:qF):Option qF:=
 (UV a1).bind λv2=>
 bif v2 !=0 then
 some (qF.mk 0 ([]:List Span))
 else
 some a1
/- sawmill/sawmillref10.Bounds -/
def VX (x6:Int) (rec_ref10_Bounds_L1:Int->Span->Option Span) (x13:Span):Option Span:=
 rec_ref10_Bounds_L1 (w64 (x6+1)) x13
def jZ (v2:qF):Nat->Int->Span->Option Span
 |0,_,_=>none
 |n+1,x6,x7=>
 bif decide (x6<((v2.Rows.length:Nat):Int)) then
 bif inb x6 v2.Rows.length then
 (PA (v2.Rows.getD x6.toNat default)).bind λv10=>
 bif !v10 then
 VX x6 (jZ v2 n) (Span.mk (imin x7.A ((v2.Rows.getD x6.toNat default).A)) (imax x7.B ((v2.Rows.getD x6.toNat default).B)))
 else
 VX x6 (jZ v2 n) x7
 else none
 else
 some x7
def PV (a1:qF):Option Rect:=
 (LE a1).bind λv2=>
 bif ((v2.Rows.length:Nat):Int)==0 then
 some (Rect.mk (Span.mk 0 0) (Span.mk 0 0))
 else
 bif inb 0 v2.Rows.length then
 (jZ v2 FUEL 0 (v2.Rows.getD (0:Int).toNat default)).bind λo15=>
 some (Rect.mk o15 (Span.mk (w64 (10*v2.Low)) (w64 (10*(w64 (v2.Low+((v2.Rows.length:Nat):Int)))))))
 else none
/- sawmill/sawmillref11.Bounds -/
def JI (a1:List qB):Nat->Int->Rect->Option Rect
 |0,_,_=>none
 |n+1,x8,x9=>
 bif decide (x8<((a1.length:Nat):Int)) then
 bif inb x8 a1.length then
 (PV ((a1.getD x8.toNat default).Sec)).bind λv12=>
 (JI a1 n) (w64 (x8+1)) (Rect.mk (Span.mk (imin x9.X.A v12.X.A) (imax x9.X.B v12.X.B)) (Span.mk (imin x9.Y.A v12.Y.A) (imax x9.Y.B v12.Y.B)))
 else none
 else
 some x9
def EG (a1:List qB):Option Rect:=
 (UX a1).bind λv2=>
 bif v2 !=0 then
 some (Rect.mk (Span.mk 0 0) (Span.mk 0 0))
 else
 bif inb 0 a1.length then
 (PV ((a1.getD (0:Int).toNat default).Sec)).bind λv6=>
 (JI a1 FUEL 1 v6).bind λo15=>
 some o15
 else none
/- sawmill/sawmillref24.Frame -/
def UZ (a1:List qB):Option Rect:=
 (EG a1).bind λv2=>
 some v2
/- sawmill/sawmilllaw24.PlanHeights -/
def wW (x26:Bool):Option Bool:=
 some x26
def TL (a1:List Product) (a2:List qB) (x8:Bool):Option Bool:=
 bif x8 then
 (PC).bind λv10=>
 some v10
 else
 (yI a1).bind λv12=>
 (XW a1).bind λv14=>
 (YV v12 v14).bind λv16=>
 bif v16 then
 (JV a2).bind λv19=>
 (UZ a2).bind λv21=>
 bif (((v19.X.A==v21.X.A)&&((v19.X.B==v21.X.B)&&true))&&(((v19.Y.A==v21.Y.A)&&((v19.Y.B==v21.Y.B)&&true))&&true)) then
 (PC).bind λv24=>
 wW v24
 else
 wW false
 else
 wW false
def PN (a1:List Product) (a2:List qB):Option Bool:=
 (HO a1).bind λv3=>
 bif !v3 then
 TL a1 a2 true
 else
 (UW a2).bind λv6=>
 TL a1 a2 (!v6)
/- sawmill/sawmillref23.Sizes -/
def NV (x8:Int) (rec_ref23_Sizes_L1:(List Int)->(List Int)->Int->Option ((List Int)×(List Int))) (l19:List Int) (l20:List Int):Option ((List Int)×(List Int)):=
 rec_ref23_Sizes_L1 l19 l20 (w64 (x8+1))
def yX (a1:List Product) (a2:Int):Nat->(List Int)->(List Int)->Int->Option ((List Int)×(List Int))
 |0,_,_,_=>none
 |n+1,l6,l7,x8=>
 bif decide (x8<((a1.length:Nat):Int)) then
 bif inb x8 a1.length then
 (PE (a1.getD x8.toNat default)).bind λv11=>
 bif v11.1==a2 then
 bif room (l6.length+1) 8 then
 bif room (l7.length+1) 8 then
 NV x8 (yX a1 a2 n) (l6++([v11.2]:List Int)) (l7++([x8]:List Int))
 else none
 else none
 else
 bif v11.2==a2 then
 bif room (l6.length+1) 8 then
 bif room (l7.length+1) 8 then
 NV x8 (yX a1 a2 n) (l6++([v11.1]:List Int)) (l7++([x8]:List Int))
 else none
 else none
 else
 NV x8 (yX a1 a2 n) l6 l7
 else none
 else
 some (l6,l7)
def qHn (a1:List Product) (a2:Int):Option ((List Int)×(List Int)):=
 (UU a1).bind λv3=>
 bif v3 !=0 then
 some (([]:List Int),([]:List Int))
 else
 (yX a1 a2 FUEL ([]:List Int) ([]:List Int) 0).bind λo23=>
 some (o23.1,o23.2)
/- sawmill/sawmillref11.Length -/
def JK (a1:List qB):Nat->Int->Int->Option Int
 |0,_,_=>none
 |n+1,x5,x6=>
 bif decide (x6<((a1.length:Nat):Int)) then
 bif inb x6 a1.length then
 (JK a1 n) (w64 (x5+((a1.getD x6.toNat default).Len))) (w64 (x6+1))
 else none
 else
 some x5
def qFS (a1:List qB):Option Int:=
 (UX a1).bind λv2=>
 bif v2 !=0 then
 some 0
 else
 (JK a1 FUEL 0 0).bind λo10=>
 some o10
/- sawmill/pattern.places -/
def yV (a1:Pattern) (a2:Int):Option (Pattern×Int):=
 some (a1,a2)
/- sawmill/pattern.checkNode -/
def YD :Option Int:=
 some 0
def UE (x15:Bool):Option Int:=
 bif x15 then
 some 20
 else
 YD
def jS (a1:Node) (a2:Pattern_place) (x6:Bool):Option Int:=
 bif x6 then
 some 10
 else
 bif decide (a2.level>64) then
 some 28
 else
 (wE a1.Kind).bind λv9=>
 bif v9 then
 (QZ a2.rect a1.Kind).bind λv12=>
 bif decide (a1.At<=v12.A) then
 UE true
 else
 UE (decide (a1.At≥v12.B))
 else
 YD
def PL (a1:Node) (a2:Pattern_place):Option Int:=
 bif decide (a1.Kind<0) then
 jS a1 a2 true
 else
 bif decide (a1.Kind>3) then
 jS a1 a2 true
 else
 bif a1.Kind==0 then
 jS a1 a2 (a1.At !=0)
 else
 jS a1 a2 false
/- sawmill/pattern.Check$1 -/
def yY (x18:Bool):Option Int:=
 bif x18 then
 some 20
 else
 some 0
def WK (a1:Rect) (a2:Int) (a3:List Product) (x5:Bool):Option Int:=
 bif x5 then
 some 8
 else
 bif inb a2 a3.length then
 (yO (a3.getD a2.toNat default)).bind λv8=>
 (JP a1.X).bind λv10=>
 (JP a1.Y).bind λv12=>
 bif v10 !=v8.1 then
 bif v10 !=v8.2 then
 yY true
 else
 yY (v12 !=v8.1)
 else
 bif v12 !=v8.2 then
 bif v10 !=v8.2 then
 yY true
 else
 yY (v12 !=v8.1)
 else
 yY false
 else none
def EH (a1:Rect) (a2:Int) (a3:List Product):Option Int:=
 bif decide (a2<0) then
 WK a1 a2 a3 true
 else
 WK a1 a2 a3 (decide (a2≥((a3.length:Nat):Int)))
/- sawmill/pattern.check -/
def PF (a1:Int) (a5:Int) (a6:Int) (x16:Int):Option (Nat×Int×Int):=
 bif x16 !=0 then
 some (1,x16,a6)
 else
 some (0,a5,w64 (a1+1))
def PG (a1:Int) (a2:Pattern_place) (a3:Pattern) (a4:List Product) (a5:Int) (a6:Int) (v9:Int) (x12:Bool):Option (Nat×Int×Int):=
 bif x12 then
 (EH a2.rect ((a3.Nodes.getD a1.toNat default).At) a4).bind λv14=>
 PF a1 a5 a6 v14
 else
 PF a1 a5 a6 v9
def ZO (a1:Int) (a2:Pattern_place) (a3:Pattern) (a4:List Product) (a5:Int) (a6:Int):Option (Nat×Int×Int):=
 bif decide (a1≥((a3.Nodes.length:Nat):Int)) then
 some (1,3,a6)
 else
 bif inb a1 a3.Nodes.length then
 (PL (a3.Nodes.getD a1.toNat default) a2).bind λv9=>
 bif v9==0 then
 PG a1 a2 a3 a4 a5 a6 v9 (((a3.Nodes.getD a1.toNat default).Kind)==1)
 else
 PG a1 a2 a3 a4 a5 a6 v9 false
 else none
/- sawmill/pattern.with -/
def SK (x5:Rect):Option Rect:=
 some x5
def DA (a1:Rect) (a2:Int) (a3:Span):Option Rect:=
 bif a2==2 then
 SK (Rect.mk a3 a1.Y)
 else
 SK (Rect.mk a1.X a3)
/- sawmill/pattern.parts -/
def ZB (a1:Rect) (a2:Node) (a3:Int):Option (Rect×Rect×Rect):=
 (QZ a1 a2.Kind).bind λv4=>
 (DA a1 a2.Kind (Span.mk v4.A a2.At)).bind λv6=>
 (DA a1 a2.Kind (Span.mk a2.At (imin (w64 (a2.At+a3)) v4.B))).bind λv8=>
 (DA a1 a2.Kind (Span.mk (imin (w64 (a2.At+a3)) v4.B) v4.B)).bind λv10=>
 some (v6,v8,v10)
/- sawmill/pattern.places$1 -/
def VV (x8:Int) (rec_pattern_places_1_L1:(List Pattern_place)->Int->Int->Int->Option ((Nat×Int×Int)⊕(Int×Int))) (l25:List Pattern_place) (x26:Int) (x27:Int):Option ((Nat×Int×Int)⊕(Int×Int)):=
 rec_pattern_places_1_L1 l25 (w64 (x8+1)) x27 x26
def ZM (a1:Pattern) (a2:List Product) (a5:Pattern) (a6:Int):Nat->(List Pattern_place)->Int->Int->Int->Option ((Nat×Int×Int)⊕(Int×Int))
 |0,_,_,_,_=>none
 |n+1,l7,x8,x9,x10=>
 bif decide (((l7.length:Nat):Int)>0) then
 bif inb (w64 (((l7.length:Nat):Int)-1)) l7.length then
 bif slOk 0 (w64 (((l7.length:Nat):Int)-1)) l7.length then
 (ZO x8 (l7.getD ((w64 (((l7.length:Nat):Int)-1)).toNat) default) a1 a2 x9 x10).bind λv14=>
 bif !(Nat.beq v14.1 0) then
 some (Sum.inl (v14.1,v14.2.1,v14.2.2))
 else
 bif decide (x8≥((a5.Nodes.length:Nat):Int)) then
 some (Sum.inl (0,v14.2.1,v14.2.2))
 else
 bif inb x8 a5.Nodes.length then
 (wE ((a5.Nodes.getD x8.toNat default).Kind)).bind λv19=>
 bif v19 then
 (ZB ((l7.getD ((w64 (((l7.length:Nat):Int)-1)).toNat) default).rect) (a5.Nodes.getD x8.toNat default) a6).bind λv22=>
 bif room ((w64 (((l7.length:Nat):Int)-1)).toNat+2) 40 then
 VV x8 (ZM a1 a2 a5 a6 n) ((l7.take ((w64 (((l7.length:Nat):Int)-1)).toNat))++([(Pattern_place.mk v22.2.2 (w64 (((l7.getD ((w64 (((l7.length:Nat):Int)-1)).toNat) default).level)+1))),(Pattern_place.mk v22.1 (w64 (((l7.getD ((w64 (((l7.length:Nat):Int)-1)).toNat) default).level)+1)))]:List Pattern_place)) v14.2.2 v14.2.1
 else none
 else
 VV x8 (ZM a1 a2 a5 a6 n) (l7.take ((w64 (((l7.length:Nat):Int)-1)).toNat)) v14.2.2 v14.2.1
 else none
 else none
 else none
 else
 some (Sum.inr (x10,x9))
def MP (a1:Pattern) (a2:List Product) (a3:Int) (a4:Int) (a5:Pattern) (a6:Int):Option (Nat×Int×Int):=
 (ZM a1 a2 a5 a6 FUEL ([(Pattern_place.mk a5.Frame 1)]:List Pattern_place) 0 a3 a4).bind λu32=>Sum.elim (λv33=>some v33) (λo30=>
 some (0,o30.2,o30.1)) u32
/- sawmill/pattern.check -/
def XH (a1:Pattern) (a2:Int) (a3:List Product) (x8:Bool):Option Int:=
 bif x8 then
 some 9
 else
 bif decide (((a1.Nodes.length:Nat):Int)>127) then
 some 4
 else
 (yV a1 a2).bind λv11=>
 (MP a1 a3 0 0 v11.1 v11.2).bind λv13=>
 bif Nat.beq v13.1 0 then
 bif decide (v13.2.2<((a1.Nodes.length:Nat):Int)) then
 some 4
 else
 some 0
 else
 bif Nat.beq v13.1 1 then
 some v13.2.1
 else
 none
def qE4 (a1:Pattern) (a2:Int) (a3:List Product):Option Int:=
 (jF a1.Frame).bind λv4=>
 bif !v4 then
 some 19
 else
 bif decide (a2<0) then
 XH a1 a2 a3 true
 else
 XH a1 a2 a3 (decide (a2>20))
/- sawmill/pattern.Check -/
def CU (a1:Pattern) (a2:List Product) (a3:Int):Option Int:=
 (qE4 a1 a3 a2).bind λv4=>
 some v4
/- sawmill/yield.check -/
def IH (a1:List qB) (a2:List Defect) (a3:List Product) (a4:Pattern) (a5:Saw) (a6:Rates):Option Int:=
 (WH a1).bind λv7=>
 bif v7 !=0 then
 some v7
 else
 (WJ a2).bind λv10=>
 bif v10 !=0 then
 some v10
 else
 (wY a3).bind λv13=>
 bif v13 !=0 then
 some v13
 else
 (YI a5 a6).bind λv16=>
 bif v16 !=0 then
 some v16
 else
 (CU a4 a3 a5.Kerf).bind λv19=>
 some v19
/- sawmill/pattern.anyBoard -/
def VJ (x4:Bool):Option Int:=
 bif x4 then
 some 8
 else
 some 0
def MT (a1:Rect) (a2:Int):Option Int:=
 bif decide (a2<0) then
 VJ true
 else
 VJ (decide (a2≥16))
/- sawmill/pattern.check -/
def JZ (a1:Int) (a4:Int) (a5:Int) (x15:Int):Option (Nat×Int×Int):=
 bif x15 !=0 then
 some (1,x15,a5)
 else
 some (0,a4,w64 (a1+1))
def YA (a1:Int) (a2:Pattern_place) (a3:Pattern) (a4:Int) (a5:Int) (v8:Int) (x11:Bool):Option (Nat×Int×Int):=
 bif x11 then
 (MT a2.rect ((a3.Nodes.getD a1.toNat default).At)).bind λv13=>
 JZ a1 a4 a5 v13
 else
 JZ a1 a4 a5 v8
def yK (a1:Int) (a2:Pattern_place) (a3:Pattern) (a4:Int) (a5:Int):Option (Nat×Int×Int):=
 bif decide (a1≥((a3.Nodes.length:Nat):Int)) then
 some (1,3,a5)
 else
 bif inb a1 a3.Nodes.length then
 (PL (a3.Nodes.getD a1.toNat default) a2).bind λv8=>
 bif v8==0 then
 YA a1 a2 a3 a4 a5 v8 (((a3.Nodes.getD a1.toNat default).Kind)==1)
 else
 YA a1 a2 a3 a4 a5 v8 false
 else none
/- sawmill/pattern.places$1 -/
def PD (x7:Int) (rec_pattern_places_1_s1_L1:(List Pattern_place)->Int->Int->Int->Option ((Nat×Int×Int)⊕(Int×Int))) (l24:List Pattern_place) (x25:Int) (x26:Int):Option ((Nat×Int×Int)⊕(Int×Int)):=
 rec_pattern_places_1_s1_L1 l24 (w64 (x7+1)) x26 x25
def yF (a1:Pattern) (a4:Pattern) (a5:Int):Nat->(List Pattern_place)->Int->Int->Int->Option ((Nat×Int×Int)⊕(Int×Int))
 |0,_,_,_,_=>none
 |n+1,l6,x7,x8,x9=>
 bif decide (((l6.length:Nat):Int)>0) then
 bif inb (w64 (((l6.length:Nat):Int)-1)) l6.length then
 bif slOk 0 (w64 (((l6.length:Nat):Int)-1)) l6.length then
 (yK x7 (l6.getD ((w64 (((l6.length:Nat):Int)-1)).toNat) default) a1 x8 x9).bind λv13=>
 bif !(Nat.beq v13.1 0) then
 some (Sum.inl (v13.1,v13.2.1,v13.2.2))
 else
 bif decide (x7≥((a4.Nodes.length:Nat):Int)) then
 some (Sum.inl (0,v13.2.1,v13.2.2))
 else
 bif inb x7 a4.Nodes.length then
 (wE ((a4.Nodes.getD x7.toNat default).Kind)).bind λv18=>
 bif v18 then
 (ZB ((l6.getD ((w64 (((l6.length:Nat):Int)-1)).toNat) default).rect) (a4.Nodes.getD x7.toNat default) a5).bind λv21=>
 bif room ((w64 (((l6.length:Nat):Int)-1)).toNat+2) 40 then
 PD x7 (yF a1 a4 a5 n) ((l6.take ((w64 (((l6.length:Nat):Int)-1)).toNat))++([(Pattern_place.mk v21.2.2 (w64 (((l6.getD ((w64 (((l6.length:Nat):Int)-1)).toNat) default).level)+1))),(Pattern_place.mk v21.1 (w64 (((l6.getD ((w64 (((l6.length:Nat):Int)-1)).toNat) default).level)+1)))]:List Pattern_place)) v13.2.2 v13.2.1
 else none
 else
 PD x7 (yF a1 a4 a5 n) (l6.take ((w64 (((l6.length:Nat):Int)-1)).toNat)) v13.2.2 v13.2.1
 else none
 else none
 else none
 else
 some (Sum.inr (x9,x8))
def VN (a1:Pattern) (a2:Int) (a3:Int) (a4:Pattern) (a5:Int):Option (Nat×Int×Int):=
 (yF a1 a4 a5 FUEL ([(Pattern_place.mk a4.Frame 1)]:List Pattern_place) 0 a2 a3).bind λu31=>Sum.elim (λv32=>some v32) (λo29=>
 some (0,o29.2,o29.1)) u31
/- sawmill/pattern.check -/
def VU (a1:Pattern) (a2:Int) (x7:Bool):Option Int:=
 bif x7 then
 some 9
 else
 bif decide (((a1.Nodes.length:Nat):Int)>127) then
 some 4
 else
 (yV a1 a2).bind λv10=>
 (VN a1 0 0 v10.1 v10.2).bind λv12=>
 bif Nat.beq v12.1 0 then
 bif decide (v12.2.2<((a1.Nodes.length:Nat):Int)) then
 some 4
 else
 some 0
 else
 bif Nat.beq v12.1 1 then
 some v12.2.1
 else
 none
def TZ (a1:Pattern) (a2:Int):Option Int:=
 (jF a1.Frame).bind λv3=>
 bif !v3 then
 some 19
 else
 bif decide (a2<0) then
 VU a1 a2 true
 else
 VU a1 a2 (decide (a2>20))
/- sawmill/pattern.Leaves -/
def QP (a1:Int) (a2:Pattern_place) (a3:Pattern) (a4:List Leaf):Option (Nat×(List Leaf)):=
 bif inb a1 a3.Nodes.length then
 bif ((a3.Nodes.getD a1.toNat default).Kind)==0 then
 bif room (a4.length+1) 40 then
 some (0,(a4++([(Leaf.mk a2.rect (-1))]:List Leaf)))
 else none
 else
 bif ((a3.Nodes.getD a1.toNat default).Kind)==1 then
 bif room (a4.length+1) 40 then
 some (0,(a4++([(Leaf.mk a2.rect ((a3.Nodes.getD a1.toNat default).At))]:List Leaf)))
 else none
 else
 some (0,a4)
 else none
/- sawmill/pattern.places$1 -/
def PI (x6:Int) (rec_pattern_places_1_s2_L1:(List Pattern_place)->Int->(List Leaf)->Option ((Nat×(List Leaf))⊕(List Leaf))) (l22:List Pattern_place) (l23:List Leaf):Option ((Nat×(List Leaf))⊕(List Leaf)):=
 rec_pattern_places_1_s2_L1 l22 (w64 (x6+1)) l23
def yL (a1:Pattern) (a2:Pattern) (a3:Int):Nat->(List Pattern_place)->Int->(List Leaf)->Option ((Nat×(List Leaf))⊕(List Leaf))
 |0,_,_,_=>none
 |n+1,l5,x6,l7=>
 bif decide (((l5.length:Nat):Int)>0) then
 bif inb (w64 (((l5.length:Nat):Int)-1)) l5.length then
 bif slOk 0 (w64 (((l5.length:Nat):Int)-1)) l5.length then
 (QP x6 (l5.getD ((w64 (((l5.length:Nat):Int)-1)).toNat) default) a1 l7).bind λv11=>
 bif !(Nat.beq v11.1 0) then
 some (Sum.inl (v11.1,v11.2))
 else
 bif decide (x6≥((a2.Nodes.length:Nat):Int)) then
 some (Sum.inl (0,v11.2))
 else
 bif inb x6 a2.Nodes.length then
 (wE ((a2.Nodes.getD x6.toNat default).Kind)).bind λv16=>
 bif v16 then
 (ZB ((l5.getD ((w64 (((l5.length:Nat):Int)-1)).toNat) default).rect) (a2.Nodes.getD x6.toNat default) a3).bind λv19=>
 bif room ((w64 (((l5.length:Nat):Int)-1)).toNat+2) 40 then
 PI x6 (yL a1 a2 a3 n) ((l5.take ((w64 (((l5.length:Nat):Int)-1)).toNat))++([(Pattern_place.mk v19.2.2 (w64 (((l5.getD ((w64 (((l5.length:Nat):Int)-1)).toNat) default).level)+1))),(Pattern_place.mk v19.1 (w64 (((l5.getD ((w64 (((l5.length:Nat):Int)-1)).toNat) default).level)+1)))]:List Pattern_place)) v11.2
 else none
 else
 PI x6 (yL a1 a2 a3 n) (l5.take ((w64 (((l5.length:Nat):Int)-1)).toNat)) v11.2
 else none
 else none
 else none
 else
 some (Sum.inr l7)
def VI (a1:Pattern) (a2:Pattern) (a3:Int) (a4:List Leaf):Option (Nat×(List Leaf)):=
 (yL a1 a2 a3 FUEL ([(Pattern_place.mk a2.Frame 1)]:List Pattern_place) 0 a4).bind λu27=>Sum.elim (λv28=>some v28) (λo25=>
 some (0,o25)) u27
/- sawmill/pattern.Leaves -/
def EU (a1:Pattern) (a2:Int):Option ((List Leaf)×Int):=
 (TZ a1 a2).bind λv3=>
 bif v3 !=0 then
 some (([]:List Leaf),v3)
 else
 (yV a1 a2).bind λv6=>
 (VI a1 v6.1 v6.2 ([]:List Leaf)).bind λv8=>
 bif Nat.beq v8.1 0 then
 some (v8.2,0)
 else
 none
/- sawmill/yield.boardLeaves -/
def qAS (a1:List Leaf):Option (List Leaf):=
 some a1
/- sawmill/yield.box -/
def BF (a1:Rect) (a2:Span):Option Box:=
 some (Box.mk a1.X a1.Y a2)
/- sawmill/yield.Boards -/
def OM (a1:Int) (a2:Leaf) (a3:List qB) (a4:List Defect) (a5:List Product) (a6:Saw) (a7:Int) (a8:List Yield_Cut):Option (Nat×(List Yield_Cut)):=
 bif inb a2.Product a5.length then
 (NW a3 a4 (a5.getD a2.Product.toNat default) a2.Rect a6.Step a7).bind λv10=>
 bif v10.2.2 then
 (BF a2.Rect v10.1).bind λv13=>
 bif room (a8.length+1) 72 then
 some (0,(a8++([(Yield_Cut.mk a1 a2.Product v13 v10.2.1)]:List Yield_Cut)))
 else none
 else
 some (0,a8)
 else none
/- sawmill/yield.boardLeaves$1 -/
def PH (x8:Int) (rec_yield_boardLeaves_1_L1:Int->(List Yield_Cut)->Option ((Nat×(List Yield_Cut))⊕(List Yield_Cut))) (l16:List Yield_Cut):Option ((Nat×(List Yield_Cut))⊕(List Yield_Cut)):=
 rec_yield_boardLeaves_1_L1 (w64 (x8+1)) l16
def zW (a1:List qB) (a2:List Defect) (a3:List Product) (a4:Saw) (a5:Int) (a6:List Leaf):Nat->Int->(List Yield_Cut)->Option ((Nat×(List Yield_Cut))⊕(List Yield_Cut))
 |0,_,_=>none
 |n+1,x8,l9=>
 bif decide (x8<((a6.length:Nat):Int)) then
 bif inb x8 a6.length then
 bif ((a6.getD x8.toNat default).Product) !=(-1) then
 (OM x8 (a6.getD x8.toNat default) a1 a2 a3 a4 a5 l9).bind λv13=>
 bif !(Nat.beq v13.1 0) then
 some (Sum.inl (v13.1,v13.2))
 else
 PH x8 (zW a1 a2 a3 a4 a5 a6 n) v13.2
 else
 PH x8 (zW a1 a2 a3 a4 a5 a6 n) l9
 else none
 else
 some (Sum.inr l9)
def VG (a1:List qB) (a2:List Defect) (a3:List Product) (a4:Saw) (a5:Int) (a6:List Leaf) (a7:List Yield_Cut):Option (Nat×(List Yield_Cut)):=
 (zW a1 a2 a3 a4 a5 a6 FUEL 0 a7).bind λu20=>Sum.elim (λv21=>some v21) (λo18=>
 some (0,o18)) u20
/- sawmill/yield.Boards -/
def qB7 (a1:List qB) (a2:List Defect) (a3:List Product) (a4:Pattern) (a5:Saw) (a6:Int):Option ((List Yield_Cut)×Int):=
 (IH a1 a2 a3 a4 a5 (Rates.mk 0 0 a6)).bind λv7=>
 bif v7 !=0 then
 some (([]:List Yield_Cut),v7)
 else
 (EU a4 a5.Kerf).bind λv10=>
 bif v10.2 !=0 then
 some (([]:List Yield_Cut),v10.2)
 else
 (qAS v10.1).bind λv13=>
 (VG a1 a2 a3 a5 a6 v13 ([]:List Yield_Cut)).bind λv15=>
 bif Nat.beq v15.1 0 then
 some (v15.2,0)
 else
 none
/- sawmill/pattern.Cuts -/
def WT (a1:Int) (a2:Pattern_place) (a3:Pattern) (a4:Int) (a5:List Rect):Option (Nat×(List Rect)):=
 bif inb a1 a3.Nodes.length then
 (wE ((a3.Nodes.getD a1.toNat default).Kind)).bind λv7=>
 bif v7 then
 (ZB a2.rect (a3.Nodes.getD a1.toNat default) a4).bind λv10=>
 bif room (a5.length+1) 32 then
 some (0,(a5++([v10.2.1]:List Rect)))
 else none
 else
 some (0,a5)
 else none
/- sawmill/pattern.places$1 -/
def KZ (x7:Int) (rec_pattern_places_1_s3_L1:(List Pattern_place)->Int->(List Rect)->Option ((Nat×(List Rect))⊕(List Rect))) (l23:List Pattern_place) (l24:List Rect):Option ((Nat×(List Rect))⊕(List Rect)):=
 rec_pattern_places_1_s3_L1 l23 (w64 (x7+1)) l24
def yN (a1:Pattern) (a2:Int) (a3:Pattern) (a4:Int):Nat->(List Pattern_place)->Int->(List Rect)->Option ((Nat×(List Rect))⊕(List Rect))
 |0,_,_,_=>none
 |n+1,l6,x7,l8=>
 bif decide (((l6.length:Nat):Int)>0) then
 bif inb (w64 (((l6.length:Nat):Int)-1)) l6.length then
 bif slOk 0 (w64 (((l6.length:Nat):Int)-1)) l6.length then
 (WT x7 (l6.getD ((w64 (((l6.length:Nat):Int)-1)).toNat) default) a1 a2 l8).bind λv12=>
 bif !(Nat.beq v12.1 0) then
 some (Sum.inl (v12.1,v12.2))
 else
 bif decide (x7≥((a3.Nodes.length:Nat):Int)) then
 some (Sum.inl (0,v12.2))
 else
 bif inb x7 a3.Nodes.length then
 (wE ((a3.Nodes.getD x7.toNat default).Kind)).bind λv17=>
 bif v17 then
 (ZB ((l6.getD ((w64 (((l6.length:Nat):Int)-1)).toNat) default).rect) (a3.Nodes.getD x7.toNat default) a4).bind λv20=>
 bif room ((w64 (((l6.length:Nat):Int)-1)).toNat+2) 40 then
 KZ x7 (yN a1 a2 a3 a4 n) ((l6.take ((w64 (((l6.length:Nat):Int)-1)).toNat))++([(Pattern_place.mk v20.2.2 (w64 (((l6.getD ((w64 (((l6.length:Nat):Int)-1)).toNat) default).level)+1))),(Pattern_place.mk v20.1 (w64 (((l6.getD ((w64 (((l6.length:Nat):Int)-1)).toNat) default).level)+1)))]:List Pattern_place)) v12.2
 else none
 else
 KZ x7 (yN a1 a2 a3 a4 n) (l6.take ((w64 (((l6.length:Nat):Int)-1)).toNat)) v12.2
 else none
 else none
 else none
 else
 some (Sum.inr l8)
def VH (a1:Pattern) (a2:Int) (a3:Pattern) (a4:Int) (a5:List Rect):Option (Nat×(List Rect)):=
 (yN a1 a2 a3 a4 FUEL ([(Pattern_place.mk a3.Frame 1)]:List Pattern_place) 0 a5).bind λu28=>Sum.elim (λv29=>some v29) (λo26=>
 some (0,o26)) u28
/- sawmill/pattern.Cuts -/
def qBI (a1:Pattern) (a2:Int):Option ((List Rect)×Int):=
 (TZ a1 a2).bind λv3=>
 bif v3 !=0 then
 some (([]:List Rect),v3)
 else
 (yV a1 a2).bind λv6=>
 (VH a1 a2 v6.1 v6.2 ([]:List Rect)).bind λv8=>
 bif Nat.beq v8.1 0 then
 some (v8.2,0)
 else
 none
/- sawmill/yield.Of -/
def VC (a1:List qB) (v13:(List Rect)×Int) (v16:Int) (v18:Int):Nat->Int->Int->Option Yield
 |0,_,_=>none
 |n+1,x20,x21=>
 bif decide (x20<((v13.1.length:Nat):Int)) then
 bif inb x20 v13.1.length then
 (BF (v13.1.getD x20.toNat default) (Span.mk 0 v16)).bind λv24=>
 (yG a1 v24).bind λv26=>
 (VC a1 v13 v16 v18 n) (w64 (x20+1)) (w64 (x21+v26))
 else none
 else
 some (Yield.mk v18 0 0 x21 0)
def VA (a1:List qB) (a5:Saw) (v10:(List Yield_Cut)×Int) (v16:Int) (o29:Yield):Nat->Int->Int->Int->Int->Option Yield
 |0,_,_,_,_=>none
 |n+1,x31,x32,x33,x34=>
 bif decide (x31<((v10.1.length:Nat):Int)) then
 bif inb x31 v10.1.length then
 (yG a1 ((v10.1.getD x31.toNat default).Box)).bind λv37=>
 (BF (Rect.mk (((v10.1.getD x31.toNat default).Box).X) (((v10.1.getD x31.toNat default).Box).Y)) (Span.mk (imax 0 (w64 (((((v10.1.getD x31.toNat default).Box).Z).A)-a5.Trim))) ((((v10.1.getD x31.toNat default).Box).Z).A))).bind λv39=>
 (yG a1 v39).bind λv41=>
 (BF (Rect.mk (((v10.1.getD x31.toNat default).Box).X) (((v10.1.getD x31.toNat default).Box).Y)) (Span.mk ((((v10.1.getD x31.toNat default).Box).Z).B) (imin (w64 (((((v10.1.getD x31.toNat default).Box).Z).B)+a5.Trim)) v16))).bind λv43=>
 (yG a1 v43).bind λv45=>
 (VA a1 a5 v10 v16 o29 n) (w64 (x31+1)) (w64 (x32+v37)) (w64 ((w64 (x33+v41))+v45)) (w64 (x34+(w64 (1000000*((v10.1.getD x31.toNat default).Worth)))))
 else none
 else
 some (Yield.mk o29.Log x32 o29.Chips x33 x34)
def qNC (a1:List qB) (a2:List Defect) (a3:List Product) (a4:Pattern) (a5:Saw) (a6:Rates):Option (Yield×Int):=
 (IH a1 a2 a3 a4 a5 a6).bind λv7=>
 bif v7 !=0 then
 some ((Yield.mk 0 0 0 0 0),v7)
 else
 (qB7 a1 a2 a3 a4 a5 a6.Fine).bind λv10=>
 bif v10.2 !=0 then
 some ((Yield.mk 0 0 0 0 0),v10.2)
 else
 (qBI a4 a5.Kerf).bind λv13=>
 bif v13.2 !=0 then
 some ((Yield.mk 0 0 0 0 0),v13.2)
 else
 (QN a1).bind λv16=>
 (RT a1).bind λv18=>
 (VC a1 v13 v16 v18 FUEL 0 0).bind λo29=>
 (VA a1 a5 v10 v16 o29 FUEL 0 o29.Boards o29.Dust o29.Value).bind λo48=>
 some ((Yield.mk o48.Log o48.Boards (w64 ((w64 (o48.Log-o48.Boards))-o48.Dust)) o48.Dust (w64 (o48.Value+(w64 ((w64 (a6.Chip*(w64 ((w64 (o48.Log-o48.Boards))-o48.Dust))))+(w64 (a6.Dust*o48.Dust))))))),0)
end Saw
end Go.SL

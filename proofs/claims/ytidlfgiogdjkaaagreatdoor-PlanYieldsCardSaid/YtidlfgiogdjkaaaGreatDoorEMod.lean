import Derived.Test.YtidlfgiogdjkaaaGreatDoorYa6
set_option linter.unusedVariables false
set_option linter.unusedSimpArgs false
namespace Go.SL
namespace Saw
structure Piece where
 Size:Int
 At:Int
instance : Inhabited Piece:=⟨⟨0,0⟩⟩
def jA (r:Piece):List C:=[ci r.Size,ci r.At]
structure Product where
 Name:ByteArray
 Thick:Int
 Width:Int
 Allow:Int
 Wane:Int
 Lengths:List Int
 Prices:List Int
instance : Inhabited Product:=⟨⟨⟨#[]⟩,0,0,0,0,[],[]⟩⟩
def qC (r:Product):List C:=[cs r.Name,ci r.Thick,ci r.Width,ci r.Allow,ci r.Wane,tl e_i64 default r.Lengths,tl e_i64 default r.Prices]
structure Span where
 A:Int
 B:Int
instance : Inhabited Span:=⟨⟨0,0⟩⟩
def e_Span (r:Span):List C:=[ci r.A,ci r.B]
structure qK where
 Low:Int
 Rows:List Span
instance : Inhabited qK:=⟨⟨0,[]⟩⟩
def zW (r:qK):List C:=[ci r.Low,tl e_Span default r.Rows]
structure qB where
 Len:Int
 Sec:qK
instance : Inhabited qB:=⟨⟨0,default⟩⟩
def qG (r:qB):List C:=[ci r.Len,ci r.Sec.Low,tl e_Span default r.Sec.Rows]
structure Box where
 X:Span
 Y:Span
 Z:Span
instance : Inhabited Box:=⟨⟨default,default,default⟩⟩
def QQ (r:Box):List C:=[ci r.X.A,ci r.X.B,ci r.Y.A,ci r.Y.B,ci r.Z.A,ci r.Z.B]
structure Defect where
 Kind:Int
 Box:Box
instance : Inhabited Defect:=⟨⟨0,default⟩⟩
def qH (r:Defect):List C:=[ci r.Kind,ci r.Box.X.A,ci r.Box.X.B,ci r.Box.Y.A,ci r.Box.Y.B,ci r.Box.Z.A,ci r.Box.Z.B]
structure Rect where
 X:Span
 Y:Span
instance : Inhabited Rect:=⟨⟨default,default⟩⟩
def qD (r:Rect):List C:=[ci r.X.A,ci r.X.B,ci r.Y.A,ci r.Y.B]
structure Saw where
 Kerf:Int
 Trim:Int
 Pitch:Int
 Step:Int
instance : Inhabited Saw:=⟨⟨0,0,0,0⟩⟩
def qQ (r:Saw):List C:=[ci r.Kerf,ci r.Trim,ci r.Pitch,ci r.Step]
structure Rates where
 Chip:Int
 Dust:Int
 Fine:Int
instance : Inhabited Rates:=⟨⟨0,0,0⟩⟩
def qS (r:Rates):List C:=[ci r.Chip,ci r.Dust,ci r.Fine]
structure Law24_Given where
 Solid:List qB
 Defects:List Defect
 Products:List Product
 Frame:Rect
 Saw:Saw
 Rates:Rates
instance : Inhabited Law24_Given:=⟨⟨[],[],[],default,default,default⟩⟩
def zT (r:Law24_Given):List C:=[tl qG default r.Solid,tl qH default r.Defects,tl qC default r.Products,ci r.Frame.X.A,ci r.Frame.X.B,ci r.Frame.Y.A,ci r.Frame.Y.B,ci r.Saw.Kerf,ci r.Saw.Trim,ci r.Saw.Pitch,ci r.Saw.Step,ci r.Rates.Chip,ci r.Rates.Dust,ci r.Rates.Fine]
structure Worth_zone where
 z:Span
 lack:Int
instance : Inhabited Worth_zone:=⟨⟨default,0⟩⟩
def qL (r:Worth_zone):List C:=[ci r.z.A,ci r.z.B,ci r.lack]
structure Worth_view where
 product:Product
 rect:Rect
 length:Int
 zones:List Worth_zone
 defects:List Defect
instance : Inhabited Worth_view:=⟨⟨default,default,0,[],[]⟩⟩
def BM (r:Worth_view):List C:=[cs r.product.Name,ci r.product.Thick,ci r.product.Width,ci r.product.Allow,ci r.product.Wane,tl e_i64 default r.product.Lengths,tl e_i64 default r.product.Prices,ci r.rect.X.A,ci r.rect.X.B,ci r.rect.Y.A,ci r.rect.Y.B,ci r.length,tl qL default r.zones,tl qH default r.defects]
structure Line where
 Len:Int
 Kerf:Int
 Pitch:Int
 Sizes:List Int
 Gain:List (List Int)
 Chip:List Int
 Dust:List Int
instance : Inhabited Line:=⟨⟨0,0,0,[],[],[],[]⟩⟩
def wA (r:Line):List C:=[ci r.Len,ci r.Kerf,ci r.Pitch,tl e_i64 default r.Sizes,tl (qE e_i64) default r.Gain,tl e_i64 default r.Chip,tl e_i64 default r.Dust]
structure Cutting_choice where
 piece:Piece
 value:Int
instance : Inhabited Cutting_choice:=⟨⟨default,0⟩⟩
def e_Cutting_choice (r:Cutting_choice):List C:=[ci r.piece.Size,ci r.piece.At,ci r.value]
structure Node where
 Kind:Int
 At:Int
instance : Inhabited Node:=⟨⟨0,0⟩⟩
def e_Node (r:Node):List C:=[ci r.Kind,ci r.At]
structure Pattern where
 Frame:Rect
 Nodes:List Node
instance : Inhabited Pattern:=⟨⟨default,[]⟩⟩
def qF (r:Pattern):List C:=[ci r.Frame.X.A,ci r.Frame.X.B,ci r.Frame.Y.A,ci r.Frame.Y.B,tl e_Node default r.Nodes]
structure qQK where
 value:Int
 piece:Piece
instance : Inhabited qQK:=⟨⟨0,default⟩⟩
structure qRr where
 at_:Span
 from_:Int
 to:Int
instance : Inhabited qRr:=⟨⟨default,0,0⟩⟩
structure Pattern_place where
 rect:Rect
 level:Int
instance : Inhabited Pattern_place:=⟨⟨default,0⟩⟩
def e_Pattern_place (r:Pattern_place):List C:=[ci r.rect.X.A,ci r.rect.X.B,ci r.rect.Y.A,ci r.rect.Y.B,ci r.level]
structure Leaf where
 Rect:Rect
 Product:Int
instance : Inhabited Leaf:=⟨⟨default,0⟩⟩
def qX (r:Leaf):List C:=[ci r.Rect.X.A,ci r.Rect.X.B,ci r.Rect.Y.A,ci r.Rect.Y.B,ci r.Product]
structure Yield_Cut where
 Leaf:Int
 Product:Int
 Box:Box
 Worth:Int
instance : Inhabited Yield_Cut:=⟨⟨0,0,default,0⟩⟩
def qR (r:Yield_Cut):List C:=[ci r.Leaf,ci r.Product,ci r.Box.X.A,ci r.Box.X.B,ci r.Box.Y.A,ci r.Box.Y.B,ci r.Box.Z.A,ci r.Box.Z.B,ci r.Worth]
structure Yield where
 Log:Int
 Boards:Int
 Chips:Int
 Dust:Int
 Value:Int
instance : Inhabited Yield:=⟨⟨0,0,0,0,0⟩⟩
def FG (r:Yield):List C:=[ci r.Log,ci r.Boards,ci r.Chips,ci r.Dust,ci r.Value]
def qIo :Piece:=(Piece.mk (-1) (-1))
def globs :List (Nat×C):=[(0,.lptr (jA qIo))]
/- sawmill/sawmilllaw24.few -/
def BL (x3:Int) (rec_law24_few_L1:Int->Option (Bool⊕Unit)) (x8:Bool):Option (Bool⊕Unit):=
 bif x8 then
 some (Sum.inl false)
 else
 rec_law24_few_L1 (w64 (x3+1))
def QY (a1:List Product):Nat->Int->Option (Bool⊕Unit)
 |0,_=>none
 |n+1,x3=>
 bif decide (x3<((a1.length:Nat):Int)) then
 bif inb x3 a1.length then
 bif decide (((((a1.getD x3.toNat default).Name).size:Nat):Int)>100) then
 BL x3 (QY a1 n) true
 else
 bif decide (((((a1.getD x3.toNat default).Lengths).length:Nat):Int)>12) then
 BL x3 (QY a1 n) true
 else
 BL x3 (QY a1 n) (decide (((((a1.getD x3.toNat default).Prices).length:Nat):Int)>12))
 else none
 else
 some (Sum.inr ())
def CX (a1:List Product):Option Bool:=
 bif decide (((a1.length:Nat):Int)>20) then
 some false
 else
 (QY a1 FUEL 0).bind λu12=>Sum.elim (λv13=>some v13) (λo10=>
 some true) u12
/- sawmill/sawmilllaw24.small -/
def XB (a1:List qB):Nat->Int->Option (Bool⊕Unit)
 |0,_=>none
 |n+1,x3=>
 bif decide (x3<((a1.length:Nat):Int)) then
 bif inb x3 a1.length then
 bif decide ((((((a1.getD x3.toNat default).Sec).Rows).length:Nat):Int)>130) then
 some (Sum.inl false)
 else
 (XB a1 n) (w64 (x3+1))
 else none
 else
 some (Sum.inr ())
def MR (a1:List qB):Option Bool:=
 bif decide (((a1.length:Nat):Int)>30) then
 some false
 else
 (XB a1 FUEL 0).bind λu9=>Sum.elim (λv10=>some v10) (λo7=>
 some true) u9
/- sawmill/sawmilllaw24.sample -/
def DJ :Nat->Int->(List Span)->Option (List Span)
 |0,_,_=>none
 |n+1,x2,l3=>
 bif decide (x2<20) then
 bif room (l3.length+1) 16 then
 (DJ n) (w64 (x2+1)) (l3++([(Span.mk (-100) 100)]:List Span))
 else none
 else
 some l3
def KG (a1:Int):Option Law24_Given:=
 (DJ FUEL 0 ([]:List Span)).bind λo7=>
 some (Law24_Given.mk ([(qB.mk 3000 (qK.mk (-10) o7))]:List qB) ([]:List Defect) ([(Product.mk (ByteArray.mk #[112,108,97,110,107]) 40 100 50 0 ([2000]:List Int) ([70]:List Int))]:List Product) (Rect.mk (Span.mk (-100) 10) (Span.mk 0 a1)) (Saw.mk 4 5 5 500) (Rates.mk 0 0 0))
/- sawmill/section.inRange -/
def PU (x3:Bool):Option Bool:=
 some x3
def PL (a1:Span):Option Bool:=
 bif decide ((imin a1.A a1.B)≥(-600)) then
 PU (decide ((imax a1.A a1.B)<=600))
 else
 PU false
/- sawmill/section.isEmpty -/
def ZB (a1:Span):Option Bool:=
 some (decide (a1.A≥a1.B))
/- sawmill/section.Check -/
def QE (a1:qK):Nat->Int->Option (Int⊕Unit)
 |0,_=>none
 |n+1,x6=>
 bif decide (x6<((a1.Rows.length:Nat):Int)) then
 bif inb x6 a1.Rows.length then
 (PL (a1.Rows.getD x6.toNat default)).bind λv9=>
 bif !v9 then
 some (Sum.inl 9)
 else
 (QE a1 n) (w64 (x6+1))
 else none
 else
 some (Sum.inr ())
def UW (x27:Int) (rec_section_Check_L4:Int->Option (Int⊕Unit)) (x33:Bool):Option (Int⊕Unit):=
 bif x33 then
 some (Sum.inl 19)
 else
 rec_section_Check_L4 (w64 (x27+1))
def jH (a1:qK):Nat->Int->Option (Int⊕Unit)
 |0,_=>none
 |n+1,x27=>
 bif decide (x27<((a1.Rows.length:Nat):Int)) then
 bif inb x27 a1.Rows.length then
 (ZB (a1.Rows.getD x27.toNat default)).bind λv30=>
 bif v30 then
 UW x27 (jH a1 n) (!((((a1.Rows.getD x27.toNat default).A)==0)&&((((a1.Rows.getD x27.toNat default).B)==0)&&true)))
 else
 UW x27 (jH a1 n) false
 else none
 else
 some (Sum.inr ())
def VJ (a1:qK) (x25:Bool):Option Int:=
 bif x25 then
 some 19
 else
 (jH a1 FUEL 0).bind λu37=>Sum.elim (λv38=>some v38) (λo35=>
 some 0) u37
def UY (a1:qK) (x4:Bool):Option Int:=
 bif x4 then
 some 9
 else
 (QE a1 FUEL 0).bind λu14=>Sum.elim (λv15=>some v15) (λo12=>
 bif ((a1.Rows.length:Nat):Int)==0 then
 bif a1.Low !=0 then
 some 19
 else
 some 0
 else
 bif inb 0 a1.Rows.length then
 (ZB (a1.Rows.getD (0:Int).toNat default)).bind λv19=>
 bif v19 then
 VJ a1 true
 else
 bif inb (w64 (((a1.Rows.length:Nat):Int)-1)) a1.Rows.length then
 (ZB (a1.Rows.getD (w64 (((a1.Rows.length:Nat):Int)-1)).toNat default)).bind λv23=>
 VJ a1 v23
 else none
 else none) u14
def KS (a1:qK):Option Int:=
 bif decide (((a1.Rows.length:Nat):Int)>120) then
 some 4
 else
 bif decide (a1.Low<(-60)) then
 UY a1 true
 else
 UY a1 (decide (a1.Low>(w64 (60-((a1.Rows.length:Nat):Int)))))
/- sawmill/solid.Check -/
def FO (a1:List qB) (x4:Int) (x5:Int) (rec_solid_Check_L1:Int->Int->Option (Int⊕Unit)) (x13:Bool):Option (Int⊕Unit):=
 bif x13 then
 some (Sum.inl 9)
 else
 rec_solid_Check_L1 (w64 (x4+((a1.getD x5.toNat default).Len))) (w64 (x5+1))
def yI (a1:List qB):Nat->Int->Int->Option (Int⊕Unit)
 |0,_,_=>none
 |n+1,x4,x5=>
 bif decide (x5<((a1.length:Nat):Int)) then
 bif inb x5 a1.length then
 (KS ((a1.getD x5.toNat default).Sec)).bind λv8=>
 bif v8 !=0 then
 some (Sum.inl v8)
 else
 bif (((((a1.getD x5.toNat default).Sec).Rows).length:Nat):Int)==0 then
 some (Sum.inl 18)
 else
 bif decide (((a1.getD x5.toNat default).Len)<1) then
 FO a1 x4 x5 (yI a1 n) true
 else
 FO a1 x4 x5 (yI a1 n) (decide (((a1.getD x5.toNat default).Len)>(w64 (20000-x4))))
 else none
 else
 some (Sum.inr ())
def JE (a1:List qB):Option Int:=
 bif ((a1.length:Nat):Int)==0 then
 some 3
 else
 bif decide (((a1.length:Nat):Int)>24) then
 some 4
 else
 (yI a1 FUEL 0 0).bind λu17=>Sum.elim (λv18=>some v18) (λo15=>
 some 0) u17
/- sawmill/defect.isEmpty -/
def yL (a1:Span):Option Bool:=
 some (decide (a1.A≥a1.B))
/- sawmill/defect.inside -/
def VV (x5:Bool):Option Bool:=
 some x5
def YI (a1:Span) (a2:Int) (a3:Int):Option Bool:=
 bif decide ((imin a1.A a1.B)≥a2) then
 VV (decide ((imax a1.A a1.B)<=a3))
 else
 VV false
/- sawmill/defect.check -/
def KZ (x23:Bool):Option Int:=
 bif x23 then
 some 9
 else
 some 0
def PY (a1:Defect) (x13:Bool):Option Int:=
 bif x13 then
 some 19
 else
 (YI a1.Box.X (-600) 600).bind λv15=>
 bif !v15 then
 KZ true
 else
 (YI a1.Box.Y (-600) 600).bind λv18=>
 bif !v18 then
 KZ true
 else
 (YI a1.Box.Z 0 20000).bind λv21=>
 KZ (!v21)
def DT (a1:Defect) (x3:Bool):Option Int:=
 bif x3 then
 some 10
 else
 (yL a1.Box.X).bind λv5=>
 bif v5 then
 PY a1 true
 else
 (yL a1.Box.Y).bind λv8=>
 bif v8 then
 PY a1 true
 else
 (yL a1.Box.Z).bind λv11=>
 PY a1 v11
def FB (a1:Defect):Option Int:=
 bif decide (a1.Kind<1) then
 DT a1 true
 else
 DT a1 (decide (a1.Kind>6))
/- sawmill/defect.Check -/
def QT (a1:List Defect):Nat->Int->Option (Int⊕Unit)
 |0,_=>none
 |n+1,x3=>
 bif decide (x3<((a1.length:Nat):Int)) then
 bif inb x3 a1.length then
 (FB (a1.getD x3.toNat default)).bind λv6=>
 bif v6 !=0 then
 some (Sum.inl v6)
 else
 (QT a1 n) (w64 (x3+1))
 else none
 else
 some (Sum.inr ())
def JI (a1:List Defect):Option Int:=
 bif decide (((a1.length:Nat):Int)>64) then
 some 4
 else
 (QT a1 FUEL 0).bind λu11=>Sum.elim (λv12=>some v12) (λo9=>
 some 0) u11
/- sawmill/ident.isSmall -/
def VG (x3:Bool):Option Bool:=
 some x3
def KW (a1:Int):Option Bool:=
 bif decide (97<=a1) then
 VG (decide (a1<=122))
 else
 VG false
/- sawmill/ident.isDigit -/
def VA (x3:Bool):Option Bool:=
 some x3
def GQ (a1:Int):Option Bool:=
 bif decide (48<=a1) then
 VA (decide (a1<=57))
 else
 VA false
/- sawmill/ident.IsName -/
def RA (x9:Int) (rec_ident_IsName_L2:Int->Option (Bool⊕Unit)) (x18:Bool):Option (Bool⊕Unit):=
 bif x18 then
 some (Sum.inl false)
 else
 rec_ident_IsName_L2 (w64 (x9+1))
def jD (a1:ByteArray):Nat->Int->Option (Bool⊕Unit)
 |0,_=>none
 |n+1,x9=>
 bif decide (x9<((a1.size:Nat):Int)) then
 bif inb x9 a1.size then
 (KW (strAt a1 x9.toNat)).bind λv12=>
 bif !v12 then
 (GQ (strAt a1 x9.toNat)).bind λv15=>
 bif !v15 then
 RA x9 (jD a1 n) ((strAt a1 x9.toNat) !=95)
 else
 RA x9 (jD a1 n) false
 else
 RA x9 (jD a1 n) false
 else none
 else
 some (Sum.inr ())
def RC (a1:ByteArray) (x7:Bool):Option Bool:=
 bif x7 then
 some false
 else
 (jD a1 FUEL 1).bind λu22=>Sum.elim (λv23=>some v23) (λo20=>
 some true) u22
def BF (a1:ByteArray):Option Bool:=
 bif decide (((a1.size:Nat):Int)<1) then
 RC a1 true
 else
 bif decide (((a1.size:Nat):Int)>16) then
 RC a1 true
 else
 bif inb 0 a1.size then
 (KW (strAt a1 ((0:Int).toNat))).bind λv5=>
 RC a1 (!v5)
 else none
/- sawmill/product.Find -/
def ZK (a1:List Product) (a2:ByteArray):Nat->Int->Option ((Int×Bool)⊕Unit)
 |0,_=>none
 |n+1,x3=>
 bif decide (x3<((a1.length:Nat):Int)) then
 bif inb x3 a1.length then
 bif strEq ((a1.getD x3.toNat default).Name) a2 then
 some (Sum.inl (x3,true))
 else
 (ZK a1 a2 n) (w64 (x3+1))
 else none
 else
 some (Sum.inr ())
def NH (a1:List Product) (a2:ByteArray):Option (Int×Bool):=
 (ZK a1 a2 FUEL 0).bind λu9=>Sum.elim (λv10=>some v10) (λo7=>
 some (0,false)) u9
/- sawmill/product.isSize -/
def RR (x3:Bool):Option Bool:=
 some x3
def XA (a1:Int):Option Bool:=
 bif decide (a1≥1) then
 RR (decide (a1<=600))
 else
 RR false
/- sawmill/product.grow -/
def BC (a1:Int) (a2:Int):Option Int:=
 some (w64 (Int.tdiv (w64 ((w64 (a1*(w64 (1000+a2))))+999)) 1000))
/- sawmill/product.Green -/
def WF (a1:Product) (x9:Bool):Option (Int×Int):=
 bif x9 then
 some (0,0)
 else
 (BC a1.Thick a1.Allow).bind λv11=>
 (BC a1.Width a1.Allow).bind λv13=>
 some (v11,v13)
def QA (a1:Product):Option (Int×Int):=
 (XA a1.Thick).bind λv2=>
 bif !v2 then
 WF a1 true
 else
 (XA a1.Width).bind λv5=>
 bif !v5 then
 WF a1 true
 else
 bif decide (a1.Allow<0) then
 WF a1 true
 else
 WF a1 (decide (a1.Allow>200))
/- sawmill/product.checkNumbers -/
def ZV (x18:Int) (rec_product_checkNumbers_L3:Int->Option (Int⊕Unit)) (x26:Bool):Option (Int⊕Unit):=
 bif x26 then
 some (Sum.inl 11)
 else
 rec_product_checkNumbers_L3 (w64 (x18+1))
def ZT (a1:Product) (x18:Int) (rec_product_checkNumbers_L3:Int->Option (Int⊕Unit)) (x22:Bool):Option (Int⊕Unit):=
 bif x22 then
 some (Sum.inl 9)
 else
 bif decide (x18>0) then
 bif inb (w64 (x18-1)) a1.Lengths.length then
 ZV x18 rec_product_checkNumbers_L3 (decide ((a1.Lengths.getD x18.toNat default)<=(a1.Lengths.getD (w64 (x18-1)).toNat default)))
 else none
 else
 ZV x18 rec_product_checkNumbers_L3 false
def zI (a1:Product):Nat->Int->Option (Int⊕Unit)
 |0,_=>none
 |n+1,x18=>
 bif decide (x18<((a1.Lengths.length:Nat):Int)) then
 bif inb x18 a1.Lengths.length then
 bif decide ((a1.Lengths.getD x18.toNat default)<100) then
 ZT a1 x18 (zI a1 n) true
 else
 ZT a1 x18 (zI a1 n) (decide ((a1.Lengths.getD x18.toNat default)>20000))
 else none
 else
 some (Sum.inr ())
def ZU (x32:Int) (rec_product_checkNumbers_L6:Int->Option (Int⊕Unit)) (x36:Bool):Option (Int⊕Unit):=
 bif x36 then
 some (Sum.inl 9)
 else
 rec_product_checkNumbers_L6 (w64 (x32+1))
def zQ (a1:Product):Nat->Int->Option (Int⊕Unit)
 |0,_=>none
 |n+1,x32=>
 bif decide (x32<((a1.Prices.length:Nat):Int)) then
 bif inb x32 a1.Prices.length then
 bif decide ((a1.Prices.getD x32.toNat default)<0) then
 ZU x32 (zQ a1 n) true
 else
 ZU x32 (zQ a1 n) (decide ((a1.Prices.getD x32.toNat default)>1000000))
 else none
 else
 some (Sum.inr ())
def jF (a1:Product) (x10:Bool):Option Int:=
 bif x10 then
 some 9
 else
 (QA a1).bind λv12=>
 bif decide (v12.2>600) then
 some 9
 else
 bif ((a1.Lengths.length:Nat):Int)==0 then
 some 3
 else
 bif decide (((a1.Lengths.length:Nat):Int)>8) then
 some 4
 else
 bif ((a1.Prices.length:Nat):Int) !=((a1.Lengths.length:Nat):Int) then
 some 19
 else
 (zI a1 FUEL 0).bind λu30=>Sum.elim (λv31=>some v31) (λo28=>
 (zQ a1 FUEL 0).bind λu40=>Sum.elim (λv41=>some v41) (λo38=>
 some 0) u40) u30
def jE (a1:Product) (x5:Bool):Option Int:=
 bif x5 then
 some 9
 else
 bif decide (a1.Allow<0) then
 jF a1 true
 else
 bif decide (a1.Allow>200) then
 jF a1 true
 else
 bif decide (a1.Wane<0) then
 jF a1 true
 else
 jF a1 (decide (a1.Wane>1000))
def ZA (a1:Product):Option Int:=
 bif decide (a1.Thick<5) then
 jE a1 true
 else
 bif decide (a1.Thick>300) then
 jE a1 true
 else
 bif decide (a1.Width<a1.Thick) then
 jE a1 true
 else
 jE a1 (decide (a1.Width>600))
/- sawmill/product.Check -/
def QD (a1:List Product):Nat->Int->Option (Int⊕Unit)
 |0,_=>none
 |n+1,x3=>
 bif decide (x3<((a1.length:Nat):Int)) then
 bif inb x3 a1.length then
 (BF ((a1.getD x3.toNat default).Name)).bind λv6=>
 bif !v6 then
 some (Sum.inl 6)
 else
 bif slOk 0 x3 a1.length then
 (NH (a1.take x3.toNat) ((a1.getD x3.toNat default).Name)).bind λv10=>
 bif v10.2 then
 some (Sum.inl 7)
 else
 (ZA (a1.getD x3.toNat default)).bind λv13=>
 bif v13 !=0 then
 some (Sum.inl v13)
 else
 (QD a1 n) (w64 (x3+1))
 else none
 else none
 else
 some (Sum.inr ())
def jN (a1:List Product):Option Int:=
 bif decide (((a1.length:Nat):Int)>16) then
 some 4
 else
 (QD a1 FUEL 0).bind λu18=>Sum.elim (λv19=>some v19) (λo16=>
 some 0) u18
/- sawmill/worth.isStep -/
def DU (x3:Bool):Option Bool:=
 some x3
def TY (a1:Int):Option Bool:=
 bif decide (a1≥1) then
 DU (decide (a1<=20000))
 else
 DU false
/- sawmill/worth.isFine -/
def DF (x3:Bool):Option Bool:=
 some x3
def TF (a1:Int):Option Bool:=
 bif decide (a1≥0) then
 DF (decide (a1<=1000000))
 else
 DF false
/- sawmill/worth.Check -/
def WQ (x20:Bool):Option Int:=
 bif x20 then
 some 9
 else
 some 0
def UI (a2:Rates) (x12:Bool):Option Int:=
 bif x12 then
 some 9
 else
 bif decide (a2.Chip<0) then
 WQ true
 else
 bif decide (a2.Chip>1000) then
 WQ true
 else
 bif decide (a2.Dust<0) then
 WQ true
 else
 bif decide (a2.Dust>1000) then
 WQ true
 else
 (TF a2.Fine).bind λv18=>
 WQ (!v18)
def XK (a1:Saw) (a2:Rates) (x6:Bool):Option Int:=
 bif x6 then
 some 9
 else
 bif decide (a1.Pitch<1) then
 UI a2 true
 else
 bif decide (a1.Pitch>2000) then
 UI a2 true
 else
 (TY a1.Step).bind λv10=>
 UI a2 (!v10)
def YZ (a1:Saw) (a2:Rates):Option Int:=
 bif decide (a1.Kerf<0) then
 XK a1 a2 true
 else
 bif decide (a1.Kerf>20) then
 XK a1 a2 true
 else
 bif decide (a1.Trim<0) then
 XK a1 a2 true
 else
 XK a1 a2 (decide (a1.Trim>20))
/- sawmill/plan.checkFrame -/
def NZ (x5:Int) (rec_plan_checkFrame_L2:Int->Option (Int⊕Unit)) (x9:Bool):Option (Int⊕Unit):=
 bif x9 then
 some (Sum.inl 9)
 else
 rec_plan_checkFrame_L2 (w64 (x5+1))
def zC (a1:Rect):Nat->Int->Option (Int⊕Unit)
 |0,_=>none
 |n+1,x5=>
 bif decide (x5<4) then
 bif inb x5 4 then
 bif decide ((([a1.X.A,a1.X.B,a1.Y.A,a1.Y.B]:List Int).getD x5.toNat 0)<(-600)) then
 NZ x5 (zC a1 n) true
 else
 NZ x5 (zC a1 n) (decide ((([a1.X.A,a1.X.B,a1.Y.A,a1.Y.B]:List Int).getD x5.toNat 0)>600))
 else none
 else
 some (Sum.inr ())
def PO (a1:Rect) (x3:Bool):Option Int:=
 bif x3 then
 some 19
 else
 (zC a1 FUEL 0).bind λu13=>Sum.elim (λv14=>some v14) (λo11=>
 some 0) u13
def JN (a1:Rect):Option Int:=
 bif decide (a1.X.A≥a1.X.B) then
 PO a1 true
 else
 PO a1 (decide (a1.Y.A≥a1.Y.B))
/- sawmill/plan.check -/
def GA (a1:List qB) (a2:List Defect) (a3:List Product) (a4:Rect) (a5:Saw) (a6:Rates):Option Int:=
 (JE a1).bind λv7=>
 bif v7 !=0 then
 some v7
 else
 (JI a2).bind λv10=>
 bif v10 !=0 then
 some v10
 else
 (jN a3).bind λv13=>
 bif v13 !=0 then
 some v13
 else
 (YZ a5 a6).bind λv16=>
 bif v16 !=0 then
 some v16
 else
 (JN a4).bind λv19=>
 some v19
/- slices.Sort[[]int,int] -/
def UU (a1:List Int):Option (List Int):=
 bif Nat.blt a1.length 4611686018427387904 then some (RQ (λx y=>decide (x<=y)) a1) else none
/- slices.Compact[[]int,int] -/
def JD (x12:Int) (rec_slices_Compact_Si64_L2:(List Int)->Int->Int->Option ((List Int)×Int)) (l19:List Int) (x20:Int):Option ((List Int)×Int):=
 rec_slices_Compact_Si64_L2 l19 x20 (w64 (x12+1))
def wD (l3:List Int) (x4:Int):Nat->(List Int)->Int->Int->Option ((List Int)×Int)
 |0,_,_,_=>none
 |n+1,l10,x11,x12=>
 bif decide (x12<(((l3.length-x4.toNat):Nat):Int)) then
 bif inb x12 (l3.length-x4.toNat) then
 bif Nat.ble (x4.toNat+(l3.length-x4.toNat)) l10.length then
 bif inb (w64 (x12-1)) (l3.length-x4.toNat) then
 bif (l10.getD (x4.toNat+x12.toNat) default) !=(l10.getD (x4.toNat+((w64 (x12-1)).toNat)) default) then
 bif inb x11 l10.length then
 JD x12 (wD l3 x4 n) (l10.set x11.toNat (l10.getD (x4.toNat+x12.toNat) default)) (w64 (x11+1))
 else none
 else
 JD x12 (wD l3 x4 n) l10 x11
 else none
 else none
 else none
 else
 some (l10,x11)
def jP :Nat->(List Int)->Int->Option (((List Int)×(List Int))⊕(List Int))
 |0,_,_=>none
 |n+1,l3,x4=>
 bif decide (x4<((l3.length:Nat):Int)) then
 bif inb x4 l3.length then
 bif inb (w64 (x4-1)) l3.length then
 bif (l3.getD x4.toNat default)==(l3.getD ((w64 (x4-1)).toNat) default) then
 bif slOk x4 ((l3.length:Nat):Int) l3.length then
 (wD l3 x4 FUEL l3 x4 1).bind λo23=>
 bif slOk o23.2 ((o23.1.length:Nat):Int) o23.1.length then
 bif slOk 0 o23.2 o23.1.length then
 some (Sum.inl ((o23.1.take o23.2.toNat),(o23.1.take o23.2.toNat)))
 else none
 else none
 else none
 else
 (jP n) l3 (w64 (x4+1))
 else none
 else none
 else
 some (Sum.inr l3)
def WB (a1:List Int):Option ((List Int)×(List Int)):=
 bif decide (((a1.length:Nat):Int)<2) then
 some (a1,a1)
 else
 (jP FUEL a1 1).bind λu30=>Sum.elim (λv31=>some v31) (λo28=>
 some (o28,o28)) u30
/- sawmill/plan.Heights -/
def JU (a1:List Product):Nat->(List Int)->Int->Option (List Int)
 |0,_,_=>none
 |n+1,l5,x6=>
 bif decide (x6<((a1.length:Nat):Int)) then
 bif inb x6 a1.length then
 (QA (a1.getD x6.toNat default)).bind λv9=>
 bif room (l5.length+2) 8 then
 (JU a1 n) (l5++([v9.1,v9.2]:List Int)) (w64 (x6+1))
 else none
 else none
 else
 some l5
def JK (a1:List Product):Option (List Int):=
 (jN a1).bind λv2=>
 bif v2 !=0 then
 some ([]:List Int)
 else
 (JU a1 FUEL ([]:List Int) 0).bind λo13=>
 (UU o13).bind λv15=>
 bif v15.length==o13.length then
 (WB v15).bind λv18=>
 some v18.2
 else none
/- sawmill/plan.strip -/
def VX (a1:Rect) (a2:Int) (a3:Int):Option Rect:=
 some (Rect.mk a1.X (Span.mk (w64 (a1.Y.A+a2)) (w64 (a1.Y.A+a3))))
/- sawmill/edge.check -/
def MX (x22:Int) (rec_edge_check_L2:Int->Option (Int⊕Unit)) (x26:Bool):Option (Int⊕Unit):=
 bif x26 then
 some (Sum.inl 9)
 else
 rec_edge_check_L2 (w64 (x22+1))
def QB (a4:Rect):Nat->Int->Option (Int⊕Unit)
 |0,_=>none
 |n+1,x22=>
 bif decide (x22<4) then
 bif inb x22 4 then
 bif decide ((([a4.X.A,a4.X.B,a4.Y.A,a4.Y.B]:List Int).getD x22.toNat 0)<(-600)) then
 MX x22 (QB a4 n) true
 else
 MX x22 (QB a4 n) (decide ((([a4.X.A,a4.X.B,a4.Y.A,a4.Y.B]:List Int).getD x22.toNat 0)>600))
 else none
 else
 some (Sum.inr ())
def HE (a4:Rect) (x20:Bool):Option Int:=
 bif x20 then
 some 19
 else
 (QB a4 FUEL 0).bind λu30=>Sum.elim (λv31=>some v31) (λo28=>
 some 0) u30
def ED (a1:List qB) (a2:List Defect) (a3:List Product) (a4:Rect) (a5:Saw) (a6:Rates):Option Int:=
 (JE a1).bind λv7=>
 bif v7 !=0 then
 some v7
 else
 (JI a2).bind λv10=>
 bif v10 !=0 then
 some v10
 else
 (jN a3).bind λv13=>
 bif v13 !=0 then
 some v13
 else
 (YZ a5 a6).bind λv16=>
 bif v16 !=0 then
 some v16
 else
 bif decide (a4.X.A≥a4.X.B) then
 HE a4 true
 else
 HE a4 (decide (a4.Y.A≥a4.Y.B))
/- sawmill/edge.Sizes -/
def MZ (x8:Int) (rec_edge_Sizes_L1:(List Int)->(List Int)->Int->Option ((List Int)×(List Int))) (l19:List Int) (l20:List Int):Option ((List Int)×(List Int)):=
 rec_edge_Sizes_L1 l19 l20 (w64 (x8+1))
def MU (l7:List Int) (x8:Int) (rec_edge_Sizes_L1:(List Int)->(List Int)->Int->Option ((List Int)×(List Int))) (l17:List Int):Option ((List Int)×(List Int)):=
 bif room (l7.length+1) 8 then
 MZ x8 rec_edge_Sizes_L1 l17 (l7++([x8]:List Int))
 else none
def jM (a1:List Product) (a2:Int):Nat->(List Int)->(List Int)->Int->Option ((List Int)×(List Int))
 |0,_,_,_=>none
 |n+1,l6,l7,x8=>
 bif decide (x8<((a1.length:Nat):Int)) then
 bif inb x8 a1.length then
 (QA (a1.getD x8.toNat default)).bind λv11=>
 bif a2==v11.1 then
 bif room (l6.length+1) 8 then
 MU l7 x8 (jM a1 a2 n) (l6++([v11.2]:List Int))
 else none
 else
 bif a2==v11.2 then
 bif room (l6.length+1) 8 then
 MU l7 x8 (jM a1 a2 n) (l6++([v11.1]:List Int))
 else none
 else
 MZ x8 (jM a1 a2 n) l6 l7
 else none
 else
 some (l6,l7)
def GB (a1:List Product) (a2:Int):Option ((List Int)×(List Int)):=
 (jN a1).bind λv3=>
 bif v3 !=0 then
 some (([]:List Int),([]:List Int))
 else
 (jM a1 a2 FUEL ([]:List Int) ([]:List Int) 0).bind λo23=>
 some (o23.1,o23.2)
/- sawmill/edge.part -/
def BU (a1:Rect) (a2:Int) (a3:Int):Option Rect:=
 some (Rect.mk (Span.mk (w64 (a1.X.A+a2)) (w64 (a1.X.A+a3))) a1.Y)
/- sawmill/worth.isRect -/
def yS (x2:Int) (rec_worth_isRect_L1:Int->Option (Bool⊕Unit)) (x7:Bool):Option (Bool⊕Unit):=
 bif x7 then
 some (Sum.inl false)
 else
 rec_worth_isRect_L1 (w64 (x2+1))
def wG (a1:Rect):Nat->Int->Option (Bool⊕Unit)
 |0,_=>none
 |n+1,x2=>
 bif decide (x2<2) then
 bif inb x2 2 then
 bif decide ((([a1.X.A,a1.X.B,a1.Y.A,a1.Y.B]:List Int).getD (x2.toNat*2+0) 0)<(-600)) then
 yS x2 (wG a1 n) true
 else
 bif decide ((([a1.X.A,a1.X.B,a1.Y.A,a1.Y.B]:List Int).getD (x2.toNat*2+1) 0)>600) then
 yS x2 (wG a1 n) true
 else
 yS x2 (wG a1 n) (decide ((([a1.X.A,a1.X.B,a1.Y.A,a1.Y.B]:List Int).getD (x2.toNat*2+0) 0)≥(([a1.X.A,a1.X.B,a1.Y.A,a1.Y.B]:List Int).getD (x2.toNat*2+1) 0)))
 else none
 else
 some (Sum.inr ())
def NO (a1:Rect):Option Bool:=
 (wG a1 FUEL 0).bind λu11=>Sum.elim (λv12=>some v12) (λo9=>
 some true) u11
/- sawmill/solid.valid -/
def YX (a1:List qB):Option (List qB):=
 (JE a1).bind λv2=>
 bif v2 !=0 then
 some ([]:List qB)
 else
 some a1
/- sawmill/solid.Length -/
def ZG (v2:(List qB)):Nat->Int->Int->Option Int
 |0,_,_=>none
 |n+1,x4,x5=>
 bif decide (x5<((v2.length:Nat):Int)) then
 bif inb x5 v2.length then
 (ZG v2 n) (w64 (x4+((v2.getD x5.toNat default).Len))) (w64 (x5+1))
 else none
 else
 some x4
def yV (a1:List qB):Option Int:=
 (YX a1).bind λv2=>
 (ZG v2 FUEL 0 0).bind λo9=>
 some o9
/- sawmill/section.valid -/
def YJ (a1:qK):Option qK:=
 (KS a1).bind λv2=>
 bif v2 !=0 then
 some (qK.mk 0 ([]:List Span))
 else
 some a1
/- sawmill/section.heights -/
def JP (a1:Int) (a2:Int):Option Span:=
 some (Span.mk (w64 (10*a1)) (w64 (10*a2)))
/- sawmill/span.Meet -/
def YV (a1:Span) (a2:Span):Option Span:=
 bif decide ((imax a1.A a2.A)≥(imin a1.B a2.B)) then
 some (Span.mk 0 0)
 else
 some (Span.mk (imax a1.A a2.A) (imin a1.B a2.B))
/- sawmill/span.size -/
def qDk (a1:Span):Option Int:=
 bif decide (a1.A≥a1.B) then
 some 0
 else
 some (IntKind.u64.wrap ((IntKind.u64.wrap (a1.B))-(IntKind.u64.wrap (a1.A))))
/- sawmill/span.limited -/
def SU (a1:Int):Option Int:=
 some (w64 (imin a1 9223372036854775807))
/- sawmill/span.Len -/
def YH (a1:Span):Option Int:=
 (qDk a1).bind λv2=>
 (SU v2).bind λv4=>
 some v4
/- sawmill/section.Within -/
def ZN (a2:Rect) (v3:qK):Nat->Int->Int->Option Int
 |0,_,_=>none
 |n+1,x5,x6=>
 bif decide (x6<((v3.Rows.length:Nat):Int)) then
 bif inb x6 v3.Rows.length then
 (JP (w64 (v3.Low+x6)) (w64 ((w64 (v3.Low+x6))+1))).bind λv9=>
 (YV (v3.Rows.getD x6.toNat default) a2.X).bind λv11=>
 (YH v11).bind λv13=>
 (YV v9 a2.Y).bind λv15=>
 (YH v15).bind λv17=>
 (ZN a2 v3 n) (w64 (x5+(w64 (v13*v17)))) (w64 (x6+1))
 else none
 else
 some x5
def XC (a1:qK) (a2:Rect):Option Int:=
 (YJ a1).bind λv3=>
 (ZN a2 v3 FUEL 0 0).bind λo20=>
 some o20
/- sawmill/worth.lacks -/
def XI (a1:List qB) (a2:Rect):Nat->(List Worth_zone)->Int->Int->Option (List Worth_zone)
 |0,_,_,_=>none
 |n+1,l3,x4,x5=>
 bif decide (x5<((a1.length:Nat):Int)) then
 bif inb x5 a1.length then
 (XC ((a1.getD x5.toNat default).Sec) a2).bind λv8=>
 bif nz (w64 ((w64 (a2.X.B-a2.X.A))*(w64 (a2.Y.B-a2.Y.A)))) then
 bif room (l3.length+1) 24 then
 (XI a1 a2 n) (l3++([(Worth_zone.mk (Span.mk x4 (w64 (x4+((a1.getD x5.toNat default).Len)))) (w64 (Int.tdiv (w64 ((w64 ((w64 (1000*(w64 ((w64 ((w64 (a2.X.B-a2.X.A))*(w64 (a2.Y.B-a2.Y.A))))-v8))))+(w64 ((w64 (a2.X.B-a2.X.A))*(w64 (a2.Y.B-a2.Y.A))))))-1)) (w64 ((w64 (a2.X.B-a2.X.A))*(w64 (a2.Y.B-a2.Y.A)))))))]:List Worth_zone)) (w64 (x4+((a1.getD x5.toNat default).Len))) (w64 (x5+1))
 else none
 else none
 else none
 else
 some l3
def MI (a1:List qB) (a2:Rect):Option (List Worth_zone):=
 (XI a1 a2 FUEL ([]:List Worth_zone) 0 0).bind λo13=>
 some o13
/- (sawmill/worth.view).box -/
def XF (a1:Worth_view) (a2:Span):Option Box:=
 some (Box.mk a1.rect.X a1.rect.Y a2)
/- sawmill/defect.meet -/
def TA (v3:Span) (v5:Span) (v7:Span) (x17:Bool):Option (Box×Bool):=
 bif x17 then
 some ((Box.mk (Span.mk 0 0) (Span.mk 0 0) (Span.mk 0 0)),false)
 else
 some ((Box.mk v3 v5 v7),true)
def CD (a1:Box) (a2:Box):Option (Box×Bool):=
 (YV a1.X a2.X).bind λv3=>
 (YV a1.Y a2.Y).bind λv5=>
 (YV a1.Z a2.Z).bind λv7=>
 (yL v3).bind λv9=>
 bif v9 then
 TA v3 v5 v7 true
 else
 (yL v5).bind λv12=>
 bif v12 then
 TA v3 v5 v7 true
 else
 (yL v7).bind λv15=>
 TA v3 v5 v7 v15
/- sawmill/defect.Touches -/
def XG (a1:Defect) (a2:Box):Option Bool:=
 (CD a1.Box a2).bind λv3=>
 some v3.2
/- sawmill/worth.look -/
def MT (x29:Int) (rec_worth_look_L3:Int->(List Defect)->Option (List Defect)) (l37:List Defect):Option (List Defect):=
 rec_worth_look_L3 (w64 (x29+1)) l37
def ZR (a2:List Defect) (v27:Box):Nat->Int->(List Defect)->Option (List Defect)
 |0,_,_=>none
 |n+1,x29,l30=>
 bif decide (x29<((a2.length:Nat):Int)) then
 bif inb x29 a2.length then
 (XG (a2.getD x29.toNat default) v27).bind λv33=>
 bif v33 then
 bif room (l30.length+1) 56 then
 MT x29 (ZR a2 v27 n) (l30++([(a2.getD x29.toNat default)]:List Defect))
 else none
 else
 MT x29 (ZR a2 v27 n) l30
 else none
 else
 some l30
def GF (a1:List qB) (a2:List Defect) (a3:Product) (a4:Rect) (x21:Bool):Option (Worth_view×Bool):=
 bif x21 then
 some ((Worth_view.mk (Product.mk (ByteArray.mk #[]) 0 0 0 0 ([]:List Int) ([]:List Int)) (Rect.mk (Span.mk 0 0) (Span.mk 0 0)) 0 ([]:List Worth_zone) ([]:List Defect)),false)
 else
 (yV a1).bind λv23=>
 (MI a1 a4).bind λv25=>
 (XF (Worth_view.mk a3 a4 v23 v25 ([]:List Defect)) (Span.mk 0 v23)).bind λv27=>
 (ZR a2 v27 FUEL 0 ([]:List Defect)).bind λo39=>
 some ((Worth_view.mk a3 a4 v23 v25 o39),true)
def KT (a1:List qB) (a2:List Defect) (a3:Product) (a4:Rect) (x16:Bool):Option (Worth_view×Bool):=
 bif x16 then
 some ((Worth_view.mk (Product.mk (ByteArray.mk #[]) 0 0 0 0 ([]:List Int) ([]:List Int)) (Rect.mk (Span.mk 0 0) (Span.mk 0 0)) 0 ([]:List Worth_zone) ([]:List Defect)),false)
 else
 (QA a3).bind λv18=>
 bif !(((w64 (a4.X.B-a4.X.A))==v18.1)&&(((w64 (a4.Y.B-a4.Y.A))==v18.2)&&true)) then
 GF a1 a2 a3 a4 (!(((w64 (a4.X.B-a4.X.A))==v18.2)&&(((w64 (a4.Y.B-a4.Y.A))==v18.1)&&true)))
 else
 GF a1 a2 a3 a4 false
def AD (a1:List qB) (a2:List Defect) (a3:Product) (a4:Rect):Option (Worth_view×Bool):=
 (JE a1).bind λv5=>
 bif v5 !=0 then
 KT a1 a2 a3 a4 true
 else
 (JI a2).bind λv8=>
 bif v8 !=0 then
 KT a1 a2 a3 a4 true
 else
 (jN ([a3]:List Product)).bind λv11=>
 bif v11 !=0 then
 KT a1 a2 a3 a4 true
 else
 (NO a4).bind λv14=>
 KT a1 a2 a3 a4 (!v14)
/- sawmill/worth.isWithin -/
def YK (x5:Bool):Option Bool:=
 some x5
def FH (a1:Span) (a2:Int):Option Bool:=
 bif decide (a1.A≥0) then
 bif decide (a1.A<a1.B) then
 YK (decide (a1.B<=a2))
 else
 YK false
 else
 YK false
/- sawmill/product.Price -/
def QF (a1:Product) (a2:Int):Nat->Int->Option ((Int×Bool)⊕Unit)
 |0,_=>none
 |n+1,x3=>
 bif decide (x3<((a1.Lengths.length:Nat):Int)) then
 bif inb x3 a1.Lengths.length then
 bif (a1.Lengths.getD x3.toNat default) !=a2 then
 (QF a1 a2 n) (w64 (x3+1))
 else
 bif decide (x3≥((a1.Prices.length:Nat):Int)) then
 some (Sum.inl (0,false))
 else
 bif inb x3 a1.Prices.length then
 some (Sum.inl ((a1.Prices.getD x3.toNat default),true))
 else none
 else none
 else
 some (Sum.inr ())
def GJ (a1:Product) (a2:Int):Option (Int×Bool):=
 (QF a1 a2 FUEL 0).bind λu11=>Sum.elim (λv12=>some v12) (λo9=>
 some (0,false)) u11
/- sawmill/worth.worst -/
def FP (x4:Int) (rec_worth_worst_L1:Int->Int->Option Int) (x10:Int):Option Int:=
 rec_worth_worst_L1 x10 (w64 (x4+1))
def LB (a1:List Worth_zone) (x3:Int) (x4:Int) (rec_worth_worst_L1:Int->Int->Option Int) (x8:Bool):Option Int:=
 bif x8 then
 FP x4 rec_worth_worst_L1 (imax x3 ((a1.getD x4.toNat default).lack))
 else
 FP x4 rec_worth_worst_L1 x3
def yH (a1:List Worth_zone) (a2:Span):Nat->Int->Int->Option Int
 |0,_,_=>none
 |n+1,x3,x4=>
 bif decide (x4<((a1.length:Nat):Int)) then
 bif inb x4 a1.length then
 bif decide ((((a1.getD x4.toNat default).z).A)<a2.B) then
 LB a1 x3 x4 (yH a1 a2 n) (decide (a2.A<(((a1.getD x4.toNat default).z).B)))
 else
 LB a1 x3 x4 (yH a1 a2 n) false
 else none
 else
 some x3
def MD (a1:List Worth_zone) (a2:Span):Option Int:=
 (yH a1 a2 FUEL 0 0).bind λo12=>
 some o12
/- (sawmill/worth.view).worth -/
def KK (x17:Int) (rec_worth_view_worth_L2:Int->Int->Option ((Int×Bool)⊕Int)) (x24:Int):Option ((Int×Bool)⊕Int):=
 rec_worth_view_worth_L2 x24 (w64 (x17+1))
def zM (a1:Worth_view) (a3:Int) (v14:Box):Nat->Int->Int->Option ((Int×Bool)⊕Int)
 |0,_,_=>none
 |n+1,x16,x17=>
 bif decide (x17<((a1.defects.length:Nat):Int)) then
 bif inb x17 a1.defects.length then
 (XG (a1.defects.getD x17.toNat default) v14).bind λv20=>
 bif !v20 then
 KK x17 (zM a1 a3 v14 n) x16
 else
 bif ((a1.defects.getD x17.toNat default).Kind)==3 then
 some (Sum.inl (0,false))
 else
 KK x17 (zM a1 a3 v14 n) (w64 (x16-a3))
 else none
 else
 some (Sum.inr x16)
def KP (a1:Worth_view) (a2:Span) (a3:Int) (v7:Int×Bool) (x12:Bool):Option (Int×Bool):=
 bif x12 then
 some (0,false)
 else
 (XF a1 a2).bind λv14=>
 (zM a1 a3 v14 FUEL v7.1 0).bind λu28=>Sum.elim (λv29=>some v29) (λo26=>
 some (imax o26 0,true)) u28
def WH (a1:Worth_view) (a2:Span) (a3:Int):Option (Int×Bool):=
 (FH a2 a1.length).bind λv4=>
 bif !v4 then
 some (0,false)
 else
 (GJ a1.product (w64 (a2.B-a2.A))).bind λv7=>
 bif !v7.2 then
 KP a1 a2 a3 v7 true
 else
 (MD a1.zones a2).bind λv10=>
 KP a1 a2 a3 v7 (decide (v10>a1.product.Wane))
/- sawmill/worth.Best -/
def HC (x24:Int) (rec_worth_Best_L3:Int->Bool->Int->Span->Option (Int×Bool×Span)) (x34:Int) (x35:Bool) (x36:Span):Option (Int×Bool×Span):=
 rec_worth_Best_L3 x34 x35 (w64 (x24+1)) x36
def GM (a3:Product) (x19:Int) (x22:Int) (x23:Bool) (x24:Int) (x25:Span) (rec_worth_Best_L3:Int->Bool->Int->Span->Option (Int×Bool×Span)) (v28:Int×Bool) (x32:Bool):Option (Int×Bool×Span):=
 bif x32 then
 HC x24 rec_worth_Best_L3 v28.1 true (Span.mk x19 (w64 (x19+(a3.Lengths.getD x24.toNat default))))
 else
 HC x24 rec_worth_Best_L3 x22 x23 x25
def jL (a3:Product) (a6:Int) (v14:Worth_view×Bool) (x19:Int):Nat->Int->Bool->Int->Span->Option (Int×Bool×Span)
 |0,_,_,_,_=>none
 |n+1,x22,x23,x24,x25=>
 bif decide (x24<((a3.Lengths.length:Nat):Int)) then
 bif inb x24 a3.Lengths.length then
 (WH (Worth_view.mk v14.1.product v14.1.rect v14.1.length v14.1.zones v14.1.defects) (Span.mk x19 (w64 (x19+(a3.Lengths.getD x24.toNat default)))) a6).bind λv28=>
 bif v28.2 then
 bif !x23 then
 GM a3 x19 x22 x23 x24 x25 (jL a3 a6 v14 x19 n) v28 true
 else
 GM a3 x19 x22 x23 x24 x25 (jL a3 a6 v14 x19 n) v28 (decide (v28.1>x22))
 else
 GM a3 x19 x22 x23 x24 x25 (jL a3 a6 v14 x19 n) v28 false
 else none
 else
 some (x22,x23,x25)
def YF (a3:Product) (a5:Int) (a6:Int) (v14:Worth_view×Bool):Nat->Int->Bool->Int->Span->Option (Int×Bool×Span)
 |0,_,_,_,_=>none
 |n+1,x17,x18,x19,x20=>
 bif decide (x19<v14.1.length) then
 (jL a3 a6 v14 x19 FUEL x17 x18 0 x20).bind λo40=>
 (YF a3 a5 a6 v14 n) o40.1 o40.2.1 (w64 (x19+a5)) o40.2.2
 else
 some (x17,x18,x20)
def MS (a1:List qB) (a2:List Defect) (a3:Product) (a4:Rect) (a5:Int) (a6:Int) (x12:Bool):Option (Span×Int×Bool):=
 bif x12 then
 some ((Span.mk 0 0),0,false)
 else
 (AD a1 a2 a3 a4).bind λv14=>
 bif !v14.2 then
 some ((Span.mk 0 0),0,false)
 else
 (YF a3 a5 a6 v14 FUEL 0 false 0 (Span.mk 0 0)).bind λo45=>
 some (o45.2.2,o45.1,o45.2.1)
def FR (a1:List qB) (a2:List Defect) (a3:Product) (a4:Rect) (a5:Int) (a6:Int):Option (Span×Int×Bool):=
 (TY a5).bind λv7=>
 bif !v7 then
 MS a1 a2 a3 a4 a5 a6 true
 else
 (TF a6).bind λv10=>
 MS a1 a2 a3 a4 a5 a6 (!v10)
/- sawmill/solid.extents -/
def WM (a1:List qB):Nat->(List Span)->Int->Int->Option (List Span)
 |0,_,_,_=>none
 |n+1,l3,x4,x5=>
 bif decide (x5<((a1.length:Nat):Int)) then
 bif inb x5 a1.length then
 bif inb x5 l3.length then
 (WM a1 n) (l3.set x5.toNat (Span.mk x4 (w64 (x4+((a1.getD x5.toNat default).Len))))) (w64 (x4+((a1.getD x5.toNat default).Len))) (w64 (x5+1))
 else none
 else none
 else
 some l3
def GL (a1:List qB):Option (List Span):=
 bif mkOk ((a1.length:Nat):Int) 16 then
 (WM a1 FUEL (List.replicate (((a1.length:Nat):Int).toNat) (Span.mk 0 0)) 0 0).bind λo10=>
 some o10
 else none
/- sawmill/solid.Within -/
def DI (x8:Int) (rec_solid_Within_L1:Int->Int->Option Int) (x19:Int):Option Int:=
 rec_solid_Within_L1 x19 (w64 (x8+1))
def yT (a2:Box) (v3:(List qB)) (v5:(List Span)):Nat->Int->Int->Option Int
 |0,_,_=>none
 |n+1,x7,x8=>
 bif decide (x8<((v5.length:Nat):Int)) then
 bif inb x8 v5.length then
 (YV (v5.getD x8.toNat default) a2.Z).bind λv11=>
 (YH v11).bind λv13=>
 bif decide (v13>0) then
 bif inb x8 v3.length then
 (XC ((v3.getD x8.toNat default).Sec) (Rect.mk a2.X a2.Y)).bind λv17=>
 DI x8 (yT a2 v3 v5 n) (w64 (x7+(w64 (v13*v17))))
 else none
 else
 DI x8 (yT a2 v3 v5 n) x7
 else none
 else
 some x7
def yX (a1:List qB) (a2:Box):Option Int:=
 (YX a1).bind λv3=>
 (GL v3).bind λv5=>
 (yT a2 v3 v5 FUEL 0 0).bind λo21=>
 some o21
/- sawmill/edge.volume -/
def JC (a1:List qB) (a2:Rect) (a3:Span):Option Int:=
 (yX a1 (Box.mk a2.X a2.Y a3)).bind λv4=>
 some v4
/- sawmill/edge.gain -/
def CQ (a1:List qB) (a2:List Defect) (a3:Product) (a4:Rect) (a5:Saw) (a6:Rates):Option Int:=
 (FR a1 a2 a3 a4 a5.Step a6.Fine).bind λv7=>
 bif !v7.2.2 then
 some (-1)
 else
 (yV a1).bind λv10=>
 (JC a1 a4 (Span.mk 0 v10)).bind λv12=>
 (JC a1 a4 v7.1).bind λv14=>
 (JC a1 a4 (Span.mk (imax 0 (w64 (v7.1.A-a5.Trim))) v7.1.A)).bind λv16=>
 (JC a1 a4 (Span.mk v7.1.B (imin (w64 (v7.1.B+a5.Trim)) v10))).bind λv18=>
 some (w64 ((w64 ((w64 (1000000*v7.2.1))+(w64 (a6.Dust*(w64 (v16+v18))))))+(w64 (a6.Chip*(w64 ((w64 (v12-v14))-(w64 (v16+v18))))))))
/- sawmill/edge.Line -/
def ET (l16:List Int) (x17:Int) (rec_edge_Line_L2:(List Int)->Int->Option (List Int)) (x27:Int):Option (List Int):=
 bif room (l16.length+1) 8 then
 rec_edge_Line_L2 (l16++([x27]:List Int)) (w64 (x17+1))
 else none
def ZF (a1:List qB) (a2:List Defect) (a3:List Product) (a4:Rect) (a5:Saw) (a6:Rates) (v10:(List Int)×(List Int)) (x12:Int):Nat->(List Int)->Int->Option (List Int)
 |0,_,_=>none
 |n+1,l16,x17=>
 bif decide ((w64 (x17+(v10.1.getD x12.toNat default)))<=(w64 (a4.X.B-a4.X.A))) then
 bif nz a5.Pitch then
 bif (Int.tmod x17 a5.Pitch)==0 then
 bif inb x12 v10.2.length then
 bif inb (v10.2.getD x12.toNat default) a3.length then
 (BU a4 x17 (w64 (x17+(v10.1.getD x12.toNat default)))).bind λv23=>
 (CQ a1 a2 (a3.getD (v10.2.getD x12.toNat default).toNat default) v23 a5 a6).bind λv25=>
 ET l16 x17 (ZF a1 a2 a3 a4 a5 a6 v10 x12 n) v25
 else none
 else none
 else
 ET l16 x17 (ZF a1 a2 a3 a4 a5 a6 v10 x12 n) (-1)
 else none
 else
 some l16
def XL (a1:List qB) (a2:List Defect) (a3:List Product) (a4:Rect) (a5:Saw) (a6:Rates) (v10:(List Int)×(List Int)):Nat->Int->(List (List Int))->Option (List (List Int))
 |0,_,_=>none
 |n+1,x12,l13=>
 bif decide (x12<((v10.1.length:Nat):Int)) then
 bif inb x12 v10.1.length then
 (ZF a1 a2 a3 a4 a5 a6 v10 x12 FUEL ([]:List Int) 0).bind λo30=>
 bif room (l13.length+1) 24 then
 (XL a1 a2 a3 a4 a5 a6 v10 n) (w64 (x12+1)) (l13++([o30]:List (List Int)))
 else none
 else none
 else
 some l13
def XR (a1:List qB) (a4:Rect) (a6:Rates) (v36:Int):Nat->Int->(List Int)->(List Int)->Option ((List Int)×(List Int))
 |0,_,_,_=>none
 |n+1,x38,l39,l40=>
 bif decide (x38<(w64 (a4.X.B-a4.X.A))) then
 (BU a4 x38 (w64 (x38+1))).bind λv42=>
 (JC a1 v42 (Span.mk 0 v36)).bind λv44=>
 bif room (l39.length+1) 8 then
 bif room (l40.length+1) 8 then
 (XR a1 a4 a6 v36 n) (w64 (x38+1)) (l39++([w64 (a6.Chip*v44)]:List Int)) (l40++([w64 (a6.Dust*v44)]:List Int))
 else none
 else none
 else
 some (l39,l40)
def CO (a1:List qB) (a2:List Defect) (a3:List Product) (a4:Rect) (a5:Saw) (a6:Rates):Option (Line×Int):=
 (ED a1 a2 a3 a4 a5 a6).bind λv7=>
 bif v7 !=0 then
 some ((Line.mk 0 0 0 ([]:List Int) ([]:List (List Int)) ([]:List Int) ([]:List Int)),v7)
 else
 (GB a3 (w64 (a4.Y.B-a4.Y.A))).bind λv10=>
 (XL a1 a2 a3 a4 a5 a6 v10 FUEL 0 ([]:List (List Int))).bind λo34=>
 (yV a1).bind λv36=>
 (XR a1 a4 a6 v36 FUEL 0 ([]:List Int) ([]:List Int)).bind λo50=>
 some ((Line.mk (w64 (a4.X.B-a4.X.A)) a5.Kerf 1 v10.1 o34 o50.1 o50.2),0)
/- sawmill/cutting.measures -/
def KQ (x10:Int) (rec_cutting_measures_L2:Int->Option (Int⊕Unit)) (x14:Bool):Option (Int⊕Unit):=
 bif x14 then
 some (Sum.inl 9)
 else
 rec_cutting_measures_L2 (w64 (x10+1))
def wX (a1:Line):Nat->Int->Option (Int⊕Unit)
 |0,_=>none
 |n+1,x10=>
 bif decide (x10<((a1.Sizes.length:Nat):Int)) then
 bif inb x10 a1.Sizes.length then
 bif decide ((a1.Sizes.getD x10.toNat default)<1) then
 KQ x10 (wX a1 n) true
 else
 KQ x10 (wX a1 n) (decide ((a1.Sizes.getD x10.toNat default)>2000))
 else none
 else
 some (Sum.inr ())
def wY (a1:Line) (x7:Bool):Option Int:=
 bif x7 then
 some 9
 else
 bif decide (((a1.Sizes.length:Nat):Int)>32) then
 some 4
 else
 (wX a1 FUEL 0).bind λu18=>Sum.elim (λv19=>some v19) (λo16=>
 some 0) u18
def XY (a1:Line):Option Int:=
 bif decide (a1.Len<0) then
 wY a1 true
 else
 bif decide (a1.Len>2000) then
 wY a1 true
 else
 bif decide (a1.Kerf<0) then
 wY a1 true
 else
 bif decide (a1.Kerf>20) then
 wY a1 true
 else
 bif decide (a1.Pitch<1) then
 wY a1 true
 else
 wY a1 (decide (a1.Pitch>2000))
/- sawmill/cutting.places -/
def FW (a1:Line) (a2:Int):Option Int:=
 some (imax 0 (w64 ((w64 (a1.Len-a2))+1)))
/- sawmill/cutting.small -/
def GC (x5:Int) (rec_cutting_small_L2:Int->Option (Bool⊕Unit)) (x9:Bool):Option (Bool⊕Unit):=
 bif x9 then
 some (Sum.inl false)
 else
 rec_cutting_small_L2 (w64 (x5+1))
def jZ (a1:List (List Int)) (x2:Int):Nat->Int->Option (Bool⊕Unit)
 |0,_=>none
 |n+1,x5=>
 bif decide (x5<(((a1.getD x2.toNat default).length:Nat):Int)) then
 bif inb x5 ((a1.getD x2.toNat default).length) then
 bif decide (((a1.getD x2.toNat default).getD x5.toNat default)<(-1125899906842624)) then
 GC x5 (jZ a1 x2 n) true
 else
 GC x5 (jZ a1 x2 n) (decide (((a1.getD x2.toNat default).getD x5.toNat default)>1125899906842624))
 else none
 else
 some (Sum.inr ())
def WG (a1:List (List Int)):Nat->Int->Option (Bool⊕Unit)
 |0,_=>none
 |n+1,x2=>
 bif decide (x2<((a1.length:Nat):Int)) then
 bif inb x2 a1.length then
 (jZ a1 x2 FUEL 0).bind λu13=>Sum.elim (λv14=>some (Sum.inl v14)) (λo11=>
 (WG a1 n) (w64 (x2+1))) u13
 else none
 else
 some (Sum.inr ())
def KV (a1:List (List Int)):Option Bool:=
 (WG a1 FUEL 0).bind λu17=>Sum.elim (λv18=>some v18) (λo15=>
 some true) u17
/- sawmill/cutting.Check -/
def WP (a1:Line):Nat->Int->Option (Int⊕Unit)
 |0,_=>none
 |n+1,x9=>
 bif decide (x9<((a1.Gain.length:Nat):Int)) then
 bif inb x9 a1.Gain.length then
 bif inb x9 a1.Sizes.length then
 (FW a1 (a1.Sizes.getD x9.toNat default)).bind λv13=>
 bif (((a1.Gain.getD x9.toNat default).length:Nat):Int) !=v13 then
 some (Sum.inl 19)
 else
 (WP a1 n) (w64 (x9+1))
 else none
 else none
 else
 some (Sum.inr ())
def VT (x25:Bool):Option Int:=
 bif x25 then
 some 9
 else
 some 0
def KA (a1:Line) (x7:Bool):Option Int:=
 bif x7 then
 some 19
 else
 (WP a1 FUEL 0).bind λu18=>Sum.elim (λv19=>some v19) (λo16=>
 (KV a1.Gain).bind λv20=>
 bif !v20 then
 VT true
 else
 (KV ([a1.Chip,a1.Dust]:List (List Int))).bind λv23=>
 VT (!v23)) u18
def GP (a1:Line):Option Int:=
 (XY a1).bind λv2=>
 bif v2 !=0 then
 some v2
 else
 bif ((a1.Gain.length:Nat):Int) !=((a1.Sizes.length:Nat):Int) then
 KA a1 true
 else
 bif ((a1.Chip.length:Nat):Int) !=a1.Len then
 KA a1 true
 else
 KA a1 (((a1.Dust.length:Nat):Int) !=a1.Len)
/- sawmill/cutting.sums -/
def JY (a1:List Int):Nat->(List Int)->Int->Option (List Int)
 |0,_,_=>none
 |n+1,l3,x4=>
 bif decide (x4<((a1.length:Nat):Int)) then
 bif inb x4 a1.length then
 bif inb x4 l3.length then
 bif inb (w64 (x4+1)) l3.length then
 (JY a1 n) (l3.set ((w64 (x4+1)).toNat) (w64 ((l3.getD x4.toNat default)+(a1.getD x4.toNat default)))) (w64 (x4+1))
 else none
 else none
 else none
 else
 some l3
def TB (a1:List Int):Option (List Int):=
 bif mkOk (w64 (((a1.length:Nat):Int)+1)) 8 then
 (JY a1 FUEL (List.replicate ((w64 (((a1.length:Nat):Int)+1)).toNat) 0) 0).bind λo10=>
 some o10
 else none
/- sawmill/cutting.behind -/
def XJ (a1:Line) (a2:Int):Option Int:=
 bif a2==a1.Len then
 some (-1)
 else
 some (imin (w64 (a2+a1.Kerf)) a1.Len)
/- sawmill/cutting.start -/
def XX (x5:Int) (rec_cutting_start_L1:Int->Cutting_choice->Option Cutting_choice) (x26:Cutting_choice):Option Cutting_choice:=
 rec_cutting_start_L1 (w64 (x5+1)) x26
def VF (x5:Int) (x6:Cutting_choice) (rec_cutting_start_L1:Int->Cutting_choice->Option Cutting_choice) (x22:Cutting_choice) (x24:Bool):Option Cutting_choice:=
 bif x24 then
 XX x5 rec_cutting_start_L1 x22
 else
 XX x5 rec_cutting_start_L1 x6
def VH (x5:Int) (x6:Cutting_choice) (rec_cutting_start_L1:Int->Cutting_choice->Option Cutting_choice) (x22:Cutting_choice):Option Cutting_choice:=
 bif ((x6.piece.Size==(-1))&&((x6.piece.At==(-1))&&true)) then
 VF x5 x6 rec_cutting_start_L1 x22 true
 else
 VF x5 x6 rec_cutting_start_L1 x22 (decide (x22.value>x6.value))
def VZ (a1:Line) (a2:Int) (a3:List Int) (a4:List Cutting_choice) (x5:Int) (x6:Cutting_choice) (rec_cutting_start_L1:Int->Cutting_choice->Option Cutting_choice) (x12:Bool):Option Cutting_choice:=
 bif x12 then
 XX x5 rec_cutting_start_L1 x6
 else
 bif inb x5 a1.Gain.length then
 bif inb a2 ((a1.Gain.getD x5.toNat default).length) then
 (XJ a1 (w64 (a2+(a1.Sizes.getD x5.toNat default)))).bind λv16=>
 bif decide (v16≥0) then
 bif inb v16 a3.length then
 bif inb (w64 (a2+(a1.Sizes.getD x5.toNat default))) a3.length then
 bif inb v16 a4.length then
 VH x5 x6 rec_cutting_start_L1 (Cutting_choice.mk (Piece.mk x5 a2) (w64 (((a1.Gain.getD x5.toNat default).getD a2.toNat default)+(w64 ((w64 ((a3.getD v16.toNat default)-(a3.getD (w64 (a2+(a1.Sizes.getD x5.toNat default))).toNat default)))+((a4.getD v16.toNat default).value))))))
 else none
 else none
 else none
 else
 VH x5 x6 rec_cutting_start_L1 (Cutting_choice.mk (Piece.mk x5 a2) ((a1.Gain.getD x5.toNat default).getD a2.toNat default))
 else none
 else none
def wI (a1:Line) (a2:Int) (a3:List Int) (a4:List Cutting_choice):Nat->Int->Cutting_choice->Option Cutting_choice
 |0,_,_=>none
 |n+1,x5,x6=>
 bif decide (x5<((a1.Sizes.length:Nat):Int)) then
 bif inb x5 a1.Sizes.length then
 bif decide ((w64 (a2+(a1.Sizes.getD x5.toNat default)))>a1.Len) then
 VZ a1 a2 a3 a4 x5 x6 (wI a1 a2 a3 a4 n) true
 else
 bif inb x5 a1.Gain.length then
 bif inb a2 ((a1.Gain.getD x5.toNat default).length) then
 VZ a1 a2 a3 a4 x5 x6 (wI a1 a2 a3 a4 n) (decide (((a1.Gain.getD x5.toNat default).getD a2.toNat default)<0))
 else none
 else none
 else none
 else
 some x6
def GO (a1:Line) (a2:Int) (a3:List Int) (a4:List Cutting_choice):Option Cutting_choice:=
 (wI a1 a2 a3 a4 FUEL 0 (Cutting_choice.mk (Piece.mk (-1) (-1)) 0)).bind λo28=>
 some o28
/- sawmill/cutting.choices -/
def RB (a1:Line) (x20:Int) (rec_cutting_choices_L4:Int->Cutting_choice->Option Cutting_choice) (x31:Cutting_choice):Option Cutting_choice:=
 rec_cutting_choices_L4 (w64 (x20+a1.Pitch)) x31
def PZ (a1:Line) (v2:(List Int)) (v4:(List Int)) (l8:List Cutting_choice) (x9:Int) (v11:Cutting_choice) (x20:Int) (x21:Cutting_choice) (rec_cutting_choices_L4:Int->Cutting_choice->Option Cutting_choice) (x29:Bool):Option Cutting_choice:=
 bif x29 then
 RB a1 x20 rec_cutting_choices_L4 (Cutting_choice.mk (((l8.set x9.toNat v11).getD x20.toNat default).piece) (w64 ((((l8.set x9.toNat v11).getD x20.toNat default).value)+(w64 ((w64 ((w64 ((v2.getD ((w64 (x20-a1.Kerf)).toNat) default)-(v2.getD x9.toNat default)))+(v4.getD x20.toNat default)))-(v4.getD ((w64 (x20-a1.Kerf)).toNat) default))))))
 else
 RB a1 x20 rec_cutting_choices_L4 x21
def wC (a1:Line) (v2:(List Int)) (v4:(List Int)) (l8:List Cutting_choice) (x9:Int) (v11:Cutting_choice):Nat->Int->Cutting_choice->Option Cutting_choice
 |0,_,_=>none
 |n+1,x20,x21=>
 bif decide (x20<=a1.Len) then
 bif inb x20 l8.length then
 bif inb (w64 (x20-a1.Kerf)) v2.length then
 bif inb x9 v2.length then
 bif inb x20 v4.length then
 bif inb (w64 (x20-a1.Kerf)) v4.length then
 bif !((((((l8.set x9.toNat v11).getD x20.toNat default).piece).Size)==(-1))&&((((((l8.set x9.toNat v11).getD x20.toNat default).piece).At)==(-1))&&true)) then
 PZ a1 v2 v4 l8 x9 v11 x20 x21 (wC a1 v2 v4 l8 x9 v11 n) (decide ((w64 ((((l8.set x9.toNat v11).getD x20.toNat default).value)+(w64 ((w64 ((w64 ((v2.getD ((w64 (x20-a1.Kerf)).toNat) default)-(v2.getD x9.toNat default)))+(v4.getD x20.toNat default)))-(v4.getD ((w64 (x20-a1.Kerf)).toNat) default)))))>x21.value))
 else
 PZ a1 v2 v4 l8 x9 v11 x20 x21 (wC a1 v2 v4 l8 x9 v11 n) false
 else none
 else none
 else none
 else none
 else none
 else
 some x21
def RD (a1:Line) (v2:(List Int)) (v4:(List Int)) (l7:List Cutting_choice) (l8:List Cutting_choice) (x9:Int) (rec_cutting_choices_L1:(List Cutting_choice)->(List Cutting_choice)->Int->Option (List Cutting_choice)) (v11:Cutting_choice) (x19:Cutting_choice):Option (List Cutting_choice):=
 (wC a1 v2 v4 l8 x9 v11 FUEL (w64 ((w64 (x9+a1.Pitch))+a1.Kerf)) x19).bind λo33=>
 bif inb x9 l7.length then
 rec_cutting_choices_L1 (l7.set x9.toNat o33) (l8.set x9.toNat v11) (w64 (x9-1))
 else none
def PH (a1:Line) (v2:(List Int)) (v4:(List Int)) (l7:List Cutting_choice) (l8:List Cutting_choice) (x9:Int) (rec_cutting_choices_L1:(List Cutting_choice)->(List Cutting_choice)->Int->Option (List Cutting_choice)) (v11:Cutting_choice) (x17:Bool):Option (List Cutting_choice):=
 bif x17 then
 RD a1 v2 v4 l7 l8 x9 rec_cutting_choices_L1 v11 ((l8.set x9.toNat v11).getD x9.toNat default)
 else
 RD a1 v2 v4 l7 l8 x9 rec_cutting_choices_L1 v11 (Cutting_choice.mk (Piece.mk (-1) (-1)) (w64 ((v2.getD a1.Len.toNat default)-(v2.getD x9.toNat default))))
def wL (a1:Line) (v2:(List Int)) (v4:(List Int)):Nat->(List Cutting_choice)->(List Cutting_choice)->Int->Option (List Cutting_choice)
 |0,_,_,_=>none
 |n+1,l7,l8,x9=>
 bif decide (x9≥0) then
 (GO a1 x9 v4 l7).bind λv11=>
 bif inb x9 l8.length then
 bif inb a1.Len v2.length then
 bif inb x9 v2.length then
 bif !((((((l8.set x9.toNat v11).getD x9.toNat default).piece).Size)==(-1))&&((((((l8.set x9.toNat v11).getD x9.toNat default).piece).At)==(-1))&&true)) then
 PH a1 v2 v4 l7 l8 x9 (wL a1 v2 v4 n) v11 (decide ((((l8.set x9.toNat v11).getD x9.toNat default).value)>(w64 ((v2.getD a1.Len.toNat default)-(v2.getD x9.toNat default)))))
 else
 PH a1 v2 v4 l7 l8 x9 (wL a1 v2 v4 n) v11 false
 else none
 else none
 else none
 else
 some l7
def PK (a1:Line):Option (List Cutting_choice):=
 (TB a1.Chip).bind λv2=>
 (TB a1.Dust).bind λv4=>
 bif mkOk (w64 (a1.Len+1)) 24 then
 (wL a1 v2 v4 FUEL (List.replicate ((w64 (a1.Len+1)).toNat) (Cutting_choice.mk (Piece.mk 0 0) 0)) (List.replicate ((w64 (a1.Len+1)).toNat) (Cutting_choice.mk (Piece.mk 0 0) 0)) a1.Len).bind λo37=>
 some o37
 else none
/- sawmill/cutting.Best -/
def JV (a1:Line) (v5:(List Cutting_choice)):Nat->(List Piece)->Int->Option (List Piece)
 |0,_,_=>none
 |n+1,l7,x8=>
 bif decide (x8≥0) then
 bif inb x8 v5.length then
 bif (((((v5.getD x8.toNat default).piece).Size)==(-1))&&(((((v5.getD x8.toNat default).piece).At)==(-1))&&true)) then
 some l7
 else
 bif room (l7.length+1) 16 then
 bif inb (((v5.getD x8.toNat default).piece).Size) a1.Sizes.length then
 (XJ a1 (w64 ((((v5.getD x8.toNat default).piece).At)+(a1.Sizes.getD (((v5.getD x8.toNat default).piece).Size).toNat default)))).bind λv14=>
 (JV a1 v5 n) (l7++([(v5.getD x8.toNat default).piece]:List Piece)) v14
 else none
 else none
 else none
 else
 some l7
def ZH (a1:Line):Option ((List Piece)×Int×Int):=
 (GP a1).bind λv2=>
 bif v2 !=0 then
 some (([]:List Piece),0,v2)
 else
 (PK a1).bind λv5=>
 (JV a1 v5 FUEL ([]:List Piece) 0).bind λo17=>
 bif inb 0 v5.length then
 some (o17,(v5.getD ((0:Int).toNat) default).value,0)
 else none
/- slices.Clone[[]sawmill/api.Node,sawmill/api.Node] -/
def JF (a1:List Node):Option (List Node):=
 bif room a1.length 16 then some a1 else none
/- sawmill/edge.collect -/
def DC (a1:List (List Node)) (a2:List Node):Option ((List (List Node))×(List (List Node))):=
 (JF a2).bind λv3=>
 bif room (a1.length+1) 24 then
 some ((a1++([v3]:List (List Node))),(a1++([v3]:List (List Node))))
 else none
/- sawmill/pattern.isRip -/
def UZ (x3:Bool):Option Bool:=
 some x3
def wK (a1:Int):Option Bool:=
 bif a1==2 then
 UZ true
 else
 UZ (a1==3)
/- sawmill/pattern.isFrame -/
def wO (x2:Int) (rec_pattern_isFrame_L1:Int->Option (Bool⊕Unit)) (x7:Bool):Option (Bool⊕Unit):=
 bif x7 then
 some (Sum.inl false)
 else
 rec_pattern_isFrame_L1 (w64 (x2+1))
def zB (a1:Rect):Nat->Int->Option (Bool⊕Unit)
 |0,_=>none
 |n+1,x2=>
 bif decide (x2<2) then
 bif inb x2 2 then
 bif decide ((([a1.X.A,a1.X.B,a1.Y.A,a1.Y.B]:List Int).getD (x2.toNat*2+0) 0)<(-600)) then
 wO x2 (zB a1 n) true
 else
 bif decide ((([a1.X.A,a1.X.B,a1.Y.A,a1.Y.B]:List Int).getD (x2.toNat*2+1) 0)>600) then
 wO x2 (zB a1 n) true
 else
 wO x2 (zB a1 n) (decide ((([a1.X.A,a1.X.B,a1.Y.A,a1.Y.B]:List Int).getD (x2.toNat*2+0) 0)≥(([a1.X.A,a1.X.B,a1.Y.A,a1.Y.B]:List Int).getD (x2.toNat*2+1) 0)))
 else none
 else
 some (Sum.inr ())
def jU (a1:Rect):Option Bool:=
 (zB a1 FUEL 0).bind λu11=>Sum.elim (λv12=>some v12) (λo9=>
 some true) u11
/- sawmill/pattern.along -/
def ZP (a1:Rect) (a2:Int):Option Span:=
 bif a2==2 then
 some a1.X
 else
 some a1.Y
/- sawmill/pattern.Row$1 -/
def yF (a1:List Node) (a2:Int) (a3:List Node):Option (Int×(List Node)):=
 bif decide ((w64 (a2+((a1.length:Nat):Int)))<=127) then
 bif room (a3.length+a1.length) 16 then
 some (w64 (a2+((a1.length:Nat):Int)),(a3++a1))
 else none
 else
 some (w64 (a2+((a1.length:Nat):Int)),a3)
/- sawmill/pattern.Row -/
def FX (a5:List (List Node)) (x21:Int) (rec_pattern_Row_L3:Int->Bool->Int->(List Node)->Int->Option (((List Node)×Int)⊕(Bool×(List Node)×Int))) (x40:Int) (x41:Bool) (l42:List Node) (x43:Int):Option (((List Node)×Int)⊕(Bool×(List Node)×Int)):=
 bif inb x21 a5.length then
 (yF (a5.getD x21.toNat default) x43 l42).bind λv45=>
 rec_pattern_Row_L3 x40 x41 (w64 (x21+1)) v45.2 v45.1
 else none
def UB (a2:Int) (a3:Int) (a4:List Span) (a5:List (List Node)) (v17:Span) (x19:Int) (x20:Bool) (x21:Int) (rec_pattern_Row_L3:Int->Bool->Int->(List Node)->Int->Option (((List Node)×Int)⊕(Bool×(List Node)×Int))) (l35:List Node) (x36:Int):Option (((List Node)×Int)⊕(Bool×(List Node)×Int)):=
 bif decide (((a4.getD x21.toNat default).B)<v17.B) then
 (yF ([(Node.mk a2 ((a4.getD x21.toNat default).B))]:List Node) x36 l35).bind λv38=>
 FX a5 x21 rec_pattern_Row_L3 (imin (w64 (((a4.getD x21.toNat default).B)+a3)) v17.B) x20 v38.2 v38.1
 else
 FX a5 x21 rec_pattern_Row_L3 x19 true l35 x36
def RX (a2:Int) (a3:Int) (a4:List Span) (a5:List (List Node)) (v17:Span) (x19:Int) (x20:Bool) (x21:Int) (l22:List Node) (x23:Int) (rec_pattern_Row_L3:Int->Bool->Int->(List Node)->Int->Option (((List Node)×Int)⊕(Bool×(List Node)×Int))) (x29:Bool):Option (((List Node)×Int)⊕(Bool×(List Node)×Int)):=
 bif x29 then
 some (Sum.inl (([]:List Node),11))
 else
 bif decide (((a4.getD x21.toNat default).B)>v17.B) then
 some (Sum.inl (([]:List Node),20))
 else
 bif decide (((a4.getD x21.toNat default).A)>x19) then
 (yF ([(Node.mk a2 (w64 (((a4.getD x21.toNat default).A)-a3))),(Node.mk 0 0)]:List Node) x23 l22).bind λv33=>
 UB a2 a3 a4 a5 v17 x19 x20 x21 rec_pattern_Row_L3 v33.2 v33.1
 else
 UB a2 a3 a4 a5 v17 x19 x20 x21 rec_pattern_Row_L3 l22 x23
def wF (a2:Int) (a3:Int) (a4:List Span) (a5:List (List Node)) (v17:Span):Nat->Int->Bool->Int->(List Node)->Int->Option (((List Node)×Int)⊕(Bool×(List Node)×Int))
 |0,_,_,_,_,_=>none
 |n+1,x19,x20,x21,l22,x23=>
 bif decide (x21<((a4.length:Nat):Int)) then
 bif inb x21 a4.length then
 bif decide (((a4.getD x21.toNat default).A)≥((a4.getD x21.toNat default).B)) then
 some (Sum.inl (([]:List Node),19))
 else
 bif x20 then
 RX a2 a3 a4 a5 v17 x19 x20 x21 l22 x23 (wF a2 a3 a4 a5 v17 n) true
 else
 bif ((a4.getD x21.toNat default).A) !=x19 then
 RX a2 a3 a4 a5 v17 x19 x20 x21 l22 x23 (wF a2 a3 a4 a5 v17 n) (decide (((a4.getD x21.toNat default).A)<(w64 ((w64 (x19+a3))+1))))
 else
 RX a2 a3 a4 a5 v17 x19 x20 x21 l22 x23 (wF a2 a3 a4 a5 v17 n) false
 else none
 else
 some (Sum.inr (x20,l22,x23))
def TE (x57:Int) (l58:List Node):Option ((List Node)×Int):=
 bif decide (x57>127) then
 some (([]:List Node),4)
 else
 some (l58,0)
def FE (a1:Rect) (a2:Int) (a3:Int) (a4:List Span) (a5:List (List Node)) (x15:Bool):Option ((List Node)×Int):=
 bif x15 then
 some (([]:List Node),9)
 else
 (ZP a1 a2).bind λv17=>
 (wF a2 a3 a4 a5 v17 FUEL v17.A false 0 ([]:List Node) 0).bind λu52=>Sum.elim (λv53=>some v53) (λo50=>
 bif !o50.1 then
 (yF ([(Node.mk 0 0)]:List Node) o50.2.2 o50.2.1).bind λv55=>
 TE v55.1 v55.2
 else
 TE o50.2.2 o50.2.1) u52
def FV (a1:Rect) (a2:Int) (a3:Int) (a4:List Span) (a5:List (List Node)) (x12:Bool):Option ((List Node)×Int):=
 bif x12 then
 some (([]:List Node),19)
 else
 bif decide (a3<0) then
 FE a1 a2 a3 a4 a5 true
 else
 FE a1 a2 a3 a4 a5 (decide (a3>20))
def WX (a1:Rect) (a2:Int) (a3:Int) (a4:List Span) (a5:List (List Node)):Option ((List Node)×Int):=
 (wK a2).bind λv6=>
 bif !v6 then
 some (([]:List Node),10)
 else
 (jU a1).bind λv9=>
 bif !v9 then
 FV a1 a2 a3 a4 a5 true
 else
 FV a1 a2 a3 a4 a5 (((a4.length:Nat):Int) !=((a5.length:Nat):Int))
/- sawmill/edge.Best -/
def TC (a4:Rect) (v10:(List Piece)×Int×Int) (v13:(List Int)×(List Int)):Nat->(List Span)->(List (List Node))->Int->Option ((List Span)×(List (List Node)))
 |0,_,_,_=>none
 |n+1,l15,l16,x17=>
 bif decide (x17<((v10.1.length:Nat):Int)) then
 bif inb x17 v10.1.length then
 bif inb ((v10.1.getD x17.toNat default).Size) v13.1.length then
 (BU a4 ((v10.1.getD x17.toNat default).At) (w64 (((v10.1.getD x17.toNat default).At)+(v13.1.getD (((v10.1.getD x17.toNat default).Size).toNat) default)))).bind λv21=>
 bif room (l15.length+1) 16 then
 bif inb ((v10.1.getD x17.toNat default).Size) v13.2.length then
 (DC l16 ([(Node.mk 1 (v13.2.getD (((v10.1.getD x17.toNat default).Size).toNat) default))]:List Node)).bind λv25=>
 (TC a4 v10 v13 n) (l15++([v21.X]:List Span)) v25.2 (w64 (x17+1))
 else none
 else none
 else none
 else none
 else
 some (l15,l16)
def CM (a1:List qB) (a2:List Defect) (a3:List Product) (a4:Rect) (a5:Saw) (a6:Rates):Option ((List Node)×Int×Int):=
 (CO a1 a2 a3 a4 a5 a6).bind λv7=>
 bif v7.2 !=0 then
 some (([]:List Node),0,v7.2)
 else
 (ZH (Line.mk v7.1.Len v7.1.Kerf v7.1.Pitch v7.1.Sizes v7.1.Gain v7.1.Chip v7.1.Dust)).bind λv10=>
 bif v10.2.2 !=0 then
 some (([]:List Node),0,v10.2.2)
 else
 (GB a3 (w64 (a4.Y.B-a4.Y.A))).bind λv13=>
 (TC a4 v10 v13 FUEL ([]:List Span) ([]:List (List Node)) 0).bind λo29=>
 (WX a4 2 a5.Kerf o29.1 o29.2).bind λv31=>
 bif v31.2 !=0 then
 some (([]:List Node),0,v31.2)
 else
 some (v31.1,v10.2.1,0)
/- sawmill/plan.hasBoard$1 -/
def DG (a1:Node):Option Bool:=
 some (a1.Kind==1)
/- slices.IndexFunc[[]sawmill/api.Node,sawmill/api.Node] -/
def wW (a1:List Node):Nat->Int->Option (Int⊕Unit)
 |0,_=>none
 |n+1,x2=>
 bif decide (x2<((a1.length:Nat):Int)) then
 bif inb x2 a1.length then
 (DG (a1.getD x2.toNat default)).bind λv5=>
 bif v5 then
 some (Sum.inl x2)
 else
 (wW a1 n) (w64 (x2+1))
 else none
 else
 some (Sum.inr ())
def JB (a1:List Node):Option Int:=
 (wW a1 FUEL 0).bind λu10=>Sum.elim (λv11=>some v11) (λo8=>
 some (-1)) u10
/- slices.ContainsFunc[[]sawmill/api.Node,sawmill/api.Node] -/
def QO (a1:List Node):Option Bool:=
 (JB a1).bind λv2=>
 some (decide (v2≥0))
/- sawmill/plan.hasBoard -/
def GK (a1:List Node):Option Bool:=
 (QO a1).bind λv2=>
 some v2
/- sawmill/plan.volume -/
def GV (a1:List qB) (a2:Rect):Option Int:=
 (yV a1).bind λv3=>
 (yX a1 (Box.mk a2.X a2.Y (Span.mk 0 v3))).bind λv5=>
 some v5
/- sawmill/plan.line -/
def BI (l14:List Int) (l15:List (List Node)) (x16:Int) (rec_plan_line_L2:(List Int)->(List (List Node))->Int->Option ((List Int)×(List (List Node)))) (x30:Int) (l31:List Node):Option ((List Int)×(List (List Node))):=
 bif room (l14.length+1) 8 then
 bif room (l15.length+1) 24 then
 rec_plan_line_L2 (l14++([x30]:List Int)) (l15++([l31]:List (List Node))) (w64 (x16+1))
 else none
 else none
def AB (l14:List Int) (l15:List (List Node)) (x16:Int) (rec_plan_line_L2:(List Int)->(List (List Node))->Int->Option ((List Int)×(List (List Node)))) (v22:(List Node)×Int×Int) (x27:Bool):Option ((List Int)×(List (List Node))):=
 bif x27 then
 BI l14 l15 x16 rec_plan_line_L2 v22.2.1 v22.1
 else
 BI l14 l15 x16 rec_plan_line_L2 (-1) ([]:List Node)
def jV (a1:List qB) (a2:List Defect) (a3:List Product) (a4:Rect) (a5:Saw) (a6:Rates) (v7:(List Int)) (x10:Int):Nat->(List Int)->(List (List Node))->Int->Option ((List Int)×(List (List Node)))
 |0,_,_,_=>none
 |n+1,l14,l15,x16=>
 bif decide ((w64 (x16+(v7.getD x10.toNat default)))<=(w64 (a4.Y.B-a4.Y.A))) then
 bif nz a5.Pitch then
 bif (Int.tmod x16 a5.Pitch)==0 then
 (VX a4 x16 (w64 (x16+(v7.getD x10.toNat default)))).bind λv20=>
 (CM a1 a2 a3 v20 a5 a6).bind λv22=>
 bif v22.2.2==0 then
 (GK v22.1).bind λv25=>
 AB l14 l15 x16 (jV a1 a2 a3 a4 a5 a6 v7 x10 n) v22 v25
 else
 AB l14 l15 x16 (jV a1 a2 a3 a4 a5 a6 v7 x10 n) v22 false
 else
 BI l14 l15 x16 (jV a1 a2 a3 a4 a5 a6 v7 x10 n) (-1) ([]:List Node)
 else none
 else
 some (l14,l15)
def TR (a1:List qB) (a2:List Defect) (a3:List Product) (a4:Rect) (a5:Saw) (a6:Rates) (v7:(List Int)):Nat->(List (List (List Node)))->Int->(List (List Int))->Option ((List (List (List Node)))×(List (List Int)))
 |0,_,_,_=>none
 |n+1,l9,x10,l11=>
 bif decide (x10<((v7.length:Nat):Int)) then
 bif inb x10 v7.length then
 (jV a1 a2 a3 a4 a5 a6 v7 x10 FUEL ([]:List Int) ([]:List (List Node)) 0).bind λo36=>
 bif room (l11.length+1) 24 then
 bif room (l9.length+1) 24 then
 (TR a1 a2 a3 a4 a5 a6 v7 n) (l9++([o36.2]:List (List (List Node)))) (w64 (x10+1)) (l11++([o36.1]:List (List Int)))
 else none
 else none
 else none
 else
 some (l9,l11)
def UD (a1:List qB) (a4:Rect) (a6:Rates):Nat->Int->(List Int)->(List Int)->Option ((List Int)×(List Int))
 |0,_,_,_=>none
 |n+1,x44,l45,l46=>
 bif decide (x44<(w64 (a4.Y.B-a4.Y.A))) then
 (VX a4 x44 (w64 (x44+1))).bind λv48=>
 (GV a1 v48).bind λv50=>
 bif room (l45.length+1) 8 then
 bif room (l46.length+1) 8 then
 (UD a1 a4 a6 n) (w64 (x44+1)) (l45++([w64 (a6.Chip*v50)]:List Int)) (l46++([w64 (a6.Dust*v50)]:List Int))
 else none
 else none
 else
 some (l45,l46)
def qAn (a1:List qB) (a2:List Defect) (a3:List Product) (a4:Rect) (a5:Saw) (a6:Rates):Option (Line×(List (List (List Node)))):=
 (JK a3).bind λv7=>
 (TR a1 a2 a3 a4 a5 a6 v7 FUEL ([]:List (List (List Node))) 0 ([]:List (List Int))).bind λo42=>
 (UD a1 a4 a6 FUEL 0 ([]:List Int) ([]:List Int)).bind λo56=>
 some ((Line.mk (w64 (a4.Y.B-a4.Y.A)) a5.Kerf 1 v7 o42.2 o56.1 o56.2),o42.1)
/- sawmill/plan.collect -/
def DY (a1:List Node) (a2:List (List Node)):Option ((List (List Node))×(List (List Node))):=
 bif room (a2.length+1) 24 then
 some ((a2++([a1]:List (List Node))),(a2++([a1]:List (List Node))))
 else none
/- sawmill/section.Area -/
def JX (v2:qK):Nat->Int->Int->Option Int
 |0,_,_=>none
 |n+1,x4,x5=>
 bif decide (x5<((v2.Rows.length:Nat):Int)) then
 bif inb x5 v2.Rows.length then
 (YH (v2.Rows.getD x5.toNat default)).bind λv8=>
 (JX v2 n) (w64 (x4+v8)) (w64 (x5+1))
 else none
 else
 some x4
def NJ (a1:qK):Option Int:=
 (YJ a1).bind λv2=>
 (JX v2 FUEL 0 0).bind λo11=>
 some (w64 (10*o11))
/- sawmill/solid.Volume -/
def YD (v2:(List qB)):Nat->Int->Int->Option Int
 |0,_,_=>none
 |n+1,x4,x5=>
 bif decide (x5<((v2.length:Nat):Int)) then
 bif inb x5 v2.length then
 (NJ ((v2.getD x5.toNat default).Sec)).bind λv8=>
 (YD v2 n) (w64 (x4+(w64 (((v2.getD x5.toNat default).Len)*v8)))) (w64 (x5+1))
 else none
 else
 some x4
def JH (a1:List qB):Option Int:=
 (YX a1).bind λv2=>
 (YD v2 FUEL 0 0).bind λo11=>
 some o11
/- sawmill/plan.Best -/
def UA (a4:Rect) (v10:Line×(List (List (List Node)))) (v12:(List Piece)×Int×Int):Nat->(List Span)->(List (List Node))->Int->Option ((List Span)×(List (List Node)))
 |0,_,_,_=>none
 |n+1,l15,l16,x17=>
 bif decide (x17<((v12.1.length:Nat):Int)) then
 bif inb x17 v12.1.length then
 bif inb ((v12.1.getD x17.toNat default).Size) v10.1.Sizes.length then
 (VX a4 ((v12.1.getD x17.toNat default).At) (w64 (((v12.1.getD x17.toNat default).At)+(v10.1.Sizes.getD (((v12.1.getD x17.toNat default).Size).toNat) default)))).bind λv21=>
 bif room (l15.length+1) 16 then
 bif inb ((v12.1.getD x17.toNat default).Size) v10.2.length then
 bif inb ((v12.1.getD x17.toNat default).At) ((v10.2.getD (((v12.1.getD x17.toNat default).Size).toNat) default).length) then
 (DY ((v10.2.getD (((v12.1.getD x17.toNat default).Size).toNat) default).getD ((v12.1.getD x17.toNat default).At).toNat default) l16).bind λv26=>
 (UA a4 v10 v12 n) (l15++([v21.Y]:List Span)) v26.2 (w64 (x17+1))
 else none
 else none
 else none
 else none
 else none
 else
 some (l15,l16)
def UQ (a1:List qB) (a2:List Defect) (a3:List Product) (a4:Rect) (a5:Saw) (a6:Rates):Option (Pattern×Int×Int):=
 (GA a1 a2 a3 a4 a5 a6).bind λv7=>
 bif v7 !=0 then
 some ((Pattern.mk (Rect.mk (Span.mk 0 0) (Span.mk 0 0)) ([]:List Node)),0,v7)
 else
 (qAn a1 a2 a3 a4 a5 a6).bind λv10=>
 (ZH (Line.mk v10.1.Len v10.1.Kerf v10.1.Pitch v10.1.Sizes v10.1.Gain v10.1.Chip v10.1.Dust)).bind λv12=>
 bif v12.2.2 !=0 then
 some ((Pattern.mk (Rect.mk (Span.mk 0 0) (Span.mk 0 0)) ([]:List Node)),0,v12.2.2)
 else
 (UA a4 v10 v12 FUEL ([]:List Span) ([]:List (List Node)) 0).bind λo30=>
 (WX a4 3 a5.Kerf o30.1 o30.2).bind λv32=>
 bif v32.2 !=0 then
 some ((Pattern.mk (Rect.mk (Span.mk 0 0) (Span.mk 0 0)) ([]:List Node)),0,13)
 else
 (JH a1).bind λv35=>
 (GV a1 a4).bind λv37=>
 some ((Pattern.mk a4 v32.1),w64 (v12.2.1+(w64 (a6.Chip*(w64 (v35-v37))))),0)
/- sawmill/sawmilllaw24.best -/
def QX (a1:Law24_Given):Option (Pattern×Int×Int):=
 (UQ a1.Solid a1.Defects a1.Products a1.Frame a1.Saw a1.Rates).bind λv2=>
 some ((Pattern.mk v2.1.Frame v2.1.Nodes),v2.2.1,v2.2.2)
/- sawmill/section.Bounds -/
def LG (x6:Int) (rec_section_Bounds_L1:Int->Span->Option Span) (x13:Span):Option Span:=
 rec_section_Bounds_L1 (w64 (x6+1)) x13
def YL (v2:qK):Nat->Int->Span->Option Span
 |0,_,_=>none
 |n+1,x6,x7=>
 bif decide (x6<((v2.Rows.length:Nat):Int)) then
 bif inb x6 v2.Rows.length then
 (ZB (v2.Rows.getD x6.toNat default)).bind λv10=>
 bif !v10 then
 LG x6 (YL v2 n) (Span.mk (imin x7.A ((v2.Rows.getD x6.toNat default).A)) (imax x7.B ((v2.Rows.getD x6.toNat default).B)))
 else
 LG x6 (YL v2 n) x7
 else none
 else
 some x7
def OS (a1:qK):Option Rect:=
 (YJ a1).bind λv2=>
 bif ((v2.Rows.length:Nat):Int)==0 then
 some (Rect.mk (Span.mk 0 0) (Span.mk 0 0))
 else
 bif inb 0 v2.Rows.length then
 (YL v2 FUEL 0 (v2.Rows.getD (0:Int).toNat default)).bind λo15=>
 (JP v2.Low (w64 (v2.Low+((v2.Rows.length:Nat):Int)))).bind λv17=>
 some (Rect.mk o15 v17)
 else none
/- sawmill/solid.Bounds -/
def AO (x4:Int) (rec_solid_Bounds_L1:Int->Rect->Option Rect) (v8:Rect) (x11:Rect):Option Rect:=
 rec_solid_Bounds_L1 (w64 (x4+1)) (Rect.mk (Span.mk (imin x11.X.A v8.X.A) (imax x11.X.B v8.X.B)) (Span.mk (imin x11.Y.A v8.Y.A) (imax x11.Y.B v8.Y.B)))
def PB (v2:(List qB)):Nat->Int->Rect->Option Rect
 |0,_,_=>none
 |n+1,x4,x5=>
 bif decide (x4<((v2.length:Nat):Int)) then
 bif inb x4 v2.length then
 (OS ((v2.getD x4.toNat default).Sec)).bind λv8=>
 bif x4==0 then
 AO x4 (PB v2 n) v8 v8
 else
 AO x4 (PB v2 n) v8 x5
 else none
 else
 some x5
def qCh (a1:List qB):Option Rect:=
 (YX a1).bind λv2=>
 (PB v2 FUEL 0 (Rect.mk (Span.mk 0 0) (Span.mk 0 0))).bind λo13=>
 some o13
/- sawmill/plan.Frame -/
def AN (a1:List qB):Option Rect:=
 (qCh a1).bind λv2=>
 some v2
/- sawmill/plan.tree -/
def qBU (x3:Int) (rec_plan_tree_L1:Int->Int->Option (Int⊕Unit)) (x9:Int):Option (Int⊕Unit):=
 bif x9==0 then
 some (Sum.inl (w64 (x3+1)))
 else
 rec_plan_tree_L1 x9 (w64 (x3+1))
def qCa (x2:Int) (x3:Int) (rec_plan_tree_L1:Int->Int->Option (Int⊕Unit)) (x7:Bool):Option (Int⊕Unit):=
 bif x7 then
 qBU x3 rec_plan_tree_L1 (w64 ((w64 (x2-1))+2))
 else
 qBU x3 rec_plan_tree_L1 (w64 (x2-1))
def TO (a1:List Node):Nat->Int->Int->Option (Int⊕Unit)
 |0,_,_=>none
 |n+1,x2,x3=>
 bif decide (x3<((a1.length:Nat):Int)) then
 bif inb x3 a1.length then
 bif ((a1.getD x3.toNat default).Kind)==2 then
 qCa x2 x3 (TO a1 n) true
 else
 qCa x2 x3 (TO a1 n) (((a1.getD x3.toNat default).Kind)==3)
 else none
 else
 some (Sum.inr ())
def qGX (a1:List Node):Option Int:=
 (TO a1 FUEL 1 0).bind λu13=>Sum.elim (λv14=>some v14) (λo11=>
 some ((a1.length:Nat):Int)) u13
/- slices.Equal[[]sawmill/api.Node,sawmill/api.Node] -/
def TH (a1:List Node) (a2:List Node):Nat->Int->Option (Bool⊕Unit)
 |0,_=>none
 |n+1,x4=>
 bif decide (x4<((a1.length:Nat):Int)) then
 bif inb x4 a1.length then
 bif inb x4 a2.length then
 bif !((((a1.getD x4.toNat default).Kind)==((a2.getD x4.toNat default).Kind))&&((((a1.getD x4.toNat default).At)==((a2.getD x4.toNat default).At))&&true)) then
 some (Sum.inl false)
 else
 (TH a1 a2 n) (w64 (x4+1))
 else none
 else none
 else
 some (Sum.inr ())
def BS (a1:List Node) (a2:List Node):Option Bool:=
 bif ((a1.length:Nat):Int) !=((a2.length:Nat):Int) then
 some false
 else
 (TH a1 a2 FUEL 0).bind λu11=>Sum.elim (λv12=>some v12) (λo9=>
 some true) u11
/- sawmill/plan.row -/
def qDO (l11:List Node) (rec_plan_row_L2:(List Span)->(List (List Node))->Int->(List Node)->Option ((List Span)×(List (List Node))×Int×(List Node))) (v18:Int) (l27:List Span) (l28:List (List Node)) (x29:Int):Option ((List Span)×(List (List Node))×Int×(List Node)):=
 bif slOk v18 (((l11.drop ((1:Int).toNat)).length:Nat):Int) (l11.drop ((1:Int).toNat)).length then
 rec_plan_row_L2 l27 l28 x29 ((l11.drop ((1:Int).toNat)).drop v18.toNat)
 else none
def qD2 (a3:Int) (x7:Span) (l8:List Span) (l9:List (List Node)) (x10:Int) (l11:List Node) (rec_plan_row_L2:(List Span)->(List (List Node))->Int->(List Node)->Option ((List Span)×(List (List Node))×Int×(List Node))) (v18:Int) (x22:Bool):Option ((List Span)×(List (List Node))×Int×(List Node)):=
 bif x22 then
 qDO l11 rec_plan_row_L2 v18 l8 l9 (w64 (((l11.getD (0:Int).toNat default).At)+a3))
 else
 bif room (l8.length+1) 16 then
 bif slOk 0 v18 (l11.drop ((1:Int).toNat)).length then
 bif room (l9.length+1) 24 then
 qDO l11 rec_plan_row_L2 v18 (l8++([(Span.mk x10 ((l11.getD (0:Int).toNat default).At))]:List Span)) (l9++([((l11.drop ((1:Int).toNat)).take v18.toNat)]:List (List Node))) (imin (w64 (((l11.getD (0:Int).toNat default).At)+a3)) x7.B)
 else none
 else none
 else none
def qDK (a3:Int) (x7:Span) (l8:List Span) (l9:List (List Node)) (x10:Int) (l11:List Node) (rec_plan_row_L2:(List Span)->(List (List Node))->Int->(List Node)->Option ((List Span)×(List (List Node))×Int×(List Node))) (x14:Bool):Option ((List Span)×(List (List Node))×Int×(List Node)):=
 bif x14 then
 bif inb 0 l11.length then
 bif slOk 1 ((l11.length:Nat):Int) l11.length then
 (qGX (l11.drop ((1:Int).toNat))).bind λv18=>
 bif v18==1 then
 bif inb 0 ((l11.drop ((1:Int).toNat)).length) then
 qD2 a3 x7 l8 l9 x10 l11 rec_plan_row_L2 v18 ((((l11.drop ((1:Int).toNat)).getD (0:Int).toNat default).Kind)==0)
 else none
 else
 qD2 a3 x7 l8 l9 x10 l11 rec_plan_row_L2 v18 false
 else none
 else none
 else
 some (l8,l9,x10,l11)
def RH (a2:Int) (a3:Int) (x7:Span):Nat->(List Span)->(List (List Node))->Int->(List Node)->Option ((List Span)×(List (List Node))×Int×(List Node))
 |0,_,_,_,_=>none
 |n+1,l8,l9,x10,l11=>
 bif decide (((l11.length:Nat):Int)>0) then
 bif inb 0 l11.length then
 qDK a3 x7 l8 l9 x10 l11 (RH a2 a3 x7 n) (((l11.getD (0:Int).toNat default).Kind)==a2)
 else none
 else
 qDK a3 x7 l8 l9 x10 l11 (RH a2 a3 x7 n) false
def qDL (l43:List Span) (l44:List (List Node)) (x50:Bool):Option ((List Span)×(List (List Node))×Bool):=
 bif x50 then
 some (([]:List Span),([]:List (List Node)),false)
 else
 some (l43,l44,true)
def qDX (a1:Rect) (a2:Int) (a3:Int) (a4:List Node) (l43:List Span) (l44:List (List Node)):Option ((List Span)×(List (List Node))×Bool):=
 (WX a1 a2 a3 l43 l44).bind λv45=>
 bif v45.2 !=0 then
 qDL l43 l44 true
 else
 (BS a4 v45.1).bind λv48=>
 qDL l43 l44 (!v48)
def qDQ (a1:Rect) (a2:Int) (a3:Int) (a4:List Node) (x7:Span) (o35:(List Span)×(List (List Node))×Int×(List Node)) (x39:Bool):Option ((List Span)×(List (List Node))×Bool):=
 bif x39 then
 bif room (o35.1.length+1) 16 then
 bif room (o35.2.1.length+1) 24 then
 qDX a1 a2 a3 a4 (o35.1++([(Span.mk o35.2.2.1 x7.B)]:List Span)) (o35.2.1++([o35.2.2.2]:List (List Node)))
 else none
 else none
 else
 qDX a1 a2 a3 a4 o35.1 o35.2.1
def qDG (a1:Rect) (a2:Int) (a3:Int) (a4:List Node) (x7:Span):Option ((List Span)×(List (List Node))×Bool):=
 (RH a2 a3 x7 FUEL ([]:List Span) ([]:List (List Node)) x7.A a4).bind λo35=>
 bif decide (((o35.2.2.2.length:Nat):Int)>0) then
 bif inb 0 o35.2.2.2.length then
 qDQ a1 a2 a3 a4 x7 o35 (((o35.2.2.2.getD (0:Int).toNat default).Kind) !=0)
 else none
 else
 qDQ a1 a2 a3 a4 x7 o35 false
def qE6 (a1:Rect) (a2:Int) (a3:Int) (a4:List Node):Option ((List Span)×(List (List Node))×Bool):=
 bif decide (((a4.length:Nat):Int)>127) then
 some (([]:List Span),([]:List (List Node)),false)
 else
 bif a2==3 then
 qDG a1 a2 a3 a4 a1.Y
 else
 qDG a1 a2 a3 a4 a1.X
/- slices.Index[[]int,int] -/
def UV (a1:List Int) (a2:Int):Nat->Int->Option (Int⊕Unit)
 |0,_=>none
 |n+1,x3=>
 bif decide (x3<((a1.length:Nat):Int)) then
 bif inb x3 a1.length then
 bif a2==(a1.getD x3.toNat default) then
 some (Sum.inl x3)
 else
 (UV a1 a2 n) (w64 (x3+1))
 else none
 else
 some (Sum.inr ())
def MA (a1:List Int) (a2:Int):Option Int:=
 (UV a1 a2 FUEL 0).bind λu9=>Sum.elim (λv10=>some v10) (λo7=>
 some (-1)) u9
/- slices.Contains[[]int,int] -/
def VN (a1:List Int) (a2:Int):Option Bool:=
 (MA a1 a2).bind λv3=>
 some (decide (v3≥0))
/- sawmill/plan.isStrip -/
def DW (x23:Int) (rec_plan_isStrip_L4:Bool->Int->Option Bool) (x31:Bool):Option Bool:=
 rec_plan_isStrip_L4 x31 (w64 (x23+1))
def YB (v5:(List Span)×(List (List Node))×Bool) (v10:(List Int)×(List Int)) (x12:Int):Nat->Bool->Int->Option Bool
 |0,_,_=>none
 |n+1,x22,x23=>
 bif decide (x23<((v10.1.length:Nat):Int)) then
 bif inb x23 v10.1.length then
 bif x22 then
 DW x23 (YB v5 v10 x12 n) true
 else
 bif (v10.1.getD x23.toNat default)==(w64 (((v5.1.getD x12.toNat default).B)-((v5.1.getD x12.toNat default).A))) then
 bif inb x23 v10.2.length then
 bif inb x12 v5.2.1.length then
 bif inb 0 ((v5.2.1.getD x12.toNat default).length) then
 DW x23 (YB v5 v10 x12 n) ((v10.2.getD x23.toNat default)==(((v5.2.1.getD x12.toNat default).getD (0:Int).toNat default).At))
 else none
 else none
 else none
 else
 DW x23 (YB v5 v10 x12 n) false
 else none
 else
 some x22
def DL (v5:(List Span)×(List (List Node))×Bool) (v10:(List Int)×(List Int)) (x12:Int) (rec_plan_isStrip_L2:Int->Option (Bool⊕Unit)) (x20:Bool):Option (Bool⊕Unit):=
 bif x20 then
 some (Sum.inl false)
 else
 (YB v5 v10 x12 FUEL false 0).bind λo33=>
 bif !o33 then
 some (Sum.inl false)
 else
 rec_plan_isStrip_L2 (w64 (x12+1))
def JO (a1:Rect) (a3:Saw) (v5:(List Span)×(List (List Node))×Bool) (v10:(List Int)×(List Int)):Nat->Int->Option (Bool⊕Unit)
 |0,_=>none
 |n+1,x12=>
 bif decide (x12<((v5.1.length:Nat):Int)) then
 bif inb x12 v5.1.length then
 bif nz a3.Pitch then
 bif (Int.tmod (w64 (((v5.1.getD x12.toNat default).A)-a1.X.A)) a3.Pitch) !=0 then
 DL v5 v10 x12 (JO a1 a3 v5 v10 n) true
 else
 bif inb x12 v5.2.1.length then
 bif (((v5.2.1.getD x12.toNat default).length:Nat):Int) !=1 then
 DL v5 v10 x12 (JO a1 a3 v5 v10 n) true
 else
 bif inb 0 ((v5.2.1.getD x12.toNat default).length) then
 DL v5 v10 x12 (JO a1 a3 v5 v10 n) ((((v5.2.1.getD x12.toNat default).getD (0:Int).toNat default).Kind) !=1)
 else none
 else none
 else none
 else none
 else
 some (Sum.inr ())
def EO (a1:Rect) (a2:List Product) (a3:Saw) (v5:(List Span)×(List (List Node))×Bool) (x8:Bool):Option Bool:=
 bif x8 then
 some false
 else
 (GB a2 (w64 (a1.Y.B-a1.Y.A))).bind λv10=>
 (JO a1 a3 v5 v10 FUEL 0).bind λu38=>Sum.elim (λv39=>some v39) (λo36=>
 some true) u38
def qCx (a1:Rect) (a2:List Product) (a3:Saw) (a4:List Node):Option Bool:=
 (qE6 a1 2 a3.Kerf a4).bind λv5=>
 bif !v5.2.2 then
 EO a1 a2 a3 v5 true
 else
 EO a1 a2 a3 v5 (((v5.1.length:Nat):Int)==0)
/- sawmill/plan.Member -/
def OE (a1:Pattern) (a2:List Product) (a3:Saw) (v14:(List Span)×(List (List Node))×Bool) (x19:Int) (rec_plan_Member_L2:Int->Option (Bool⊕Unit)) (x26:Bool):Option (Bool⊕Unit):=
 bif x26 then
 some (Sum.inl false)
 else
 bif inb x19 v14.2.1.length then
 (qCx (Rect.mk a1.Frame.X (v14.1.getD x19.toNat default)) a2 a3 (v14.2.1.getD x19.toNat default)).bind λv29=>
 bif !v29 then
 some (Sum.inl false)
 else
 rec_plan_Member_L2 (w64 (x19+1))
 else none
def RZ (a1:Pattern) (a2:List Product) (a3:Saw) (v14:(List Span)×(List (List Node))×Bool) (v17:(List Int)):Nat->Int->Option (Bool⊕Unit)
 |0,_=>none
 |n+1,x19=>
 bif decide (x19<((v14.1.length:Nat):Int)) then
 bif inb x19 v14.1.length then
 bif nz a3.Pitch then
 bif (Int.tmod (w64 (((v14.1.getD x19.toNat default).A)-a1.Frame.Y.A)) a3.Pitch) !=0 then
 OE a1 a2 a3 v14 x19 (RZ a1 a2 a3 v14 v17 n) true
 else
 (VN v17 (w64 (((v14.1.getD x19.toNat default).B)-((v14.1.getD x19.toNat default).A)))).bind λv24=>
 OE a1 a2 a3 v14 x19 (RZ a1 a2 a3 v14 v17 n) (!v24)
 else none
 else none
 else
 some (Sum.inr ())
def FZ (a1:Pattern) (a2:List Product) (a3:Saw) (x12:Bool):Option Bool:=
 bif x12 then
 some false
 else
 (qE6 a1.Frame 3 a3.Kerf a1.Nodes).bind λv14=>
 bif !v14.2.2 then
 some false
 else
 (JK a2).bind λv17=>
 (RZ a1 a2 a3 v14 v17 FUEL 0).bind λu34=>Sum.elim (λv35=>some v35) (λo32=>
 some true) u34
def ME (a1:Pattern) (a2:List Product) (a3:Saw):Option Bool:=
 (jN a2).bind λv4=>
 bif v4 !=0 then
 FZ a1 a2 a3 true
 else
 (YZ a3 (Rates.mk 0 0 0)).bind λv7=>
 bif v7 !=0 then
 FZ a1 a2 a3 true
 else
 (JN a1.Frame).bind λv10=>
 FZ a1 a2 a3 (v10 !=0)
/- sawmill/sawmilllaw24.awake -/
def qY (x28:Bool):Option Bool:=
 some x28
def YU :Option Bool:=
 (KG 97).bind λv1=>
 (QX (Law24_Given.mk v1.Solid v1.Defects v1.Products v1.Frame v1.Saw v1.Rates)).bind λv3=>
 (KG 96).bind λv5=>
 (QX (Law24_Given.mk v5.Solid v5.Defects v5.Products v5.Frame v5.Saw v5.Rates)).bind λv7=>
 (JK v1.Products).bind λv9=>
 (AN v1.Solid).bind λv11=>
 bif v3.2.2==0 then
 bif v3.2.1==140000000 then
 bif v7.2.2==0 then
 bif v7.2.1==70000000 then
 bif ((v9.length:Nat):Int)==2 then
 bif inb 0 v9.length then
 bif (v9.getD ((0:Int).toNat) default)==42 then
 bif inb 1 v9.length then
 bif (v9.getD ((1:Int).toNat) default)==105 then
 bif (((v11.X.A==(-100))&&((v11.X.B==100)&&true))&&(((v11.Y.A==(-100))&&((v11.Y.B==100)&&true))&&true)) then
 bif ((v3.1.Nodes.length:Nat):Int)==9 then
 bif inb 0 v3.1.Nodes.length then
 bif ((((v3.1.Nodes.getD ((0:Int).toNat) default).Kind)==3)&&((((v3.1.Nodes.getD ((0:Int).toNat) default).At)==42)&&true)) then
 (ME (Pattern.mk v3.1.Frame v3.1.Nodes) v1.Products v1.Saw).bind λv26=>
 qY v26
 else
 qY false
 else none
 else
 qY false
 else
 qY false
 else
 qY false
 else none
 else
 qY false
 else none
 else
 qY false
 else
 qY false
 else
 qY false
 else
 qY false
 else
 qY false
/- sawmill/sawmillref02.digit -/
def IH (x3:Bool):Option Bool:=
 some x3
def qD1 (a1:Int):Option Bool:=
 bif decide (a1≥48) then
 IH (decide (a1<=57))
 else
 IH false
/- sawmill/sawmillref02.IsName -/
def RE (x5:Int) (rec_ref02_IsName_L2:Int->Option (Bool⊕Unit)) (x16:Bool):Option (Bool⊕Unit):=
 bif x16 then
 some (Sum.inl false)
 else
 rec_ref02_IsName_L2 (w64 (x5+1))
def ES (a1:ByteArray) (x5:Int) (rec_ref02_IsName_L2:Int->Option (Bool⊕Unit)) (x9:Bool):Option (Bool⊕Unit):=
 bif !x9 then
 bif x5==0 then
 RE x5 rec_ref02_IsName_L2 true
 else
 bif inb x5 a1.size then
 bif (strAt a1 x5.toNat) !=95 then
 (qD1 (strAt a1 x5.toNat)).bind λv14=>
 RE x5 rec_ref02_IsName_L2 (!v14)
 else
 RE x5 rec_ref02_IsName_L2 false
 else none
 else
 RE x5 rec_ref02_IsName_L2 false
def ZJ (a1:ByteArray):Nat->Int->Option (Bool⊕Unit)
 |0,_=>none
 |n+1,x5=>
 bif decide (x5<((a1.size:Nat):Int)) then
 bif inb x5 a1.size then
 bif decide ((strAt a1 x5.toNat)≥97) then
 ES a1 x5 (ZJ a1 n) (decide ((strAt a1 x5.toNat)<=122))
 else
 ES a1 x5 (ZJ a1 n) false
 else none
 else
 some (Sum.inr ())
def SY (a1:ByteArray) (x3:Bool):Option Bool:=
 bif x3 then
 some false
 else
 (ZJ a1 FUEL 0).bind λu20=>Sum.elim (λv21=>some v21) (λo18=>
 some true) u20
def qB8 (a1:ByteArray):Option Bool:=
 bif decide (((a1.size:Nat):Int)<1) then
 SY a1 true
 else
 SY a1 (decide (((a1.size:Nat):Int)>16))
/- sawmill/sawmillref19.sized -/
def UM (x5:Bool):Option Bool:=
 some x5
def qH1 (a1:Product):Option Bool:=
 bif decide (a1.Thick≥1) then
 bif decide (a1.Thick<=600) then
 bif decide (a1.Width≥1) then
 UM (decide (a1.Width<=600))
 else
 UM false
 else
 UM false
 else
 UM false
/- sawmill/sawmillref19.Green -/
def FY (a1:Product) (x6:Bool):Option (Int×Int):=
 bif x6 then
 some (0,0)
 else
 some (w64 (Int.tdiv (w64 ((w64 (a1.Thick*(w64 (1000+a1.Allow))))+999)) 1000),w64 (Int.tdiv (w64 ((w64 (a1.Width*(w64 (1000+a1.Allow))))+999)) 1000))
def OW (a1:Product):Option (Int×Int):=
 (qH1 a1).bind λv2=>
 bif !v2 then
 FY a1 true
 else
 bif decide (a1.Allow<0) then
 FY a1 true
 else
 FY a1 (decide (a1.Allow>200))
/- sawmill/sawmillref19.checkLengths -/
def TU (x5:Int) (rec_ref19_checkLengths_L1:Int->Option (Int⊕Unit)) (x14:Bool):Option (Int⊕Unit):=
 bif x14 then
 some (Sum.inl 11)
 else
 rec_ref19_checkLengths_L1 (w64 (x5+1))
def TG (a1:Product) (x5:Int) (rec_ref19_checkLengths_L1:Int->Option (Int⊕Unit)) (x9:Bool):Option (Int⊕Unit):=
 bif x9 then
 some (Sum.inl 9)
 else
 bif decide (x5>0) then
 bif inb x5 a1.Lengths.length then
 bif inb (w64 (x5-1)) a1.Lengths.length then
 TU x5 rec_ref19_checkLengths_L1 (decide ((a1.Lengths.getD x5.toNat default)<=(a1.Lengths.getD (w64 (x5-1)).toNat default)))
 else none
 else none
 else
 TU x5 rec_ref19_checkLengths_L1 false
def jB (a1:Product):Nat->Int->Option (Int⊕Unit)
 |0,_=>none
 |n+1,x5=>
 bif decide (x5<((a1.Lengths.length:Nat):Int)) then
 bif inb x5 a1.Lengths.length then
 bif decide ((a1.Lengths.getD x5.toNat default)<100) then
 TG a1 x5 (jB a1 n) true
 else
 TG a1 x5 (jB a1 n) (decide ((a1.Lengths.getD x5.toNat default)>20000))
 else none
 else
 some (Sum.inr ())
def TQ (x20:Int) (rec_ref19_checkLengths_L4:Int->Option (Int⊕Unit)) (x24:Bool):Option (Int⊕Unit):=
 bif x24 then
 some (Sum.inl 9)
 else
 rec_ref19_checkLengths_L4 (w64 (x20+1))
def jC (a1:Product):Nat->Int->Option (Int⊕Unit)
 |0,_=>none
 |n+1,x20=>
 bif decide (x20<((a1.Prices.length:Nat):Int)) then
 bif inb x20 a1.Prices.length then
 bif decide ((a1.Prices.getD x20.toNat default)<0) then
 TQ x20 (jC a1 n) true
 else
 TQ x20 (jC a1 n) (decide ((a1.Prices.getD x20.toNat default)>1000000))
 else none
 else
 some (Sum.inr ())
def NK (a1:Product):Option Int:=
 bif ((a1.Lengths.length:Nat):Int)==0 then
 some 3
 else
 bif decide (((a1.Lengths.length:Nat):Int)>8) then
 some 4
 else
 bif ((a1.Prices.length:Nat):Int) !=((a1.Lengths.length:Nat):Int) then
 some 19
 else
 (jB a1 FUEL 0).bind λu18=>Sum.elim (λv19=>some v19) (λo16=>
 (jC a1 FUEL 0).bind λu28=>Sum.elim (λv29=>some v29) (λo26=>
 some 0) u28) u18
/- sawmill/sawmillref19.Check -/
def XD (a1:List Product) (x3:Int):Nat->Int->Option (Int⊕Unit)
 |0,_=>none
 |n+1,x9=>
 bif decide (x9<x3) then
 bif inb x9 a1.length then
 bif strEq ((a1.getD x9.toNat default).Name) ((a1.getD x3.toNat default).Name) then
 some (Sum.inl 7)
 else
 (XD a1 x3 n) (w64 (x9+1))
 else none
 else
 some (Sum.inr ())
def yJ (a1:List Product) (x3:Int) (rec_ref19_Check_L1:Int->Option (Int⊕Unit)) (x24:Bool):Option (Int⊕Unit):=
 bif x24 then
 some (Sum.inl 9)
 else
 (OW (a1.getD x3.toNat default)).bind λv26=>
 bif decide (v26.2>600) then
 some (Sum.inl 9)
 else
 (NK (a1.getD x3.toNat default)).bind λv29=>
 bif v29 !=0 then
 some (Sum.inl v29)
 else
 rec_ref19_Check_L1 (w64 (x3+1))
def wE (a1:List Product):Nat->Int->Option (Int⊕Unit)
 |0,_=>none
 |n+1,x3=>
 bif decide (x3<((a1.length:Nat):Int)) then
 bif inb x3 a1.length then
 (qB8 ((a1.getD x3.toNat default).Name)).bind λv6=>
 bif !v6 then
 some (Sum.inl 6)
 else
 (XD a1 x3 FUEL 0).bind λu15=>Sum.elim (λv16=>some (Sum.inl v16)) (λo13=>
 bif decide (((a1.getD x3.toNat default).Thick)<5) then
 yJ a1 x3 (wE a1 n) true
 else
 bif decide (((a1.getD x3.toNat default).Thick)>300) then
 yJ a1 x3 (wE a1 n) true
 else
 bif decide (((a1.getD x3.toNat default).Width)<((a1.getD x3.toNat default).Thick)) then
 yJ a1 x3 (wE a1 n) true
 else
 bif decide (((a1.getD x3.toNat default).Width)>600) then
 yJ a1 x3 (wE a1 n) true
 else
 bif decide (((a1.getD x3.toNat default).Allow)<0) then
 yJ a1 x3 (wE a1 n) true
 else
 bif decide (((a1.getD x3.toNat default).Allow)>200) then
 yJ a1 x3 (wE a1 n) true
 else
 bif decide (((a1.getD x3.toNat default).Wane)<0) then
 yJ a1 x3 (wE a1 n) true
 else
 yJ a1 x3 (wE a1 n) (decide (((a1.getD x3.toNat default).Wane)>1000))) u15
 else none
 else
 some (Sum.inr ())
def qD7 (a1:List Product):Option Int:=
 bif decide (((a1.length:Nat):Int)>16) then
 some 4
 else
 (wE a1 FUEL 0).bind λu34=>Sum.elim (λv35=>some v35) (λo32=>
 some 0) u34
/- sawmill/sawmillref10.beyond -/
def EP (x3:Bool):Option Bool:=
 some x3
def EH (a1:Int):Option Bool:=
 bif decide (a1<(-600)) then
 EP true
 else
 EP (decide (a1>600))
/- sawmill/sawmillref10.empty -/
def CB (a1:Span):Option Bool:=
 some (decide (a1.A≥a1.B))
/- sawmill/sawmillref10.Check -/
def OP (x6:Int) (rec_ref10_Check_L2:Int->Option (Int⊕Unit)) (x14:Bool):Option (Int⊕Unit):=
 bif x14 then
 some (Sum.inl 9)
 else
 rec_ref10_Check_L2 (w64 (x6+1))
def WD (a1:qK):Nat->Int->Option (Int⊕Unit)
 |0,_=>none
 |n+1,x6=>
 bif decide (x6<((a1.Rows.length:Nat):Int)) then
 bif inb x6 a1.Rows.length then
 (EH ((a1.Rows.getD x6.toNat default).A)).bind λv9=>
 bif v9 then
 OP x6 (WD a1 n) true
 else
 (EH ((a1.Rows.getD x6.toNat default).B)).bind λv12=>
 OP x6 (WD a1 n) v12
 else none
 else
 some (Sum.inr ())
def IW (x31:Int) (rec_ref10_Check_L5:Int->Option (Int⊕Unit)) (x37:Bool):Option (Int⊕Unit):=
 bif x37 then
 some (Sum.inl 19)
 else
 rec_ref10_Check_L5 (w64 (x31+1))
def WJ (a1:qK):Nat->Int->Option (Int⊕Unit)
 |0,_=>none
 |n+1,x31=>
 bif decide (x31<((a1.Rows.length:Nat):Int)) then
 bif inb x31 a1.Rows.length then
 (CB (a1.Rows.getD x31.toNat default)).bind λv34=>
 bif v34 then
 IW x31 (WJ a1 n) (!((((a1.Rows.getD x31.toNat default).A)==0)&&((((a1.Rows.getD x31.toNat default).B)==0)&&true)))
 else
 IW x31 (WJ a1 n) false
 else none
 else
 some (Sum.inr ())
def IT (a1:qK) (x29:Bool):Option Int:=
 bif x29 then
 some 19
 else
 (WJ a1 FUEL 0).bind λu41=>Sum.elim (λv42=>some v42) (λo39=>
 some 0) u41
def ON (a1:qK) (x4:Bool):Option Int:=
 bif x4 then
 some 9
 else
 (WD a1 FUEL 0).bind λu18=>Sum.elim (λv19=>some v19) (λo16=>
 bif ((a1.Rows.length:Nat):Int)==0 then
 bif a1.Low !=0 then
 some 19
 else
 some 0
 else
 bif inb 0 a1.Rows.length then
 (CB (a1.Rows.getD (0:Int).toNat default)).bind λv23=>
 bif v23 then
 IT a1 true
 else
 bif inb (w64 (((a1.Rows.length:Nat):Int)-1)) a1.Rows.length then
 (CB (a1.Rows.getD (w64 (((a1.Rows.length:Nat):Int)-1)).toNat default)).bind λv27=>
 IT a1 v27
 else none
 else none) u18
def qD6 (a1:qK):Option Int:=
 bif decide (((a1.Rows.length:Nat):Int)>120) then
 some 4
 else
 bif decide (a1.Low<(-60)) then
 ON a1 true
 else
 ON a1 (decide (a1.Low>(w64 (60-((a1.Rows.length:Nat):Int)))))
/- sawmill/sawmillref11.Check -/
def IF (a1:List qB) (x4:Int) (x5:Int) (rec_ref11_Check_L1:Int->Int->Option (Int⊕Unit)) (x13:Bool):Option (Int⊕Unit):=
 bif x13 then
 some (Sum.inl 9)
 else
 rec_ref11_Check_L1 (w64 (x4+((a1.getD x5.toNat default).Len))) (w64 (x5+1))
def WN (a1:List qB):Nat->Int->Int->Option (Int⊕Unit)
 |0,_,_=>none
 |n+1,x4,x5=>
 bif decide (x5<((a1.length:Nat):Int)) then
 bif inb x5 a1.length then
 (qD6 ((a1.getD x5.toNat default).Sec)).bind λv8=>
 bif v8 !=0 then
 some (Sum.inl v8)
 else
 bif (((((a1.getD x5.toNat default).Sec).Rows).length:Nat):Int)==0 then
 some (Sum.inl 18)
 else
 bif decide (((a1.getD x5.toNat default).Len)<1) then
 IF a1 x4 x5 (WN a1 n) true
 else
 IF a1 x4 x5 (WN a1 n) (decide (((a1.getD x5.toNat default).Len)>(w64 (20000-x4))))
 else none
 else
 some (Sum.inr ())
def qDI (a1:List qB):Option Int:=
 bif ((a1.length:Nat):Int)==0 then
 some 3
 else
 bif decide (((a1.length:Nat):Int)>24) then
 some 4
 else
 (WN a1 FUEL 0 0).bind λu17=>Sum.elim (λv18=>some v18) (λo15=>
 some 0) u17
/- sawmill/sawmilllaw24.wide -/
def GH (a1:Span) (a2:Int) (x5:Bool):Option Int:=
 bif x5 then
 some 1
 else
 bif nz a2 then
 some (w64 ((w64 (Int.tdiv (w64 (a1.B-a1.A)) a2))+1))
 else none
def FT (a1:Span) (a2:Int):Option Int:=
 bif decide (a1.A<(-600)) then
 GH a1 a2 true
 else
 bif decide (a1.B>600) then
 GH a1 a2 true
 else
 GH a1 a2 (decide (a2<1))
/- sawmill/sawmilllaw24.light -/
def UE (a1:Law24_Given) (x15:Bool):Option Bool:=
 bif x15 then
 some false
 else
 (FT a1.Frame.X a1.Saw.Pitch).bind λv17=>
 (FT a1.Frame.Y a1.Saw.Pitch).bind λv19=>
 some (decide ((w64 (v17*v19))<=300))
def WK (a1:Law24_Given) (x9:Bool):Option Bool:=
 bif x9 then
 some false
 else
 bif decide (a1.Saw.Step≥1) then
 (yV a1.Solid).bind λv12=>
 bif nz a1.Saw.Step then
 UE a1 (decide ((w64 (Int.tdiv v12 a1.Saw.Step))>30))
 else none
 else
 UE a1 false
def GT (a1:Law24_Given):Option Bool:=
 (MR a1.Solid).bind λv2=>
 bif !v2 then
 WK a1 true
 else
 bif decide (((a1.Defects.length:Nat):Int)>70) then
 WK a1 true
 else
 (CX a1.Products).bind λv6=>
 bif !v6 then
 WK a1 true
 else
 WK a1 (decide (((a1.Products.length:Nat):Int)>4))
/- sawmill/sawmillref23.Sizes -/
def FL (x8:Int) (rec_ref23_Sizes_L1:(List Int)->(List Int)->Int->Option ((List Int)×(List Int))) (l19:List Int) (l20:List Int):Option ((List Int)×(List Int)):=
 rec_ref23_Sizes_L1 l19 l20 (w64 (x8+1))
def QN (a1:List Product) (a2:Int):Nat->(List Int)->(List Int)->Int->Option ((List Int)×(List Int))
 |0,_,_,_=>none
 |n+1,l6,l7,x8=>
 bif decide (x8<((a1.length:Nat):Int)) then
 bif inb x8 a1.length then
 (OW (a1.getD x8.toNat default)).bind λv11=>
 bif v11.1==a2 then
 bif room (l6.length+1) 8 then
 bif room (l7.length+1) 8 then
 FL x8 (QN a1 a2 n) (l6++([v11.2]:List Int)) (l7++([x8]:List Int))
 else none
 else none
 else
 bif v11.2==a2 then
 bif room (l6.length+1) 8 then
 bif room (l7.length+1) 8 then
 FL x8 (QN a1 a2 n) (l6++([v11.1]:List Int)) (l7++([x8]:List Int))
 else none
 else none
 else
 FL x8 (QN a1 a2 n) l6 l7
 else none
 else
 some (l6,l7)
def qHY (a1:List Product) (a2:Int):Option ((List Int)×(List Int)):=
 (qD7 a1).bind λv3=>
 bif v3 !=0 then
 some (([]:List Int),([]:List Int))
 else
 (QN a1 a2 FUEL ([]:List Int) ([]:List Int) 0).bind λo23=>
 some (o23.1,o23.2)
/- sawmill/sawmillref11.Length -/
def JS (a1:List qB):Nat->Int->Int->Option Int
 |0,_,_=>none
 |n+1,x5,x6=>
 bif decide (x6<((a1.length:Nat):Int)) then
 bif inb x6 a1.length then
 (JS a1 n) (w64 (x5+((a1.getD x6.toNat default).Len))) (w64 (x6+1))
 else none
 else
 some x5
def qGj (a1:List qB):Option Int:=
 (qDI a1).bind λv2=>
 bif v2 !=0 then
 some 0
 else
 (JS a1 FUEL 0 0).bind λo10=>
 some o10
/- sawmill/pattern.places -/
def jO (a1:Pattern) (a2:Int):Option (Pattern×Int):=
 some (a1,a2)
/- sawmill/pattern.checkNode -/
def QW :Option Int:=
 some 0
def YO (x15:Bool):Option Int:=
 bif x15 then
 some 20
 else
 QW
def jK (a1:Node) (a2:Pattern_place) (x6:Bool):Option Int:=
 bif x6 then
 some 10
 else
 bif decide (a2.level>64) then
 some 28
 else
 (wK a1.Kind).bind λv9=>
 bif v9 then
 (ZP a2.rect a1.Kind).bind λv12=>
 bif decide (a1.At<=v12.A) then
 YO true
 else
 YO (decide (a1.At≥v12.B))
 else
 QW
def ZM (a1:Node) (a2:Pattern_place):Option Int:=
 bif decide (a1.Kind<0) then
 jK a1 a2 true
 else
 bif decide (a1.Kind>3) then
 jK a1 a2 true
 else
 bif a1.Kind==0 then
 jK a1 a2 (a1.At !=0)
 else
 jK a1 a2 false
/- sawmill/pattern.Check$1 -/
def jW (x18:Bool):Option Int:=
 bif x18 then
 some 20
 else
 some 0
def QH (a1:Rect) (a2:Int) (a3:List Product) (x5:Bool):Option Int:=
 bif x5 then
 some 8
 else
 bif inb a2 a3.length then
 (QA (a3.getD a2.toNat default)).bind λv8=>
 (YH a1.X).bind λv10=>
 (YH a1.Y).bind λv12=>
 bif v10 !=v8.1 then
 bif v10 !=v8.2 then
 jW true
 else
 jW (v12 !=v8.1)
 else
 bif v12 !=v8.2 then
 bif v10 !=v8.2 then
 jW true
 else
 jW (v12 !=v8.1)
 else
 jW false
 else none
def PJ (a1:Rect) (a2:Int) (a3:List Product):Option Int:=
 bif decide (a2<0) then
 QH a1 a2 a3 true
 else
 QH a1 a2 a3 (decide (a2≥((a3.length:Nat):Int)))
/- sawmill/pattern.check -/
def WV (a1:Int) (a5:Int) (a6:Int) (x16:Int):Option (Nat×Int×Int):=
 bif x16 !=0 then
 some (1,x16,a6)
 else
 some (0,a5,w64 (a1+1))
def WW (a1:Int) (a2:Pattern_place) (a3:Pattern) (a4:List Product) (a5:Int) (a6:Int) (v9:Int) (x12:Bool):Option (Nat×Int×Int):=
 bif x12 then
 (PJ a2.rect ((a3.Nodes.getD a1.toNat default).At) a4).bind λv14=>
 WV a1 a5 a6 v14
 else
 WV a1 a5 a6 v9
def jR (a1:Int) (a2:Pattern_place) (a3:Pattern) (a4:List Product) (a5:Int) (a6:Int):Option (Nat×Int×Int):=
 bif decide (a1≥((a3.Nodes.length:Nat):Int)) then
 some (1,3,a6)
 else
 bif inb a1 a3.Nodes.length then
 (ZM (a3.Nodes.getD a1.toNat default) a2).bind λv9=>
 bif v9==0 then
 WW a1 a2 a3 a4 a5 a6 v9 (((a3.Nodes.getD a1.toNat default).Kind)==1)
 else
 WW a1 a2 a3 a4 a5 a6 v9 false
 else none
/- sawmill/pattern.with -/
def DR (x5:Rect):Option Rect:=
 some x5
def XS (a1:Rect) (a2:Int) (a3:Span):Option Rect:=
 bif a2==2 then
 DR (Rect.mk a3 a1.Y)
 else
 DR (Rect.mk a1.X a3)
/- sawmill/pattern.parts -/
def yG (a1:Rect) (a2:Node) (a3:Int):Option (Rect×Rect×Rect):=
 (ZP a1 a2.Kind).bind λv4=>
 (XS a1 a2.Kind (Span.mk v4.A a2.At)).bind λv6=>
 (XS a1 a2.Kind (Span.mk a2.At (imin (w64 (a2.At+a3)) v4.B))).bind λv8=>
 (XS a1 a2.Kind (Span.mk (imin (w64 (a2.At+a3)) v4.B) v4.B)).bind λv10=>
 some (v6,v8,v10)
/- sawmill/pattern.places$1 -/
def KN (x8:Int) (rec_pattern_places_1_L1:(List Pattern_place)->Int->Int->Int->Option ((Nat×Int×Int)⊕(Int×Int))) (l25:List Pattern_place) (x26:Int) (x27:Int):Option ((Nat×Int×Int)⊕(Int×Int)):=
 rec_pattern_places_1_L1 l25 (w64 (x8+1)) x27 x26
def jQ (a1:Pattern) (a2:List Product) (a5:Pattern) (a6:Int):Nat->(List Pattern_place)->Int->Int->Int->Option ((Nat×Int×Int)⊕(Int×Int))
 |0,_,_,_,_=>none
 |n+1,l7,x8,x9,x10=>
 bif decide (((l7.length:Nat):Int)>0) then
 bif inb (w64 (((l7.length:Nat):Int)-1)) l7.length then
 bif slOk 0 (w64 (((l7.length:Nat):Int)-1)) l7.length then
 (jR x8 (l7.getD ((w64 (((l7.length:Nat):Int)-1)).toNat) default) a1 a2 x9 x10).bind λv14=>
 bif !(Nat.beq v14.1 0) then
 some (Sum.inl (v14.1,v14.2.1,v14.2.2))
 else
 bif decide (x8≥((a5.Nodes.length:Nat):Int)) then
 some (Sum.inl (0,v14.2.1,v14.2.2))
 else
 bif inb x8 a5.Nodes.length then
 (wK ((a5.Nodes.getD x8.toNat default).Kind)).bind λv19=>
 bif v19 then
 (yG ((l7.getD ((w64 (((l7.length:Nat):Int)-1)).toNat) default).rect) (a5.Nodes.getD x8.toNat default) a6).bind λv22=>
 bif room ((w64 (((l7.length:Nat):Int)-1)).toNat+2) 40 then
 KN x8 (jQ a1 a2 a5 a6 n) ((l7.take ((w64 (((l7.length:Nat):Int)-1)).toNat))++([(Pattern_place.mk v22.2.2 (w64 (((l7.getD ((w64 (((l7.length:Nat):Int)-1)).toNat) default).level)+1))),(Pattern_place.mk v22.1 (w64 (((l7.getD ((w64 (((l7.length:Nat):Int)-1)).toNat) default).level)+1)))]:List Pattern_place)) v14.2.2 v14.2.1
 else none
 else
 KN x8 (jQ a1 a2 a5 a6 n) (l7.take ((w64 (((l7.length:Nat):Int)-1)).toNat)) v14.2.2 v14.2.1
 else none
 else none
 else none
 else
 some (Sum.inr (x10,x9))
def XN (a1:Pattern) (a2:List Product) (a3:Int) (a4:Int) (a5:Pattern) (a6:Int):Option (Nat×Int×Int):=
 (jQ a1 a2 a5 a6 FUEL ([(Pattern_place.mk a5.Frame 1)]:List Pattern_place) 0 a3 a4).bind λu32=>Sum.elim (λv33=>some v33) (λo30=>
 some (0,o30.2,o30.1)) u32
/- sawmill/pattern.check -/
def WO (a1:Pattern) (a2:Int) (a3:List Product) (x8:Bool):Option Int:=
 bif x8 then
 some 9
 else
 bif decide (((a1.Nodes.length:Nat):Int)>127) then
 some 4
 else
 (jO a1 a2).bind λv11=>
 (XN a1 a3 0 0 v11.1 v11.2).bind λv13=>
 bif Nat.beq v13.1 0 then
 bif decide (v13.2.2<((a1.Nodes.length:Nat):Int)) then
 some 4
 else
 some 0
 else
 bif Nat.beq v13.1 1 then
 some v13.2.1
 else
 none
def HD (a1:Pattern) (a2:Int) (a3:List Product):Option Int:=
 (jU a1.Frame).bind λv4=>
 bif !v4 then
 some 19
 else
 bif decide (a2<0) then
 WO a1 a2 a3 true
 else
 WO a1 a2 a3 (decide (a2>20))
/- sawmill/pattern.Check -/
def GN (a1:Pattern) (a2:List Product) (a3:Int):Option Int:=
 (HD a1 a3 a2).bind λv4=>
 some v4
/- sawmill/yield.check -/
def GU (a1:List qB) (a2:List Defect) (a3:List Product) (a4:Pattern) (a5:Saw) (a6:Rates):Option Int:=
 (JE a1).bind λv7=>
 bif v7 !=0 then
 some v7
 else
 (JI a2).bind λv10=>
 bif v10 !=0 then
 some v10
 else
 (jN a3).bind λv13=>
 bif v13 !=0 then
 some v13
 else
 (YZ a5 a6).bind λv16=>
 bif v16 !=0 then
 some v16
 else
 (GN a4 a3 a5.Kerf).bind λv19=>
 some v19
/- sawmill/pattern.anyBoard -/
def KI (x4:Bool):Option Int:=
 bif x4 then
 some 8
 else
 some 0
def XU (a1:Rect) (a2:Int):Option Int:=
 bif decide (a2<0) then
 KI true
 else
 KI (decide (a2≥16))
/- sawmill/pattern.check -/
def QP (a1:Int) (a4:Int) (a5:Int) (x15:Int):Option (Nat×Int×Int):=
 bif x15 !=0 then
 some (1,x15,a5)
 else
 some (0,a4,w64 (a1+1))
def QS (a1:Int) (a2:Pattern_place) (a3:Pattern) (a4:Int) (a5:Int) (v8:Int) (x11:Bool):Option (Nat×Int×Int):=
 bif x11 then
 (XU a2.rect ((a3.Nodes.getD a1.toNat default).At)).bind λv13=>
 QP a1 a4 a5 v13
 else
 QP a1 a4 a5 v8
def wS (a1:Int) (a2:Pattern_place) (a3:Pattern) (a4:Int) (a5:Int):Option (Nat×Int×Int):=
 bif decide (a1≥((a3.Nodes.length:Nat):Int)) then
 some (1,3,a5)
 else
 bif inb a1 a3.Nodes.length then
 (ZM (a3.Nodes.getD a1.toNat default) a2).bind λv8=>
 bif v8==0 then
 QS a1 a2 a3 a4 a5 v8 (((a3.Nodes.getD a1.toNat default).Kind)==1)
 else
 QS a1 a2 a3 a4 a5 v8 false
 else none
/- sawmill/pattern.places$1 -/
def WU (x7:Int) (rec_pattern_places_1_s1_L1:(List Pattern_place)->Int->Int->Int->Option ((Nat×Int×Int)⊕(Int×Int))) (l24:List Pattern_place) (x25:Int) (x26:Int):Option ((Nat×Int×Int)⊕(Int×Int)):=
 rec_pattern_places_1_s1_L1 l24 (w64 (x7+1)) x26 x25
def wR (a1:Pattern) (a4:Pattern) (a5:Int):Nat->(List Pattern_place)->Int->Int->Int->Option ((Nat×Int×Int)⊕(Int×Int))
 |0,_,_,_,_=>none
 |n+1,l6,x7,x8,x9=>
 bif decide (((l6.length:Nat):Int)>0) then
 bif inb (w64 (((l6.length:Nat):Int)-1)) l6.length then
 bif slOk 0 (w64 (((l6.length:Nat):Int)-1)) l6.length then
 (wS x7 (l6.getD ((w64 (((l6.length:Nat):Int)-1)).toNat) default) a1 x8 x9).bind λv13=>
 bif !(Nat.beq v13.1 0) then
 some (Sum.inl (v13.1,v13.2.1,v13.2.2))
 else
 bif decide (x7≥((a4.Nodes.length:Nat):Int)) then
 some (Sum.inl (0,v13.2.1,v13.2.2))
 else
 bif inb x7 a4.Nodes.length then
 (wK ((a4.Nodes.getD x7.toNat default).Kind)).bind λv18=>
 bif v18 then
 (yG ((l6.getD ((w64 (((l6.length:Nat):Int)-1)).toNat) default).rect) (a4.Nodes.getD x7.toNat default) a5).bind λv21=>
 bif room ((w64 (((l6.length:Nat):Int)-1)).toNat+2) 40 then
 WU x7 (wR a1 a4 a5 n) ((l6.take ((w64 (((l6.length:Nat):Int)-1)).toNat))++([(Pattern_place.mk v21.2.2 (w64 (((l6.getD ((w64 (((l6.length:Nat):Int)-1)).toNat) default).level)+1))),(Pattern_place.mk v21.1 (w64 (((l6.getD ((w64 (((l6.length:Nat):Int)-1)).toNat) default).level)+1)))]:List Pattern_place)) v13.2.2 v13.2.1
 else none
 else
 WU x7 (wR a1 a4 a5 n) (l6.take ((w64 (((l6.length:Nat):Int)-1)).toNat)) v13.2.2 v13.2.1
 else none
 else none
 else none
 else
 some (Sum.inr (x9,x8))
def ZZ (a1:Pattern) (a2:Int) (a3:Int) (a4:Pattern) (a5:Int):Option (Nat×Int×Int):=
 (wR a1 a4 a5 FUEL ([(Pattern_place.mk a4.Frame 1)]:List Pattern_place) 0 a2 a3).bind λu31=>Sum.elim (λv32=>some v32) (λo29=>
 some (0,o29.2,o29.1)) u31
/- sawmill/pattern.check -/
def KL (a1:Pattern) (a2:Int) (x7:Bool):Option Int:=
 bif x7 then
 some 9
 else
 bif decide (((a1.Nodes.length:Nat):Int)>127) then
 some 4
 else
 (jO a1 a2).bind λv10=>
 (ZZ a1 0 0 v10.1 v10.2).bind λv12=>
 bif Nat.beq v12.1 0 then
 bif decide (v12.2.2<((a1.Nodes.length:Nat):Int)) then
 some 4
 else
 some 0
 else
 bif Nat.beq v12.1 1 then
 some v12.2.1
 else
 none
def WL (a1:Pattern) (a2:Int):Option Int:=
 (jU a1.Frame).bind λv3=>
 bif !v3 then
 some 19
 else
 bif decide (a2<0) then
 KL a1 a2 true
 else
 KL a1 a2 (decide (a2>20))
/- sawmill/pattern.Leaves -/
def jG (a1:Int) (a2:Pattern_place) (a3:Pattern) (a4:List Leaf):Option (Nat×(List Leaf)):=
 bif inb a1 a3.Nodes.length then
 bif ((a3.Nodes.getD a1.toNat default).Kind)==0 then
 bif room (a4.length+1) 40 then
 some (0,(a4++([(Leaf.mk a2.rect (-1))]:List Leaf)))
 else none
 else
 bif ((a3.Nodes.getD a1.toNat default).Kind)==1 then
 bif room (a4.length+1) 40 then
 some (0,(a4++([(Leaf.mk a2.rect ((a3.Nodes.getD a1.toNat default).At))]:List Leaf)))
 else none
 else
 some (0,a4)
 else none
/- sawmill/pattern.places$1 -/
def JA (x6:Int) (rec_pattern_places_1_s2_L1:(List Pattern_place)->Int->(List Leaf)->Option ((Nat×(List Leaf))⊕(List Leaf))) (l22:List Pattern_place) (l23:List Leaf):Option ((Nat×(List Leaf))⊕(List Leaf)):=
 rec_pattern_places_1_s2_L1 l22 (w64 (x6+1)) l23
def wQ (a1:Pattern) (a2:Pattern) (a3:Int):Nat->(List Pattern_place)->Int->(List Leaf)->Option ((Nat×(List Leaf))⊕(List Leaf))
 |0,_,_,_=>none
 |n+1,l5,x6,l7=>
 bif decide (((l5.length:Nat):Int)>0) then
 bif inb (w64 (((l5.length:Nat):Int)-1)) l5.length then
 bif slOk 0 (w64 (((l5.length:Nat):Int)-1)) l5.length then
 (jG x6 (l5.getD ((w64 (((l5.length:Nat):Int)-1)).toNat) default) a1 l7).bind λv11=>
 bif !(Nat.beq v11.1 0) then
 some (Sum.inl (v11.1,v11.2))
 else
 bif decide (x6≥((a2.Nodes.length:Nat):Int)) then
 some (Sum.inl (0,v11.2))
 else
 bif inb x6 a2.Nodes.length then
 (wK ((a2.Nodes.getD x6.toNat default).Kind)).bind λv16=>
 bif v16 then
 (yG ((l5.getD ((w64 (((l5.length:Nat):Int)-1)).toNat) default).rect) (a2.Nodes.getD x6.toNat default) a3).bind λv19=>
 bif room ((w64 (((l5.length:Nat):Int)-1)).toNat+2) 40 then
 JA x6 (wQ a1 a2 a3 n) ((l5.take ((w64 (((l5.length:Nat):Int)-1)).toNat))++([(Pattern_place.mk v19.2.2 (w64 (((l5.getD ((w64 (((l5.length:Nat):Int)-1)).toNat) default).level)+1))),(Pattern_place.mk v19.1 (w64 (((l5.getD ((w64 (((l5.length:Nat):Int)-1)).toNat) default).level)+1)))]:List Pattern_place)) v11.2
 else none
 else
 JA x6 (wQ a1 a2 a3 n) (l5.take ((w64 (((l5.length:Nat):Int)-1)).toNat)) v11.2
 else none
 else none
 else none
 else
 some (Sum.inr l7)
def WC (a1:Pattern) (a2:Pattern) (a3:Int) (a4:List Leaf):Option (Nat×(List Leaf)):=
 (wQ a1 a2 a3 FUEL ([(Pattern_place.mk a2.Frame 1)]:List Pattern_place) 0 a4).bind λu27=>Sum.elim (λv28=>some v28) (λo25=>
 some (0,o25)) u27
/- sawmill/pattern.Leaves -/
def TL (a1:Pattern) (a2:Int):Option ((List Leaf)×Int):=
 (WL a1 a2).bind λv3=>
 bif v3 !=0 then
 some (([]:List Leaf),v3)
 else
 (jO a1 a2).bind λv6=>
 (WC a1 v6.1 v6.2 ([]:List Leaf)).bind λv8=>
 bif Nat.beq v8.1 0 then
 some (v8.2,0)
 else
 none
/- sawmill/yield.boardLeaves -/
def RU (a1:List Leaf):Option (List Leaf):=
 some a1
/- sawmill/yield.box -/
def PM (a1:Rect) (a2:Span):Option Box:=
 some (Box.mk a1.X a1.Y a2)
/- sawmill/yield.Boards -/
def PR (a1:Int) (a2:Leaf) (a3:List qB) (a4:List Defect) (a5:List Product) (a6:Saw) (a7:Int) (a8:List Yield_Cut):Option (Nat×(List Yield_Cut)):=
 bif inb a2.Product a5.length then
 (FR a3 a4 (a5.getD a2.Product.toNat default) a2.Rect a6.Step a7).bind λv10=>
 bif v10.2.2 then
 (PM a2.Rect v10.1).bind λv13=>
 bif room (a8.length+1) 72 then
 some (0,(a8++([(Yield_Cut.mk a1 a2.Product v13 v10.2.1)]:List Yield_Cut)))
 else none
 else
 some (0,a8)
 else none
/- sawmill/yield.boardLeaves$1 -/
def WZ (x8:Int) (rec_yield_boardLeaves_1_L1:Int->(List Yield_Cut)->Option ((Nat×(List Yield_Cut))⊕(List Yield_Cut))) (l16:List Yield_Cut):Option ((Nat×(List Yield_Cut))⊕(List Yield_Cut)):=
 rec_yield_boardLeaves_1_L1 (w64 (x8+1)) l16
def zP (a1:List qB) (a2:List Defect) (a3:List Product) (a4:Saw) (a5:Int) (a6:List Leaf):Nat->Int->(List Yield_Cut)->Option ((Nat×(List Yield_Cut))⊕(List Yield_Cut))
 |0,_,_=>none
 |n+1,x8,l9=>
 bif decide (x8<((a6.length:Nat):Int)) then
 bif inb x8 a6.length then
 bif ((a6.getD x8.toNat default).Product) !=(-1) then
 (PR x8 (a6.getD x8.toNat default) a1 a2 a3 a4 a5 l9).bind λv13=>
 bif !(Nat.beq v13.1 0) then
 some (Sum.inl (v13.1,v13.2))
 else
 WZ x8 (zP a1 a2 a3 a4 a5 a6 n) v13.2
 else
 WZ x8 (zP a1 a2 a3 a4 a5 a6 n) l9
 else none
 else
 some (Sum.inr l9)
def WA (a1:List qB) (a2:List Defect) (a3:List Product) (a4:Saw) (a5:Int) (a6:List Leaf) (a7:List Yield_Cut):Option (Nat×(List Yield_Cut)):=
 (zP a1 a2 a3 a4 a5 a6 FUEL 0 a7).bind λu20=>Sum.elim (λv21=>some v21) (λo18=>
 some (0,o18)) u20
/- sawmill/yield.Boards -/
def KE (a1:List qB) (a2:List Defect) (a3:List Product) (a4:Pattern) (a5:Saw) (a6:Int):Option ((List Yield_Cut)×Int):=
 (GU a1 a2 a3 a4 a5 (Rates.mk 0 0 a6)).bind λv7=>
 bif v7 !=0 then
 some (([]:List Yield_Cut),v7)
 else
 (TL a4 a5.Kerf).bind λv10=>
 bif v10.2 !=0 then
 some (([]:List Yield_Cut),v10.2)
 else
 (RU v10.1).bind λv13=>
 (WA a1 a2 a3 a5 a6 v13 ([]:List Yield_Cut)).bind λv15=>
 bif Nat.beq v15.1 0 then
 some (v15.2,0)
 else
 none
/- sawmill/pattern.Cuts -/
def yE (a1:Int) (a2:Pattern_place) (a3:Pattern) (a4:Int) (a5:List Rect):Option (Nat×(List Rect)):=
 bif inb a1 a3.Nodes.length then
 (wK ((a3.Nodes.getD a1.toNat default).Kind)).bind λv7=>
 bif v7 then
 (yG a2.rect (a3.Nodes.getD a1.toNat default) a4).bind λv10=>
 bif room (a5.length+1) 32 then
 some (0,(a5++([v10.2.1]:List Rect)))
 else none
 else
 some (0,a5)
 else none
/- sawmill/pattern.places$1 -/
def WT (x7:Int) (rec_pattern_places_1_s3_L1:(List Pattern_place)->Int->(List Rect)->Option ((Nat×(List Rect))⊕(List Rect))) (l23:List Pattern_place) (l24:List Rect):Option ((Nat×(List Rect))⊕(List Rect)):=
 rec_pattern_places_1_s3_L1 l23 (w64 (x7+1)) l24
def wU (a1:Pattern) (a2:Int) (a3:Pattern) (a4:Int):Nat->(List Pattern_place)->Int->(List Rect)->Option ((Nat×(List Rect))⊕(List Rect))
 |0,_,_,_=>none
 |n+1,l6,x7,l8=>
 bif decide (((l6.length:Nat):Int)>0) then
 bif inb (w64 (((l6.length:Nat):Int)-1)) l6.length then
 bif slOk 0 (w64 (((l6.length:Nat):Int)-1)) l6.length then
 (yE x7 (l6.getD ((w64 (((l6.length:Nat):Int)-1)).toNat) default) a1 a2 l8).bind λv12=>
 bif !(Nat.beq v12.1 0) then
 some (Sum.inl (v12.1,v12.2))
 else
 bif decide (x7≥((a3.Nodes.length:Nat):Int)) then
 some (Sum.inl (0,v12.2))
 else
 bif inb x7 a3.Nodes.length then
 (wK ((a3.Nodes.getD x7.toNat default).Kind)).bind λv17=>
 bif v17 then
 (yG ((l6.getD ((w64 (((l6.length:Nat):Int)-1)).toNat) default).rect) (a3.Nodes.getD x7.toNat default) a4).bind λv20=>
 bif room ((w64 (((l6.length:Nat):Int)-1)).toNat+2) 40 then
 WT x7 (wU a1 a2 a3 a4 n) ((l6.take ((w64 (((l6.length:Nat):Int)-1)).toNat))++([(Pattern_place.mk v20.2.2 (w64 (((l6.getD ((w64 (((l6.length:Nat):Int)-1)).toNat) default).level)+1))),(Pattern_place.mk v20.1 (w64 (((l6.getD ((w64 (((l6.length:Nat):Int)-1)).toNat) default).level)+1)))]:List Pattern_place)) v12.2
 else none
 else
 WT x7 (wU a1 a2 a3 a4 n) (l6.take ((w64 (((l6.length:Nat):Int)-1)).toNat)) v12.2
 else none
 else none
 else none
 else
 some (Sum.inr l8)
def ZY (a1:Pattern) (a2:Int) (a3:Pattern) (a4:Int) (a5:List Rect):Option (Nat×(List Rect)):=
 (wU a1 a2 a3 a4 FUEL ([(Pattern_place.mk a3.Frame 1)]:List Pattern_place) 0 a5).bind λu28=>Sum.elim (λv29=>some v29) (λo26=>
 some (0,o26)) u28
/- sawmill/pattern.Cuts -/
def NQ (a1:Pattern) (a2:Int):Option ((List Rect)×Int):=
 (WL a1 a2).bind λv3=>
 bif v3 !=0 then
 some (([]:List Rect),v3)
 else
 (jO a1 a2).bind λv6=>
 (ZY a1 a2 v6.1 v6.2 ([]:List Rect)).bind λv8=>
 bif Nat.beq v8.1 0 then
 some (v8.2,0)
 else
 none
/- sawmill/yield.Of -/
def RL (a1:List qB) (v13:(List Rect)×Int) (v16:Int) (v18:Int):Nat->Int->Int->Option Yield
 |0,_,_=>none
 |n+1,x20,x21=>
 bif decide (x20<((v13.1.length:Nat):Int)) then
 bif inb x20 v13.1.length then
 (PM (v13.1.getD x20.toNat default) (Span.mk 0 v16)).bind λv24=>
 (yX a1 v24).bind λv26=>
 (RL a1 v13 v16 v18 n) (w64 (x20+1)) (w64 (x21+v26))
 else none
 else
 some (Yield.mk v18 0 0 x21 0)
def RK (a1:List qB) (a5:Saw) (v10:(List Yield_Cut)×Int) (v16:Int) (o29:Yield):Nat->Int->Int->Int->Int->Option Yield
 |0,_,_,_,_=>none
 |n+1,x31,x32,x33,x34=>
 bif decide (x31<((v10.1.length:Nat):Int)) then
 bif inb x31 v10.1.length then
 (yX a1 ((v10.1.getD x31.toNat default).Box)).bind λv37=>
 (PM (Rect.mk (((v10.1.getD x31.toNat default).Box).X) (((v10.1.getD x31.toNat default).Box).Y)) (Span.mk (imax 0 (w64 (((((v10.1.getD x31.toNat default).Box).Z).A)-a5.Trim))) ((((v10.1.getD x31.toNat default).Box).Z).A))).bind λv39=>
 (yX a1 v39).bind λv41=>
 (PM (Rect.mk (((v10.1.getD x31.toNat default).Box).X) (((v10.1.getD x31.toNat default).Box).Y)) (Span.mk ((((v10.1.getD x31.toNat default).Box).Z).B) (imin (w64 (((((v10.1.getD x31.toNat default).Box).Z).B)+a5.Trim)) v16))).bind λv43=>
 (yX a1 v43).bind λv45=>
 (RK a1 a5 v10 v16 o29 n) (w64 (x31+1)) (w64 (x32+v37)) (w64 ((w64 (x33+v41))+v45)) (w64 (x34+(w64 (1000000*((v10.1.getD x31.toNat default).Worth)))))
 else none
 else
 some (Yield.mk o29.Log x32 o29.Chips x33 x34)
def qBV (a1:List qB) (a2:List Defect) (a3:List Product) (a4:Pattern) (a5:Saw) (a6:Rates):Option (Yield×Int):=
 (GU a1 a2 a3 a4 a5 a6).bind λv7=>
 bif v7 !=0 then
 some ((Yield.mk 0 0 0 0 0),v7)
 else
 (KE a1 a2 a3 a4 a5 a6.Fine).bind λv10=>
 bif v10.2 !=0 then
 some ((Yield.mk 0 0 0 0 0),v10.2)
 else
 (NQ a4 a5.Kerf).bind λv13=>
 bif v13.2 !=0 then
 some ((Yield.mk 0 0 0 0 0),v13.2)
 else
 (yV a1).bind λv16=>
 (JH a1).bind λv18=>
 (RL a1 v13 v16 v18 FUEL 0 0).bind λo29=>
 (RK a1 a5 v10 v16 o29 FUEL 0 o29.Boards o29.Dust o29.Value).bind λo48=>
 some ((Yield.mk o48.Log o48.Boards (w64 ((w64 (o48.Log-o48.Boards))-o48.Dust)) o48.Dust (w64 (o48.Value+(w64 ((w64 (a6.Chip*(w64 ((w64 (o48.Log-o48.Boards))-o48.Dust))))+(w64 (a6.Dust*o48.Dust))))))),0)
/- sawmill/sawmilllaw24.of -/
def qCG (a1:Law24_Given) (a2:Pattern):Option (Yield×Int):=
 (qBV a1.Solid a1.Defects a1.Products a2 a1.Saw a1.Rates).bind λv3=>
 some (v3.1,v3.2)
/- sawmill/sawmilllaw24.PlanYields -/
def KO (x17:Int) (rec_law24_PlanYields_L1:Int->Int->Option Int) (x21:Int):Option Int:=
 rec_law24_PlanYields_L1 x21 (w64 (x17+1))
def zZ (v7:Pattern×Int×Int):Nat->Int->Int->Option Int
 |0,_,_=>none
 |n+1,x16,x17=>
 bif decide (x17<((v7.1.Nodes.length:Nat):Int)) then
 bif inb x17 v7.1.Nodes.length then
 bif ((v7.1.Nodes.getD x17.toNat default).Kind)==1 then
 KO x17 (zZ v7 n) (w64 (x16+1))
 else
 KO x17 (zZ v7 n) x16
 else none
 else
 some x16
def zE (x34:Bool):Option Bool:=
 some x34
def GD (a1:Law24_Given):Option Bool:=
 (GT a1).bind λv2=>
 bif !v2 then
 (YU).bind λv5=>
 some v5
 else
 (QX a1).bind λv7=>
 bif v7.2.2 !=0 then
 (YU).bind λv10=>
 some v10
 else
 (qCG a1 (Pattern.mk v7.1.Frame v7.1.Nodes)).bind λv12=>
 (KE a1.Solid a1.Defects a1.Products (Pattern.mk v7.1.Frame v7.1.Nodes) a1.Saw a1.Rates.Fine).bind λv14=>
 (zZ v7 FUEL 0 0).bind λo23=>
 bif v12.2==0 then
 bif v14.2==0 then
 bif v12.1.Value==v7.2.1 then
 bif ((v14.1.length:Nat):Int)==o23 then
 (JH a1.Solid).bind λv29=>
 bif decide (v7.2.1≥(w64 (a1.Rates.Chip*v29))) then
 (YU).bind λv32=>
 zE v32
 else
 zE false
 else
 zE false
 else
 zE false
 else
 zE false
 else
 zE false
end Saw
end Go.SL

import Derived.Test.YtidlfgiogdjkaaaGreatDoorYa6
set_option linter.unusedVariables false
set_option linter.unusedSimpArgs false
namespace Go.SL
namespace Saw
structure Piece where
 Size:Int
 At:Int
instance : Inhabited Piece:=⟨⟨0,0⟩⟩
def yI (r:Piece):List C:=[ci r.Size,ci r.At]
structure Product where
 Name:ByteArray
 Thick:Int
 Width:Int
 Allow:Int
 Wane:Int
 Lengths:List Int
 Prices:List Int
instance : Inhabited Product:=⟨⟨⟨#[]⟩,0,0,0,0,[],[]⟩⟩
def qC (r:Product):List C:=[cs r.Name,ci r.Thick,ci r.Width,ci r.Allow,ci r.Wane,tl e_i64 default r.Lengths,tl e_i64 default r.Prices]
structure Span where
 A:Int
 B:Int
instance : Inhabited Span:=⟨⟨0,0⟩⟩
def e_Span (r:Span):List C:=[ci r.A,ci r.B]
structure qI where
 Low:Int
 Rows:List Span
instance : Inhabited qI:=⟨⟨0,[]⟩⟩
def wF (r:qI):List C:=[ci r.Low,tl e_Span default r.Rows]
structure qB where
 Len:Int
 Sec:qI
instance : Inhabited qB:=⟨⟨0,default⟩⟩
def qJ (r:qB):List C:=[ci r.Len,ci r.Sec.Low,tl e_Span default r.Sec.Rows]
structure Box where
 X:Span
 Y:Span
 Z:Span
instance : Inhabited Box:=⟨⟨default,default,default⟩⟩
def JF (r:Box):List C:=[ci r.X.A,ci r.X.B,ci r.Y.A,ci r.Y.B,ci r.Z.A,ci r.Z.B]
structure Defect where
 Kind:Int
 Box:Box
instance : Inhabited Defect:=⟨⟨0,default⟩⟩
def qL (r:Defect):List C:=[ci r.Kind,ci r.Box.X.A,ci r.Box.X.B,ci r.Box.Y.A,ci r.Box.Y.B,ci r.Box.Z.A,ci r.Box.Z.B]
structure Rect where
 X:Span
 Y:Span
instance : Inhabited Rect:=⟨⟨default,default⟩⟩
def qH (r:Rect):List C:=[ci r.X.A,ci r.X.B,ci r.Y.A,ci r.Y.B]
structure Saw where
 Kerf:Int
 Trim:Int
 Pitch:Int
 Step:Int
instance : Inhabited Saw:=⟨⟨0,0,0,0⟩⟩
def zD (r:Saw):List C:=[ci r.Kerf,ci r.Trim,ci r.Pitch,ci r.Step]
structure Rates where
 Chip:Int
 Dust:Int
 Fine:Int
instance : Inhabited Rates:=⟨⟨0,0,0⟩⟩
def zX (r:Rates):List C:=[ci r.Chip,ci r.Dust,ci r.Fine]
structure Law24_Given where
 Solid:List qB
 Defects:List Defect
 Products:List Product
 Frame:Rect
 Saw:Saw
 Rates:Rates
instance : Inhabited Law24_Given:=⟨⟨[],[],[],default,default,default⟩⟩
def qFp (r:Law24_Given):List C:=[tl qJ default r.Solid,tl qL default r.Defects,tl qC default r.Products,ci r.Frame.X.A,ci r.Frame.X.B,ci r.Frame.Y.A,ci r.Frame.Y.B,ci r.Saw.Kerf,ci r.Saw.Trim,ci r.Saw.Pitch,ci r.Saw.Step,ci r.Rates.Chip,ci r.Rates.Dust,ci r.Rates.Fine]
structure Worth_zone where
 z:Span
 lack:Int
instance : Inhabited Worth_zone:=⟨⟨default,0⟩⟩
def qV (r:Worth_zone):List C:=[ci r.z.A,ci r.z.B,ci r.lack]
structure Worth_view where
 product:Product
 rect:Rect
 length:Int
 zones:List Worth_zone
 defects:List Defect
instance : Inhabited Worth_view:=⟨⟨default,default,0,[],[]⟩⟩
def ND (r:Worth_view):List C:=[cs r.product.Name,ci r.product.Thick,ci r.product.Width,ci r.product.Allow,ci r.product.Wane,tl e_i64 default r.product.Lengths,tl e_i64 default r.product.Prices,ci r.rect.X.A,ci r.rect.X.B,ci r.rect.Y.A,ci r.rect.Y.B,ci r.length,tl qV default r.zones,tl qL default r.defects]
structure Line where
 Len:Int
 Kerf:Int
 Pitch:Int
 Sizes:List Int
 Gain:List (List Int)
 Chip:List Int
 Dust:List Int
instance : Inhabited Line:=⟨⟨0,0,0,[],[],[],[]⟩⟩
def jY (r:Line):List C:=[ci r.Len,ci r.Kerf,ci r.Pitch,tl e_i64 default r.Sizes,tl (qF e_i64) default r.Gain,tl e_i64 default r.Chip,tl e_i64 default r.Dust]
structure Cutting_choice where
 piece:Piece
 value:Int
instance : Inhabited Cutting_choice:=⟨⟨default,0⟩⟩
def e_Cutting_choice (r:Cutting_choice):List C:=[ci r.piece.Size,ci r.piece.At,ci r.value]
structure Node where
 Kind:Int
 At:Int
instance : Inhabited Node:=⟨⟨0,0⟩⟩
def e_Node (r:Node):List C:=[ci r.Kind,ci r.At]
structure Pattern where
 Frame:Rect
 Nodes:List Node
instance : Inhabited Pattern:=⟨⟨default,[]⟩⟩
def QQ (r:Pattern):List C:=[ci r.Frame.X.A,ci r.Frame.X.B,ci r.Frame.Y.A,ci r.Frame.Y.B,tl e_Node default r.Nodes]
structure qJ4 where
 value:Int
 piece:Piece
instance : Inhabited qJ4:=⟨⟨0,default⟩⟩
structure Ref24_part where
 at_:Span
 from_:Int
 to:Int
instance : Inhabited Ref24_part:=⟨⟨default,0,0⟩⟩
def qM (r:Ref24_part):List C:=[ci r.at_.A,ci r.at_.B,ci r.from_,ci r.to]
structure Pattern_place where
 rect:Rect
 level:Int
instance : Inhabited Pattern_place:=⟨⟨default,0⟩⟩
structure Leaf where
 Rect:Rect
 Product:Int
instance : Inhabited Leaf:=⟨⟨default,0⟩⟩
structure Yield_Cut where
 Leaf:Int
 Product:Int
 Box:Box
 Worth:Int
instance : Inhabited Yield_Cut:=⟨⟨0,0,default,0⟩⟩
structure Yield where
 Log:Int
 Boards:Int
 Chips:Int
 Dust:Int
 Value:Int
instance : Inhabited Yield:=⟨⟨0,0,0,0,0⟩⟩
def qIE :Piece:=(Piece.mk (-1) (-1))
def globs :List (Nat×C):=[(0,.lptr (yI qIE))]
/- sawmill/sawmilllaw24.few -/
def FN (x3:Int) (R:Int->Option (Bool⊕Unit)) (x8:Bool):Option (Bool⊕Unit):=
 bif x8 then
 some (Sum.inl false)
 else
 R (w64 (x3+1))
def ZL (a1:List Product):Nat->Int->Option (Bool⊕Unit)
 |0,_=>none
 |n+1,x3=>
 bif decide (x3<((a1.length:Nat):Int)) then
 bif inb x3 a1.length then
 bif decide (((((a1.getD x3.toNat default).Name).size:Nat):Int)>100) then
 FN x3 (ZL a1 n) true
 else
 bif decide (((((a1.getD x3.toNat default).Lengths).length:Nat):Int)>12) then
 FN x3 (ZL a1 n) true
 else
 FN x3 (ZL a1 n) (decide (((((a1.getD x3.toNat default).Prices).length:Nat):Int)>12))
 else none
 else
 some (Sum.inr ())
def EI (a1:List Product):Option Bool:=
 bif decide (((a1.length:Nat):Int)>20) then
 some false
 else
 (ZL a1 FUEL 0).bind λu12=>Sum.elim (λv13=>some v13) (λo10=>
 some true) u12
/- sawmill/sawmilllaw24.sample -/
def BR :Nat->Int->(List Span)->Option (List Span)
 |0,_,_=>none
 |n+1,x2,l3=>
 bif decide (x2<20) then
 bif room (l3.length+1) 16 then
 (BR n) (w64 (x2+1)) (l3++([(Span.mk (-100) 100)]:List Span))
 else none
 else
 some l3
def KK (a1:Int):Option Law24_Given:=
 (BR FUEL 0 ([]:List Span)).bind λo7=>
 some (Law24_Given.mk ([(qB.mk 3000 (qI.mk (-10) o7))]:List qB) ([]:List Defect) ([(Product.mk (ByteArray.mk #[112,108,97,110,107]) 40 100 50 0 ([2000]:List Int) ([70]:List Int))]:List Product) (Rect.mk (Span.mk (-100) 10) (Span.mk 0 a1)) (Saw.mk 4 5 5 500) (Rates.mk 0 0 0))
/- sawmill/section.inRange -/
def RC (x3:Bool):Option Bool:=
 some x3
def RW (a1:Span):Option Bool:=
 bif decide ((imin a1.A a1.B)≥(-600)) then
 RC (decide ((imax a1.A a1.B)<=600))
 else
 RC false
/- sawmill/section.isEmpty -/
def ZE (a1:Span):Option Bool:=
 some (decide (a1.A≥a1.B))
/- sawmill/section.Check -/
def QI (a1:qI):Nat->Int->Option (Int⊕Unit)
 |0,_=>none
 |n+1,x6=>
 bif decide (x6<((a1.Rows.length:Nat):Int)) then
 bif inb x6 a1.Rows.length then
 (RW (a1.Rows.getD x6.toNat default)).bind λv9=>
 bif !v9 then
 some (Sum.inl 9)
 else
 (QI a1 n) (w64 (x6+1))
 else none
 else
 some (Sum.inr ())
def GV (x27:Int) (R:Int->Option (Int⊕Unit)) (x33:Bool):Option (Int⊕Unit):=
 bif x33 then
 some (Sum.inl 19)
 else
 R (w64 (x27+1))
def jC (a1:qI):Nat->Int->Option (Int⊕Unit)
 |0,_=>none
 |n+1,x27=>
 bif decide (x27<((a1.Rows.length:Nat):Int)) then
 bif inb x27 a1.Rows.length then
 (ZE (a1.Rows.getD x27.toNat default)).bind λv30=>
 bif v30 then
 GV x27 (jC a1 n) (!((((a1.Rows.getD x27.toNat default).A)==0)&&((((a1.Rows.getD x27.toNat default).B)==0)&&true)))
 else
 GV x27 (jC a1 n) false
 else none
 else
 some (Sum.inr ())
def GR (a1:qI) (x25:Bool):Option Int:=
 bif x25 then
 some 19
 else
 (jC a1 FUEL 0).bind λu37=>Sum.elim (λv38=>some v38) (λo35=>
 some 0) u37
def VI (a1:qI) (x4:Bool):Option Int:=
 bif x4 then
 some 9
 else
 (QI a1 FUEL 0).bind λu14=>Sum.elim (λv15=>some v15) (λo12=>
 bif ((a1.Rows.length:Nat):Int)==0 then
 bif a1.Low !=0 then
 some 19
 else
 some 0
 else
 bif inb 0 a1.Rows.length then
 (ZE (a1.Rows.getD (0:Int).toNat default)).bind λv19=>
 bif v19 then
 GR a1 true
 else
 bif inb (w64 (((a1.Rows.length:Nat):Int)-1)) a1.Rows.length then
 (ZE (a1.Rows.getD (w64 (((a1.Rows.length:Nat):Int)-1)).toNat default)).bind λv23=>
 GR a1 v23
 else none
 else none) u14
def PM (a1:qI):Option Int:=
 bif decide (((a1.Rows.length:Nat):Int)>120) then
 some 4
 else
 bif decide (a1.Low<(-60)) then
 VI a1 true
 else
 VI a1 (decide (a1.Low>(w64 (60-((a1.Rows.length:Nat):Int)))))
/- sawmill/solid.Check -/
def LH (a1:List qB) (x4:Int) (x5:Int) (R:Int->Int->Option (Int⊕Unit)) (x13:Bool):Option (Int⊕Unit):=
 bif x13 then
 some (Sum.inl 9)
 else
 R (w64 (x4+((a1.getD x5.toNat default).Len))) (w64 (x5+1))
def yG (a1:List qB):Nat->Int->Int->Option (Int⊕Unit)
 |0,_,_=>none
 |n+1,x4,x5=>
 bif decide (x5<((a1.length:Nat):Int)) then
 bif inb x5 a1.length then
 (PM ((a1.getD x5.toNat default).Sec)).bind λv8=>
 bif v8 !=0 then
 some (Sum.inl v8)
 else
 bif (((((a1.getD x5.toNat default).Sec).Rows).length:Nat):Int)==0 then
 some (Sum.inl 18)
 else
 bif decide (((a1.getD x5.toNat default).Len)<1) then
 LH a1 x4 x5 (yG a1 n) true
 else
 LH a1 x4 x5 (yG a1 n) (decide (((a1.getD x5.toNat default).Len)>(w64 (20000-x4))))
 else none
 else
 some (Sum.inr ())
def JG (a1:List qB):Option Int:=
 bif ((a1.length:Nat):Int)==0 then
 some 3
 else
 bif decide (((a1.length:Nat):Int)>24) then
 some 4
 else
 (yG a1 FUEL 0 0).bind λu17=>Sum.elim (λv18=>some v18) (λo15=>
 some 0) u17
/- sawmill/defect.isEmpty -/
def yH (a1:Span):Option Bool:=
 some (decide (a1.A≥a1.B))
/- sawmill/defect.inside -/
def GU (x5:Bool):Option Bool:=
 some x5
def YV (a1:Span) (a2:Int) (a3:Int):Option Bool:=
 bif decide ((imin a1.A a1.B)≥a2) then
 GU (decide ((imax a1.A a1.B)<=a3))
 else
 GU false
/- sawmill/defect.check -/
def RU (x23:Bool):Option Int:=
 bif x23 then
 some 9
 else
 some 0
def PX (a1:Defect) (x13:Bool):Option Int:=
 bif x13 then
 some 19
 else
 (YV a1.Box.X (-600) 600).bind λv15=>
 bif !v15 then
 RU true
 else
 (YV a1.Box.Y (-600) 600).bind λv18=>
 bif !v18 then
 RU true
 else
 (YV a1.Box.Z 0 20000).bind λv21=>
 RU (!v21)
def BP (a1:Defect) (x3:Bool):Option Int:=
 bif x3 then
 some 10
 else
 (yH a1.Box.X).bind λv5=>
 bif v5 then
 PX a1 true
 else
 (yH a1.Box.Y).bind λv8=>
 bif v8 then
 PX a1 true
 else
 (yH a1.Box.Z).bind λv11=>
 PX a1 v11
def NV (a1:Defect):Option Int:=
 bif decide (a1.Kind<1) then
 BP a1 true
 else
 BP a1 (decide (a1.Kind>6))
/- sawmill/defect.Check -/
def ZC (a1:List Defect):Nat->Int->Option (Int⊕Unit)
 |0,_=>none
 |n+1,x3=>
 bif decide (x3<((a1.length:Nat):Int)) then
 bif inb x3 a1.length then
 (NV (a1.getD x3.toNat default)).bind λv6=>
 bif v6 !=0 then
 some (Sum.inl v6)
 else
 (ZC a1 n) (w64 (x3+1))
 else none
 else
 some (Sum.inr ())
def JX (a1:List Defect):Option Int:=
 bif decide (((a1.length:Nat):Int)>64) then
 some 4
 else
 (ZC a1 FUEL 0).bind λu11=>Sum.elim (λv12=>some v12) (λo9=>
 some 0) u11
/- sawmill/ident.isSmall -/
def GC (x3:Bool):Option Bool:=
 some x3
def PN (a1:Int):Option Bool:=
 bif decide (97<=a1) then
 GC (decide (a1<=122))
 else
 GC false
/- sawmill/ident.isDigit -/
def VG (x3:Bool):Option Bool:=
 some x3
def DF (a1:Int):Option Bool:=
 bif decide (48<=a1) then
 VG (decide (a1<=57))
 else
 VG false
/- sawmill/ident.IsName -/
def RZ (x9:Int) (R:Int->Option (Bool⊕Unit)) (x18:Bool):Option (Bool⊕Unit):=
 bif x18 then
 some (Sum.inl false)
 else
 R (w64 (x9+1))
def wU (a1:ByteArray):Nat->Int->Option (Bool⊕Unit)
 |0,_=>none
 |n+1,x9=>
 bif decide (x9<((a1.size:Nat):Int)) then
 bif inb x9 a1.size then
 (PN (strAt a1 x9.toNat)).bind λv12=>
 bif !v12 then
 (DF (strAt a1 x9.toNat)).bind λv15=>
 bif !v15 then
 RZ x9 (wU a1 n) ((strAt a1 x9.toNat) !=95)
 else
 RZ x9 (wU a1 n) false
 else
 RZ x9 (wU a1 n) false
 else none
 else
 some (Sum.inr ())
def PU (a1:ByteArray) (x7:Bool):Option Bool:=
 bif x7 then
 some false
 else
 (wU a1 FUEL 1).bind λu22=>Sum.elim (λv23=>some v23) (λo20=>
 some true) u22
def NX (a1:ByteArray):Option Bool:=
 bif decide (((a1.size:Nat):Int)<1) then
 PU a1 true
 else
 bif decide (((a1.size:Nat):Int)>16) then
 PU a1 true
 else
 bif inb 0 a1.size then
 (PN (strAt a1 ((0:Int).toNat))).bind λv5=>
 PU a1 (!v5)
 else none
/- sawmill/product.Find -/
def ZG (a1:List Product) (a2:ByteArray):Nat->Int->Option ((Int×Bool)⊕Unit)
 |0,_=>none
 |n+1,x3=>
 bif decide (x3<((a1.length:Nat):Int)) then
 bif inb x3 a1.length then
 bif strEq ((a1.getD x3.toNat default).Name) a2 then
 some (Sum.inl (x3,true))
 else
 (ZG a1 a2 n) (w64 (x3+1))
 else none
 else
 some (Sum.inr ())
def NY (a1:List Product) (a2:ByteArray):Option (Int×Bool):=
 (ZG a1 a2 FUEL 0).bind λu9=>Sum.elim (λv10=>some v10) (λo7=>
 some (0,false)) u9
/- sawmill/product.isSize -/
def TU (x3:Bool):Option Bool:=
 some x3
def KA (a1:Int):Option Bool:=
 bif decide (a1≥1) then
 TU (decide (a1<=600))
 else
 TU false
/- sawmill/product.grow -/
def BX (a1:Int) (a2:Int):Option Int:=
 some (w64 (Int.tdiv (w64 ((w64 (a1*(w64 (1000+a2))))+999)) 1000))
/- sawmill/product.Green -/
def WZ (a1:Product) (x9:Bool):Option (Int×Int):=
 bif x9 then
 some (0,0)
 else
 (BX a1.Thick a1.Allow).bind λv11=>
 (BX a1.Width a1.Allow).bind λv13=>
 some (v11,v13)
def QE (a1:Product):Option (Int×Int):=
 (KA a1.Thick).bind λv2=>
 bif !v2 then
 WZ a1 true
 else
 (KA a1.Width).bind λv5=>
 bif !v5 then
 WZ a1 true
 else
 bif decide (a1.Allow<0) then
 WZ a1 true
 else
 WZ a1 (decide (a1.Allow>200))
/- sawmill/product.checkNumbers -/
def WG (x18:Int) (R:Int->Option (Int⊕Unit)) (x26:Bool):Option (Int⊕Unit):=
 bif x26 then
 some (Sum.inl 11)
 else
 R (w64 (x18+1))
def WF (a1:Product) (x18:Int) (R:Int->Option (Int⊕Unit)) (x22:Bool):Option (Int⊕Unit):=
 bif x22 then
 some (Sum.inl 9)
 else
 bif decide (x18>0) then
 bif inb (w64 (x18-1)) a1.Lengths.length then
 WG x18 R (decide ((a1.Lengths.getD x18.toNat default)<=(a1.Lengths.getD (w64 (x18-1)).toNat default)))
 else none
 else
 WG x18 R false
def zG (a1:Product):Nat->Int->Option (Int⊕Unit)
 |0,_=>none
 |n+1,x18=>
 bif decide (x18<((a1.Lengths.length:Nat):Int)) then
 bif inb x18 a1.Lengths.length then
 bif decide ((a1.Lengths.getD x18.toNat default)<100) then
 WF a1 x18 (zG a1 n) true
 else
 WF a1 x18 (zG a1 n) (decide ((a1.Lengths.getD x18.toNat default)>20000))
 else none
 else
 some (Sum.inr ())
def WI (x32:Int) (R:Int->Option (Int⊕Unit)) (x36:Bool):Option (Int⊕Unit):=
 bif x36 then
 some (Sum.inl 9)
 else
 R (w64 (x32+1))
def zM (a1:Product):Nat->Int->Option (Int⊕Unit)
 |0,_=>none
 |n+1,x32=>
 bif decide (x32<((a1.Prices.length:Nat):Int)) then
 bif inb x32 a1.Prices.length then
 bif decide ((a1.Prices.getD x32.toNat default)<0) then
 WI x32 (zM a1 n) true
 else
 WI x32 (zM a1 n) (decide ((a1.Prices.getD x32.toNat default)>1000000))
 else none
 else
 some (Sum.inr ())
def wX (a1:Product) (x10:Bool):Option Int:=
 bif x10 then
 some 9
 else
 (QE a1).bind λv12=>
 bif decide (v12.2>600) then
 some 9
 else
 bif ((a1.Lengths.length:Nat):Int)==0 then
 some 3
 else
 bif decide (((a1.Lengths.length:Nat):Int)>8) then
 some 4
 else
 bif ((a1.Prices.length:Nat):Int) !=((a1.Lengths.length:Nat):Int) then
 some 19
 else
 (zG a1 FUEL 0).bind λu30=>Sum.elim (λv31=>some v31) (λo28=>
 (zM a1 FUEL 0).bind λu40=>Sum.elim (λv41=>some v41) (λo38=>
 some 0) u40) u30
def wY (a1:Product) (x5:Bool):Option Int:=
 bif x5 then
 some 9
 else
 bif decide (a1.Allow<0) then
 wX a1 true
 else
 bif decide (a1.Allow>200) then
 wX a1 true
 else
 bif decide (a1.Wane<0) then
 wX a1 true
 else
 wX a1 (decide (a1.Wane>1000))
def ZQ (a1:Product):Option Int:=
 bif decide (a1.Thick<5) then
 wY a1 true
 else
 bif decide (a1.Thick>300) then
 wY a1 true
 else
 bif decide (a1.Width<a1.Thick) then
 wY a1 true
 else
 wY a1 (decide (a1.Width>600))
/- sawmill/product.Check -/
def QK (a1:List Product):Nat->Int->Option (Int⊕Unit)
 |0,_=>none
 |n+1,x3=>
 bif decide (x3<((a1.length:Nat):Int)) then
 bif inb x3 a1.length then
 (NX ((a1.getD x3.toNat default).Name)).bind λv6=>
 bif !v6 then
 some (Sum.inl 6)
 else
 bif slOk 0 x3 a1.length then
 (NY (a1.take x3.toNat) ((a1.getD x3.toNat default).Name)).bind λv10=>
 bif v10.2 then
 some (Sum.inl 7)
 else
 (ZQ (a1.getD x3.toNat default)).bind λv13=>
 bif v13 !=0 then
 some (Sum.inl v13)
 else
 (QK a1 n) (w64 (x3+1))
 else none
 else none
 else
 some (Sum.inr ())
def jH (a1:List Product):Option Int:=
 bif decide (((a1.length:Nat):Int)>16) then
 some 4
 else
 (QK a1 FUEL 0).bind λu18=>Sum.elim (λv19=>some v19) (λo16=>
 some 0) u18
/- sawmill/worth.isStep -/
def BB (x3:Bool):Option Bool:=
 some x3
def UR (a1:Int):Option Bool:=
 bif decide (a1≥1) then
 BB (decide (a1<=20000))
 else
 BB false
/- sawmill/worth.isFine -/
def BU (x3:Bool):Option Bool:=
 some x3
def TW (a1:Int):Option Bool:=
 bif decide (a1≥0) then
 BU (decide (a1<=1000000))
 else
 BU false
/- sawmill/worth.Check -/
def JB (x20:Bool):Option Int:=
 bif x20 then
 some 9
 else
 some 0
def UJ (a2:Rates) (x12:Bool):Option Int:=
 bif x12 then
 some 9
 else
 bif decide (a2.Chip<0) then
 JB true
 else
 bif decide (a2.Chip>1000) then
 JB true
 else
 bif decide (a2.Dust<0) then
 JB true
 else
 bif decide (a2.Dust>1000) then
 JB true
 else
 (TW a2.Fine).bind λv18=>
 JB (!v18)
def XU (a1:Saw) (a2:Rates) (x6:Bool):Option Int:=
 bif x6 then
 some 9
 else
 bif decide (a1.Pitch<1) then
 UJ a2 true
 else
 bif decide (a1.Pitch>2000) then
 UJ a2 true
 else
 (UR a1.Step).bind λv10=>
 UJ a2 (!v10)
def XR (a1:Saw) (a2:Rates):Option Int:=
 bif decide (a1.Kerf<0) then
 XU a1 a2 true
 else
 bif decide (a1.Kerf>20) then
 XU a1 a2 true
 else
 bif decide (a1.Trim<0) then
 XU a1 a2 true
 else
 XU a1 a2 (decide (a1.Trim>20))
/- sawmill/plan.checkFrame -/
def NT (x5:Int) (R:Int->Option (Int⊕Unit)) (x9:Bool):Option (Int⊕Unit):=
 bif x9 then
 some (Sum.inl 9)
 else
 R (w64 (x5+1))
def zE (a1:Rect):Nat->Int->Option (Int⊕Unit)
 |0,_=>none
 |n+1,x5=>
 bif decide (x5<4) then
 bif inb x5 4 then
 bif decide ((([a1.X.A,a1.X.B,a1.Y.A,a1.Y.B]:List Int).getD x5.toNat 0)<(-600)) then
 NT x5 (zE a1 n) true
 else
 NT x5 (zE a1 n) (decide ((([a1.X.A,a1.X.B,a1.Y.A,a1.Y.B]:List Int).getD x5.toNat 0)>600))
 else none
 else
 some (Sum.inr ())
def RS (a1:Rect) (x3:Bool):Option Int:=
 bif x3 then
 some 19
 else
 (zE a1 FUEL 0).bind λu13=>Sum.elim (λv14=>some v14) (λo11=>
 some 0) u13
def yO (a1:Rect):Option Int:=
 bif decide (a1.X.A≥a1.X.B) then
 RS a1 true
 else
 RS a1 (decide (a1.Y.A≥a1.Y.B))
/- sawmill/plan.check -/
def VN (a1:List qB) (a2:List Defect) (a3:List Product) (a4:Rect) (a5:Saw) (a6:Rates):Option Int:=
 (JG a1).bind λv7=>
 bif v7 !=0 then
 some v7
 else
 (JX a2).bind λv10=>
 bif v10 !=0 then
 some v10
 else
 (jH a3).bind λv13=>
 bif v13 !=0 then
 some v13
 else
 (XR a5 a6).bind λv16=>
 bif v16 !=0 then
 some v16
 else
 (yO a4).bind λv19=>
 some v19
/- slices.Sort[[]int,int] -/
def GQ (a1:List Int):Option (List Int):=
 bif Nat.blt a1.length 4611686018427387904 then some (TQ (λx y=>decide (x<=y)) a1) else none
/- slices.Compact[[]int,int] -/
def JH (x12:Int) (R:(List Int)->Int->Int->Option ((List Int)×Int)) (l19:List Int) (x20:Int):Option ((List Int)×Int):=
 R l19 x20 (w64 (x12+1))
def wD (l3:List Int) (x4:Int):Nat->(List Int)->Int->Int->Option ((List Int)×Int)
 |0,_,_,_=>none
 |n+1,l10,x11,x12=>
 bif decide (x12<(((l3.length-x4.toNat):Nat):Int)) then
 bif inb x12 (l3.length-x4.toNat) then
 bif Nat.ble (x4.toNat+(l3.length-x4.toNat)) l10.length then
 bif inb (w64 (x12-1)) (l3.length-x4.toNat) then
 bif (l10.getD (x4.toNat+x12.toNat) default) !=(l10.getD (x4.toNat+((w64 (x12-1)).toNat)) default) then
 bif inb x11 l10.length then
 JH x12 (wD l3 x4 n) (l10.set x11.toNat (l10.getD (x4.toNat+x12.toNat) default)) (w64 (x11+1))
 else none
 else
 JH x12 (wD l3 x4 n) l10 x11
 else none
 else none
 else none
 else
 some (l10,x11)
def jN :Nat->(List Int)->Int->Option (((List Int)×(List Int))⊕(List Int))
 |0,_,_=>none
 |n+1,l3,x4=>
 bif decide (x4<((l3.length:Nat):Int)) then
 bif inb x4 l3.length then
 bif inb (w64 (x4-1)) l3.length then
 bif (l3.getD x4.toNat default)==(l3.getD ((w64 (x4-1)).toNat) default) then
 bif slOk x4 ((l3.length:Nat):Int) l3.length then
 (wD l3 x4 FUEL l3 x4 1).bind λo23=>
 bif slOk o23.2 ((o23.1.length:Nat):Int) o23.1.length then
 bif slOk 0 o23.2 o23.1.length then
 some (Sum.inl ((o23.1.take o23.2.toNat),(o23.1.take o23.2.toNat)))
 else none
 else none
 else none
 else
 (jN n) l3 (w64 (x4+1))
 else none
 else none
 else
 some (Sum.inr l3)
def WK (a1:List Int):Option ((List Int)×(List Int)):=
 bif decide (((a1.length:Nat):Int)<2) then
 some (a1,a1)
 else
 (jN FUEL a1 1).bind λu30=>Sum.elim (λv31=>some v31) (λo28=>
 some (o28,o28)) u30
/- sawmill/plan.Heights -/
def YP (a1:List Product):Nat->(List Int)->Int->Option (List Int)
 |0,_,_=>none
 |n+1,l5,x6=>
 bif decide (x6<((a1.length:Nat):Int)) then
 bif inb x6 a1.length then
 (QE (a1.getD x6.toNat default)).bind λv9=>
 bif room (l5.length+2) 8 then
 (YP a1 n) (l5++([v9.1,v9.2]:List Int)) (w64 (x6+1))
 else none
 else none
 else
 some l5
def JZ (a1:List Product):Option (List Int):=
 (jH a1).bind λv2=>
 bif v2 !=0 then
 some ([]:List Int)
 else
 (YP a1 FUEL ([]:List Int) 0).bind λo13=>
 (GQ o13).bind λv15=>
 bif v15.length==o13.length then
 (WK v15).bind λv18=>
 some v18.2
 else none
/- sawmill/plan.strip -/
def GF (a1:Rect) (a2:Int) (a3:Int):Option Rect:=
 some (Rect.mk a1.X (Span.mk (w64 (a1.Y.A+a2)) (w64 (a1.Y.A+a3))))
/- sawmill/edge.check -/
def HR (x22:Int) (R:Int->Option (Int⊕Unit)) (x26:Bool):Option (Int⊕Unit):=
 bif x26 then
 some (Sum.inl 9)
 else
 R (w64 (x22+1))
def QD (a4:Rect):Nat->Int->Option (Int⊕Unit)
 |0,_=>none
 |n+1,x22=>
 bif decide (x22<4) then
 bif inb x22 4 then
 bif decide ((([a4.X.A,a4.X.B,a4.Y.A,a4.Y.B]:List Int).getD x22.toNat 0)<(-600)) then
 HR x22 (QD a4 n) true
 else
 HR x22 (QD a4 n) (decide ((([a4.X.A,a4.X.B,a4.Y.A,a4.Y.B]:List Int).getD x22.toNat 0)>600))
 else none
 else
 some (Sum.inr ())
def HU (a4:Rect) (x20:Bool):Option Int:=
 bif x20 then
 some 19
 else
 (QD a4 FUEL 0).bind λu30=>Sum.elim (λv31=>some v31) (λo28=>
 some 0) u30
def ET (a1:List qB) (a2:List Defect) (a3:List Product) (a4:Rect) (a5:Saw) (a6:Rates):Option Int:=
 (JG a1).bind λv7=>
 bif v7 !=0 then
 some v7
 else
 (JX a2).bind λv10=>
 bif v10 !=0 then
 some v10
 else
 (jH a3).bind λv13=>
 bif v13 !=0 then
 some v13
 else
 (XR a5 a6).bind λv16=>
 bif v16 !=0 then
 some v16
 else
 bif decide (a4.X.A≥a4.X.B) then
 HU a4 true
 else
 HU a4 (decide (a4.Y.A≥a4.Y.B))
/- sawmill/edge.Sizes -/
def HM (x8:Int) (R:(List Int)->(List Int)->Int->Option ((List Int)×(List Int))) (l19:List Int) (l20:List Int):Option ((List Int)×(List Int)):=
 R l19 l20 (w64 (x8+1))
def HN (l7:List Int) (x8:Int) (R:(List Int)->(List Int)->Int->Option ((List Int)×(List Int))) (l17:List Int):Option ((List Int)×(List Int)):=
 bif room (l7.length+1) 8 then
 HM x8 R l17 (l7++([x8]:List Int))
 else none
def jJ (a1:List Product) (a2:Int):Nat->(List Int)->(List Int)->Int->Option ((List Int)×(List Int))
 |0,_,_,_=>none
 |n+1,l6,l7,x8=>
 bif decide (x8<((a1.length:Nat):Int)) then
 bif inb x8 a1.length then
 (QE (a1.getD x8.toNat default)).bind λv11=>
 bif a2==v11.1 then
 bif room (l6.length+1) 8 then
 HN l7 x8 (jJ a1 a2 n) (l6++([v11.2]:List Int))
 else none
 else
 bif a2==v11.2 then
 bif room (l6.length+1) 8 then
 HN l7 x8 (jJ a1 a2 n) (l6++([v11.1]:List Int))
 else none
 else
 HM x8 (jJ a1 a2 n) l6 l7
 else none
 else
 some (l6,l7)
def GD (a1:List Product) (a2:Int):Option ((List Int)×(List Int)):=
 (jH a1).bind λv3=>
 bif v3 !=0 then
 some (([]:List Int),([]:List Int))
 else
 (jJ a1 a2 FUEL ([]:List Int) ([]:List Int) 0).bind λo23=>
 some (o23.1,o23.2)
/- sawmill/edge.part -/
def NW (a1:Rect) (a2:Int) (a3:Int):Option Rect:=
 some (Rect.mk (Span.mk (w64 (a1.X.A+a2)) (w64 (a1.X.A+a3))) a1.Y)
/- sawmill/worth.isRect -/
def yS (x2:Int) (R:Int->Option (Bool⊕Unit)) (x7:Bool):Option (Bool⊕Unit):=
 bif x7 then
 some (Sum.inl false)
 else
 R (w64 (x2+1))
def wH (a1:Rect):Nat->Int->Option (Bool⊕Unit)
 |0,_=>none
 |n+1,x2=>
 bif decide (x2<2) then
 bif inb x2 2 then
 bif decide ((([a1.X.A,a1.X.B,a1.Y.A,a1.Y.B]:List Int).getD (x2.toNat*2+0) 0)<(-600)) then
 yS x2 (wH a1 n) true
 else
 bif decide ((([a1.X.A,a1.X.B,a1.Y.A,a1.Y.B]:List Int).getD (x2.toNat*2+1) 0)>600) then
 yS x2 (wH a1 n) true
 else
 yS x2 (wH a1 n) (decide ((([a1.X.A,a1.X.B,a1.Y.A,a1.Y.B]:List Int).getD (x2.toNat*2+0) 0)≥(([a1.X.A,a1.X.B,a1.Y.A,a1.Y.B]:List Int).getD (x2.toNat*2+1) 0)))
 else none
 else
 some (Sum.inr ())
def BZ (a1:Rect):Option Bool:=
 (wH a1 FUEL 0).bind λu11=>Sum.elim (λv12=>some v12) (λo9=>
 some true) u11
/- sawmill/solid.valid -/
def XO (a1:List qB):Option (List qB):=
 (JG a1).bind λv2=>
 bif v2 !=0 then
 some ([]:List qB)
 else
 some a1
/- sawmill/solid.Length -/
def ZM (v2:(List qB)):Nat->Int->Int->Option Int
 |0,_,_=>none
 |n+1,x4,x5=>
 bif decide (x5<((v2.length:Nat):Int)) then
 bif inb x5 v2.length then
 (ZM v2 n) (w64 (x4+((v2.getD x5.toNat default).Len))) (w64 (x5+1))
 else none
 else
 some x4
def ZT (a1:List qB):Option Int:=
 (XO a1).bind λv2=>
 (ZM v2 FUEL 0 0).bind λo9=>
 some o9
/- sawmill/section.valid -/
def YU (a1:qI):Option qI:=
 (PM a1).bind λv2=>
 bif v2 !=0 then
 some (qI.mk 0 ([]:List Span))
 else
 some a1
/- sawmill/section.heights -/
def YL (a1:Int) (a2:Int):Option Span:=
 some (Span.mk (w64 (10*a1)) (w64 (10*a2)))
/- sawmill/span.Meet -/
def XQ (a1:Span) (a2:Span):Option Span:=
 bif decide ((imax a1.A a2.A)≥(imin a1.B a2.B)) then
 some (Span.mk 0 0)
 else
 some (Span.mk (imax a1.A a2.A) (imin a1.B a2.B))
/- sawmill/span.size -/
def qCK (a1:Span):Option Int:=
 bif decide (a1.A≥a1.B) then
 some 0
 else
 some (IntKind.u64.wrap ((IntKind.u64.wrap (a1.B))-(IntKind.u64.wrap (a1.A))))
/- sawmill/span.limited -/
def EY (a1:Int):Option Int:=
 some (w64 (imin a1 9223372036854775807))
/- sawmill/span.Len -/
def YY (a1:Span):Option Int:=
 (qCK a1).bind λv2=>
 (EY v2).bind λv4=>
 some v4
/- sawmill/section.Within -/
def ZW (a2:Rect) (v3:qI):Nat->Int->Int->Option Int
 |0,_,_=>none
 |n+1,x5,x6=>
 bif decide (x6<((v3.Rows.length:Nat):Int)) then
 bif inb x6 v3.Rows.length then
 (YL (w64 (v3.Low+x6)) (w64 ((w64 (v3.Low+x6))+1))).bind λv9=>
 (XQ (v3.Rows.getD x6.toNat default) a2.X).bind λv11=>
 (YY v11).bind λv13=>
 (XQ v9 a2.Y).bind λv15=>
 (YY v15).bind λv17=>
 (ZW a2 v3 n) (w64 (x5+(w64 (v13*v17)))) (w64 (x6+1))
 else none
 else
 some x5
def KC (a1:qI) (a2:Rect):Option Int:=
 (YU a1).bind λv3=>
 (ZW a2 v3 FUEL 0 0).bind λo20=>
 some o20
/- sawmill/worth.lacks -/
def XY (a1:List qB) (a2:Rect):Nat->(List Worth_zone)->Int->Int->Option (List Worth_zone)
 |0,_,_,_=>none
 |n+1,l3,x4,x5=>
 bif decide (x5<((a1.length:Nat):Int)) then
 bif inb x5 a1.length then
 (KC ((a1.getD x5.toNat default).Sec) a2).bind λv8=>
 bif nz (w64 ((w64 (a2.X.B-a2.X.A))*(w64 (a2.Y.B-a2.Y.A)))) then
 bif room (l3.length+1) 24 then
 (XY a1 a2 n) (l3++([(Worth_zone.mk (Span.mk x4 (w64 (x4+((a1.getD x5.toNat default).Len)))) (w64 (Int.tdiv (w64 ((w64 ((w64 (1000*(w64 ((w64 ((w64 (a2.X.B-a2.X.A))*(w64 (a2.Y.B-a2.Y.A))))-v8))))+(w64 ((w64 (a2.X.B-a2.X.A))*(w64 (a2.Y.B-a2.Y.A))))))-1)) (w64 ((w64 (a2.X.B-a2.X.A))*(w64 (a2.Y.B-a2.Y.A)))))))]:List Worth_zone)) (w64 (x4+((a1.getD x5.toNat default).Len))) (w64 (x5+1))
 else none
 else none
 else none
 else
 some l3
def MX (a1:List qB) (a2:Rect):Option (List Worth_zone):=
 (XY a1 a2 FUEL ([]:List Worth_zone) 0 0).bind λo13=>
 some o13
/- (sawmill/worth.view).box -/
def KD (a1:Worth_view) (a2:Span):Option Box:=
 some (Box.mk a1.rect.X a1.rect.Y a2)
/- sawmill/defect.meet -/
def UG (v3:Span) (v5:Span) (v7:Span) (x17:Bool):Option (Box×Bool):=
 bif x17 then
 some ((Box.mk (Span.mk 0 0) (Span.mk 0 0) (Span.mk 0 0)),false)
 else
 some ((Box.mk v3 v5 v7),true)
def CQ (a1:Box) (a2:Box):Option (Box×Bool):=
 (XQ a1.X a2.X).bind λv3=>
 (XQ a1.Y a2.Y).bind λv5=>
 (XQ a1.Z a2.Z).bind λv7=>
 (yH v3).bind λv9=>
 bif v9 then
 UG v3 v5 v7 true
 else
 (yH v5).bind λv12=>
 bif v12 then
 UG v3 v5 v7 true
 else
 (yH v7).bind λv15=>
 UG v3 v5 v7 v15
/- sawmill/defect.Touches -/
def XX (a1:Defect) (a2:Box):Option Bool:=
 (CQ a1.Box a2).bind λv3=>
 some v3.2
/- sawmill/worth.look -/
def HO (x29:Int) (R:Int->(List Defect)->Option (List Defect)) (l37:List Defect):Option (List Defect):=
 R (w64 (x29+1)) l37
def ZY (a2:List Defect) (v27:Box):Nat->Int->(List Defect)->Option (List Defect)
 |0,_,_=>none
 |n+1,x29,l30=>
 bif decide (x29<((a2.length:Nat):Int)) then
 bif inb x29 a2.length then
 (XX (a2.getD x29.toNat default) v27).bind λv33=>
 bif v33 then
 bif room (l30.length+1) 56 then
 HO x29 (ZY a2 v27 n) (l30++([(a2.getD x29.toNat default)]:List Defect))
 else none
 else
 HO x29 (ZY a2 v27 n) l30
 else none
 else
 some l30
def GZ (a1:List qB) (a2:List Defect) (a3:Product) (a4:Rect) (x21:Bool):Option (Worth_view×Bool):=
 bif x21 then
 some ((Worth_view.mk (Product.mk (ByteArray.mk #[]) 0 0 0 0 ([]:List Int) ([]:List Int)) (Rect.mk (Span.mk 0 0) (Span.mk 0 0)) 0 ([]:List Worth_zone) ([]:List Defect)),false)
 else
 (ZT a1).bind λv23=>
 (MX a1 a4).bind λv25=>
 (KD (Worth_view.mk a3 a4 v23 v25 ([]:List Defect)) (Span.mk 0 v23)).bind λv27=>
 (ZY a2 v27 FUEL 0 ([]:List Defect)).bind λo39=>
 some ((Worth_view.mk a3 a4 v23 v25 o39),true)
def PH (a1:List qB) (a2:List Defect) (a3:Product) (a4:Rect) (x16:Bool):Option (Worth_view×Bool):=
 bif x16 then
 some ((Worth_view.mk (Product.mk (ByteArray.mk #[]) 0 0 0 0 ([]:List Int) ([]:List Int)) (Rect.mk (Span.mk 0 0) (Span.mk 0 0)) 0 ([]:List Worth_zone) ([]:List Defect)),false)
 else
 (QE a3).bind λv18=>
 bif !(((w64 (a4.X.B-a4.X.A))==v18.1)&&(((w64 (a4.Y.B-a4.Y.A))==v18.2)&&true)) then
 GZ a1 a2 a3 a4 (!(((w64 (a4.X.B-a4.X.A))==v18.2)&&(((w64 (a4.Y.B-a4.Y.A))==v18.1)&&true)))
 else
 GZ a1 a2 a3 a4 false
def IF (a1:List qB) (a2:List Defect) (a3:Product) (a4:Rect):Option (Worth_view×Bool):=
 (JG a1).bind λv5=>
 bif v5 !=0 then
 PH a1 a2 a3 a4 true
 else
 (JX a2).bind λv8=>
 bif v8 !=0 then
 PH a1 a2 a3 a4 true
 else
 (jH ([a3]:List Product)).bind λv11=>
 bif v11 !=0 then
 PH a1 a2 a3 a4 true
 else
 (BZ a4).bind λv14=>
 PH a1 a2 a3 a4 (!v14)
/- sawmill/worth.isWithin -/
def XA (x5:Bool):Option Bool:=
 some x5
def LC (a1:Span) (a2:Int):Option Bool:=
 bif decide (a1.A≥0) then
 bif decide (a1.A<a1.B) then
 XA (decide (a1.B<=a2))
 else
 XA false
 else
 XA false
/- sawmill/product.Price -/
def QJ (a1:Product) (a2:Int):Nat->Int->Option ((Int×Bool)⊕Unit)
 |0,_=>none
 |n+1,x3=>
 bif decide (x3<((a1.Lengths.length:Nat):Int)) then
 bif inb x3 a1.Lengths.length then
 bif (a1.Lengths.getD x3.toNat default) !=a2 then
 (QJ a1 a2 n) (w64 (x3+1))
 else
 bif decide (x3≥((a1.Prices.length:Nat):Int)) then
 some (Sum.inl (0,false))
 else
 bif inb x3 a1.Prices.length then
 some (Sum.inl ((a1.Prices.getD x3.toNat default),true))
 else none
 else none
 else
 some (Sum.inr ())
def DA (a1:Product) (a2:Int):Option (Int×Bool):=
 (QJ a1 a2 FUEL 0).bind λu11=>Sum.elim (λv12=>some v12) (λo9=>
 some (0,false)) u11
/- sawmill/worth.worst -/
def LO (x4:Int) (R:Int->Int->Option Int) (x10:Int):Option Int:=
 R x10 (w64 (x4+1))
def LU (a1:List Worth_zone) (x3:Int) (x4:Int) (R:Int->Int->Option Int) (x8:Bool):Option Int:=
 bif x8 then
 LO x4 R (imax x3 ((a1.getD x4.toNat default).lack))
 else
 LO x4 R x3
def yF (a1:List Worth_zone) (a2:Span):Nat->Int->Int->Option Int
 |0,_,_=>none
 |n+1,x3,x4=>
 bif decide (x4<((a1.length:Nat):Int)) then
 bif inb x4 a1.length then
 bif decide ((((a1.getD x4.toNat default).z).A)<a2.B) then
 LU a1 x3 x4 (yF a1 a2 n) (decide (a2.A<(((a1.getD x4.toNat default).z).B)))
 else
 LU a1 x3 x4 (yF a1 a2 n) false
 else none
 else
 some x3
def HH (a1:List Worth_zone) (a2:Span):Option Int:=
 (yF a1 a2 FUEL 0 0).bind λo12=>
 some o12
/- (sawmill/worth.view).worth -/
def PA (x17:Int) (R:Int->Int->Option ((Int×Bool)⊕Int)) (x24:Int):Option ((Int×Bool)⊕Int):=
 R x24 (w64 (x17+1))
def zJ (a1:Worth_view) (a3:Int) (v14:Box):Nat->Int->Int->Option ((Int×Bool)⊕Int)
 |0,_,_=>none
 |n+1,x16,x17=>
 bif decide (x17<((a1.defects.length:Nat):Int)) then
 bif inb x17 a1.defects.length then
 (XX (a1.defects.getD x17.toNat default) v14).bind λv20=>
 bif !v20 then
 PA x17 (zJ a1 a3 v14 n) x16
 else
 bif ((a1.defects.getD x17.toNat default).Kind)==3 then
 some (Sum.inl (0,false))
 else
 PA x17 (zJ a1 a3 v14 n) (w64 (x16-a3))
 else none
 else
 some (Sum.inr x16)
def KZ (a1:Worth_view) (a2:Span) (a3:Int) (v7:Int×Bool) (x12:Bool):Option (Int×Bool):=
 bif x12 then
 some (0,false)
 else
 (KD a1 a2).bind λv14=>
 (zJ a1 a3 v14 FUEL v7.1 0).bind λu28=>Sum.elim (λv29=>some v29) (λo26=>
 some (imax o26 0,true)) u28
def WW (a1:Worth_view) (a2:Span) (a3:Int):Option (Int×Bool):=
 (LC a2 a1.length).bind λv4=>
 bif !v4 then
 some (0,false)
 else
 (DA a1.product (w64 (a2.B-a2.A))).bind λv7=>
 bif !v7.2 then
 KZ a1 a2 a3 v7 true
 else
 (HH a1.zones a2).bind λv10=>
 KZ a1 a2 a3 v7 (decide (v10>a1.product.Wane))
/- sawmill/worth.Best -/
def HP (x24:Int) (R:Int->Bool->Int->Span->Option (Int×Bool×Span)) (x34:Int) (x35:Bool) (x36:Span):Option (Int×Bool×Span):=
 R x34 x35 (w64 (x24+1)) x36
def DG (a3:Product) (x19:Int) (x22:Int) (x23:Bool) (x24:Int) (x25:Span) (R:Int->Bool->Int->Span->Option (Int×Bool×Span)) (v28:Int×Bool) (x32:Bool):Option (Int×Bool×Span):=
 bif x32 then
 HP x24 R v28.1 true (Span.mk x19 (w64 (x19+(a3.Lengths.getD x24.toNat default))))
 else
 HP x24 R x22 x23 x25
def jF (a3:Product) (a6:Int) (v14:Worth_view×Bool) (x19:Int):Nat->Int->Bool->Int->Span->Option (Int×Bool×Span)
 |0,_,_,_,_=>none
 |n+1,x22,x23,x24,x25=>
 bif decide (x24<((a3.Lengths.length:Nat):Int)) then
 bif inb x24 a3.Lengths.length then
 (WW (Worth_view.mk v14.1.product v14.1.rect v14.1.length v14.1.zones v14.1.defects) (Span.mk x19 (w64 (x19+(a3.Lengths.getD x24.toNat default)))) a6).bind λv28=>
 bif v28.2 then
 bif !x23 then
 DG a3 x19 x22 x23 x24 x25 (jF a3 a6 v14 x19 n) v28 true
 else
 DG a3 x19 x22 x23 x24 x25 (jF a3 a6 v14 x19 n) v28 (decide (v28.1>x22))
 else
 DG a3 x19 x22 x23 x24 x25 (jF a3 a6 v14 x19 n) v28 false
 else none
 else
 some (x22,x23,x25)
def YW (a3:Product) (a5:Int) (a6:Int) (v14:Worth_view×Bool):Nat->Int->Bool->Int->Span->Option (Int×Bool×Span)
 |0,_,_,_,_=>none
 |n+1,x17,x18,x19,x20=>
 bif decide (x19<v14.1.length) then
 (jF a3 a6 v14 x19 FUEL x17 x18 0 x20).bind λo40=>
 (YW a3 a5 a6 v14 n) o40.1 o40.2.1 (w64 (x19+a5)) o40.2.2
 else
 some (x17,x18,x20)
def HZ (a1:List qB) (a2:List Defect) (a3:Product) (a4:Rect) (a5:Int) (a6:Int) (x12:Bool):Option (Span×Int×Bool):=
 bif x12 then
 some ((Span.mk 0 0),0,false)
 else
 (IF a1 a2 a3 a4).bind λv14=>
 bif !v14.2 then
 some ((Span.mk 0 0),0,false)
 else
 (YW a3 a5 a6 v14 FUEL 0 false 0 (Span.mk 0 0)).bind λo45=>
 some (o45.2.2,o45.1,o45.2.1)
def LR (a1:List qB) (a2:List Defect) (a3:Product) (a4:Rect) (a5:Int) (a6:Int):Option (Span×Int×Bool):=
 (UR a5).bind λv7=>
 bif !v7 then
 HZ a1 a2 a3 a4 a5 a6 true
 else
 (TW a6).bind λv10=>
 HZ a1 a2 a3 a4 a5 a6 (!v10)
/- sawmill/solid.extents -/
def WY (a1:List qB):Nat->(List Span)->Int->Int->Option (List Span)
 |0,_,_,_=>none
 |n+1,l3,x4,x5=>
 bif decide (x5<((a1.length:Nat):Int)) then
 bif inb x5 a1.length then
 bif inb x5 l3.length then
 (WY a1 n) (l3.set x5.toNat (Span.mk x4 (w64 (x4+((a1.getD x5.toNat default).Len))))) (w64 (x4+((a1.getD x5.toNat default).Len))) (w64 (x5+1))
 else none
 else none
 else
 some l3
def GY (a1:List qB):Option (List Span):=
 bif mkOk ((a1.length:Nat):Int) 16 then
 (WY a1 FUEL (List.replicate (((a1.length:Nat):Int).toNat) (Span.mk 0 0)) 0 0).bind λo10=>
 some o10
 else none
/- sawmill/solid.Within -/
def BW (x8:Int) (R:Int->Int->Option Int) (x19:Int):Option Int:=
 R x19 (w64 (x8+1))
def yP (a2:Box) (v3:(List qB)) (v5:(List Span)):Nat->Int->Int->Option Int
 |0,_,_=>none
 |n+1,x7,x8=>
 bif decide (x8<((v5.length:Nat):Int)) then
 bif inb x8 v5.length then
 (XQ (v5.getD x8.toNat default) a2.Z).bind λv11=>
 (YY v11).bind λv13=>
 bif decide (v13>0) then
 bif inb x8 v3.length then
 (KC ((v3.getD x8.toNat default).Sec) (Rect.mk a2.X a2.Y)).bind λv17=>
 BW x8 (yP a2 v3 v5 n) (w64 (x7+(w64 (v13*v17))))
 else none
 else
 BW x8 (yP a2 v3 v5 n) x7
 else none
 else
 some x7
def yZ (a1:List qB) (a2:Box):Option Int:=
 (XO a1).bind λv3=>
 (GY v3).bind λv5=>
 (yP a2 v3 v5 FUEL 0 0).bind λo21=>
 some o21
/- sawmill/edge.volume -/
def JM (a1:List qB) (a2:Rect) (a3:Span):Option Int:=
 (yZ a1 (Box.mk a2.X a2.Y a3)).bind λv4=>
 some v4
/- sawmill/edge.gain -/
def qAt (a1:List qB) (a2:List Defect) (a3:Product) (a4:Rect) (a5:Saw) (a6:Rates):Option Int:=
 (LR a1 a2 a3 a4 a5.Step a6.Fine).bind λv7=>
 bif !v7.2.2 then
 some (-1)
 else
 (ZT a1).bind λv10=>
 (JM a1 a4 (Span.mk 0 v10)).bind λv12=>
 (JM a1 a4 v7.1).bind λv14=>
 (JM a1 a4 (Span.mk (imax 0 (w64 (v7.1.A-a5.Trim))) v7.1.A)).bind λv16=>
 (JM a1 a4 (Span.mk v7.1.B (imin (w64 (v7.1.B+a5.Trim)) v10))).bind λv18=>
 some (w64 ((w64 ((w64 (1000000*v7.2.1))+(w64 (a6.Dust*(w64 (v16+v18))))))+(w64 (a6.Chip*(w64 ((w64 (v12-v14))-(w64 (v16+v18))))))))
/- sawmill/edge.Line -/
def EV (l16:List Int) (x17:Int) (R:(List Int)->Int->Option (List Int)) (x27:Int):Option (List Int):=
 bif room (l16.length+1) 8 then
 R (l16++([x27]:List Int)) (w64 (x17+1))
 else none
def ZO (a1:List qB) (a2:List Defect) (a3:List Product) (a4:Rect) (a5:Saw) (a6:Rates) (v10:(List Int)×(List Int)) (x12:Int):Nat->(List Int)->Int->Option (List Int)
 |0,_,_=>none
 |n+1,l16,x17=>
 bif decide ((w64 (x17+(v10.1.getD x12.toNat default)))<=(w64 (a4.X.B-a4.X.A))) then
 bif nz a5.Pitch then
 bif (Int.tmod x17 a5.Pitch)==0 then
 bif inb x12 v10.2.length then
 bif inb (v10.2.getD x12.toNat default) a3.length then
 (NW a4 x17 (w64 (x17+(v10.1.getD x12.toNat default)))).bind λv23=>
 (qAt a1 a2 (a3.getD (v10.2.getD x12.toNat default).toNat default) v23 a5 a6).bind λv25=>
 EV l16 x17 (ZO a1 a2 a3 a4 a5 a6 v10 x12 n) v25
 else none
 else none
 else
 EV l16 x17 (ZO a1 a2 a3 a4 a5 a6 v10 x12 n) (-1)
 else none
 else
 some l16
def KO (a1:List qB) (a2:List Defect) (a3:List Product) (a4:Rect) (a5:Saw) (a6:Rates) (v10:(List Int)×(List Int)):Nat->Int->(List (List Int))->Option (List (List Int))
 |0,_,_=>none
 |n+1,x12,l13=>
 bif decide (x12<((v10.1.length:Nat):Int)) then
 bif inb x12 v10.1.length then
 (ZO a1 a2 a3 a4 a5 a6 v10 x12 FUEL ([]:List Int) 0).bind λo30=>
 bif room (l13.length+1) 24 then
 (KO a1 a2 a3 a4 a5 a6 v10 n) (w64 (x12+1)) (l13++([o30]:List (List Int)))
 else none
 else none
 else
 some l13
def KF (a1:List qB) (a4:Rect) (a6:Rates) (v36:Int):Nat->Int->(List Int)->(List Int)->Option ((List Int)×(List Int))
 |0,_,_,_=>none
 |n+1,x38,l39,l40=>
 bif decide (x38<(w64 (a4.X.B-a4.X.A))) then
 (NW a4 x38 (w64 (x38+1))).bind λv42=>
 (JM a1 v42 (Span.mk 0 v36)).bind λv44=>
 bif room (l39.length+1) 8 then
 bif room (l40.length+1) 8 then
 (KF a1 a4 a6 v36 n) (w64 (x38+1)) (l39++([w64 (a6.Chip*v44)]:List Int)) (l40++([w64 (a6.Dust*v44)]:List Int))
 else none
 else none
 else
 some (l39,l40)
def qAB (a1:List qB) (a2:List Defect) (a3:List Product) (a4:Rect) (a5:Saw) (a6:Rates):Option (Line×Int):=
 (ET a1 a2 a3 a4 a5 a6).bind λv7=>
 bif v7 !=0 then
 some ((Line.mk 0 0 0 ([]:List Int) ([]:List (List Int)) ([]:List Int) ([]:List Int)),v7)
 else
 (GD a3 (w64 (a4.Y.B-a4.Y.A))).bind λv10=>
 (KO a1 a2 a3 a4 a5 a6 v10 FUEL 0 ([]:List (List Int))).bind λo34=>
 (ZT a1).bind λv36=>
 (KF a1 a4 a6 v36 FUEL 0 ([]:List Int) ([]:List Int)).bind λo50=>
 some ((Line.mk (w64 (a4.X.B-a4.X.A)) a5.Kerf 1 v10.1 o34 o50.1 o50.2),0)
/- sawmill/cutting.measures -/
def PC (x10:Int) (R:Int->Option (Int⊕Unit)) (x14:Bool):Option (Int⊕Unit):=
 bif x14 then
 some (Sum.inl 9)
 else
 R (w64 (x10+1))
def wS (a1:Line):Nat->Int->Option (Int⊕Unit)
 |0,_=>none
 |n+1,x10=>
 bif decide (x10<((a1.Sizes.length:Nat):Int)) then
 bif inb x10 a1.Sizes.length then
 bif decide ((a1.Sizes.getD x10.toNat default)<1) then
 PC x10 (wS a1 n) true
 else
 PC x10 (wS a1 n) (decide ((a1.Sizes.getD x10.toNat default)>2000))
 else none
 else
 some (Sum.inr ())
def wR (a1:Line) (x7:Bool):Option Int:=
 bif x7 then
 some 9
 else
 bif decide (((a1.Sizes.length:Nat):Int)>32) then
 some 4
 else
 (wS a1 FUEL 0).bind λu18=>Sum.elim (λv19=>some v19) (λo16=>
 some 0) u18
def KV (a1:Line):Option Int:=
 bif decide (a1.Len<0) then
 wR a1 true
 else
 bif decide (a1.Len>2000) then
 wR a1 true
 else
 bif decide (a1.Kerf<0) then
 wR a1 true
 else
 bif decide (a1.Kerf>20) then
 wR a1 true
 else
 bif decide (a1.Pitch<1) then
 wR a1 true
 else
 wR a1 (decide (a1.Pitch>2000))
/- sawmill/cutting.places -/
def LT (a1:Line) (a2:Int):Option Int:=
 some (imax 0 (w64 ((w64 (a1.Len-a2))+1)))
/- sawmill/cutting.small -/
def VM (x5:Int) (R:Int->Option (Bool⊕Unit)) (x9:Bool):Option (Bool⊕Unit):=
 bif x9 then
 some (Sum.inl false)
 else
 R (w64 (x5+1))
def jU (a1:List (List Int)) (x2:Int):Nat->Int->Option (Bool⊕Unit)
 |0,_=>none
 |n+1,x5=>
 bif decide (x5<(((a1.getD x2.toNat default).length:Nat):Int)) then
 bif inb x5 ((a1.getD x2.toNat default).length) then
 bif decide (((a1.getD x2.toNat default).getD x5.toNat default)<(-1125899906842624)) then
 VM x5 (jU a1 x2 n) true
 else
 VM x5 (jU a1 x2 n) (decide (((a1.getD x2.toNat default).getD x5.toNat default)>1125899906842624))
 else none
 else
 some (Sum.inr ())
def JD (a1:List (List Int)):Nat->Int->Option (Bool⊕Unit)
 |0,_=>none
 |n+1,x2=>
 bif decide (x2<((a1.length:Nat):Int)) then
 bif inb x2 a1.length then
 (jU a1 x2 FUEL 0).bind λu13=>Sum.elim (λv14=>some (Sum.inl v14)) (λo11=>
 (JD a1 n) (w64 (x2+1))) u13
 else none
 else
 some (Sum.inr ())
def PL (a1:List (List Int)):Option Bool:=
 (JD a1 FUEL 0).bind λu17=>Sum.elim (λv18=>some v18) (λo15=>
 some true) u17
/- sawmill/cutting.Check -/
def WP (a1:Line):Nat->Int->Option (Int⊕Unit)
 |0,_=>none
 |n+1,x9=>
 bif decide (x9<((a1.Gain.length:Nat):Int)) then
 bif inb x9 a1.Gain.length then
 bif inb x9 a1.Sizes.length then
 (LT a1 (a1.Sizes.getD x9.toNat default)).bind λv13=>
 bif (((a1.Gain.getD x9.toNat default).length:Nat):Int) !=v13 then
 some (Sum.inl 19)
 else
 (WP a1 n) (w64 (x9+1))
 else none
 else none
 else
 some (Sum.inr ())
def GP (x25:Bool):Option Int:=
 bif x25 then
 some 9
 else
 some 0
def KN (a1:Line) (x7:Bool):Option Int:=
 bif x7 then
 some 19
 else
 (WP a1 FUEL 0).bind λu18=>Sum.elim (λv19=>some v19) (λo16=>
 (PL a1.Gain).bind λv20=>
 bif !v20 then
 GP true
 else
 (PL ([a1.Chip,a1.Dust]:List (List Int))).bind λv23=>
 GP (!v23)) u18
def DB (a1:Line):Option Int:=
 (KV a1).bind λv2=>
 bif v2 !=0 then
 some v2
 else
 bif ((a1.Gain.length:Nat):Int) !=((a1.Sizes.length:Nat):Int) then
 KN a1 true
 else
 bif ((a1.Chip.length:Nat):Int) !=a1.Len then
 KN a1 true
 else
 KN a1 (((a1.Dust.length:Nat):Int) !=a1.Len)
/- sawmill/cutting.sums -/
def YJ (a1:List Int):Nat->(List Int)->Int->Option (List Int)
 |0,_,_=>none
 |n+1,l3,x4=>
 bif decide (x4<((a1.length:Nat):Int)) then
 bif inb x4 a1.length then
 bif inb x4 l3.length then
 bif inb (w64 (x4+1)) l3.length then
 (YJ a1 n) (l3.set ((w64 (x4+1)).toNat) (w64 ((l3.getD x4.toNat default)+(a1.getD x4.toNat default)))) (w64 (x4+1))
 else none
 else none
 else none
 else
 some l3
def UT (a1:List Int):Option (List Int):=
 bif mkOk (w64 (((a1.length:Nat):Int)+1)) 8 then
 (YJ a1 FUEL (List.replicate ((w64 (((a1.length:Nat):Int)+1)).toNat) 0) 0).bind λo10=>
 some o10
 else none
/- sawmill/cutting.behind -/
def XV (a1:Line) (a2:Int):Option Int:=
 bif a2==a1.Len then
 some (-1)
 else
 some (imin (w64 (a2+a1.Kerf)) a1.Len)
/- sawmill/cutting.start -/
def KX (x5:Int) (R:Int->Cutting_choice->Option Cutting_choice) (x26:Cutting_choice):Option Cutting_choice:=
 R (w64 (x5+1)) x26
def GE (x5:Int) (x6:Cutting_choice) (R:Int->Cutting_choice->Option Cutting_choice) (x22:Cutting_choice) (x24:Bool):Option Cutting_choice:=
 bif x24 then
 KX x5 R x22
 else
 KX x5 R x6
def GL (x5:Int) (x6:Cutting_choice) (R:Int->Cutting_choice->Option Cutting_choice) (x22:Cutting_choice):Option Cutting_choice:=
 bif ((x6.piece.Size==(-1))&&((x6.piece.At==(-1))&&true)) then
 GE x5 x6 R x22 true
 else
 GE x5 x6 R x22 (decide (x22.value>x6.value))
def GH (a1:Line) (a2:Int) (a3:List Int) (a4:List Cutting_choice) (x5:Int) (x6:Cutting_choice) (R:Int->Cutting_choice->Option Cutting_choice) (x12:Bool):Option Cutting_choice:=
 bif x12 then
 KX x5 R x6
 else
 bif inb x5 a1.Gain.length then
 bif inb a2 ((a1.Gain.getD x5.toNat default).length) then
 (XV a1 (w64 (a2+(a1.Sizes.getD x5.toNat default)))).bind λv16=>
 bif decide (v16≥0) then
 bif inb v16 a3.length then
 bif inb (w64 (a2+(a1.Sizes.getD x5.toNat default))) a3.length then
 bif inb v16 a4.length then
 GL x5 x6 R (Cutting_choice.mk (Piece.mk x5 a2) (w64 (((a1.Gain.getD x5.toNat default).getD a2.toNat default)+(w64 ((w64 ((a3.getD v16.toNat default)-(a3.getD (w64 (a2+(a1.Sizes.getD x5.toNat default))).toNat default)))+((a4.getD v16.toNat default).value))))))
 else none
 else none
 else none
 else
 GL x5 x6 R (Cutting_choice.mk (Piece.mk x5 a2) ((a1.Gain.getD x5.toNat default).getD a2.toNat default))
 else none
 else none
def wJ (a1:Line) (a2:Int) (a3:List Int) (a4:List Cutting_choice):Nat->Int->Cutting_choice->Option Cutting_choice
 |0,_,_=>none
 |n+1,x5,x6=>
 bif decide (x5<((a1.Sizes.length:Nat):Int)) then
 bif inb x5 a1.Sizes.length then
 bif decide ((w64 (a2+(a1.Sizes.getD x5.toNat default)))>a1.Len) then
 GH a1 a2 a3 a4 x5 x6 (wJ a1 a2 a3 a4 n) true
 else
 bif inb x5 a1.Gain.length then
 bif inb a2 ((a1.Gain.getD x5.toNat default).length) then
 GH a1 a2 a3 a4 x5 x6 (wJ a1 a2 a3 a4 n) (decide (((a1.Gain.getD x5.toNat default).getD a2.toNat default)<0))
 else none
 else none
 else none
 else
 some x6
def GX (a1:Line) (a2:Int) (a3:List Int) (a4:List Cutting_choice):Option Cutting_choice:=
 (wJ a1 a2 a3 a4 FUEL 0 (Cutting_choice.mk (Piece.mk (-1) (-1)) 0)).bind λo28=>
 some o28
/- sawmill/cutting.choices -/
def RB (a1:Line) (x20:Int) (R:Int->Cutting_choice->Option Cutting_choice) (x31:Cutting_choice):Option Cutting_choice:=
 R (w64 (x20+a1.Pitch)) x31
def PR (a1:Line) (v2:(List Int)) (v4:(List Int)) (l8:List Cutting_choice) (x9:Int) (v11:Cutting_choice) (x20:Int) (x21:Cutting_choice) (R:Int->Cutting_choice->Option Cutting_choice) (x29:Bool):Option Cutting_choice:=
 bif x29 then
 RB a1 x20 R (Cutting_choice.mk (((l8.set x9.toNat v11).getD x20.toNat default).piece) (w64 ((((l8.set x9.toNat v11).getD x20.toNat default).value)+(w64 ((w64 ((w64 ((v2.getD ((w64 (x20-a1.Kerf)).toNat) default)-(v2.getD x9.toNat default)))+(v4.getD x20.toNat default)))-(v4.getD ((w64 (x20-a1.Kerf)).toNat) default))))))
 else
 RB a1 x20 R x21
def wC (a1:Line) (v2:(List Int)) (v4:(List Int)) (l8:List Cutting_choice) (x9:Int) (v11:Cutting_choice):Nat->Int->Cutting_choice->Option Cutting_choice
 |0,_,_=>none
 |n+1,x20,x21=>
 bif decide (x20<=a1.Len) then
 bif inb x20 l8.length then
 bif inb (w64 (x20-a1.Kerf)) v2.length then
 bif inb x9 v2.length then
 bif inb x20 v4.length then
 bif inb (w64 (x20-a1.Kerf)) v4.length then
 bif !((((((l8.set x9.toNat v11).getD x20.toNat default).piece).Size)==(-1))&&((((((l8.set x9.toNat v11).getD x20.toNat default).piece).At)==(-1))&&true)) then
 PR a1 v2 v4 l8 x9 v11 x20 x21 (wC a1 v2 v4 l8 x9 v11 n) (decide ((w64 ((((l8.set x9.toNat v11).getD x20.toNat default).value)+(w64 ((w64 ((w64 ((v2.getD ((w64 (x20-a1.Kerf)).toNat) default)-(v2.getD x9.toNat default)))+(v4.getD x20.toNat default)))-(v4.getD ((w64 (x20-a1.Kerf)).toNat) default)))))>x21.value))
 else
 PR a1 v2 v4 l8 x9 v11 x20 x21 (wC a1 v2 v4 l8 x9 v11 n) false
 else none
 else none
 else none
 else none
 else none
 else
 some x21
def PV (a1:Line) (v2:(List Int)) (v4:(List Int)) (l7:List Cutting_choice) (l8:List Cutting_choice) (x9:Int) (R:(List Cutting_choice)->(List Cutting_choice)->Int->Option (List Cutting_choice)) (v11:Cutting_choice) (x19:Cutting_choice):Option (List Cutting_choice):=
 (wC a1 v2 v4 l8 x9 v11 FUEL (w64 ((w64 (x9+a1.Pitch))+a1.Kerf)) x19).bind λo33=>
 bif inb x9 l7.length then
 R (l7.set x9.toNat o33) (l8.set x9.toNat v11) (w64 (x9-1))
 else none
def RX (a1:Line) (v2:(List Int)) (v4:(List Int)) (l7:List Cutting_choice) (l8:List Cutting_choice) (x9:Int) (R:(List Cutting_choice)->(List Cutting_choice)->Int->Option (List Cutting_choice)) (v11:Cutting_choice) (x17:Bool):Option (List Cutting_choice):=
 bif x17 then
 PV a1 v2 v4 l7 l8 x9 R v11 ((l8.set x9.toNat v11).getD x9.toNat default)
 else
 PV a1 v2 v4 l7 l8 x9 R v11 (Cutting_choice.mk (Piece.mk (-1) (-1)) (w64 ((v2.getD a1.Len.toNat default)-(v2.getD x9.toNat default))))
def wN (a1:Line) (v2:(List Int)) (v4:(List Int)):Nat->(List Cutting_choice)->(List Cutting_choice)->Int->Option (List Cutting_choice)
 |0,_,_,_=>none
 |n+1,l7,l8,x9=>
 bif decide (x9≥0) then
 (GX a1 x9 v4 l7).bind λv11=>
 bif inb x9 l8.length then
 bif inb a1.Len v2.length then
 bif inb x9 v2.length then
 bif !((((((l8.set x9.toNat v11).getD x9.toNat default).piece).Size)==(-1))&&((((((l8.set x9.toNat v11).getD x9.toNat default).piece).At)==(-1))&&true)) then
 RX a1 v2 v4 l7 l8 x9 (wN a1 v2 v4 n) v11 (decide ((((l8.set x9.toNat v11).getD x9.toNat default).value)>(w64 ((v2.getD a1.Len.toNat default)-(v2.getD x9.toNat default)))))
 else
 RX a1 v2 v4 l7 l8 x9 (wN a1 v2 v4 n) v11 false
 else none
 else none
 else none
 else
 some l7
def RL (a1:Line):Option (List Cutting_choice):=
 (UT a1.Chip).bind λv2=>
 (UT a1.Dust).bind λv4=>
 bif mkOk (w64 (a1.Len+1)) 24 then
 (wN a1 v2 v4 FUEL (List.replicate ((w64 (a1.Len+1)).toNat) (Cutting_choice.mk (Piece.mk 0 0) 0)) (List.replicate ((w64 (a1.Len+1)).toNat) (Cutting_choice.mk (Piece.mk 0 0) 0)) a1.Len).bind λo37=>
 some o37
 else none
/- sawmill/cutting.Best -/
def YI (a1:Line) (v5:(List Cutting_choice)):Nat->(List Piece)->Int->Option (List Piece)
 |0,_,_=>none
 |n+1,l7,x8=>
 bif decide (x8≥0) then
 bif inb x8 v5.length then
 bif (((((v5.getD x8.toNat default).piece).Size)==(-1))&&(((((v5.getD x8.toNat default).piece).At)==(-1))&&true)) then
 some l7
 else
 bif room (l7.length+1) 16 then
 bif inb (((v5.getD x8.toNat default).piece).Size) a1.Sizes.length then
 (XV a1 (w64 ((((v5.getD x8.toNat default).piece).At)+(a1.Sizes.getD (((v5.getD x8.toNat default).piece).Size).toNat default)))).bind λv14=>
 (YI a1 v5 n) (l7++([(v5.getD x8.toNat default).piece]:List Piece)) v14
 else none
 else none
 else none
 else
 some l7
def ZH (a1:Line):Option ((List Piece)×Int×Int):=
 (DB a1).bind λv2=>
 bif v2 !=0 then
 some (([]:List Piece),0,v2)
 else
 (RL a1).bind λv5=>
 (YI a1 v5 FUEL ([]:List Piece) 0).bind λo17=>
 bif inb 0 v5.length then
 some (o17,(v5.getD ((0:Int).toNat) default).value,0)
 else none
/- slices.Clone[[]sawmill/api.Node,sawmill/api.Node] -/
def JS (a1:List Node):Option (List Node):=
 bif room a1.length 16 then some a1 else none
/- sawmill/edge.collect -/
def BM (a1:List (List Node)) (a2:List Node):Option ((List (List Node))×(List (List Node))):=
 (JS a2).bind λv3=>
 bif room (a1.length+1) 24 then
 some ((a1++([v3]:List (List Node))),(a1++([v3]:List (List Node))))
 else none
/- sawmill/pattern.isRip -/
def VQ (x3:Bool):Option Bool:=
 some x3
def wI (a1:Int):Option Bool:=
 bif a1==2 then
 VQ true
 else
 VQ (a1==3)
/- sawmill/pattern.isFrame -/
def wO (x2:Int) (R:Int->Option (Bool⊕Unit)) (x7:Bool):Option (Bool⊕Unit):=
 bif x7 then
 some (Sum.inl false)
 else
 R (w64 (x2+1))
def qZ (a1:Rect):Nat->Int->Option (Bool⊕Unit)
 |0,_=>none
 |n+1,x2=>
 bif decide (x2<2) then
 bif inb x2 2 then
 bif decide ((([a1.X.A,a1.X.B,a1.Y.A,a1.Y.B]:List Int).getD (x2.toNat*2+0) 0)<(-600)) then
 wO x2 (qZ a1 n) true
 else
 bif decide ((([a1.X.A,a1.X.B,a1.Y.A,a1.Y.B]:List Int).getD (x2.toNat*2+1) 0)>600) then
 wO x2 (qZ a1 n) true
 else
 wO x2 (qZ a1 n) (decide ((([a1.X.A,a1.X.B,a1.Y.A,a1.Y.B]:List Int).getD (x2.toNat*2+0) 0)≥(([a1.X.A,a1.X.B,a1.Y.A,a1.Y.B]:List Int).getD (x2.toNat*2+1) 0)))
 else none
 else
 some (Sum.inr ())
def jQ (a1:Rect):Option Bool:=
 (qZ a1 FUEL 0).bind λu11=>Sum.elim (λv12=>some v12) (λo9=>
 some true) u11
/- sawmill/pattern.along -/
def QF (a1:Rect) (a2:Int):Option Span:=
 bif a2==2 then
 some a1.X
 else
 some a1.Y
/- sawmill/pattern.Row$1 -/
def jZ (a1:List Node) (a2:Int) (a3:List Node):Option (Int×(List Node)):=
 bif decide ((w64 (a2+((a1.length:Nat):Int)))<=127) then
 bif room (a3.length+a1.length) 16 then
 some (w64 (a2+((a1.length:Nat):Int)),(a3++a1))
 else none
 else
 some (w64 (a2+((a1.length:Nat):Int)),a3)
/- sawmill/pattern.Row -/
def UH (a5:List (List Node)) (x21:Int) (R:Int->Bool->Int->(List Node)->Int->Option (((List Node)×Int)⊕(Bool×(List Node)×Int))) (x40:Int) (x41:Bool) (l42:List Node) (x43:Int):Option (((List Node)×Int)⊕(Bool×(List Node)×Int)):=
 bif inb x21 a5.length then
 (jZ (a5.getD x21.toNat default) x43 l42).bind λv45=>
 R x40 x41 (w64 (x21+1)) v45.2 v45.1
 else none
def WN (a2:Int) (a3:Int) (a4:List Span) (a5:List (List Node)) (v17:Span) (x19:Int) (x20:Bool) (x21:Int) (R:Int->Bool->Int->(List Node)->Int->Option (((List Node)×Int)⊕(Bool×(List Node)×Int))) (l35:List Node) (x36:Int):Option (((List Node)×Int)⊕(Bool×(List Node)×Int)):=
 bif decide (((a4.getD x21.toNat default).B)<v17.B) then
 (jZ ([(Node.mk a2 ((a4.getD x21.toNat default).B))]:List Node) x36 l35).bind λv38=>
 UH a5 x21 R (imin (w64 (((a4.getD x21.toNat default).B)+a3)) v17.B) x20 v38.2 v38.1
 else
 UH a5 x21 R x19 true l35 x36
def WQ (a2:Int) (a3:Int) (a4:List Span) (a5:List (List Node)) (v17:Span) (x19:Int) (x20:Bool) (x21:Int) (l22:List Node) (x23:Int) (R:Int->Bool->Int->(List Node)->Int->Option (((List Node)×Int)⊕(Bool×(List Node)×Int))) (x29:Bool):Option (((List Node)×Int)⊕(Bool×(List Node)×Int)):=
 bif x29 then
 some (Sum.inl (([]:List Node),11))
 else
 bif decide (((a4.getD x21.toNat default).B)>v17.B) then
 some (Sum.inl (([]:List Node),20))
 else
 bif decide (((a4.getD x21.toNat default).A)>x19) then
 (jZ ([(Node.mk a2 (w64 (((a4.getD x21.toNat default).A)-a3))),(Node.mk 0 0)]:List Node) x23 l22).bind λv33=>
 WN a2 a3 a4 a5 v17 x19 x20 x21 R v33.2 v33.1
 else
 WN a2 a3 a4 a5 v17 x19 x20 x21 R l22 x23
def zI (a2:Int) (a3:Int) (a4:List Span) (a5:List (List Node)) (v17:Span):Nat->Int->Bool->Int->(List Node)->Int->Option (((List Node)×Int)⊕(Bool×(List Node)×Int))
 |0,_,_,_,_,_=>none
 |n+1,x19,x20,x21,l22,x23=>
 bif decide (x21<((a4.length:Nat):Int)) then
 bif inb x21 a4.length then
 bif decide (((a4.getD x21.toNat default).A)≥((a4.getD x21.toNat default).B)) then
 some (Sum.inl (([]:List Node),19))
 else
 bif x20 then
 WQ a2 a3 a4 a5 v17 x19 x20 x21 l22 x23 (zI a2 a3 a4 a5 v17 n) true
 else
 bif ((a4.getD x21.toNat default).A) !=x19 then
 WQ a2 a3 a4 a5 v17 x19 x20 x21 l22 x23 (zI a2 a3 a4 a5 v17 n) (decide (((a4.getD x21.toNat default).A)<(w64 ((w64 (x19+a3))+1))))
 else
 WQ a2 a3 a4 a5 v17 x19 x20 x21 l22 x23 (zI a2 a3 a4 a5 v17 n) false
 else none
 else
 some (Sum.inr (x20,l22,x23))
def UF (x57:Int) (l58:List Node):Option ((List Node)×Int):=
 bif decide (x57>127) then
 some (([]:List Node),4)
 else
 some (l58,0)
def UB (a1:Rect) (a2:Int) (a3:Int) (a4:List Span) (a5:List (List Node)) (x15:Bool):Option ((List Node)×Int):=
 bif x15 then
 some (([]:List Node),9)
 else
 (QF a1 a2).bind λv17=>
 (zI a2 a3 a4 a5 v17 FUEL v17.A false 0 ([]:List Node) 0).bind λu52=>Sum.elim (λv53=>some v53) (λo50=>
 bif !o50.1 then
 (jZ ([(Node.mk 0 0)]:List Node) o50.2.2 o50.2.1).bind λv55=>
 UF v55.1 v55.2
 else
 UF o50.2.2 o50.2.1) u52
def UM (a1:Rect) (a2:Int) (a3:Int) (a4:List Span) (a5:List (List Node)) (x12:Bool):Option ((List Node)×Int):=
 bif x12 then
 some (([]:List Node),19)
 else
 bif decide (a3<0) then
 UB a1 a2 a3 a4 a5 true
 else
 UB a1 a2 a3 a4 a5 (decide (a3>20))
def yV (a1:Rect) (a2:Int) (a3:Int) (a4:List Span) (a5:List (List Node)):Option ((List Node)×Int):=
 (wI a2).bind λv6=>
 bif !v6 then
 some (([]:List Node),10)
 else
 (jQ a1).bind λv9=>
 bif !v9 then
 UM a1 a2 a3 a4 a5 true
 else
 UM a1 a2 a3 a4 a5 (((a4.length:Nat):Int) !=((a5.length:Nat):Int))
/- sawmill/edge.Best -/
def UL (a4:Rect) (v10:(List Piece)×Int×Int) (v13:(List Int)×(List Int)):Nat->(List Span)->(List (List Node))->Int->Option ((List Span)×(List (List Node)))
 |0,_,_,_=>none
 |n+1,l15,l16,x17=>
 bif decide (x17<((v10.1.length:Nat):Int)) then
 bif inb x17 v10.1.length then
 bif inb ((v10.1.getD x17.toNat default).Size) v13.1.length then
 (NW a4 ((v10.1.getD x17.toNat default).At) (w64 (((v10.1.getD x17.toNat default).At)+(v13.1.getD (((v10.1.getD x17.toNat default).Size).toNat) default)))).bind λv21=>
 bif room (l15.length+1) 16 then
 bif inb ((v10.1.getD x17.toNat default).Size) v13.2.length then
 (BM l16 ([(Node.mk 1 (v13.2.getD (((v10.1.getD x17.toNat default).Size).toNat) default))]:List Node)).bind λv25=>
 (UL a4 v10 v13 n) (l15++([v21.X]:List Span)) v25.2 (w64 (x17+1))
 else none
 else none
 else none
 else none
 else
 some (l15,l16)
def qAx (a1:List qB) (a2:List Defect) (a3:List Product) (a4:Rect) (a5:Saw) (a6:Rates):Option ((List Node)×Int×Int):=
 (qAB a1 a2 a3 a4 a5 a6).bind λv7=>
 bif v7.2 !=0 then
 some (([]:List Node),0,v7.2)
 else
 (ZH (Line.mk v7.1.Len v7.1.Kerf v7.1.Pitch v7.1.Sizes v7.1.Gain v7.1.Chip v7.1.Dust)).bind λv10=>
 bif v10.2.2 !=0 then
 some (([]:List Node),0,v10.2.2)
 else
 (GD a3 (w64 (a4.Y.B-a4.Y.A))).bind λv13=>
 (UL a4 v10 v13 FUEL ([]:List Span) ([]:List (List Node)) 0).bind λo29=>
 (yV a4 2 a5.Kerf o29.1 o29.2).bind λv31=>
 bif v31.2 !=0 then
 some (([]:List Node),0,v31.2)
 else
 some (v31.1,v10.2.1,0)
/- sawmill/plan.hasBoard$1 -/
def BF (a1:Node):Option Bool:=
 some (a1.Kind==1)
/- slices.IndexFunc[[]sawmill/api.Node,sawmill/api.Node] -/
def wQ (a1:List Node):Nat->Int->Option (Int⊕Unit)
 |0,_=>none
 |n+1,x2=>
 bif decide (x2<((a1.length:Nat):Int)) then
 bif inb x2 a1.length then
 (BF (a1.getD x2.toNat default)).bind λv5=>
 bif v5 then
 some (Sum.inl x2)
 else
 (wQ a1 n) (w64 (x2+1))
 else none
 else
 some (Sum.inr ())
def JN (a1:List Node):Option Int:=
 (wQ a1 FUEL 0).bind λu10=>Sum.elim (λv11=>some v11) (λo8=>
 some (-1)) u10
/- slices.ContainsFunc[[]sawmill/api.Node,sawmill/api.Node] -/
def QV (a1:List Node):Option Bool:=
 (JN a1).bind λv2=>
 some (decide (v2≥0))
/- sawmill/plan.hasBoard -/
def GW (a1:List Node):Option Bool:=
 (QV a1).bind λv2=>
 some v2
/- sawmill/plan.volume -/
def DI (a1:List qB) (a2:Rect):Option Int:=
 (ZT a1).bind λv3=>
 (yZ a1 (Box.mk a2.X a2.Y (Span.mk 0 v3))).bind λv5=>
 some v5
/- sawmill/plan.line -/
def FU (l14:List Int) (l15:List (List Node)) (x16:Int) (R:(List Int)->(List (List Node))->Int->Option ((List Int)×(List (List Node)))) (x30:Int) (l31:List Node):Option ((List Int)×(List (List Node))):=
 bif room (l14.length+1) 8 then
 bif room (l15.length+1) 24 then
 R (l14++([x30]:List Int)) (l15++([l31]:List (List Node))) (w64 (x16+1))
 else none
 else none
def AD (l14:List Int) (l15:List (List Node)) (x16:Int) (R:(List Int)->(List (List Node))->Int->Option ((List Int)×(List (List Node)))) (v22:(List Node)×Int×Int) (x27:Bool):Option ((List Int)×(List (List Node))):=
 bif x27 then
 FU l14 l15 x16 R v22.2.1 v22.1
 else
 FU l14 l15 x16 R (-1) ([]:List Node)
def jW (a1:List qB) (a2:List Defect) (a3:List Product) (a4:Rect) (a5:Saw) (a6:Rates) (v7:(List Int)) (x10:Int):Nat->(List Int)->(List (List Node))->Int->Option ((List Int)×(List (List Node)))
 |0,_,_,_=>none
 |n+1,l14,l15,x16=>
 bif decide ((w64 (x16+(v7.getD x10.toNat default)))<=(w64 (a4.Y.B-a4.Y.A))) then
 bif nz a5.Pitch then
 bif (Int.tmod x16 a5.Pitch)==0 then
 (GF a4 x16 (w64 (x16+(v7.getD x10.toNat default)))).bind λv20=>
 (qAx a1 a2 a3 v20 a5 a6).bind λv22=>
 bif v22.2.2==0 then
 (GW v22.1).bind λv25=>
 AD l14 l15 x16 (jW a1 a2 a3 a4 a5 a6 v7 x10 n) v22 v25
 else
 AD l14 l15 x16 (jW a1 a2 a3 a4 a5 a6 v7 x10 n) v22 false
 else
 FU l14 l15 x16 (jW a1 a2 a3 a4 a5 a6 v7 x10 n) (-1) ([]:List Node)
 else none
 else
 some (l14,l15)
def UV (a1:List qB) (a2:List Defect) (a3:List Product) (a4:Rect) (a5:Saw) (a6:Rates) (v7:(List Int)):Nat->(List (List (List Node)))->Int->(List (List Int))->Option ((List (List (List Node)))×(List (List Int)))
 |0,_,_,_=>none
 |n+1,l9,x10,l11=>
 bif decide (x10<((v7.length:Nat):Int)) then
 bif inb x10 v7.length then
 (jW a1 a2 a3 a4 a5 a6 v7 x10 FUEL ([]:List Int) ([]:List (List Node)) 0).bind λo36=>
 bif room (l11.length+1) 24 then
 bif room (l9.length+1) 24 then
 (UV a1 a2 a3 a4 a5 a6 v7 n) (l9++([o36.2]:List (List (List Node)))) (w64 (x10+1)) (l11++([o36.1]:List (List Int)))
 else none
 else none
 else none
 else
 some (l9,l11)
def UC (a1:List qB) (a4:Rect) (a6:Rates):Nat->Int->(List Int)->(List Int)->Option ((List Int)×(List Int))
 |0,_,_,_=>none
 |n+1,x44,l45,l46=>
 bif decide (x44<(w64 (a4.Y.B-a4.Y.A))) then
 (GF a4 x44 (w64 (x44+1))).bind λv48=>
 (DI a1 v48).bind λv50=>
 bif room (l45.length+1) 8 then
 bif room (l46.length+1) 8 then
 (UC a1 a4 a6 n) (w64 (x44+1)) (l45++([w64 (a6.Chip*v50)]:List Int)) (l46++([w64 (a6.Dust*v50)]:List Int))
 else none
 else none
 else
 some (l45,l46)
def qAq (a1:List qB) (a2:List Defect) (a3:List Product) (a4:Rect) (a5:Saw) (a6:Rates):Option (Line×(List (List (List Node)))):=
 (JZ a3).bind λv7=>
 (UV a1 a2 a3 a4 a5 a6 v7 FUEL ([]:List (List (List Node))) 0 ([]:List (List Int))).bind λo42=>
 (UC a1 a4 a6 FUEL 0 ([]:List Int) ([]:List Int)).bind λo56=>
 some ((Line.mk (w64 (a4.Y.B-a4.Y.A)) a5.Kerf 1 v7 o42.2 o56.1 o56.2),o42.1)
/- sawmill/plan.collect -/
def BE (a1:List Node) (a2:List (List Node)):Option ((List (List Node))×(List (List Node))):=
 bif room (a2.length+1) 24 then
 some ((a2++([a1]:List (List Node))),(a2++([a1]:List (List Node))))
 else none
/- sawmill/section.Area -/
def YO (v2:qI):Nat->Int->Int->Option Int
 |0,_,_=>none
 |n+1,x4,x5=>
 bif decide (x5<((v2.Rows.length:Nat):Int)) then
 bif inb x5 v2.Rows.length then
 (YY (v2.Rows.getD x5.toNat default)).bind λv8=>
 (YO v2 n) (w64 (x4+v8)) (w64 (x5+1))
 else none
 else
 some x4
def NZ (a1:qI):Option Int:=
 (YU a1).bind λv2=>
 (YO v2 FUEL 0 0).bind λo11=>
 some (w64 (10*o11))
/- sawmill/solid.Volume -/
def YM (v2:(List qB)):Nat->Int->Int->Option Int
 |0,_,_=>none
 |n+1,x4,x5=>
 bif decide (x5<((v2.length:Nat):Int)) then
 bif inb x5 v2.length then
 (NZ ((v2.getD x5.toNat default).Sec)).bind λv8=>
 (YM v2 n) (w64 (x4+(w64 (((v2.getD x5.toNat default).Len)*v8)))) (w64 (x5+1))
 else none
 else
 some x4
def TZ (a1:List qB):Option Int:=
 (XO a1).bind λv2=>
 (YM v2 FUEL 0 0).bind λo11=>
 some o11
/- sawmill/plan.Best -/
def UA (a4:Rect) (v10:Line×(List (List (List Node)))) (v12:(List Piece)×Int×Int):Nat->(List Span)->(List (List Node))->Int->Option ((List Span)×(List (List Node)))
 |0,_,_,_=>none
 |n+1,l15,l16,x17=>
 bif decide (x17<((v12.1.length:Nat):Int)) then
 bif inb x17 v12.1.length then
 bif inb ((v12.1.getD x17.toNat default).Size) v10.1.Sizes.length then
 (GF a4 ((v12.1.getD x17.toNat default).At) (w64 (((v12.1.getD x17.toNat default).At)+(v10.1.Sizes.getD (((v12.1.getD x17.toNat default).Size).toNat) default)))).bind λv21=>
 bif room (l15.length+1) 16 then
 bif inb ((v12.1.getD x17.toNat default).Size) v10.2.length then
 bif inb ((v12.1.getD x17.toNat default).At) ((v10.2.getD (((v12.1.getD x17.toNat default).Size).toNat) default).length) then
 (BE ((v10.2.getD (((v12.1.getD x17.toNat default).Size).toNat) default).getD ((v12.1.getD x17.toNat default).At).toNat default) l16).bind λv26=>
 (UA a4 v10 v12 n) (l15++([v21.Y]:List Span)) v26.2 (w64 (x17+1))
 else none
 else none
 else none
 else none
 else none
 else
 some (l15,l16)
def UZ (a1:List qB) (a2:List Defect) (a3:List Product) (a4:Rect) (a5:Saw) (a6:Rates):Option (Pattern×Int×Int):=
 (VN a1 a2 a3 a4 a5 a6).bind λv7=>
 bif v7 !=0 then
 some ((Pattern.mk (Rect.mk (Span.mk 0 0) (Span.mk 0 0)) ([]:List Node)),0,v7)
 else
 (qAq a1 a2 a3 a4 a5 a6).bind λv10=>
 (ZH (Line.mk v10.1.Len v10.1.Kerf v10.1.Pitch v10.1.Sizes v10.1.Gain v10.1.Chip v10.1.Dust)).bind λv12=>
 bif v12.2.2 !=0 then
 some ((Pattern.mk (Rect.mk (Span.mk 0 0) (Span.mk 0 0)) ([]:List Node)),0,v12.2.2)
 else
 (UA a4 v10 v12 FUEL ([]:List Span) ([]:List (List Node)) 0).bind λo30=>
 (yV a4 3 a5.Kerf o30.1 o30.2).bind λv32=>
 bif v32.2 !=0 then
 some ((Pattern.mk (Rect.mk (Span.mk 0 0) (Span.mk 0 0)) ([]:List Node)),0,13)
 else
 (TZ a1).bind λv35=>
 (DI a1 a4).bind λv37=>
 some ((Pattern.mk a4 v32.1),w64 (v12.2.1+(w64 (a6.Chip*(w64 (v35-v37))))),0)
/- sawmill/sawmilllaw24.best -/
def GN (a1:Law24_Given):Option (Pattern×Int×Int):=
 (UZ a1.Solid a1.Defects a1.Products a1.Frame a1.Saw a1.Rates).bind λv2=>
 some ((Pattern.mk v2.1.Frame v2.1.Nodes),v2.2.1,v2.2.2)
/- sawmill/section.Bounds -/
def MS (x6:Int) (R:Int->Span->Option Span) (x13:Span):Option Span:=
 R (w64 (x6+1)) x13
def XB (v2:qI):Nat->Int->Span->Option Span
 |0,_,_=>none
 |n+1,x6,x7=>
 bif decide (x6<((v2.Rows.length:Nat):Int)) then
 bif inb x6 v2.Rows.length then
 (ZE (v2.Rows.getD x6.toNat default)).bind λv10=>
 bif !v10 then
 MS x6 (XB v2 n) (Span.mk (imin x7.A ((v2.Rows.getD x6.toNat default).A)) (imax x7.B ((v2.Rows.getD x6.toNat default).B)))
 else
 MS x6 (XB v2 n) x7
 else none
 else
 some x7
def CE (a1:qI):Option Rect:=
 (YU a1).bind λv2=>
 bif ((v2.Rows.length:Nat):Int)==0 then
 some (Rect.mk (Span.mk 0 0) (Span.mk 0 0))
 else
 bif inb 0 v2.Rows.length then
 (XB v2 FUEL 0 (v2.Rows.getD (0:Int).toNat default)).bind λo15=>
 (YL v2.Low (w64 (v2.Low+((v2.Rows.length:Nat):Int)))).bind λv17=>
 some (Rect.mk o15 v17)
 else none
/- sawmill/solid.Bounds -/
def AO (x4:Int) (R:Int->Rect->Option Rect) (v8:Rect) (x11:Rect):Option Rect:=
 R (w64 (x4+1)) (Rect.mk (Span.mk (imin x11.X.A v8.X.A) (imax x11.X.B v8.X.B)) (Span.mk (imin x11.Y.A v8.Y.A) (imax x11.Y.B v8.Y.B)))
def PS (v2:(List qB)):Nat->Int->Rect->Option Rect
 |0,_,_=>none
 |n+1,x4,x5=>
 bif decide (x4<((v2.length:Nat):Int)) then
 bif inb x4 v2.length then
 (CE ((v2.getD x4.toNat default).Sec)).bind λv8=>
 bif x4==0 then
 AO x4 (PS v2 n) v8 v8
 else
 AO x4 (PS v2 n) v8 x5
 else none
 else
 some x5
def qBU (a1:List qB):Option Rect:=
 (XO a1).bind λv2=>
 (PS v2 FUEL 0 (Rect.mk (Span.mk 0 0) (Span.mk 0 0))).bind λo13=>
 some o13
/- sawmill/plan.Frame -/
def AI (a1:List qB):Option Rect:=
 (qBU a1).bind λv2=>
 some v2
/- sawmill/plan.tree -/
def NR (x3:Int) (R:Int->Int->Option (Int⊕Unit)) (x9:Int):Option (Int⊕Unit):=
 bif x9==0 then
 some (Sum.inl (w64 (x3+1)))
 else
 R x9 (w64 (x3+1))
def UQ (x2:Int) (x3:Int) (R:Int->Int->Option (Int⊕Unit)) (x7:Bool):Option (Int⊕Unit):=
 bif x7 then
 NR x3 R (w64 ((w64 (x2-1))+2))
 else
 NR x3 R (w64 (x2-1))
def jG (a1:List Node):Nat->Int->Int->Option (Int⊕Unit)
 |0,_,_=>none
 |n+1,x2,x3=>
 bif decide (x3<((a1.length:Nat):Int)) then
 bif inb x3 a1.length then
 bif ((a1.getD x3.toNat default).Kind)==2 then
 UQ x2 x3 (jG a1 n) true
 else
 UQ x2 x3 (jG a1 n) (((a1.getD x3.toNat default).Kind)==3)
 else none
 else
 some (Sum.inr ())
def qAm (a1:List Node):Option Int:=
 (jG a1 FUEL 1 0).bind λu13=>Sum.elim (λv14=>some v14) (λo11=>
 some ((a1.length:Nat):Int)) u13
/- slices.Equal[[]sawmill/api.Node,sawmill/api.Node] -/
def jT (a1:List Node) (a2:List Node):Nat->Int->Option (Bool⊕Unit)
 |0,_=>none
 |n+1,x4=>
 bif decide (x4<((a1.length:Nat):Int)) then
 bif inb x4 a1.length then
 bif inb x4 a2.length then
 bif !((((a1.getD x4.toNat default).Kind)==((a2.getD x4.toNat default).Kind))&&((((a1.getD x4.toNat default).At)==((a2.getD x4.toNat default).At))&&true)) then
 some (Sum.inl false)
 else
 (jT a1 a2 n) (w64 (x4+1))
 else none
 else none
 else
 some (Sum.inr ())
def YB (a1:List Node) (a2:List Node):Option Bool:=
 bif ((a1.length:Nat):Int) !=((a2.length:Nat):Int) then
 some false
 else
 (jT a1 a2 FUEL 0).bind λu11=>Sum.elim (λv12=>some v12) (λo9=>
 some true) u11
/- sawmill/plan.row -/
def CS (l11:List Node) (R:(List Span)->(List (List Node))->Int->(List Node)->Option ((List Span)×(List (List Node))×Int×(List Node))) (v18:Int) (l27:List Span) (l28:List (List Node)) (x29:Int):Option ((List Span)×(List (List Node))×Int×(List Node)):=
 bif slOk v18 (((l11.drop ((1:Int).toNat)).length:Nat):Int) (l11.drop ((1:Int).toNat)).length then
 R l27 l28 x29 ((l11.drop ((1:Int).toNat)).drop v18.toNat)
 else none
def CJ (a3:Int) (x7:Span) (l8:List Span) (l9:List (List Node)) (x10:Int) (l11:List Node) (R:(List Span)->(List (List Node))->Int->(List Node)->Option ((List Span)×(List (List Node))×Int×(List Node))) (v18:Int) (x22:Bool):Option ((List Span)×(List (List Node))×Int×(List Node)):=
 bif x22 then
 CS l11 R v18 l8 l9 (w64 (((l11.getD (0:Int).toNat default).At)+a3))
 else
 bif room (l8.length+1) 16 then
 bif slOk 0 v18 (l11.drop ((1:Int).toNat)).length then
 bif room (l9.length+1) 24 then
 CS l11 R v18 (l8++([(Span.mk x10 ((l11.getD (0:Int).toNat default).At))]:List Span)) (l9++([((l11.drop ((1:Int).toNat)).take v18.toNat)]:List (List Node))) (imin (w64 (((l11.getD (0:Int).toNat default).At)+a3)) x7.B)
 else none
 else none
 else none
def MW (a3:Int) (x7:Span) (l8:List Span) (l9:List (List Node)) (x10:Int) (l11:List Node) (R:(List Span)->(List (List Node))->Int->(List Node)->Option ((List Span)×(List (List Node))×Int×(List Node))) (x14:Bool):Option ((List Span)×(List (List Node))×Int×(List Node)):=
 bif x14 then
 bif inb 0 l11.length then
 bif slOk 1 ((l11.length:Nat):Int) l11.length then
 (qAm (l11.drop ((1:Int).toNat))).bind λv18=>
 bif v18==1 then
 bif inb 0 ((l11.drop ((1:Int).toNat)).length) then
 CJ a3 x7 l8 l9 x10 l11 R v18 ((((l11.drop ((1:Int).toNat)).getD (0:Int).toNat default).Kind)==0)
 else none
 else
 CJ a3 x7 l8 l9 x10 l11 R v18 false
 else none
 else none
 else
 some (l8,l9,x10,l11)
def QY (a2:Int) (a3:Int) (x7:Span):Nat->(List Span)->(List (List Node))->Int->(List Node)->Option ((List Span)×(List (List Node))×Int×(List Node))
 |0,_,_,_,_=>none
 |n+1,l8,l9,x10,l11=>
 bif decide (((l11.length:Nat):Int)>0) then
 bif inb 0 l11.length then
 MW a3 x7 l8 l9 x10 l11 (QY a2 a3 x7 n) (((l11.getD (0:Int).toNat default).Kind)==a2)
 else none
 else
 MW a3 x7 l8 l9 x10 l11 (QY a2 a3 x7 n) false
def CG (l43:List Span) (l44:List (List Node)) (x50:Bool):Option ((List Span)×(List (List Node))×Bool):=
 bif x50 then
 some (([]:List Span),([]:List (List Node)),false)
 else
 some (l43,l44,true)
def HA (a1:Rect) (a2:Int) (a3:Int) (a4:List Node) (l43:List Span) (l44:List (List Node)):Option ((List Span)×(List (List Node))×Bool):=
 (yV a1 a2 a3 l43 l44).bind λv45=>
 bif v45.2 !=0 then
 CG l43 l44 true
 else
 (YB a4 v45.1).bind λv48=>
 CG l43 l44 (!v48)
def CH (a1:Rect) (a2:Int) (a3:Int) (a4:List Node) (x7:Span) (o35:(List Span)×(List (List Node))×Int×(List Node)) (x39:Bool):Option ((List Span)×(List (List Node))×Bool):=
 bif x39 then
 bif room (o35.1.length+1) 16 then
 bif room (o35.2.1.length+1) 24 then
 HA a1 a2 a3 a4 (o35.1++([(Span.mk o35.2.2.1 x7.B)]:List Span)) (o35.2.1++([o35.2.2.2]:List (List Node)))
 else none
 else none
 else
 HA a1 a2 a3 a4 o35.1 o35.2.1
def XP (a1:Rect) (a2:Int) (a3:Int) (a4:List Node) (x7:Span):Option ((List Span)×(List (List Node))×Bool):=
 (QY a2 a3 x7 FUEL ([]:List Span) ([]:List (List Node)) x7.A a4).bind λo35=>
 bif decide (((o35.2.2.2.length:Nat):Int)>0) then
 bif inb 0 o35.2.2.2.length then
 CH a1 a2 a3 a4 x7 o35 (((o35.2.2.2.getD (0:Int).toNat default).Kind) !=0)
 else none
 else
 CH a1 a2 a3 a4 x7 o35 false
def IP (a1:Rect) (a2:Int) (a3:Int) (a4:List Node):Option ((List Span)×(List (List Node))×Bool):=
 bif decide (((a4.length:Nat):Int)>127) then
 some (([]:List Span),([]:List (List Node)),false)
 else
 bif a2==3 then
 XP a1 a2 a3 a4 a1.Y
 else
 XP a1 a2 a3 a4 a1.X
/- slices.Index[[]int,int] -/
def yJ (a1:List Int) (a2:Int):Nat->Int->Option (Int⊕Unit)
 |0,_=>none
 |n+1,x3=>
 bif decide (x3<((a1.length:Nat):Int)) then
 bif inb x3 a1.length then
 bif a2==(a1.getD x3.toNat default) then
 some (Sum.inl x3)
 else
 (yJ a1 a2 n) (w64 (x3+1))
 else none
 else
 some (Sum.inr ())
def TS (a1:List Int) (a2:Int):Option Int:=
 (yJ a1 a2 FUEL 0).bind λu9=>Sum.elim (λv10=>some v10) (λo7=>
 some (-1)) u9
/- slices.Contains[[]int,int] -/
def ZB (a1:List Int) (a2:Int):Option Bool:=
 (TS a1 a2).bind λv3=>
 some (decide (v3≥0))
/- sawmill/plan.isStrip -/
def RK (x23:Int) (R:Bool->Int->Option Bool) (x31:Bool):Option Bool:=
 R x31 (w64 (x23+1))
def wW (v5:(List Span)×(List (List Node))×Bool) (v10:(List Int)×(List Int)) (x12:Int):Nat->Bool->Int->Option Bool
 |0,_,_=>none
 |n+1,x22,x23=>
 bif decide (x23<((v10.1.length:Nat):Int)) then
 bif inb x23 v10.1.length then
 bif x22 then
 RK x23 (wW v5 v10 x12 n) true
 else
 bif (v10.1.getD x23.toNat default)==(w64 (((v5.1.getD x12.toNat default).B)-((v5.1.getD x12.toNat default).A))) then
 bif inb x23 v10.2.length then
 bif inb x12 v5.2.1.length then
 bif inb 0 ((v5.2.1.getD x12.toNat default).length) then
 RK x23 (wW v5 v10 x12 n) ((v10.2.getD x23.toNat default)==(((v5.2.1.getD x12.toNat default).getD (0:Int).toNat default).At))
 else none
 else none
 else none
 else
 RK x23 (wW v5 v10 x12 n) false
 else none
 else
 some x22
def RG (v5:(List Span)×(List (List Node))×Bool) (v10:(List Int)×(List Int)) (x12:Int) (R:Int->Option (Bool⊕Unit)) (x20:Bool):Option (Bool⊕Unit):=
 bif x20 then
 some (Sum.inl false)
 else
 (wW v5 v10 x12 FUEL false 0).bind λo33=>
 bif !o33 then
 some (Sum.inl false)
 else
 R (w64 (x12+1))
def jR (a1:Rect) (a3:Saw) (v5:(List Span)×(List (List Node))×Bool) (v10:(List Int)×(List Int)):Nat->Int->Option (Bool⊕Unit)
 |0,_=>none
 |n+1,x12=>
 bif decide (x12<((v5.1.length:Nat):Int)) then
 bif inb x12 v5.1.length then
 bif nz a3.Pitch then
 bif (Int.tmod (w64 (((v5.1.getD x12.toNat default).A)-a1.X.A)) a3.Pitch) !=0 then
 RG v5 v10 x12 (jR a1 a3 v5 v10 n) true
 else
 bif inb x12 v5.2.1.length then
 bif (((v5.2.1.getD x12.toNat default).length:Nat):Int) !=1 then
 RG v5 v10 x12 (jR a1 a3 v5 v10 n) true
 else
 bif inb 0 ((v5.2.1.getD x12.toNat default).length) then
 RG v5 v10 x12 (jR a1 a3 v5 v10 n) ((((v5.2.1.getD x12.toNat default).getD (0:Int).toNat default).Kind) !=1)
 else none
 else none
 else none
 else none
 else
 some (Sum.inr ())
def BG (a1:Rect) (a2:List Product) (a3:Saw) (v5:(List Span)×(List (List Node))×Bool) (x8:Bool):Option Bool:=
 bif x8 then
 some false
 else
 (GD a2 (w64 (a1.Y.B-a1.Y.A))).bind λv10=>
 (jR a1 a3 v5 v10 FUEL 0).bind λu38=>Sum.elim (λv39=>some v39) (λo36=>
 some true) u38
def NF (a1:Rect) (a2:List Product) (a3:Saw) (a4:List Node):Option Bool:=
 (IP a1 2 a3.Kerf a4).bind λv5=>
 bif !v5.2.2 then
 BG a1 a2 a3 v5 true
 else
 BG a1 a2 a3 v5 (((v5.1.length:Nat):Int)==0)
/- sawmill/plan.Member -/
def LI (a1:Pattern) (a2:List Product) (a3:Saw) (v14:(List Span)×(List (List Node))×Bool) (x19:Int) (R:Int->Option (Bool⊕Unit)) (x26:Bool):Option (Bool⊕Unit):=
 bif x26 then
 some (Sum.inl false)
 else
 bif inb x19 v14.2.1.length then
 (NF (Rect.mk a1.Frame.X (v14.1.getD x19.toNat default)) a2 a3 (v14.2.1.getD x19.toNat default)).bind λv29=>
 bif !v29 then
 some (Sum.inl false)
 else
 R (w64 (x19+1))
 else none
def QT (a1:Pattern) (a2:List Product) (a3:Saw) (v14:(List Span)×(List (List Node))×Bool) (v17:(List Int)):Nat->Int->Option (Bool⊕Unit)
 |0,_=>none
 |n+1,x19=>
 bif decide (x19<((v14.1.length:Nat):Int)) then
 bif inb x19 v14.1.length then
 bif nz a3.Pitch then
 bif (Int.tmod (w64 (((v14.1.getD x19.toNat default).A)-a1.Frame.Y.A)) a3.Pitch) !=0 then
 LI a1 a2 a3 v14 x19 (QT a1 a2 a3 v14 v17 n) true
 else
 (ZB v17 (w64 (((v14.1.getD x19.toNat default).B)-((v14.1.getD x19.toNat default).A)))).bind λv24=>
 LI a1 a2 a3 v14 x19 (QT a1 a2 a3 v14 v17 n) (!v24)
 else none
 else none
 else
 some (Sum.inr ())
def UX (a1:Pattern) (a2:List Product) (a3:Saw) (x12:Bool):Option Bool:=
 bif x12 then
 some false
 else
 (IP a1.Frame 3 a3.Kerf a1.Nodes).bind λv14=>
 bif !v14.2.2 then
 some false
 else
 (JZ a2).bind λv17=>
 (QT a1 a2 a3 v14 v17 FUEL 0).bind λu34=>Sum.elim (λv35=>some v35) (λo32=>
 some true) u34
def JK (a1:Pattern) (a2:List Product) (a3:Saw):Option Bool:=
 (jH a2).bind λv4=>
 bif v4 !=0 then
 UX a1 a2 a3 true
 else
 (XR a3 (Rates.mk 0 0 0)).bind λv7=>
 bif v7 !=0 then
 UX a1 a2 a3 true
 else
 (yO a1.Frame).bind λv10=>
 UX a1 a2 a3 (v10 !=0)
/- sawmill/sawmilllaw24.awake -/
def qW (x28:Bool):Option Bool:=
 some x28
def TC :Option Bool:=
 (KK 97).bind λv1=>
 (GN (Law24_Given.mk v1.Solid v1.Defects v1.Products v1.Frame v1.Saw v1.Rates)).bind λv3=>
 (KK 96).bind λv5=>
 (GN (Law24_Given.mk v5.Solid v5.Defects v5.Products v5.Frame v5.Saw v5.Rates)).bind λv7=>
 (JZ v1.Products).bind λv9=>
 (AI v1.Solid).bind λv11=>
 bif v3.2.2==0 then
 bif v3.2.1==140000000 then
 bif v7.2.2==0 then
 bif v7.2.1==70000000 then
 bif ((v9.length:Nat):Int)==2 then
 bif inb 0 v9.length then
 bif (v9.getD ((0:Int).toNat) default)==42 then
 bif inb 1 v9.length then
 bif (v9.getD ((1:Int).toNat) default)==105 then
 bif (((v11.X.A==(-100))&&((v11.X.B==100)&&true))&&(((v11.Y.A==(-100))&&((v11.Y.B==100)&&true))&&true)) then
 bif ((v3.1.Nodes.length:Nat):Int)==9 then
 bif inb 0 v3.1.Nodes.length then
 bif ((((v3.1.Nodes.getD ((0:Int).toNat) default).Kind)==3)&&((((v3.1.Nodes.getD ((0:Int).toNat) default).At)==42)&&true)) then
 (JK (Pattern.mk v3.1.Frame v3.1.Nodes) v1.Products v1.Saw).bind λv26=>
 qW v26
 else
 qW false
 else none
 else
 qW false
 else
 qW false
 else
 qW false
 else none
 else
 qW false
 else none
 else
 qW false
 else
 qW false
 else
 qW false
 else
 qW false
 else
 qW false
/- sawmill/sawmillref02.digit -/
def LN (x3:Bool):Option Bool:=
 some x3
def MV (a1:Int):Option Bool:=
 bif decide (a1≥48) then
 LN (decide (a1<=57))
 else
 LN false
/- sawmill/sawmillref02.IsName -/
def YG (x5:Int) (R:Int->Option (Bool⊕Unit)) (x16:Bool):Option (Bool⊕Unit):=
 bif x16 then
 some (Sum.inl false)
 else
 R (w64 (x5+1))
def BN (a1:ByteArray) (x5:Int) (R:Int->Option (Bool⊕Unit)) (x9:Bool):Option (Bool⊕Unit):=
 bif !x9 then
 bif x5==0 then
 YG x5 R true
 else
 bif inb x5 a1.size then
 bif (strAt a1 x5.toNat) !=95 then
 (MV (strAt a1 x5.toNat)).bind λv14=>
 YG x5 R (!v14)
 else
 YG x5 R false
 else none
 else
 YG x5 R false
def wV (a1:ByteArray):Nat->Int->Option (Bool⊕Unit)
 |0,_=>none
 |n+1,x5=>
 bif decide (x5<((a1.size:Nat):Int)) then
 bif inb x5 a1.size then
 bif decide ((strAt a1 x5.toNat)≥97) then
 BN a1 x5 (wV a1 n) (decide ((strAt a1 x5.toNat)<=122))
 else
 BN a1 x5 (wV a1 n) false
 else none
 else
 some (Sum.inr ())
def BL (a1:ByteArray) (x3:Bool):Option Bool:=
 bif x3 then
 some false
 else
 (wV a1 FUEL 0).bind λu20=>Sum.elim (λv21=>some v21) (λo18=>
 some true) u20
def NA (a1:ByteArray):Option Bool:=
 bif decide (((a1.size:Nat):Int)<1) then
 BL a1 true
 else
 BL a1 (decide (((a1.size:Nat):Int)>16))
/- sawmill/sawmillref19.sized -/
def XT (x5:Bool):Option Bool:=
 some x5
def CM (a1:Product):Option Bool:=
 bif decide (a1.Thick≥1) then
 bif decide (a1.Thick<=600) then
 bif decide (a1.Width≥1) then
 XT (decide (a1.Width<=600))
 else
 XT false
 else
 XT false
 else
 XT false
/- sawmill/sawmillref19.Green -/
def UI (a1:Product) (x6:Bool):Option (Int×Int):=
 bif x6 then
 some (0,0)
 else
 some (w64 (Int.tdiv (w64 ((w64 (a1.Thick*(w64 (1000+a1.Allow))))+999)) 1000),w64 (Int.tdiv (w64 ((w64 (a1.Width*(w64 (1000+a1.Allow))))+999)) 1000))
def TK (a1:Product):Option (Int×Int):=
 (CM a1).bind λv2=>
 bif !v2 then
 UI a1 true
 else
 bif decide (a1.Allow<0) then
 UI a1 true
 else
 UI a1 (decide (a1.Allow>200))
/- sawmill/sawmillref19.checkLengths -/
def YF (x5:Int) (R:Int->Option (Int⊕Unit)) (x14:Bool):Option (Int⊕Unit):=
 bif x14 then
 some (Sum.inl 11)
 else
 R (w64 (x5+1))
def YK (a1:Product) (x5:Int) (R:Int->Option (Int⊕Unit)) (x9:Bool):Option (Int⊕Unit):=
 bif x9 then
 some (Sum.inl 9)
 else
 bif decide (x5>0) then
 bif inb x5 a1.Lengths.length then
 bif inb (w64 (x5-1)) a1.Lengths.length then
 YF x5 R (decide ((a1.Lengths.getD x5.toNat default)<=(a1.Lengths.getD (w64 (x5-1)).toNat default)))
 else none
 else none
 else
 YF x5 R false
def zL (a1:Product):Nat->Int->Option (Int⊕Unit)
 |0,_=>none
 |n+1,x5=>
 bif decide (x5<((a1.Lengths.length:Nat):Int)) then
 bif inb x5 a1.Lengths.length then
 bif decide ((a1.Lengths.getD x5.toNat default)<100) then
 YK a1 x5 (zL a1 n) true
 else
 YK a1 x5 (zL a1 n) (decide ((a1.Lengths.getD x5.toNat default)>20000))
 else none
 else
 some (Sum.inr ())
def YC (x20:Int) (R:Int->Option (Int⊕Unit)) (x24:Bool):Option (Int⊕Unit):=
 bif x24 then
 some (Sum.inl 9)
 else
 R (w64 (x20+1))
def zY (a1:Product):Nat->Int->Option (Int⊕Unit)
 |0,_=>none
 |n+1,x20=>
 bif decide (x20<((a1.Prices.length:Nat):Int)) then
 bif inb x20 a1.Prices.length then
 bif decide ((a1.Prices.getD x20.toNat default)<0) then
 YC x20 (zY a1 n) true
 else
 YC x20 (zY a1 n) (decide ((a1.Prices.getD x20.toNat default)>1000000))
 else none
 else
 some (Sum.inr ())
def JT (a1:Product):Option Int:=
 bif ((a1.Lengths.length:Nat):Int)==0 then
 some 3
 else
 bif decide (((a1.Lengths.length:Nat):Int)>8) then
 some 4
 else
 bif ((a1.Prices.length:Nat):Int) !=((a1.Lengths.length:Nat):Int) then
 some 19
 else
 (zL a1 FUEL 0).bind λu18=>Sum.elim (λv19=>some v19) (λo16=>
 (zY a1 FUEL 0).bind λu28=>Sum.elim (λv29=>some v29) (λo26=>
 some 0) u28) u18
/- sawmill/sawmillref19.Check -/
def WT (a1:List Product) (x3:Int):Nat->Int->Option (Int⊕Unit)
 |0,_=>none
 |n+1,x9=>
 bif decide (x9<x3) then
 bif inb x9 a1.length then
 bif strEq ((a1.getD x9.toNat default).Name) ((a1.getD x3.toNat default).Name) then
 some (Sum.inl 7)
 else
 (WT a1 x3 n) (w64 (x9+1))
 else none
 else
 some (Sum.inr ())
def jO (a1:List Product) (x3:Int) (R:Int->Option (Int⊕Unit)) (x24:Bool):Option (Int⊕Unit):=
 bif x24 then
 some (Sum.inl 9)
 else
 (TK (a1.getD x3.toNat default)).bind λv26=>
 bif decide (v26.2>600) then
 some (Sum.inl 9)
 else
 (JT (a1.getD x3.toNat default)).bind λv29=>
 bif v29 !=0 then
 some (Sum.inl v29)
 else
 R (w64 (x3+1))
def zO (a1:List Product):Nat->Int->Option (Int⊕Unit)
 |0,_=>none
 |n+1,x3=>
 bif decide (x3<((a1.length:Nat):Int)) then
 bif inb x3 a1.length then
 (NA ((a1.getD x3.toNat default).Name)).bind λv6=>
 bif !v6 then
 some (Sum.inl 6)
 else
 (WT a1 x3 FUEL 0).bind λu15=>Sum.elim (λv16=>some (Sum.inl v16)) (λo13=>
 bif decide (((a1.getD x3.toNat default).Thick)<5) then
 jO a1 x3 (zO a1 n) true
 else
 bif decide (((a1.getD x3.toNat default).Thick)>300) then
 jO a1 x3 (zO a1 n) true
 else
 bif decide (((a1.getD x3.toNat default).Width)<((a1.getD x3.toNat default).Thick)) then
 jO a1 x3 (zO a1 n) true
 else
 bif decide (((a1.getD x3.toNat default).Width)>600) then
 jO a1 x3 (zO a1 n) true
 else
 bif decide (((a1.getD x3.toNat default).Allow)<0) then
 jO a1 x3 (zO a1 n) true
 else
 bif decide (((a1.getD x3.toNat default).Allow)>200) then
 jO a1 x3 (zO a1 n) true
 else
 bif decide (((a1.getD x3.toNat default).Wane)<0) then
 jO a1 x3 (zO a1 n) true
 else
 jO a1 x3 (zO a1 n) (decide (((a1.getD x3.toNat default).Wane)>1000))) u15
 else none
 else
 some (Sum.inr ())
def TD (a1:List Product):Option Int:=
 bif decide (((a1.length:Nat):Int)>16) then
 some 4
 else
 (zO a1 FUEL 0).bind λu34=>Sum.elim (λv35=>some v35) (λo32=>
 some 0) u34
/- sawmill/sawmillref24.add -/
def NP (a1:List Int) (x5:Int) (R:(List Int)->Bool->Int->Option ((List Int)×Bool)) (l15:List Int) (x16:Bool):Option ((List Int)×Bool):=
 bif inb x5 a1.length then
 bif room (l15.length+1) 8 then
 R (l15++([(a1.getD x5.toNat default)]:List Int)) x16 (w64 (x5+1))
 else none
 else none
def EO (a1:List Int) (x5:Int) (R:(List Int)->Bool->Int->Option ((List Int)×Bool)) (l14:List Int):Option ((List Int)×Bool):=
 NP a1 x5 R l14 true
def FW (a1:List Int) (a2:Int) (l3:List Int) (x4:Bool) (x5:Int) (R:(List Int)->Bool->Int->Option ((List Int)×Bool)) (x9:Bool):Option ((List Int)×Bool):=
 bif x9 then
 bif inb x5 a1.length then
 bif decide ((a1.getD x5.toNat default)>a2) then
 bif room (l3.length+1) 8 then
 EO a1 x5 R (l3++([a2]:List Int))
 else none
 else
 EO a1 x5 R l3
 else none
 else
 NP a1 x5 R l3 x4
def yY (a1:List Int) (a2:Int):Nat->(List Int)->Bool->Int->Option ((List Int)×Bool)
 |0,_,_,_=>none
 |n+1,l3,x4,x5=>
 bif decide (x5<((a1.length:Nat):Int)) then
 bif !x4 then
 bif inb x5 a1.length then
 FW a1 a2 l3 x4 x5 (yY a1 a2 n) (decide ((a1.getD x5.toNat default)≥a2))
 else none
 else
 FW a1 a2 l3 x4 x5 (yY a1 a2 n) false
 else
 some (l3,x4)
def AM (l25:List Int):Option (List Int):=
 some l25
def EE (a1:List Int) (a2:Int):Option (List Int):=
 (yY a1 a2 FUEL ([]:List Int) false 0).bind λo21=>
 bif !o21.2 then
 bif room (o21.1.length+1) 8 then
 AM (o21.1++([a2]:List Int))
 else none
 else
 AM o21.1
/- sawmill/sawmillref24.Heights -/
def WV (a1:List Product):Nat->(List Int)->Int->Option (List Int)
 |0,_,_=>none
 |n+1,l5,x6=>
 bif decide (x6<((a1.length:Nat):Int)) then
 bif inb x6 a1.length then
 (TK (a1.getD x6.toNat default)).bind λv9=>
 (EE l5 v9.1).bind λv11=>
 (EE v11 v9.2).bind λv13=>
 (WV a1 n) v13 (w64 (x6+1))
 else none
 else
 some l5
def DH (a1:List Product):Option (List Int):=
 (TD a1).bind λv2=>
 bif v2 !=0 then
 some ([]:List Int)
 else
 (WV a1 FUEL ([]:List Int) 0).bind λo16=>
 some o16
/- sawmill/sawmillref10.beyond -/
def AB (x3:Bool):Option Bool:=
 some x3
def EZ (a1:Int):Option Bool:=
 bif decide (a1<(-600)) then
 AB true
 else
 AB (decide (a1>600))
/- sawmill/sawmillref10.empty -/
def CP (a1:Span):Option Bool:=
 some (decide (a1.A≥a1.B))
/- sawmill/sawmillref10.Check -/
def OU (x6:Int) (R:Int->Option (Int⊕Unit)) (x14:Bool):Option (Int⊕Unit):=
 bif x14 then
 some (Sum.inl 9)
 else
 R (w64 (x6+1))
def JE (a1:qI):Nat->Int->Option (Int⊕Unit)
 |0,_=>none
 |n+1,x6=>
 bif decide (x6<((a1.Rows.length:Nat):Int)) then
 bif inb x6 a1.Rows.length then
 (EZ ((a1.Rows.getD x6.toNat default).A)).bind λv9=>
 bif v9 then
 OU x6 (JE a1 n) true
 else
 (EZ ((a1.Rows.getD x6.toNat default).B)).bind λv12=>
 OU x6 (JE a1 n) v12
 else none
 else
 some (Sum.inr ())
def IN (x31:Int) (R:Int->Option (Int⊕Unit)) (x37:Bool):Option (Int⊕Unit):=
 bif x37 then
 some (Sum.inl 19)
 else
 R (w64 (x31+1))
def JC (a1:qI):Nat->Int->Option (Int⊕Unit)
 |0,_=>none
 |n+1,x31=>
 bif decide (x31<((a1.Rows.length:Nat):Int)) then
 bif inb x31 a1.Rows.length then
 (CP (a1.Rows.getD x31.toNat default)).bind λv34=>
 bif v34 then
 IN x31 (JC a1 n) (!((((a1.Rows.getD x31.toNat default).A)==0)&&((((a1.Rows.getD x31.toNat default).B)==0)&&true)))
 else
 IN x31 (JC a1 n) false
 else none
 else
 some (Sum.inr ())
def IW (a1:qI) (x29:Bool):Option Int:=
 bif x29 then
 some 19
 else
 (JC a1 FUEL 0).bind λu41=>Sum.elim (λv42=>some v42) (λo39=>
 some 0) u41
def OY (a1:qI) (x4:Bool):Option Int:=
 bif x4 then
 some 9
 else
 (JE a1 FUEL 0).bind λu18=>Sum.elim (λv19=>some v19) (λo16=>
 bif ((a1.Rows.length:Nat):Int)==0 then
 bif a1.Low !=0 then
 some 19
 else
 some 0
 else
 bif inb 0 a1.Rows.length then
 (CP (a1.Rows.getD (0:Int).toNat default)).bind λv23=>
 bif v23 then
 IW a1 true
 else
 bif inb (w64 (((a1.Rows.length:Nat):Int)-1)) a1.Rows.length then
 (CP (a1.Rows.getD (w64 (((a1.Rows.length:Nat):Int)-1)).toNat default)).bind λv27=>
 IW a1 v27
 else none
 else none) u18
def qDA (a1:qI):Option Int:=
 bif decide (((a1.Rows.length:Nat):Int)>120) then
 some 4
 else
 bif decide (a1.Low<(-60)) then
 OY a1 true
 else
 OY a1 (decide (a1.Low>(w64 (60-((a1.Rows.length:Nat):Int)))))
/- sawmill/sawmillref11.Check -/
def IU (a1:List qB) (x4:Int) (x5:Int) (R:Int->Int->Option (Int⊕Unit)) (x13:Bool):Option (Int⊕Unit):=
 bif x13 then
 some (Sum.inl 9)
 else
 R (w64 (x4+((a1.getD x5.toNat default).Len))) (w64 (x5+1))
def JA (a1:List qB):Nat->Int->Int->Option (Int⊕Unit)
 |0,_,_=>none
 |n+1,x4,x5=>
 bif decide (x5<((a1.length:Nat):Int)) then
 bif inb x5 a1.length then
 (qDA ((a1.getD x5.toNat default).Sec)).bind λv8=>
 bif v8 !=0 then
 some (Sum.inl v8)
 else
 bif (((((a1.getD x5.toNat default).Sec).Rows).length:Nat):Int)==0 then
 some (Sum.inl 18)
 else
 bif decide (((a1.getD x5.toNat default).Len)<1) then
 IU a1 x4 x5 (JA a1 n) true
 else
 IU a1 x4 x5 (JA a1 n) (decide (((a1.getD x5.toNat default).Len)>(w64 (20000-x4))))
 else none
 else
 some (Sum.inr ())
def qDl (a1:List qB):Option Int:=
 bif ((a1.length:Nat):Int)==0 then
 some 3
 else
 bif decide (((a1.length:Nat):Int)>24) then
 some 4
 else
 (JA a1 FUEL 0 0).bind λu17=>Sum.elim (λv18=>some v18) (λo15=>
 some 0) u17
/- sawmill/sawmillref20.from -/
def HW (x5:Bool):Option Bool:=
 some x5
def ZV (a1:Int) (a2:Int) (a3:Int):Option Bool:=
 bif decide (a1≥a2) then
 HW (decide (a1<=a3))
 else
 HW false
/- sawmill/sawmillref20.Check -/
def UE (x24:Bool):Option Int:=
 bif x24 then
 some 9
 else
 some 0
def XW (a2:Rates) (x14:Bool):Option Int:=
 bif x14 then
 some 9
 else
 (ZV a2.Chip 0 1000).bind λv16=>
 bif !v16 then
 UE true
 else
 (ZV a2.Dust 0 1000).bind λv19=>
 bif !v19 then
 UE true
 else
 (ZV a2.Fine 0 1000000).bind λv22=>
 UE (!v22)
def HD (a1:Saw) (a2:Rates):Option Int:=
 (ZV a1.Kerf 0 20).bind λv3=>
 bif !v3 then
 XW a2 true
 else
 (ZV a1.Trim 0 20).bind λv6=>
 bif !v6 then
 XW a2 true
 else
 (ZV a1.Pitch 1 2000).bind λv9=>
 bif !v9 then
 XW a2 true
 else
 (ZV a1.Step 1 20000).bind λv12=>
 XW a2 (!v12)
/- sawmill/sawmillref23.Sizes -/
def TX (x8:Int) (R:(List Int)->(List Int)->Int->Option ((List Int)×(List Int))) (l19:List Int) (l20:List Int):Option ((List Int)×(List Int)):=
 R l19 l20 (w64 (x8+1))
def jL (a1:List Product) (a2:Int):Nat->(List Int)->(List Int)->Int->Option ((List Int)×(List Int))
 |0,_,_,_=>none
 |n+1,l6,l7,x8=>
 bif decide (x8<((a1.length:Nat):Int)) then
 bif inb x8 a1.length then
 (TK (a1.getD x8.toNat default)).bind λv11=>
 bif v11.1==a2 then
 bif room (l6.length+1) 8 then
 bif room (l7.length+1) 8 then
 TX x8 (jL a1 a2 n) (l6++([v11.2]:List Int)) (l7++([x8]:List Int))
 else none
 else none
 else
 bif v11.2==a2 then
 bif room (l6.length+1) 8 then
 bif room (l7.length+1) 8 then
 TX x8 (jL a1 a2 n) (l6++([v11.1]:List Int)) (l7++([x8]:List Int))
 else none
 else none
 else
 TX x8 (jL a1 a2 n) l6 l7
 else none
 else
 some (l6,l7)
def HE (a1:List Product) (a2:Int):Option ((List Int)×(List Int)):=
 (TD a1).bind λv3=>
 bif v3 !=0 then
 some (([]:List Int),([]:List Int))
 else
 (jL a1 a2 FUEL ([]:List Int) ([]:List Int) 0).bind λo23=>
 some (o23.1,o23.2)
/- sawmill/sawmillref11.Length -/
def YN (a1:List qB):Nat->Int->Int->Option Int
 |0,_,_=>none
 |n+1,x5,x6=>
 bif decide (x6<((a1.length:Nat):Int)) then
 bif inb x6 a1.length then
 (YN a1 n) (w64 (x5+((a1.getD x6.toNat default).Len))) (w64 (x6+1))
 else none
 else
 some x5
def qFV (a1:List qB):Option Int:=
 (qDl a1).bind λv2=>
 bif v2 !=0 then
 some 0
 else
 (YN a1 FUEL 0 0).bind λo10=>
 some o10
/- sawmill/sawmillref21.Framed -/
def ZA (x7:Bool):Option Bool:=
 some x7
def JY (a1:Rect):Option Bool:=
 bif decide (a1.X.A<a1.X.B) then
 bif decide (a1.Y.A<a1.Y.B) then
 bif decide (a1.X.A≥(-600)) then
 bif decide (a1.X.B<=600) then
 bif decide (a1.Y.A≥(-600)) then
 ZA (decide (a1.Y.B<=600))
 else
 ZA false
 else
 ZA false
 else
 ZA false
 else
 ZA false
 else
 ZA false
/- sawmill/sawmillref21.Row -/
def FE (a3:Int) (a4:List Span) (a5:List (List Node)) (x18:Span) (x22:Int) (R:(List Node)->Int->Bool->Int->Option (((List Node)×Int)⊕((List Node)×Bool))) (l36:List Node):Option (((List Node)×Int)⊕((List Node)×Bool)):=
 bif inb x22 a5.length then
 bif room (l36.length+(a5.getD x22.toNat default).length) 16 then
 R (l36++(a5.getD x22.toNat default)) (imin (w64 (((a4.getD x22.toNat default).B)+a3)) x18.B) (((a4.getD x22.toNat default).B)==x18.B) (w64 (x22+1))
 else none
 else none
def KP (a2:Int) (a3:Int) (a4:List Span) (a5:List (List Node)) (x18:Span) (x22:Int) (R:(List Node)->Int->Bool->Int->Option (((List Node)×Int)⊕((List Node)×Bool))) (l33:List Node):Option (((List Node)×Int)⊕((List Node)×Bool)):=
 bif !(((a4.getD x22.toNat default).B)==x18.B) then
 bif room (l33.length+1) 16 then
 FE a3 a4 a5 x18 x22 R (l33++([(Node.mk a2 ((a4.getD x22.toNat default).B))]:List Node))
 else none
 else
 FE a3 a4 a5 x18 x22 R l33
def KM (a2:Int) (a3:Int) (a4:List Span) (a5:List (List Node)) (x18:Span) (l19:List Node) (x20:Int) (x22:Int) (R:(List Node)->Int->Bool->Int->Option (((List Node)×Int)⊕((List Node)×Bool))) (x28:Bool):Option (((List Node)×Int)⊕((List Node)×Bool)):=
 bif x28 then
 some (Sum.inl (([]:List Node),11))
 else
 bif decide (((a4.getD x22.toNat default).B)>x18.B) then
 some (Sum.inl (([]:List Node),20))
 else
 bif ((a4.getD x22.toNat default).A) !=x20 then
 bif room (l19.length+2) 16 then
 KP a2 a3 a4 a5 x18 x22 R (l19++([(Node.mk a2 (w64 (((a4.getD x22.toNat default).A)-a3))),(Node.mk 0 0)]:List Node))
 else none
 else
 KP a2 a3 a4 a5 x18 x22 R l19
def zU (a2:Int) (a3:Int) (a4:List Span) (a5:List (List Node)) (x18:Span):Nat->(List Node)->Int->Bool->Int->Option (((List Node)×Int)⊕((List Node)×Bool))
 |0,_,_,_,_=>none
 |n+1,l19,x20,x21,x22=>
 bif decide (x22<((a4.length:Nat):Int)) then
 bif inb x22 a4.length then
 bif decide (((a4.getD x22.toNat default).A)≥((a4.getD x22.toNat default).B)) then
 some (Sum.inl (([]:List Node),19))
 else
 bif x21 then
 KM a2 a3 a4 a5 x18 l19 x20 x22 (zU a2 a3 a4 a5 x18 n) true
 else
 bif ((a4.getD x22.toNat default).A) !=x20 then
 KM a2 a3 a4 a5 x18 l19 x20 x22 (zU a2 a3 a4 a5 x18 n) (decide (((a4.getD x22.toNat default).A)<(w64 ((w64 (x20+a3))+1))))
 else
 KM a2 a3 a4 a5 x18 l19 x20 x22 (zU a2 a3 a4 a5 x18 n) false
 else none
 else
 some (Sum.inr (l19,x21))
def FC (l47:List Node):Option ((List Node)×Int):=
 bif decide (((l47.length:Nat):Int)>127) then
 some (([]:List Node),4)
 else
 some (l47,0)
def KY (a2:Int) (a3:Int) (a4:List Span) (a5:List (List Node)) (x18:Span):Option ((List Node)×Int):=
 (zU a2 a3 a4 a5 x18 FUEL ([]:List Node) x18.A false 0).bind λu43=>Sum.elim (λv44=>some v44) (λo41=>
 bif !o41.2 then
 bif room (o41.1.length+1) 16 then
 FC (o41.1++([(Node.mk 0 0)]:List Node))
 else none
 else
 FC o41.1) u43
def FO (a1:Rect) (a2:Int) (a3:Int) (a4:List Span) (a5:List (List Node)) (x15:Bool):Option ((List Node)×Int):=
 bif x15 then
 some (([]:List Node),9)
 else
 bif a2==3 then
 KY a2 a3 a4 a5 a1.Y
 else
 KY a2 a3 a4 a5 a1.X
def NJ (a1:Rect) (a2:Int) (a3:Int) (a4:List Span) (a5:List (List Node)) (x12:Bool):Option ((List Node)×Int):=
 bif x12 then
 some (([]:List Node),19)
 else
 bif decide (a3<0) then
 FO a1 a2 a3 a4 a5 true
 else
 FO a1 a2 a3 a4 a5 (decide (a3>20))
def NU (a1:Rect) (a2:Int) (a3:Int) (a4:List Span) (a5:List (List Node)) (x7:Bool):Option ((List Node)×Int):=
 bif x7 then
 some (([]:List Node),10)
 else
 (JY a1).bind λv9=>
 bif !v9 then
 NJ a1 a2 a3 a4 a5 true
 else
 NJ a1 a2 a3 a4 a5 (((a4.length:Nat):Int) !=((a5.length:Nat):Int))
def RQ (a1:Rect) (a2:Int) (a3:Int) (a4:List Span) (a5:List (List Node)):Option ((List Node)×Int):=
 bif a2 !=2 then
 NU a1 a2 a3 a4 a5 (a2 !=3)
 else
 NU a1 a2 a3 a4 a5 false
/- sawmill/sawmillref24.waste -/
def HG (a1:Node):Option Bool:=
 some (a1.Kind==0)
/- sawmill/sawmillref24.tree -/
def HX (x3:Int) (R:Int->Int->Option (Int⊕Int)) (x11:Int):Option (Int⊕Int):=
 R (w64 (x3+1)) x11
def HS (x3:Int) (x4:Int) (R:Int->Int->Option (Int⊕Int)) (x9:Bool):Option (Int⊕Int):=
 bif x9 then
 HX x3 R (w64 (x4+1))
 else
 HX x3 R (w64 (x4-1))
def zP (a1:List Node):Nat->Int->Int->Option (Int⊕Int)
 |0,_,_=>none
 |n+1,x3,x4=>
 bif decide (x4>0) then
 bif decide (x3≥((a1.length:Nat):Int)) then
 some (Sum.inl (-1))
 else
 bif inb x3 a1.length then
 bif ((a1.getD x3.toNat default).Kind)==2 then
 HS x3 x4 (zP a1 n) true
 else
 HS x3 x4 (zP a1 n) (((a1.getD x3.toNat default).Kind)==3)
 else none
 else
 some (Sum.inr x3)
def RH (a1:List Node) (a2:Int):Option Int:=
 (zP a1 FUEL a2 1).bind λu15=>Sum.elim (λv16=>some v16) (λo13=>
 some o13) u15
/- sawmill/sawmillref24.unrow -/
def TY (l5:List Ref24_part) (x15:Bool):Option (((List Ref24_part)×Bool)⊕Unit):=
 some (Sum.inl (l5,x15))
def QN (a1:List Node) (a2:Span) (a4:Int) (l5:List Ref24_part) (x6:Int) (x7:Int) (x8:Bool) (R:(List Ref24_part)->Int->Int->Bool->Option (((List Ref24_part)×Bool)⊕Unit)) (x22:Bool):Option (((List Ref24_part)×Bool)⊕Unit):=
 bif x22 then
 some (Sum.inl (([]:List Ref24_part),false))
 else
 bif inb (w64 (x6+1)) a1.length then
 (HG (a1.getD (w64 (x6+1)).toNat default)).bind λv25=>
 bif v25 then
 bif x8 then
 some (Sum.inl (([]:List Ref24_part),false))
 else
 R l5 (w64 (x6+2)) (imin (w64 (((a1.getD x6.toNat default).At)+a4)) a2.B) true
 else
 (RH a1 (w64 (x6+1))).bind λv29=>
 bif decide (v29<0) then
 some (Sum.inl (([]:List Ref24_part),false))
 else
 bif room (l5.length+1) 32 then
 R (l5++([(Ref24_part.mk (Span.mk x7 ((a1.getD x6.toNat default).At)) (w64 (x6+1)) v29)]:List Ref24_part)) v29 (imin (w64 (((a1.getD x6.toNat default).At)+a4)) a2.B) false
 else none
 else none
def zN (a1:List Node) (a2:Span) (a3:Int) (a4:Int):Nat->(List Ref24_part)->Int->Int->Bool->Option (((List Ref24_part)×Bool)⊕Unit)
 |0,_,_,_,_=>none
 |n+1,l5,x6,x7,x8=>
 bif decide (x6<((a1.length:Nat):Int)) then
 bif inb x6 a1.length then
 (HG (a1.getD x6.toNat default)).bind λv11=>
 bif v11 then
 bif !x8 then
 TY l5 (x6==(w64 (((a1.length:Nat):Int)-1)))
 else
 TY l5 false
 else
 bif ((a1.getD x6.toNat default).Kind) !=a3 then
 (RH a1 x6).bind λv17=>
 bif room (l5.length+1) 32 then
 some (Sum.inl ((l5++([(Ref24_part.mk (Span.mk x7 a2.B) x6 v17)]:List Ref24_part)),v17==((a1.length:Nat):Int)))
 else none
 else
 bif decide (((a1.getD x6.toNat default).At)<=x7) then
 QN a1 a2 a4 l5 x6 x7 x8 (zN a1 a2 a3 a4 n) true
 else
 bif decide (((a1.getD x6.toNat default).At)≥a2.B) then
 QN a1 a2 a4 l5 x6 x7 x8 (zN a1 a2 a3 a4 n) true
 else
 QN a1 a2 a4 l5 x6 x7 x8 (zN a1 a2 a3 a4 n) (decide ((w64 (x6+1))≥((a1.length:Nat):Int)))
 else none
 else
 some (Sum.inr ())
def DN (a1:List Node) (a2:Span) (a3:Int) (a4:Int):Option ((List Ref24_part)×Bool):=
 (zN a1 a2 a3 a4 FUEL ([]:List Ref24_part) 0 a2.A false).bind λu35=>Sum.elim (λv36=>some v36) (λo33=>
 some (([]:List Ref24_part),false)) u35
/- sawmill/sawmillref24.spans -/
def KB (a1:List Ref24_part):Nat->(List Span)->Int->Option (List Span)
 |0,_,_=>none
 |n+1,l2,x3=>
 bif decide (x3<((a1.length:Nat):Int)) then
 bif inb x3 a1.length then
 bif room (l2.length+1) 16 then
 (KB a1 n) (l2++([(a1.getD x3.toNat default).at_]:List Span)) (w64 (x3+1))
 else none
 else none
 else
 some l2
def CL (a1:List Ref24_part):Option (List Span):=
 (KB a1 FUEL ([]:List Span) 0).bind λo8=>
 some o8
/- sawmill/sawmillref23.SameNodes -/
def QR (a1:List Node) (a2:List Node):Nat->Int->Option (Bool⊕Unit)
 |0,_=>none
 |n+1,x4=>
 bif decide (x4<((a1.length:Nat):Int)) then
 bif inb x4 a1.length then
 bif inb x4 a2.length then
 bif !((((a1.getD x4.toNat default).Kind)==((a2.getD x4.toNat default).Kind))&&((((a1.getD x4.toNat default).At)==((a2.getD x4.toNat default).At))&&true)) then
 some (Sum.inl false)
 else
 (QR a1 a2 n) (w64 (x4+1))
 else none
 else none
 else
 some (Sum.inr ())
def RT (a1:List Node) (a2:List Node):Option Bool:=
 bif ((a1.length:Nat):Int) !=((a2.length:Nat):Int) then
 some false
 else
 (QR a1 a2 FUEL 0).bind λu11=>Sum.elim (λv12=>some v12) (λo9=>
 some true) u11
/- sawmill/sawmillref24.same -/
def PP (a1:List Node) (a5:List Ref24_part):Nat->(List (List Node))->Int->Option (List (List Node))
 |0,_,_=>none
 |n+1,l6,x7=>
 bif decide (x7<((a5.length:Nat):Int)) then
 bif inb x7 a5.length then
 bif slOk ((a5.getD x7.toNat default).from_) ((a5.getD x7.toNat default).to) a1.length then
 bif room (l6.length+1) 24 then
 (PP a1 a5 n) (l6++([((a1.drop (((a5.getD x7.toNat default).from_).toNat)).take (((a5.getD x7.toNat default).to).toNat-((a5.getD x7.toNat default).from_).toNat))]:List (List Node))) (w64 (x7+1))
 else none
 else none
 else none
 else
 some l6
def HY (x22:Bool):Option Bool:=
 some x22
def LM (a1:List Node) (a2:Rect) (a3:Int) (a4:Int) (a5:List Ref24_part):Option Bool:=
 (PP a1 a5 FUEL ([]:List (List Node)) 0).bind λo13=>
 (CL a5).bind λv15=>
 (RQ a2 a3 a4 v15 o13).bind λv17=>
 bif v17.2==0 then
 (RT a1 v17.1).bind λv20=>
 HY v20
 else
 HY false
/- sawmill/sawmillref24.in -/
def DL (a1:List Int) (a2:Int):Nat->Int->Option (Bool⊕Unit)
 |0,_=>none
 |n+1,x3=>
 bif decide (x3<((a1.length:Nat):Int)) then
 bif inb x3 a1.length then
 bif (a1.getD x3.toNat default)==a2 then
 some (Sum.inl true)
 else
 (DL a1 a2 n) (w64 (x3+1))
 else none
 else
 some (Sum.inr ())
def qBZ (a1:List Int) (a2:Int):Option Bool:=
 (DL a1 a2 FUEL 0).bind λu9=>Sum.elim (λv10=>some v10) (λo7=>
 some false) u9
/- sawmill/sawmillref24.isStrip -/
def KJ (x25:Int) (R:Bool->Int->Option Bool) (x32:Bool):Option Bool:=
 R x32 (w64 (x25+1))
def wP (a1:List Node) (v5:(List Ref24_part)×Bool) (v13:(List Int)×(List Int)) (x15:Int):Nat->Bool->Int->Option Bool
 |0,_,_=>none
 |n+1,x24,x25=>
 bif decide (x25<((v13.1.length:Nat):Int)) then
 bif x24 then
 KJ x25 (wP a1 v5 v13 x15 n) true
 else
 bif inb x25 v13.1.length then
 bif inb x15 v5.1.length then
 bif (v13.1.getD x25.toNat default)==(w64 ((((v5.1.getD x15.toNat default).at_).B)-(((v5.1.getD x15.toNat default).at_).A))) then
 bif inb x25 v13.2.length then
 KJ x25 (wP a1 v5 v13 x15 n) ((v13.2.getD x25.toNat default)==((a1.getD ((v5.1.getD x15.toNat default).from_).toNat default).At))
 else none
 else
 KJ x25 (wP a1 v5 v13 x15 n) false
 else none
 else none
 else
 some x24
def KW (a1:List Node) (v5:(List Ref24_part)×Bool) (v13:(List Int)×(List Int)) (x15:Int) (R:Int->Option (Bool⊕Unit)) (x22:Bool):Option (Bool⊕Unit):=
 bif x22 then
 some (Sum.inl false)
 else
 (wP a1 v5 v13 x15 FUEL false 0).bind λo34=>
 bif !o34 then
 some (Sum.inl false)
 else
 R (w64 (x15+1))
def jB (a1:List Node) (a2:Rect) (a4:Saw) (v5:(List Ref24_part)×Bool) (v13:(List Int)×(List Int)):Nat->Int->Option (Bool⊕Unit)
 |0,_=>none
 |n+1,x15=>
 bif decide (x15<((v5.1.length:Nat):Int)) then
 bif inb x15 v5.1.length then
 bif inb ((v5.1.getD x15.toNat default).from_) a1.length then
 bif ((v5.1.getD x15.toNat default).to) !=(w64 (((v5.1.getD x15.toNat default).from_)+1)) then
 KW a1 v5 v13 x15 (jB a1 a2 a4 v5 v13 n) true
 else
 bif ((a1.getD ((v5.1.getD x15.toNat default).from_).toNat default).Kind) !=1 then
 KW a1 v5 v13 x15 (jB a1 a2 a4 v5 v13 n) true
 else
 bif nz a4.Pitch then
 KW a1 v5 v13 x15 (jB a1 a2 a4 v5 v13 n) ((Int.tmod (w64 ((((v5.1.getD x15.toNat default).at_).A)-a2.X.A)) a4.Pitch) !=0)
 else none
 else none
 else none
 else
 some (Sum.inr ())
def KL (a1:List Node) (a2:Rect) (a3:List Product) (a4:Saw) (v5:(List Ref24_part)×Bool) (x11:Bool):Option Bool:=
 bif x11 then
 some false
 else
 (HE a3 (w64 (a2.Y.B-a2.Y.A))).bind λv13=>
 (jB a1 a2 a4 v5 v13 FUEL 0).bind λu39=>Sum.elim (λv40=>some v40) (λo37=>
 some true) u39
def PJ (a1:List Node) (a2:Rect) (a3:List Product) (a4:Saw):Option Bool:=
 (DN a1 a2.X 2 a4.Kerf).bind λv5=>
 bif !v5.2 then
 KL a1 a2 a3 a4 v5 true
 else
 bif ((v5.1.length:Nat):Int)==0 then
 KL a1 a2 a3 a4 v5 true
 else
 (LM a1 a2 2 a4.Kerf v5.1).bind λv9=>
 KL a1 a2 a3 a4 v5 (!v9)
/- sawmill/sawmillref24.Member -/
def RV (x22:Int) (R:Int->Option (Bool⊕Unit)) (x35:Bool):Option (Bool⊕Unit):=
 bif x35 then
 some (Sum.inl false)
 else
 R (w64 (x22+1))
def jS (a1:Pattern) (a2:List Product) (a3:Saw) (v15:(List Ref24_part)×Bool):Nat->Int->Option (Bool⊕Unit)
 |0,_=>none
 |n+1,x22=>
 bif decide (x22<((v15.1.length:Nat):Int)) then
 bif inb x22 v15.1.length then
 bif nz a3.Pitch then
 bif (Int.tmod (w64 ((((v15.1.getD x22.toNat default).at_).A)-a1.Frame.Y.A)) a3.Pitch) !=0 then
 RV x22 (jS a1 a2 a3 v15 n) true
 else
 (DH a2).bind λv27=>
 (qBZ v27 (w64 ((((v15.1.getD x22.toNat default).at_).B)-(((v15.1.getD x22.toNat default).at_).A)))).bind λv29=>
 bif !v29 then
 RV x22 (jS a1 a2 a3 v15 n) true
 else
 bif slOk ((v15.1.getD x22.toNat default).from_) ((v15.1.getD x22.toNat default).to) a1.Nodes.length then
 (PJ ((a1.Nodes.drop (((v15.1.getD x22.toNat default).from_).toNat)).take (((v15.1.getD x22.toNat default).to).toNat-((v15.1.getD x22.toNat default).from_).toNat)) (Rect.mk a1.Frame.X ((v15.1.getD x22.toNat default).at_)) a2 a3).bind λv33=>
 RV x22 (jS a1 a2 a3 v15 n) (!v33)
 else none
 else none
 else none
 else
 some (Sum.inr ())
def BQ (a1:Pattern) (a2:List Product) (a3:Saw) (v15:(List Ref24_part)×Bool) (x20:Bool):Option Bool:=
 bif x20 then
 some false
 else
 (jS a1 a2 a3 v15 FUEL 0).bind λu39=>Sum.elim (λv40=>some v40) (λo37=>
 some true) u39
def ZJ (a1:Pattern) (a2:List Product) (a3:Saw) (x13:Bool):Option Bool:=
 bif x13 then
 some false
 else
 (DN a1.Nodes a1.Frame.Y 3 a3.Kerf).bind λv15=>
 bif !v15.2 then
 BQ a1 a2 a3 v15 true
 else
 (LM a1.Nodes a1.Frame 3 a3.Kerf v15.1).bind λv18=>
 BQ a1 a2 a3 v15 (!v18)
def UK (a1:Pattern) (a2:List Product) (a3:Saw):Option Bool:=
 (TD a2).bind λv4=>
 bif v4 !=0 then
 ZJ a1 a2 a3 true
 else
 (HD a3 (Rates.mk 0 0 0)).bind λv7=>
 bif v7 !=0 then
 ZJ a1 a2 a3 true
 else
 (JY a1.Frame).bind λv10=>
 bif !v10 then
 ZJ a1 a2 a3 true
 else
 ZJ a1 a2 a3 (decide (((a1.Nodes.length:Nat):Int)>127))
/- sawmill/sawmilllaw24.PlanMembers -/
def ZP (x18:Bool):Option Bool:=
 some x18
def VT (a1:Pattern) (a2:List Product) (a3:Saw) (x7:Bool):Option Bool:=
 bif x7 then
 (TC).bind λv9=>
 some v9
 else
 (JK a1 a2 a3).bind λv11=>
 (UK a1 a2 a3).bind λv13=>
 bif v11==v13 then
 (TC).bind λv16=>
 ZP v16
 else
 ZP false
def TN (a1:Pattern) (a2:List Product) (a3:Saw):Option Bool:=
 bif decide (((a1.Nodes.length:Nat):Int)>140) then
 VT a1 a2 a3 true
 else
 (EI a2).bind λv5=>
 VT a1 a2 a3 (!v5)
/- sawmill/pattern.places -/
def QS (a1:Pattern) (a2:Int):Option (Pattern×Int):=
 some (a1,a2)
/- sawmill/pattern.checkNode -/
def XI :Option Int:=
 some 0
def GB (x15:Bool):Option Int:=
 bif x15 then
 some 20
 else
 XI
def yK (a1:Node) (a2:Pattern_place) (x6:Bool):Option Int:=
 bif x6 then
 some 10
 else
 bif decide (a2.level>64) then
 some 28
 else
 (wI a1.Kind).bind λv9=>
 bif v9 then
 (QF a2.rect a1.Kind).bind λv12=>
 bif decide (a1.At<=v12.A) then
 GB true
 else
 GB (decide (a1.At≥v12.B))
 else
 XI
def TO (a1:Node) (a2:Pattern_place):Option Int:=
 bif decide (a1.Kind<0) then
 yK a1 a2 true
 else
 bif decide (a1.Kind>3) then
 yK a1 a2 true
 else
 bif a1.Kind==0 then
 yK a1 a2 (a1.At !=0)
 else
 yK a1 a2 false
/- sawmill/pattern.Check$1 -/
def QL (x18:Bool):Option Int:=
 bif x18 then
 some 20
 else
 some 0
def JP (a1:Rect) (a2:Int) (a3:List Product) (x5:Bool):Option Int:=
 bif x5 then
 some 8
 else
 bif inb a2 a3.length then
 (QE (a3.getD a2.toNat default)).bind λv8=>
 (YY a1.X).bind λv10=>
 (YY a1.Y).bind λv12=>
 bif v10 !=v8.1 then
 bif v10 !=v8.2 then
 QL true
 else
 QL (v12 !=v8.1)
 else
 bif v12 !=v8.2 then
 bif v10 !=v8.2 then
 QL true
 else
 QL (v12 !=v8.1)
 else
 QL false
 else none
def EL (a1:Rect) (a2:Int) (a3:List Product):Option Int:=
 bif decide (a2<0) then
 JP a1 a2 a3 true
 else
 JP a1 a2 a3 (decide (a2≥((a3.length:Nat):Int)))
/- sawmill/pattern.check -/
def TJ (a1:Int) (a5:Int) (a6:Int) (x16:Int):Option (Nat×Int×Int):=
 bif x16 !=0 then
 some (1,x16,a6)
 else
 some (0,a5,w64 (a1+1))
def TB (a1:Int) (a2:Pattern_place) (a3:Pattern) (a4:List Product) (a5:Int) (a6:Int) (v9:Int) (x12:Bool):Option (Nat×Int×Int):=
 bif x12 then
 (EL a2.rect ((a3.Nodes.getD a1.toNat default).At) a4).bind λv14=>
 TJ a1 a5 a6 v14
 else
 TJ a1 a5 a6 v9
def WJ (a1:Int) (a2:Pattern_place) (a3:Pattern) (a4:List Product) (a5:Int) (a6:Int):Option (Nat×Int×Int):=
 bif decide (a1≥((a3.Nodes.length:Nat):Int)) then
 some (1,3,a6)
 else
 bif inb a1 a3.Nodes.length then
 (TO (a3.Nodes.getD a1.toNat default) a2).bind λv9=>
 bif v9==0 then
 TB a1 a2 a3 a4 a5 a6 v9 (((a3.Nodes.getD a1.toNat default).Kind)==1)
 else
 TB a1 a2 a3 a4 a5 a6 v9 false
 else none
/- sawmill/pattern.with -/
def AV (x5:Rect):Option Rect:=
 some x5
def FQ (a1:Rect) (a2:Int) (a3:Span):Option Rect:=
 bif a2==2 then
 AV (Rect.mk a3 a1.Y)
 else
 AV (Rect.mk a1.X a3)
/- sawmill/pattern.parts -/
def ZZ (a1:Rect) (a2:Node) (a3:Int):Option (Rect×Rect×Rect):=
 (QF a1 a2.Kind).bind λv4=>
 (FQ a1 a2.Kind (Span.mk v4.A a2.At)).bind λv6=>
 (FQ a1 a2.Kind (Span.mk a2.At (imin (w64 (a2.At+a3)) v4.B))).bind λv8=>
 (FQ a1 a2.Kind (Span.mk (imin (w64 (a2.At+a3)) v4.B) v4.B)).bind λv10=>
 some (v6,v8,v10)
/- sawmill/pattern.places$1 -/
def DW (x8:Int) (R:(List Pattern_place)->Int->Int->Int->Option ((Nat×Int×Int)⊕(Int×Int))) (l25:List Pattern_place) (x26:Int) (x27:Int):Option ((Nat×Int×Int)⊕(Int×Int)):=
 R l25 (w64 (x8+1)) x27 x26
def WL (a1:Pattern) (a2:List Product) (a5:Pattern) (a6:Int):Nat->(List Pattern_place)->Int->Int->Int->Option ((Nat×Int×Int)⊕(Int×Int))
 |0,_,_,_,_=>none
 |n+1,l7,x8,x9,x10=>
 bif decide (((l7.length:Nat):Int)>0) then
 bif inb (w64 (((l7.length:Nat):Int)-1)) l7.length then
 bif slOk 0 (w64 (((l7.length:Nat):Int)-1)) l7.length then
 (WJ x8 (l7.getD ((w64 (((l7.length:Nat):Int)-1)).toNat) default) a1 a2 x9 x10).bind λv14=>
 bif !(Nat.beq v14.1 0) then
 some (Sum.inl (v14.1,v14.2.1,v14.2.2))
 else
 bif decide (x8≥((a5.Nodes.length:Nat):Int)) then
 some (Sum.inl (0,v14.2.1,v14.2.2))
 else
 bif inb x8 a5.Nodes.length then
 (wI ((a5.Nodes.getD x8.toNat default).Kind)).bind λv19=>
 bif v19 then
 (ZZ ((l7.getD ((w64 (((l7.length:Nat):Int)-1)).toNat) default).rect) (a5.Nodes.getD x8.toNat default) a6).bind λv22=>
 bif room ((w64 (((l7.length:Nat):Int)-1)).toNat+2) 40 then
 DW x8 (WL a1 a2 a5 a6 n) ((l7.take ((w64 (((l7.length:Nat):Int)-1)).toNat))++([(Pattern_place.mk v22.2.2 (w64 (((l7.getD ((w64 (((l7.length:Nat):Int)-1)).toNat) default).level)+1))),(Pattern_place.mk v22.1 (w64 (((l7.getD ((w64 (((l7.length:Nat):Int)-1)).toNat) default).level)+1)))]:List Pattern_place)) v14.2.2 v14.2.1
 else none
 else
 DW x8 (WL a1 a2 a5 a6 n) (l7.take ((w64 (((l7.length:Nat):Int)-1)).toNat)) v14.2.2 v14.2.1
 else none
 else none
 else none
 else
 some (Sum.inr (x10,x9))
def SI (a1:Pattern) (a2:List Product) (a3:Int) (a4:Int) (a5:Pattern) (a6:Int):Option (Nat×Int×Int):=
 (WL a1 a2 a5 a6 FUEL ([(Pattern_place.mk a5.Frame 1)]:List Pattern_place) 0 a3 a4).bind λu32=>Sum.elim (λv33=>some v33) (λo30=>
 some (0,o30.2,o30.1)) u32
/- sawmill/pattern.check -/
def KU (a1:Pattern) (a2:Int) (a3:List Product) (x8:Bool):Option Int:=
 bif x8 then
 some 9
 else
 bif decide (((a1.Nodes.length:Nat):Int)>127) then
 some 4
 else
 (QS a1 a2).bind λv11=>
 (SI a1 a3 0 0 v11.1 v11.2).bind λv13=>
 bif Nat.beq v13.1 0 then
 bif decide (v13.2.2<((a1.Nodes.length:Nat):Int)) then
 some 4
 else
 some 0
 else
 bif Nat.beq v13.1 1 then
 some v13.2.1
 else
 none
def qFq (a1:Pattern) (a2:Int) (a3:List Product):Option Int:=
 (jQ a1.Frame).bind λv4=>
 bif !v4 then
 some 19
 else
 bif decide (a2<0) then
 KU a1 a2 a3 true
 else
 KU a1 a2 a3 (decide (a2>20))
/- sawmill/pattern.Check -/
def qAI (a1:Pattern) (a2:List Product) (a3:Int):Option Int:=
 (qFq a1 a3 a2).bind λv4=>
 some v4
/- sawmill/yield.check -/
def CT (a1:List qB) (a2:List Defect) (a3:List Product) (a4:Pattern) (a5:Saw) (a6:Rates):Option Int:=
 (JG a1).bind λv7=>
 bif v7 !=0 then
 some v7
 else
 (JX a2).bind λv10=>
 bif v10 !=0 then
 some v10
 else
 (jH a3).bind λv13=>
 bif v13 !=0 then
 some v13
 else
 (XR a5 a6).bind λv16=>
 bif v16 !=0 then
 some v16
 else
 (qAI a4 a3 a5.Kerf).bind λv19=>
 some v19
/- sawmill/pattern.anyBoard -/
def DR (x4:Bool):Option Int:=
 bif x4 then
 some 8
 else
 some 0
def SN (a1:Rect) (a2:Int):Option Int:=
 bif decide (a2<0) then
 DR true
 else
 DR (decide (a2≥16))
/- sawmill/pattern.check -/
def XE (a1:Int) (a4:Int) (a5:Int) (x15:Int):Option (Nat×Int×Int):=
 bif x15 !=0 then
 some (1,x15,a5)
 else
 some (0,a4,w64 (a1+1))
def XG (a1:Int) (a2:Pattern_place) (a3:Pattern) (a4:Int) (a5:Int) (v8:Int) (x11:Bool):Option (Nat×Int×Int):=
 bif x11 then
 (SN a2.rect ((a3.Nodes.getD a1.toNat default).At)).bind λv13=>
 XE a1 a4 a5 v13
 else
 XE a1 a4 a5 v8
def QC (a1:Int) (a2:Pattern_place) (a3:Pattern) (a4:Int) (a5:Int):Option (Nat×Int×Int):=
 bif decide (a1≥((a3.Nodes.length:Nat):Int)) then
 some (1,3,a5)
 else
 bif inb a1 a3.Nodes.length then
 (TO (a3.Nodes.getD a1.toNat default) a2).bind λv8=>
 bif v8==0 then
 XG a1 a2 a3 a4 a5 v8 (((a3.Nodes.getD a1.toNat default).Kind)==1)
 else
 XG a1 a2 a3 a4 a5 v8 false
 else none
/- sawmill/pattern.places$1 -/
def TE (x7:Int) (R:(List Pattern_place)->Int->Int->Int->Option ((Nat×Int×Int)⊕(Int×Int))) (l24:List Pattern_place) (x25:Int) (x26:Int):Option ((Nat×Int×Int)⊕(Int×Int)):=
 R l24 (w64 (x7+1)) x26 x25
def yT (a1:Pattern) (a4:Pattern) (a5:Int):Nat->(List Pattern_place)->Int->Int->Int->Option ((Nat×Int×Int)⊕(Int×Int))
 |0,_,_,_,_=>none
 |n+1,l6,x7,x8,x9=>
 bif decide (((l6.length:Nat):Int)>0) then
 bif inb (w64 (((l6.length:Nat):Int)-1)) l6.length then
 bif slOk 0 (w64 (((l6.length:Nat):Int)-1)) l6.length then
 (QC x7 (l6.getD ((w64 (((l6.length:Nat):Int)-1)).toNat) default) a1 x8 x9).bind λv13=>
 bif !(Nat.beq v13.1 0) then
 some (Sum.inl (v13.1,v13.2.1,v13.2.2))
 else
 bif decide (x7≥((a4.Nodes.length:Nat):Int)) then
 some (Sum.inl (0,v13.2.1,v13.2.2))
 else
 bif inb x7 a4.Nodes.length then
 (wI ((a4.Nodes.getD x7.toNat default).Kind)).bind λv18=>
 bif v18 then
 (ZZ ((l6.getD ((w64 (((l6.length:Nat):Int)-1)).toNat) default).rect) (a4.Nodes.getD x7.toNat default) a5).bind λv21=>
 bif room ((w64 (((l6.length:Nat):Int)-1)).toNat+2) 40 then
 TE x7 (yT a1 a4 a5 n) ((l6.take ((w64 (((l6.length:Nat):Int)-1)).toNat))++([(Pattern_place.mk v21.2.2 (w64 (((l6.getD ((w64 (((l6.length:Nat):Int)-1)).toNat) default).level)+1))),(Pattern_place.mk v21.1 (w64 (((l6.getD ((w64 (((l6.length:Nat):Int)-1)).toNat) default).level)+1)))]:List Pattern_place)) v13.2.2 v13.2.1
 else none
 else
 TE x7 (yT a1 a4 a5 n) (l6.take ((w64 (((l6.length:Nat):Int)-1)).toNat)) v13.2.2 v13.2.1
 else none
 else none
 else none
 else
 some (Sum.inr (x9,x8))
def DP (a1:Pattern) (a2:Int) (a3:Int) (a4:Pattern) (a5:Int):Option (Nat×Int×Int):=
 (yT a1 a4 a5 FUEL ([(Pattern_place.mk a4.Frame 1)]:List Pattern_place) 0 a2 a3).bind λu31=>Sum.elim (λv32=>some v32) (λo29=>
 some (0,o29.2,o29.1)) u31
/- sawmill/pattern.check -/
def DS (a1:Pattern) (a2:Int) (x7:Bool):Option Int:=
 bif x7 then
 some 9
 else
 bif decide (((a1.Nodes.length:Nat):Int)>127) then
 some 4
 else
 (QS a1 a2).bind λv10=>
 (DP a1 0 0 v10.1 v10.2).bind λv12=>
 bif Nat.beq v12.1 0 then
 bif decide (v12.2.2<((a1.Nodes.length:Nat):Int)) then
 some 4
 else
 some 0
 else
 bif Nat.beq v12.1 1 then
 some v12.2.1
 else
 none
def VV (a1:Pattern) (a2:Int):Option Int:=
 (jQ a1.Frame).bind λv3=>
 bif !v3 then
 some 19
 else
 bif decide (a2<0) then
 DS a1 a2 true
 else
 DS a1 a2 (decide (a2>20))
/- sawmill/pattern.Leaves -/
def ZS (a1:Int) (a2:Pattern_place) (a3:Pattern) (a4:List Leaf):Option (Nat×(List Leaf)):=
 bif inb a1 a3.Nodes.length then
 bif ((a3.Nodes.getD a1.toNat default).Kind)==0 then
 bif room (a4.length+1) 40 then
 some (0,(a4++([(Leaf.mk a2.rect (-1))]:List Leaf)))
 else none
 else
 bif ((a3.Nodes.getD a1.toNat default).Kind)==1 then
 bif room (a4.length+1) 40 then
 some (0,(a4++([(Leaf.mk a2.rect ((a3.Nodes.getD a1.toNat default).At))]:List Leaf)))
 else none
 else
 some (0,a4)
 else none
/- sawmill/pattern.places$1 -/
def TA (x6:Int) (R:(List Pattern_place)->Int->(List Leaf)->Option ((Nat×(List Leaf))⊕(List Leaf))) (l22:List Pattern_place) (l23:List Leaf):Option ((Nat×(List Leaf))⊕(List Leaf)):=
 R l22 (w64 (x6+1)) l23
def QB (a1:Pattern) (a2:Pattern) (a3:Int):Nat->(List Pattern_place)->Int->(List Leaf)->Option ((Nat×(List Leaf))⊕(List Leaf))
 |0,_,_,_=>none
 |n+1,l5,x6,l7=>
 bif decide (((l5.length:Nat):Int)>0) then
 bif inb (w64 (((l5.length:Nat):Int)-1)) l5.length then
 bif slOk 0 (w64 (((l5.length:Nat):Int)-1)) l5.length then
 (ZS x6 (l5.getD ((w64 (((l5.length:Nat):Int)-1)).toNat) default) a1 l7).bind λv11=>
 bif !(Nat.beq v11.1 0) then
 some (Sum.inl (v11.1,v11.2))
 else
 bif decide (x6≥((a2.Nodes.length:Nat):Int)) then
 some (Sum.inl (0,v11.2))
 else
 bif inb x6 a2.Nodes.length then
 (wI ((a2.Nodes.getD x6.toNat default).Kind)).bind λv16=>
 bif v16 then
 (ZZ ((l5.getD ((w64 (((l5.length:Nat):Int)-1)).toNat) default).rect) (a2.Nodes.getD x6.toNat default) a3).bind λv19=>
 bif room ((w64 (((l5.length:Nat):Int)-1)).toNat+2) 40 then
 TA x6 (QB a1 a2 a3 n) ((l5.take ((w64 (((l5.length:Nat):Int)-1)).toNat))++([(Pattern_place.mk v19.2.2 (w64 (((l5.getD ((w64 (((l5.length:Nat):Int)-1)).toNat) default).level)+1))),(Pattern_place.mk v19.1 (w64 (((l5.getD ((w64 (((l5.length:Nat):Int)-1)).toNat) default).level)+1)))]:List Pattern_place)) v11.2
 else none
 else
 TA x6 (QB a1 a2 a3 n) (l5.take ((w64 (((l5.length:Nat):Int)-1)).toNat)) v11.2
 else none
 else none
 else none
 else
 some (Sum.inr l7)
def DT (a1:Pattern) (a2:Pattern) (a3:Int) (a4:List Leaf):Option (Nat×(List Leaf)):=
 (QB a1 a2 a3 FUEL ([(Pattern_place.mk a2.Frame 1)]:List Pattern_place) 0 a4).bind λu27=>Sum.elim (λv28=>some v28) (λo25=>
 some (0,o25)) u27
/- sawmill/pattern.Leaves -/
def IR (a1:Pattern) (a2:Int):Option ((List Leaf)×Int):=
 (VV a1 a2).bind λv3=>
 bif v3 !=0 then
 some (([]:List Leaf),v3)
 else
 (QS a1 a2).bind λv6=>
 (DT a1 v6.1 v6.2 ([]:List Leaf)).bind λv8=>
 bif Nat.beq v8.1 0 then
 some (v8.2,0)
 else
 none
/- sawmill/yield.boardLeaves -/
def qA9 (a1:List Leaf):Option (List Leaf):=
 some a1
/- sawmill/yield.box -/
def NB (a1:Rect) (a2:Span):Option Box:=
 some (Box.mk a1.X a1.Y a2)
/- sawmill/yield.Boards -/
def qAn (a1:Int) (a2:Leaf) (a3:List qB) (a4:List Defect) (a5:List Product) (a6:Saw) (a7:Int) (a8:List Yield_Cut):Option (Nat×(List Yield_Cut)):=
 bif inb a2.Product a5.length then
 (LR a3 a4 (a5.getD a2.Product.toNat default) a2.Rect a6.Step a7).bind λv10=>
 bif v10.2.2 then
 (NB a2.Rect v10.1).bind λv13=>
 bif room (a8.length+1) 72 then
 some (0,(a8++([(Yield_Cut.mk a1 a2.Product v13 v10.2.1)]:List Yield_Cut)))
 else none
 else
 some (0,a8)
 else none
/- sawmill/yield.boardLeaves$1 -/
def TG (x8:Int) (R:Int->(List Yield_Cut)->Option ((Nat×(List Yield_Cut))⊕(List Yield_Cut))) (l16:List Yield_Cut):Option ((Nat×(List Yield_Cut))⊕(List Yield_Cut)):=
 R (w64 (x8+1)) l16
def wE (a1:List qB) (a2:List Defect) (a3:List Product) (a4:Saw) (a5:Int) (a6:List Leaf):Nat->Int->(List Yield_Cut)->Option ((Nat×(List Yield_Cut))⊕(List Yield_Cut))
 |0,_,_=>none
 |n+1,x8,l9=>
 bif decide (x8<((a6.length:Nat):Int)) then
 bif inb x8 a6.length then
 bif ((a6.getD x8.toNat default).Product) !=(-1) then
 (qAn x8 (a6.getD x8.toNat default) a1 a2 a3 a4 a5 l9).bind λv13=>
 bif !(Nat.beq v13.1 0) then
 some (Sum.inl (v13.1,v13.2))
 else
 TG x8 (wE a1 a2 a3 a4 a5 a6 n) v13.2
 else
 TG x8 (wE a1 a2 a3 a4 a5 a6 n) l9
 else none
 else
 some (Sum.inr l9)
def DU (a1:List qB) (a2:List Defect) (a3:List Product) (a4:Saw) (a5:Int) (a6:List Leaf) (a7:List Yield_Cut):Option (Nat×(List Yield_Cut)):=
 (wE a1 a2 a3 a4 a5 a6 FUEL 0 a7).bind λu20=>Sum.elim (λv21=>some v21) (λo18=>
 some (0,o18)) u20
/- sawmill/yield.Boards -/
def qB3 (a1:List qB) (a2:List Defect) (a3:List Product) (a4:Pattern) (a5:Saw) (a6:Int):Option ((List Yield_Cut)×Int):=
 (CT a1 a2 a3 a4 a5 (Rates.mk 0 0 a6)).bind λv7=>
 bif v7 !=0 then
 some (([]:List Yield_Cut),v7)
 else
 (IR a4 a5.Kerf).bind λv10=>
 bif v10.2 !=0 then
 some (([]:List Yield_Cut),v10.2)
 else
 (qA9 v10.1).bind λv13=>
 (DU a1 a2 a3 a5 a6 v13 ([]:List Yield_Cut)).bind λv15=>
 bif Nat.beq v15.1 0 then
 some (v15.2,0)
 else
 none
/- sawmill/pattern.Cuts -/
def JV (a1:Int) (a2:Pattern_place) (a3:Pattern) (a4:Int) (a5:List Rect):Option (Nat×(List Rect)):=
 bif inb a1 a3.Nodes.length then
 (wI ((a3.Nodes.getD a1.toNat default).Kind)).bind λv7=>
 bif v7 then
 (ZZ a2.rect (a3.Nodes.getD a1.toNat default) a4).bind λv10=>
 bif room (a5.length+1) 32 then
 some (0,(a5++([v10.2.1]:List Rect)))
 else none
 else
 some (0,a5)
 else none
/- sawmill/pattern.places$1 -/
def TH (x7:Int) (R:(List Pattern_place)->Int->(List Rect)->Option ((Nat×(List Rect))⊕(List Rect))) (l23:List Pattern_place) (l24:List Rect):Option ((Nat×(List Rect))⊕(List Rect)):=
 R l23 (w64 (x7+1)) l24
def QA (a1:Pattern) (a2:Int) (a3:Pattern) (a4:Int):Nat->(List Pattern_place)->Int->(List Rect)->Option ((Nat×(List Rect))⊕(List Rect))
 |0,_,_,_=>none
 |n+1,l6,x7,l8=>
 bif decide (((l6.length:Nat):Int)>0) then
 bif inb (w64 (((l6.length:Nat):Int)-1)) l6.length then
 bif slOk 0 (w64 (((l6.length:Nat):Int)-1)) l6.length then
 (JV x7 (l6.getD ((w64 (((l6.length:Nat):Int)-1)).toNat) default) a1 a2 l8).bind λv12=>
 bif !(Nat.beq v12.1 0) then
 some (Sum.inl (v12.1,v12.2))
 else
 bif decide (x7≥((a3.Nodes.length:Nat):Int)) then
 some (Sum.inl (0,v12.2))
 else
 bif inb x7 a3.Nodes.length then
 (wI ((a3.Nodes.getD x7.toNat default).Kind)).bind λv17=>
 bif v17 then
 (ZZ ((l6.getD ((w64 (((l6.length:Nat):Int)-1)).toNat) default).rect) (a3.Nodes.getD x7.toNat default) a4).bind λv20=>
 bif room ((w64 (((l6.length:Nat):Int)-1)).toNat+2) 40 then
 TH x7 (QA a1 a2 a3 a4 n) ((l6.take ((w64 (((l6.length:Nat):Int)-1)).toNat))++([(Pattern_place.mk v20.2.2 (w64 (((l6.getD ((w64 (((l6.length:Nat):Int)-1)).toNat) default).level)+1))),(Pattern_place.mk v20.1 (w64 (((l6.getD ((w64 (((l6.length:Nat):Int)-1)).toNat) default).level)+1)))]:List Pattern_place)) v12.2
 else none
 else
 TH x7 (QA a1 a2 a3 a4 n) (l6.take ((w64 (((l6.length:Nat):Int)-1)).toNat)) v12.2
 else none
 else none
 else none
 else
 some (Sum.inr l8)
def DZ (a1:Pattern) (a2:Int) (a3:Pattern) (a4:Int) (a5:List Rect):Option (Nat×(List Rect)):=
 (QA a1 a2 a3 a4 FUEL ([(Pattern_place.mk a3.Frame 1)]:List Pattern_place) 0 a5).bind λu28=>Sum.elim (λv29=>some v29) (λo26=>
 some (0,o26)) u28
/- sawmill/pattern.Cuts -/
def qBV (a1:Pattern) (a2:Int):Option ((List Rect)×Int):=
 (VV a1 a2).bind λv3=>
 bif v3 !=0 then
 some (([]:List Rect),v3)
 else
 (QS a1 a2).bind λv6=>
 (DZ a1 a2 v6.1 v6.2 ([]:List Rect)).bind λv8=>
 bif Nat.beq v8.1 0 then
 some (v8.2,0)
 else
 none
/- sawmill/yield.Of -/
def DK (a1:List qB) (v13:(List Rect)×Int) (v16:Int) (v18:Int):Nat->Int->Int->Option Yield
 |0,_,_=>none
 |n+1,x20,x21=>
 bif decide (x20<((v13.1.length:Nat):Int)) then
 bif inb x20 v13.1.length then
 (NB (v13.1.getD x20.toNat default) (Span.mk 0 v16)).bind λv24=>
 (yZ a1 v24).bind λv26=>
 (DK a1 v13 v16 v18 n) (w64 (x20+1)) (w64 (x21+v26))
 else none
 else
 some (Yield.mk v18 0 0 x21 0)
def DO (a1:List qB) (a5:Saw) (v10:(List Yield_Cut)×Int) (v16:Int) (o29:Yield):Nat->Int->Int->Int->Int->Option Yield
 |0,_,_,_,_=>none
 |n+1,x31,x32,x33,x34=>
 bif decide (x31<((v10.1.length:Nat):Int)) then
 bif inb x31 v10.1.length then
 (yZ a1 ((v10.1.getD x31.toNat default).Box)).bind λv37=>
 (NB (Rect.mk (((v10.1.getD x31.toNat default).Box).X) (((v10.1.getD x31.toNat default).Box).Y)) (Span.mk (imax 0 (w64 (((((v10.1.getD x31.toNat default).Box).Z).A)-a5.Trim))) ((((v10.1.getD x31.toNat default).Box).Z).A))).bind λv39=>
 (yZ a1 v39).bind λv41=>
 (NB (Rect.mk (((v10.1.getD x31.toNat default).Box).X) (((v10.1.getD x31.toNat default).Box).Y)) (Span.mk ((((v10.1.getD x31.toNat default).Box).Z).B) (imin (w64 (((((v10.1.getD x31.toNat default).Box).Z).B)+a5.Trim)) v16))).bind λv43=>
 (yZ a1 v43).bind λv45=>
 (DO a1 a5 v10 v16 o29 n) (w64 (x31+1)) (w64 (x32+v37)) (w64 ((w64 (x33+v41))+v45)) (w64 (x34+(w64 (1000000*((v10.1.getD x31.toNat default).Worth)))))
 else none
 else
 some (Yield.mk o29.Log x32 o29.Chips x33 x34)
def qOU (a1:List qB) (a2:List Defect) (a3:List Product) (a4:Pattern) (a5:Saw) (a6:Rates):Option (Yield×Int):=
 (CT a1 a2 a3 a4 a5 a6).bind λv7=>
 bif v7 !=0 then
 some ((Yield.mk 0 0 0 0 0),v7)
 else
 (qB3 a1 a2 a3 a4 a5 a6.Fine).bind λv10=>
 bif v10.2 !=0 then
 some ((Yield.mk 0 0 0 0 0),v10.2)
 else
 (qBV a4 a5.Kerf).bind λv13=>
 bif v13.2 !=0 then
 some ((Yield.mk 0 0 0 0 0),v13.2)
 else
 (ZT a1).bind λv16=>
 (TZ a1).bind λv18=>
 (DK a1 v13 v16 v18 FUEL 0 0).bind λo29=>
 (DO a1 a5 v10 v16 o29 FUEL 0 o29.Boards o29.Dust o29.Value).bind λo48=>
 some ((Yield.mk o48.Log o48.Boards (w64 ((w64 (o48.Log-o48.Boards))-o48.Dust)) o48.Dust (w64 (o48.Value+(w64 ((w64 (a6.Chip*(w64 ((w64 (o48.Log-o48.Boards))-o48.Dust))))+(w64 (a6.Dust*o48.Dust))))))),0)
end Saw
end Go.SL

import Derived.Test.YtidlfgiogdjkaaaGreatDoorYa6
set_option linter.unusedVariables false
set_option linter.unusedSimpArgs false
namespace Go.SL
namespace Saw
structure Piece where
 Size:Int
 At:Int
instance : Inhabited Piece:=⟨⟨0,0⟩⟩
def yM (r:Piece):List C:=[ci r.Size,ci r.At]
structure Product where
 Name:ByteArray
 Thick:Int
 Width:Int
 Allow:Int
 Wane:Int
 Lengths:List Int
 Prices:List Int
instance : Inhabited Product:=⟨⟨⟨#[]⟩,0,0,0,0,[],[]⟩⟩
def qC (r:Product):List C:=[cs r.Name,ci r.Thick,ci r.Width,ci r.Allow,ci r.Wane,tl e_i64 default r.Lengths,tl e_i64 default r.Prices]
structure Span where
 A:Int
 B:Int
instance : Inhabited Span:=⟨⟨0,0⟩⟩
def e_Span (r:Span):List C:=[ci r.A,ci r.B]
structure qK where
 Low:Int
 Rows:List Span
instance : Inhabited qK:=⟨⟨0,[]⟩⟩
def zY (r:qK):List C:=[ci r.Low,tl e_Span default r.Rows]
structure qB where
 Len:Int
 Sec:qK
instance : Inhabited qB:=⟨⟨0,default⟩⟩
def qI (r:qB):List C:=[ci r.Len,ci r.Sec.Low,tl e_Span default r.Sec.Rows]
structure Box where
 X:Span
 Y:Span
 Z:Span
instance : Inhabited Box:=⟨⟨default,default,default⟩⟩
def ZV (r:Box):List C:=[ci r.X.A,ci r.X.B,ci r.Y.A,ci r.Y.B,ci r.Z.A,ci r.Z.B]
structure Defect where
 Kind:Int
 Box:Box
instance : Inhabited Defect:=⟨⟨0,default⟩⟩
def qJ (r:Defect):List C:=[ci r.Kind,ci r.Box.X.A,ci r.Box.X.B,ci r.Box.Y.A,ci r.Box.Y.B,ci r.Box.Z.A,ci r.Box.Z.B]
structure Rect where
 X:Span
 Y:Span
instance : Inhabited Rect:=⟨⟨default,default⟩⟩
def qE (r:Rect):List C:=[ci r.X.A,ci r.X.B,ci r.Y.A,ci r.Y.B]
structure Saw where
 Kerf:Int
 Trim:Int
 Pitch:Int
 Step:Int
instance : Inhabited Saw:=⟨⟨0,0,0,0⟩⟩
def zB (r:Saw):List C:=[ci r.Kerf,ci r.Trim,ci r.Pitch,ci r.Step]
structure Rates where
 Chip:Int
 Dust:Int
 Fine:Int
instance : Inhabited Rates:=⟨⟨0,0,0⟩⟩
def zS (r:Rates):List C:=[ci r.Chip,ci r.Dust,ci r.Fine]
structure Law24_Given where
 Solid:List qB
 Defects:List Defect
 Products:List Product
 Frame:Rect
 Saw:Saw
 Rates:Rates
instance : Inhabited Law24_Given:=⟨⟨[],[],[],default,default,default⟩⟩
def zH (r:Law24_Given):List C:=[tl qI default r.Solid,tl qJ default r.Defects,tl qC default r.Products,ci r.Frame.X.A,ci r.Frame.X.B,ci r.Frame.Y.A,ci r.Frame.Y.B,ci r.Saw.Kerf,ci r.Saw.Trim,ci r.Saw.Pitch,ci r.Saw.Step,ci r.Rates.Chip,ci r.Rates.Dust,ci r.Rates.Fine]
structure Worth_zone where
 z:Span
 lack:Int
instance : Inhabited Worth_zone:=⟨⟨default,0⟩⟩
def qR (r:Worth_zone):List C:=[ci r.z.A,ci r.z.B,ci r.lack]
structure Worth_view where
 product:Product
 rect:Rect
 length:Int
 zones:List Worth_zone
 defects:List Defect
instance : Inhabited Worth_view:=⟨⟨default,default,0,[],[]⟩⟩
def NS (r:Worth_view):List C:=[cs r.product.Name,ci r.product.Thick,ci r.product.Width,ci r.product.Allow,ci r.product.Wane,tl e_i64 default r.product.Lengths,tl e_i64 default r.product.Prices,ci r.rect.X.A,ci r.rect.X.B,ci r.rect.Y.A,ci r.rect.Y.B,ci r.length,tl qR default r.zones,tl qJ default r.defects]
structure Line where
 Len:Int
 Kerf:Int
 Pitch:Int
 Sizes:List Int
 Gain:List (List Int)
 Chip:List Int
 Dust:List Int
instance : Inhabited Line:=⟨⟨0,0,0,[],[],[],[]⟩⟩
def yA (r:Line):List C:=[ci r.Len,ci r.Kerf,ci r.Pitch,tl e_i64 default r.Sizes,tl (qH e_i64) default r.Gain,tl e_i64 default r.Chip,tl e_i64 default r.Dust]
structure Cutting_choice where
 piece:Piece
 value:Int
instance : Inhabited Cutting_choice:=⟨⟨default,0⟩⟩
def e_Cutting_choice (r:Cutting_choice):List C:=[ci r.piece.Size,ci r.piece.At,ci r.value]
structure Node where
 Kind:Int
 At:Int
instance : Inhabited Node:=⟨⟨0,0⟩⟩
def e_Node (r:Node):List C:=[ci r.Kind,ci r.At]
structure Pattern where
 Frame:Rect
 Nodes:List Node
instance : Inhabited Pattern:=⟨⟨default,[]⟩⟩
def qD (r:Pattern):List C:=[ci r.Frame.X.A,ci r.Frame.X.B,ci r.Frame.Y.A,ci r.Frame.Y.B,tl e_Node default r.Nodes]
structure qKr where
 value:Int
 piece:Piece
instance : Inhabited qKr:=⟨⟨0,default⟩⟩
structure qSg where
 at_:Span
 from_:Int
 to:Int
instance : Inhabited qSg:=⟨⟨default,0,0⟩⟩
structure Pattern_place where
 rect:Rect
 level:Int
instance : Inhabited Pattern_place:=⟨⟨default,0⟩⟩
def e_Pattern_place (r:Pattern_place):List C:=[ci r.rect.X.A,ci r.rect.X.B,ci r.rect.Y.A,ci r.rect.Y.B,ci r.level]
structure Leaf where
 Rect:Rect
 Product:Int
instance : Inhabited Leaf:=⟨⟨default,0⟩⟩
def qV (r:Leaf):List C:=[ci r.Rect.X.A,ci r.Rect.X.B,ci r.Rect.Y.A,ci r.Rect.Y.B,ci r.Product]
structure Yield_Cut where
 Leaf:Int
 Product:Int
 Box:Box
 Worth:Int
instance : Inhabited Yield_Cut:=⟨⟨0,0,default,0⟩⟩
def qS (r:Yield_Cut):List C:=[ci r.Leaf,ci r.Product,ci r.Box.X.A,ci r.Box.X.B,ci r.Box.Y.A,ci r.Box.Y.B,ci r.Box.Z.A,ci r.Box.Z.B,ci r.Worth]
structure Yield where
 Log:Int
 Boards:Int
 Chips:Int
 Dust:Int
 Value:Int
instance : Inhabited Yield:=⟨⟨0,0,0,0,0⟩⟩
def IR (r:Yield):List C:=[ci r.Log,ci r.Boards,ci r.Chips,ci r.Dust,ci r.Value]
def qI0 :Piece:=(Piece.mk (-1) (-1))
def globs :List (Nat×C):=[(0,.lptr (yM qI0))]
/- sawmill/sawmilllaw24.few -/
def zaQ (x3:Int) (R:Int->Option (Bool⊕Unit)) (x8:Bool):Option (Bool⊕Unit):=
 bif x8 then
 some (Sum.inl false)
 else
 R (w64 (x3+1))
def ZH (a1:List Product):Nat->Int->Option (Bool⊕Unit)
 |0,_=>none
 |n+1,x3=>
 bif decide (x3<((a1.length:Nat):Int)) then
 bif inb x3 a1.length then
 bif decide (((((a1.getD x3.toNat default).Name).size:Nat):Int)>100) then
 zaQ x3 (ZH a1 n) true
 else
 bif decide (((((a1.getD x3.toNat default).Lengths).length:Nat):Int)>12) then
 zaQ x3 (ZH a1 n) true
 else
 zaQ x3 (ZH a1 n) (decide (((((a1.getD x3.toNat default).Prices).length:Nat):Int)>12))
 else none
 else
 some (Sum.inr ())
def qAp (a1:List Product):Option Bool:=
 bif decide (((a1.length:Nat):Int)>20) then
 some false
 else
 (ZH a1 FUEL 0).bind λu12=>Sum.elim (λv13=>some v13) (λo10=>
 some true) u12
/- sawmill/sawmilllaw24.small -/
def KA (a1:List qB):Nat->Int->Option (Bool⊕Unit)
 |0,_=>none
 |n+1,x3=>
 bif decide (x3<((a1.length:Nat):Int)) then
 bif inb x3 a1.length then
 bif decide ((((((a1.getD x3.toNat default).Sec).Rows).length:Nat):Int)>130) then
 some (Sum.inl false)
 else
 (KA a1 n) (w64 (x3+1))
 else none
 else
 some (Sum.inr ())
def HM (a1:List qB):Option Bool:=
 bif decide (((a1.length:Nat):Int)>30) then
 some false
 else
 (KA a1 FUEL 0).bind λu9=>Sum.elim (λv10=>some v10) (λo7=>
 some true) u9
/- sawmill/sawmilllaw24.sample -/
def BL :Nat->Int->(List Span)->Option (List Span)
 |0,_,_=>none
 |n+1,x2,l3=>
 bif decide (x2<20) then
 bif room (l3.length+1) 16 then
 (BL n) (w64 (x2+1)) (l3++([(Span.mk (-100) 100)]:List Span))
 else none
 else
 some l3
def KL (a1:Int):Option Law24_Given:=
 (BL FUEL 0 ([]:List Span)).bind λo7=>
 some (Law24_Given.mk ([(qB.mk 3000 (qK.mk (-10) o7))]:List qB) ([]:List Defect) ([(Product.mk (ByteArray.mk #[112,108,97,110,107]) 40 100 50 0 ([2000]:List Int) ([70]:List Int))]:List Product) (Rect.mk (Span.mk (-100) 10) (Span.mk 0 a1)) (Saw.mk 4 5 5 500) (Rates.mk 0 0 0))
/- sawmill/section.inRange -/
def RL (x3:Bool):Option Bool:=
 some x3
def RS (a1:Span):Option Bool:=
 bif decide ((imin a1.A a1.B)≥(-600)) then
 RL (decide ((imax a1.A a1.B)<=600))
 else
 RL false
/- sawmill/section.isEmpty -/
def ZL (a1:Span):Option Bool:=
 some (decide (a1.A≥a1.B))
/- sawmill/section.Check -/
def QQ (a1:qK):Nat->Int->Option (Int⊕Unit)
 |0,_=>none
 |n+1,x6=>
 bif decide (x6<((a1.Rows.length:Nat):Int)) then
 bif inb x6 a1.Rows.length then
 (RS (a1.Rows.getD x6.toNat default)).bind λv9=>
 bif !v9 then
 some (Sum.inl 9)
 else
 (QQ a1 n) (w64 (x6+1))
 else none
 else
 some (Sum.inr ())
def DC (x27:Int) (R:Int->Option (Int⊕Unit)) (x33:Bool):Option (Int⊕Unit):=
 bif x33 then
 some (Sum.inl 19)
 else
 R (w64 (x27+1))
def jF (a1:qK):Nat->Int->Option (Int⊕Unit)
 |0,_=>none
 |n+1,x27=>
 bif decide (x27<((a1.Rows.length:Nat):Int)) then
 bif inb x27 a1.Rows.length then
 (ZL (a1.Rows.getD x27.toNat default)).bind λv30=>
 bif v30 then
 DC x27 (jF a1 n) (!((((a1.Rows.getD x27.toNat default).A)==0)&&((((a1.Rows.getD x27.toNat default).B)==0)&&true)))
 else
 DC x27 (jF a1 n) false
 else none
 else
 some (Sum.inr ())
def GL (a1:qK) (x25:Bool):Option Int:=
 bif x25 then
 some 19
 else
 (jF a1 FUEL 0).bind λu37=>Sum.elim (λv38=>some v38) (λo35=>
 some 0) u37
def DE (a1:qK) (x4:Bool):Option Int:=
 bif x4 then
 some 9
 else
 (QQ a1 FUEL 0).bind λu14=>Sum.elim (λv15=>some v15) (λo12=>
 bif ((a1.Rows.length:Nat):Int)==0 then
 bif a1.Low !=0 then
 some 19
 else
 some 0
 else
 bif inb 0 a1.Rows.length then
 (ZL (a1.Rows.getD (0:Int).toNat default)).bind λv19=>
 bif v19 then
 GL a1 true
 else
 bif inb (w64 (((a1.Rows.length:Nat):Int)-1)) a1.Rows.length then
 (ZL (a1.Rows.getD (w64 (((a1.Rows.length:Nat):Int)-1)).toNat default)).bind λv23=>
 GL a1 v23
 else none
 else none) u14
def PQ (a1:qK):Option Int:=
 bif decide (((a1.Rows.length:Nat):Int)>120) then
 some 4
 else
 bif decide (a1.Low<(-60)) then
 DE a1 true
 else
 DE a1 (decide (a1.Low>(w64 (60-((a1.Rows.length:Nat):Int)))))
/- sawmill/solid.Check -/
def LR (a1:List qB) (x4:Int) (x5:Int) (R:Int->Int->Option (Int⊕Unit)) (x13:Bool):Option (Int⊕Unit):=
 bif x13 then
 some (Sum.inl 9)
 else
 R (w64 (x4+((a1.getD x5.toNat default).Len))) (w64 (x5+1))
def yO (a1:List qB):Nat->Int->Int->Option (Int⊕Unit)
 |0,_,_=>none
 |n+1,x4,x5=>
 bif decide (x5<((a1.length:Nat):Int)) then
 bif inb x5 a1.length then
 (PQ ((a1.getD x5.toNat default).Sec)).bind λv8=>
 bif v8 !=0 then
 some (Sum.inl v8)
 else
 bif (((((a1.getD x5.toNat default).Sec).Rows).length:Nat):Int)==0 then
 some (Sum.inl 18)
 else
 bif decide (((a1.getD x5.toNat default).Len)<1) then
 LR a1 x4 x5 (yO a1 n) true
 else
 LR a1 x4 x5 (yO a1 n) (decide (((a1.getD x5.toNat default).Len)>(w64 (20000-x4))))
 else none
 else
 some (Sum.inr ())
def JS (a1:List qB):Option Int:=
 bif ((a1.length:Nat):Int)==0 then
 some 3
 else
 bif decide (((a1.length:Nat):Int)>24) then
 some 4
 else
 (yO a1 FUEL 0 0).bind λu17=>Sum.elim (λv18=>some v18) (λo15=>
 some 0) u17
/- sawmill/defect.isEmpty -/
def yP (a1:Span):Option Bool:=
 some (decide (a1.A≥a1.B))
/- sawmill/defect.inside -/
def GZ (x5:Bool):Option Bool:=
 some x5
def YZ (a1:Span) (a2:Int) (a3:Int):Option Bool:=
 bif decide ((imin a1.A a1.B)≥a2) then
 GZ (decide ((imax a1.A a1.B)<=a3))
 else
 GZ false
/- sawmill/defect.check -/
def RF (x23:Bool):Option Int:=
 bif x23 then
 some 9
 else
 some 0
def PX (a1:Defect) (x13:Bool):Option Int:=
 bif x13 then
 some 19
 else
 (YZ a1.Box.X (-600) 600).bind λv15=>
 bif !v15 then
 RF true
 else
 (YZ a1.Box.Y (-600) 600).bind λv18=>
 bif !v18 then
 RF true
 else
 (YZ a1.Box.Z 0 20000).bind λv21=>
 RF (!v21)
def BU (a1:Defect) (x3:Bool):Option Int:=
 bif x3 then
 some 10
 else
 (yP a1.Box.X).bind λv5=>
 bif v5 then
 PX a1 true
 else
 (yP a1.Box.Y).bind λv8=>
 bif v8 then
 PX a1 true
 else
 (yP a1.Box.Z).bind λv11=>
 PX a1 v11
def NN (a1:Defect):Option Int:=
 bif decide (a1.Kind<1) then
 BU a1 true
 else
 BU a1 (decide (a1.Kind>6))
/- sawmill/defect.Check -/
def ZJ (a1:List Defect):Nat->Int->Option (Int⊕Unit)
 |0,_=>none
 |n+1,x3=>
 bif decide (x3<((a1.length:Nat):Int)) then
 bif inb x3 a1.length then
 (NN (a1.getD x3.toNat default)).bind λv6=>
 bif v6 !=0 then
 some (Sum.inl v6)
 else
 (ZJ a1 n) (w64 (x3+1))
 else none
 else
 some (Sum.inr ())
def YC (a1:List Defect):Option Int:=
 bif decide (((a1.length:Nat):Int)>64) then
 some 4
 else
 (ZJ a1 FUEL 0).bind λu11=>Sum.elim (λv12=>some v12) (λo9=>
 some 0) u11
/- sawmill/ident.isSmall -/
def GQ (x3:Bool):Option Bool:=
 some x3
def PM (a1:Int):Option Bool:=
 bif decide (97<=a1) then
 GQ (decide (a1<=122))
 else
 GQ false
/- sawmill/ident.isDigit -/
def DH (x3:Bool):Option Bool:=
 some x3
def DK (a1:Int):Option Bool:=
 bif decide (48<=a1) then
 DH (decide (a1<=57))
 else
 DH false
/- sawmill/ident.IsName -/
def RR (x9:Int) (R:Int->Option (Bool⊕Unit)) (x18:Bool):Option (Bool⊕Unit):=
 bif x18 then
 some (Sum.inl false)
 else
 R (w64 (x9+1))
def jB (a1:ByteArray):Nat->Int->Option (Bool⊕Unit)
 |0,_=>none
 |n+1,x9=>
 bif decide (x9<((a1.size:Nat):Int)) then
 bif inb x9 a1.size then
 (PM (strAt a1 x9.toNat)).bind λv12=>
 bif !v12 then
 (DK (strAt a1 x9.toNat)).bind λv15=>
 bif !v15 then
 RR x9 (jB a1 n) ((strAt a1 x9.toNat) !=95)
 else
 RR x9 (jB a1 n) false
 else
 RR x9 (jB a1 n) false
 else none
 else
 some (Sum.inr ())
def RX (a1:ByteArray) (x7:Bool):Option Bool:=
 bif x7 then
 some false
 else
 (jB a1 FUEL 1).bind λu22=>Sum.elim (λv23=>some v23) (λo20=>
 some true) u22
def NB (a1:ByteArray):Option Bool:=
 bif decide (((a1.size:Nat):Int)<1) then
 RX a1 true
 else
 bif decide (((a1.size:Nat):Int)>16) then
 RX a1 true
 else
 bif inb 0 a1.size then
 (PM (strAt a1 ((0:Int).toNat))).bind λv5=>
 RX a1 (!v5)
 else none
/- sawmill/product.Find -/
def ZG (a1:List Product) (a2:ByteArray):Nat->Int->Option ((Int×Bool)⊕Unit)
 |0,_=>none
 |n+1,x3=>
 bif decide (x3<((a1.length:Nat):Int)) then
 bif inb x3 a1.length then
 bif strEq ((a1.getD x3.toNat default).Name) a2 then
 some (Sum.inl (x3,true))
 else
 (ZG a1 a2 n) (w64 (x3+1))
 else none
 else
 some (Sum.inr ())
def FT (a1:List Product) (a2:ByteArray):Option (Int×Bool):=
 (ZG a1 a2 FUEL 0).bind λu9=>Sum.elim (λv10=>some v10) (λo7=>
 some (0,false)) u9
/- sawmill/product.isSize -/
def TN (x3:Bool):Option Bool:=
 some x3
def XZ (a1:Int):Option Bool:=
 bif decide (a1≥1) then
 TN (decide (a1<=600))
 else
 TN false
/- sawmill/product.grow -/
def NK (a1:Int) (a2:Int):Option Int:=
 some (w64 (Int.tdiv (w64 ((w64 (a1*(w64 (1000+a2))))+999)) 1000))
/- sawmill/product.Green -/
def WW (a1:Product) (x9:Bool):Option (Int×Int):=
 bif x9 then
 some (0,0)
 else
 (NK a1.Thick a1.Allow).bind λv11=>
 (NK a1.Width a1.Allow).bind λv13=>
 some (v11,v13)
def QP (a1:Product):Option (Int×Int):=
 (XZ a1.Thick).bind λv2=>
 bif !v2 then
 WW a1 true
 else
 (XZ a1.Width).bind λv5=>
 bif !v5 then
 WW a1 true
 else
 bif decide (a1.Allow<0) then
 WW a1 true
 else
 WW a1 (decide (a1.Allow>200))
/- sawmill/product.checkNumbers -/
def WK (x18:Int) (R:Int->Option (Int⊕Unit)) (x26:Bool):Option (Int⊕Unit):=
 bif x26 then
 some (Sum.inl 11)
 else
 R (w64 (x18+1))
def WH (a1:Product) (x18:Int) (R:Int->Option (Int⊕Unit)) (x22:Bool):Option (Int⊕Unit):=
 bif x22 then
 some (Sum.inl 9)
 else
 bif decide (x18>0) then
 bif inb (w64 (x18-1)) a1.Lengths.length then
 WK x18 R (decide ((a1.Lengths.getD x18.toNat default)<=(a1.Lengths.getD (w64 (x18-1)).toNat default)))
 else none
 else
 WK x18 R false
def zJ (a1:Product):Nat->Int->Option (Int⊕Unit)
 |0,_=>none
 |n+1,x18=>
 bif decide (x18<((a1.Lengths.length:Nat):Int)) then
 bif inb x18 a1.Lengths.length then
 bif decide ((a1.Lengths.getD x18.toNat default)<100) then
 WH a1 x18 (zJ a1 n) true
 else
 WH a1 x18 (zJ a1 n) (decide ((a1.Lengths.getD x18.toNat default)>20000))
 else none
 else
 some (Sum.inr ())
def WJ (x32:Int) (R:Int->Option (Int⊕Unit)) (x36:Bool):Option (Int⊕Unit):=
 bif x36 then
 some (Sum.inl 9)
 else
 R (w64 (x32+1))
def zT (a1:Product):Nat->Int->Option (Int⊕Unit)
 |0,_=>none
 |n+1,x32=>
 bif decide (x32<((a1.Prices.length:Nat):Int)) then
 bif inb x32 a1.Prices.length then
 bif decide ((a1.Prices.getD x32.toNat default)<0) then
 WJ x32 (zT a1 n) true
 else
 WJ x32 (zT a1 n) (decide ((a1.Prices.getD x32.toNat default)>1000000))
 else none
 else
 some (Sum.inr ())
def jD (a1:Product) (x10:Bool):Option Int:=
 bif x10 then
 some 9
 else
 (QP a1).bind λv12=>
 bif decide (v12.2>600) then
 some 9
 else
 bif ((a1.Lengths.length:Nat):Int)==0 then
 some 3
 else
 bif decide (((a1.Lengths.length:Nat):Int)>8) then
 some 4
 else
 bif ((a1.Prices.length:Nat):Int) !=((a1.Lengths.length:Nat):Int) then
 some 19
 else
 (zJ a1 FUEL 0).bind λu30=>Sum.elim (λv31=>some v31) (λo28=>
 (zT a1 FUEL 0).bind λu40=>Sum.elim (λv41=>some v41) (λo38=>
 some 0) u40) u30
def jC (a1:Product) (x5:Bool):Option Int:=
 bif x5 then
 some 9
 else
 bif decide (a1.Allow<0) then
 jD a1 true
 else
 bif decide (a1.Allow>200) then
 jD a1 true
 else
 bif decide (a1.Wane<0) then
 jD a1 true
 else
 jD a1 (decide (a1.Wane>1000))
def ZY (a1:Product):Option Int:=
 bif decide (a1.Thick<5) then
 jC a1 true
 else
 bif decide (a1.Thick>300) then
 jC a1 true
 else
 bif decide (a1.Width<a1.Thick) then
 jC a1 true
 else
 jC a1 (decide (a1.Width>600))
/- sawmill/product.Check -/
def QR (a1:List Product):Nat->Int->Option (Int⊕Unit)
 |0,_=>none
 |n+1,x3=>
 bif decide (x3<((a1.length:Nat):Int)) then
 bif inb x3 a1.length then
 (NB ((a1.getD x3.toNat default).Name)).bind λv6=>
 bif !v6 then
 some (Sum.inl 6)
 else
 bif slOk 0 x3 a1.length then
 (FT (a1.take x3.toNat) ((a1.getD x3.toNat default).Name)).bind λv10=>
 bif v10.2 then
 some (Sum.inl 7)
 else
 (ZY (a1.getD x3.toNat default)).bind λv13=>
 bif v13 !=0 then
 some (Sum.inl v13)
 else
 (QR a1 n) (w64 (x3+1))
 else none
 else none
 else
 some (Sum.inr ())
def jM (a1:List Product):Option Int:=
 bif decide (((a1.length:Nat):Int)>16) then
 some 4
 else
 (QR a1 FUEL 0).bind λu18=>Sum.elim (λv19=>some v19) (λo16=>
 some 0) u18
/- sawmill/worth.isStep -/
def BI (x3:Bool):Option Bool:=
 some x3
def UV (a1:Int):Option Bool:=
 bif decide (a1≥1) then
 BI (decide (a1<=20000))
 else
 BI false
/- sawmill/worth.isFine -/
def BM (x3:Bool):Option Bool:=
 some x3
def UG (a1:Int):Option Bool:=
 bif decide (a1≥0) then
 BM (decide (a1<=1000000))
 else
 BM false
/- sawmill/worth.Check -/
def JK (x20:Bool):Option Int:=
 bif x20 then
 some 9
 else
 some 0
def UT (a2:Rates) (x12:Bool):Option Int:=
 bif x12 then
 some 9
 else
 bif decide (a2.Chip<0) then
 JK true
 else
 bif decide (a2.Chip>1000) then
 JK true
 else
 bif decide (a2.Dust<0) then
 JK true
 else
 bif decide (a2.Dust>1000) then
 JK true
 else
 (UG a2.Fine).bind λv18=>
 JK (!v18)
def XY (a1:Saw) (a2:Rates) (x6:Bool):Option Int:=
 bif x6 then
 some 9
 else
 bif decide (a1.Pitch<1) then
 UT a2 true
 else
 bif decide (a1.Pitch>2000) then
 UT a2 true
 else
 (UV a1.Step).bind λv10=>
 UT a2 (!v10)
def XN (a1:Saw) (a2:Rates):Option Int:=
 bif decide (a1.Kerf<0) then
 XY a1 a2 true
 else
 bif decide (a1.Kerf>20) then
 XY a1 a2 true
 else
 bif decide (a1.Trim<0) then
 XY a1 a2 true
 else
 XY a1 a2 (decide (a1.Trim>20))
/- sawmill/plan.checkFrame -/
def LA (x5:Int) (R:Int->Option (Int⊕Unit)) (x9:Bool):Option (Int⊕Unit):=
 bif x9 then
 some (Sum.inl 9)
 else
 R (w64 (x5+1))
def zD (a1:Rect):Nat->Int->Option (Int⊕Unit)
 |0,_=>none
 |n+1,x5=>
 bif decide (x5<4) then
 bif inb x5 4 then
 bif decide ((([a1.X.A,a1.X.B,a1.Y.A,a1.Y.B]:List Int).getD x5.toNat 0)<(-600)) then
 LA x5 (zD a1 n) true
 else
 LA x5 (zD a1 n) (decide ((([a1.X.A,a1.X.B,a1.Y.A,a1.Y.B]:List Int).getD x5.toNat 0)>600))
 else none
 else
 some (Sum.inr ())
def TE (a1:Rect) (x3:Bool):Option Int:=
 bif x3 then
 some 19
 else
 (zD a1 FUEL 0).bind λu13=>Sum.elim (λv14=>some v14) (λo11=>
 some 0) u13
def yZ (a1:Rect):Option Int:=
 bif decide (a1.X.A≥a1.X.B) then
 TE a1 true
 else
 TE a1 (decide (a1.Y.A≥a1.Y.B))
/- sawmill/plan.check -/
def GI (a1:List qB) (a2:List Defect) (a3:List Product) (a4:Rect) (a5:Saw) (a6:Rates):Option Int:=
 (JS a1).bind λv7=>
 bif v7 !=0 then
 some v7
 else
 (YC a2).bind λv10=>
 bif v10 !=0 then
 some v10
 else
 (jM a3).bind λv13=>
 bif v13 !=0 then
 some v13
 else
 (XN a5 a6).bind λv16=>
 bif v16 !=0 then
 some v16
 else
 (yZ a4).bind λv19=>
 some v19
/- slices.Sort[[]int,int] -/
def GN (a1:List Int):Option (List Int):=
 bif Nat.blt a1.length 4611686018427387904 then some (TU (λx y=>decide (x<=y)) a1) else none
/- slices.Compact[[]int,int] -/
def JT (x12:Int) (R:(List Int)->Int->Int->Option ((List Int)×Int)) (l19:List Int) (x20:Int):Option ((List Int)×Int):=
 R l19 x20 (w64 (x12+1))
def wA (l3:List Int) (x4:Int):Nat->(List Int)->Int->Int->Option ((List Int)×Int)
 |0,_,_,_=>none
 |n+1,l10,x11,x12=>
 bif decide (x12<(((l3.length-x4.toNat):Nat):Int)) then
 bif inb x12 (l3.length-x4.toNat) then
 bif Nat.ble (x4.toNat+(l3.length-x4.toNat)) l10.length then
 bif inb (w64 (x12-1)) (l3.length-x4.toNat) then
 bif (l10.getD (x4.toNat+x12.toNat) default) !=(l10.getD (x4.toNat+((w64 (x12-1)).toNat)) default) then
 bif inb x11 l10.length then
 JT x12 (wA l3 x4 n) (l10.set x11.toNat (l10.getD (x4.toNat+x12.toNat) default)) (w64 (x11+1))
 else none
 else
 JT x12 (wA l3 x4 n) l10 x11
 else none
 else none
 else none
 else
 some (l10,x11)
def jO :Nat->(List Int)->Int->Option (((List Int)×(List Int))⊕(List Int))
 |0,_,_=>none
 |n+1,l3,x4=>
 bif decide (x4<((l3.length:Nat):Int)) then
 bif inb x4 l3.length then
 bif inb (w64 (x4-1)) l3.length then
 bif (l3.getD x4.toNat default)==(l3.getD ((w64 (x4-1)).toNat) default) then
 bif slOk x4 ((l3.length:Nat):Int) l3.length then
 (wA l3 x4 FUEL l3 x4 1).bind λo23=>
 bif slOk o23.2 ((o23.1.length:Nat):Int) o23.1.length then
 bif slOk 0 o23.2 o23.1.length then
 some (Sum.inl ((o23.1.take o23.2.toNat),(o23.1.take o23.2.toNat)))
 else none
 else none
 else none
 else
 (jO n) l3 (w64 (x4+1))
 else none
 else none
 else
 some (Sum.inr l3)
def WU (a1:List Int):Option ((List Int)×(List Int)):=
 bif decide (((a1.length:Nat):Int)<2) then
 some (a1,a1)
 else
 (jO FUEL a1 1).bind λu30=>Sum.elim (λv31=>some v31) (λo28=>
 some (o28,o28)) u30
/- sawmill/plan.Heights -/
def YM (a1:List Product):Nat->(List Int)->Int->Option (List Int)
 |0,_,_=>none
 |n+1,l5,x6=>
 bif decide (x6<((a1.length:Nat):Int)) then
 bif inb x6 a1.length then
 (QP (a1.getD x6.toNat default)).bind λv9=>
 bif room (l5.length+2) 8 then
 (YM a1 n) (l5++([v9.1,v9.2]:List Int)) (w64 (x6+1))
 else none
 else none
 else
 some l5
def YH (a1:List Product):Option (List Int):=
 (jM a1).bind λv2=>
 bif v2 !=0 then
 some ([]:List Int)
 else
 (YM a1 FUEL ([]:List Int) 0).bind λo13=>
 (GN o13).bind λv15=>
 bif v15.length==o13.length then
 (WU v15).bind λv18=>
 some v18.2
 else none
/- sawmill/plan.strip -/
def GT (a1:Rect) (a2:Int) (a3:Int):Option Rect:=
 some (Rect.mk a1.X (Span.mk (w64 (a1.Y.A+a2)) (w64 (a1.Y.A+a3))))
/- sawmill/edge.check -/
def HZ (x22:Int) (R:Int->Option (Int⊕Unit)) (x26:Bool):Option (Int⊕Unit):=
 bif x26 then
 some (Sum.inl 9)
 else
 R (w64 (x22+1))
def QL (a4:Rect):Nat->Int->Option (Int⊕Unit)
 |0,_=>none
 |n+1,x22=>
 bif decide (x22<4) then
 bif inb x22 4 then
 bif decide ((([a4.X.A,a4.X.B,a4.Y.A,a4.Y.B]:List Int).getD x22.toNat 0)<(-600)) then
 HZ x22 (QL a4 n) true
 else
 HZ x22 (QL a4 n) (decide ((([a4.X.A,a4.X.B,a4.Y.A,a4.Y.B]:List Int).getD x22.toNat 0)>600))
 else none
 else
 some (Sum.inr ())
def HT (a4:Rect) (x20:Bool):Option Int:=
 bif x20 then
 some 19
 else
 (QL a4 FUEL 0).bind λu30=>Sum.elim (λv31=>some v31) (λo28=>
 some 0) u30
def AE (a1:List qB) (a2:List Defect) (a3:List Product) (a4:Rect) (a5:Saw) (a6:Rates):Option Int:=
 (JS a1).bind λv7=>
 bif v7 !=0 then
 some v7
 else
 (YC a2).bind λv10=>
 bif v10 !=0 then
 some v10
 else
 (jM a3).bind λv13=>
 bif v13 !=0 then
 some v13
 else
 (XN a5 a6).bind λv16=>
 bif v16 !=0 then
 some v16
 else
 bif decide (a4.X.A≥a4.X.B) then
 HT a4 true
 else
 HT a4 (decide (a4.Y.A≥a4.Y.B))
/- sawmill/edge.Sizes -/
def HU (x8:Int) (R:(List Int)->(List Int)->Int->Option ((List Int)×(List Int))) (l19:List Int) (l20:List Int):Option ((List Int)×(List Int)):=
 R l19 l20 (w64 (x8+1))
def HX (l7:List Int) (x8:Int) (R:(List Int)->(List Int)->Int->Option ((List Int)×(List Int))) (l17:List Int):Option ((List Int)×(List Int)):=
 bif room (l7.length+1) 8 then
 HU x8 R l17 (l7++([x8]:List Int))
 else none
def jK (a1:List Product) (a2:Int):Nat->(List Int)->(List Int)->Int->Option ((List Int)×(List Int))
 |0,_,_,_=>none
 |n+1,l6,l7,x8=>
 bif decide (x8<((a1.length:Nat):Int)) then
 bif inb x8 a1.length then
 (QP (a1.getD x8.toNat default)).bind λv11=>
 bif a2==v11.1 then
 bif room (l6.length+1) 8 then
 HX l7 x8 (jK a1 a2 n) (l6++([v11.2]:List Int))
 else none
 else
 bif a2==v11.2 then
 bif room (l6.length+1) 8 then
 HX l7 x8 (jK a1 a2 n) (l6++([v11.1]:List Int))
 else none
 else
 HU x8 (jK a1 a2 n) l6 l7
 else none
 else
 some (l6,l7)
def GD (a1:List Product) (a2:Int):Option ((List Int)×(List Int)):=
 (jM a1).bind λv3=>
 bif v3 !=0 then
 some (([]:List Int),([]:List Int))
 else
 (jK a1 a2 FUEL ([]:List Int) ([]:List Int) 0).bind λo23=>
 some (o23.1,o23.2)
/- sawmill/edge.part -/
def NI (a1:Rect) (a2:Int) (a3:Int):Option Rect:=
 some (Rect.mk (Span.mk (w64 (a1.X.A+a2)) (w64 (a1.X.A+a3))) a1.Y)
/- sawmill/worth.isRect -/
def QC (x2:Int) (R:Int->Option (Bool⊕Unit)) (x7:Bool):Option (Bool⊕Unit):=
 bif x7 then
 some (Sum.inl false)
 else
 R (w64 (x2+1))
def wC (a1:Rect):Nat->Int->Option (Bool⊕Unit)
 |0,_=>none
 |n+1,x2=>
 bif decide (x2<2) then
 bif inb x2 2 then
 bif decide ((([a1.X.A,a1.X.B,a1.Y.A,a1.Y.B]:List Int).getD (x2.toNat*2+0) 0)<(-600)) then
 QC x2 (wC a1 n) true
 else
 bif decide ((([a1.X.A,a1.X.B,a1.Y.A,a1.Y.B]:List Int).getD (x2.toNat*2+1) 0)>600) then
 QC x2 (wC a1 n) true
 else
 QC x2 (wC a1 n) (decide ((([a1.X.A,a1.X.B,a1.Y.A,a1.Y.B]:List Int).getD (x2.toNat*2+0) 0)≥(([a1.X.A,a1.X.B,a1.Y.A,a1.Y.B]:List Int).getD (x2.toNat*2+1) 0)))
 else none
 else
 some (Sum.inr ())
def NU (a1:Rect):Option Bool:=
 (wC a1 FUEL 0).bind λu11=>Sum.elim (λv12=>some v12) (λo9=>
 some true) u11
/- sawmill/solid.valid -/
def XS (a1:List qB):Option (List qB):=
 (JS a1).bind λv2=>
 bif v2 !=0 then
 some ([]:List qB)
 else
 some a1
/- sawmill/solid.Length -/
def ZX (v2:(List qB)):Nat->Int->Int->Option Int
 |0,_,_=>none
 |n+1,x4,x5=>
 bif decide (x5<((v2.length:Nat):Int)) then
 bif inb x5 v2.length then
 (ZX v2 n) (w64 (x4+((v2.getD x5.toNat default).Len))) (w64 (x5+1))
 else none
 else
 some x4
def QG (a1:List qB):Option Int:=
 (XS a1).bind λv2=>
 (ZX v2 FUEL 0 0).bind λo9=>
 some o9
/- sawmill/section.valid -/
def YY (a1:qK):Option qK:=
 (PQ a1).bind λv2=>
 bif v2 !=0 then
 some (qK.mk 0 ([]:List Span))
 else
 some a1
/- sawmill/section.heights -/
def YQ (a1:Int) (a2:Int):Option Span:=
 some (Span.mk (w64 (10*a1)) (w64 (10*a2)))
/- sawmill/span.Meet -/
def XO (a1:Span) (a2:Span):Option Span:=
 bif decide ((imax a1.A a2.A)≥(imin a1.B a2.B)) then
 some (Span.mk 0 0)
 else
 some (Span.mk (imax a1.A a2.A) (imin a1.B a2.B))
/- sawmill/span.size -/
def qCT (a1:Span):Option Int:=
 bif decide (a1.A≥a1.B) then
 some 0
 else
 some (IntKind.u64.wrap ((IntKind.u64.wrap (a1.B))-(IntKind.u64.wrap (a1.A))))
/- sawmill/span.limited -/
def EM (a1:Int):Option Int:=
 some (w64 (imin a1 9223372036854775807))
/- sawmill/span.Len -/
def XA (a1:Span):Option Int:=
 (qCT a1).bind λv2=>
 (EM v2).bind λv4=>
 some v4
/- sawmill/section.Within -/
def WB (a2:Rect) (v3:qK):Nat->Int->Int->Option Int
 |0,_,_=>none
 |n+1,x5,x6=>
 bif decide (x6<((v3.Rows.length:Nat):Int)) then
 bif inb x6 v3.Rows.length then
 (YQ (w64 (v3.Low+x6)) (w64 ((w64 (v3.Low+x6))+1))).bind λv9=>
 (XO (v3.Rows.getD x6.toNat default) a2.X).bind λv11=>
 (XA v11).bind λv13=>
 (XO v9 a2.Y).bind λv15=>
 (XA v15).bind λv17=>
 (WB a2 v3 n) (w64 (x5+(w64 (v13*v17)))) (w64 (x6+1))
 else none
 else
 some x5
def KC (a1:qK) (a2:Rect):Option Int:=
 (YY a1).bind λv3=>
 (WB a2 v3 FUEL 0 0).bind λo20=>
 some o20
/- sawmill/worth.lacks -/
def XV (a1:List qB) (a2:Rect):Nat->(List Worth_zone)->Int->Int->Option (List Worth_zone)
 |0,_,_,_=>none
 |n+1,l3,x4,x5=>
 bif decide (x5<((a1.length:Nat):Int)) then
 bif inb x5 a1.length then
 (KC ((a1.getD x5.toNat default).Sec) a2).bind λv8=>
 bif nz (w64 ((w64 (a2.X.B-a2.X.A))*(w64 (a2.Y.B-a2.Y.A)))) then
 bif room (l3.length+1) 24 then
 (XV a1 a2 n) (l3++([(Worth_zone.mk (Span.mk x4 (w64 (x4+((a1.getD x5.toNat default).Len)))) (w64 (Int.tdiv (w64 ((w64 ((w64 (1000*(w64 ((w64 ((w64 (a2.X.B-a2.X.A))*(w64 (a2.Y.B-a2.Y.A))))-v8))))+(w64 ((w64 (a2.X.B-a2.X.A))*(w64 (a2.Y.B-a2.Y.A))))))-1)) (w64 ((w64 (a2.X.B-a2.X.A))*(w64 (a2.Y.B-a2.Y.A)))))))]:List Worth_zone)) (w64 (x4+((a1.getD x5.toNat default).Len))) (w64 (x5+1))
 else none
 else none
 else none
 else
 some l3
def HC (a1:List qB) (a2:Rect):Option (List Worth_zone):=
 (XV a1 a2 FUEL ([]:List Worth_zone) 0 0).bind λo13=>
 some o13
/- (sawmill/worth.view).box -/
def XX (a1:Worth_view) (a2:Span):Option Box:=
 some (Box.mk a1.rect.X a1.rect.Y a2)
/- sawmill/defect.meet -/
def UR (v3:Span) (v5:Span) (v7:Span) (x17:Bool):Option (Box×Bool):=
 bif x17 then
 some ((Box.mk (Span.mk 0 0) (Span.mk 0 0) (Span.mk 0 0)),false)
 else
 some ((Box.mk v3 v5 v7),true)
def CD (a1:Box) (a2:Box):Option (Box×Bool):=
 (XO a1.X a2.X).bind λv3=>
 (XO a1.Y a2.Y).bind λv5=>
 (XO a1.Z a2.Z).bind λv7=>
 (yP v3).bind λv9=>
 bif v9 then
 UR v3 v5 v7 true
 else
 (yP v5).bind λv12=>
 bif v12 then
 UR v3 v5 v7 true
 else
 (yP v7).bind λv15=>
 UR v3 v5 v7 v15
/- sawmill/defect.Touches -/
def XW (a1:Defect) (a2:Box):Option Bool:=
 (CD a1.Box a2).bind λv3=>
 some v3.2
/- sawmill/worth.look -/
def HQ (x29:Int) (R:Int->(List Defect)->Option (List Defect)) (l37:List Defect):Option (List Defect):=
 R (w64 (x29+1)) l37
def WE (a2:List Defect) (v27:Box):Nat->Int->(List Defect)->Option (List Defect)
 |0,_,_=>none
 |n+1,x29,l30=>
 bif decide (x29<((a2.length:Nat):Int)) then
 bif inb x29 a2.length then
 (XW (a2.getD x29.toNat default) v27).bind λv33=>
 bif v33 then
 bif room (l30.length+1) 56 then
 HQ x29 (WE a2 v27 n) (l30++([(a2.getD x29.toNat default)]:List Defect))
 else none
 else
 HQ x29 (WE a2 v27 n) l30
 else none
 else
 some l30
def DI (a1:List qB) (a2:List Defect) (a3:Product) (a4:Rect) (x21:Bool):Option (Worth_view×Bool):=
 bif x21 then
 some ((Worth_view.mk (Product.mk (ByteArray.mk #[]) 0 0 0 0 ([]:List Int) ([]:List Int)) (Rect.mk (Span.mk 0 0) (Span.mk 0 0)) 0 ([]:List Worth_zone) ([]:List Defect)),false)
 else
 (QG a1).bind λv23=>
 (HC a1 a4).bind λv25=>
 (XX (Worth_view.mk a3 a4 v23 v25 ([]:List Defect)) (Span.mk 0 v23)).bind λv27=>
 (WE a2 v27 FUEL 0 ([]:List Defect)).bind λo39=>
 some ((Worth_view.mk a3 a4 v23 v25 o39),true)
def PO (a1:List qB) (a2:List Defect) (a3:Product) (a4:Rect) (x16:Bool):Option (Worth_view×Bool):=
 bif x16 then
 some ((Worth_view.mk (Product.mk (ByteArray.mk #[]) 0 0 0 0 ([]:List Int) ([]:List Int)) (Rect.mk (Span.mk 0 0) (Span.mk 0 0)) 0 ([]:List Worth_zone) ([]:List Defect)),false)
 else
 (QP a3).bind λv18=>
 bif !(((w64 (a4.X.B-a4.X.A))==v18.1)&&(((w64 (a4.Y.B-a4.Y.A))==v18.2)&&true)) then
 DI a1 a2 a3 a4 (!(((w64 (a4.X.B-a4.X.A))==v18.2)&&(((w64 (a4.Y.B-a4.Y.A))==v18.1)&&true)))
 else
 DI a1 a2 a3 a4 false
def AW (a1:List qB) (a2:List Defect) (a3:Product) (a4:Rect):Option (Worth_view×Bool):=
 (JS a1).bind λv5=>
 bif v5 !=0 then
 PO a1 a2 a3 a4 true
 else
 (YC a2).bind λv8=>
 bif v8 !=0 then
 PO a1 a2 a3 a4 true
 else
 (jM ([a3]:List Product)).bind λv11=>
 bif v11 !=0 then
 PO a1 a2 a3 a4 true
 else
 (NU a4).bind λv14=>
 PO a1 a2 a3 a4 (!v14)
/- sawmill/worth.isWithin -/
def XE (x5:Bool):Option Bool:=
 some x5
def LW (a1:Span) (a2:Int):Option Bool:=
 bif decide (a1.A≥0) then
 bif decide (a1.A<a1.B) then
 XE (decide (a1.B<=a2))
 else
 XE false
 else
 XE false
/- sawmill/product.Price -/
def QT (a1:Product) (a2:Int):Nat->Int->Option ((Int×Bool)⊕Unit)
 |0,_=>none
 |n+1,x3=>
 bif decide (x3<((a1.Lengths.length:Nat):Int)) then
 bif inb x3 a1.Lengths.length then
 bif (a1.Lengths.getD x3.toNat default) !=a2 then
 (QT a1 a2 n) (w64 (x3+1))
 else
 bif decide (x3≥((a1.Prices.length:Nat):Int)) then
 some (Sum.inl (0,false))
 else
 bif inb x3 a1.Prices.length then
 some (Sum.inl ((a1.Prices.getD x3.toNat default),true))
 else none
 else none
 else
 some (Sum.inr ())
def DR (a1:Product) (a2:Int):Option (Int×Bool):=
 (QT a1 a2 FUEL 0).bind λu11=>Sum.elim (λv12=>some v12) (λo9=>
 some (0,false)) u11
/- sawmill/worth.worst -/
def LL (x4:Int) (R:Int->Int->Option Int) (x10:Int):Option Int:=
 R x10 (w64 (x4+1))
def LN (a1:List Worth_zone) (x3:Int) (x4:Int) (R:Int->Int->Option Int) (x8:Bool):Option Int:=
 bif x8 then
 LL x4 R (imax x3 ((a1.getD x4.toNat default).lack))
 else
 LL x4 R x3
def yL (a1:List Worth_zone) (a2:Span):Nat->Int->Int->Option Int
 |0,_,_=>none
 |n+1,x3,x4=>
 bif decide (x4<((a1.length:Nat):Int)) then
 bif inb x4 a1.length then
 bif decide ((((a1.getD x4.toNat default).z).A)<a2.B) then
 LN a1 x3 x4 (yL a1 a2 n) (decide (a2.A<(((a1.getD x4.toNat default).z).B)))
 else
 LN a1 x3 x4 (yL a1 a2 n) false
 else none
 else
 some x3
def HB (a1:List Worth_zone) (a2:Span):Option Int:=
 (yL a1 a2 FUEL 0 0).bind λo12=>
 some o12
/- (sawmill/worth.view).worth -/
def PG (x17:Int) (R:Int->Int->Option ((Int×Bool)⊕Int)) (x24:Int):Option ((Int×Bool)⊕Int):=
 R x24 (w64 (x17+1))
def zP (a1:Worth_view) (a3:Int) (v14:Box):Nat->Int->Int->Option ((Int×Bool)⊕Int)
 |0,_,_=>none
 |n+1,x16,x17=>
 bif decide (x17<((a1.defects.length:Nat):Int)) then
 bif inb x17 a1.defects.length then
 (XW (a1.defects.getD x17.toNat default) v14).bind λv20=>
 bif !v20 then
 PG x17 (zP a1 a3 v14 n) x16
 else
 bif ((a1.defects.getD x17.toNat default).Kind)==3 then
 some (Sum.inl (0,false))
 else
 PG x17 (zP a1 a3 v14 n) (w64 (x16-a3))
 else none
 else
 some (Sum.inr x16)
def PE (a1:Worth_view) (a2:Span) (a3:Int) (v7:Int×Bool) (x12:Bool):Option (Int×Bool):=
 bif x12 then
 some (0,false)
 else
 (XX a1 a2).bind λv14=>
 (zP a1 a3 v14 FUEL v7.1 0).bind λu28=>Sum.elim (λv29=>some v29) (λo26=>
 some (imax o26 0,true)) u28
def JG (a1:Worth_view) (a2:Span) (a3:Int):Option (Int×Bool):=
 (LW a2 a1.length).bind λv4=>
 bif !v4 then
 some (0,false)
 else
 (DR a1.product (w64 (a2.B-a2.A))).bind λv7=>
 bif !v7.2 then
 PE a1 a2 a3 v7 true
 else
 (HB a1.zones a2).bind λv10=>
 PE a1 a2 a3 v7 (decide (v10>a1.product.Wane))
/- sawmill/worth.Best -/
def HP (x24:Int) (R:Int->Bool->Int->Span->Option (Int×Bool×Span)) (x34:Int) (x35:Bool) (x36:Span):Option (Int×Bool×Span):=
 R x34 x35 (w64 (x24+1)) x36
def DS (a3:Product) (x19:Int) (x22:Int) (x23:Bool) (x24:Int) (x25:Span) (R:Int->Bool->Int->Span->Option (Int×Bool×Span)) (v28:Int×Bool) (x32:Bool):Option (Int×Bool×Span):=
 bif x32 then
 HP x24 R v28.1 true (Span.mk x19 (w64 (x19+(a3.Lengths.getD x24.toNat default))))
 else
 HP x24 R x22 x23 x25
def jJ (a3:Product) (a6:Int) (v14:Worth_view×Bool) (x19:Int):Nat->Int->Bool->Int->Span->Option (Int×Bool×Span)
 |0,_,_,_,_=>none
 |n+1,x22,x23,x24,x25=>
 bif decide (x24<((a3.Lengths.length:Nat):Int)) then
 bif inb x24 a3.Lengths.length then
 (JG (Worth_view.mk v14.1.product v14.1.rect v14.1.length v14.1.zones v14.1.defects) (Span.mk x19 (w64 (x19+(a3.Lengths.getD x24.toNat default)))) a6).bind λv28=>
 bif v28.2 then
 bif !x23 then
 DS a3 x19 x22 x23 x24 x25 (jJ a3 a6 v14 x19 n) v28 true
 else
 DS a3 x19 x22 x23 x24 x25 (jJ a3 a6 v14 x19 n) v28 (decide (v28.1>x22))
 else
 DS a3 x19 x22 x23 x24 x25 (jJ a3 a6 v14 x19 n) v28 false
 else none
 else
 some (x22,x23,x25)
def XB (a3:Product) (a5:Int) (a6:Int) (v14:Worth_view×Bool):Nat->Int->Bool->Int->Span->Option (Int×Bool×Span)
 |0,_,_,_,_=>none
 |n+1,x17,x18,x19,x20=>
 bif decide (x19<v14.1.length) then
 (jJ a3 a6 v14 x19 FUEL x17 x18 0 x20).bind λo40=>
 (XB a3 a5 a6 v14 n) o40.1 o40.2.1 (w64 (x19+a5)) o40.2.2
 else
 some (x17,x18,x20)
def HS (a1:List qB) (a2:List Defect) (a3:Product) (a4:Rect) (a5:Int) (a6:Int) (x12:Bool):Option (Span×Int×Bool):=
 bif x12 then
 some ((Span.mk 0 0),0,false)
 else
 (AW a1 a2 a3 a4).bind λv14=>
 bif !v14.2 then
 some ((Span.mk 0 0),0,false)
 else
 (XB a3 a5 a6 v14 FUEL 0 false 0 (Span.mk 0 0)).bind λo45=>
 some (o45.2.2,o45.1,o45.2.1)
def LJ (a1:List qB) (a2:List Defect) (a3:Product) (a4:Rect) (a5:Int) (a6:Int):Option (Span×Int×Bool):=
 (UV a5).bind λv7=>
 bif !v7 then
 HS a1 a2 a3 a4 a5 a6 true
 else
 (UG a6).bind λv10=>
 HS a1 a2 a3 a4 a5 a6 (!v10)
/- sawmill/solid.extents -/
def JI (a1:List qB):Nat->(List Span)->Int->Int->Option (List Span)
 |0,_,_,_=>none
 |n+1,l3,x4,x5=>
 bif decide (x5<((a1.length:Nat):Int)) then
 bif inb x5 a1.length then
 bif inb x5 l3.length then
 (JI a1 n) (l3.set x5.toNat (Span.mk x4 (w64 (x4+((a1.getD x5.toNat default).Len))))) (w64 (x4+((a1.getD x5.toNat default).Len))) (w64 (x5+1))
 else none
 else none
 else
 some l3
def DP (a1:List qB):Option (List Span):=
 bif mkOk ((a1.length:Nat):Int) 16 then
 (JI a1 FUEL (List.replicate (((a1.length:Nat):Int).toNat) (Span.mk 0 0)) 0 0).bind λo10=>
 some o10
 else none
/- sawmill/solid.Within -/
def BW (x8:Int) (R:Int->Int->Option Int) (x19:Int):Option Int:=
 R x19 (w64 (x8+1))
def QD (a2:Box) (v3:(List qB)) (v5:(List Span)):Nat->Int->Int->Option Int
 |0,_,_=>none
 |n+1,x7,x8=>
 bif decide (x8<((v5.length:Nat):Int)) then
 bif inb x8 v5.length then
 (XO (v5.getD x8.toNat default) a2.Z).bind λv11=>
 (XA v11).bind λv13=>
 bif decide (v13>0) then
 bif inb x8 v3.length then
 (KC ((v3.getD x8.toNat default).Sec) (Rect.mk a2.X a2.Y)).bind λv17=>
 BW x8 (QD a2 v3 v5 n) (w64 (x7+(w64 (v13*v17))))
 else none
 else
 BW x8 (QD a2 v3 v5 n) x7
 else none
 else
 some x7
def QJ (a1:List qB) (a2:Box):Option Int:=
 (XS a1).bind λv3=>
 (DP v3).bind λv5=>
 (QD a2 v3 v5 FUEL 0 0).bind λo21=>
 some o21
/- sawmill/edge.volume -/
def JP (a1:List qB) (a2:Rect) (a3:Span):Option Int:=
 (QJ a1 (Box.mk a2.X a2.Y a3)).bind λv4=>
 some v4
/- sawmill/edge.gain -/
def qAC (a1:List qB) (a2:List Defect) (a3:Product) (a4:Rect) (a5:Saw) (a6:Rates):Option Int:=
 (LJ a1 a2 a3 a4 a5.Step a6.Fine).bind λv7=>
 bif !v7.2.2 then
 some (-1)
 else
 (QG a1).bind λv10=>
 (JP a1 a4 (Span.mk 0 v10)).bind λv12=>
 (JP a1 a4 v7.1).bind λv14=>
 (JP a1 a4 (Span.mk (imax 0 (w64 (v7.1.A-a5.Trim))) v7.1.A)).bind λv16=>
 (JP a1 a4 (Span.mk v7.1.B (imin (w64 (v7.1.B+a5.Trim)) v10))).bind λv18=>
 some (w64 ((w64 ((w64 (1000000*v7.2.1))+(w64 (a6.Dust*(w64 (v16+v18))))))+(w64 (a6.Chip*(w64 ((w64 (v12-v14))-(w64 (v16+v18))))))))
/- sawmill/edge.Line -/
def IC (l16:List Int) (x17:Int) (R:(List Int)->Int->Option (List Int)) (x27:Int):Option (List Int):=
 bif room (l16.length+1) 8 then
 R (l16++([x27]:List Int)) (w64 (x17+1))
 else none
def ZO (a1:List qB) (a2:List Defect) (a3:List Product) (a4:Rect) (a5:Saw) (a6:Rates) (v10:(List Int)×(List Int)) (x12:Int):Nat->(List Int)->Int->Option (List Int)
 |0,_,_=>none
 |n+1,l16,x17=>
 bif decide ((w64 (x17+(v10.1.getD x12.toNat default)))<=(w64 (a4.X.B-a4.X.A))) then
 bif nz a5.Pitch then
 bif (Int.tmod x17 a5.Pitch)==0 then
 bif inb x12 v10.2.length then
 bif inb (v10.2.getD x12.toNat default) a3.length then
 (NI a4 x17 (w64 (x17+(v10.1.getD x12.toNat default)))).bind λv23=>
 (qAC a1 a2 (a3.getD (v10.2.getD x12.toNat default).toNat default) v23 a5 a6).bind λv25=>
 IC l16 x17 (ZO a1 a2 a3 a4 a5 a6 v10 x12 n) v25
 else none
 else none
 else
 IC l16 x17 (ZO a1 a2 a3 a4 a5 a6 v10 x12 n) (-1)
 else none
 else
 some l16
def PC (a1:List qB) (a2:List Defect) (a3:List Product) (a4:Rect) (a5:Saw) (a6:Rates) (v10:(List Int)×(List Int)):Nat->Int->(List (List Int))->Option (List (List Int))
 |0,_,_=>none
 |n+1,x12,l13=>
 bif decide (x12<((v10.1.length:Nat):Int)) then
 bif inb x12 v10.1.length then
 (ZO a1 a2 a3 a4 a5 a6 v10 x12 FUEL ([]:List Int) 0).bind λo30=>
 bif room (l13.length+1) 24 then
 (PC a1 a2 a3 a4 a5 a6 v10 n) (w64 (x12+1)) (l13++([o30]:List (List Int)))
 else none
 else none
 else
 some l13
def KW (a1:List qB) (a4:Rect) (a6:Rates) (v36:Int):Nat->Int->(List Int)->(List Int)->Option ((List Int)×(List Int))
 |0,_,_,_=>none
 |n+1,x38,l39,l40=>
 bif decide (x38<(w64 (a4.X.B-a4.X.A))) then
 (NI a4 x38 (w64 (x38+1))).bind λv42=>
 (JP a1 v42 (Span.mk 0 v36)).bind λv44=>
 bif room (l39.length+1) 8 then
 bif room (l40.length+1) 8 then
 (KW a1 a4 a6 v36 n) (w64 (x38+1)) (l39++([w64 (a6.Chip*v44)]:List Int)) (l40++([w64 (a6.Dust*v44)]:List Int))
 else none
 else none
 else
 some (l39,l40)
def qAB (a1:List qB) (a2:List Defect) (a3:List Product) (a4:Rect) (a5:Saw) (a6:Rates):Option (Line×Int):=
 (AE a1 a2 a3 a4 a5 a6).bind λv7=>
 bif v7 !=0 then
 some ((Line.mk 0 0 0 ([]:List Int) ([]:List (List Int)) ([]:List Int) ([]:List Int)),v7)
 else
 (GD a3 (w64 (a4.Y.B-a4.Y.A))).bind λv10=>
 (PC a1 a2 a3 a4 a5 a6 v10 FUEL 0 ([]:List (List Int))).bind λo34=>
 (QG a1).bind λv36=>
 (KW a1 a4 a6 v36 FUEL 0 ([]:List Int) ([]:List Int)).bind λo50=>
 some ((Line.mk (w64 (a4.X.B-a4.X.A)) a5.Kerf 1 v10.1 o34 o50.1 o50.2),0)
/- sawmill/cutting.measures -/
def PF (x10:Int) (R:Int->Option (Int⊕Unit)) (x14:Bool):Option (Int⊕Unit):=
 bif x14 then
 some (Sum.inl 9)
 else
 R (w64 (x10+1))
def wT (a1:Line):Nat->Int->Option (Int⊕Unit)
 |0,_=>none
 |n+1,x10=>
 bif decide (x10<((a1.Sizes.length:Nat):Int)) then
 bif inb x10 a1.Sizes.length then
 bif decide ((a1.Sizes.getD x10.toNat default)<1) then
 PF x10 (wT a1 n) true
 else
 PF x10 (wT a1 n) (decide ((a1.Sizes.getD x10.toNat default)>2000))
 else none
 else
 some (Sum.inr ())
def wU (a1:Line) (x7:Bool):Option Int:=
 bif x7 then
 some 9
 else
 bif decide (((a1.Sizes.length:Nat):Int)>32) then
 some 4
 else
 (wT a1 FUEL 0).bind λu18=>Sum.elim (λv19=>some v19) (λo16=>
 some 0) u18
def KT (a1:Line):Option Int:=
 bif decide (a1.Len<0) then
 wU a1 true
 else
 bif decide (a1.Len>2000) then
 wU a1 true
 else
 bif decide (a1.Kerf<0) then
 wU a1 true
 else
 bif decide (a1.Kerf>20) then
 wU a1 true
 else
 bif decide (a1.Pitch<1) then
 wU a1 true
 else
 wU a1 (decide (a1.Pitch>2000))
/- sawmill/cutting.places -/
def LO (a1:Line) (a2:Int):Option Int:=
 some (imax 0 (w64 ((w64 (a1.Len-a2))+1)))
/- sawmill/cutting.small -/
def DG (x5:Int) (R:Int->Option (Bool⊕Unit)) (x9:Bool):Option (Bool⊕Unit):=
 bif x9 then
 some (Sum.inl false)
 else
 R (w64 (x5+1))
def jY (a1:List (List Int)) (x2:Int):Nat->Int->Option (Bool⊕Unit)
 |0,_=>none
 |n+1,x5=>
 bif decide (x5<(((a1.getD x2.toNat default).length:Nat):Int)) then
 bif inb x5 ((a1.getD x2.toNat default).length) then
 bif decide (((a1.getD x2.toNat default).getD x5.toNat default)<(-1125899906842624)) then
 DG x5 (jY a1 x2 n) true
 else
 DG x5 (jY a1 x2 n) (decide (((a1.getD x2.toNat default).getD x5.toNat default)>1125899906842624))
 else none
 else
 some (Sum.inr ())
def JB (a1:List (List Int)):Nat->Int->Option (Bool⊕Unit)
 |0,_=>none
 |n+1,x2=>
 bif decide (x2<((a1.length:Nat):Int)) then
 bif inb x2 a1.length then
 (jY a1 x2 FUEL 0).bind λu13=>Sum.elim (λv14=>some (Sum.inl v14)) (λo11=>
 (JB a1 n) (w64 (x2+1))) u13
 else none
 else
 some (Sum.inr ())
def PR (a1:List (List Int)):Option Bool:=
 (JB a1 FUEL 0).bind λu17=>Sum.elim (λv18=>some v18) (λo15=>
 some true) u17
/- sawmill/cutting.Check -/
def WV (a1:Line):Nat->Int->Option (Int⊕Unit)
 |0,_=>none
 |n+1,x9=>
 bif decide (x9<((a1.Gain.length:Nat):Int)) then
 bif inb x9 a1.Gain.length then
 bif inb x9 a1.Sizes.length then
 (LO a1 (a1.Sizes.getD x9.toNat default)).bind λv13=>
 bif (((a1.Gain.getD x9.toNat default).length:Nat):Int) !=v13 then
 some (Sum.inl 19)
 else
 (WV a1 n) (w64 (x9+1))
 else none
 else none
 else
 some (Sum.inr ())
def GM (x25:Bool):Option Int:=
 bif x25 then
 some 9
 else
 some 0
def KP (a1:Line) (x7:Bool):Option Int:=
 bif x7 then
 some 19
 else
 (WV a1 FUEL 0).bind λu18=>Sum.elim (λv19=>some v19) (λo16=>
 (PR a1.Gain).bind λv20=>
 bif !v20 then
 GM true
 else
 (PR ([a1.Chip,a1.Dust]:List (List Int))).bind λv23=>
 GM (!v23)) u18
def DL (a1:Line):Option Int:=
 (KT a1).bind λv2=>
 bif v2 !=0 then
 some v2
 else
 bif ((a1.Gain.length:Nat):Int) !=((a1.Sizes.length:Nat):Int) then
 KP a1 true
 else
 bif ((a1.Chip.length:Nat):Int) !=a1.Len then
 KP a1 true
 else
 KP a1 (((a1.Dust.length:Nat):Int) !=a1.Len)
/- sawmill/cutting.sums -/
def YW (a1:List Int):Nat->(List Int)->Int->Option (List Int)
 |0,_,_=>none
 |n+1,l3,x4=>
 bif decide (x4<((a1.length:Nat):Int)) then
 bif inb x4 a1.length then
 bif inb x4 l3.length then
 bif inb (w64 (x4+1)) l3.length then
 (YW a1 n) (l3.set ((w64 (x4+1)).toNat) (w64 ((l3.getD x4.toNat default)+(a1.getD x4.toNat default)))) (w64 (x4+1))
 else none
 else none
 else none
 else
 some l3
def UW (a1:List Int):Option (List Int):=
 bif mkOk (w64 (((a1.length:Nat):Int)+1)) 8 then
 (YW a1 FUEL (List.replicate ((w64 (((a1.length:Nat):Int)+1)).toNat) 0) 0).bind λo10=>
 some o10
 else none
/- sawmill/cutting.behind -/
def KE (a1:Line) (a2:Int):Option Int:=
 bif a2==a1.Len then
 some (-1)
 else
 some (imin (w64 (a2+a1.Kerf)) a1.Len)
/- sawmill/cutting.start -/
def KR (x5:Int) (R:Int->Cutting_choice->Option Cutting_choice) (x26:Cutting_choice):Option Cutting_choice:=
 R (w64 (x5+1)) x26
def GK (x5:Int) (x6:Cutting_choice) (R:Int->Cutting_choice->Option Cutting_choice) (x22:Cutting_choice) (x24:Bool):Option Cutting_choice:=
 bif x24 then
 KR x5 R x22
 else
 KR x5 R x6
def GY (x5:Int) (x6:Cutting_choice) (R:Int->Cutting_choice->Option Cutting_choice) (x22:Cutting_choice):Option Cutting_choice:=
 bif ((x6.piece.Size==(-1))&&((x6.piece.At==(-1))&&true)) then
 GK x5 x6 R x22 true
 else
 GK x5 x6 R x22 (decide (x22.value>x6.value))
def GE (a1:Line) (a2:Int) (a3:List Int) (a4:List Cutting_choice) (x5:Int) (x6:Cutting_choice) (R:Int->Cutting_choice->Option Cutting_choice) (x12:Bool):Option Cutting_choice:=
 bif x12 then
 KR x5 R x6
 else
 bif inb x5 a1.Gain.length then
 bif inb a2 ((a1.Gain.getD x5.toNat default).length) then
 (KE a1 (w64 (a2+(a1.Sizes.getD x5.toNat default)))).bind λv16=>
 bif decide (v16≥0) then
 bif inb v16 a3.length then
 bif inb (w64 (a2+(a1.Sizes.getD x5.toNat default))) a3.length then
 bif inb v16 a4.length then
 GY x5 x6 R (Cutting_choice.mk (Piece.mk x5 a2) (w64 (((a1.Gain.getD x5.toNat default).getD a2.toNat default)+(w64 ((w64 ((a3.getD v16.toNat default)-(a3.getD (w64 (a2+(a1.Sizes.getD x5.toNat default))).toNat default)))+((a4.getD v16.toNat default).value))))))
 else none
 else none
 else none
 else
 GY x5 x6 R (Cutting_choice.mk (Piece.mk x5 a2) ((a1.Gain.getD x5.toNat default).getD a2.toNat default))
 else none
 else none
def wE (a1:Line) (a2:Int) (a3:List Int) (a4:List Cutting_choice):Nat->Int->Cutting_choice->Option Cutting_choice
 |0,_,_=>none
 |n+1,x5,x6=>
 bif decide (x5<((a1.Sizes.length:Nat):Int)) then
 bif inb x5 a1.Sizes.length then
 bif decide ((w64 (a2+(a1.Sizes.getD x5.toNat default)))>a1.Len) then
 GE a1 a2 a3 a4 x5 x6 (wE a1 a2 a3 a4 n) true
 else
 bif inb x5 a1.Gain.length then
 bif inb a2 ((a1.Gain.getD x5.toNat default).length) then
 GE a1 a2 a3 a4 x5 x6 (wE a1 a2 a3 a4 n) (decide (((a1.Gain.getD x5.toNat default).getD a2.toNat default)<0))
 else none
 else none
 else none
 else
 some x6
def DM (a1:Line) (a2:Int) (a3:List Int) (a4:List Cutting_choice):Option Cutting_choice:=
 (wE a1 a2 a3 a4 FUEL 0 (Cutting_choice.mk (Piece.mk (-1) (-1)) 0)).bind λo28=>
 some o28
/- sawmill/cutting.choices -/
def RW (a1:Line) (x20:Int) (R:Int->Cutting_choice->Option Cutting_choice) (x31:Cutting_choice):Option Cutting_choice:=
 R (w64 (x20+a1.Pitch)) x31
def RQ (a1:Line) (v2:(List Int)) (v4:(List Int)) (l8:List Cutting_choice) (x9:Int) (v11:Cutting_choice) (x20:Int) (x21:Cutting_choice) (R:Int->Cutting_choice->Option Cutting_choice) (x29:Bool):Option Cutting_choice:=
 bif x29 then
 RW a1 x20 R (Cutting_choice.mk (((l8.set x9.toNat v11).getD x20.toNat default).piece) (w64 ((((l8.set x9.toNat v11).getD x20.toNat default).value)+(w64 ((w64 ((w64 ((v2.getD ((w64 (x20-a1.Kerf)).toNat) default)-(v2.getD x9.toNat default)))+(v4.getD x20.toNat default)))-(v4.getD ((w64 (x20-a1.Kerf)).toNat) default))))))
 else
 RW a1 x20 R x21
def zZ (a1:Line) (v2:(List Int)) (v4:(List Int)) (l8:List Cutting_choice) (x9:Int) (v11:Cutting_choice):Nat->Int->Cutting_choice->Option Cutting_choice
 |0,_,_=>none
 |n+1,x20,x21=>
 bif decide (x20<=a1.Len) then
 bif inb x20 l8.length then
 bif inb (w64 (x20-a1.Kerf)) v2.length then
 bif inb x9 v2.length then
 bif inb x20 v4.length then
 bif inb (w64 (x20-a1.Kerf)) v4.length then
 bif !((((((l8.set x9.toNat v11).getD x20.toNat default).piece).Size)==(-1))&&((((((l8.set x9.toNat v11).getD x20.toNat default).piece).At)==(-1))&&true)) then
 RQ a1 v2 v4 l8 x9 v11 x20 x21 (zZ a1 v2 v4 l8 x9 v11 n) (decide ((w64 ((((l8.set x9.toNat v11).getD x20.toNat default).value)+(w64 ((w64 ((w64 ((v2.getD ((w64 (x20-a1.Kerf)).toNat) default)-(v2.getD x9.toNat default)))+(v4.getD x20.toNat default)))-(v4.getD ((w64 (x20-a1.Kerf)).toNat) default)))))>x21.value))
 else
 RQ a1 v2 v4 l8 x9 v11 x20 x21 (zZ a1 v2 v4 l8 x9 v11 n) false
 else none
 else none
 else none
 else none
 else none
 else
 some x21
def TC (a1:Line) (v2:(List Int)) (v4:(List Int)) (l7:List Cutting_choice) (l8:List Cutting_choice) (x9:Int) (R:(List Cutting_choice)->(List Cutting_choice)->Int->Option (List Cutting_choice)) (v11:Cutting_choice) (x19:Cutting_choice):Option (List Cutting_choice):=
 (zZ a1 v2 v4 l8 x9 v11 FUEL (w64 ((w64 (x9+a1.Pitch))+a1.Kerf)) x19).bind λo33=>
 bif inb x9 l7.length then
 R (l7.set x9.toNat o33) (l8.set x9.toNat v11) (w64 (x9-1))
 else none
def RO (a1:Line) (v2:(List Int)) (v4:(List Int)) (l7:List Cutting_choice) (l8:List Cutting_choice) (x9:Int) (R:(List Cutting_choice)->(List Cutting_choice)->Int->Option (List Cutting_choice)) (v11:Cutting_choice) (x17:Bool):Option (List Cutting_choice):=
 bif x17 then
 TC a1 v2 v4 l7 l8 x9 R v11 ((l8.set x9.toNat v11).getD x9.toNat default)
 else
 TC a1 v2 v4 l7 l8 x9 R v11 (Cutting_choice.mk (Piece.mk (-1) (-1)) (w64 ((v2.getD a1.Len.toNat default)-(v2.getD x9.toNat default))))
def wL (a1:Line) (v2:(List Int)) (v4:(List Int)):Nat->(List Cutting_choice)->(List Cutting_choice)->Int->Option (List Cutting_choice)
 |0,_,_,_=>none
 |n+1,l7,l8,x9=>
 bif decide (x9≥0) then
 (DM a1 x9 v4 l7).bind λv11=>
 bif inb x9 l8.length then
 bif inb a1.Len v2.length then
 bif inb x9 v2.length then
 bif !((((((l8.set x9.toNat v11).getD x9.toNat default).piece).Size)==(-1))&&((((((l8.set x9.toNat v11).getD x9.toNat default).piece).At)==(-1))&&true)) then
 RO a1 v2 v4 l7 l8 x9 (wL a1 v2 v4 n) v11 (decide ((((l8.set x9.toNat v11).getD x9.toNat default).value)>(w64 ((v2.getD a1.Len.toNat default)-(v2.getD x9.toNat default)))))
 else
 RO a1 v2 v4 l7 l8 x9 (wL a1 v2 v4 n) v11 false
 else none
 else none
 else none
 else
 some l7
def PZ (a1:Line):Option (List Cutting_choice):=
 (UW a1.Chip).bind λv2=>
 (UW a1.Dust).bind λv4=>
 bif mkOk (w64 (a1.Len+1)) 24 then
 (wL a1 v2 v4 FUEL (List.replicate ((w64 (a1.Len+1)).toNat) (Cutting_choice.mk (Piece.mk 0 0) 0)) (List.replicate ((w64 (a1.Len+1)).toNat) (Cutting_choice.mk (Piece.mk 0 0) 0)) a1.Len).bind λo37=>
 some o37
 else none
/- sawmill/cutting.Best -/
def YV (a1:Line) (v5:(List Cutting_choice)):Nat->(List Piece)->Int->Option (List Piece)
 |0,_,_=>none
 |n+1,l7,x8=>
 bif decide (x8≥0) then
 bif inb x8 v5.length then
 bif (((((v5.getD x8.toNat default).piece).Size)==(-1))&&(((((v5.getD x8.toNat default).piece).At)==(-1))&&true)) then
 some l7
 else
 bif room (l7.length+1) 16 then
 bif inb (((v5.getD x8.toNat default).piece).Size) a1.Sizes.length then
 (KE a1 (w64 ((((v5.getD x8.toNat default).piece).At)+(a1.Sizes.getD (((v5.getD x8.toNat default).piece).Size).toNat default)))).bind λv14=>
 (YV a1 v5 n) (l7++([(v5.getD x8.toNat default).piece]:List Piece)) v14
 else none
 else none
 else none
 else
 some l7
def ZM (a1:Line):Option ((List Piece)×Int×Int):=
 (DL a1).bind λv2=>
 bif v2 !=0 then
 some (([]:List Piece),0,v2)
 else
 (PZ a1).bind λv5=>
 (YV a1 v5 FUEL ([]:List Piece) 0).bind λo17=>
 bif inb 0 v5.length then
 some (o17,(v5.getD ((0:Int).toNat) default).value,0)
 else none
/- slices.Clone[[]sawmill/api.Node,sawmill/api.Node] -/
def YE (a1:List Node):Option (List Node):=
 bif room a1.length 16 then some a1 else none
/- sawmill/edge.collect -/
def BX (a1:List (List Node)) (a2:List Node):Option ((List (List Node))×(List (List Node))):=
 (YE a2).bind λv3=>
 bif room (a1.length+1) 24 then
 some ((a1++([v3]:List (List Node))),(a1++([v3]:List (List Node))))
 else none
/- sawmill/pattern.isRip -/
def GH (x3:Bool):Option Bool:=
 some x3
def wD (a1:Int):Option Bool:=
 bif a1==2 then
 GH true
 else
 GH (a1==3)
/- sawmill/pattern.isFrame -/
def wK (x2:Int) (R:Int->Option (Bool⊕Unit)) (x7:Bool):Option (Bool⊕Unit):=
 bif x7 then
 some (Sum.inl false)
 else
 R (w64 (x2+1))
def zA (a1:Rect):Nat->Int->Option (Bool⊕Unit)
 |0,_=>none
 |n+1,x2=>
 bif decide (x2<2) then
 bif inb x2 2 then
 bif decide ((([a1.X.A,a1.X.B,a1.Y.A,a1.Y.B]:List Int).getD (x2.toNat*2+0) 0)<(-600)) then
 wK x2 (zA a1 n) true
 else
 bif decide ((([a1.X.A,a1.X.B,a1.Y.A,a1.Y.B]:List Int).getD (x2.toNat*2+1) 0)>600) then
 wK x2 (zA a1 n) true
 else
 wK x2 (zA a1 n) (decide ((([a1.X.A,a1.X.B,a1.Y.A,a1.Y.B]:List Int).getD (x2.toNat*2+0) 0)≥(([a1.X.A,a1.X.B,a1.Y.A,a1.Y.B]:List Int).getD (x2.toNat*2+1) 0)))
 else none
 else
 some (Sum.inr ())
def jW (a1:Rect):Option Bool:=
 (zA a1 FUEL 0).bind λu11=>Sum.elim (λv12=>some v12) (λo9=>
 some true) u11
/- sawmill/pattern.along -/
def QO (a1:Rect) (a2:Int):Option Span:=
 bif a2==2 then
 some a1.X
 else
 some a1.Y
/- sawmill/pattern.Row$1 -/
def yE (a1:List Node) (a2:Int) (a3:List Node):Option (Int×(List Node)):=
 bif decide ((w64 (a2+((a1.length:Nat):Int)))<=127) then
 bif room (a3.length+a1.length) 16 then
 some (w64 (a2+((a1.length:Nat):Int)),(a3++a1))
 else none
 else
 some (w64 (a2+((a1.length:Nat):Int)),a3)
/- sawmill/pattern.Row -/
def VB (a5:List (List Node)) (x21:Int) (R:Int->Bool->Int->(List Node)->Int->Option (((List Node)×Int)⊕(Bool×(List Node)×Int))) (x40:Int) (x41:Bool) (l42:List Node) (x43:Int):Option (((List Node)×Int)⊕(Bool×(List Node)×Int)):=
 bif inb x21 a5.length then
 (yE (a5.getD x21.toNat default) x43 l42).bind λv45=>
 R x40 x41 (w64 (x21+1)) v45.2 v45.1
 else none
def WY (a2:Int) (a3:Int) (a4:List Span) (a5:List (List Node)) (v17:Span) (x19:Int) (x20:Bool) (x21:Int) (R:Int->Bool->Int->(List Node)->Int->Option (((List Node)×Int)⊕(Bool×(List Node)×Int))) (l35:List Node) (x36:Int):Option (((List Node)×Int)⊕(Bool×(List Node)×Int)):=
 bif decide (((a4.getD x21.toNat default).B)<v17.B) then
 (yE ([(Node.mk a2 ((a4.getD x21.toNat default).B))]:List Node) x36 l35).bind λv38=>
 VB a5 x21 R (imin (w64 (((a4.getD x21.toNat default).B)+a3)) v17.B) x20 v38.2 v38.1
 else
 VB a5 x21 R x19 true l35 x36
def WX (a2:Int) (a3:Int) (a4:List Span) (a5:List (List Node)) (v17:Span) (x19:Int) (x20:Bool) (x21:Int) (l22:List Node) (x23:Int) (R:Int->Bool->Int->(List Node)->Int->Option (((List Node)×Int)⊕(Bool×(List Node)×Int))) (x29:Bool):Option (((List Node)×Int)⊕(Bool×(List Node)×Int)):=
 bif x29 then
 some (Sum.inl (([]:List Node),11))
 else
 bif decide (((a4.getD x21.toNat default).B)>v17.B) then
 some (Sum.inl (([]:List Node),20))
 else
 bif decide (((a4.getD x21.toNat default).A)>x19) then
 (yE ([(Node.mk a2 (w64 (((a4.getD x21.toNat default).A)-a3))),(Node.mk 0 0)]:List Node) x23 l22).bind λv33=>
 WY a2 a3 a4 a5 v17 x19 x20 x21 R v33.2 v33.1
 else
 WY a2 a3 a4 a5 v17 x19 x20 x21 R l22 x23
def zM (a2:Int) (a3:Int) (a4:List Span) (a5:List (List Node)) (v17:Span):Nat->Int->Bool->Int->(List Node)->Int->Option (((List Node)×Int)⊕(Bool×(List Node)×Int))
 |0,_,_,_,_,_=>none
 |n+1,x19,x20,x21,l22,x23=>
 bif decide (x21<((a4.length:Nat):Int)) then
 bif inb x21 a4.length then
 bif decide (((a4.getD x21.toNat default).A)≥((a4.getD x21.toNat default).B)) then
 some (Sum.inl (([]:List Node),19))
 else
 bif x20 then
 WX a2 a3 a4 a5 v17 x19 x20 x21 l22 x23 (zM a2 a3 a4 a5 v17 n) true
 else
 bif ((a4.getD x21.toNat default).A) !=x19 then
 WX a2 a3 a4 a5 v17 x19 x20 x21 l22 x23 (zM a2 a3 a4 a5 v17 n) (decide (((a4.getD x21.toNat default).A)<(w64 ((w64 (x19+a3))+1))))
 else
 WX a2 a3 a4 a5 v17 x19 x20 x21 l22 x23 (zM a2 a3 a4 a5 v17 n) false
 else none
 else
 some (Sum.inr (x20,l22,x23))
def UO (x57:Int) (l58:List Node):Option ((List Node)×Int):=
 bif decide (x57>127) then
 some (([]:List Node),4)
 else
 some (l58,0)
def VM (a1:Rect) (a2:Int) (a3:Int) (a4:List Span) (a5:List (List Node)) (x15:Bool):Option ((List Node)×Int):=
 bif x15 then
 some (([]:List Node),9)
 else
 (QO a1 a2).bind λv17=>
 (zM a2 a3 a4 a5 v17 FUEL v17.A false 0 ([]:List Node) 0).bind λu52=>Sum.elim (λv53=>some v53) (λo50=>
 bif !o50.1 then
 (yE ([(Node.mk 0 0)]:List Node) o50.2.2 o50.2.1).bind λv55=>
 UO v55.1 v55.2
 else
 UO o50.2.2 o50.2.1) u52
def TX (a1:Rect) (a2:Int) (a3:Int) (a4:List Span) (a5:List (List Node)) (x12:Bool):Option ((List Node)×Int):=
 bif x12 then
 some (([]:List Node),19)
 else
 bif decide (a3<0) then
 VM a1 a2 a3 a4 a5 true
 else
 VM a1 a2 a3 a4 a5 (decide (a3>20))
def QF (a1:Rect) (a2:Int) (a3:Int) (a4:List Span) (a5:List (List Node)):Option ((List Node)×Int):=
 (wD a2).bind λv6=>
 bif !v6 then
 some (([]:List Node),10)
 else
 (jW a1).bind λv9=>
 bif !v9 then
 TX a1 a2 a3 a4 a5 true
 else
 TX a1 a2 a3 a4 a5 (((a4.length:Nat):Int) !=((a5.length:Nat):Int))
/- sawmill/edge.Best -/
def UK (a4:Rect) (v10:(List Piece)×Int×Int) (v13:(List Int)×(List Int)):Nat->(List Span)->(List (List Node))->Int->Option ((List Span)×(List (List Node)))
 |0,_,_,_=>none
 |n+1,l15,l16,x17=>
 bif decide (x17<((v10.1.length:Nat):Int)) then
 bif inb x17 v10.1.length then
 bif inb ((v10.1.getD x17.toNat default).Size) v13.1.length then
 (NI a4 ((v10.1.getD x17.toNat default).At) (w64 (((v10.1.getD x17.toNat default).At)+(v13.1.getD (((v10.1.getD x17.toNat default).Size).toNat) default)))).bind λv21=>
 bif room (l15.length+1) 16 then
 bif inb ((v10.1.getD x17.toNat default).Size) v13.2.length then
 (BX l16 ([(Node.mk 1 (v13.2.getD (((v10.1.getD x17.toNat default).Size).toNat) default))]:List Node)).bind λv25=>
 (UK a4 v10 v13 n) (l15++([v21.X]:List Span)) v25.2 (w64 (x17+1))
 else none
 else none
 else none
 else none
 else
 some (l15,l16)
def qAb (a1:List qB) (a2:List Defect) (a3:List Product) (a4:Rect) (a5:Saw) (a6:Rates):Option ((List Node)×Int×Int):=
 (qAB a1 a2 a3 a4 a5 a6).bind λv7=>
 bif v7.2 !=0 then
 some (([]:List Node),0,v7.2)
 else
 (ZM (Line.mk v7.1.Len v7.1.Kerf v7.1.Pitch v7.1.Sizes v7.1.Gain v7.1.Chip v7.1.Dust)).bind λv10=>
 bif v10.2.2 !=0 then
 some (([]:List Node),0,v10.2.2)
 else
 (GD a3 (w64 (a4.Y.B-a4.Y.A))).bind λv13=>
 (UK a4 v10 v13 FUEL ([]:List Span) ([]:List (List Node)) 0).bind λo29=>
 (QF a4 2 a5.Kerf o29.1 o29.2).bind λv31=>
 bif v31.2 !=0 then
 some (([]:List Node),0,v31.2)
 else
 some (v31.1,v10.2.1,0)
/- sawmill/plan.hasBoard$1 -/
def BZ (a1:Node):Option Bool:=
 some (a1.Kind==1)
/- slices.IndexFunc[[]sawmill/api.Node,sawmill/api.Node] -/
def wS (a1:List Node):Nat->Int->Option (Int⊕Unit)
 |0,_=>none
 |n+1,x2=>
 bif decide (x2<((a1.length:Nat):Int)) then
 bif inb x2 a1.length then
 (BZ (a1.getD x2.toNat default)).bind λv5=>
 bif v5 then
 some (Sum.inl x2)
 else
 (wS a1 n) (w64 (x2+1))
 else none
 else
 some (Sum.inr ())
def JR (a1:List Node):Option Int:=
 (wS a1 FUEL 0).bind λu10=>Sum.elim (λv11=>some v11) (λo8=>
 some (-1)) u10
/- slices.ContainsFunc[[]sawmill/api.Node,sawmill/api.Node] -/
def ZD (a1:List Node):Option Bool:=
 (JR a1).bind λv2=>
 some (decide (v2≥0))
/- sawmill/plan.hasBoard -/
def DT (a1:List Node):Option Bool:=
 (ZD a1).bind λv2=>
 some v2
/- sawmill/plan.volume -/
def DZ (a1:List qB) (a2:Rect):Option Int:=
 (QG a1).bind λv3=>
 (QJ a1 (Box.mk a2.X a2.Y (Span.mk 0 v3))).bind λv5=>
 some v5
/- sawmill/plan.line -/
def NV (l14:List Int) (l15:List (List Node)) (x16:Int) (R:(List Int)->(List (List Node))->Int->Option ((List Int)×(List (List Node)))) (x30:Int) (l31:List Node):Option ((List Int)×(List (List Node))):=
 bif room (l14.length+1) 8 then
 bif room (l15.length+1) 24 then
 R (l14++([x30]:List Int)) (l15++([l31]:List (List Node))) (w64 (x16+1))
 else none
 else none
def AH (l14:List Int) (l15:List (List Node)) (x16:Int) (R:(List Int)->(List (List Node))->Int->Option ((List Int)×(List (List Node)))) (v22:(List Node)×Int×Int) (x27:Bool):Option ((List Int)×(List (List Node))):=
 bif x27 then
 NV l14 l15 x16 R v22.2.1 v22.1
 else
 NV l14 l15 x16 R (-1) ([]:List Node)
def jZ (a1:List qB) (a2:List Defect) (a3:List Product) (a4:Rect) (a5:Saw) (a6:Rates) (v7:(List Int)) (x10:Int):Nat->(List Int)->(List (List Node))->Int->Option ((List Int)×(List (List Node)))
 |0,_,_,_=>none
 |n+1,l14,l15,x16=>
 bif decide ((w64 (x16+(v7.getD x10.toNat default)))<=(w64 (a4.Y.B-a4.Y.A))) then
 bif nz a5.Pitch then
 bif (Int.tmod x16 a5.Pitch)==0 then
 (GT a4 x16 (w64 (x16+(v7.getD x10.toNat default)))).bind λv20=>
 (qAb a1 a2 a3 v20 a5 a6).bind λv22=>
 bif v22.2.2==0 then
 (DT v22.1).bind λv25=>
 AH l14 l15 x16 (jZ a1 a2 a3 a4 a5 a6 v7 x10 n) v22 v25
 else
 AH l14 l15 x16 (jZ a1 a2 a3 a4 a5 a6 v7 x10 n) v22 false
 else
 NV l14 l15 x16 (jZ a1 a2 a3 a4 a5 a6 v7 x10 n) (-1) ([]:List Node)
 else none
 else
 some (l14,l15)
def VO (a1:List qB) (a2:List Defect) (a3:List Product) (a4:Rect) (a5:Saw) (a6:Rates) (v7:(List Int)):Nat->(List (List (List Node)))->Int->(List (List Int))->Option ((List (List (List Node)))×(List (List Int)))
 |0,_,_,_=>none
 |n+1,l9,x10,l11=>
 bif decide (x10<((v7.length:Nat):Int)) then
 bif inb x10 v7.length then
 (jZ a1 a2 a3 a4 a5 a6 v7 x10 FUEL ([]:List Int) ([]:List (List Node)) 0).bind λo36=>
 bif room (l11.length+1) 24 then
 bif room (l9.length+1) 24 then
 (VO a1 a2 a3 a4 a5 a6 v7 n) (l9++([o36.2]:List (List (List Node)))) (w64 (x10+1)) (l11++([o36.1]:List (List Int)))
 else none
 else none
 else none
 else
 some (l9,l11)
def VI (a1:List qB) (a4:Rect) (a6:Rates):Nat->Int->(List Int)->(List Int)->Option ((List Int)×(List Int))
 |0,_,_,_=>none
 |n+1,x44,l45,l46=>
 bif decide (x44<(w64 (a4.Y.B-a4.Y.A))) then
 (GT a4 x44 (w64 (x44+1))).bind λv48=>
 (DZ a1 v48).bind λv50=>
 bif room (l45.length+1) 8 then
 bif room (l46.length+1) 8 then
 (VI a1 a4 a6 n) (w64 (x44+1)) (l45++([w64 (a6.Chip*v50)]:List Int)) (l46++([w64 (a6.Dust*v50)]:List Int))
 else none
 else none
 else
 some (l45,l46)
def CV (a1:List qB) (a2:List Defect) (a3:List Product) (a4:Rect) (a5:Saw) (a6:Rates):Option (Line×(List (List (List Node)))):=
 (YH a3).bind λv7=>
 (VO a1 a2 a3 a4 a5 a6 v7 FUEL ([]:List (List (List Node))) 0 ([]:List (List Int))).bind λo42=>
 (VI a1 a4 a6 FUEL 0 ([]:List Int) ([]:List Int)).bind λo56=>
 some ((Line.mk (w64 (a4.Y.B-a4.Y.A)) a5.Kerf 1 v7 o42.2 o56.1 o56.2),o42.1)
/- sawmill/plan.collect -/
def BR (a1:List Node) (a2:List (List Node)):Option ((List (List Node))×(List (List Node))):=
 bif room (a2.length+1) 24 then
 some ((a2++([a1]:List (List Node))),(a2++([a1]:List (List Node))))
 else none
/- sawmill/section.Area -/
def YL (v2:qK):Nat->Int->Int->Option Int
 |0,_,_=>none
 |n+1,x4,x5=>
 bif decide (x5<((v2.Rows.length:Nat):Int)) then
 bif inb x5 v2.Rows.length then
 (XA (v2.Rows.getD x5.toNat default)).bind λv8=>
 (YL v2 n) (w64 (x4+v8)) (w64 (x5+1))
 else none
 else
 some x4
def FQ (a1:qK):Option Int:=
 (YY a1).bind λv2=>
 (YL v2 FUEL 0 0).bind λo11=>
 some (w64 (10*o11))
/- sawmill/solid.Volume -/
def YO (v2:(List qB)):Nat->Int->Int->Option Int
 |0,_,_=>none
 |n+1,x4,x5=>
 bif decide (x5<((v2.length:Nat):Int)) then
 bif inb x5 v2.length then
 (FQ ((v2.getD x5.toNat default).Sec)).bind λv8=>
 (YO v2 n) (w64 (x4+(w64 (((v2.getD x5.toNat default).Len)*v8)))) (w64 (x5+1))
 else none
 else
 some x4
def UN (a1:List qB):Option Int:=
 (XS a1).bind λv2=>
 (YO v2 FUEL 0 0).bind λo11=>
 some o11
/- sawmill/plan.Best -/
def US (a4:Rect) (v10:Line×(List (List (List Node)))) (v12:(List Piece)×Int×Int):Nat->(List Span)->(List (List Node))->Int->Option ((List Span)×(List (List Node)))
 |0,_,_,_=>none
 |n+1,l15,l16,x17=>
 bif decide (x17<((v12.1.length:Nat):Int)) then
 bif inb x17 v12.1.length then
 bif inb ((v12.1.getD x17.toNat default).Size) v10.1.Sizes.length then
 (GT a4 ((v12.1.getD x17.toNat default).At) (w64 (((v12.1.getD x17.toNat default).At)+(v10.1.Sizes.getD (((v12.1.getD x17.toNat default).Size).toNat) default)))).bind λv21=>
 bif room (l15.length+1) 16 then
 bif inb ((v12.1.getD x17.toNat default).Size) v10.2.length then
 bif inb ((v12.1.getD x17.toNat default).At) ((v10.2.getD (((v12.1.getD x17.toNat default).Size).toNat) default).length) then
 (BR ((v10.2.getD (((v12.1.getD x17.toNat default).Size).toNat) default).getD ((v12.1.getD x17.toNat default).At).toNat default) l16).bind λv26=>
 (US a4 v10 v12 n) (l15++([v21.Y]:List Span)) v26.2 (w64 (x17+1))
 else none
 else none
 else none
 else none
 else none
 else
 some (l15,l16)
def VX (a1:List qB) (a2:List Defect) (a3:List Product) (a4:Rect) (a5:Saw) (a6:Rates):Option (Pattern×Int×Int):=
 (GI a1 a2 a3 a4 a5 a6).bind λv7=>
 bif v7 !=0 then
 some ((Pattern.mk (Rect.mk (Span.mk 0 0) (Span.mk 0 0)) ([]:List Node)),0,v7)
 else
 (CV a1 a2 a3 a4 a5 a6).bind λv10=>
 (ZM (Line.mk v10.1.Len v10.1.Kerf v10.1.Pitch v10.1.Sizes v10.1.Gain v10.1.Chip v10.1.Dust)).bind λv12=>
 bif v12.2.2 !=0 then
 some ((Pattern.mk (Rect.mk (Span.mk 0 0) (Span.mk 0 0)) ([]:List Node)),0,v12.2.2)
 else
 (US a4 v10 v12 FUEL ([]:List Span) ([]:List (List Node)) 0).bind λo30=>
 (QF a4 3 a5.Kerf o30.1 o30.2).bind λv32=>
 bif v32.2 !=0 then
 some ((Pattern.mk (Rect.mk (Span.mk 0 0) (Span.mk 0 0)) ([]:List Node)),0,13)
 else
 (UN a1).bind λv35=>
 (DZ a1 a4).bind λv37=>
 some ((Pattern.mk a4 v32.1),w64 (v12.2.1+(w64 (a6.Chip*(w64 (v35-v37))))),0)
/- sawmill/sawmilllaw24.best -/
def ZI (a1:Law24_Given):Option (Pattern×Int×Int):=
 (VX a1.Solid a1.Defects a1.Products a1.Frame a1.Saw a1.Rates).bind λv2=>
 some ((Pattern.mk v2.1.Frame v2.1.Nodes),v2.2.1,v2.2.2)
/- sawmill/section.Bounds -/
def MU (x6:Int) (R:Int->Span->Option Span) (x13:Span):Option Span:=
 R (w64 (x6+1)) x13
def XD (v2:qK):Nat->Int->Span->Option Span
 |0,_,_=>none
 |n+1,x6,x7=>
 bif decide (x6<((v2.Rows.length:Nat):Int)) then
 bif inb x6 v2.Rows.length then
 (ZL (v2.Rows.getD x6.toNat default)).bind λv10=>
 bif !v10 then
 MU x6 (XD v2 n) (Span.mk (imin x7.A ((v2.Rows.getD x6.toNat default).A)) (imax x7.B ((v2.Rows.getD x6.toNat default).B)))
 else
 MU x6 (XD v2 n) x7
 else none
 else
 some x7
def OD (a1:qK):Option Rect:=
 (YY a1).bind λv2=>
 bif ((v2.Rows.length:Nat):Int)==0 then
 some (Rect.mk (Span.mk 0 0) (Span.mk 0 0))
 else
 bif inb 0 v2.Rows.length then
 (XD v2 FUEL 0 (v2.Rows.getD (0:Int).toNat default)).bind λo15=>
 (YQ v2.Low (w64 (v2.Low+((v2.Rows.length:Nat):Int)))).bind λv17=>
 some (Rect.mk o15 v17)
 else none
/- sawmill/solid.Bounds -/
def IF (x4:Int) (R:Int->Rect->Option Rect) (v8:Rect) (x11:Rect):Option Rect:=
 R (w64 (x4+1)) (Rect.mk (Span.mk (imin x11.X.A v8.X.A) (imax x11.X.B v8.X.B)) (Span.mk (imin x11.Y.A v8.Y.A) (imax x11.Y.B v8.Y.B)))
def PV (v2:(List qB)):Nat->Int->Rect->Option Rect
 |0,_,_=>none
 |n+1,x4,x5=>
 bif decide (x4<((v2.length:Nat):Int)) then
 bif inb x4 v2.length then
 (OD ((v2.getD x4.toNat default).Sec)).bind λv8=>
 bif x4==0 then
 IF x4 (PV v2 n) v8 v8
 else
 IF x4 (PV v2 n) v8 x5
 else none
 else
 some x5
def qB5 (a1:List qB):Option Rect:=
 (XS a1).bind λv2=>
 (PV v2 FUEL 0 (Rect.mk (Span.mk 0 0) (Span.mk 0 0))).bind λo13=>
 some o13
/- sawmill/plan.Frame -/
def EN (a1:List qB):Option Rect:=
 (qB5 a1).bind λv2=>
 some v2
/- sawmill/plan.tree -/
def NH (x3:Int) (R:Int->Int->Option (Int⊕Unit)) (x9:Int):Option (Int⊕Unit):=
 bif x9==0 then
 some (Sum.inl (w64 (x3+1)))
 else
 R x9 (w64 (x3+1))
def UI (x2:Int) (x3:Int) (R:Int->Int->Option (Int⊕Unit)) (x7:Bool):Option (Int⊕Unit):=
 bif x7 then
 NH x3 R (w64 ((w64 (x2-1))+2))
 else
 NH x3 R (w64 (x2-1))
def jN (a1:List Node):Nat->Int->Int->Option (Int⊕Unit)
 |0,_,_=>none
 |n+1,x2,x3=>
 bif decide (x3<((a1.length:Nat):Int)) then
 bif inb x3 a1.length then
 bif ((a1.getD x3.toNat default).Kind)==2 then
 UI x2 x3 (jN a1 n) true
 else
 UI x2 x3 (jN a1 n) (((a1.getD x3.toNat default).Kind)==3)
 else none
 else
 some (Sum.inr ())
def qAm (a1:List Node):Option Int:=
 (jN a1 FUEL 1 0).bind λu13=>Sum.elim (λv14=>some v14) (λo11=>
 some ((a1.length:Nat):Int)) u13
/- slices.Equal[[]sawmill/api.Node,sawmill/api.Node] -/
def jX (a1:List Node) (a2:List Node):Nat->Int->Option (Bool⊕Unit)
 |0,_=>none
 |n+1,x4=>
 bif decide (x4<((a1.length:Nat):Int)) then
 bif inb x4 a1.length then
 bif inb x4 a2.length then
 bif !((((a1.getD x4.toNat default).Kind)==((a2.getD x4.toNat default).Kind))&&((((a1.getD x4.toNat default).At)==((a2.getD x4.toNat default).At))&&true)) then
 some (Sum.inl false)
 else
 (jX a1 a2 n) (w64 (x4+1))
 else none
 else none
 else
 some (Sum.inr ())
def YD (a1:List Node) (a2:List Node):Option Bool:=
 bif ((a1.length:Nat):Int) !=((a2.length:Nat):Int) then
 some false
 else
 (jX a1 a2 FUEL 0).bind λu11=>Sum.elim (λv12=>some v12) (λo9=>
 some true) u11
/- sawmill/plan.row -/
def CC (l11:List Node) (R:(List Span)->(List (List Node))->Int->(List Node)->Option ((List Span)×(List (List Node))×Int×(List Node))) (v18:Int) (l27:List Span) (l28:List (List Node)) (x29:Int):Option ((List Span)×(List (List Node))×Int×(List Node)):=
 bif slOk v18 (((l11.drop ((1:Int).toNat)).length:Nat):Int) (l11.drop ((1:Int).toNat)).length then
 R l27 l28 x29 ((l11.drop ((1:Int).toNat)).drop v18.toNat)
 else none
def CE (a3:Int) (x7:Span) (l8:List Span) (l9:List (List Node)) (x10:Int) (l11:List Node) (R:(List Span)->(List (List Node))->Int->(List Node)->Option ((List Span)×(List (List Node))×Int×(List Node))) (v18:Int) (x22:Bool):Option ((List Span)×(List (List Node))×Int×(List Node)):=
 bif x22 then
 CC l11 R v18 l8 l9 (w64 (((l11.getD (0:Int).toNat default).At)+a3))
 else
 bif room (l8.length+1) 16 then
 bif slOk 0 v18 (l11.drop ((1:Int).toNat)).length then
 bif room (l9.length+1) 24 then
 CC l11 R v18 (l8++([(Span.mk x10 ((l11.getD (0:Int).toNat default).At))]:List Span)) (l9++([((l11.drop ((1:Int).toNat)).take v18.toNat)]:List (List Node))) (imin (w64 (((l11.getD (0:Int).toNat default).At)+a3)) x7.B)
 else none
 else none
 else none
def HE (a3:Int) (x7:Span) (l8:List Span) (l9:List (List Node)) (x10:Int) (l11:List Node) (R:(List Span)->(List (List Node))->Int->(List Node)->Option ((List Span)×(List (List Node))×Int×(List Node))) (x14:Bool):Option ((List Span)×(List (List Node))×Int×(List Node)):=
 bif x14 then
 bif inb 0 l11.length then
 bif slOk 1 ((l11.length:Nat):Int) l11.length then
 (qAm (l11.drop ((1:Int).toNat))).bind λv18=>
 bif v18==1 then
 bif inb 0 ((l11.drop ((1:Int).toNat)).length) then
 CE a3 x7 l8 l9 x10 l11 R v18 ((((l11.drop ((1:Int).toNat)).getD (0:Int).toNat default).Kind)==0)
 else none
 else
 CE a3 x7 l8 l9 x10 l11 R v18 false
 else none
 else none
 else
 some (l8,l9,x10,l11)
def ZF (a2:Int) (a3:Int) (x7:Span):Nat->(List Span)->(List (List Node))->Int->(List Node)->Option ((List Span)×(List (List Node))×Int×(List Node))
 |0,_,_,_,_=>none
 |n+1,l8,l9,x10,l11=>
 bif decide (((l11.length:Nat):Int)>0) then
 bif inb 0 l11.length then
 HE a3 x7 l8 l9 x10 l11 (ZF a2 a3 x7 n) (((l11.getD (0:Int).toNat default).Kind)==a2)
 else none
 else
 HE a3 x7 l8 l9 x10 l11 (ZF a2 a3 x7 n) false
def CJ (l43:List Span) (l44:List (List Node)) (x50:Bool):Option ((List Span)×(List (List Node))×Bool):=
 bif x50 then
 some (([]:List Span),([]:List (List Node)),false)
 else
 some (l43,l44,true)
def HK (a1:Rect) (a2:Int) (a3:Int) (a4:List Node) (l43:List Span) (l44:List (List Node)):Option ((List Span)×(List (List Node))×Bool):=
 (QF a1 a2 a3 l43 l44).bind λv45=>
 bif v45.2 !=0 then
 CJ l43 l44 true
 else
 (YD a4 v45.1).bind λv48=>
 CJ l43 l44 (!v48)
def CT (a1:Rect) (a2:Int) (a3:Int) (a4:List Node) (x7:Span) (o35:(List Span)×(List (List Node))×Int×(List Node)) (x39:Bool):Option ((List Span)×(List (List Node))×Bool):=
 bif x39 then
 bif room (o35.1.length+1) 16 then
 bif room (o35.2.1.length+1) 24 then
 HK a1 a2 a3 a4 (o35.1++([(Span.mk o35.2.2.1 x7.B)]:List Span)) (o35.2.1++([o35.2.2.2]:List (List Node)))
 else none
 else none
 else
 HK a1 a2 a3 a4 o35.1 o35.2.1
def XP (a1:Rect) (a2:Int) (a3:Int) (a4:List Node) (x7:Span):Option ((List Span)×(List (List Node))×Bool):=
 (ZF a2 a3 x7 FUEL ([]:List Span) ([]:List (List Node)) x7.A a4).bind λo35=>
 bif decide (((o35.2.2.2.length:Nat):Int)>0) then
 bif inb 0 o35.2.2.2.length then
 CT a1 a2 a3 a4 x7 o35 (((o35.2.2.2.getD (0:Int).toNat default).Kind) !=0)
 else none
 else
 CT a1 a2 a3 a4 x7 o35 false
def IW (a1:Rect) (a2:Int) (a3:Int) (a4:List Node):Option ((List Span)×(List (List Node))×Bool):=
 bif decide (((a4.length:Nat):Int)>127) then
 some (([]:List Span),([]:List (List Node)),false)
 else
 bif a2==3 then
 XP a1 a2 a3 a4 a1.Y
 else
 XP a1 a2 a3 a4 a1.X
/- slices.Index[[]int,int] -/
def yS (a1:List Int) (a2:Int):Nat->Int->Option (Int⊕Unit)
 |0,_=>none
 |n+1,x3=>
 bif decide (x3<((a1.length:Nat):Int)) then
 bif inb x3 a1.length then
 bif a2==(a1.getD x3.toNat default) then
 some (Sum.inl x3)
 else
 (yS a1 a2 n) (w64 (x3+1))
 else none
 else
 some (Sum.inr ())
def TO (a1:List Int) (a2:Int):Option Int:=
 (yS a1 a2 FUEL 0).bind λu9=>Sum.elim (λv10=>some v10) (λo7=>
 some (-1)) u9
/- slices.Contains[[]int,int] -/
def ZQ (a1:List Int) (a2:Int):Option Bool:=
 (TO a1 a2).bind λv3=>
 some (decide (v3≥0))
/- sawmill/plan.isStrip -/
def RE (x23:Int) (R:Bool->Int->Option Bool) (x31:Bool):Option Bool:=
 R x31 (w64 (x23+1))
def wZ (v5:(List Span)×(List (List Node))×Bool) (v10:(List Int)×(List Int)) (x12:Int):Nat->Bool->Int->Option Bool
 |0,_,_=>none
 |n+1,x22,x23=>
 bif decide (x23<((v10.1.length:Nat):Int)) then
 bif inb x23 v10.1.length then
 bif x22 then
 RE x23 (wZ v5 v10 x12 n) true
 else
 bif (v10.1.getD x23.toNat default)==(w64 (((v5.1.getD x12.toNat default).B)-((v5.1.getD x12.toNat default).A))) then
 bif inb x23 v10.2.length then
 bif inb x12 v5.2.1.length then
 bif inb 0 ((v5.2.1.getD x12.toNat default).length) then
 RE x23 (wZ v5 v10 x12 n) ((v10.2.getD x23.toNat default)==(((v5.2.1.getD x12.toNat default).getD (0:Int).toNat default).At))
 else none
 else none
 else none
 else
 RE x23 (wZ v5 v10 x12 n) false
 else none
 else
 some x22
def RD (v5:(List Span)×(List (List Node))×Bool) (v10:(List Int)×(List Int)) (x12:Int) (R:Int->Option (Bool⊕Unit)) (x20:Bool):Option (Bool⊕Unit):=
 bif x20 then
 some (Sum.inl false)
 else
 (wZ v5 v10 x12 FUEL false 0).bind λo33=>
 bif !o33 then
 some (Sum.inl false)
 else
 R (w64 (x12+1))
def jV (a1:Rect) (a3:Saw) (v5:(List Span)×(List (List Node))×Bool) (v10:(List Int)×(List Int)):Nat->Int->Option (Bool⊕Unit)
 |0,_=>none
 |n+1,x12=>
 bif decide (x12<((v5.1.length:Nat):Int)) then
 bif inb x12 v5.1.length then
 bif nz a3.Pitch then
 bif (Int.tmod (w64 (((v5.1.getD x12.toNat default).A)-a1.X.A)) a3.Pitch) !=0 then
 RD v5 v10 x12 (jV a1 a3 v5 v10 n) true
 else
 bif inb x12 v5.2.1.length then
 bif (((v5.2.1.getD x12.toNat default).length:Nat):Int) !=1 then
 RD v5 v10 x12 (jV a1 a3 v5 v10 n) true
 else
 bif inb 0 ((v5.2.1.getD x12.toNat default).length) then
 RD v5 v10 x12 (jV a1 a3 v5 v10 n) ((((v5.2.1.getD x12.toNat default).getD (0:Int).toNat default).Kind) !=1)
 else none
 else none
 else none
 else none
 else
 some (Sum.inr ())
def BN (a1:Rect) (a2:List Product) (a3:Saw) (v5:(List Span)×(List (List Node))×Bool) (x8:Bool):Option Bool:=
 bif x8 then
 some false
 else
 (GD a2 (w64 (a1.Y.B-a1.Y.A))).bind λv10=>
 (jV a1 a3 v5 v10 FUEL 0).bind λu38=>Sum.elim (λv39=>some v39) (λo36=>
 some true) u38
def NQ (a1:Rect) (a2:List Product) (a3:Saw) (a4:List Node):Option Bool:=
 (IW a1 2 a3.Kerf a4).bind λv5=>
 bif !v5.2.2 then
 BN a1 a2 a3 v5 true
 else
 BN a1 a2 a3 v5 (((v5.1.length:Nat):Int)==0)
/- sawmill/plan.Member -/
def LD (a1:Pattern) (a2:List Product) (a3:Saw) (v14:(List Span)×(List (List Node))×Bool) (x19:Int) (R:Int->Option (Bool⊕Unit)) (x26:Bool):Option (Bool⊕Unit):=
 bif x26 then
 some (Sum.inl false)
 else
 bif inb x19 v14.2.1.length then
 (NQ (Rect.mk a1.Frame.X (v14.1.getD x19.toNat default)) a2 a3 (v14.2.1.getD x19.toNat default)).bind λv29=>
 bif !v29 then
 some (Sum.inl false)
 else
 R (w64 (x19+1))
 else none
def QV (a1:Pattern) (a2:List Product) (a3:Saw) (v14:(List Span)×(List (List Node))×Bool) (v17:(List Int)):Nat->Int->Option (Bool⊕Unit)
 |0,_=>none
 |n+1,x19=>
 bif decide (x19<((v14.1.length:Nat):Int)) then
 bif inb x19 v14.1.length then
 bif nz a3.Pitch then
 bif (Int.tmod (w64 (((v14.1.getD x19.toNat default).A)-a1.Frame.Y.A)) a3.Pitch) !=0 then
 LD a1 a2 a3 v14 x19 (QV a1 a2 a3 v14 v17 n) true
 else
 (ZQ v17 (w64 (((v14.1.getD x19.toNat default).B)-((v14.1.getD x19.toNat default).A)))).bind λv24=>
 LD a1 a2 a3 v14 x19 (QV a1 a2 a3 v14 v17 n) (!v24)
 else none
 else none
 else
 some (Sum.inr ())
def VC (a1:Pattern) (a2:List Product) (a3:Saw) (x12:Bool):Option Bool:=
 bif x12 then
 some false
 else
 (IW a1.Frame 3 a3.Kerf a1.Nodes).bind λv14=>
 bif !v14.2.2 then
 some false
 else
 (YH a2).bind λv17=>
 (QV a1 a2 a3 v14 v17 FUEL 0).bind λu34=>Sum.elim (λv35=>some v35) (λo32=>
 some true) u34
def JL (a1:Pattern) (a2:List Product) (a3:Saw):Option Bool:=
 (jM a2).bind λv4=>
 bif v4 !=0 then
 VC a1 a2 a3 true
 else
 (XN a3 (Rates.mk 0 0 0)).bind λv7=>
 bif v7 !=0 then
 VC a1 a2 a3 true
 else
 (yZ a1.Frame).bind λv10=>
 VC a1 a2 a3 (v10 !=0)
/- sawmill/sawmilllaw24.awake -/
def qU (x28:Bool):Option Bool:=
 some x28
def JW :Option Bool:=
 (KL 97).bind λv1=>
 (ZI (Law24_Given.mk v1.Solid v1.Defects v1.Products v1.Frame v1.Saw v1.Rates)).bind λv3=>
 (KL 96).bind λv5=>
 (ZI (Law24_Given.mk v5.Solid v5.Defects v5.Products v5.Frame v5.Saw v5.Rates)).bind λv7=>
 (YH v1.Products).bind λv9=>
 (EN v1.Solid).bind λv11=>
 bif v3.2.2==0 then
 bif v3.2.1==140000000 then
 bif v7.2.2==0 then
 bif v7.2.1==70000000 then
 bif ((v9.length:Nat):Int)==2 then
 bif inb 0 v9.length then
 bif (v9.getD ((0:Int).toNat) default)==42 then
 bif inb 1 v9.length then
 bif (v9.getD ((1:Int).toNat) default)==105 then
 bif (((v11.X.A==(-100))&&((v11.X.B==100)&&true))&&(((v11.Y.A==(-100))&&((v11.Y.B==100)&&true))&&true)) then
 bif ((v3.1.Nodes.length:Nat):Int)==9 then
 bif inb 0 v3.1.Nodes.length then
 bif ((((v3.1.Nodes.getD ((0:Int).toNat) default).Kind)==3)&&((((v3.1.Nodes.getD ((0:Int).toNat) default).At)==42)&&true)) then
 (JL (Pattern.mk v3.1.Frame v3.1.Nodes) v1.Products v1.Saw).bind λv26=>
 qU v26
 else
 qU false
 else none
 else
 qU false
 else
 qU false
 else
 qU false
 else none
 else
 qU false
 else none
 else
 qU false
 else
 qU false
 else
 qU false
 else
 qU false
 else
 qU false
/- sawmill/sawmillref02.digit -/
def IP (x3:Bool):Option Bool:=
 some x3
def qC1 (a1:Int):Option Bool:=
 bif decide (a1≥48) then
 IP (decide (a1<=57))
 else
 IP false
/- sawmill/sawmillref02.IsName -/
def PY (x5:Int) (R:Int->Option (Bool⊕Unit)) (x16:Bool):Option (Bool⊕Unit):=
 bif x16 then
 some (Sum.inl false)
 else
 R (w64 (x5+1))
def EP (a1:ByteArray) (x5:Int) (R:Int->Option (Bool⊕Unit)) (x9:Bool):Option (Bool⊕Unit):=
 bif !x9 then
 bif x5==0 then
 PY x5 R true
 else
 bif inb x5 a1.size then
 bif (strAt a1 x5.toNat) !=95 then
 (qC1 (strAt a1 x5.toNat)).bind λv14=>
 PY x5 R (!v14)
 else
 PY x5 R false
 else none
 else
 PY x5 R false
def ZU (a1:ByteArray):Nat->Int->Option (Bool⊕Unit)
 |0,_=>none
 |n+1,x5=>
 bif decide (x5<((a1.size:Nat):Int)) then
 bif inb x5 a1.size then
 bif decide ((strAt a1 x5.toNat)≥97) then
 EP a1 x5 (ZU a1 n) (decide ((strAt a1 x5.toNat)<=122))
 else
 EP a1 x5 (ZU a1 n) false
 else none
 else
 some (Sum.inr ())
def IA (a1:ByteArray) (x3:Bool):Option Bool:=
 bif x3 then
 some false
 else
 (ZU a1 FUEL 0).bind λu20=>Sum.elim (λv21=>some v21) (λo18=>
 some true) u20
def qBI (a1:ByteArray):Option Bool:=
 bif decide (((a1.size:Nat):Int)<1) then
 IA a1 true
 else
 IA a1 (decide (((a1.size:Nat):Int)>16))
/- sawmill/sawmillref19.sized -/
def UP (x5:Bool):Option Bool:=
 some x5
def qH2 (a1:Product):Option Bool:=
 bif decide (a1.Thick≥1) then
 bif decide (a1.Thick<=600) then
 bif decide (a1.Width≥1) then
 UP (decide (a1.Width<=600))
 else
 UP false
 else
 UP false
 else
 UP false
/- sawmill/sawmillref19.Green -/
def LC (a1:Product) (x6:Bool):Option (Int×Int):=
 bif x6 then
 some (0,0)
 else
 some (w64 (Int.tdiv (w64 ((w64 (a1.Thick*(w64 (1000+a1.Allow))))+999)) 1000),w64 (Int.tdiv (w64 ((w64 (a1.Width*(w64 (1000+a1.Allow))))+999)) 1000))
def CR (a1:Product):Option (Int×Int):=
 (qH2 a1).bind λv2=>
 bif !v2 then
 LC a1 true
 else
 bif decide (a1.Allow<0) then
 LC a1 true
 else
 LC a1 (decide (a1.Allow>200))
/- sawmill/sawmillref19.checkLengths -/
def UX (x5:Int) (R:Int->Option (Int⊕Unit)) (x14:Bool):Option (Int⊕Unit):=
 bif x14 then
 some (Sum.inl 11)
 else
 R (w64 (x5+1))
def VK (a1:Product) (x5:Int) (R:Int->Option (Int⊕Unit)) (x9:Bool):Option (Int⊕Unit):=
 bif x9 then
 some (Sum.inl 9)
 else
 bif decide (x5>0) then
 bif inb x5 a1.Lengths.length then
 bif inb (w64 (x5-1)) a1.Lengths.length then
 UX x5 R (decide ((a1.Lengths.getD x5.toNat default)<=(a1.Lengths.getD (w64 (x5-1)).toNat default)))
 else none
 else none
 else
 UX x5 R false
def wW (a1:Product):Nat->Int->Option (Int⊕Unit)
 |0,_=>none
 |n+1,x5=>
 bif decide (x5<((a1.Lengths.length:Nat):Int)) then
 bif inb x5 a1.Lengths.length then
 bif decide ((a1.Lengths.getD x5.toNat default)<100) then
 VK a1 x5 (wW a1 n) true
 else
 VK a1 x5 (wW a1 n) (decide ((a1.Lengths.getD x5.toNat default)>20000))
 else none
 else
 some (Sum.inr ())
def UB (x20:Int) (R:Int->Option (Int⊕Unit)) (x24:Bool):Option (Int⊕Unit):=
 bif x24 then
 some (Sum.inl 9)
 else
 R (w64 (x20+1))
def wY (a1:Product):Nat->Int->Option (Int⊕Unit)
 |0,_=>none
 |n+1,x20=>
 bif decide (x20<((a1.Prices.length:Nat):Int)) then
 bif inb x20 a1.Prices.length then
 bif decide ((a1.Prices.getD x20.toNat default)<0) then
 UB x20 (wY a1 n) true
 else
 UB x20 (wY a1 n) (decide ((a1.Prices.getD x20.toNat default)>1000000))
 else none
 else
 some (Sum.inr ())
def FZ (a1:Product):Option Int:=
 bif ((a1.Lengths.length:Nat):Int)==0 then
 some 3
 else
 bif decide (((a1.Lengths.length:Nat):Int)>8) then
 some 4
 else
 bif ((a1.Prices.length:Nat):Int) !=((a1.Lengths.length:Nat):Int) then
 some 19
 else
 (wW a1 FUEL 0).bind λu18=>Sum.elim (λv19=>some v19) (λo16=>
 (wY a1 FUEL 0).bind λu28=>Sum.elim (λv29=>some v29) (λo26=>
 some 0) u28) u18
/- sawmill/sawmillref19.Check -/
def KD (a1:List Product) (x3:Int):Nat->Int->Option (Int⊕Unit)
 |0,_=>none
 |n+1,x9=>
 bif decide (x9<x3) then
 bif inb x9 a1.length then
 bif strEq ((a1.getD x9.toNat default).Name) ((a1.getD x3.toNat default).Name) then
 some (Sum.inl 7)
 else
 (KD a1 x3 n) (w64 (x9+1))
 else none
 else
 some (Sum.inr ())
def yK (a1:List Product) (x3:Int) (R:Int->Option (Int⊕Unit)) (x24:Bool):Option (Int⊕Unit):=
 bif x24 then
 some (Sum.inl 9)
 else
 (CR (a1.getD x3.toNat default)).bind λv26=>
 bif decide (v26.2>600) then
 some (Sum.inl 9)
 else
 (FZ (a1.getD x3.toNat default)).bind λv29=>
 bif v29 !=0 then
 some (Sum.inl v29)
 else
 R (w64 (x3+1))
def wB (a1:List Product):Nat->Int->Option (Int⊕Unit)
 |0,_=>none
 |n+1,x3=>
 bif decide (x3<((a1.length:Nat):Int)) then
 bif inb x3 a1.length then
 (qBI ((a1.getD x3.toNat default).Name)).bind λv6=>
 bif !v6 then
 some (Sum.inl 6)
 else
 (KD a1 x3 FUEL 0).bind λu15=>Sum.elim (λv16=>some (Sum.inl v16)) (λo13=>
 bif decide (((a1.getD x3.toNat default).Thick)<5) then
 yK a1 x3 (wB a1 n) true
 else
 bif decide (((a1.getD x3.toNat default).Thick)>300) then
 yK a1 x3 (wB a1 n) true
 else
 bif decide (((a1.getD x3.toNat default).Width)<((a1.getD x3.toNat default).Thick)) then
 yK a1 x3 (wB a1 n) true
 else
 bif decide (((a1.getD x3.toNat default).Width)>600) then
 yK a1 x3 (wB a1 n) true
 else
 bif decide (((a1.getD x3.toNat default).Allow)<0) then
 yK a1 x3 (wB a1 n) true
 else
 bif decide (((a1.getD x3.toNat default).Allow)>200) then
 yK a1 x3 (wB a1 n) true
 else
 bif decide (((a1.getD x3.toNat default).Wane)<0) then
 yK a1 x3 (wB a1 n) true
 else
 yK a1 x3 (wB a1 n) (decide (((a1.getD x3.toNat default).Wane)>1000))) u15
 else none
 else
 some (Sum.inr ())
def qDc (a1:List Product):Option Int:=
 bif decide (((a1.length:Nat):Int)>16) then
 some 4
 else
 (wB a1 FUEL 0).bind λu34=>Sum.elim (λv35=>some v35) (λo32=>
 some 0) u34
/- sawmill/sawmillref10.beyond -/
def AB (x3:Bool):Option Bool:=
 some x3
def AR (a1:Int):Option Bool:=
 bif decide (a1<(-600)) then
 AB true
 else
 AB (decide (a1>600))
/- sawmill/sawmillref10.empty -/
def CP (a1:Span):Option Bool:=
 some (decide (a1.A≥a1.B))
/- sawmill/sawmillref10.Check -/
def OF (x6:Int) (R:Int->Option (Int⊕Unit)) (x14:Bool):Option (Int⊕Unit):=
 bif x14 then
 some (Sum.inl 9)
 else
 R (w64 (x6+1))
def JH (a1:qK):Nat->Int->Option (Int⊕Unit)
 |0,_=>none
 |n+1,x6=>
 bif decide (x6<((a1.Rows.length:Nat):Int)) then
 bif inb x6 a1.Rows.length then
 (AR ((a1.Rows.getD x6.toNat default).A)).bind λv9=>
 bif v9 then
 OF x6 (JH a1 n) true
 else
 (AR ((a1.Rows.getD x6.toNat default).B)).bind λv12=>
 OF x6 (JH a1 n) v12
 else none
 else
 some (Sum.inr ())
def OG (x31:Int) (R:Int->Option (Int⊕Unit)) (x37:Bool):Option (Int⊕Unit):=
 bif x37 then
 some (Sum.inl 19)
 else
 R (w64 (x31+1))
def JC (a1:qK):Nat->Int->Option (Int⊕Unit)
 |0,_=>none
 |n+1,x31=>
 bif decide (x31<((a1.Rows.length:Nat):Int)) then
 bif inb x31 a1.Rows.length then
 (CP (a1.Rows.getD x31.toNat default)).bind λv34=>
 bif v34 then
 OG x31 (JC a1 n) (!((((a1.Rows.getD x31.toNat default).A)==0)&&((((a1.Rows.getD x31.toNat default).B)==0)&&true)))
 else
 OG x31 (JC a1 n) false
 else none
 else
 some (Sum.inr ())
def OT (a1:qK) (x29:Bool):Option Int:=
 bif x29 then
 some 19
 else
 (JC a1 FUEL 0).bind λu41=>Sum.elim (λv42=>some v42) (λo39=>
 some 0) u41
def OQ (a1:qK) (x4:Bool):Option Int:=
 bif x4 then
 some 9
 else
 (JH a1 FUEL 0).bind λu18=>Sum.elim (λv19=>some v19) (λo16=>
 bif ((a1.Rows.length:Nat):Int)==0 then
 bif a1.Low !=0 then
 some 19
 else
 some 0
 else
 bif inb 0 a1.Rows.length then
 (CP (a1.Rows.getD (0:Int).toNat default)).bind λv23=>
 bif v23 then
 OT a1 true
 else
 bif inb (w64 (((a1.Rows.length:Nat):Int)-1)) a1.Rows.length then
 (CP (a1.Rows.getD (w64 (((a1.Rows.length:Nat):Int)-1)).toNat default)).bind λv27=>
 OT a1 v27
 else none
 else none) u18
def qC8 (a1:qK):Option Int:=
 bif decide (((a1.Rows.length:Nat):Int)>120) then
 some 4
 else
 bif decide (a1.Low<(-60)) then
 OQ a1 true
 else
 OQ a1 (decide (a1.Low>(w64 (60-((a1.Rows.length:Nat):Int)))))
/- sawmill/sawmillref11.Check -/
def OU (a1:List qB) (x4:Int) (x5:Int) (R:Int->Int->Option (Int⊕Unit)) (x13:Bool):Option (Int⊕Unit):=
 bif x13 then
 some (Sum.inl 9)
 else
 R (w64 (x4+((a1.getD x5.toNat default).Len))) (w64 (x5+1))
def JD (a1:List qB):Nat->Int->Int->Option (Int⊕Unit)
 |0,_,_=>none
 |n+1,x4,x5=>
 bif decide (x5<((a1.length:Nat):Int)) then
 bif inb x5 a1.length then
 (qC8 ((a1.getD x5.toNat default).Sec)).bind λv8=>
 bif v8 !=0 then
 some (Sum.inl v8)
 else
 bif (((((a1.getD x5.toNat default).Sec).Rows).length:Nat):Int)==0 then
 some (Sum.inl 18)
 else
 bif decide (((a1.getD x5.toNat default).Len)<1) then
 OU a1 x4 x5 (JD a1 n) true
 else
 OU a1 x4 x5 (JD a1 n) (decide (((a1.getD x5.toNat default).Len)>(w64 (20000-x4))))
 else none
 else
 some (Sum.inr ())
def qC2 (a1:List qB):Option Int:=
 bif ((a1.length:Nat):Int)==0 then
 some 3
 else
 bif decide (((a1.length:Nat):Int)>24) then
 some 4
 else
 (JD a1 FUEL 0 0).bind λu17=>Sum.elim (λv18=>some v18) (λo15=>
 some 0) u17
/- sawmill/sawmilllaw24.wide -/
def DN (a1:Span) (a2:Int) (x5:Bool):Option Int:=
 bif x5 then
 some 1
 else
 bif nz a2 then
 some (w64 ((w64 (Int.tdiv (w64 (a1.B-a1.A)) a2))+1))
 else none
def DA (a1:Span) (a2:Int):Option Int:=
 bif decide (a1.A<(-600)) then
 DN a1 a2 true
 else
 bif decide (a1.B>600) then
 DN a1 a2 true
 else
 DN a1 a2 (decide (a2<1))
/- sawmill/sawmilllaw24.light -/
def UM (a1:Law24_Given) (x15:Bool):Option Bool:=
 bif x15 then
 some false
 else
 (DA a1.Frame.X a1.Saw.Pitch).bind λv17=>
 (DA a1.Frame.Y a1.Saw.Pitch).bind λv19=>
 some (decide ((w64 (v17*v19))<=300))
def JJ (a1:Law24_Given) (x9:Bool):Option Bool:=
 bif x9 then
 some false
 else
 bif decide (a1.Saw.Step≥1) then
 (QG a1.Solid).bind λv12=>
 bif nz a1.Saw.Step then
 UM a1 (decide ((w64 (Int.tdiv v12 a1.Saw.Step))>30))
 else none
 else
 UM a1 false
def DW (a1:Law24_Given):Option Bool:=
 (HM a1.Solid).bind λv2=>
 bif !v2 then
 JJ a1 true
 else
 bif decide (((a1.Defects.length:Nat):Int)>70) then
 JJ a1 true
 else
 (qAp a1.Products).bind λv6=>
 bif !v6 then
 JJ a1 true
 else
 JJ a1 (decide (((a1.Products.length:Nat):Int)>4))
/- sawmill/sawmillref23.Sizes -/
def LY (x8:Int) (R:(List Int)->(List Int)->Int->Option ((List Int)×(List Int))) (l19:List Int) (l20:List Int):Option ((List Int)×(List Int)):=
 R l19 l20 (w64 (x8+1))
def QW (a1:List Product) (a2:Int):Nat->(List Int)->(List Int)->Int->Option ((List Int)×(List Int))
 |0,_,_,_=>none
 |n+1,l6,l7,x8=>
 bif decide (x8<((a1.length:Nat):Int)) then
 bif inb x8 a1.length then
 (CR (a1.getD x8.toNat default)).bind λv11=>
 bif v11.1==a2 then
 bif room (l6.length+1) 8 then
 bif room (l7.length+1) 8 then
 LY x8 (QW a1 a2 n) (l6++([v11.2]:List Int)) (l7++([x8]:List Int))
 else none
 else none
 else
 bif v11.2==a2 then
 bif room (l6.length+1) 8 then
 bif room (l7.length+1) 8 then
 LY x8 (QW a1 a2 n) (l6++([v11.1]:List Int)) (l7++([x8]:List Int))
 else none
 else none
 else
 LY x8 (QW a1 a2 n) l6 l7
 else none
 else
 some (l6,l7)
def qHW (a1:List Product) (a2:Int):Option ((List Int)×(List Int)):=
 (qDc a1).bind λv3=>
 bif v3 !=0 then
 some (([]:List Int),([]:List Int))
 else
 (QW a1 a2 FUEL ([]:List Int) ([]:List Int) 0).bind λo23=>
 some (o23.1,o23.2)
/- sawmill/sawmillref11.Length -/
def YR (a1:List qB):Nat->Int->Int->Option Int
 |0,_,_=>none
 |n+1,x5,x6=>
 bif decide (x6<((a1.length:Nat):Int)) then
 bif inb x6 a1.length then
 (YR a1 n) (w64 (x5+((a1.getD x6.toNat default).Len))) (w64 (x6+1))
 else none
 else
 some x5
def qFw (a1:List qB):Option Int:=
 (qC2 a1).bind λv2=>
 bif v2 !=0 then
 some 0
 else
 (YR a1 FUEL 0 0).bind λo10=>
 some o10
/- sawmill/sawmilllaw24.short -/
def HA (a1:Law24_Given):Option Bool:=
 (DA a1.Frame.X a1.Saw.Pitch).bind λv2=>
 some (decide (v2<=31))
/- sawmill/pattern.places -/
def jP (a1:Pattern) (a2:Int):Option (Pattern×Int):=
 some (a1,a2)
/- sawmill/pattern.checkNode -/
def ZT :Option Int:=
 some 0
def XI (x15:Bool):Option Int:=
 bif x15 then
 some 20
 else
 ZT
def jG (a1:Node) (a2:Pattern_place) (x6:Bool):Option Int:=
 bif x6 then
 some 10
 else
 bif decide (a2.level>64) then
 some 28
 else
 (wD a1.Kind).bind λv9=>
 bif v9 then
 (QO a2.rect a1.Kind).bind λv12=>
 bif decide (a1.At<=v12.A) then
 XI true
 else
 XI (decide (a1.At≥v12.B))
 else
 ZT
def WA (a1:Node) (a2:Pattern_place):Option Int:=
 bif decide (a1.Kind<0) then
 jG a1 a2 true
 else
 bif decide (a1.Kind>3) then
 jG a1 a2 true
 else
 bif a1.Kind==0 then
 jG a1 a2 (a1.At !=0)
 else
 jG a1 a2 false
/- sawmill/pattern.Check$1 -/
def yF (x18:Bool):Option Int:=
 bif x18 then
 some 20
 else
 some 0
def QY (a1:Rect) (a2:Int) (a3:List Product) (x5:Bool):Option Int:=
 bif x5 then
 some 8
 else
 bif inb a2 a3.length then
 (QP (a3.getD a2.toNat default)).bind λv8=>
 (XA a1.X).bind λv10=>
 (XA a1.Y).bind λv12=>
 bif v10 !=v8.1 then
 bif v10 !=v8.2 then
 yF true
 else
 yF (v12 !=v8.1)
 else
 bif v12 !=v8.2 then
 bif v10 !=v8.2 then
 yF true
 else
 yF (v12 !=v8.1)
 else
 yF false
 else none
def RC (a1:Rect) (a2:Int) (a3:List Product):Option Int:=
 bif decide (a2<0) then
 QY a1 a2 a3 true
 else
 QY a1 a2 a3 (decide (a2≥((a3.length:Nat):Int)))
/- sawmill/pattern.check -/
def JY (a1:Int) (a5:Int) (a6:Int) (x16:Int):Option (Nat×Int×Int):=
 bif x16 !=0 then
 some (1,x16,a6)
 else
 some (0,a5,w64 (a1+1))
def JN (a1:Int) (a2:Pattern_place) (a3:Pattern) (a4:List Product) (a5:Int) (a6:Int) (v9:Int) (x12:Bool):Option (Nat×Int×Int):=
 bif x12 then
 (RC a2.rect ((a3.Nodes.getD a1.toNat default).At) a4).bind λv14=>
 JY a1 a5 a6 v14
 else
 JY a1 a5 a6 v9
def jU (a1:Int) (a2:Pattern_place) (a3:Pattern) (a4:List Product) (a5:Int) (a6:Int):Option (Nat×Int×Int):=
 bif decide (a1≥((a3.Nodes.length:Nat):Int)) then
 some (1,3,a6)
 else
 bif inb a1 a3.Nodes.length then
 (WA (a3.Nodes.getD a1.toNat default) a2).bind λv9=>
 bif v9==0 then
 JN a1 a2 a3 a4 a5 a6 v9 (((a3.Nodes.getD a1.toNat default).Kind)==1)
 else
 JN a1 a2 a3 a4 a5 a6 v9 false
 else none
/- sawmill/pattern.with -/
def BJ (x5:Rect):Option Rect:=
 some x5
def KS (a1:Rect) (a2:Int) (a3:Span):Option Rect:=
 bif a2==2 then
 BJ (Rect.mk a3 a1.Y)
 else
 BJ (Rect.mk a1.X a3)
/- sawmill/pattern.parts -/
def yI (a1:Rect) (a2:Node) (a3:Int):Option (Rect×Rect×Rect):=
 (QO a1 a2.Kind).bind λv4=>
 (KS a1 a2.Kind (Span.mk v4.A a2.At)).bind λv6=>
 (KS a1 a2.Kind (Span.mk a2.At (imin (w64 (a2.At+a3)) v4.B))).bind λv8=>
 (KS a1 a2.Kind (Span.mk (imin (w64 (a2.At+a3)) v4.B) v4.B)).bind λv10=>
 some (v6,v8,v10)
/- sawmill/pattern.places$1 -/
def PH (x8:Int) (R:(List Pattern_place)->Int->Int->Int->Option ((Nat×Int×Int)⊕(Int×Int))) (l25:List Pattern_place) (x26:Int) (x27:Int):Option ((Nat×Int×Int)⊕(Int×Int)):=
 R l25 (w64 (x8+1)) x27 x26
def jT (a1:Pattern) (a2:List Product) (a5:Pattern) (a6:Int):Nat->(List Pattern_place)->Int->Int->Int->Option ((Nat×Int×Int)⊕(Int×Int))
 |0,_,_,_,_=>none
 |n+1,l7,x8,x9,x10=>
 bif decide (((l7.length:Nat):Int)>0) then
 bif inb (w64 (((l7.length:Nat):Int)-1)) l7.length then
 bif slOk 0 (w64 (((l7.length:Nat):Int)-1)) l7.length then
 (jU x8 (l7.getD ((w64 (((l7.length:Nat):Int)-1)).toNat) default) a1 a2 x9 x10).bind λv14=>
 bif !(Nat.beq v14.1 0) then
 some (Sum.inl (v14.1,v14.2.1,v14.2.2))
 else
 bif decide (x8≥((a5.Nodes.length:Nat):Int)) then
 some (Sum.inl (0,v14.2.1,v14.2.2))
 else
 bif inb x8 a5.Nodes.length then
 (wD ((a5.Nodes.getD x8.toNat default).Kind)).bind λv19=>
 bif v19 then
 (yI ((l7.getD ((w64 (((l7.length:Nat):Int)-1)).toNat) default).rect) (a5.Nodes.getD x8.toNat default) a6).bind λv22=>
 bif room ((w64 (((l7.length:Nat):Int)-1)).toNat+2) 40 then
 PH x8 (jT a1 a2 a5 a6 n) ((l7.take ((w64 (((l7.length:Nat):Int)-1)).toNat))++([(Pattern_place.mk v22.2.2 (w64 (((l7.getD ((w64 (((l7.length:Nat):Int)-1)).toNat) default).level)+1))),(Pattern_place.mk v22.1 (w64 (((l7.getD ((w64 (((l7.length:Nat):Int)-1)).toNat) default).level)+1)))]:List Pattern_place)) v14.2.2 v14.2.1
 else none
 else
 PH x8 (jT a1 a2 a5 a6 n) (l7.take ((w64 (((l7.length:Nat):Int)-1)).toNat)) v14.2.2 v14.2.1
 else none
 else none
 else none
 else
 some (Sum.inr (x10,x9))
def KF (a1:Pattern) (a2:List Product) (a3:Int) (a4:Int) (a5:Pattern) (a6:Int):Option (Nat×Int×Int):=
 (jT a1 a2 a5 a6 FUEL ([(Pattern_place.mk a5.Frame 1)]:List Pattern_place) 0 a3 a4).bind λu32=>Sum.elim (λv33=>some v33) (λo30=>
 some (0,o30.2,o30.1)) u32
/- sawmill/pattern.check -/
def JF (a1:Pattern) (a2:Int) (a3:List Product) (x8:Bool):Option Int:=
 bif x8 then
 some 9
 else
 bif decide (((a1.Nodes.length:Nat):Int)>127) then
 some 4
 else
 (jP a1 a2).bind λv11=>
 (KF a1 a3 0 0 v11.1 v11.2).bind λv13=>
 bif Nat.beq v13.1 0 then
 bif decide (v13.2.2<((a1.Nodes.length:Nat):Int)) then
 some 4
 else
 some 0
 else
 bif Nat.beq v13.1 1 then
 some v13.2.1
 else
 none
def HR (a1:Pattern) (a2:Int) (a3:List Product):Option Int:=
 (jW a1.Frame).bind λv4=>
 bif !v4 then
 some 19
 else
 bif decide (a2<0) then
 JF a1 a2 a3 true
 else
 JF a1 a2 a3 (decide (a2>20))
/- sawmill/pattern.Check -/
def DJ (a1:Pattern) (a2:List Product) (a3:Int):Option Int:=
 (HR a1 a3 a2).bind λv4=>
 some v4
/- sawmill/yield.check -/
def DY (a1:List qB) (a2:List Defect) (a3:List Product) (a4:Pattern) (a5:Saw) (a6:Rates):Option Int:=
 (JS a1).bind λv7=>
 bif v7 !=0 then
 some v7
 else
 (YC a2).bind λv10=>
 bif v10 !=0 then
 some v10
 else
 (jM a3).bind λv13=>
 bif v13 !=0 then
 some v13
 else
 (XN a5 a6).bind λv16=>
 bif v16 !=0 then
 some v16
 else
 (DJ a4 a3 a5.Kerf).bind λv19=>
 some v19
/- sawmill/pattern.anyBoard -/
def PD (x4:Bool):Option Int:=
 bif x4 then
 some 8
 else
 some 0
def PB (a1:Rect) (a2:Int):Option Int:=
 bif decide (a2<0) then
 PD true
 else
 PD (decide (a2≥16))
/- sawmill/pattern.check -/
def ZE (a1:Int) (a4:Int) (a5:Int) (x15:Int):Option (Nat×Int×Int):=
 bif x15 !=0 then
 some (1,x15,a5)
 else
 some (0,a4,w64 (a1+1))
def ZC (a1:Int) (a2:Pattern_place) (a3:Pattern) (a4:Int) (a5:Int) (v8:Int) (x11:Bool):Option (Nat×Int×Int):=
 bif x11 then
 (PB a2.rect ((a3.Nodes.getD a1.toNat default).At)).bind λv13=>
 ZE a1 a4 a5 v13
 else
 ZE a1 a4 a5 v8
def wM (a1:Int) (a2:Pattern_place) (a3:Pattern) (a4:Int) (a5:Int):Option (Nat×Int×Int):=
 bif decide (a1≥((a3.Nodes.length:Nat):Int)) then
 some (1,3,a5)
 else
 bif inb a1 a3.Nodes.length then
 (WA (a3.Nodes.getD a1.toNat default) a2).bind λv8=>
 bif v8==0 then
 ZC a1 a2 a3 a4 a5 v8 (((a3.Nodes.getD a1.toNat default).Kind)==1)
 else
 ZC a1 a2 a3 a4 a5 v8 false
 else none
/- sawmill/pattern.places$1 -/
def JV (x7:Int) (R:(List Pattern_place)->Int->Int->Int->Option ((Nat×Int×Int)⊕(Int×Int))) (l24:List Pattern_place) (x25:Int) (x26:Int):Option ((Nat×Int×Int)⊕(Int×Int)):=
 R l24 (w64 (x7+1)) x26 x25
def wQ (a1:Pattern) (a4:Pattern) (a5:Int):Nat->(List Pattern_place)->Int->Int->Int->Option ((Nat×Int×Int)⊕(Int×Int))
 |0,_,_,_,_=>none
 |n+1,l6,x7,x8,x9=>
 bif decide (((l6.length:Nat):Int)>0) then
 bif inb (w64 (((l6.length:Nat):Int)-1)) l6.length then
 bif slOk 0 (w64 (((l6.length:Nat):Int)-1)) l6.length then
 (wM x7 (l6.getD ((w64 (((l6.length:Nat):Int)-1)).toNat) default) a1 x8 x9).bind λv13=>
 bif !(Nat.beq v13.1 0) then
 some (Sum.inl (v13.1,v13.2.1,v13.2.2))
 else
 bif decide (x7≥((a4.Nodes.length:Nat):Int)) then
 some (Sum.inl (0,v13.2.1,v13.2.2))
 else
 bif inb x7 a4.Nodes.length then
 (wD ((a4.Nodes.getD x7.toNat default).Kind)).bind λv18=>
 bif v18 then
 (yI ((l6.getD ((w64 (((l6.length:Nat):Int)-1)).toNat) default).rect) (a4.Nodes.getD x7.toNat default) a5).bind λv21=>
 bif room ((w64 (((l6.length:Nat):Int)-1)).toNat+2) 40 then
 JV x7 (wQ a1 a4 a5 n) ((l6.take ((w64 (((l6.length:Nat):Int)-1)).toNat))++([(Pattern_place.mk v21.2.2 (w64 (((l6.getD ((w64 (((l6.length:Nat):Int)-1)).toNat) default).level)+1))),(Pattern_place.mk v21.1 (w64 (((l6.getD ((w64 (((l6.length:Nat):Int)-1)).toNat) default).level)+1)))]:List Pattern_place)) v13.2.2 v13.2.1
 else none
 else
 JV x7 (wQ a1 a4 a5 n) (l6.take ((w64 (((l6.length:Nat):Int)-1)).toNat)) v13.2.2 v13.2.1
 else none
 else none
 else none
 else
 some (Sum.inr (x9,x8))
def WQ (a1:Pattern) (a2:Int) (a3:Int) (a4:Pattern) (a5:Int):Option (Nat×Int×Int):=
 (wQ a1 a4 a5 FUEL ([(Pattern_place.mk a4.Frame 1)]:List Pattern_place) 0 a2 a3).bind λu31=>Sum.elim (λv32=>some v32) (λo29=>
 some (0,o29.2,o29.1)) u31
/- sawmill/pattern.check -/
def PK (a1:Pattern) (a2:Int) (x7:Bool):Option Int:=
 bif x7 then
 some 9
 else
 bif decide (((a1.Nodes.length:Nat):Int)>127) then
 some 4
 else
 (jP a1 a2).bind λv10=>
 (WQ a1 0 0 v10.1 v10.2).bind λv12=>
 bif Nat.beq v12.1 0 then
 bif decide (v12.2.2<((a1.Nodes.length:Nat):Int)) then
 some 4
 else
 some 0
 else
 bif Nat.beq v12.1 1 then
 some v12.2.1
 else
 none
def WZ (a1:Pattern) (a2:Int):Option Int:=
 (jW a1.Frame).bind λv3=>
 bif !v3 then
 some 19
 else
 bif decide (a2<0) then
 PK a1 a2 true
 else
 PK a1 a2 (decide (a2>20))
/- sawmill/pattern.Leaves -/
def jE (a1:Int) (a2:Pattern_place) (a3:Pattern) (a4:List Leaf):Option (Nat×(List Leaf)):=
 bif inb a1 a3.Nodes.length then
 bif ((a3.Nodes.getD a1.toNat default).Kind)==0 then
 bif room (a4.length+1) 40 then
 some (0,(a4++([(Leaf.mk a2.rect (-1))]:List Leaf)))
 else none
 else
 bif ((a3.Nodes.getD a1.toNat default).Kind)==1 then
 bif room (a4.length+1) 40 then
 some (0,(a4++([(Leaf.mk a2.rect ((a3.Nodes.getD a1.toNat default).At))]:List Leaf)))
 else none
 else
 some (0,a4)
 else none
/- sawmill/pattern.places$1 -/
def JU (x6:Int) (R:(List Pattern_place)->Int->(List Leaf)->Option ((Nat×(List Leaf))⊕(List Leaf))) (l22:List Pattern_place) (l23:List Leaf):Option ((Nat×(List Leaf))⊕(List Leaf)):=
 R l22 (w64 (x6+1)) l23
def wP (a1:Pattern) (a2:Pattern) (a3:Int):Nat->(List Pattern_place)->Int->(List Leaf)->Option ((Nat×(List Leaf))⊕(List Leaf))
 |0,_,_,_=>none
 |n+1,l5,x6,l7=>
 bif decide (((l5.length:Nat):Int)>0) then
 bif inb (w64 (((l5.length:Nat):Int)-1)) l5.length then
 bif slOk 0 (w64 (((l5.length:Nat):Int)-1)) l5.length then
 (jE x6 (l5.getD ((w64 (((l5.length:Nat):Int)-1)).toNat) default) a1 l7).bind λv11=>
 bif !(Nat.beq v11.1 0) then
 some (Sum.inl (v11.1,v11.2))
 else
 bif decide (x6≥((a2.Nodes.length:Nat):Int)) then
 some (Sum.inl (0,v11.2))
 else
 bif inb x6 a2.Nodes.length then
 (wD ((a2.Nodes.getD x6.toNat default).Kind)).bind λv16=>
 bif v16 then
 (yI ((l5.getD ((w64 (((l5.length:Nat):Int)-1)).toNat) default).rect) (a2.Nodes.getD x6.toNat default) a3).bind λv19=>
 bif room ((w64 (((l5.length:Nat):Int)-1)).toNat+2) 40 then
 JU x6 (wP a1 a2 a3 n) ((l5.take ((w64 (((l5.length:Nat):Int)-1)).toNat))++([(Pattern_place.mk v19.2.2 (w64 (((l5.getD ((w64 (((l5.length:Nat):Int)-1)).toNat) default).level)+1))),(Pattern_place.mk v19.1 (w64 (((l5.getD ((w64 (((l5.length:Nat):Int)-1)).toNat) default).level)+1)))]:List Pattern_place)) v11.2
 else none
 else
 JU x6 (wP a1 a2 a3 n) (l5.take ((w64 (((l5.length:Nat):Int)-1)).toNat)) v11.2
 else none
 else none
 else none
 else
 some (Sum.inr l7)
def WT (a1:Pattern) (a2:Pattern) (a3:Int) (a4:List Leaf):Option (Nat×(List Leaf)):=
 (wP a1 a2 a3 FUEL ([(Pattern_place.mk a2.Frame 1)]:List Pattern_place) 0 a4).bind λu27=>Sum.elim (λv28=>some v28) (λo25=>
 some (0,o25)) u27
/- sawmill/pattern.Leaves -/
def UL (a1:Pattern) (a2:Int):Option ((List Leaf)×Int):=
 (WZ a1 a2).bind λv3=>
 bif v3 !=0 then
 some (([]:List Leaf),v3)
 else
 (jP a1 a2).bind λv6=>
 (WT a1 v6.1 v6.2 ([]:List Leaf)).bind λv8=>
 bif Nat.beq v8.1 0 then
 some (v8.2,0)
 else
 none
/- sawmill/yield.boardLeaves -/
def TM (a1:List Leaf):Option (List Leaf):=
 some a1
/- sawmill/yield.box -/
def RV (a1:Rect) (a2:Span):Option Box:=
 some (Box.mk a1.X a1.Y a2)
/- sawmill/yield.Boards -/
def TD (a1:Int) (a2:Leaf) (a3:List qB) (a4:List Defect) (a5:List Product) (a6:Saw) (a7:Int) (a8:List Yield_Cut):Option (Nat×(List Yield_Cut)):=
 bif inb a2.Product a5.length then
 (LJ a3 a4 (a5.getD a2.Product.toNat default) a2.Rect a6.Step a7).bind λv10=>
 bif v10.2.2 then
 (RV a2.Rect v10.1).bind λv13=>
 bif room (a8.length+1) 72 then
 some (0,(a8++([(Yield_Cut.mk a1 a2.Product v13 v10.2.1)]:List Yield_Cut)))
 else none
 else
 some (0,a8)
 else none
/- sawmill/yield.boardLeaves$1 -/
def JX (x8:Int) (R:Int->(List Yield_Cut)->Option ((Nat×(List Yield_Cut))⊕(List Yield_Cut))) (l16:List Yield_Cut):Option ((Nat×(List Yield_Cut))⊕(List Yield_Cut)):=
 R (w64 (x8+1)) l16
def zR (a1:List qB) (a2:List Defect) (a3:List Product) (a4:Saw) (a5:Int) (a6:List Leaf):Nat->Int->(List Yield_Cut)->Option ((Nat×(List Yield_Cut))⊕(List Yield_Cut))
 |0,_,_=>none
 |n+1,x8,l9=>
 bif decide (x8<((a6.length:Nat):Int)) then
 bif inb x8 a6.length then
 bif ((a6.getD x8.toNat default).Product) !=(-1) then
 (TD x8 (a6.getD x8.toNat default) a1 a2 a3 a4 a5 l9).bind λv13=>
 bif !(Nat.beq v13.1 0) then
 some (Sum.inl (v13.1,v13.2))
 else
 JX x8 (zR a1 a2 a3 a4 a5 a6 n) v13.2
 else
 JX x8 (zR a1 a2 a3 a4 a5 a6 n) l9
 else none
 else
 some (Sum.inr l9)
def WM (a1:List qB) (a2:List Defect) (a3:List Product) (a4:Saw) (a5:Int) (a6:List Leaf) (a7:List Yield_Cut):Option (Nat×(List Yield_Cut)):=
 (zR a1 a2 a3 a4 a5 a6 FUEL 0 a7).bind λu20=>Sum.elim (λv21=>some v21) (λo18=>
 some (0,o18)) u20
/- sawmill/yield.Boards -/
def KK (a1:List qB) (a2:List Defect) (a3:List Product) (a4:Pattern) (a5:Saw) (a6:Int):Option ((List Yield_Cut)×Int):=
 (DY a1 a2 a3 a4 a5 (Rates.mk 0 0 a6)).bind λv7=>
 bif v7 !=0 then
 some (([]:List Yield_Cut),v7)
 else
 (UL a4 a5.Kerf).bind λv10=>
 bif v10.2 !=0 then
 some (([]:List Yield_Cut),v10.2)
 else
 (TM v10.1).bind λv13=>
 (WM a1 a2 a3 a5 a6 v13 ([]:List Yield_Cut)).bind λv15=>
 bif Nat.beq v15.1 0 then
 some (v15.2,0)
 else
 none
/- sawmill/pattern.Cuts -/
def yG (a1:Int) (a2:Pattern_place) (a3:Pattern) (a4:Int) (a5:List Rect):Option (Nat×(List Rect)):=
 bif inb a1 a3.Nodes.length then
 (wD ((a3.Nodes.getD a1.toNat default).Kind)).bind λv7=>
 bif v7 then
 (yI a2.rect (a3.Nodes.getD a1.toNat default) a4).bind λv10=>
 bif room (a5.length+1) 32 then
 some (0,(a5++([v10.2.1]:List Rect)))
 else none
 else
 some (0,a5)
 else none
/- sawmill/pattern.places$1 -/
def JO (x7:Int) (R:(List Pattern_place)->Int->(List Rect)->Option ((Nat×(List Rect))⊕(List Rect))) (l23:List Pattern_place) (l24:List Rect):Option ((Nat×(List Rect))⊕(List Rect)):=
 R l23 (w64 (x7+1)) l24
def wO (a1:Pattern) (a2:Int) (a3:Pattern) (a4:Int):Nat->(List Pattern_place)->Int->(List Rect)->Option ((Nat×(List Rect))⊕(List Rect))
 |0,_,_,_=>none
 |n+1,l6,x7,l8=>
 bif decide (((l6.length:Nat):Int)>0) then
 bif inb (w64 (((l6.length:Nat):Int)-1)) l6.length then
 bif slOk 0 (w64 (((l6.length:Nat):Int)-1)) l6.length then
 (yG x7 (l6.getD ((w64 (((l6.length:Nat):Int)-1)).toNat) default) a1 a2 l8).bind λv12=>
 bif !(Nat.beq v12.1 0) then
 some (Sum.inl (v12.1,v12.2))
 else
 bif decide (x7≥((a3.Nodes.length:Nat):Int)) then
 some (Sum.inl (0,v12.2))
 else
 bif inb x7 a3.Nodes.length then
 (wD ((a3.Nodes.getD x7.toNat default).Kind)).bind λv17=>
 bif v17 then
 (yI ((l6.getD ((w64 (((l6.length:Nat):Int)-1)).toNat) default).rect) (a3.Nodes.getD x7.toNat default) a4).bind λv20=>
 bif room ((w64 (((l6.length:Nat):Int)-1)).toNat+2) 40 then
 JO x7 (wO a1 a2 a3 a4 n) ((l6.take ((w64 (((l6.length:Nat):Int)-1)).toNat))++([(Pattern_place.mk v20.2.2 (w64 (((l6.getD ((w64 (((l6.length:Nat):Int)-1)).toNat) default).level)+1))),(Pattern_place.mk v20.1 (w64 (((l6.getD ((w64 (((l6.length:Nat):Int)-1)).toNat) default).level)+1)))]:List Pattern_place)) v12.2
 else none
 else
 JO x7 (wO a1 a2 a3 a4 n) (l6.take ((w64 (((l6.length:Nat):Int)-1)).toNat)) v12.2
 else none
 else none
 else none
 else
 some (Sum.inr l8)
def WP (a1:Pattern) (a2:Int) (a3:Pattern) (a4:Int) (a5:List Rect):Option (Nat×(List Rect)):=
 (wO a1 a2 a3 a4 FUEL ([(Pattern_place.mk a3.Frame 1)]:List Pattern_place) 0 a5).bind λu28=>Sum.elim (λv29=>some v29) (λo26=>
 some (0,o26)) u28
/- sawmill/pattern.Cuts -/
def NE (a1:Pattern) (a2:Int):Option ((List Rect)×Int):=
 (WZ a1 a2).bind λv3=>
 bif v3 !=0 then
 some (([]:List Rect),v3)
 else
 (jP a1 a2).bind λv6=>
 (WP a1 a2 v6.1 v6.2 ([]:List Rect)).bind λv8=>
 bif Nat.beq v8.1 0 then
 some (v8.2,0)
 else
 none
/- sawmill/yield.Of -/
def TG (a1:List qB) (v13:(List Rect)×Int) (v16:Int) (v18:Int):Nat->Int->Int->Option Yield
 |0,_,_=>none
 |n+1,x20,x21=>
 bif decide (x20<((v13.1.length:Nat):Int)) then
 bif inb x20 v13.1.length then
 (RV (v13.1.getD x20.toNat default) (Span.mk 0 v16)).bind λv24=>
 (QJ a1 v24).bind λv26=>
 (TG a1 v13 v16 v18 n) (w64 (x20+1)) (w64 (x21+v26))
 else none
 else
 some (Yield.mk v18 0 0 x21 0)
def TH (a1:List qB) (a5:Saw) (v10:(List Yield_Cut)×Int) (v16:Int) (o29:Yield):Nat->Int->Int->Int->Int->Option Yield
 |0,_,_,_,_=>none
 |n+1,x31,x32,x33,x34=>
 bif decide (x31<((v10.1.length:Nat):Int)) then
 bif inb x31 v10.1.length then
 (QJ a1 ((v10.1.getD x31.toNat default).Box)).bind λv37=>
 (RV (Rect.mk (((v10.1.getD x31.toNat default).Box).X) (((v10.1.getD x31.toNat default).Box).Y)) (Span.mk (imax 0 (w64 (((((v10.1.getD x31.toNat default).Box).Z).A)-a5.Trim))) ((((v10.1.getD x31.toNat default).Box).Z).A))).bind λv39=>
 (QJ a1 v39).bind λv41=>
 (RV (Rect.mk (((v10.1.getD x31.toNat default).Box).X) (((v10.1.getD x31.toNat default).Box).Y)) (Span.mk ((((v10.1.getD x31.toNat default).Box).Z).B) (imin (w64 (((((v10.1.getD x31.toNat default).Box).Z).B)+a5.Trim)) v16))).bind λv43=>
 (QJ a1 v43).bind λv45=>
 (TH a1 a5 v10 v16 o29 n) (w64 (x31+1)) (w64 (x32+v37)) (w64 ((w64 (x33+v41))+v45)) (w64 (x34+(w64 (1000000*((v10.1.getD x31.toNat default).Worth)))))
 else none
 else
 some (Yield.mk o29.Log x32 o29.Chips x33 x34)
def qBQ (a1:List qB) (a2:List Defect) (a3:List Product) (a4:Pattern) (a5:Saw) (a6:Rates):Option (Yield×Int):=
 (DY a1 a2 a3 a4 a5 a6).bind λv7=>
 bif v7 !=0 then
 some ((Yield.mk 0 0 0 0 0),v7)
 else
 (KK a1 a2 a3 a4 a5 a6.Fine).bind λv10=>
 bif v10.2 !=0 then
 some ((Yield.mk 0 0 0 0 0),v10.2)
 else
 (NE a4 a5.Kerf).bind λv13=>
 bif v13.2 !=0 then
 some ((Yield.mk 0 0 0 0 0),v13.2)
 else
 (QG a1).bind λv16=>
 (UN a1).bind λv18=>
 (TG a1 v13 v16 v18 FUEL 0 0).bind λo29=>
 (TH a1 a5 v10 v16 o29 FUEL 0 o29.Boards o29.Dust o29.Value).bind λo48=>
 some ((Yield.mk o48.Log o48.Boards (w64 ((w64 (o48.Log-o48.Boards))-o48.Dust)) o48.Dust (w64 (o48.Value+(w64 ((w64 (a6.Chip*(w64 ((w64 (o48.Log-o48.Boards))-o48.Dust))))+(w64 (a6.Dust*o48.Dust))))))),0)
/- sawmill/sawmilllaw24.of -/
def qBV (a1:Law24_Given) (a2:Pattern):Option (Yield×Int):=
 (qBQ a1.Solid a1.Defects a1.Products a2 a1.Saw a1.Rates).bind λv3=>
 some (v3.1,v3.2)
/- sawmill/sawmilllaw24.PlanBest -/
def TW (x31:Int) (R:Int->Int->Option Int) (x35:Int):Option Int:=
 R x35 (w64 (x31+1))
def wG (a2:List Node):Nat->Int->Int->Option Int
 |0,_,_=>none
 |n+1,x30,x31=>
 bif decide (x31<((a2.length:Nat):Int)) then
 bif inb x31 a2.length then
 bif ((a2.getD x31.toNat default).Kind)==1 then
 TW x31 (wG a2 n) (w64 (x30+1))
 else
 TW x31 (wG a2 n) x30
 else none
 else
 some x30
def jR (x45:Bool):Option Bool:=
 some x45
def MH (a2:List Node) (v14:Pattern×Int×Int) (v23:Yield×Int) (v25:(List Yield_Cut)×Int) (x28:Bool):Option Bool:=
 bif x28 then
 some false
 else
 (wG a2 FUEL 0 0).bind λo37=>
 bif decide (((v25.1.length:Nat):Int)<o37) then
 (JW).bind λv40=>
 jR v40
 else
 bif decide (v23.1.Value<=v14.2.1) then
 (JW).bind λv43=>
 jR v43
 else
 jR false
def MN (a1:Law24_Given) (a2:List Node) (v14:Pattern×Int×Int) (x19:Bool):Option Bool:=
 bif x19 then
 (JW).bind λv21=>
 some v21
 else
 (qBV a1 (Pattern.mk a1.Frame a2)).bind λv23=>
 (KK a1.Solid a1.Defects a1.Products (Pattern.mk a1.Frame a2) a1.Saw a1.Rates.Fine).bind λv25=>
 bif v23.2 !=0 then
 MH a2 v14 v23 v25 true
 else
 MH a2 v14 v23 v25 (v25.2 !=0)
def XC (a1:Law24_Given) (a2:List Node) (x10:Bool):Option Bool:=
 bif x10 then
 (JW).bind λv12=>
 some v12
 else
 (ZI a1).bind λv14=>
 bif v14.2.2 !=0 then
 MN a1 a2 v14 true
 else
 (JL (Pattern.mk a1.Frame a2) a1.Products a1.Saw).bind λv17=>
 MN a1 a2 v14 (!v17)
def LK (a1:Law24_Given) (a2:List Node):Option Bool:=
 (DW a1).bind λv3=>
 bif !v3 then
 XC a1 a2 true
 else
 (HA a1).bind λv6=>
 bif !v6 then
 XC a1 a2 true
 else
 bif decide (a1.Rates.Dust>a1.Rates.Chip) then
 XC a1 a2 true
 else
 XC a1 a2 (decide (((a2.length:Nat):Int)>140))
end Saw
end Go.SL

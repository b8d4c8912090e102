import Derived.Test.YtpommeghjpbepaaYa6
set_option linter.unusedVariables false
set_option linter.unusedSimpArgs false
namespace Go.SL
namespace Saw
structure Span where
 A:Int
 B:Int
instance : Inhabited Span:=⟨⟨0,0⟩⟩
def qO (r:Span):List C:=[ci r.A,ci r.B]
structure qR where
 Low:Int
 Rows:List Span
instance : Inhabited qR:=⟨⟨0,[]⟩⟩
def jX (r:qR):List C:=[ci r.Low,tl qO du r.Rows]
structure qG where
 Len:Int
 Sec:qR
instance : Inhabited qG:=⟨⟨0,du⟩⟩
def qF (r:qG):List C:=[ci r.Len,ci r.Sec.Low,tl qO du r.Sec.Rows]
structure Box where
 X:Span
 Y:Span
 Z:Span
instance : Inhabited Box:=⟨⟨du,du,du⟩⟩
def WC (r:Box):List C:=[ci r.X.A,ci r.X.B,ci r.Y.A,ci r.Y.B,ci r.Z.A,ci r.Z.B]
structure qJ where
 Kind:Int
 Box:Box
instance : Inhabited qJ:=⟨⟨0,du⟩⟩
def qE (r:qJ):List C:=[ci r.Kind,ci r.Box.X.A,ci r.Box.X.B,ci r.Box.Y.A,ci r.Box.Y.B,ci r.Box.Z.A,ci r.Box.Z.B]
structure Product where
 Name:ByteArray
 Thick:Int
 Width:Int
 Allow:Int
 Wane:Int
 Lengths:List Int
 Prices:List Int
instance : Inhabited Product:=⟨⟨⟨#[]⟩,0,0,0,0,[],[]⟩⟩
def qC (r:Product):List C:=[cs r.Name,ci r.Thick,ci r.Width,ci r.Allow,ci r.Wane,tl qL du r.Lengths,tl qL du r.Prices]
structure Rect where
 X:Span
 Y:Span
instance : Inhabited Rect:=⟨⟨du,du⟩⟩
def qK (r:Rect):List C:=[ci r.X.A,ci r.X.B,ci r.Y.A,ci r.Y.B]
structure Node where
 Kind:Int
 At:Int
instance : Inhabited Node:=⟨⟨0,0⟩⟩
def jS (r:Node):List C:=[ci r.Kind,ci r.At]
structure Pattern where
 Frame:Rect
 Nodes:List Node
instance : Inhabited Pattern:=⟨⟨du,[]⟩⟩
def qN (r:Pattern):List C:=[ci r.Frame.X.A,ci r.Frame.X.B,ci r.Frame.Y.A,ci r.Frame.Y.B,tl jS du r.Nodes]
structure Saw where
 Kerf:Int
 Trim:Int
 Pitch:Int
 Step:Int
instance : Inhabited Saw:=⟨⟨0,0,0,0⟩⟩
def ZG (r:Saw):List C:=[ci r.Kerf,ci r.Trim,ci r.Pitch,ci r.Step]
structure Rates where
 Chip:Int
 Dust:Int
 Fine:Int
instance : Inhabited Rates:=⟨⟨0,0,0⟩⟩
def JO (r:Rates):List C:=[ci r.Chip,ci r.Dust,ci r.Fine]
structure qQ where
 Solid:List qG
 Defects:List qJ
 Products:List Product
 Pattern:Pattern
 Saw:Saw
 Rates:Rates
instance : Inhabited qQ:=⟨⟨[],[],[],du,du,du⟩⟩
def qZ (r:qQ):List C:=[tl qF du r.Solid,tl qE du r.Defects,tl qC du r.Products,ci r.Pattern.Frame.X.A,ci r.Pattern.Frame.X.B,ci r.Pattern.Frame.Y.A,ci r.Pattern.Frame.Y.B,tl jS du r.Pattern.Nodes,ci r.Saw.Kerf,ci r.Saw.Trim,ci r.Saw.Pitch,ci r.Saw.Step,ci r.Rates.Chip,ci r.Rates.Dust,ci r.Rates.Fine]
structure qMt where
 Shift:Int
 Stop:Bool
instance : Inhabited qMt:=⟨⟨0,false⟩⟩
structure qB where
 rect:Rect
 level:Int
instance : Inhabited qB:=⟨⟨du,0⟩⟩
def qM (r:qB):List C:=[ci r.rect.X.A,ci r.rect.X.B,ci r.rect.Y.A,ci r.rect.Y.B,ci r.level]
structure Leaf where
 Rect:Rect
 Product:Int
instance : Inhabited Leaf:=⟨⟨du,0⟩⟩
def zI (r:Leaf):List C:=[ci r.Rect.X.A,ci r.Rect.X.B,ci r.Rect.Y.A,ci r.Rect.Y.B,ci r.Product]
structure qI where
 Leaf:Int
 Product:Int
 Box:Box
 Worth:Int
instance : Inhabited qI:=⟨⟨0,0,du,0⟩⟩
def qP (r:qI):List C:=[ci r.Leaf,ci r.Product,ci r.Box.X.A,ci r.Box.X.B,ci r.Box.Y.A,ci r.Box.Y.B,ci r.Box.Z.A,ci r.Box.Z.B,ci r.Worth]
structure qA where
 kind:Int
 at_:Int
 first:Int
 second:Int
 stands:Bool
 rect:Rect
 leaf:Int
 planned:Rect
 gives:Bool
 board:qI
instance : Inhabited qA:=⟨⟨0,0,0,0,false,du,0,du,false,du⟩⟩
def qD (r:qA):List C:=[ci r.kind,ci r.at_,ci r.first,ci r.second,cb r.stands,ci r.rect.X.A,ci r.rect.X.B,ci r.rect.Y.A,ci r.rect.Y.B,ci r.leaf,ci r.planned.X.A,ci r.planned.X.B,ci r.planned.Y.A,ci r.planned.Y.B,cb r.gives,ci r.board.Leaf,ci r.board.Product,ci r.board.Box.X.A,ci r.board.Box.X.B,ci r.board.Box.Y.A,ci r.board.Box.Y.B,ci r.board.Box.Z.A,ci r.board.Box.Z.B,ci r.board.Worth]
structure qS where
 z:Span
 lack:Int
instance : Inhabited qS:=⟨⟨du,0⟩⟩
def zD (r:qS):List C:=[ci r.z.A,ci r.z.B,ci r.lack]
structure qV where
 product:Product
 rect:Rect
 length:Int
 zones:List qS
 defects:List qJ
instance : Inhabited qV:=⟨⟨du,du,0,[],[]⟩⟩
def BG (r:qV):List C:=[cs r.product.Name,ci r.product.Thick,ci r.product.Width,ci r.product.Allow,ci r.product.Wane,tl qL du r.product.Lengths,tl qL du r.product.Prices,ci r.rect.X.A,ci r.rect.X.B,ci r.rect.Y.A,ci r.rect.Y.B,ci r.length,tl zD du r.zones,tl qE du r.defects]
structure zB where
 solid:List qG
 defects:List qJ
 catalog:List Product
 saw:Saw
 rates:Rates
 length:Int
 nodes:List qA
 rips:List Int
 sawn:List Rect
instance : Inhabited zB:=⟨⟨[],[],[],du,du,0,[],[],[]⟩⟩
structure zM where
 Log:Int
 Boards:Int
 Chips:Int
 Dust:Int
 Value:Int
instance : Inhabited zM:=⟨⟨0,0,0,0,0⟩⟩
def WV (r:zM):List C:=[ci r.Log,ci r.Boards,ci r.Chips,ci r.Dust,ci r.Value]
structure jV where
 kerf:Int
 length:Int
instance : Inhabited jV:=⟨⟨0,0⟩⟩
def TP (r:jV):List C:=[ci r.kerf,ci r.length]
structure zH where
 Leaf:Int
 Product:Int
 Box:Box
 Worth:Int
instance : Inhabited zH:=⟨⟨0,0,du,0⟩⟩
def zK (r:zH):List C:=[ci r.Leaf,ci r.Product,ci r.Box.X.A,ci r.Box.X.B,ci r.Box.Y.A,ci r.Box.Y.B,ci r.Box.Z.A,ci r.Box.Z.B,ci r.Worth]
def globs :List (Nat×C):=[]
def GJ (a1:qQ) (x2:Int) (x3:Int) (R:Int->Int->Option Int) (x5:Bool):Option Int:= bif x5 then bif inb x3 a1.Solid.length then R (imin 20000 (w64 (x2+(imax 0 (imin 20000 ((a1.Solid.getD x3.toNat du).Len)))))) (w64 (x3+1)) else none else some x2
def WX (a1:qQ):Nat->Int->Int->Option Int
 |0,_,_=>none
 |n+1,x2,x3=> bif decide (x3<(a1.Solid.length:Int)) then GJ a1 x2 x3 (WX a1 n) (decide (x3<30)) else GJ a1 x2 x3 (WX a1 n) false
def RB (a1:qQ):Nat->Int->Int->Option Int
 |0,_,_=>none
 |n+1,x11,x12=> bif decide (x12<(a1.Products.length:Int)) then bif inb x12 a1.Products.length then (RB a1 n) (imax x11 (imin 10 ((((a1.Products.getD x12.toNat du).Lengths).length:Nat):Int))) (w64 (x12+1)) else none else some x11
def LN (a1:qQ) (o16:Int) (x20:Int):Option Int:= some (w64 ((w64 ((w64 (x20*o16))*(w64 (1+(imin 30 (a1.Solid.length:Int))))))*(w64 (1+(imin 140 (a1.Pattern.Nodes.length:Int))))))
def NH (a1:qQ):Option Int:= (WX a1 FUEL 0 0).bind λo9=> (RB a1 FUEL 1 0).bind λo16=> bif decide (a1.Saw.Step>0) then bif nz a1.Saw.Step then LN a1 o16 (w64 (1+(w64 (Int.tdiv o9 a1.Saw.Step)))) else none else LN a1 o16 1
def KG (a1:qQ):Nat->Int->Option (Bool⊕Unit)
 |0,_=>none
 |n+1,x10=> bif decide (x10<(a1.Solid.length:Int)) then bif inb x10 a1.Solid.length then bif decide ((((((a1.Solid.getD x10.toNat du).Sec).Rows).length:Nat):Int)>130) then some (Sum.inl false) else (KG a1 n) (w64 (x10+1)) else none else some (Sum.inr ())
def UN (x18:Int) (R:Int->Option (Bool⊕Unit)) (x23:Bool):Option (Bool⊕Unit):= bif x23 then some (Sum.inl false) else R (w64 (x18+1))
def QT (a1:qQ):Nat->Int->Option (Bool⊕Unit)
 |0,_=>none
 |n+1,x18=> bif decide (x18<(a1.Products.length:Int)) then bif inb x18 a1.Products.length then bif decide (((((a1.Products.getD x18.toNat du).Lengths).length:Nat):Int)>10) then UN x18 (QT a1 n) true else bif decide (((((a1.Products.getD x18.toNat du).Prices).length:Nat):Int)>10) then UN x18 (QT a1 n) true else UN x18 (QT a1 n) (decide (((((a1.Products.getD x18.toNat du).Name).size:Nat):Int)>100)) else none else some (Sum.inr ())
def QU (a1:qQ) (x8:Bool):Option Bool:= bif x8 then some false else (KG a1 FUEL 0).bind λu16=>Sum.elim (λv17=>some v17) (λo14=> (QT a1 FUEL 0).bind λu27=>Sum.elim (λv28=>some v28) (λo25=> some true) u27) u16
def LD (a1:qQ):Option Bool:= bif decide ((a1.Solid.length:Int)>30) then QU a1 true else bif decide ((a1.Defects.length:Int)>70) then QU a1 true else bif decide ((a1.Products.length:Int)>20) then QU a1 true else bif decide ((a1.Pattern.Nodes.length:Int)>140) then QU a1 true else (NH a1).bind λv6=> QU a1 (decide (v6>200000))
def NV (x7:Bool):Option Bool:= some x7
def LC (a1:qQ):Option Bool:= (LD a1).bind λv2=> bif v2 then (NH a1).bind λv5=> NV (decide (v5<=20000)) else NV false
def HY (a3:Int) (a4:Span):Nat->Int->(List Span)->Option (List Span)
 |0,_,_=>none
 |n+1,x5,l6=> bif decide (x5<a3) then bif room (l6.length+1) 16 then (HY a3 a4 n) (w64 (x5+1)) (l6++[a4]) else none else some l6
def qBc (a1:Int) (a2:Int) (a3:Int) (a4:Span):Option (List qG):= (HY a3 a4 FUEL 0 []).bind λo10=> some ([(qG.mk a1 (qR.mk a2 o10))]:List qG)
def qAS :Option (List Product):= some ([(Product.mk (ByteArray.mk #[112,108,97,110,107]) 40 100 50 0 [2000] [70])]:List Product)
def DR :Option qQ:= (qBc 3000 (-10) 20 (Span.mk (-100) 100)).bind λv1=> (qAS).bind λv3=> some (qQ.mk v1 [] v3 (Pattern.mk (Rect.mk (Span.mk (-50) 55) (Span.mk 0 90)) [(Node.mk 3 42),(Node.mk 1 0),(Node.mk 0 0)]) (Saw.mk 4 5 1 500) (Rates.mk 0 0 0))
def RK (x3:Bool):Option Bool:= some x3
def RN (a1:Span):Option Bool:= bif decide ((imin a1.A a1.B)≥(-600)) then RK (decide ((imax a1.A a1.B)<=600)) else RK false
def YX (a1:Span):Option Bool:= some (decide (a1.A≥a1.B))
def ZO (a1:qR):Nat->Int->Option (Int⊕Unit)
 |0,_=>none
 |n+1,x6=> bif decide (x6<(a1.Rows.length:Int)) then bif inb x6 a1.Rows.length then (RN (a1.Rows.getD x6.toNat du)).bind λv9=> bif !v9 then some (Sum.inl 9) else (ZO a1 n) (w64 (x6+1)) else none else some (Sum.inr ())
def VM (x27:Int) (R:Int->Option (Int⊕Unit)) (x33:Bool):Option (Int⊕Unit):= bif x33 then some (Sum.inl 19) else R (w64 (x27+1))
def yM (a1:qR):Nat->Int->Option (Int⊕Unit)
 |0,_=>none
 |n+1,x27=> bif decide (x27<(a1.Rows.length:Int)) then bif inb x27 a1.Rows.length then (YX (a1.Rows.getD x27.toNat du)).bind λv30=> bif v30 then VM x27 (yM a1 n) (!((((a1.Rows.getD x27.toNat du).A)==0)&&((((a1.Rows.getD x27.toNat du).B)==0)&&true))) else VM x27 (yM a1 n) false else none else some (Sum.inr ())
def VK (a1:qR) (x25:Bool):Option Int:= bif x25 then some 19 else (yM a1 FUEL 0).bind λu37=>Sum.elim (λv38=>some v38) (λo35=> some 0) u37
def VT (a1:qR) (x4:Bool):Option Int:= bif x4 then some 9 else (ZO a1 FUEL 0).bind λu14=>Sum.elim (λv15=>some v15) (λo12=> bif (a1.Rows.length:Int)==0 then bif a1.Low !=0 then some 19 else some 0 else bif inb 0 a1.Rows.length then (YX (a1.Rows.getD (0:Int).toNat du)).bind λv19=> bif v19 then VK a1 true else bif inb (w64 ((a1.Rows.length:Int)-1)) a1.Rows.length then (YX (a1.Rows.getD (w64 ((a1.Rows.length:Int)-1)).toNat du)).bind λv23=> VK a1 v23 else none else none) u14
def RA (a1:qR):Option Int:= bif decide ((a1.Rows.length:Int)>120) then some 4 else bif decide (a1.Low<(-60)) then VT a1 true else VT a1 (decide (a1.Low>(w64 (60-(a1.Rows.length:Int)))))
def NO (a1:List qG) (x4:Int) (x5:Int) (R:Int->Int->Option (Int⊕Unit)) (x13:Bool):Option (Int⊕Unit):= bif x13 then some (Sum.inl 9) else R (w64 (x4+((a1.getD x5.toNat du).Len))) (w64 (x5+1))
def QO (a1:List qG):Nat->Int->Int->Option (Int⊕Unit)
 |0,_,_=>none
 |n+1,x4,x5=> bif decide (x5<(a1.length:Int)) then bif inb x5 a1.length then (RA ((a1.getD x5.toNat du).Sec)).bind λv8=> bif v8 !=0 then some (Sum.inl v8) else bif (((((a1.getD x5.toNat du).Sec).Rows).length:Nat):Int)==0 then some (Sum.inl 18) else bif decide (((a1.getD x5.toNat du).Len)<1) then NO a1 x4 x5 (QO a1 n) true else NO a1 x4 x5 (QO a1 n) (decide (((a1.getD x5.toNat du).Len)>(w64 (20000-x4)))) else none else some (Sum.inr ())
def KB (a1:List qG):Option Int:= bif (a1.length:Int)==0 then some 3 else bif decide ((a1.length:Int)>24) then some 4 else (QO a1 FUEL 0 0).bind λu17=>Sum.elim (λv18=>some v18) (λo15=> some 0) u17
def QR (a1:Span):Option Bool:= some (decide (a1.A≥a1.B))
def VQ (x5:Bool):Option Bool:= some x5
def XG (a1:Span) (a2:Int) (a3:Int):Option Bool:= bif decide ((imin a1.A a1.B)≥a2) then VQ (decide ((imax a1.A a1.B)<=a3)) else VQ false
def RP (x23:Bool):Option Int:= bif x23 then some 9 else some 0
def TC (a1:qJ) (x13:Bool):Option Int:= bif x13 then some 19 else (XG a1.Box.X (-600) 600).bind λv15=> bif !v15 then RP true else (XG a1.Box.Y (-600) 600).bind λv18=> bif !v18 then RP true else (XG a1.Box.Z 0 20000).bind λv21=> RP (!v21)
def GX (a1:qJ) (x3:Bool):Option Int:= bif x3 then some 10 else (QR a1.Box.X).bind λv5=> bif v5 then TC a1 true else (QR a1.Box.Y).bind λv8=> bif v8 then TC a1 true else (QR a1.Box.Z).bind λv11=> TC a1 v11
def DT (a1:qJ):Option Int:= bif decide (a1.Kind<1) then GX a1 true else GX a1 (decide (a1.Kind>6))
def WL (a1:List qJ):Nat->Int->Option (Int⊕Unit)
 |0,_=>none
 |n+1,x3=> bif decide (x3<(a1.length:Int)) then bif inb x3 a1.length then (DT (a1.getD x3.toNat du)).bind λv6=> bif v6 !=0 then some (Sum.inl v6) else (WL a1 n) (w64 (x3+1)) else none else some (Sum.inr ())
def PB (a1:List qJ):Option Int:= bif decide ((a1.length:Int)>64) then some 4 else (WL a1 FUEL 0).bind λu11=>Sum.elim (λv12=>some v12) (λo9=> some 0) u11
def VC (x3:Bool):Option Bool:= some x3
def PX (a1:Int):Option Bool:= bif decide (97<=a1) then VC (decide (a1<=122)) else VC false
def VI (x3:Bool):Option Bool:= some x3
def GL (a1:Int):Option Bool:= bif decide (48<=a1) then VI (decide (a1<=57)) else VI false
def TB (x9:Int) (R:Int->Option (Bool⊕Unit)) (x18:Bool):Option (Bool⊕Unit):= bif x18 then some (Sum.inl false) else R (w64 (x9+1))
def jW (a1:ByteArray):Nat->Int->Option (Bool⊕Unit)
 |0,_=>none
 |n+1,x9=> bif decide (x9<(a1.size:Int)) then bif inb x9 a1.size then (PX (strAt a1 x9.toNat)).bind λv12=> bif !v12 then (GL (strAt a1 x9.toNat)).bind λv15=> bif !v15 then TB x9 (jW a1 n) ((strAt a1 x9.toNat) !=95) else TB x9 (jW a1 n) false else TB x9 (jW a1 n) false else none else some (Sum.inr ())
def RZ (a1:ByteArray) (x7:Bool):Option Bool:= bif x7 then some false else (jW a1 FUEL 1).bind λu22=>Sum.elim (λv23=>some v23) (λo20=> some true) u22
def NA (a1:ByteArray):Option Bool:= bif decide ((a1.size:Int)<1) then RZ a1 true else bif decide ((a1.size:Int)>16) then RZ a1 true else bif inb 0 a1.size then (PX (strAt a1 ((0:Int).toNat))).bind λv5=> RZ a1 (!v5) else none
def WT (a1:List Product) (a2:ByteArray):Nat->Int->Option ((Int×Bool)⊕Unit)
 |0,_=>none
 |n+1,x3=> bif decide (x3<(a1.length:Int)) then bif inb x3 a1.length then bif strEq ((a1.getD x3.toNat du).Name) a2 then some (Sum.inl (x3,true)) else (WT a1 a2 n) (w64 (x3+1)) else none else some (Sum.inr ())
def BT (a1:List Product) (a2:ByteArray):Option (Int×Bool):= (WT a1 a2 FUEL 0).bind λu9=>Sum.elim (λv10=>some v10) (λo7=> some (0,false)) u9
def TO (x3:Bool):Option Bool:= some x3
def KI (a1:Int):Option Bool:= bif decide (a1≥1) then TO (decide (a1<=600)) else TO false
def DW (a1:Int) (a2:Int):Option Int:= some (w64 (Int.tdiv (w64 ((w64 (a1*(w64 (1000+a2))))+999)) 1000))
def JR (a1:Product) (x9:Bool):Option (Int×Int):= bif x9 then some (0,0) else (DW a1.Thick a1.Allow).bind λv11=> (DW a1.Width a1.Allow).bind λv13=> some (v11,v13)
def XF (a1:Product):Option (Int×Int):= (KI a1.Thick).bind λv2=> bif !v2 then JR a1 true else (KI a1.Width).bind λv5=> bif !v5 then JR a1 true else bif decide (a1.Allow<0) then JR a1 true else JR a1 (decide (a1.Allow>200))
def JE (x18:Int) (R:Int->Option (Int⊕Unit)) (x26:Bool):Option (Int⊕Unit):= bif x26 then some (Sum.inl 11) else R (w64 (x18+1))
def JG (a1:Product) (x18:Int) (R:Int->Option (Int⊕Unit)) (x22:Bool):Option (Int⊕Unit):= bif x22 then some (Sum.inl 9) else bif decide (x18>0) then bif inb (w64 (x18-1)) a1.Lengths.length then JE x18 R (decide ((a1.Lengths.getD x18.toNat du)<=(a1.Lengths.getD (w64 (x18-1)).toNat du))) else none else JE x18 R false
def zT (a1:Product):Nat->Int->Option (Int⊕Unit)
 |0,_=>none
 |n+1,x18=> bif decide (x18<(a1.Lengths.length:Int)) then bif inb x18 a1.Lengths.length then bif decide ((a1.Lengths.getD x18.toNat du)<100) then JG a1 x18 (zT a1 n) true else JG a1 x18 (zT a1 n) (decide ((a1.Lengths.getD x18.toNat du)>20000)) else none else some (Sum.inr ())
def JF (x32:Int) (R:Int->Option (Int⊕Unit)) (x36:Bool):Option (Int⊕Unit):= bif x36 then some (Sum.inl 9) else R (w64 (x32+1))
def wC (a1:Product):Nat->Int->Option (Int⊕Unit)
 |0,_=>none
 |n+1,x32=> bif decide (x32<(a1.Prices.length:Int)) then bif inb x32 a1.Prices.length then bif decide ((a1.Prices.getD x32.toNat du)<0) then JF x32 (wC a1 n) true else JF x32 (wC a1 n) (decide ((a1.Prices.getD x32.toNat du)>1000000)) else none else some (Sum.inr ())
def yE (a1:Product) (x10:Bool):Option Int:= bif x10 then some 9 else (XF a1).bind λv12=> bif decide (v12.2>600) then some 9 else bif (a1.Lengths.length:Int)==0 then some 3 else bif decide ((a1.Lengths.length:Int)>8) then some 4 else bif (a1.Prices.length:Int) !=(a1.Lengths.length:Int) then some 19 else (zT a1 FUEL 0).bind λu30=>Sum.elim (λv31=>some v31) (λo28=> (wC a1 FUEL 0).bind λu40=>Sum.elim (λv41=>some v41) (λo38=> some 0) u40) u30
def yF (a1:Product) (x5:Bool):Option Int:= bif x5 then some 9 else bif decide (a1.Allow<0) then yE a1 true else bif decide (a1.Allow>200) then yE a1 true else bif decide (a1.Wane<0) then yE a1 true else yE a1 (decide (a1.Wane>1000))
def WD (a1:Product):Option Int:= bif decide (a1.Thick<5) then yF a1 true else bif decide (a1.Thick>300) then yF a1 true else bif decide (a1.Width<a1.Thick) then yF a1 true else yF a1 (decide (a1.Width>600))
def ZP (a1:List Product):Nat->Int->Option (Int⊕Unit)
 |0,_=>none
 |n+1,x3=> bif decide (x3<(a1.length:Int)) then bif inb x3 a1.length then (NA ((a1.getD x3.toNat du).Name)).bind λv6=> bif !v6 then some (Sum.inl 6) else bif slOk 0 x3 a1.length then (BT (a1.take x3.toNat) ((a1.getD x3.toNat du).Name)).bind λv10=> bif v10.2 then some (Sum.inl 7) else (WD (a1.getD x3.toNat du)).bind λv13=> bif v13 !=0 then some (Sum.inl v13) else (ZP a1 n) (w64 (x3+1)) else none else none else some (Sum.inr ())
def XK (a1:List Product):Option Int:= bif decide ((a1.length:Int)>16) then some 4 else (ZP a1 FUEL 0).bind λu18=>Sum.elim (λv19=>some v19) (λo16=> some 0) u18
def DH (x3:Bool):Option Bool:= some x3
def UX (a1:Int):Option Bool:= bif decide (a1≥1) then DH (decide (a1<=20000)) else DH false
def DE (x3:Bool):Option Bool:= some x3
def TZ (a1:Int):Option Bool:= bif decide (a1≥0) then DE (decide (a1<=1000000)) else DE false
def YC (x20:Bool):Option Int:= bif x20 then some 9 else some 0
def TX (a2:Rates) (x12:Bool):Option Int:= bif x12 then some 9 else bif decide (a2.Chip<0) then YC true else bif decide (a2.Chip>1000) then YC true else bif decide (a2.Dust<0) then YC true else bif decide (a2.Dust>1000) then YC true else (TZ a2.Fine).bind λv18=> YC (!v18)
def KF (a1:Saw) (a2:Rates) (x6:Bool):Option Int:= bif x6 then some 9 else bif decide (a1.Pitch<1) then TX a2 true else bif decide (a1.Pitch>2000) then TX a2 true else (UX a1.Step).bind λv10=> TX a2 (!v10)
def GP (a1:Saw) (a2:Rates):Option Int:= bif decide (a1.Kerf<0) then KF a1 a2 true else bif decide (a1.Kerf>20) then KF a1 a2 true else bif decide (a1.Trim<0) then KF a1 a2 true else KF a1 a2 (decide (a1.Trim>20))
def jZ (x2:Int) (R:Int->Option (Bool⊕Unit)) (x7:Bool):Option (Bool⊕Unit):= bif x7 then some (Sum.inl false) else R (w64 (x2+1))
def zZ (a1:Rect):Nat->Int->Option (Bool⊕Unit)
 |0,_=>none
 |n+1,x2=> bif decide (x2<2) then bif inb x2 2 then bif decide ((([a1.X.A,a1.X.B,a1.Y.A,a1.Y.B]:List Int).getD (x2.toNat*2+0) 0)<(-600)) then jZ x2 (zZ a1 n) true else bif decide ((([a1.X.A,a1.X.B,a1.Y.A,a1.Y.B]:List Int).getD (x2.toNat*2+1) 0)>600) then jZ x2 (zZ a1 n) true else jZ x2 (zZ a1 n) (decide ((([a1.X.A,a1.X.B,a1.Y.A,a1.Y.B]:List Int).getD (x2.toNat*2+0) 0)≥(([a1.X.A,a1.X.B,a1.Y.A,a1.Y.B]:List Int).getD (x2.toNat*2+1) 0))) else none else some (Sum.inr ())
def XE (a1:Rect):Option Bool:= (zZ a1 FUEL 0).bind λu11=>Sum.elim (λv12=>some v12) (λo9=> some true) u11
def yT (a1:Pattern) (a2:Int):Option (Pattern×Int):= some (a1,a2)
def VZ (x3:Bool):Option Bool:= some x3
def yQ (a1:Int):Option Bool:= bif a1==2 then VZ true else VZ (a1==3)
def PZ (a1:Rect) (a2:Int):Option Span:= bif a2==2 then some a1.X else some a1.Y
def WJ :Option Int:= some 0
def XZ (x15:Bool):Option Int:= bif x15 then some 20 else WJ
def yK (a1:Node) (a2:qB) (x6:Bool):Option Int:= bif x6 then some 10 else bif decide (a2.level>64) then some 28 else (yQ a1.Kind).bind λv9=> bif v9 then (PZ a2.rect a1.Kind).bind λv12=> bif decide (a1.At<=v12.A) then XZ true else XZ (decide (a1.At≥v12.B)) else WJ
def WU (a1:Node) (a2:qB):Option Int:= bif decide (a1.Kind<0) then yK a1 a2 true else bif decide (a1.Kind>3) then yK a1 a2 true else bif a1.Kind==0 then yK a1 a2 (a1.At !=0) else yK a1 a2 false
def qAC (a1:Span):Option Int:= bif decide (a1.A≥a1.B) then some 0 else some (IntKind.u64.wrap ((IntKind.u64.wrap (a1.B))-(IntKind.u64.wrap (a1.A))))
def MX (a1:Int):Option Int:= some (w64 (imin a1 9223372036854775807))
def XL (a1:Span):Option Int:= (qAC a1).bind λv2=> (MX v2).bind λv4=> some v4
def QJ (x18:Bool):Option Int:= bif x18 then some 20 else some 0
def ZV (a1:Rect) (a2:Int) (a3:List Product) (x5:Bool):Option Int:= bif x5 then some 8 else bif inb a2 a3.length then (XF (a3.getD a2.toNat du)).bind λv8=> (XL a1.X).bind λv10=> (XL a1.Y).bind λv12=> bif v10 !=v8.1 then bif v10 !=v8.2 then QJ true else QJ (v12 !=v8.1) else bif v12 !=v8.2 then bif v10 !=v8.2 then QJ true else QJ (v12 !=v8.1) else QJ false else none
def RF (a1:Rect) (a2:Int) (a3:List Product):Option Int:= bif decide (a2<0) then ZV a1 a2 a3 true else ZV a1 a2 a3 (decide (a2≥(a3.length:Int)))
def YM (a1:Int) (a5:Int) (a6:Int) (x16:Int):Option (Nat×Int×Int):= bif x16 !=0 then some (1,x16,a6) else some (0,a5,w64 (a1+1))
def YJ (a1:Int) (a2:qB) (a3:Pattern) (a4:List Product) (a5:Int) (a6:Int) (v9:Int) (x12:Bool):Option (Nat×Int×Int):= bif x12 then (RF a2.rect ((a3.Nodes.getD a1.toNat du).At) a4).bind λv14=> YM a1 a5 a6 v14 else YM a1 a5 a6 v9
def yY (a1:Int) (a2:qB) (a3:Pattern) (a4:List Product) (a5:Int) (a6:Int):Option (Nat×Int×Int):= bif decide (a1≥(a3.Nodes.length:Int)) then some (1,3,a6) else bif inb a1 a3.Nodes.length then (WU (a3.Nodes.getD a1.toNat du) a2).bind λv9=> bif v9==0 then YJ a1 a2 a3 a4 a5 a6 v9 (((a3.Nodes.getD a1.toNat du).Kind)==1) else YJ a1 a2 a3 a4 a5 a6 v9 false else none
def DC (x5:Rect):Option Rect:= some x5
def PD (a1:Rect) (a2:Int) (a3:Span):Option Rect:= bif a2==2 then DC (Rect.mk a3 a1.Y) else DC (Rect.mk a1.X a3)
def QK (a1:Rect) (a2:Node) (a3:Int):Option (Rect×Rect×Rect):= (PZ a1 a2.Kind).bind λv4=> (PD a1 a2.Kind (Span.mk v4.A a2.At)).bind λv6=> (PD a1 a2.Kind (Span.mk a2.At (imin (w64 (a2.At+a3)) v4.B))).bind λv8=> (PD a1 a2.Kind (Span.mk (imin (w64 (a2.At+a3)) v4.B) v4.B)).bind λv10=> some (v6,v8,v10)
def PK (x8:Int) (R:(List qB)->Int->Int->Int->Option ((Nat×Int×Int)⊕(Int×Int))) (l25:List qB) (x26:Int) (x27:Int):Option ((Nat×Int×Int)⊕(Int×Int)):= R l25 (w64 (x8+1)) x27 x26
def yX (a1:Pattern) (a2:List Product) (a5:Pattern) (a6:Int):Nat->(List qB)->Int->Int->Int->Option ((Nat×Int×Int)⊕(Int×Int))
 |0,_,_,_,_=>none
 |n+1,l7,x8,x9,x10=> bif decide ((l7.length:Int)>0) then bif inb (w64 ((l7.length:Int)-1)) l7.length then bif slOk 0 (w64 ((l7.length:Int)-1)) l7.length then (yY x8 (l7.getD ((w64 ((l7.length:Int)-1)).toNat) du) a1 a2 x9 x10).bind λv14=> bif !(Nat.beq v14.1 0) then some (Sum.inl (v14.1,v14.2.1,v14.2.2)) else bif decide (x8≥(a5.Nodes.length:Int)) then some (Sum.inl (0,v14.2.1,v14.2.2)) else bif inb x8 a5.Nodes.length then (yQ ((a5.Nodes.getD x8.toNat du).Kind)).bind λv19=> bif v19 then (QK ((l7.getD ((w64 ((l7.length:Int)-1)).toNat) du).rect) (a5.Nodes.getD x8.toNat du) a6).bind λv22=> bif room ((w64 ((l7.length:Int)-1)).toNat+2) 40 then PK x8 (yX a1 a2 a5 a6 n) ((l7.take ((w64 ((l7.length:Int)-1)).toNat))++[(qB.mk v22.2.2 (w64 (((l7.getD ((w64 ((l7.length:Int)-1)).toNat) du).level)+1))),(qB.mk v22.1 (w64 (((l7.getD ((w64 ((l7.length:Int)-1)).toNat) du).level)+1)))]) v14.2.2 v14.2.1
 else none else PK x8 (yX a1 a2 a5 a6 n) (l7.take ((w64 ((l7.length:Int)-1)).toNat)) v14.2.2 v14.2.1 else none else none else none else some (Sum.inr (x10,x9))
def PA (a1:Pattern) (a2:List Product) (a3:Int) (a4:Int) (a5:Pattern) (a6:Int):Option (Nat×Int×Int):= (yX a1 a2 a5 a6 FUEL [(qB.mk a5.Frame 1)] 0 a3 a4).bind λu32=>Sum.elim (λv33=>some v33) (λo30=> some (0,o30.2,o30.1)) u32
def JU (a1:Pattern) (a2:Int) (a3:List Product) (x8:Bool):Option Int:= bif x8 then some 9 else bif decide ((a1.Nodes.length:Int)>127) then some 4 else (yT a1 a2).bind λv11=> (PA a1 a3 0 0 v11.1 v11.2).bind λv13=> bif Nat.beq v13.1 0 then bif decide (v13.2.2<(a1.Nodes.length:Int)) then some 4 else some 0 else bif Nat.beq v13.1 1 then some v13.2.1 else none
def LL (a1:Pattern) (a2:Int) (a3:List Product):Option Int:= (XE a1.Frame).bind λv4=> bif !v4 then some 19 else bif decide (a2<0) then JU a1 a2 a3 true else JU a1 a2 a3 (decide (a2>20))
def PW (a1:Pattern) (a2:List Product) (a3:Int):Option Int:= (LL a1 a3 a2).bind λv4=> some v4
def LJ (a1:List qG) (a2:List qJ) (a3:List Product) (a4:Pattern) (a5:Saw) (a6:Rates):Option Int:= (KB a1).bind λv7=> bif v7 !=0 then some v7 else (PB a2).bind λv10=> bif v10 !=0 then some v10 else (XK a3).bind λv13=> bif v13 !=0 then some v13 else (GP a5 a6).bind λv16=> bif v16 !=0 then some v16 else (PW a4 a3 a5.Kerf).bind λv19=> some v19
def PI (x4:Bool):Option Int:= bif x4 then some 8 else some 0
def KW (a1:Rect) (a2:Int):Option Int:= bif decide (a2<0) then PI true else PI (decide (a2≥16))
def ZX (a1:Int) (a4:Int) (a5:Int) (x15:Int):Option (Nat×Int×Int):= bif x15 !=0 then some (1,x15,a5) else some (0,a4,w64 (a1+1))
def ZY (a1:Int) (a2:qB) (a3:Pattern) (a4:Int) (a5:Int) (v8:Int) (x11:Bool):Option (Nat×Int×Int):= bif x11 then (KW a2.rect ((a3.Nodes.getD a1.toNat du).At)).bind λv13=> ZX a1 a4 a5 v13 else ZX a1 a4 a5 v8
def jH (a1:Int) (a2:qB) (a3:Pattern) (a4:Int) (a5:Int):Option (Nat×Int×Int):= bif decide (a1≥(a3.Nodes.length:Int)) then some (1,3,a5) else bif inb a1 a3.Nodes.length then (WU (a3.Nodes.getD a1.toNat du) a2).bind λv8=> bif v8==0 then ZY a1 a2 a3 a4 a5 v8 (((a3.Nodes.getD a1.toNat du).Kind)==1) else ZY a1 a2 a3 a4 a5 v8 false else none
def YE (x7:Int) (R:(List qB)->Int->Int->Int->Option ((Nat×Int×Int)⊕(Int×Int))) (l24:List qB) (x25:Int) (x26:Int):Option ((Nat×Int×Int)⊕(Int×Int)):= R l24 (w64 (x7+1)) x26 x25
def jG (a1:Pattern) (a4:Pattern) (a5:Int):Nat->(List qB)->Int->Int->Int->Option ((Nat×Int×Int)⊕(Int×Int))
 |0,_,_,_,_=>none
 |n+1,l6,x7,x8,x9=> bif decide ((l6.length:Int)>0) then bif inb (w64 ((l6.length:Int)-1)) l6.length then bif slOk 0 (w64 ((l6.length:Int)-1)) l6.length then (jH x7 (l6.getD ((w64 ((l6.length:Int)-1)).toNat) du) a1 x8 x9).bind λv13=> bif !(Nat.beq v13.1 0) then some (Sum.inl (v13.1,v13.2.1,v13.2.2)) else bif decide (x7≥(a4.Nodes.length:Int)) then some (Sum.inl (0,v13.2.1,v13.2.2)) else bif inb x7 a4.Nodes.length then (yQ ((a4.Nodes.getD x7.toNat du).Kind)).bind λv18=> bif v18 then (QK ((l6.getD ((w64 ((l6.length:Int)-1)).toNat) du).rect) (a4.Nodes.getD x7.toNat du) a5).bind λv21=> bif room ((w64 ((l6.length:Int)-1)).toNat+2) 40 then YE x7 (jG a1 a4 a5 n) ((l6.take ((w64 ((l6.length:Int)-1)).toNat))++[(qB.mk v21.2.2 (w64 (((l6.getD ((w64 ((l6.length:Int)-1)).toNat) du).level)+1))),(qB.mk v21.1 (w64 (((l6.getD ((w64 ((l6.length:Int)-1)).toNat) du).level)+1)))]) v13.2.2 v13.2.1
 else none else YE x7 (jG a1 a4 a5 n) (l6.take ((w64 ((l6.length:Int)-1)).toNat)) v13.2.2 v13.2.1 else none else none else none else some (Sum.inr (x9,x8))
def JN (a1:Pattern) (a2:Int) (a3:Int) (a4:Pattern) (a5:Int):Option (Nat×Int×Int):= (jG a1 a4 a5 FUEL [(qB.mk a4.Frame 1)] 0 a2 a3).bind λu31=>Sum.elim (λv32=>some v32) (λo29=> some (0,o29.2,o29.1)) u31
def PG (a1:Pattern) (a2:Int) (x7:Bool):Option Int:= bif x7 then some 9 else bif decide ((a1.Nodes.length:Int)>127) then some 4 else (yT a1 a2).bind λv10=> (JN a1 0 0 v10.1 v10.2).bind λv12=> bif Nat.beq v12.1 0 then bif decide (v12.2.2<(a1.Nodes.length:Int)) then some 4 else some 0 else bif Nat.beq v12.1 1 then some v12.2.1 else none
def YB (a1:Pattern) (a2:Int):Option Int:= (XE a1.Frame).bind λv3=> bif !v3 then some 19 else bif decide (a2<0) then PG a1 a2 true else PG a1 a2 (decide (a2>20))
def yJ (a1:Int) (a2:qB) (a3:Pattern) (a4:List Leaf):Option (Nat×(List Leaf)):= bif inb a1 a3.Nodes.length then bif ((a3.Nodes.getD a1.toNat du).Kind)==0 then bif room (a4.length+1) 40 then some (0,(a4++[(Leaf.mk a2.rect (-1))])) else none else bif ((a3.Nodes.getD a1.toNat du).Kind)==1 then bif room (a4.length+1) 40 then some (0,(a4++[(Leaf.mk a2.rect ((a3.Nodes.getD a1.toNat du).At))])) else none else some (0,a4) else none
def YH (x6:Int) (R:(List qB)->Int->(List Leaf)->Option ((Nat×(List Leaf))⊕(List Leaf))) (l22:List qB) (l23:List Leaf):Option ((Nat×(List Leaf))⊕(List Leaf)):= R l22 (w64 (x6+1)) l23
def jI (a1:Pattern) (a2:Pattern) (a3:Int):Nat->(List qB)->Int->(List Leaf)->Option ((Nat×(List Leaf))⊕(List Leaf))
 |0,_,_,_=>none
 |n+1,l5,x6,l7=> bif decide ((l5.length:Int)>0) then bif inb (w64 ((l5.length:Int)-1)) l5.length then bif slOk 0 (w64 ((l5.length:Int)-1)) l5.length then (yJ x6 (l5.getD ((w64 ((l5.length:Int)-1)).toNat) du) a1 l7).bind λv11=> bif !(Nat.beq v11.1 0) then some (Sum.inl (v11.1,v11.2)) else bif decide (x6≥(a2.Nodes.length:Int)) then some (Sum.inl (0,v11.2)) else bif inb x6 a2.Nodes.length then (yQ ((a2.Nodes.getD x6.toNat du).Kind)).bind λv16=> bif v16 then (QK ((l5.getD ((w64 ((l5.length:Int)-1)).toNat) du).rect) (a2.Nodes.getD x6.toNat du) a3).bind λv19=> bif room ((w64 ((l5.length:Int)-1)).toNat+2) 40 then YH x6 (jI a1 a2 a3 n) ((l5.take ((w64 ((l5.length:Int)-1)).toNat))++[(qB.mk v19.2.2 (w64 (((l5.getD ((w64 ((l5.length:Int)-1)).toNat) du).level)+1))),(qB.mk v19.1 (w64 (((l5.getD ((w64 ((l5.length:Int)-1)).toNat) du).level)+1)))]) v11.2
 else none else YH x6 (jI a1 a2 a3 n) (l5.take ((w64 ((l5.length:Int)-1)).toNat)) v11.2 else none else none else none else some (Sum.inr l7)
def JK (a1:Pattern) (a2:Pattern) (a3:Int) (a4:List Leaf):Option (Nat×(List Leaf)):= (jI a1 a2 a3 FUEL [(qB.mk a2.Frame 1)] 0 a4).bind λu27=>Sum.elim (λv28=>some v28) (λo25=> some (0,o25)) u27
def KK (a1:Pattern) (a2:Int):Option ((List Leaf)×Int):= (YB a1 a2).bind λv3=> bif v3 !=0 then some ([],v3) else (yT a1 a2).bind λv6=> (JK a1 v6.1 v6.2 []).bind λv8=> bif Nat.beq v8.1 0 then some (v8.2,0) else none
def PN (a1:List qG):Option (List qG):= bif room a1.length 40 then some a1 else none
def RL (a1:List Span):Option (List Span):= bif room a1.length 16 then some a1 else none
def QE (v2:List qG):Nat->(List qG)->Int->Option (List qG)
 |0,_,_=>none
 |n+1,l4,x5=> bif decide (x5<(v2.length:Int)) then bif inb x5 l4.length then (RL (((l4.getD x5.toNat du).Sec).Rows)).bind λv8=> (QE v2 n) (l4.set x5.toNat (qG.mk ((l4.getD x5.toNat du).Len) (qR.mk (((l4.getD x5.toNat du).Sec).Low) v8))) (w64 (x5+1)) else none else some l4
def YO (a1:List qG):Option (List qG):= (PN a1).bind λv2=> (QE v2 FUEL v2 0).bind λo11=> some o11
def XY (a1:List qJ):Option (List qJ):= bif room a1.length 56 then some a1 else none
def YU (a1:List Product):Option (List Product):= bif room a1.length 96 then some a1 else none
def XQ (a1:List Int):Option (List Int):= bif room a1.length 8 then some a1 else none
def yG (v2:List Product):Nat->(List Product)->Int->Option (List Product)
 |0,_,_=>none
 |n+1,l4,x5=> bif decide (x5<(v2.length:Int)) then bif inb x5 l4.length then (XQ ((l4.getD x5.toNat du).Lengths)).bind λv8=> (XQ (((l4.set x5.toNat (Product.mk ((l4.getD x5.toNat du).Name) ((l4.getD x5.toNat du).Thick) ((l4.getD x5.toNat du).Width) ((l4.getD x5.toNat du).Allow) ((l4.getD x5.toNat du).Wane) v8 ((l4.getD x5.toNat du).Prices))).getD x5.toNat du).Prices)).bind λv10=> (yG v2 n) ((l4.set x5.toNat (Product.mk ((l4.getD x5.toNat du).Name) ((l4.getD x5.toNat du).Thick) ((l4.getD x5.toNat du).Width) ((l4.getD x5.toNat du).Allow) ((l4.getD x5.toNat du).Wane) v8 ((l4.getD x5.toNat du).Prices))).set x5.toNat (Product.mk (((l4.set x5.toNat (Product.mk ((l4.getD x5.toNat du).Name) ((l4.getD x5.toNat du).Thick) ((l4.getD x5.toNat du).Width) ((l4.getD x5.toNat du).Allow) ((l4.getD x5.toNat du).Wane) v8 ((l4.getD x5.toNat du).Prices))).getD x5.toNat du).Name) (((l4.set x5.toNat (Product.mk ((l4.getD x5.toNat du).Name) ((l4.getD x5.toNat du).Thick) ((l4.getD x5.toNat du).Width) ((l4.getD x5.toNat du).Allow) ((l4.getD x5.toNat du).Wane) v8 ((l4.getD x5.toNat du).Prices))).getD x5.toNat du).Thick) (((l4.set x5.toNat (Product.mk ((l4.getD x5.toNat du).Name) ((l4.getD x5.toNat du).Thick) ((l4.getD x5.toNat du).Width) ((l4.getD x5.toNat du).Allow) ((l4.getD x5.toNat du).Wane) v8 ((l4.getD x5.toNat du).Prices))).getD x5.toNat du).Width) (((l4.set x5.toNat (Product.mk ((l4.getD x5.toNat du).Name) ((l4.getD x5.toNat du).Thick) ((l4.getD x5.toNat du).Width) ((l4.getD x5.toNat du).Allow) ((l4.getD x5.toNat du).Wane) v8 ((l4.getD x5.toNat du).Prices))).getD x5.toNat du).Allow) (((l4.set x5.toNat (Product.mk ((l4.getD x5.toNat du).Name) ((l4.getD x5.toNat du).Thick) ((l4.getD x5.toNat du).Width) ((l4.getD x5.toNat du).Allow) ((l4.getD x5.toNat du).Wane) v8 ((l4.getD x5.toNat du).Prices))).getD x5.toNat du).Wane) (((l4.set x5.toNat (Product.mk ((l4.getD x5.toNat du).Name) ((l4.getD x5.toNat du).Thick) ((l4.getD x5.toNat du).Width) ((l4.getD x5.toNat du).Allow) ((l4.getD x5.toNat du).Wane) v8 ((l4.getD x5.toNat du).Prices))).getD x5.toNat du).Lengths) v10)) (w64 (x5+1))
 else none else some l4
def WQ (a1:List Product):Option (List Product):= (YU a1).bind λv2=> (yG v2 FUEL v2 0).bind λo13=> some o13
def TE (a1:List qG):Option (List qG):= (KB a1).bind λv2=> bif v2 !=0 then some ([]:List qG) else some a1
def WK (v2:(List qG)):Nat->Int->Int->Option Int
 |0,_,_=>none
 |n+1,x4,x5=> bif decide (x5<(v2.length:Int)) then bif inb x5 v2.length then (WK v2 n) (w64 (x4+((v2.getD x5.toNat du).Len))) (w64 (x5+1)) else none else some x4
def KZ (a1:List qG):Option Int:= (TE a1).bind λv2=> (WK v2 FUEL 0 0).bind λo9=> some o9
def yL (a1:Int) (a2:List qG) (a3:List qJ) (a4:List Product) (a5:Int) (a6:Int) (a7:Int) (a8:Int) (a9:Int) (a10:Int) (a11:Int) (a12:Int) (a13:List Int) (a14:List qA) (R:Int->(List qG)->(List qJ)->(List Product)->Int->Int->Int->Int->Int->Int->Int->Int->(List Int)->(List qA)->Option (Int×(List qA))) (x17:Bool):Option (Int×(List qA)):= bif x17 then some (w64 (a1+1),a14) else (R (((updL a14 a1.toNat (λx=>(qA.mk x.kind x.at_ (w64 (a1+1)) x.second x.stands x.rect x.leaf x.planned x.gives x.board))).getD a1.toNat du).first) a2 a3 a4 a5 a6 a7 a8 a9 a10 a11 a12 a13 (updL a14 a1.toNat (λx=>(qA.mk x.kind x.at_ (w64 (a1+1)) x.second x.stands x.rect x.leaf x.planned x.gives x.board)))).bind λv19=> bif Nat.ble (a1.toNat+1) v19.2.length then
 (R (((updL v19.2 a1.toNat (λx=>(qA.mk x.kind x.at_ x.first v19.1 x.stands x.rect x.leaf x.planned x.gives x.board))).getD a1.toNat du).second) a2 a3 a4 a5 a6 a7 a8 a9 a10 a11 a12 a13 (updL v19.2 a1.toNat (λx=>(qA.mk x.kind x.at_ x.first v19.1 x.stands x.rect x.leaf x.planned x.gives x.board)))).bind λv22=> some (v22.1,v22.2) else none
def zW :Nat->Int->(List qG)->(List qJ)->(List Product)->Int->Int->Int->Int->Int->Int->Int->Int->(List Int)->(List qA)->Option (Int×(List qA))
 |0,_,_,_,_,_,_,_,_,_,_,_,_,_,_=>none
 |n+1,a1,a2,a3,a4,a5,a6,a7,a8,a9,a10,a11,a12,a13,a14=> bif inb a1 a14.length then bif ((a14.getD a1.toNat du).kind) !=2 then yL a1 a2 a3 a4 a5 a6 a7 a8 a9 a10 a11 a12 a13 a14 (zW n) (((a14.getD a1.toNat du).kind) !=3) else yL a1 a2 a3 a4 a5 a6 a7 a8 a9 a10 a11 a12 a13 a14 (zW n) false else none
def FO (a1:Int) (a2:List qG) (a3:List qJ) (a4:List Product) (a5:Int) (a6:Int) (a7:Int) (a8:Int) (a9:Int) (a10:Int) (a11:Int) (a12:Int) (a13:List Int) (a14:List qA):Option (Int×(List qA)):=zW FUEL a1 a2 a3 a4 a5 a6 a7 a8 a9 a10 a11 a12 a13 a14
def ZH (x2:Int) (R:Int->Option (Bool⊕Unit)) (x7:Bool):Option (Bool⊕Unit):= bif x7 then some (Sum.inl false) else R (w64 (x2+1))
def wU (a1:Rect):Nat->Int->Option (Bool⊕Unit)
 |0,_=>none
 |n+1,x2=> bif decide (x2<2) then bif inb x2 2 then bif decide ((([a1.X.A,a1.X.B,a1.Y.A,a1.Y.B]:List Int).getD (x2.toNat*2+0) 0)<(-600)) then ZH x2 (wU a1 n) true else bif decide ((([a1.X.A,a1.X.B,a1.Y.A,a1.Y.B]:List Int).getD (x2.toNat*2+1) 0)>600) then ZH x2 (wU a1 n) true else ZH x2 (wU a1 n) (decide ((([a1.X.A,a1.X.B,a1.Y.A,a1.Y.B]:List Int).getD (x2.toNat*2+0) 0)≥(([a1.X.A,a1.X.B,a1.Y.A,a1.Y.B]:List Int).getD (x2.toNat*2+1) 0))) else none else some (Sum.inr ())
def DU (a1:Rect):Option Bool:= (wU a1 FUEL 0).bind λu11=>Sum.elim (λv12=>some v12) (λo9=> some true) u11
def PV (a1:qR):Option qR:= (RA a1).bind λv2=> bif v2 !=0 then some (qR.mk 0 []) else some a1
def RS (a1:Int) (a2:Int):Option Span:= some (Span.mk (w64 (10*a1)) (w64 (10*a2)))
def KC (a1:Span) (a2:Span):Option Span:= bif decide ((imax a1.A a2.A)≥(imin a1.B a2.B)) then some (Span.mk 0 0) else some (Span.mk (imax a1.A a2.A) (imin a1.B a2.B))
def WW (a2:Rect) (v3:qR):Nat->Int->Int->Option Int
 |0,_,_=>none
 |n+1,x5,x6=> bif decide (x6<(v3.Rows.length:Int)) then bif inb x6 v3.Rows.length then (RS (w64 (v3.Low+x6)) (w64 ((w64 (v3.Low+x6))+1))).bind λv9=> (KC (v3.Rows.getD x6.toNat du) a2.X).bind λv11=> (XL v11).bind λv13=> (KC v9 a2.Y).bind λv15=> (XL v15).bind λv17=> (WW a2 v3 n) (w64 (x5+(w64 (v13*v17)))) (w64 (x6+1)) else none else some x5
def KH (a1:qR) (a2:Rect):Option Int:= (PV a1).bind λv3=> (WW a2 v3 FUEL 0 0).bind λo20=> some o20
def KE (a1:List qG) (a2:Rect):Nat->(List qS)->Int->Int->Option (List qS)
 |0,_,_,_=>none
 |n+1,l3,x4,x5=> bif decide (x5<(a1.length:Int)) then bif inb x5 a1.length then (KH ((a1.getD x5.toNat du).Sec) a2).bind λv8=> bif nz (w64 ((w64 (a2.X.B-a2.X.A))*(w64 (a2.Y.B-a2.Y.A)))) then bif room (l3.length+1) 24 then (KE a1 a2 n) (l3++[(qS.mk (Span.mk x4 (w64 (x4+((a1.getD x5.toNat du).Len)))) (w64 (Int.tdiv (w64 ((w64 ((w64 (1000*(w64 ((w64 ((w64 (a2.X.B-a2.X.A))*(w64 (a2.Y.B-a2.Y.A))))-v8))))+(w64 ((w64 (a2.X.B-a2.X.A))*(w64 (a2.Y.B-a2.Y.A))))))-1)) (w64 ((w64 (a2.X.B-a2.X.A))*(w64 (a2.Y.B-a2.Y.A)))))))]) (w64 (x4+((a1.getD x5.toNat du).Len))) (w64 (x5+1)) else none else none else none else some l3
def LB (a1:List qG) (a2:Rect):Option (List qS):= (KE a1 a2 FUEL [] 0 0).bind λo13=> some o13
def KN (a1:qV) (a2:Span):Option Box:= some (Box.mk a1.rect.X a1.rect.Y a2)
def UB (v3:Span) (v5:Span) (v7:Span) (x17:Bool):Option (Box×Bool):= bif x17 then some ((Box.mk (Span.mk 0 0) (Span.mk 0 0) (Span.mk 0 0)),false) else some ((Box.mk v3 v5 v7),true)
def SW (a1:Box) (a2:Box):Option (Box×Bool):= (KC a1.X a2.X).bind λv3=> (KC a1.Y a2.Y).bind λv5=> (KC a1.Z a2.Z).bind λv7=> (QR v3).bind λv9=> bif v9 then UB v3 v5 v7 true else (QR v5).bind λv12=> bif v12 then UB v3 v5 v7 true else (QR v7).bind λv15=> UB v3 v5 v7 v15
def KM (a1:qJ) (a2:Box):Option Bool:= (SW a1.Box a2).bind λv3=> some v3.2
def LF (x29:Int) (R:Int->(List qJ)->Option (List qJ)) (l37:List qJ):Option (List qJ):= R (w64 (x29+1)) l37
def JA (a2:List qJ) (v27:Box):Nat->Int->(List qJ)->Option (List qJ)
 |0,_,_=>none
 |n+1,x29,l30=> bif decide (x29<(a2.length:Int)) then bif inb x29 a2.length then (KM (a2.getD x29.toNat du) v27).bind λv33=> bif v33 then bif room (l30.length+1) 56 then LF x29 (JA a2 v27 n) (l30++[(a2.getD x29.toNat du)]) else none else LF x29 (JA a2 v27 n) l30 else none else some l30
def GE (a1:List qG) (a2:List qJ) (a3:Product) (a4:Rect) (x21:Bool):Option (qV×Bool):= bif x21 then some ((qV.mk (Product.mk (ByteArray.mk #[]) 0 0 0 0 [] []) (Rect.mk (Span.mk 0 0) (Span.mk 0 0)) 0 [] []),false) else (KZ a1).bind λv23=> (LB a1 a4).bind λv25=> (KN (qV.mk a3 a4 v23 v25 []) (Span.mk 0 v23)).bind λv27=> (JA a2 v27 FUEL 0 []).bind λo39=> some ((qV.mk a3 a4 v23 v25 o39),true)
def RC (a1:List qG) (a2:List qJ) (a3:Product) (a4:Rect) (x16:Bool):Option (qV×Bool):= bif x16 then some ((qV.mk (Product.mk (ByteArray.mk #[]) 0 0 0 0 [] []) (Rect.mk (Span.mk 0 0) (Span.mk 0 0)) 0 [] []),false) else (XF a3).bind λv18=> bif !(((w64 (a4.X.B-a4.X.A))==v18.1)&&(((w64 (a4.Y.B-a4.Y.A))==v18.2)&&true)) then GE a1 a2 a3 a4 (!(((w64 (a4.X.B-a4.X.A))==v18.2)&&(((w64 (a4.Y.B-a4.Y.A))==v18.1)&&true))) else GE a1 a2 a3 a4 false
def MQ (a1:List qG) (a2:List qJ) (a3:Product) (a4:Rect):Option (qV×Bool):= (KB a1).bind λv5=> bif v5 !=0 then RC a1 a2 a3 a4 true else (PB a2).bind λv8=> bif v8 !=0 then RC a1 a2 a3 a4 true else (XK [a3]).bind λv11=> bif v11 !=0 then RC a1 a2 a3 a4 true else (DU a4).bind λv14=> RC a1 a2 a3 a4 (!v14)
def XN (x5:Bool):Option Bool:= some x5
def NB (a1:Span) (a2:Int):Option Bool:= bif decide (a1.A≥0) then bif decide (a1.A<a1.B) then XN (decide (a1.B<=a2)) else XN false else XN false
def ZQ (a1:Product) (a2:Int):Nat->Int->Option ((Int×Bool)⊕Unit)
 |0,_=>none
 |n+1,x3=> bif decide (x3<(a1.Lengths.length:Int)) then bif inb x3 a1.Lengths.length then bif (a1.Lengths.getD x3.toNat du) !=a2 then (ZQ a1 a2 n) (w64 (x3+1)) else bif decide (x3≥(a1.Prices.length:Int)) then some (Sum.inl (0,false)) else bif inb x3 a1.Prices.length then some (Sum.inl ((a1.Prices.getD x3.toNat du),true)) else none else none else some (Sum.inr ())
def GM (a1:Product) (a2:Int):Option (Int×Bool):= (ZQ a1 a2 FUEL 0).bind λu11=>Sum.elim (λv12=>some v12) (λo9=> some (0,false)) u11
def NU (x4:Int) (R:Int->Int->Option Int) (x10:Int):Option Int:= R x10 (w64 (x4+1))
def NJ (a1:List qS) (x3:Int) (x4:Int) (R:Int->Int->Option Int) (x8:Bool):Option Int:= bif x8 then NU x4 R (imax x3 ((a1.getD x4.toNat du).lack)) else NU x4 R x3
def QP (a1:List qS) (a2:Span):Nat->Int->Int->Option Int
 |0,_,_=>none
 |n+1,x3,x4=> bif decide (x4<(a1.length:Int)) then bif inb x4 a1.length then bif decide ((((a1.getD x4.toNat du).z).A)<a2.B) then NJ a1 x3 x4 (QP a1 a2 n) (decide (a2.A<(((a1.getD x4.toNat du).z).B))) else NJ a1 x3 x4 (QP a1 a2 n) false else none else some x3
def FW (a1:List qS) (a2:Span):Option Int:= (QP a1 a2 FUEL 0 0).bind λo12=> some o12
def PL (x17:Int) (R:Int->Int->Option ((Int×Bool)⊕Int)) (x24:Int):Option ((Int×Bool)⊕Int):= R x24 (w64 (x17+1))
def zV (a1:qV) (a3:Int) (v14:Box):Nat->Int->Int->Option ((Int×Bool)⊕Int)
 |0,_,_=>none
 |n+1,x16,x17=> bif decide (x17<(a1.defects.length:Int)) then bif inb x17 a1.defects.length then (KM (a1.defects.getD x17.toNat du) v14).bind λv20=> bif !v20 then PL x17 (zV a1 a3 v14 n) x16 else bif ((a1.defects.getD x17.toNat du).Kind)==3 then some (Sum.inl (0,false)) else PL x17 (zV a1 a3 v14 n) (w64 (x16-a3)) else none else some (Sum.inr x16)
def PP (a1:qV) (a2:Span) (a3:Int) (v7:Int×Bool) (x12:Bool):Option (Int×Bool):= bif x12 then some (0,false) else (KN a1 a2).bind λv14=> (zV a1 a3 v14 FUEL v7.1 0).bind λu28=>Sum.elim (λv29=>some v29) (λo26=> some (imax o26 0,true)) u28
def YA (a1:qV) (a2:Span) (a3:Int):Option (Int×Bool):= (NB a2 a1.length).bind λv4=> bif !v4 then some (0,false) else (GM a1.product (w64 (a2.B-a2.A))).bind λv7=> bif !v7.2 then PP a1 a2 a3 v7 true else (FW a1.zones a2).bind λv10=> PP a1 a2 a3 v7 (decide (v10>a1.product.Wane))
def LM (x24:Int) (R:Int->Bool->Int->Span->Option (Int×Bool×Span)) (x34:Int) (x35:Bool) (x36:Span):Option (Int×Bool×Span):= R x34 x35 (w64 (x24+1)) x36
def GD (a3:Product) (x19:Int) (x22:Int) (x23:Bool) (x24:Int) (x25:Span) (R:Int->Bool->Int->Span->Option (Int×Bool×Span)) (v28:Int×Bool) (x32:Bool):Option (Int×Bool×Span):= bif x32 then LM x24 R v28.1 true (Span.mk x19 (w64 (x19+(a3.Lengths.getD x24.toNat du)))) else LM x24 R x22 x23 x25
def yP (a3:Product) (a6:Int) (v14:qV×Bool) (x19:Int):Nat->Int->Bool->Int->Span->Option (Int×Bool×Span)
 |0,_,_,_,_=>none
 |n+1,x22,x23,x24,x25=> bif decide (x24<(a3.Lengths.length:Int)) then bif inb x24 a3.Lengths.length then (YA (qV.mk v14.1.product v14.1.rect v14.1.length v14.1.zones v14.1.defects) (Span.mk x19 (w64 (x19+(a3.Lengths.getD x24.toNat du)))) a6).bind λv28=> bif v28.2 then bif !x23 then GD a3 x19 x22 x23 x24 x25 (yP a3 a6 v14 x19 n) v28 true else GD a3 x19 x22 x23 x24 x25 (yP a3 a6 v14 x19 n) v28 (decide (v28.1>x22)) else GD a3 x19 x22 x23 x24 x25 (yP a3 a6 v14 x19 n) v28 false else none else some (x22,x23,x25)
def XI (a3:Product) (a5:Int) (a6:Int) (v14:qV×Bool):Nat->Int->Bool->Int->Span->Option (Int×Bool×Span)
 |0,_,_,_,_=>none
 |n+1,x17,x18,x19,x20=> bif decide (x19<v14.1.length) then (yP a3 a6 v14 x19 FUEL x17 x18 0 x20).bind λo40=> (XI a3 a5 a6 v14 n) o40.1 o40.2.1 (w64 (x19+a5)) o40.2.2 else some (x17,x18,x20)
def LO (a1:List qG) (a2:List qJ) (a3:Product) (a4:Rect) (a5:Int) (a6:Int) (x12:Bool):Option (Span×Int×Bool):= bif x12 then some ((Span.mk 0 0),0,false) else (MQ a1 a2 a3 a4).bind λv14=> bif !v14.2 then some ((Span.mk 0 0),0,false) else (XI a3 a5 a6 v14 FUEL 0 false 0 (Span.mk 0 0)).bind λo45=> some (o45.2.2,o45.1,o45.2.1)
def VX (a1:List qG) (a2:List qJ) (a3:Product) (a4:Rect) (a5:Int) (a6:Int):Option (Span×Int×Bool):= (UX a5).bind λv7=> bif !v7 then LO a1 a2 a3 a4 a5 a6 true else (TZ a6).bind λv10=> LO a1 a2 a3 a4 a5 a6 (!v10)
def YR (a1:Int) (a2:Rect) (a3:List qG) (a4:List qJ) (a5:List Product) (a9:Int) (a12:Int) (a15:List qA) (x19:Bool):Option (List qA):= bif x19 then some (updL (updL a15 a1.toNat (λx=>(qA.mk x.kind x.at_ x.first x.second true x.rect x.leaf x.planned x.gives x.board))) a1.toNat (λx=>(qA.mk x.kind x.at_ x.first x.second x.stands a2 x.leaf x.planned x.gives x.board))) else bif inb (((updL (updL a15 a1.toNat (λx=>(qA.mk x.kind x.at_ x.first x.second true x.rect x.leaf x.planned x.gives x.board))) a1.toNat (λx=>(qA.mk x.kind x.at_ x.first x.second x.stands a2 x.leaf x.planned x.gives x.board))).getD a1.toNat du).at_) a5.length then (VX a3 a4 (a5.getD (((updL (updL a15 a1.toNat (λx=>(qA.mk x.kind x.at_ x.first x.second true x.rect x.leaf x.planned x.gives x.board))) a1.toNat (λx=>(qA.mk x.kind x.at_ x.first x.second x.stands a2 x.leaf x.planned x.gives x.board))).getD a1.toNat du).at_).toNat du) (Rect.mk (Span.mk a2.X.A (w64 (a2.X.A+(w64 ((((((updL (updL a15 a1.toNat (λx=>(qA.mk x.kind x.at_ x.first x.second true x.rect x.leaf x.planned x.gives x.board))) a1.toNat (λx=>(qA.mk x.kind x.at_ x.first x.second x.stands a2 x.leaf x.planned x.gives x.board))).getD a1.toNat du).planned).X).B)-(((((updL (updL a15 a1.toNat (λx=>(qA.mk x.kind x.at_ x.first x.second true x.rect x.leaf x.planned x.gives x.board))) a1.toNat (λx=>(qA.mk x.kind x.at_ x.first x.second x.stands a2 x.leaf x.planned x.gives x.board))).getD a1.toNat du).planned).X).A)))))) (Span.mk a2.Y.A (w64 (a2.Y.A+(w64 ((((((updL (updL a15 a1.toNat (λx=>(qA.mk x.kind x.at_ x.first x.second true x.rect x.leaf x.planned x.gives x.board))) a1.toNat (λx=>(qA.mk x.kind x.at_ x.first x.second x.stands a2 x.leaf x.planned x.gives x.board))).getD a1.toNat du).planned).Y).B)-(((((updL (updL a15 a1.toNat (λx=>(qA.mk x.kind x.at_ x.first x.second true x.rect x.leaf x.planned x.gives x.board))) a1.toNat (λx=>(qA.mk x.kind x.at_ x.first x.second x.stands a2 x.leaf x.planned x.gives x.board))).getD a1.toNat du).planned).Y).A))))))) a9 a12).bind λv22=>
 bif !v22.2.2 then some (updL (updL a15 a1.toNat (λx=>(qA.mk x.kind x.at_ x.first x.second true x.rect x.leaf x.planned x.gives x.board))) a1.toNat (λx=>(qA.mk x.kind x.at_ x.first x.second x.stands a2 x.leaf x.planned x.gives x.board))) else some (updL (updL (updL (updL a15 a1.toNat (λx=>(qA.mk x.kind x.at_ x.first x.second true x.rect x.leaf x.planned x.gives x.board))) a1.toNat (λx=>(qA.mk x.kind x.at_ x.first x.second x.stands a2 x.leaf x.planned x.gives x.board))) a1.toNat (λx=>(qA.mk x.kind x.at_ x.first x.second x.stands x.rect x.leaf x.planned true x.board))) a1.toNat (λx=>(qA.mk x.kind x.at_ x.first x.second x.stands x.rect x.leaf x.planned x.gives (qI.mk (((updL (updL (updL a15 a1.toNat (λx=>(qA.mk x.kind x.at_ x.first x.second true x.rect x.leaf x.planned x.gives x.board))) a1.toNat (λx=>(qA.mk x.kind x.at_ x.first x.second x.stands a2 x.leaf x.planned x.gives x.board))) a1.toNat (λx=>(qA.mk x.kind x.at_ x.first x.second x.stands x.rect x.leaf x.planned true x.board))).getD a1.toNat du).leaf) (((updL (updL (updL a15 a1.toNat (λx=>(qA.mk x.kind x.at_ x.first x.second true x.rect x.leaf x.planned x.gives x.board))) a1.toNat (λx=>(qA.mk x.kind x.at_ x.first x.second x.stands a2 x.leaf x.planned x.gives x.board))) a1.toNat (λx=>(qA.mk x.kind x.at_ x.first x.second x.stands x.rect x.leaf x.planned true x.board))).getD a1.toNat du).at_) (Box.mk (Span.mk a2.X.A (w64 (a2.X.A+(w64 ((((((updL (updL a15 a1.toNat (λx=>(qA.mk x.kind x.at_ x.first x.second true x.rect x.leaf x.planned x.gives x.board))) a1.toNat (λx=>(qA.mk x.kind x.at_ x.first x.second x.stands a2 x.leaf x.planned x.gives x.board))).getD a1.toNat du).planned).X).B)-(((((updL (updL a15 a1.toNat (λx=>(qA.mk x.kind x.at_ x.first x.second true x.rect x.leaf x.planned x.gives x.board))) a1.toNat (λx=>(qA.mk x.kind x.at_ x.first x.second x.stands a2 x.leaf x.planned x.gives x.board))).getD a1.toNat du).planned).X).A)))))) (Span.mk a2.Y.A (w64 (a2.Y.A+(w64 ((((((updL (updL a15 a1.toNat (λx=>(qA.mk x.kind x.at_ x.first x.second true x.rect x.leaf x.planned x.gives x.board))) a1.toNat (λx=>(qA.mk x.kind x.at_ x.first x.second x.stands a2 x.leaf x.planned x.gives x.board))).getD a1.toNat du).planned).Y).B)-(((((updL (updL a15 a1.toNat (λx=>(qA.mk x.kind x.at_ x.first x.second true x.rect x.leaf x.planned x.gives x.board))) a1.toNat (λx=>(qA.mk x.kind x.at_ x.first x.second x.stands a2 x.leaf x.planned x.gives x.board))).getD a1.toNat du).planned).Y).A)))))) v22.1) v22.2.1))))
 else none
def ZU (a1:Int) (a2:Rect) (a3:List qG) (a4:List qJ) (a5:List Product) (a6:Int) (a7:Int) (a8:Int) (a9:Int) (a10:Int) (a11:Int) (a12:Int) (a13:Int) (a14:List Int) (a15:List qA):Option (List qA):= bif inb a1 a15.length then bif (((updL (updL a15 a1.toNat (λx=>(qA.mk x.kind x.at_ x.first x.second true x.rect x.leaf x.planned x.gives x.board))) a1.toNat (λx=>(qA.mk x.kind x.at_ x.first x.second x.stands a2 x.leaf x.planned x.gives x.board))).getD a1.toNat du).kind) !=1 then some (updL (updL a15 a1.toNat (λx=>(qA.mk x.kind x.at_ x.first x.second true x.rect x.leaf x.planned x.gives x.board))) a1.toNat (λx=>(qA.mk x.kind x.at_ x.first x.second x.stands a2 x.leaf x.planned x.gives x.board))) else bif decide ((w64 (a2.X.B-a2.X.A))<(w64 ((((((updL (updL a15 a1.toNat (λx=>(qA.mk x.kind x.at_ x.first x.second true x.rect x.leaf x.planned x.gives x.board))) a1.toNat (λx=>(qA.mk x.kind x.at_ x.first x.second x.stands a2 x.leaf x.planned x.gives x.board))).getD a1.toNat du).planned).X).B)-(((((updL (updL a15 a1.toNat (λx=>(qA.mk x.kind x.at_ x.first x.second true x.rect x.leaf x.planned x.gives x.board))) a1.toNat (λx=>(qA.mk x.kind x.at_ x.first x.second x.stands a2 x.leaf x.planned x.gives x.board))).getD a1.toNat du).planned).X).A)))) then
 YR a1 a2 a3 a4 a5 a9 a12 a15 true else YR a1 a2 a3 a4 a5 a9 a12 a15 (decide ((w64 (a2.Y.B-a2.Y.A))<(w64 ((((((updL (updL a15 a1.toNat (λx=>(qA.mk x.kind x.at_ x.first x.second true x.rect x.leaf x.planned x.gives x.board))) a1.toNat (λx=>(qA.mk x.kind x.at_ x.first x.second x.stands a2 x.leaf x.planned x.gives x.board))).getD a1.toNat du).planned).Y).B)-(((((updL (updL a15 a1.toNat (λx=>(qA.mk x.kind x.at_ x.first x.second true x.rect x.leaf x.planned x.gives x.board))) a1.toNat (λx=>(qA.mk x.kind x.at_ x.first x.second x.stands a2 x.leaf x.planned x.gives x.board))).getD a1.toNat du).planned).Y).A))))) else none
def UW (x22:Int) (l23:List qA) (R:Int->Int->(List qA)->(List Int)->Option ((List qA)×(List Int))) (x32:Int) (x33:qA) (l34:List Int):Option ((List qA)×(List Int)):= bif room (l23.length+1) 192 then R x32 (w64 (x22+1)) (l23++[x33]) l34 else none
def UP (a4:Pattern) (v10:(List Leaf)×Int) (x21:Int) (x22:Int) (l23:List qA) (l24:List Int) (R:Int->Int->(List qA)->(List Int)->Option ((List qA)×(List Int))) (x28:Bool):Option ((List qA)×(List Int)):= bif x28 then bif room (l24.length+1) 8 then UW x22 l23 R x21 (qA.mk ((a4.Nodes.getD x22.toNat du).Kind) ((a4.Nodes.getD x22.toNat du).At) 0 0 false (Rect.mk (Span.mk 0 0) (Span.mk 0 0)) 0 (Rect.mk (Span.mk 0 0) (Span.mk 0 0)) false (qI.mk 0 0 (Box.mk (Span.mk 0 0) (Span.mk 0 0) (Span.mk 0 0)) 0)) (l24++[x22]) else none else bif inb x21 v10.1.length then UW x22 l23 R (w64 (x21+1)) (qA.mk ((a4.Nodes.getD x22.toNat du).Kind) ((a4.Nodes.getD x22.toNat du).At) 0 0 false (Rect.mk (Span.mk 0 0) (Span.mk 0 0)) x21 ((v10.1.getD x21.toNat du).Rect) false (qI.mk 0 0 (Box.mk (Span.mk 0 0) (Span.mk 0 0) (Span.mk 0 0)) 0)) l24
 else none
def zY (a4:Pattern) (v10:(List Leaf)×Int):Nat->Int->Int->(List qA)->(List Int)->Option ((List qA)×(List Int))
 |0,_,_,_,_=>none
 |n+1,x21,x22,l23,l24=> bif decide (x22<(a4.Nodes.length:Int)) then bif inb x22 a4.Nodes.length then bif ((a4.Nodes.getD x22.toNat du).Kind)==2 then UP a4 v10 x21 x22 l23 l24 (zY a4 v10 n) true else UP a4 v10 x21 x22 l23 l24 (zY a4 v10 n) (((a4.Nodes.getD x22.toNat du).Kind)==3) else none else some (l23,l24)
def TM (a1:List qG) (a2:List qJ) (a3:List Product) (a4:Pattern) (a5:Saw) (a6:Rates):Option (Int⊕(zB×Int)):= (LJ a1 a2 a3 a4 a5 a6).bind λv7=> bif v7 !=0 then some (Sum.inl v7) else (KK a4 a5.Kerf).bind λv10=> bif v10.2 !=0 then some (Sum.inl v10.2) else (YO a1).bind λv13=> (XY a2).bind λv15=> (WQ a3).bind λv17=> (KZ a1).bind λv19=> (zY a4 v10 FUEL 0 0 [] []).bind λo38=> (FO 0 v13 v15 v17 a5.Kerf a5.Trim a5.Pitch a5.Step a6.Chip a6.Dust a6.Fine v19 o38.2 o38.1).bind λv40=> (ZU 0 a4.Frame v13 v15 v17 a5.Kerf a5.Trim a5.Pitch a5.Step a6.Chip a6.Dust a6.Fine v19 o38.2 v40.2).bind λv42=> some (Sum.inr ((zB.mk v13 v15 v17 (Saw.mk a5.Kerf a5.Trim a5.Pitch a5.Step) (Rates.mk a6.Chip a6.Dust a6.Fine) v19 v42 o38.2 []),0))
def YF (a1:qQ):Option (Int⊕(zB×Int)):= (TM a1.Solid a1.Defects a1.Products a1.Pattern a1.Saw a1.Rates).bind λv2=> Sum.elim (λv4=> some (Sum.inl v4)) (λv5=> some (Sum.inr ((zB.mk v5.1.solid v5.1.defects v5.1.catalog v5.1.saw v5.1.rates v5.1.length v5.1.nodes v5.1.rips v5.1.sawn),v5.2))) v2
def YY (v2:qR):Nat->Int->Int->Option Int
 |0,_,_=>none
 |n+1,x4,x5=> bif decide (x5<(v2.Rows.length:Int)) then bif inb x5 v2.Rows.length then (XL (v2.Rows.getD x5.toNat du)).bind λv8=> (YY v2 n) (w64 (x4+v8)) (w64 (x5+1)) else none else some x4
def BQ (a1:qR):Option Int:= (PV a1).bind λv2=> (YY v2 FUEL 0 0).bind λo11=> some (w64 (10*o11))
def YZ (v2:(List qG)):Nat->Int->Int->Option Int
 |0,_,_=>none
 |n+1,x4,x5=> bif decide (x5<(v2.length:Int)) then bif inb x5 v2.length then (BQ ((v2.getD x5.toNat du).Sec)).bind λv8=> (YZ v2 n) (w64 (x4+(w64 (((v2.getD x5.toNat du).Len)*v8)))) (w64 (x5+1)) else none else some x4
def TU (a1:List qG):Option Int:= (TE a1).bind λv2=> (YZ v2 FUEL 0 0).bind λo11=> some o11
def JX (a1:List qG):Nat->(List Span)->Int->Int->Option (List Span)
 |0,_,_,_=>none
 |n+1,l3,x4,x5=> bif decide (x5<(a1.length:Int)) then bif inb x5 a1.length then bif inb x5 l3.length then (JX a1 n) (l3.set x5.toNat (Span.mk x4 (w64 (x4+((a1.getD x5.toNat du).Len))))) (w64 (x4+((a1.getD x5.toNat du).Len))) (w64 (x5+1)) else none else none else some l3
def GI (a1:List qG):Option (List Span):= bif mkOk (a1.length:Int) 16 then (JX a1 FUEL (List.replicate ((a1.length:Int).toNat) (Span.mk 0 0)) 0 0).bind λo10=> some o10 else none
def DF (x8:Int) (R:Int->Int->Option Int) (x19:Int):Option Int:= R x19 (w64 (x8+1))
def ZE (a2:Box) (v3:(List qG)) (v5:(List Span)):Nat->Int->Int->Option Int
 |0,_,_=>none
 |n+1,x7,x8=> bif decide (x8<(v5.length:Int)) then bif inb x8 v5.length then (KC (v5.getD x8.toNat du) a2.Z).bind λv11=> (XL v11).bind λv13=> bif decide (v13>0) then bif inb x8 v3.length then (KH ((v3.getD x8.toNat du).Sec) (Rect.mk a2.X a2.Y)).bind λv17=> DF x8 (ZE a2 v3 v5 n) (w64 (x7+(w64 (v13*v17)))) else none else DF x8 (ZE a2 v3 v5 n) x7 else none else some x7
def WM (a1:List qG) (a2:Box):Option Int:= (TE a1).bind λv3=> (GI v3).bind λv5=> (ZE a2 v3 v5 FUEL 0 0).bind λo21=> some o21
def wY (a1:Rect) (a2:Span) (a3:List qG) (a4:List qJ) (a5:List Product) (a6:Int) (a7:Int) (a8:Int) (a9:Int) (a10:Int) (a11:Int) (a12:Int) (a13:Int) (a14:List Int) (a15:List qA) (a16:List Rect):Option Int:= (WM a3 (Box.mk a1.X a1.Y a2)).bind λv17=> some v17
def YG (x16:Int) (R:(List qI)->Int->Option (List qI)) (l21:List qI):Option (List qI):= R l21 (w64 (x16+1))
def wT (a13:List qA):Nat->(List qI)->Int->Option (List qI)
 |0,_,_=>none
 |n+1,l15,x16=> bif decide (x16<(a13.length:Int)) then bif inb x16 a13.length then bif (a13.getD x16.toNat du).gives then bif room (l15.length+1) 72 then YG x16 (wT a13 n) (l15++[(a13.getD x16.toNat du).board]) else none else YG x16 (wT a13 n) l15 else none else some l15
def wW (a1:List qG) (a2:List qJ) (a3:List Product) (a4:Int) (a5:Int) (a6:Int) (a7:Int) (a8:Int) (a9:Int) (a10:Int) (a11:Int) (a12:List Int) (a13:List qA) (a14:List Rect):Option (List qI):= (wT a13 FUEL [] 0).bind λo23=> some o23
def XC (a1:jV) (a2:Span):Option Span:= some (Span.mk (imax 0 (w64 (a2.A-a1.kerf))) a2.A)
def YK (a1:jV) (a2:Span):Option Span:= some (Span.mk a2.B (imin (w64 (a2.B+a1.kerf)) a1.length))
def XA (x16:Int) (R:(List Rect)->Int->Option (List Rect)) (l22:List Rect):Option (List Rect):= R l22 (w64 (x16+1))
def wZ (a12:List Int) (a13:List qA):Nat->(List Rect)->Int->Option (List Rect)
 |0,_,_=>none
 |n+1,l15,x16=> bif decide (x16<(a12.length:Int)) then bif inb x16 a12.length then bif inb (a12.getD x16.toNat du) a13.length then bif (a13.getD ((a12.getD x16.toNat du).toNat) du).stands then bif room (l15.length+1) 32 then XA x16 (wZ a12 a13 n) (l15++[(a13.getD ((a12.getD x16.toNat du).toNat) du).rect]) else none else XA x16 (wZ a12 a13 n) l15 else none else none else some l15
def jY (a1:List qG) (a2:List qJ) (a3:List Product) (a4:Int) (a5:Int) (a6:Int) (a7:Int) (a8:Int) (a9:Int) (a10:Int) (a11:Int) (a12:List Int) (a13:List qA) (a14:List Rect):Option (List Rect):= (wZ a12 a13 FUEL [] 0).bind λo24=> some o24
def jT (a1:List qG) (a2:List qJ) (a3:List Product) (a4:Int) (a5:Int) (a6:Int) (a7:Int) (a8:Int) (a9:Int) (a10:Int) (a11:Int) (a12:List Int) (a13:List qA) (a14:List Rect) (v15:Int):Nat->Int->Int->Option zM
 |0,_,_=>none
 |n+1,x17,x18=> bif decide (x17<(a14.length:Int)) then bif inb x17 a14.length then (wY (a14.getD x17.toNat du) (Span.mk 0 a11) a1 a2 a3 a4 a5 a6 a7 a8 a9 a10 a11 a12 a13 a14).bind λv21=> (jT a1 a2 a3 a4 a5 a6 a7 a8 a9 a10 a11 a12 a13 a14 v15 n) (w64 (x17+1)) (w64 (x18+v21)) else none else some (zM.mk v15 0 0 x18 0)
def jP (a1:List qG) (a2:List qJ) (a3:List Product) (a4:Int) (a5:Int) (a6:Int) (a7:Int) (a8:Int) (a9:Int) (a10:Int) (a11:Int) (a12:List Int) (a13:List qA) (a14:List Rect) (o24:zM) (v26:(List qI)):Nat->Int->Int->Int->Int->Option zM
 |0,_,_,_,_=>none
 |n+1,x28,x29,x30,x31=> bif decide (x28<(v26.length:Int)) then bif inb x28 v26.length then (wY (Rect.mk (((v26.getD x28.toNat du).Box).X) (((v26.getD x28.toNat du).Box).Y)) (((v26.getD x28.toNat du).Box).Z) a1 a2 a3 a4 a5 a6 a7 a8 a9 a10 a11 a12 a13 a14).bind λv34=> (XC (jV.mk a5 a11) (((v26.getD x28.toNat du).Box).Z)).bind λv36=> (wY (Rect.mk (((v26.getD x28.toNat du).Box).X) (((v26.getD x28.toNat du).Box).Y)) v36 a1 a2 a3 a4 a5 a6 a7 a8 a9 a10 a11 a12 a13 a14).bind λv38=> (YK (jV.mk a5 a11) (((v26.getD x28.toNat du).Box).Z)).bind λv40=> (wY (Rect.mk (((v26.getD x28.toNat du).Box).X) (((v26.getD x28.toNat du).Box).Y)) v40 a1 a2 a3 a4 a5 a6 a7 a8 a9 a10 a11 a12 a13 a14).bind λv42=> (jP a1 a2 a3 a4 a5 a6 a7 a8 a9 a10 a11 a12 a13 a14 o24 v26 n) (w64 (x28+1)) (w64 (x29+v34)) (w64 ((w64 (x30+v38))+v42)) (w64 (x31+(w64 (1000000*((v26.getD x28.toNat du).Worth)))))
 else none else some (zM.mk o24.Log x29 o24.Chips x30 x31)
def jU (a1:List qG) (a2:List qJ) (a3:List Product) (a4:Int) (a5:Int) (a6:Int) (a7:Int) (a8:Int) (a9:Int) (a10:Int) (a11:Int) (a12:List Int) (a13:List qA) (a14:List Rect) (v47:(List Rect)):Nat->Int->Int->Option Int
 |0,_,_=>none
 |n+1,x49,x50=> bif decide (x50<(v47.length:Int)) then bif inb x50 v47.length then (wY (v47.getD x50.toNat du) (Span.mk 0 a11) a1 a2 a3 a4 a5 a6 a7 a8 a9 a10 a11 a12 a13 a14).bind λv53=> (jU a1 a2 a3 a4 a5 a6 a7 a8 a9 a10 a11 a12 a13 a14 v47 n) (w64 (x49+v53)) (w64 (x50+1)) else none else some x49
def jE (a1:List qG) (a2:List qJ) (a3:List Product) (a4:Int) (a5:Int) (a6:Int) (a7:Int) (a8:Int) (a9:Int) (a10:Int) (a11:Int) (a12:List Int) (a13:List qA) (a14:List Rect):Option (zM×Int):= (TU a1).bind λv15=> (jT a1 a2 a3 a4 a5 a6 a7 a8 a9 a10 a11 a12 a13 a14 v15 FUEL 0 0).bind λo24=> (wW a1 a2 a3 a4 a5 a6 a7 a8 a9 a10 a11 a12 a13 a14).bind λv26=> (jP a1 a2 a3 a4 a5 a6 a7 a8 a9 a10 a11 a12 a13 a14 o24 v26 FUEL 0 o24.Boards o24.Dust o24.Value).bind λo45=> (jY a1 a2 a3 a4 a5 a6 a7 a8 a9 a10 a11 a12 a13 a14).bind λv47=> (jU a1 a2 a3 a4 a5 a6 a7 a8 a9 a10 a11 a12 a13 a14 v47 FUEL 0 0).bind λo56=> some ((zM.mk o45.Log o45.Boards (w64 ((w64 ((w64 (o45.Log-o45.Boards))-o45.Dust))-o56)) o45.Dust (w64 (o45.Value+(w64 ((w64 (a8*(w64 ((w64 ((w64 (o45.Log-o45.Boards))-o45.Dust))-o56))))+(w64 (a9*o45.Dust))))))),o56)
def XO (a1:List qG) (a2:List qJ) (a3:List Product) (a4:Int) (a5:Int) (a6:Int) (a7:Int) (a8:Int) (a9:Int) (a10:Int) (a11:Int) (a12:List Int) (a13:List qA) (a14:List Rect):Option Int:= some (a12.length:Int)
def WO (a1:Int) (a2:Rect) (a3:List qG) (a4:List qJ) (a5:List Product) (a9:Int) (a12:Int) (a15:List qA) (x20:Bool):Option (List qA):= bif x20 then some (updL (updL a15 a1.toNat (λx=>(qA.mk x.kind x.at_ x.first x.second true x.rect x.leaf x.planned x.gives x.board))) a1.toNat (λx=>(qA.mk x.kind x.at_ x.first x.second x.stands a2 x.leaf x.planned x.gives x.board))) else bif inb (((updL (updL a15 a1.toNat (λx=>(qA.mk x.kind x.at_ x.first x.second true x.rect x.leaf x.planned x.gives x.board))) a1.toNat (λx=>(qA.mk x.kind x.at_ x.first x.second x.stands a2 x.leaf x.planned x.gives x.board))).getD a1.toNat du).at_) a5.length then (VX a3 a4 (a5.getD (((updL (updL a15 a1.toNat (λx=>(qA.mk x.kind x.at_ x.first x.second true x.rect x.leaf x.planned x.gives x.board))) a1.toNat (λx=>(qA.mk x.kind x.at_ x.first x.second x.stands a2 x.leaf x.planned x.gives x.board))).getD a1.toNat du).at_).toNat du) (Rect.mk (Span.mk a2.X.A (w64 (a2.X.A+(w64 ((((((updL (updL a15 a1.toNat (λx=>(qA.mk x.kind x.at_ x.first x.second true x.rect x.leaf x.planned x.gives x.board))) a1.toNat (λx=>(qA.mk x.kind x.at_ x.first x.second x.stands a2 x.leaf x.planned x.gives x.board))).getD a1.toNat du).planned).X).B)-(((((updL (updL a15 a1.toNat (λx=>(qA.mk x.kind x.at_ x.first x.second true x.rect x.leaf x.planned x.gives x.board))) a1.toNat (λx=>(qA.mk x.kind x.at_ x.first x.second x.stands a2 x.leaf x.planned x.gives x.board))).getD a1.toNat du).planned).X).A)))))) (Span.mk a2.Y.A (w64 (a2.Y.A+(w64 ((((((updL (updL a15 a1.toNat (λx=>(qA.mk x.kind x.at_ x.first x.second true x.rect x.leaf x.planned x.gives x.board))) a1.toNat (λx=>(qA.mk x.kind x.at_ x.first x.second x.stands a2 x.leaf x.planned x.gives x.board))).getD a1.toNat du).planned).Y).B)-(((((updL (updL a15 a1.toNat (λx=>(qA.mk x.kind x.at_ x.first x.second true x.rect x.leaf x.planned x.gives x.board))) a1.toNat (λx=>(qA.mk x.kind x.at_ x.first x.second x.stands a2 x.leaf x.planned x.gives x.board))).getD a1.toNat du).planned).Y).A))))))) a9 a12).bind λv23=>
 bif !v23.2.2 then some (updL (updL a15 a1.toNat (λx=>(qA.mk x.kind x.at_ x.first x.second true x.rect x.leaf x.planned x.gives x.board))) a1.toNat (λx=>(qA.mk x.kind x.at_ x.first x.second x.stands a2 x.leaf x.planned x.gives x.board))) else some (updL (updL (updL (updL a15 a1.toNat (λx=>(qA.mk x.kind x.at_ x.first x.second true x.rect x.leaf x.planned x.gives x.board))) a1.toNat (λx=>(qA.mk x.kind x.at_ x.first x.second x.stands a2 x.leaf x.planned x.gives x.board))) a1.toNat (λx=>(qA.mk x.kind x.at_ x.first x.second x.stands x.rect x.leaf x.planned true x.board))) a1.toNat (λx=>(qA.mk x.kind x.at_ x.first x.second x.stands x.rect x.leaf x.planned x.gives (qI.mk (((updL (updL (updL a15 a1.toNat (λx=>(qA.mk x.kind x.at_ x.first x.second true x.rect x.leaf x.planned x.gives x.board))) a1.toNat (λx=>(qA.mk x.kind x.at_ x.first x.second x.stands a2 x.leaf x.planned x.gives x.board))) a1.toNat (λx=>(qA.mk x.kind x.at_ x.first x.second x.stands x.rect x.leaf x.planned true x.board))).getD a1.toNat du).leaf) (((updL (updL (updL a15 a1.toNat (λx=>(qA.mk x.kind x.at_ x.first x.second true x.rect x.leaf x.planned x.gives x.board))) a1.toNat (λx=>(qA.mk x.kind x.at_ x.first x.second x.stands a2 x.leaf x.planned x.gives x.board))) a1.toNat (λx=>(qA.mk x.kind x.at_ x.first x.second x.stands x.rect x.leaf x.planned true x.board))).getD a1.toNat du).at_) (Box.mk (Span.mk a2.X.A (w64 (a2.X.A+(w64 ((((((updL (updL a15 a1.toNat (λx=>(qA.mk x.kind x.at_ x.first x.second true x.rect x.leaf x.planned x.gives x.board))) a1.toNat (λx=>(qA.mk x.kind x.at_ x.first x.second x.stands a2 x.leaf x.planned x.gives x.board))).getD a1.toNat du).planned).X).B)-(((((updL (updL a15 a1.toNat (λx=>(qA.mk x.kind x.at_ x.first x.second true x.rect x.leaf x.planned x.gives x.board))) a1.toNat (λx=>(qA.mk x.kind x.at_ x.first x.second x.stands a2 x.leaf x.planned x.gives x.board))).getD a1.toNat du).planned).X).A)))))) (Span.mk a2.Y.A (w64 (a2.Y.A+(w64 ((((((updL (updL a15 a1.toNat (λx=>(qA.mk x.kind x.at_ x.first x.second true x.rect x.leaf x.planned x.gives x.board))) a1.toNat (λx=>(qA.mk x.kind x.at_ x.first x.second x.stands a2 x.leaf x.planned x.gives x.board))).getD a1.toNat du).planned).Y).B)-(((((updL (updL a15 a1.toNat (λx=>(qA.mk x.kind x.at_ x.first x.second true x.rect x.leaf x.planned x.gives x.board))) a1.toNat (λx=>(qA.mk x.kind x.at_ x.first x.second x.stands a2 x.leaf x.planned x.gives x.board))).getD a1.toNat du).planned).Y).A)))))) v23.1) v23.2.1))))
 else none
def wA (a1:Int) (a2:Rect) (a3:List qG) (a4:List qJ) (a5:List Product) (a6:Int) (a7:Int) (a8:Int) (a9:Int) (a10:Int) (a11:Int) (a12:Int) (a13:Int) (a14:List Int) (a15:List qA) (a16:List Rect):Option (List qA):= bif inb a1 a15.length then bif (((updL (updL a15 a1.toNat (λx=>(qA.mk x.kind x.at_ x.first x.second true x.rect x.leaf x.planned x.gives x.board))) a1.toNat (λx=>(qA.mk x.kind x.at_ x.first x.second x.stands a2 x.leaf x.planned x.gives x.board))).getD a1.toNat du).kind) !=1 then some (updL (updL a15 a1.toNat (λx=>(qA.mk x.kind x.at_ x.first x.second true x.rect x.leaf x.planned x.gives x.board))) a1.toNat (λx=>(qA.mk x.kind x.at_ x.first x.second x.stands a2 x.leaf x.planned x.gives x.board)))
 else bif decide ((w64 (a2.X.B-a2.X.A))<(w64 ((((((updL (updL a15 a1.toNat (λx=>(qA.mk x.kind x.at_ x.first x.second true x.rect x.leaf x.planned x.gives x.board))) a1.toNat (λx=>(qA.mk x.kind x.at_ x.first x.second x.stands a2 x.leaf x.planned x.gives x.board))).getD a1.toNat du).planned).X).B)-(((((updL (updL a15 a1.toNat (λx=>(qA.mk x.kind x.at_ x.first x.second true x.rect x.leaf x.planned x.gives x.board))) a1.toNat (λx=>(qA.mk x.kind x.at_ x.first x.second x.stands a2 x.leaf x.planned x.gives x.board))).getD a1.toNat du).planned).X).A)))) then WO a1 a2 a3 a4 a5 a9 a12 a15 true else WO a1 a2 a3 a4 a5 a9 a12 a15 (decide ((w64 (a2.Y.B-a2.Y.A))<(w64 ((((((updL (updL a15 a1.toNat (λx=>(qA.mk x.kind x.at_ x.first x.second true x.rect x.leaf x.planned x.gives x.board))) a1.toNat (λx=>(qA.mk x.kind x.at_ x.first x.second x.stands a2 x.leaf x.planned x.gives x.board))).getD a1.toNat du).planned).Y).B)-(((((updL (updL a15 a1.toNat (λx=>(qA.mk x.kind x.at_ x.first x.second true x.rect x.leaf x.planned x.gives x.board))) a1.toNat (λx=>(qA.mk x.kind x.at_ x.first x.second x.stands a2 x.leaf x.planned x.gives x.board))).getD a1.toNat du).planned).Y).A)))))
 else none
def PM (a1:Int) (a2:List qG) (a3:List qJ) (a4:List Product) (a5:Int) (a6:Int) (a7:Int) (a8:Int) (a9:Int) (a10:Int) (a11:Int) (a12:Int) (a13:List Int) (a14:List qA) (a15:List Rect) (x21:Bool):Option (Int×(List Int)×(List qA)×(List Rect)):= bif x21 then some (9,a13,a14,a15) else bif slOk 1 (a13.length:Int) a13.length then bif room (a15.length+1) 32 then (wA ((a14.getD ((a13.getD (0:Int).toNat du).toNat) du).first) (Rect.mk (((a14.getD ((a13.getD (0:Int).toNat du).toNat) du).rect).X) (Span.mk ((((a14.getD ((a13.getD (0:Int).toNat du).toNat) du).rect).Y).A) (w64 (((a14.getD ((a13.getD (0:Int).toNat du).toNat) du).at_)+a1)))) a2 a3 a4 a5 a6 a7 a8 a9 a10 a11 a12 (a13.drop ((1:Int).toNat)) a14 (a15++[(Rect.mk (((a14.getD ((a13.getD (0:Int).toNat du).toNat) du).rect).X) (Span.mk (w64 (((a14.getD ((a13.getD (0:Int).toNat du).toNat) du).at_)+a1)) (imin (w64 ((w64 (((a14.getD ((a13.getD (0:Int).toNat du).toNat) du).at_)+a1))+a5)) ((((a14.getD ((a13.getD (0:Int).toNat du).toNat) du).rect).Y).B))))])).bind λv25=>
 (wA ((a14.getD ((a13.getD (0:Int).toNat du).toNat) du).second) (Rect.mk (((a14.getD ((a13.getD (0:Int).toNat du).toNat) du).rect).X) (Span.mk (imin (w64 ((w64 (((a14.getD ((a13.getD (0:Int).toNat du).toNat) du).at_)+a1))+a5)) ((((a14.getD ((a13.getD (0:Int).toNat du).toNat) du).rect).Y).B)) ((((a14.getD ((a13.getD (0:Int).toNat du).toNat) du).rect).Y).B))) a2 a3 a4 a5 a6 a7 a8 a9 a10 a11 a12 (a13.drop ((1:Int).toNat)) v25 (a15++[(Rect.mk (((a14.getD ((a13.getD (0:Int).toNat du).toNat) du).rect).X) (Span.mk (w64 (((a14.getD ((a13.getD (0:Int).toNat du).toNat) du).at_)+a1)) (imin (w64 ((w64 (((a14.getD ((a13.getD (0:Int).toNat du).toNat) du).at_)+a1))+a5)) ((((a14.getD ((a13.getD (0:Int).toNat du).toNat) du).rect).Y).B))))])).bind λv27=>
 some (0,(a13.drop ((1:Int).toNat)),v27,(a15++[(Rect.mk (((a14.getD ((a13.getD (0:Int).toNat du).toNat) du).rect).X) (Span.mk (w64 (((a14.getD ((a13.getD (0:Int).toNat du).toNat) du).at_)+a1)) (imin (w64 ((w64 (((a14.getD ((a13.getD (0:Int).toNat du).toNat) du).at_)+a1))+a5)) ((((a14.getD ((a13.getD (0:Int).toNat du).toNat) du).rect).Y).B))))])) else none else none
def PO (a1:Int) (a2:List qG) (a3:List qJ) (a4:List Product) (a5:Int) (a6:Int) (a7:Int) (a8:Int) (a9:Int) (a10:Int) (a11:Int) (a12:Int) (a13:List Int) (a14:List qA) (a15:List Rect) (x30:Bool):Option (Int×(List Int)×(List qA)×(List Rect)):= bif x30 then some (9,a13,a14,a15) else bif slOk 1 (a13.length:Int) a13.length then bif room (a15.length+1) 32 then (wA ((a14.getD ((a13.getD (0:Int).toNat du).toNat) du).first) (Rect.mk (Span.mk ((((a14.getD ((a13.getD (0:Int).toNat du).toNat) du).rect).X).A) (w64 (((a14.getD ((a13.getD (0:Int).toNat du).toNat) du).at_)+a1))) (((a14.getD ((a13.getD (0:Int).toNat du).toNat) du).rect).Y)) a2 a3 a4 a5 a6 a7 a8 a9 a10 a11 a12 (a13.drop ((1:Int).toNat)) a14 (a15++[(Rect.mk (Span.mk (w64 (((a14.getD ((a13.getD (0:Int).toNat du).toNat) du).at_)+a1)) (imin (w64 ((w64 (((a14.getD ((a13.getD (0:Int).toNat du).toNat) du).at_)+a1))+a5)) ((((a14.getD ((a13.getD (0:Int).toNat du).toNat) du).rect).X).B))) (((a14.getD ((a13.getD (0:Int).toNat du).toNat) du).rect).Y))])).bind λv34=>
 (wA ((a14.getD ((a13.getD (0:Int).toNat du).toNat) du).second) (Rect.mk (Span.mk (imin (w64 ((w64 (((a14.getD ((a13.getD (0:Int).toNat du).toNat) du).at_)+a1))+a5)) ((((a14.getD ((a13.getD (0:Int).toNat du).toNat) du).rect).X).B)) ((((a14.getD ((a13.getD (0:Int).toNat du).toNat) du).rect).X).B)) (((a14.getD ((a13.getD (0:Int).toNat du).toNat) du).rect).Y)) a2 a3 a4 a5 a6 a7 a8 a9 a10 a11 a12 (a13.drop ((1:Int).toNat)) v34 (a15++[(Rect.mk (Span.mk (w64 (((a14.getD ((a13.getD (0:Int).toNat du).toNat) du).at_)+a1)) (imin (w64 ((w64 (((a14.getD ((a13.getD (0:Int).toNat du).toNat) du).at_)+a1))+a5)) ((((a14.getD ((a13.getD (0:Int).toNat du).toNat) du).rect).X).B))) (((a14.getD ((a13.getD (0:Int).toNat du).toNat) du).rect).Y))])).bind λv36=>
 some (0,(a13.drop ((1:Int).toNat)),v36,(a15++[(Rect.mk (Span.mk (w64 (((a14.getD ((a13.getD (0:Int).toNat du).toNat) du).at_)+a1)) (imin (w64 ((w64 (((a14.getD ((a13.getD (0:Int).toNat du).toNat) du).at_)+a1))+a5)) ((((a14.getD ((a13.getD (0:Int).toNat du).toNat) du).rect).X).B))) (((a14.getD ((a13.getD (0:Int).toNat du).toNat) du).rect).Y))])) else none else none
def wL (a1:Int) (a2:List qG) (a3:List qJ) (a4:List Product) (a5:Int) (a6:Int) (a7:Int) (a8:Int) (a9:Int) (a10:Int) (a11:Int) (a12:Int) (a13:List Int) (a14:List qA) (a15:List Rect):Option (Int×(List Int)×(List qA)×(List Rect)):= bif (a13.length:Int)==0 then some (18,a13,a14,a15) else bif inb 0 a13.length then bif inb (a13.getD (0:Int).toNat du) a14.length then bif ((a14.getD ((a13.getD (0:Int).toNat du).toNat) du).kind)==3 then bif decide (a1<=(w64 (((((a14.getD ((a13.getD (0:Int).toNat du).toNat) du).rect).Y).A)-((a14.getD ((a13.getD (0:Int).toNat du).toNat) du).at_)))) then PM a1 a2 a3 a4 a5 a6 a7 a8 a9 a10 a11 a12 a13 a14 a15 true else PM a1 a2 a3 a4 a5 a6 a7 a8 a9 a10 a11 a12 a13 a14 a15 (decide (a1≥(w64 (((((a14.getD ((a13.getD (0:Int).toNat du).toNat) du).rect).Y).B)-((a14.getD ((a13.getD (0:Int).toNat du).toNat) du).at_)))))
 else bif decide (a1<=(w64 (((((a14.getD ((a13.getD (0:Int).toNat du).toNat) du).rect).X).A)-((a14.getD ((a13.getD (0:Int).toNat du).toNat) du).at_)))) then PO a1 a2 a3 a4 a5 a6 a7 a8 a9 a10 a11 a12 a13 a14 a15 true else PO a1 a2 a3 a4 a5 a6 a7 a8 a9 a10 a11 a12 a13 a14 a15 (decide (a1≥(w64 (((((a14.getD ((a13.getD (0:Int).toNat du).toNat) du).rect).X).B)-((a14.getD ((a13.getD (0:Int).toNat du).toNat) du).at_))))) else none else none
def VU (a1:List qG) (a2:List qJ) (a3:List Product) (a4:Int) (a5:Int) (a6:Int) (a7:Int) (a8:Int) (a9:Int) (a10:Int) (a11:Int) (a12:List Int) (a13:List qA) (a14:List Rect):Option (Int×(List Int)):= bif (a12.length:Int)==0 then some (18,a12) else some (0,[])
def NQ :Option Bool:= some false
def NN :Option Bool:= some false
def NT :Option Bool:= some false
def NW (x74:Bool):Option Bool:= some x74
def JT (v22:zB×Int) (x61:Bool):Option Bool:= bif x61 then some false else (wL (-3) v22.1.solid v22.1.defects v22.1.catalog v22.1.saw.Kerf v22.1.saw.Trim v22.1.saw.Pitch v22.1.saw.Step v22.1.rates.Chip v22.1.rates.Dust v22.1.rates.Fine v22.1.length v22.1.rips v22.1.nodes v22.1.sawn).bind λv63=> bif v63.1 !=0 then some false else (jE v22.1.solid v22.1.defects v22.1.catalog v22.1.saw.Kerf v22.1.saw.Trim v22.1.saw.Pitch v22.1.saw.Step v22.1.rates.Chip v22.1.rates.Dust v22.1.rates.Fine v22.1.length v63.2.1 v63.2.2.1 v63.2.2.2).bind λv66=> (wW v22.1.solid v22.1.defects v22.1.catalog v22.1.saw.Kerf v22.1.saw.Trim v22.1.saw.Pitch v22.1.saw.Step v22.1.rates.Chip v22.1.rates.Dust v22.1.rates.Fine v22.1.length v63.2.1 v63.2.2.1 v63.2.2.2).bind λv68=>
 bif (v68.length:Int)==0 then bif v66.1.Dust==1260000 then (VU v22.1.solid v22.1.defects v22.1.catalog v22.1.saw.Kerf v22.1.saw.Trim v22.1.saw.Pitch v22.1.saw.Step v22.1.rates.Chip v22.1.rates.Dust v22.1.rates.Fine v22.1.length v63.2.1 v63.2.2.1 v63.2.2.2).bind λv72=> NW (v72.1==18) else NW false else NW false
def JP (v6:zB×Int) (v22:zB×Int) (x44:Bool) (l45:List qA) (l46:List Int) (l47:List Rect):Option Bool:= bif x44 then some false else (jE v6.1.solid v6.1.defects v6.1.catalog v6.1.saw.Kerf v6.1.saw.Trim v6.1.saw.Pitch v6.1.saw.Step v6.1.rates.Chip v6.1.rates.Dust v6.1.rates.Fine v6.1.length l46 l45 l47).bind λv49=> (wW v6.1.solid v6.1.defects v6.1.catalog v6.1.saw.Kerf v6.1.saw.Trim v6.1.saw.Pitch v6.1.saw.Step v6.1.rates.Chip v6.1.rates.Dust v6.1.rates.Fine v6.1.length l46 l45 l47).bind λv51=> bif (v51.length:Int) !=1 then JT v22 true else bif inb 0 v51.length then bif ((((v51.getD ((0:Int).toNat) du).Box).Z).B) !=2000 then JT v22 true else bif v49.2 !=0 then JT v22 true else bif v49.1.Dust !=1282050 then
 JT v22 true else bif v49.1.Chips !=109897950 then JT v22 true else (jY v6.1.solid v6.1.defects v6.1.catalog v6.1.saw.Kerf v6.1.saw.Trim v6.1.saw.Pitch v6.1.saw.Step v6.1.rates.Chip v6.1.rates.Dust v6.1.rates.Fine v6.1.length l46 l45 l47).bind λv59=> JT v22 ((v59.length:Int) !=0) else none
def NI (v6:zB×Int) (v22:zB×Int) (x27:Bool):Option Bool:= bif x27 then some false else (jE v6.1.solid v6.1.defects v6.1.catalog v6.1.saw.Kerf v6.1.saw.Trim v6.1.saw.Pitch v6.1.saw.Step v6.1.rates.Chip v6.1.rates.Dust v6.1.rates.Fine v6.1.length v6.1.rips v6.1.nodes v6.1.sawn).bind λv29=> (XO v6.1.solid v6.1.defects v6.1.catalog v6.1.saw.Kerf v6.1.saw.Trim v6.1.saw.Pitch v6.1.saw.Step v6.1.rates.Chip v6.1.rates.Dust v6.1.rates.Fine v6.1.length v6.1.rips v6.1.nodes v6.1.sawn).bind λv31=> bif v31 !=1 then JP v6 v22 true v6.1.nodes v6.1.rips v6.1.sawn else bif v29.2 !=28350000 then JP v6 v22 true v6.1.nodes v6.1.rips v6.1.sawn else bif v29.1.Chips !=91650000 then JP v6 v22 true v6.1.nodes v6.1.rips v6.1.sawn
 else (wL 48 v6.1.solid v6.1.defects v6.1.catalog v6.1.saw.Kerf v6.1.saw.Trim v6.1.saw.Pitch v6.1.saw.Step v6.1.rates.Chip v6.1.rates.Dust v6.1.rates.Fine v6.1.length v6.1.rips v6.1.nodes v6.1.sawn).bind λv36=> bif v36.1 !=9 then JP v6 v22 true v36.2.2.1 v36.2.1 v36.2.2.2 else (wL 0 v6.1.solid v6.1.defects v6.1.catalog v6.1.saw.Kerf v6.1.saw.Trim v6.1.saw.Pitch v6.1.saw.Step v6.1.rates.Chip v6.1.rates.Dust v6.1.rates.Fine v6.1.length v36.2.1 v36.2.2.1 v36.2.2.2).bind λv39=> bif v39.1 !=0 then JP v6 v22 true v39.2.2.1 v39.2.1 v39.2.2.2 else (wL 0 v6.1.solid v6.1.defects v6.1.catalog v6.1.saw.Kerf v6.1.saw.Trim v6.1.saw.Pitch v6.1.saw.Step v6.1.rates.Chip v6.1.rates.Dust v6.1.rates.Fine v6.1.length v39.2.1 v39.2.2.1 v39.2.2.2).bind λv42=>
 JP v6 v22 (v42.1 !=18) v42.2.2.1 v42.2.1 v42.2.2.2
def TG :Option Bool:= (DR).bind λv1=> (YF v1).bind λv3=> Sum.elim (λv5=> (DR).bind λv7=> (YF v7).bind λv9=> Sum.elim (λv11=> bif v5 !=0 then NQ else bif v11 !=0 then NQ else NQ) (λv12=> bif v5 !=0 then NN else bif v12.2 !=0 then NN else NN) v9) (λv6=> (DR).bind λv17=> (YF v17).bind λv19=> Sum.elim (λv21=> bif v6.2 !=0 then NT else bif v21 !=0 then NT else NT) (λv22=> bif v6.2 !=0 then NI v6 v22 true else bif v22.2 !=0 then NI v6 v22 true else NI v6 v22 false) v19) v3
def GQ (a1:List qG) (a2:List qJ) (a3:List Product) (a4:Pattern) (a5:Saw) (a6:Rates):Option Int:= (KB a1).bind λv7=> bif v7 !=0 then some v7 else (PB a2).bind λv10=> bif v10 !=0 then some v10 else (XK a3).bind λv13=> bif v13 !=0 then some v13 else (GP a5 a6).bind λv16=> bif v16 !=0 then some v16 else (PW a4 a3 a5.Kerf).bind λv19=> some v19
def TS (a1:List Leaf):Option (List Leaf):= some a1
def RM (a1:Rect) (a2:Span):Option Box:= some (Box.mk a1.X a1.Y a2)
def TA (a1:Int) (a2:Leaf) (a3:List qG) (a4:List qJ) (a5:List Product) (a6:Saw) (a7:Int) (a8:List qI):Option (Nat×(List qI)):= bif inb a2.Product a5.length then (VX a3 a4 (a5.getD a2.Product.toNat du) a2.Rect a6.Step a7).bind λv10=> bif v10.2.2 then (RM a2.Rect v10.1).bind λv13=> bif room (a8.length+1) 72 then some (0,(a8++[(qI.mk a1 a2.Product v13 v10.2.1)])) else none else some (0,a8) else none
def YL (x8:Int) (R:Int->(List qI)->Option ((Nat×(List qI))⊕(List qI))) (l16:List qI):Option ((Nat×(List qI))⊕(List qI)):= R (w64 (x8+1)) l16
def zX (a1:List qG) (a2:List qJ) (a3:List Product) (a4:Saw) (a5:Int) (a6:List Leaf):Nat->Int->(List qI)->Option ((Nat×(List qI))⊕(List qI))
 |0,_,_=>none
 |n+1,x8,l9=> bif decide (x8<(a6.length:Int)) then bif inb x8 a6.length then bif ((a6.getD x8.toNat du).Product) !=(-1) then (TA x8 (a6.getD x8.toNat du) a1 a2 a3 a4 a5 l9).bind λv13=> bif !(Nat.beq v13.1 0) then some (Sum.inl (v13.1,v13.2)) else YL x8 (zX a1 a2 a3 a4 a5 a6 n) v13.2 else YL x8 (zX a1 a2 a3 a4 a5 a6 n) l9 else none else some (Sum.inr l9)
def JL (a1:List qG) (a2:List qJ) (a3:List Product) (a4:Saw) (a5:Int) (a6:List Leaf) (a7:List qI):Option (Nat×(List qI)):= (zX a1 a2 a3 a4 a5 a6 FUEL 0 a7).bind λu20=>Sum.elim (λv21=>some v21) (λo18=> some (0,o18)) u20
def UQ (a1:List qG) (a2:List qJ) (a3:List Product) (a4:Pattern) (a5:Saw) (a6:Int):Option ((List qI)×Int):= (GQ a1 a2 a3 a4 a5 (Rates.mk 0 0 a6)).bind λv7=> bif v7 !=0 then some ([],v7) else (KK a4 a5.Kerf).bind λv10=> bif v10.2 !=0 then some ([],v10.2) else (TS v10.1).bind λv13=> (JL a1 a2 a3 a5 a6 v13 []).bind λv15=> bif Nat.beq v15.1 0 then some (v15.2,0) else none
def QG (a1:Int) (a2:qB) (a3:Pattern) (a4:Int) (a5:List Rect):Option (Nat×(List Rect)):= bif inb a1 a3.Nodes.length then (yQ ((a3.Nodes.getD a1.toNat du).Kind)).bind λv7=> bif v7 then (QK a2.rect (a3.Nodes.getD a1.toNat du) a4).bind λv10=> bif room (a5.length+1) 32 then some (0,(a5++[v10.2.1])) else none else some (0,a5) else none
def YI (x7:Int) (R:(List qB)->Int->(List Rect)->Option ((Nat×(List Rect))⊕(List Rect))) (l23:List qB) (l24:List Rect):Option ((Nat×(List Rect))⊕(List Rect)):= R l23 (w64 (x7+1)) l24
def jF (a1:Pattern) (a2:Int) (a3:Pattern) (a4:Int):Nat->(List qB)->Int->(List Rect)->Option ((Nat×(List Rect))⊕(List Rect))
 |0,_,_,_=>none
 |n+1,l6,x7,l8=> bif decide ((l6.length:Int)>0) then bif inb (w64 ((l6.length:Int)-1)) l6.length then bif slOk 0 (w64 ((l6.length:Int)-1)) l6.length then (QG x7 (l6.getD ((w64 ((l6.length:Int)-1)).toNat) du) a1 a2 l8).bind λv12=> bif !(Nat.beq v12.1 0) then some (Sum.inl (v12.1,v12.2)) else bif decide (x7≥(a3.Nodes.length:Int)) then some (Sum.inl (0,v12.2)) else bif inb x7 a3.Nodes.length then (yQ ((a3.Nodes.getD x7.toNat du).Kind)).bind λv17=> bif v17 then (QK ((l6.getD ((w64 ((l6.length:Int)-1)).toNat) du).rect) (a3.Nodes.getD x7.toNat du) a4).bind λv20=> bif room ((w64 ((l6.length:Int)-1)).toNat+2) 40 then YI x7 (jF a1 a2 a3 a4 n) ((l6.take ((w64 ((l6.length:Int)-1)).toNat))++[(qB.mk v20.2.2 (w64 (((l6.getD ((w64 ((l6.length:Int)-1)).toNat) du).level)+1))),(qB.mk v20.1 (w64 (((l6.getD ((w64 ((l6.length:Int)-1)).toNat) du).level)+1)))]) v12.2
 else none else YI x7 (jF a1 a2 a3 a4 n) (l6.take ((w64 ((l6.length:Int)-1)).toNat)) v12.2 else none else none else none else some (Sum.inr l8)
def JM (a1:Pattern) (a2:Int) (a3:Pattern) (a4:Int) (a5:List Rect):Option (Nat×(List Rect)):= (jF a1 a2 a3 a4 FUEL [(qB.mk a3.Frame 1)] 0 a5).bind λu28=>Sum.elim (λv29=>some v29) (λo26=> some (0,o26)) u28
def BI (a1:Pattern) (a2:Int):Option ((List Rect)×Int):= (YB a1 a2).bind λv3=> bif v3 !=0 then some ([],v3) else (yT a1 a2).bind λv6=> (JM a1 a2 v6.1 v6.2 []).bind λv8=> bif Nat.beq v8.1 0 then some (v8.2,0) else none
def TN (a1:List qG) (v13:(List Rect)×Int) (v16:Int) (v18:Int):Nat->Int->Int->Option zM
 |0,_,_=>none
 |n+1,x20,x21=> bif decide (x20<(v13.1.length:Int)) then bif inb x20 v13.1.length then (RM (v13.1.getD x20.toNat du) (Span.mk 0 v16)).bind λv24=> (WM a1 v24).bind λv26=> (TN a1 v13 v16 v18 n) (w64 (x20+1)) (w64 (x21+v26)) else none else some (zM.mk v18 0 0 x21 0)
def TH (a1:List qG) (a5:Saw) (v10:(List qI)×Int) (v16:Int) (o29:zM):Nat->Int->Int->Int->Int->Option zM
 |0,_,_,_,_=>none
 |n+1,x31,x32,x33,x34=> bif decide (x31<(v10.1.length:Int)) then bif inb x31 v10.1.length then (WM a1 ((v10.1.getD x31.toNat du).Box)).bind λv37=> (RM (Rect.mk (((v10.1.getD x31.toNat du).Box).X) (((v10.1.getD x31.toNat du).Box).Y)) (Span.mk (imax 0 (w64 (((((v10.1.getD x31.toNat du).Box).Z).A)-a5.Trim))) ((((v10.1.getD x31.toNat du).Box).Z).A))).bind λv39=> (WM a1 v39).bind λv41=> (RM (Rect.mk (((v10.1.getD x31.toNat du).Box).X) (((v10.1.getD x31.toNat du).Box).Y)) (Span.mk ((((v10.1.getD x31.toNat du).Box).Z).B) (imin (w64 (((((v10.1.getD x31.toNat du).Box).Z).B)+a5.Trim)) v16))).bind λv43=> (WM a1 v43).bind λv45=> (TH a1 a5 v10 v16 o29 n) (w64 (x31+1)) (w64 (x32+v37)) (w64 ((w64 (x33+v41))+v45)) (w64 (x34+(w64 (1000000*((v10.1.getD x31.toNat du).Worth)))))
 else none else some (zM.mk o29.Log x32 o29.Chips x33 x34)
def BN (a1:List qG) (a2:List qJ) (a3:List Product) (a4:Pattern) (a5:Saw) (a6:Rates):Option (zM×Int):= (GQ a1 a2 a3 a4 a5 a6).bind λv7=> bif v7 !=0 then some ((zM.mk 0 0 0 0 0),v7) else (UQ a1 a2 a3 a4 a5 a6.Fine).bind λv10=> bif v10.2 !=0 then some ((zM.mk 0 0 0 0 0),v10.2) else (BI a4 a5.Kerf).bind λv13=> bif v13.2 !=0 then some ((zM.mk 0 0 0 0 0),v13.2) else (KZ a1).bind λv16=> (TU a1).bind λv18=> (TN a1 v13 v16 v18 FUEL 0 0).bind λo29=> (TH a1 a5 v10 v16 o29 FUEL 0 o29.Boards o29.Dust o29.Value).bind λo48=> some ((zM.mk o48.Log o48.Boards (w64 ((w64 (o48.Log-o48.Boards))-o48.Dust)) o48.Dust (w64 (o48.Value+(w64 ((w64 (a6.Chip*(w64 ((w64 (o48.Log-o48.Boards))-o48.Dust))))+(w64 (a6.Dust*o48.Dust))))))),0)
def KL (a1:List qI):Nat->(List zH)->Int->Option (List zH)
 |0,_,_=>none
 |n+1,l2,x3=> bif decide (x3<(a1.length:Int)) then bif inb x3 a1.length then bif room (l2.length+1) 72 then (KL a1 n) (l2++[(zH.mk ((a1.getD x3.toNat du).Leaf) ((a1.getD x3.toNat du).Product) ((a1.getD x3.toNat du).Box) ((a1.getD x3.toNat du).Worth))]) (w64 (x3+1)) else none else none else some l2
def GV (a1:List qI):Option (List zH):= (KL a1 FUEL [] 0).bind λo8=> some o8
def QL (a1:List zH) (a2:List zH):Nat->Int->Option (Bool⊕Unit)
 |0,_=>none
 |n+1,x4=> bif decide (x4<(a1.length:Int)) then bif inb x4 a1.length then bif inb x4 a2.length then bif !((((a1.getD x4.toNat du).Leaf)==((a2.getD x4.toNat du).Leaf))&&((((a1.getD x4.toNat du).Product)==((a2.getD x4.toNat du).Product))&&((((((((a1.getD x4.toNat du).Box).X).A)==((((a2.getD x4.toNat du).Box).X).A))&&((((((a1.getD x4.toNat du).Box).X).B)==((((a2.getD x4.toNat du).Box).X).B))&&true))&&(((((((a1.getD x4.toNat du).Box).Y).A)==((((a2.getD x4.toNat du).Box).Y).A))&&((((((a1.getD x4.toNat du).Box).Y).B)==((((a2.getD x4.toNat du).Box).Y).B))&&true))&&(((((((a1.getD x4.toNat du).Box).Z).A)==((((a2.getD x4.toNat du).Box).Z).A))&&((((((a1.getD x4.toNat du).Box).Z).B)==((((a2.getD x4.toNat du).Box).Z).B))&&true))&&true)))&&((((a1.getD x4.toNat du).Worth)==((a2.getD x4.toNat du).Worth))&&true)))) then
 some (Sum.inl false) else (QL a1 a2 n) (w64 (x4+1)) else none else none else some (Sum.inr ())
def HI (a1:List zH) (a2:List zH):Option Bool:= bif (a1.length:Int) !=(a2.length:Int) then some false else (QL a1 a2 FUEL 0).bind λu11=>Sum.elim (λv12=>some v12) (λo9=> some true) u11
def QV (x19:Bool):Option Bool:= some x19
def QX (v9:Int) (v11:zM×Int):Option Bool:= bif v9==v11.2 then bif (v9==0)==false then (TG).bind λv17=> QV v17 else QV false else QV false
def JH (x30:Bool):Option Bool:= some x30
def JC (v10:zB×Int) (x31:Int) (l32:List qA) (l33:List Int) (l34:List Rect) (R:Int->(List qA)->(List Int)->(List Rect)->Option (Bool⊕((List qA)×(List Int)×(List Rect)))) (x38:Bool):Option (Bool⊕((List qA)×(List Int)×(List Rect))):= bif x38 then (wL 0 v10.1.solid v10.1.defects v10.1.catalog v10.1.saw.Kerf v10.1.saw.Trim v10.1.saw.Pitch v10.1.saw.Step v10.1.rates.Chip v10.1.rates.Dust v10.1.rates.Fine v10.1.length l33 l32 l34).bind λv40=> bif v40.1 !=0 then some (Sum.inl false) else R (w64 (x31+1)) v40.2.2.1 v40.2.1 v40.2.2.2 else some (Sum.inr (l32,l33,l34))
def wB (v10:zB×Int):Nat->Int->(List qA)->(List Int)->(List Rect)->Option (Bool⊕((List qA)×(List Int)×(List Rect)))
 |0,_,_,_,_=>none
 |n+1,x31,l32,l33,l34=> bif decide (x31<127) then (XO v10.1.solid v10.1.defects v10.1.catalog v10.1.saw.Kerf v10.1.saw.Trim v10.1.saw.Pitch v10.1.saw.Step v10.1.rates.Chip v10.1.rates.Dust v10.1.rates.Fine v10.1.length l33 l32 l34).bind λv36=> JC v10 x31 l32 l33 l34 (wB v10 n) (decide (v36>0)) else JC v10 x31 l32 l33 l34 (wB v10 n) false
def wN (x74:Bool):Option Bool:= some x74
def QW (a1:qQ) (v10:zB×Int) (v20:zM×Int) (x24:Bool):Option Bool:= bif x24 then bif v10.2==v20.2 then bif (v10.2==0)==true then (TG).bind λv28=> JH v28 else JH false else JH false else (wB v10 FUEL 0 v10.1.nodes v10.1.rips v10.1.sawn).bind λu48=>Sum.elim (λv49=>some v49) (λo46=> (UQ a1.Solid a1.Defects a1.Products a1.Pattern a1.Saw a1.Rates.Fine).bind λv50=> (jE v10.1.solid v10.1.defects v10.1.catalog v10.1.saw.Kerf v10.1.saw.Trim v10.1.saw.Pitch v10.1.saw.Step v10.1.rates.Chip v10.1.rates.Dust v10.1.rates.Fine v10.1.length o46.2.1 o46.1 o46.2.2).bind λv52=> bif v50.2==0 then (wW v10.1.solid v10.1.defects v10.1.catalog v10.1.saw.Kerf v10.1.saw.Trim v10.1.saw.Pitch v10.1.saw.Step v10.1.rates.Chip v10.1.rates.Dust v10.1.rates.Fine v10.1.length o46.2.1 o46.1 o46.2.2).bind λv55=>
 (GV v55).bind λv57=> (GV v50.1).bind λv59=> (HI v57 v59).bind λv61=> bif v61 then bif ((v52.1.Log==v20.1.Log)&&((v52.1.Boards==v20.1.Boards)&&((v52.1.Chips==v20.1.Chips)&&((v52.1.Dust==v20.1.Dust)&&((v52.1.Value==v20.1.Value)&&true))))) then bif v52.2==0 then (jY v10.1.solid v10.1.defects v10.1.catalog v10.1.saw.Kerf v10.1.saw.Trim v10.1.saw.Pitch v10.1.saw.Step v10.1.rates.Chip v10.1.rates.Dust v10.1.rates.Fine v10.1.length o46.2.1 o46.1 o46.2.2).bind λv66=> bif (v66.length:Int)==0 then (wL 0 v10.1.solid v10.1.defects v10.1.catalog v10.1.saw.Kerf v10.1.saw.Trim v10.1.saw.Pitch v10.1.saw.Step v10.1.rates.Chip v10.1.rates.Dust v10.1.rates.Fine v10.1.length o46.2.1 o46.1 o46.2.2).bind λv69=> bif v69.1==18 then
 (TG).bind λv72=> wN v72 else wN false else wN false else wN false else wN false else wN false else wN false) u48
def XV (a1:qQ):Option Bool:= (LC a1).bind λv2=> bif !v2 then (TG).bind λv5=> some v5 else (YF a1).bind λv7=> Sum.elim (λv9=> (BN a1.Solid a1.Defects a1.Products a1.Pattern a1.Saw a1.Rates).bind λv11=> bif v9 !=v11.2 then QX v9 v11 else bif v9 !=0 then QX v9 v11 else QX v9 v11) (λv10=> (BN a1.Solid a1.Defects a1.Products a1.Pattern a1.Saw a1.Rates).bind λv20=> bif v10.2 !=v20.2 then QW a1 v10 v20 true else bif v10.2 !=0 then QW a1 v10 v20 true else QW a1 v10 v20 false) v7
end Saw
end Go.SL

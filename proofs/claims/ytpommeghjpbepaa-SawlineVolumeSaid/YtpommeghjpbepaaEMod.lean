import Derived.Test.YtpommeghjpbepaaYa6
set_option linter.unusedVariables false
set_option linter.unusedSimpArgs false
namespace Go.SL
namespace Saw
structure Span where
 A:Int
 B:Int
instance : Inhabited Span:=⟨⟨0,0⟩⟩
def qP (r:Span):List C:=[ci r.A,ci r.B]
structure qQ where
 Low:Int
 Rows:List Span
instance : Inhabited qQ:=⟨⟨0,[]⟩⟩
def jN (r:qQ):List C:=[ci r.Low,tl qP du r.Rows]
structure qF where
 Len:Int
 Sec:qQ
instance : Inhabited qF:=⟨⟨0,du⟩⟩
def qG (r:qF):List C:=[ci r.Len,ci r.Sec.Low,tl qP du r.Sec.Rows]
structure Box where
 X:Span
 Y:Span
 Z:Span
instance : Inhabited Box:=⟨⟨du,du,du⟩⟩
def WI (r:Box):List C:=[ci r.X.A,ci r.X.B,ci r.Y.A,ci r.Y.B,ci r.Z.A,ci r.Z.B]
structure qH where
 Kind:Int
 Box:Box
instance : Inhabited qH:=⟨⟨0,du⟩⟩
def qE (r:qH):List C:=[ci r.Kind,ci r.Box.X.A,ci r.Box.X.B,ci r.Box.Y.A,ci r.Box.Y.B,ci r.Box.Z.A,ci r.Box.Z.B]
structure Product where
 Name:ByteArray
 Thick:Int
 Width:Int
 Allow:Int
 Wane:Int
 Lengths:List Int
 Prices:List Int
instance : Inhabited Product:=⟨⟨⟨#[]⟩,0,0,0,0,[],[]⟩⟩
def qD (r:Product):List C:=[cs r.Name,ci r.Thick,ci r.Width,ci r.Allow,ci r.Wane,tl qJ du r.Lengths,tl qJ du r.Prices]
structure Rect where
 X:Span
 Y:Span
instance : Inhabited Rect:=⟨⟨du,du⟩⟩
def qK (r:Rect):List C:=[ci r.X.A,ci r.X.B,ci r.Y.A,ci r.Y.B]
structure Node where
 Kind:Int
 At:Int
instance : Inhabited Node:=⟨⟨0,0⟩⟩
def jY (r:Node):List C:=[ci r.Kind,ci r.At]
structure Pattern where
 Frame:Rect
 Nodes:List Node
instance : Inhabited Pattern:=⟨⟨du,[]⟩⟩
def qO (r:Pattern):List C:=[ci r.Frame.X.A,ci r.Frame.X.B,ci r.Frame.Y.A,ci r.Frame.Y.B,tl jY du r.Nodes]
structure Saw where
 Kerf:Int
 Trim:Int
 Pitch:Int
 Step:Int
instance : Inhabited Saw:=⟨⟨0,0,0,0⟩⟩
def IQ (r:Saw):List C:=[ci r.Kerf,ci r.Trim,ci r.Pitch,ci r.Step]
structure Rates where
 Chip:Int
 Dust:Int
 Fine:Int
instance : Inhabited Rates:=⟨⟨0,0,0⟩⟩
def DT (r:Rates):List C:=[ci r.Chip,ci r.Dust,ci r.Fine]
structure qN where
 Solid:List qF
 Defects:List qH
 Products:List Product
 Pattern:Pattern
 Saw:Saw
 Rates:Rates
instance : Inhabited qN:=⟨⟨[],[],[],du,du,du⟩⟩
def qW (r:qN):List C:=[tl qG du r.Solid,tl qE du r.Defects,tl qD du r.Products,ci r.Pattern.Frame.X.A,ci r.Pattern.Frame.X.B,ci r.Pattern.Frame.Y.A,ci r.Pattern.Frame.Y.B,tl jY du r.Pattern.Nodes,ci r.Saw.Kerf,ci r.Saw.Trim,ci r.Saw.Pitch,ci r.Saw.Step,ci r.Rates.Chip,ci r.Rates.Dust,ci r.Rates.Fine]
structure zH where
 Shift:Int
 Stop:Bool
instance : Inhabited zH:=⟨⟨0,false⟩⟩
def XN (r:zH):List C:=[ci r.Shift,cb r.Stop]
structure qB where
 rect:Rect
 level:Int
instance : Inhabited qB:=⟨⟨du,0⟩⟩
def qL (r:qB):List C:=[ci r.rect.X.A,ci r.rect.X.B,ci r.rect.Y.A,ci r.rect.Y.B,ci r.level]
structure Leaf where
 Rect:Rect
 Product:Int
instance : Inhabited Leaf:=⟨⟨du,0⟩⟩
def zY (r:Leaf):List C:=[ci r.Rect.X.A,ci r.Rect.X.B,ci r.Rect.Y.A,ci r.Rect.Y.B,ci r.Product]
structure qM where
 Leaf:Int
 Product:Int
 Box:Box
 Worth:Int
instance : Inhabited qM:=⟨⟨0,0,du,0⟩⟩
def wK (r:qM):List C:=[ci r.Leaf,ci r.Product,ci r.Box.X.A,ci r.Box.X.B,ci r.Box.Y.A,ci r.Box.Y.B,ci r.Box.Z.A,ci r.Box.Z.B,ci r.Worth]
structure qA where
 kind:Int
 at_:Int
 first:Int
 second:Int
 stands:Bool
 rect:Rect
 leaf:Int
 planned:Rect
 gives:Bool
 board:qM
instance : Inhabited qA:=⟨⟨0,0,0,0,false,du,0,du,false,du⟩⟩
def qC (r:qA):List C:=[ci r.kind,ci r.at_,ci r.first,ci r.second,cb r.stands,ci r.rect.X.A,ci r.rect.X.B,ci r.rect.Y.A,ci r.rect.Y.B,ci r.leaf,ci r.planned.X.A,ci r.planned.X.B,ci r.planned.Y.A,ci r.planned.Y.B,cb r.gives,ci r.board.Leaf,ci r.board.Product,ci r.board.Box.X.A,ci r.board.Box.X.B,ci r.board.Box.Y.A,ci r.board.Box.Y.B,ci r.board.Box.Z.A,ci r.board.Box.Z.B,ci r.board.Worth]
structure qR where
 z:Span
 lack:Int
instance : Inhabited qR:=⟨⟨du,0⟩⟩
def zB (r:qR):List C:=[ci r.z.A,ci r.z.B,ci r.lack]
structure qT where
 product:Product
 rect:Rect
 length:Int
 zones:List qR
 defects:List qH
instance : Inhabited qT:=⟨⟨du,du,0,[],[]⟩⟩
def GX (r:qT):List C:=[cs r.product.Name,ci r.product.Thick,ci r.product.Width,ci r.product.Allow,ci r.product.Wane,tl qJ du r.product.Lengths,tl qJ du r.product.Prices,ci r.rect.X.A,ci r.rect.X.B,ci r.rect.Y.A,ci r.rect.Y.B,ci r.length,tl zB du r.zones,tl qE du r.defects]
structure qS where
 solid:List qF
 defects:List qH
 catalog:List Product
 saw:Saw
 rates:Rates
 length:Int
 nodes:List qA
 rips:List Int
 sawn:List Rect
instance : Inhabited qS:=⟨⟨[],[],[],du,du,0,[],[],[]⟩⟩
structure yA where
 Log:Int
 Boards:Int
 Chips:Int
 Dust:Int
 Value:Int
instance : Inhabited yA:=⟨⟨0,0,0,0,0⟩⟩
def VA (r:yA):List C:=[ci r.Log,ci r.Boards,ci r.Chips,ci r.Dust,ci r.Value]
structure jJ where
 kerf:Int
 length:Int
instance : Inhabited jJ:=⟨⟨0,0⟩⟩
def RD (r:jJ):List C:=[ci r.kerf,ci r.length]
structure qLj where
 Leaf:Int
 Product:Int
 Box:Box
 Worth:Int
instance : Inhabited qLj:=⟨⟨0,0,du,0⟩⟩
def globs :List (Nat×C):=[]
def UP (a1:qN) (x2:Int) (x3:Int) (R:Int->Int->Option Int) (x5:Bool):Option Int:= bif x5 then bif inb x3 a1.Solid.length then R (imin 20000 (w64 (x2+(imax 0 (imin 20000 ((a1.Solid.getD x3.toNat du).Len)))))) (w64 (x3+1)) else none else some x2
def WB (a1:qN):Nat->Int->Int->Option Int
 |0,_,_=>none
 |n+1,x2,x3=> bif decide (x3<(a1.Solid.length:Int)) then UP a1 x2 x3 (WB a1 n) (decide (x3<30)) else UP a1 x2 x3 (WB a1 n) false
def KT (a1:qN):Nat->Int->Int->Option Int
 |0,_,_=>none
 |n+1,x11,x12=> bif decide (x12<(a1.Products.length:Int)) then bif inb x12 a1.Products.length then (KT a1 n) (imax x11 (imin 10 ((((a1.Products.getD x12.toNat du).Lengths).length:Nat):Int))) (w64 (x12+1)) else none else some x11
def NS (a1:qN) (o16:Int) (x20:Int):Option Int:= some (w64 ((w64 ((w64 (x20*o16))*(w64 (1+(imin 30 (a1.Solid.length:Int))))))*(w64 (1+(imin 140 (a1.Pattern.Nodes.length:Int))))))
def DX (a1:qN):Option Int:= (WB a1 FUEL 0 0).bind λo9=> (KT a1 FUEL 1 0).bind λo16=> bif decide (a1.Saw.Step>0) then bif nz a1.Saw.Step then NS a1 o16 (w64 (1+(w64 (Int.tdiv o9 a1.Saw.Step)))) else none else NS a1 o16 1
def XJ (a1:qN):Nat->Int->Option (Bool⊕Unit)
 |0,_=>none
 |n+1,x10=> bif decide (x10<(a1.Solid.length:Int)) then bif inb x10 a1.Solid.length then bif decide ((((((a1.Solid.getD x10.toNat du).Sec).Rows).length:Nat):Int)>130) then some (Sum.inl false) else (XJ a1 n) (w64 (x10+1)) else none else some (Sum.inr ())
def RM (x18:Int) (R:Int->Option (Bool⊕Unit)) (x23:Bool):Option (Bool⊕Unit):= bif x23 then some (Sum.inl false) else R (w64 (x18+1))
def yV (a1:qN):Nat->Int->Option (Bool⊕Unit)
 |0,_=>none
 |n+1,x18=> bif decide (x18<(a1.Products.length:Int)) then bif inb x18 a1.Products.length then bif decide (((((a1.Products.getD x18.toNat du).Lengths).length:Nat):Int)>10) then RM x18 (yV a1 n) true else bif decide (((((a1.Products.getD x18.toNat du).Prices).length:Nat):Int)>10) then RM x18 (yV a1 n) true else RM x18 (yV a1 n) (decide (((((a1.Products.getD x18.toNat du).Name).size:Nat):Int)>100)) else none else some (Sum.inr ())
def QE (a1:qN) (x8:Bool):Option Bool:= bif x8 then some false else (XJ a1 FUEL 0).bind λu16=>Sum.elim (λv17=>some v17) (λo14=> (yV a1 FUEL 0).bind λu27=>Sum.elim (λv28=>some v28) (λo25=> some true) u27) u16
def NL (a1:qN):Option Bool:= bif decide ((a1.Solid.length:Int)>30) then QE a1 true else bif decide ((a1.Defects.length:Int)>70) then QE a1 true else bif decide ((a1.Products.length:Int)>20) then QE a1 true else bif decide ((a1.Pattern.Nodes.length:Int)>140) then QE a1 true else (DX a1).bind λv6=> QE a1 (decide (v6>200000))
def DM (x7:Bool):Option Bool:= some x7
def NI (a1:qN):Option Bool:= (NL a1).bind λv2=> bif v2 then (DX a1).bind λv5=> DM (decide (v5<=20000)) else DM false
def MH (a3:Int) (a4:Span):Nat->Int->(List Span)->Option (List Span)
 |0,_,_=>none
 |n+1,x5,l6=> bif decide (x5<a3) then bif room (l6.length+1) 16 then (MH a3 a4 n) (w64 (x5+1)) (l6++[a4]) else none else some l6
def CG (a1:Int) (a2:Int) (a3:Int) (a4:Span):Option (List qF):= (MH a3 a4 FUEL 0 []).bind λo10=> some ([(qF.mk a1 (qQ.mk a2 o10))]:List qF)
def CR :Option (List Product):= some ([(Product.mk (ByteArray.mk #[112,108,97,110,107]) 40 100 50 0 [2000] [70])]:List Product)
def GB :Option qN:= (CG 3000 (-10) 20 (Span.mk (-100) 100)).bind λv1=> (CR).bind λv3=> some (qN.mk v1 [] v3 (Pattern.mk (Rect.mk (Span.mk (-50) 55) (Span.mk 0 90)) [(Node.mk 3 42),(Node.mk 1 0),(Node.mk 0 0)]) (Saw.mk 4 5 1 500) (Rates.mk 0 0 0))
def PK (x3:Bool):Option Bool:= some x3
def PI (a1:Span):Option Bool:= bif decide ((imin a1.A a1.B)≥(-600)) then PK (decide ((imax a1.A a1.B)<=600)) else PK false
def JV (a1:Span):Option Bool:= some (decide (a1.A≥a1.B))
def QY (a1:qQ):Nat->Int->Option (Int⊕Unit)
 |0,_=>none
 |n+1,x6=> bif decide (x6<(a1.Rows.length:Int)) then bif inb x6 a1.Rows.length then (PI (a1.Rows.getD x6.toNat du)).bind λv9=> bif !v9 then some (Sum.inl 9) else (QY a1 n) (w64 (x6+1)) else none else some (Sum.inr ())
def UE (x27:Int) (R:Int->Option (Int⊕Unit)) (x33:Bool):Option (Int⊕Unit):= bif x33 then some (Sum.inl 19) else R (w64 (x27+1))
def jU (a1:qQ):Nat->Int->Option (Int⊕Unit)
 |0,_=>none
 |n+1,x27=> bif decide (x27<(a1.Rows.length:Int)) then bif inb x27 a1.Rows.length then (JV (a1.Rows.getD x27.toNat du)).bind λv30=> bif v30 then UE x27 (jU a1 n) (!((((a1.Rows.getD x27.toNat du).A)==0)&&((((a1.Rows.getD x27.toNat du).B)==0)&&true))) else UE x27 (jU a1 n) false else none else some (Sum.inr ())
def UJ (a1:qQ) (x25:Bool):Option Int:= bif x25 then some 19 else (jU a1 FUEL 0).bind λu37=>Sum.elim (λv38=>some v38) (λo35=> some 0) u37
def TZ (a1:qQ) (x4:Bool):Option Int:= bif x4 then some 9 else (QY a1 FUEL 0).bind λu14=>Sum.elim (λv15=>some v15) (λo12=> bif (a1.Rows.length:Int)==0 then bif a1.Low !=0 then some 19 else some 0 else bif inb 0 a1.Rows.length then (JV (a1.Rows.getD (0:Int).toNat du)).bind λv19=> bif v19 then UJ a1 true else bif inb (w64 ((a1.Rows.length:Int)-1)) a1.Rows.length then (JV (a1.Rows.getD (w64 ((a1.Rows.length:Int)-1)).toNat du)).bind λv23=> UJ a1 v23 else none else none) u14
def KZ (a1:qQ):Option Int:= bif decide ((a1.Rows.length:Int)>120) then some 4 else bif decide (a1.Low<(-60)) then TZ a1 true else TZ a1 (decide (a1.Low>(w64 (60-(a1.Rows.length:Int)))))
def DU (a1:List qF) (x4:Int) (x5:Int) (R:Int->Int->Option (Int⊕Unit)) (x13:Bool):Option (Int⊕Unit):= bif x13 then some (Sum.inl 9) else R (w64 (x4+((a1.getD x5.toNat du).Len))) (w64 (x5+1))
def yU (a1:List qF):Nat->Int->Int->Option (Int⊕Unit)
 |0,_,_=>none
 |n+1,x4,x5=> bif decide (x5<(a1.length:Int)) then bif inb x5 a1.length then (KZ ((a1.getD x5.toNat du).Sec)).bind λv8=> bif v8 !=0 then some (Sum.inl v8) else bif (((((a1.getD x5.toNat du).Sec).Rows).length:Nat):Int)==0 then some (Sum.inl 18) else bif decide (((a1.getD x5.toNat du).Len)<1) then DU a1 x4 x5 (yU a1 n) true else DU a1 x4 x5 (yU a1 n) (decide (((a1.getD x5.toNat du).Len)>(w64 (20000-x4)))) else none else some (Sum.inr ())
def YZ (a1:List qF):Option Int:= bif (a1.length:Int)==0 then some 3 else bif decide ((a1.length:Int)>24) then some 4 else (yU a1 FUEL 0 0).bind λu17=>Sum.elim (λv18=>some v18) (λo15=> some 0) u17
def yT (a1:Span):Option Bool:= some (decide (a1.A≥a1.B))
def UC (x5:Bool):Option Bool:= some x5
def YJ (a1:Span) (a2:Int) (a3:Int):Option Bool:= bif decide ((imin a1.A a1.B)≥a2) then UC (decide ((imax a1.A a1.B)<=a3)) else UC false
def PJ (x23:Bool):Option Int:= bif x23 then some 9 else some 0
def PB (a1:qH) (x13:Bool):Option Int:= bif x13 then some 19 else (YJ a1.Box.X (-600) 600).bind λv15=> bif !v15 then PJ true else (YJ a1.Box.Y (-600) 600).bind λv18=> bif !v18 then PJ true else (YJ a1.Box.Z 0 20000).bind λv21=> PJ (!v21)
def VM (a1:qH) (x3:Bool):Option Int:= bif x3 then some 10 else (yT a1.Box.X).bind λv5=> bif v5 then PB a1 true else (yT a1.Box.Y).bind λv8=> bif v8 then PB a1 true else (yT a1.Box.Z).bind λv11=> PB a1 v11
def DB (a1:qH):Option Int:= bif decide (a1.Kind<1) then VM a1 true else VM a1 (decide (a1.Kind>6))
def ZT (a1:List qH):Nat->Int->Option (Int⊕Unit)
 |0,_=>none
 |n+1,x3=> bif decide (x3<(a1.length:Int)) then bif inb x3 a1.length then (DB (a1.getD x3.toNat du)).bind λv6=> bif v6 !=0 then some (Sum.inl v6) else (ZT a1 n) (w64 (x3+1)) else none else some (Sum.inr ())
def XP (a1:List qH):Option Int:= bif decide ((a1.length:Int)>64) then some 4 else (ZT a1 FUEL 0).bind λu11=>Sum.elim (λv12=>some v12) (λo9=> some 0) u11
def UI (x3:Bool):Option Bool:= some x3
def KV (a1:Int):Option Bool:= bif decide (97<=a1) then UI (decide (a1<=122)) else UI false
def TU (x3:Bool):Option Bool:= some x3
def UQ (a1:Int):Option Bool:= bif decide (48<=a1) then TU (decide (a1<=57)) else TU false
def PL (x9:Int) (R:Int->Option (Bool⊕Unit)) (x18:Bool):Option (Bool⊕Unit):= bif x18 then some (Sum.inl false) else R (w64 (x9+1))
def jK (a1:ByteArray):Nat->Int->Option (Bool⊕Unit)
 |0,_=>none
 |n+1,x9=> bif decide (x9<(a1.size:Int)) then bif inb x9 a1.size then (KV (strAt a1 x9.toNat)).bind λv12=> bif !v12 then (UQ (strAt a1 x9.toNat)).bind λv15=> bif !v15 then PL x9 (jK a1 n) ((strAt a1 x9.toNat) !=95) else PL x9 (jK a1 n) false else PL x9 (jK a1 n) false else none else some (Sum.inr ())
def PE (a1:ByteArray) (x7:Bool):Option Bool:= bif x7 then some false else (jK a1 FUEL 1).bind λu22=>Sum.elim (λv23=>some v23) (λo20=> some true) u22
def DL (a1:ByteArray):Option Bool:= bif decide ((a1.size:Int)<1) then PE a1 true else bif decide ((a1.size:Int)>16) then PE a1 true else bif inb 0 a1.size then (KV (strAt a1 ((0:Int).toNat))).bind λv5=> PE a1 (!v5) else none
def ZR (a1:List Product) (a2:ByteArray):Nat->Int->Option ((Int×Bool)⊕Unit)
 |0,_=>none
 |n+1,x3=> bif decide (x3<(a1.length:Int)) then bif inb x3 a1.length then bif strEq ((a1.getD x3.toNat du).Name) a2 then some (Sum.inl (x3,true)) else (ZR a1 a2 n) (w64 (x3+1)) else none else some (Sum.inr ())
def GO (a1:List Product) (a2:ByteArray):Option (Int×Bool):= (ZR a1 a2 FUEL 0).bind λu9=>Sum.elim (λv10=>some v10) (λo7=> some (0,false)) u9
def RG (x3:Bool):Option Bool:= some x3
def XD (a1:Int):Option Bool:= bif decide (a1≥1) then RG (decide (a1<=600)) else RG false
def VZ (a1:Int) (a2:Int):Option Int:= some (w64 (Int.tdiv (w64 ((w64 (a1*(w64 (1000+a2))))+999)) 1000))
def JC (a1:Product) (x9:Bool):Option (Int×Int):= bif x9 then some (0,0) else (VZ a1.Thick a1.Allow).bind λv11=> (VZ a1.Width a1.Allow).bind λv13=> some (v11,v13)
def YF (a1:Product):Option (Int×Int):= (XD a1.Thick).bind λv2=> bif !v2 then JC a1 true else (XD a1.Width).bind λv5=> bif !v5 then JC a1 true else bif decide (a1.Allow<0) then JC a1 true else JC a1 (decide (a1.Allow>200))
def WK (x18:Int) (R:Int->Option (Int⊕Unit)) (x26:Bool):Option (Int⊕Unit):= bif x26 then some (Sum.inl 11) else R (w64 (x18+1))
def WL (a1:Product) (x18:Int) (R:Int->Option (Int⊕Unit)) (x22:Bool):Option (Int⊕Unit):= bif x22 then some (Sum.inl 9) else bif decide (x18>0) then bif inb (w64 (x18-1)) a1.Lengths.length then WK x18 R (decide ((a1.Lengths.getD x18.toNat du)<=(a1.Lengths.getD (w64 (x18-1)).toNat du))) else none else WK x18 R false
def zM (a1:Product):Nat->Int->Option (Int⊕Unit)
 |0,_=>none
 |n+1,x18=> bif decide (x18<(a1.Lengths.length:Int)) then bif inb x18 a1.Lengths.length then bif decide ((a1.Lengths.getD x18.toNat du)<100) then WL a1 x18 (zM a1 n) true else WL a1 x18 (zM a1 n) (decide ((a1.Lengths.getD x18.toNat du)>20000)) else none else some (Sum.inr ())
def WJ (x32:Int) (R:Int->Option (Int⊕Unit)) (x36:Bool):Option (Int⊕Unit):= bif x36 then some (Sum.inl 9) else R (w64 (x32+1))
def zU (a1:Product):Nat->Int->Option (Int⊕Unit)
 |0,_=>none
 |n+1,x32=> bif decide (x32<(a1.Prices.length:Int)) then bif inb x32 a1.Prices.length then bif decide ((a1.Prices.getD x32.toNat du)<0) then WJ x32 (zU a1 n) true else WJ x32 (zU a1 n) (decide ((a1.Prices.getD x32.toNat du)>1000000)) else none else some (Sum.inr ())
def jO (a1:Product) (x10:Bool):Option Int:= bif x10 then some 9 else (YF a1).bind λv12=> bif decide (v12.2>600) then some 9 else bif (a1.Lengths.length:Int)==0 then some 3 else bif decide ((a1.Lengths.length:Int)>8) then some 4 else bif (a1.Prices.length:Int) !=(a1.Lengths.length:Int) then some 19 else (zM a1 FUEL 0).bind λu30=>Sum.elim (λv31=>some v31) (λo28=> (zU a1 FUEL 0).bind λu40=>Sum.elim (λv41=>some v41) (λo38=> some 0) u40) u30
def jQ (a1:Product) (x5:Bool):Option Int:= bif x5 then some 9 else bif decide (a1.Allow<0) then jO a1 true else bif decide (a1.Allow>200) then jO a1 true else bif decide (a1.Wane<0) then jO a1 true else jO a1 (decide (a1.Wane>1000))
def ZU (a1:Product):Option Int:= bif decide (a1.Thick<5) then jQ a1 true else bif decide (a1.Thick>300) then jQ a1 true else bif decide (a1.Width<a1.Thick) then jQ a1 true else jQ a1 (decide (a1.Width>600))
def QX (a1:List Product):Nat->Int->Option (Int⊕Unit)
 |0,_=>none
 |n+1,x3=> bif decide (x3<(a1.length:Int)) then bif inb x3 a1.length then (DL ((a1.getD x3.toNat du).Name)).bind λv6=> bif !v6 then some (Sum.inl 6) else bif slOk 0 x3 a1.length then (GO (a1.take x3.toNat) ((a1.getD x3.toNat du).Name)).bind λv10=> bif v10.2 then some (Sum.inl 7) else (ZU (a1.getD x3.toNat du)).bind λv13=> bif v13 !=0 then some (Sum.inl v13) else (QX a1 n) (w64 (x3+1)) else none else none else some (Sum.inr ())
def YH (a1:List Product):Option Int:= bif decide ((a1.length:Int)>16) then some 4 else (QX a1 FUEL 0).bind λu18=>Sum.elim (λv19=>some v19) (λo16=> some 0) u18
def VJ (x3:Bool):Option Bool:= some x3
def RH (a1:Int):Option Bool:= bif decide (a1≥1) then VJ (decide (a1<=20000)) else VJ false
def VV (x3:Bool):Option Bool:= some x3
def TG (a1:Int):Option Bool:= bif decide (a1≥0) then VV (decide (a1<=1000000)) else VV false
def WV (x20:Bool):Option Int:= bif x20 then some 9 else some 0
def TH (a2:Rates) (x12:Bool):Option Int:= bif x12 then some 9 else bif decide (a2.Chip<0) then WV true else bif decide (a2.Chip>1000) then WV true else bif decide (a2.Dust<0) then WV true else bif decide (a2.Dust>1000) then WV true else (TG a2.Fine).bind λv18=> WV (!v18)
def XI (a1:Saw) (a2:Rates) (x6:Bool):Option Int:= bif x6 then some 9 else bif decide (a1.Pitch<1) then TH a2 true else bif decide (a1.Pitch>2000) then TH a2 true else (RH a1.Step).bind λv10=> TH a2 (!v10)
def UX (a1:Saw) (a2:Rates):Option Int:= bif decide (a1.Kerf<0) then XI a1 a2 true else bif decide (a1.Kerf>20) then XI a1 a2 true else bif decide (a1.Trim<0) then XI a1 a2 true else XI a1 a2 (decide (a1.Trim>20))
def jM (x2:Int) (R:Int->Option (Bool⊕Unit)) (x7:Bool):Option (Bool⊕Unit):= bif x7 then some (Sum.inl false) else R (w64 (x2+1))
def zS (a1:Rect):Nat->Int->Option (Bool⊕Unit)
 |0,_=>none
 |n+1,x2=> bif decide (x2<2) then bif inb x2 2 then bif decide ((([a1.X.A,a1.X.B,a1.Y.A,a1.Y.B]:List Int).getD (x2.toNat*2+0) 0)<(-600)) then jM x2 (zS a1 n) true else bif decide ((([a1.X.A,a1.X.B,a1.Y.A,a1.Y.B]:List Int).getD (x2.toNat*2+1) 0)>600) then jM x2 (zS a1 n) true else jM x2 (zS a1 n) (decide ((([a1.X.A,a1.X.B,a1.Y.A,a1.Y.B]:List Int).getD (x2.toNat*2+0) 0)≥(([a1.X.A,a1.X.B,a1.Y.A,a1.Y.B]:List Int).getD (x2.toNat*2+1) 0))) else none else some (Sum.inr ())
def JT (a1:Rect):Option Bool:= (zS a1 FUEL 0).bind λu11=>Sum.elim (λv12=>some v12) (λo9=> some true) u11
def ZB (a1:Pattern) (a2:Int):Option (Pattern×Int):= some (a1,a2)
def UG (x3:Bool):Option Bool:= some x3
def QV (a1:Int):Option Bool:= bif a1==2 then UG true else UG (a1==3)
def KS (a1:Rect) (a2:Int):Option Span:= bif a2==2 then some a1.X else some a1.Y
def ZL :Option Int:= some 0
def YW (x15:Bool):Option Int:= bif x15 then some 20 else ZL
def jV (a1:Node) (a2:qB) (x6:Bool):Option Int:= bif x6 then some 10 else bif decide (a2.level>64) then some 28 else (QV a1.Kind).bind λv9=> bif v9 then (KS a2.rect a1.Kind).bind λv12=> bif decide (a1.At<=v12.A) then YW true else YW (decide (a1.At≥v12.B)) else ZL
def ZZ (a1:Node) (a2:qB):Option Int:= bif decide (a1.Kind<0) then jV a1 a2 true else bif decide (a1.Kind>3) then jV a1 a2 true else bif a1.Kind==0 then jV a1 a2 (a1.At !=0) else jV a1 a2 false
def OA (a1:Span):Option Int:= bif decide (a1.A≥a1.B) then some 0 else some (IntKind.u64.wrap ((IntKind.u64.wrap (a1.B))-(IntKind.u64.wrap (a1.A))))
def FX (a1:Int):Option Int:= some (w64 (imin a1 9223372036854775807))
def YG (a1:Span):Option Int:= (OA a1).bind λv2=> (FX v2).bind λv4=> some v4
def yQ (x18:Bool):Option Int:= bif x18 then some 20 else some 0
def QZ (a1:Rect) (a2:Int) (a3:List Product) (x5:Bool):Option Int:= bif x5 then some 8 else bif inb a2 a3.length then (YF (a3.getD a2.toNat du)).bind λv8=> (YG a1.X).bind λv10=> (YG a1.Y).bind λv12=> bif v10 !=v8.1 then bif v10 !=v8.2 then yQ true else yQ (v12 !=v8.1) else bif v12 !=v8.2 then bif v10 !=v8.2 then yQ true else yQ (v12 !=v8.1) else yQ false else none
def PP (a1:Rect) (a2:Int) (a3:List Product):Option Int:= bif decide (a2<0) then QZ a1 a2 a3 true else QZ a1 a2 a3 (decide (a2≥(a3.length:Int)))
def JD (a1:Int) (a5:Int) (a6:Int) (x16:Int):Option (Nat×Int×Int):= bif x16 !=0 then some (1,x16,a6) else some (0,a5,w64 (a1+1))
def JI (a1:Int) (a2:qB) (a3:Pattern) (a4:List Product) (a5:Int) (a6:Int) (v9:Int) (x12:Bool):Option (Nat×Int×Int):= bif x12 then (PP a2.rect ((a3.Nodes.getD a1.toNat du).At) a4).bind λv14=> JD a1 a5 a6 v14 else JD a1 a5 a6 v9
def yF (a1:Int) (a2:qB) (a3:Pattern) (a4:List Product) (a5:Int) (a6:Int):Option (Nat×Int×Int):= bif decide (a1≥(a3.Nodes.length:Int)) then some (1,3,a6) else bif inb a1 a3.Nodes.length then (ZZ (a3.Nodes.getD a1.toNat du) a2).bind λv9=> bif v9==0 then JI a1 a2 a3 a4 a5 a6 v9 (((a3.Nodes.getD a1.toNat du).Kind)==1) else JI a1 a2 a3 a4 a5 a6 v9 false else none
def VT (x5:Rect):Option Rect:= some x5
def XZ (a1:Rect) (a2:Int) (a3:Span):Option Rect:= bif a2==2 then VT (Rect.mk a3 a1.Y) else VT (Rect.mk a1.X a3)
def WA (a1:Rect) (a2:Node) (a3:Int):Option (Rect×Rect×Rect):= (KS a1 a2.Kind).bind λv4=> (XZ a1 a2.Kind (Span.mk v4.A a2.At)).bind λv6=> (XZ a1 a2.Kind (Span.mk a2.At (imin (w64 (a2.At+a3)) v4.B))).bind λv8=> (XZ a1 a2.Kind (Span.mk (imin (w64 (a2.At+a3)) v4.B) v4.B)).bind λv10=> some (v6,v8,v10)
def KD (x8:Int) (R:(List qB)->Int->Int->Int->Option ((Nat×Int×Int)⊕(Int×Int))) (l25:List qB) (x26:Int) (x27:Int):Option ((Nat×Int×Int)⊕(Int×Int)):= R l25 (w64 (x8+1)) x27 x26
def yG (a1:Pattern) (a2:List Product) (a5:Pattern) (a6:Int):Nat->(List qB)->Int->Int->Int->Option ((Nat×Int×Int)⊕(Int×Int))
 |0,_,_,_,_=>none
 |n+1,l7,x8,x9,x10=> bif decide ((l7.length:Int)>0) then bif inb (w64 ((l7.length:Int)-1)) l7.length then bif slOk 0 (w64 ((l7.length:Int)-1)) l7.length then (yF x8 (l7.getD ((w64 ((l7.length:Int)-1)).toNat) du) a1 a2 x9 x10).bind λv14=> bif !(Nat.beq v14.1 0) then some (Sum.inl (v14.1,v14.2.1,v14.2.2)) else bif decide (x8≥(a5.Nodes.length:Int)) then some (Sum.inl (0,v14.2.1,v14.2.2)) else bif inb x8 a5.Nodes.length then (QV ((a5.Nodes.getD x8.toNat du).Kind)).bind λv19=> bif v19 then (WA ((l7.getD ((w64 ((l7.length:Int)-1)).toNat) du).rect) (a5.Nodes.getD x8.toNat du) a6).bind λv22=> bif room ((w64 ((l7.length:Int)-1)).toNat+2) 40 then KD x8 (yG a1 a2 a5 a6 n) ((l7.take ((w64 ((l7.length:Int)-1)).toNat))++[(qB.mk v22.2.2 (w64 (((l7.getD ((w64 ((l7.length:Int)-1)).toNat) du).level)+1))),(qB.mk v22.1 (w64 (((l7.getD ((w64 ((l7.length:Int)-1)).toNat) du).level)+1)))]) v14.2.2 v14.2.1
 else none else KD x8 (yG a1 a2 a5 a6 n) (l7.take ((w64 ((l7.length:Int)-1)).toNat)) v14.2.2 v14.2.1 else none else none else none else some (Sum.inr (x10,x9))
def XS (a1:Pattern) (a2:List Product) (a3:Int) (a4:Int) (a5:Pattern) (a6:Int):Option (Nat×Int×Int):= (yG a1 a2 a5 a6 FUEL [(qB.mk a5.Frame 1)] 0 a3 a4).bind λu32=>Sum.elim (λv33=>some v33) (λo30=> some (0,o30.2,o30.1)) u32
def WY (a1:Pattern) (a2:Int) (a3:List Product) (x8:Bool):Option Int:= bif x8 then some 9 else bif decide ((a1.Nodes.length:Int)>127) then some 4 else (ZB a1 a2).bind λv11=> (XS a1 a3 0 0 v11.1 v11.2).bind λv13=> bif Nat.beq v13.1 0 then bif decide (v13.2.2<(a1.Nodes.length:Int)) then some 4 else some 0 else bif Nat.beq v13.1 1 then some v13.2.1 else none
def NU (a1:Pattern) (a2:Int) (a3:List Product):Option Int:= (JT a1.Frame).bind λv4=> bif !v4 then some 19 else bif decide (a2<0) then WY a1 a2 a3 true else WY a1 a2 a3 (decide (a2>20))
def KX (a1:Pattern) (a2:List Product) (a3:Int):Option Int:= (NU a1 a3 a2).bind λv4=> some v4
def NX (a1:List qF) (a2:List qH) (a3:List Product) (a4:Pattern) (a5:Saw) (a6:Rates):Option Int:= (YZ a1).bind λv7=> bif v7 !=0 then some v7 else (XP a2).bind λv10=> bif v10 !=0 then some v10 else (YH a3).bind λv13=> bif v13 !=0 then some v13 else (UX a5 a6).bind λv16=> bif v16 !=0 then some v16 else (KX a4 a3 a5.Kerf).bind λv19=> some v19
def KL (x4:Bool):Option Int:= bif x4 then some 8 else some 0
def XX (a1:Rect) (a2:Int):Option Int:= bif decide (a2<0) then KL true else KL (decide (a2≥16))
def ZF (a1:Int) (a4:Int) (a5:Int) (x15:Int):Option (Nat×Int×Int):= bif x15 !=0 then some (1,x15,a5) else some (0,a4,w64 (a1+1))
def ZJ (a1:Int) (a2:qB) (a3:Pattern) (a4:Int) (a5:Int) (v8:Int) (x11:Bool):Option (Nat×Int×Int):= bif x11 then (XX a2.rect ((a3.Nodes.getD a1.toNat du).At)).bind λv13=> ZF a1 a4 a5 v13 else ZF a1 a4 a5 v8
def wR (a1:Int) (a2:qB) (a3:Pattern) (a4:Int) (a5:Int):Option (Nat×Int×Int):= bif decide (a1≥(a3.Nodes.length:Int)) then some (1,3,a5) else bif inb a1 a3.Nodes.length then (ZZ (a3.Nodes.getD a1.toNat du) a2).bind λv8=> bif v8==0 then ZJ a1 a2 a3 a4 a5 v8 (((a3.Nodes.getD a1.toNat du).Kind)==1) else ZJ a1 a2 a3 a4 a5 v8 false else none
def JE (x7:Int) (R:(List qB)->Int->Int->Int->Option ((Nat×Int×Int)⊕(Int×Int))) (l24:List qB) (x25:Int) (x26:Int):Option ((Nat×Int×Int)⊕(Int×Int)):= R l24 (w64 (x7+1)) x26 x25
def wU (a1:Pattern) (a4:Pattern) (a5:Int):Nat->(List qB)->Int->Int->Int->Option ((Nat×Int×Int)⊕(Int×Int))
 |0,_,_,_,_=>none
 |n+1,l6,x7,x8,x9=> bif decide ((l6.length:Int)>0) then bif inb (w64 ((l6.length:Int)-1)) l6.length then bif slOk 0 (w64 ((l6.length:Int)-1)) l6.length then (wR x7 (l6.getD ((w64 ((l6.length:Int)-1)).toNat) du) a1 x8 x9).bind λv13=> bif !(Nat.beq v13.1 0) then some (Sum.inl (v13.1,v13.2.1,v13.2.2)) else bif decide (x7≥(a4.Nodes.length:Int)) then some (Sum.inl (0,v13.2.1,v13.2.2)) else bif inb x7 a4.Nodes.length then (QV ((a4.Nodes.getD x7.toNat du).Kind)).bind λv18=> bif v18 then (WA ((l6.getD ((w64 ((l6.length:Int)-1)).toNat) du).rect) (a4.Nodes.getD x7.toNat du) a5).bind λv21=> bif room ((w64 ((l6.length:Int)-1)).toNat+2) 40 then JE x7 (wU a1 a4 a5 n) ((l6.take ((w64 ((l6.length:Int)-1)).toNat))++[(qB.mk v21.2.2 (w64 (((l6.getD ((w64 ((l6.length:Int)-1)).toNat) du).level)+1))),(qB.mk v21.1 (w64 (((l6.getD ((w64 ((l6.length:Int)-1)).toNat) du).level)+1)))]) v13.2.2 v13.2.1
 else none else JE x7 (wU a1 a4 a5 n) (l6.take ((w64 ((l6.length:Int)-1)).toNat)) v13.2.2 v13.2.1 else none else none else none else some (Sum.inr (x9,x8))
def WM (a1:Pattern) (a2:Int) (a3:Int) (a4:Pattern) (a5:Int):Option (Nat×Int×Int):= (wU a1 a4 a5 FUEL [(qB.mk a4.Frame 1)] 0 a2 a3).bind λu31=>Sum.elim (λv32=>some v32) (λo29=> some (0,o29.2,o29.1)) u31
def KF (a1:Pattern) (a2:Int) (x7:Bool):Option Int:= bif x7 then some 9 else bif decide ((a1.Nodes.length:Int)>127) then some 4 else (ZB a1 a2).bind λv10=> (WM a1 0 0 v10.1 v10.2).bind λv12=> bif Nat.beq v12.1 0 then bif decide (v12.2.2<(a1.Nodes.length:Int)) then some 4 else some 0 else bif Nat.beq v12.1 1 then some v12.2.1 else none
def XT (a1:Pattern) (a2:Int):Option Int:= (JT a1.Frame).bind λv3=> bif !v3 then some 19 else bif decide (a2<0) then KF a1 a2 true else KF a1 a2 (decide (a2>20))
def jW (a1:Int) (a2:qB) (a3:Pattern) (a4:List Leaf):Option (Nat×(List Leaf)):= bif inb a1 a3.Nodes.length then bif ((a3.Nodes.getD a1.toNat du).Kind)==0 then bif room (a4.length+1) 40 then some (0,(a4++[(Leaf.mk a2.rect (-1))])) else none else bif ((a3.Nodes.getD a1.toNat du).Kind)==1 then bif room (a4.length+1) 40 then some (0,(a4++[(Leaf.mk a2.rect ((a3.Nodes.getD a1.toNat du).At))])) else none else some (0,a4) else none
def JJ (x6:Int) (R:(List qB)->Int->(List Leaf)->Option ((Nat×(List Leaf))⊕(List Leaf))) (l22:List qB) (l23:List Leaf):Option ((Nat×(List Leaf))⊕(List Leaf)):= R l22 (w64 (x6+1)) l23
def wV (a1:Pattern) (a2:Pattern) (a3:Int):Nat->(List qB)->Int->(List Leaf)->Option ((Nat×(List Leaf))⊕(List Leaf))
 |0,_,_,_=>none
 |n+1,l5,x6,l7=> bif decide ((l5.length:Int)>0) then bif inb (w64 ((l5.length:Int)-1)) l5.length then bif slOk 0 (w64 ((l5.length:Int)-1)) l5.length then (jW x6 (l5.getD ((w64 ((l5.length:Int)-1)).toNat) du) a1 l7).bind λv11=> bif !(Nat.beq v11.1 0) then some (Sum.inl (v11.1,v11.2)) else bif decide (x6≥(a2.Nodes.length:Int)) then some (Sum.inl (0,v11.2)) else bif inb x6 a2.Nodes.length then (QV ((a2.Nodes.getD x6.toNat du).Kind)).bind λv16=> bif v16 then (WA ((l5.getD ((w64 ((l5.length:Int)-1)).toNat) du).rect) (a2.Nodes.getD x6.toNat du) a3).bind λv19=> bif room ((w64 ((l5.length:Int)-1)).toNat+2) 40 then JJ x6 (wV a1 a2 a3 n) ((l5.take ((w64 ((l5.length:Int)-1)).toNat))++[(qB.mk v19.2.2 (w64 (((l5.getD ((w64 ((l5.length:Int)-1)).toNat) du).level)+1))),(qB.mk v19.1 (w64 (((l5.getD ((w64 ((l5.length:Int)-1)).toNat) du).level)+1)))]) v11.2
 else none else JJ x6 (wV a1 a2 a3 n) (l5.take ((w64 ((l5.length:Int)-1)).toNat)) v11.2 else none else none else none else some (Sum.inr l7)
def WP (a1:Pattern) (a2:Pattern) (a3:Int) (a4:List Leaf):Option (Nat×(List Leaf)):= (wV a1 a2 a3 FUEL [(qB.mk a2.Frame 1)] 0 a4).bind λu27=>Sum.elim (λv28=>some v28) (λo25=> some (0,o25)) u27
def TC (a1:Pattern) (a2:Int):Option ((List Leaf)×Int):= (XT a1 a2).bind λv3=> bif v3 !=0 then some ([],v3) else (ZB a1 a2).bind λv6=> (WP a1 v6.1 v6.2 []).bind λv8=> bif Nat.beq v8.1 0 then some (v8.2,0) else none
def KG (a1:List qF):Option (List qF):= bif room a1.length 40 then some a1 else none
def PO (a1:List Span):Option (List Span):= bif room a1.length 16 then some a1 else none
def yN (v2:List qF):Nat->(List qF)->Int->Option (List qF)
 |0,_,_=>none
 |n+1,l4,x5=> bif decide (x5<(v2.length:Int)) then bif inb x5 l4.length then (PO (((l4.getD x5.toNat du).Sec).Rows)).bind λv8=> (yN v2 n) (l4.set x5.toNat (qF.mk ((l4.getD x5.toNat du).Len) (qQ.mk (((l4.getD x5.toNat du).Sec).Low) v8))) (w64 (x5+1)) else none else some l4
def JO (a1:List qF):Option (List qF):= (KG a1).bind λv2=> (yN v2 FUEL v2 0).bind λo11=> some o11
def YS (a1:List qH):Option (List qH):= bif room a1.length 56 then some a1 else none
def YE (a1:List Product):Option (List Product):= bif room a1.length 96 then some a1 else none
def YP (a1:List Int):Option (List Int):= bif room a1.length 8 then some a1 else none
def jP (v2:List Product):Nat->(List Product)->Int->Option (List Product)
 |0,_,_=>none
 |n+1,l4,x5=> bif decide (x5<(v2.length:Int)) then bif inb x5 l4.length then (YP ((l4.getD x5.toNat du).Lengths)).bind λv8=> (YP (((l4.set x5.toNat (Product.mk ((l4.getD x5.toNat du).Name) ((l4.getD x5.toNat du).Thick) ((l4.getD x5.toNat du).Width) ((l4.getD x5.toNat du).Allow) ((l4.getD x5.toNat du).Wane) v8 ((l4.getD x5.toNat du).Prices))).getD x5.toNat du).Prices)).bind λv10=> (jP v2 n) ((l4.set x5.toNat (Product.mk ((l4.getD x5.toNat du).Name) ((l4.getD x5.toNat du).Thick) ((l4.getD x5.toNat du).Width) ((l4.getD x5.toNat du).Allow) ((l4.getD x5.toNat du).Wane) v8 ((l4.getD x5.toNat du).Prices))).set x5.toNat (Product.mk (((l4.set x5.toNat (Product.mk ((l4.getD x5.toNat du).Name) ((l4.getD x5.toNat du).Thick) ((l4.getD x5.toNat du).Width) ((l4.getD x5.toNat du).Allow) ((l4.getD x5.toNat du).Wane) v8 ((l4.getD x5.toNat du).Prices))).getD x5.toNat du).Name) (((l4.set x5.toNat (Product.mk ((l4.getD x5.toNat du).Name) ((l4.getD x5.toNat du).Thick) ((l4.getD x5.toNat du).Width) ((l4.getD x5.toNat du).Allow) ((l4.getD x5.toNat du).Wane) v8 ((l4.getD x5.toNat du).Prices))).getD x5.toNat du).Thick) (((l4.set x5.toNat (Product.mk ((l4.getD x5.toNat du).Name) ((l4.getD x5.toNat du).Thick) ((l4.getD x5.toNat du).Width) ((l4.getD x5.toNat du).Allow) ((l4.getD x5.toNat du).Wane) v8 ((l4.getD x5.toNat du).Prices))).getD x5.toNat du).Width) (((l4.set x5.toNat (Product.mk ((l4.getD x5.toNat du).Name) ((l4.getD x5.toNat du).Thick) ((l4.getD x5.toNat du).Width) ((l4.getD x5.toNat du).Allow) ((l4.getD x5.toNat du).Wane) v8 ((l4.getD x5.toNat du).Prices))).getD x5.toNat du).Allow) (((l4.set x5.toNat (Product.mk ((l4.getD x5.toNat du).Name) ((l4.getD x5.toNat du).Thick) ((l4.getD x5.toNat du).Width) ((l4.getD x5.toNat du).Allow) ((l4.getD x5.toNat du).Wane) v8 ((l4.getD x5.toNat du).Prices))).getD x5.toNat du).Wane) (((l4.set x5.toNat (Product.mk ((l4.getD x5.toNat du).Name) ((l4.getD x5.toNat du).Thick) ((l4.getD x5.toNat du).Width) ((l4.getD x5.toNat du).Allow) ((l4.getD x5.toNat du).Wane) v8 ((l4.getD x5.toNat du).Prices))).getD x5.toNat du).Lengths) v10)) (w64 (x5+1))
 else none else some l4
def ZS (a1:List Product):Option (List Product):= (YE a1).bind λv2=> (jP v2 FUEL v2 0).bind λo13=> some o13
def PW (a1:List qF):Option (List qF):= (YZ a1).bind λv2=> bif v2 !=0 then some ([]:List qF) else some a1
def ZX (v2:(List qF)):Nat->Int->Int->Option Int
 |0,_,_=>none
 |n+1,x4,x5=> bif decide (x5<(v2.length:Int)) then bif inb x5 v2.length then (ZX v2 n) (w64 (x4+((v2.getD x5.toNat du).Len))) (w64 (x5+1)) else none else some x4
def TE (a1:List qF):Option Int:= (PW a1).bind λv2=> (ZX v2 FUEL 0 0).bind λo9=> some o9
def jS (a1:Int) (a2:List qF) (a3:List qH) (a4:List Product) (a5:Int) (a6:Int) (a7:Int) (a8:Int) (a9:Int) (a10:Int) (a11:Int) (a12:Int) (a13:List Int) (a14:List qA) (R:Int->(List qF)->(List qH)->(List Product)->Int->Int->Int->Int->Int->Int->Int->Int->(List Int)->(List qA)->Option (Int×(List qA))) (x17:Bool):Option (Int×(List qA)):= bif x17 then some (w64 (a1+1),a14) else (R (((updL a14 a1.toNat (λx=>(qA.mk x.kind x.at_ (w64 (a1+1)) x.second x.stands x.rect x.leaf x.planned x.gives x.board))).getD a1.toNat du).first) a2 a3 a4 a5 a6 a7 a8 a9 a10 a11 a12 a13 (updL a14 a1.toNat (λx=>(qA.mk x.kind x.at_ (w64 (a1+1)) x.second x.stands x.rect x.leaf x.planned x.gives x.board)))).bind λv19=> bif Nat.ble (a1.toNat+1) v19.2.length then
 (R (((updL v19.2 a1.toNat (λx=>(qA.mk x.kind x.at_ x.first v19.1 x.stands x.rect x.leaf x.planned x.gives x.board))).getD a1.toNat du).second) a2 a3 a4 a5 a6 a7 a8 a9 a10 a11 a12 a13 (updL v19.2 a1.toNat (λx=>(qA.mk x.kind x.at_ x.first v19.1 x.stands x.rect x.leaf x.planned x.gives x.board)))).bind λv22=> some (v22.1,v22.2) else none
def zP :Nat->Int->(List qF)->(List qH)->(List Product)->Int->Int->Int->Int->Int->Int->Int->Int->(List Int)->(List qA)->Option (Int×(List qA))
 |0,_,_,_,_,_,_,_,_,_,_,_,_,_,_=>none
 |n+1,a1,a2,a3,a4,a5,a6,a7,a8,a9,a10,a11,a12,a13,a14=> bif inb a1 a14.length then bif ((a14.getD a1.toNat du).kind) !=2 then jS a1 a2 a3 a4 a5 a6 a7 a8 a9 a10 a11 a12 a13 a14 (zP n) (((a14.getD a1.toNat du).kind) !=3) else jS a1 a2 a3 a4 a5 a6 a7 a8 a9 a10 a11 a12 a13 a14 (zP n) false else none
def BZ (a1:Int) (a2:List qF) (a3:List qH) (a4:List Product) (a5:Int) (a6:Int) (a7:Int) (a8:Int) (a9:Int) (a10:Int) (a11:Int) (a12:Int) (a13:List Int) (a14:List qA):Option (Int×(List qA)):=zP FUEL a1 a2 a3 a4 a5 a6 a7 a8 a9 a10 a11 a12 a13 a14
def QM (x2:Int) (R:Int->Option (Bool⊕Unit)) (x7:Bool):Option (Bool⊕Unit):= bif x7 then some (Sum.inl false) else R (w64 (x2+1))
def wE (a1:Rect):Nat->Int->Option (Bool⊕Unit)
 |0,_=>none
 |n+1,x2=> bif decide (x2<2) then bif inb x2 2 then bif decide ((([a1.X.A,a1.X.B,a1.Y.A,a1.Y.B]:List Int).getD (x2.toNat*2+0) 0)<(-600)) then QM x2 (wE a1 n) true else bif decide ((([a1.X.A,a1.X.B,a1.Y.A,a1.Y.B]:List Int).getD (x2.toNat*2+1) 0)>600) then QM x2 (wE a1 n) true else QM x2 (wE a1 n) (decide ((([a1.X.A,a1.X.B,a1.Y.A,a1.Y.B]:List Int).getD (x2.toNat*2+0) 0)≥(([a1.X.A,a1.X.B,a1.Y.A,a1.Y.B]:List Int).getD (x2.toNat*2+1) 0))) else none else some (Sum.inr ())
def DJ (a1:Rect):Option Bool:= (wE a1 FUEL 0).bind λu11=>Sum.elim (λv12=>some v12) (λo9=> some true) u11
def KY (a1:qQ):Option qQ:= (KZ a1).bind λv2=> bif v2 !=0 then some (qQ.mk 0 []) else some a1
def PG (a1:Int) (a2:Int):Option Span:= some (Span.mk (w64 (10*a1)) (w64 (10*a2)))
def XA (a1:Span) (a2:Span):Option Span:= bif decide ((imax a1.A a2.A)≥(imin a1.B a2.B)) then some (Span.mk 0 0) else some (Span.mk (imax a1.A a2.A) (imin a1.B a2.B))
def ZY (a2:Rect) (v3:qQ):Nat->Int->Int->Option Int
 |0,_,_=>none
 |n+1,x5,x6=> bif decide (x6<(v3.Rows.length:Int)) then bif inb x6 v3.Rows.length then (PG (w64 (v3.Low+x6)) (w64 ((w64 (v3.Low+x6))+1))).bind λv9=> (XA (v3.Rows.getD x6.toNat du) a2.X).bind λv11=> (YG v11).bind λv13=> (XA v9 a2.Y).bind λv15=> (YG v15).bind λv17=> (ZY a2 v3 n) (w64 (x5+(w64 (v13*v17)))) (w64 (x6+1)) else none else some x5
def XE (a1:qQ) (a2:Rect):Option Int:= (KY a1).bind λv3=> (ZY a2 v3 FUEL 0 0).bind λo20=> some o20
def XH (a1:List qF) (a2:Rect):Nat->(List qR)->Int->Int->Option (List qR)
 |0,_,_,_=>none
 |n+1,l3,x4,x5=> bif decide (x5<(a1.length:Int)) then bif inb x5 a1.length then (XE ((a1.getD x5.toNat du).Sec) a2).bind λv8=> bif nz (w64 ((w64 (a2.X.B-a2.X.A))*(w64 (a2.Y.B-a2.Y.A)))) then bif room (l3.length+1) 24 then (XH a1 a2 n) (l3++[(qR.mk (Span.mk x4 (w64 (x4+((a1.getD x5.toNat du).Len)))) (w64 (Int.tdiv (w64 ((w64 ((w64 (1000*(w64 ((w64 ((w64 (a2.X.B-a2.X.A))*(w64 (a2.Y.B-a2.Y.A))))-v8))))+(w64 ((w64 (a2.X.B-a2.X.A))*(w64 (a2.Y.B-a2.Y.A))))))-1)) (w64 ((w64 (a2.X.B-a2.X.A))*(w64 (a2.Y.B-a2.Y.A)))))))]) (w64 (x4+((a1.getD x5.toNat du).Len))) (w64 (x5+1)) else none else none else none else some l3
def NH (a1:List qF) (a2:Rect):Option (List qR):= (XH a1 a2 FUEL [] 0 0).bind λo13=> some o13
def XK (a1:qT) (a2:Span):Option Box:= some (Box.mk a1.rect.X a1.rect.Y a2)
def RS (v3:Span) (v5:Span) (v7:Span) (x17:Bool):Option (Box×Bool):= bif x17 then some ((Box.mk (Span.mk 0 0) (Span.mk 0 0) (Span.mk 0 0)),false) else some ((Box.mk v3 v5 v7),true)
def HG (a1:Box) (a2:Box):Option (Box×Bool):= (XA a1.X a2.X).bind λv3=> (XA a1.Y a2.Y).bind λv5=> (XA a1.Z a2.Z).bind λv7=> (yT v3).bind λv9=> bif v9 then RS v3 v5 v7 true else (yT v5).bind λv12=> bif v12 then RS v3 v5 v7 true else (yT v7).bind λv15=> RS v3 v5 v7 v15
def XG (a1:qH) (a2:Box):Option Bool:= (HG a1.Box a2).bind λv3=> some v3.2
def NV (x29:Int) (R:Int->(List qH)->Option (List qH)) (l37:List qH):Option (List qH):= R (w64 (x29+1)) l37
def WC (a2:List qH) (v27:Box):Nat->Int->(List qH)->Option (List qH)
 |0,_,_=>none
 |n+1,x29,l30=> bif decide (x29<(a2.length:Int)) then bif inb x29 a2.length then (XG (a2.getD x29.toNat du) v27).bind λv33=> bif v33 then bif room (l30.length+1) 56 then NV x29 (WC a2 v27 n) (l30++[(a2.getD x29.toNat du)]) else none else NV x29 (WC a2 v27 n) l30 else none else some l30
def UL (a1:List qF) (a2:List qH) (a3:Product) (a4:Rect) (x21:Bool):Option (qT×Bool):= bif x21 then some ((qT.mk (Product.mk (ByteArray.mk #[]) 0 0 0 0 [] []) (Rect.mk (Span.mk 0 0) (Span.mk 0 0)) 0 [] []),false) else (TE a1).bind λv23=> (NH a1 a4).bind λv25=> (XK (qT.mk a3 a4 v23 v25 []) (Span.mk 0 v23)).bind λv27=> (WC a2 v27 FUEL 0 []).bind λo39=> some ((qT.mk a3 a4 v23 v25 o39),true)
def KW (a1:List qF) (a2:List qH) (a3:Product) (a4:Rect) (x16:Bool):Option (qT×Bool):= bif x16 then some ((qT.mk (Product.mk (ByteArray.mk #[]) 0 0 0 0 [] []) (Rect.mk (Span.mk 0 0) (Span.mk 0 0)) 0 [] []),false) else (YF a3).bind λv18=> bif !(((w64 (a4.X.B-a4.X.A))==v18.1)&&(((w64 (a4.Y.B-a4.Y.A))==v18.2)&&true)) then UL a1 a2 a3 a4 (!(((w64 (a4.X.B-a4.X.A))==v18.2)&&(((w64 (a4.Y.B-a4.Y.A))==v18.1)&&true))) else UL a1 a2 a3 a4 false
def LI (a1:List qF) (a2:List qH) (a3:Product) (a4:Rect):Option (qT×Bool):= (YZ a1).bind λv5=> bif v5 !=0 then KW a1 a2 a3 a4 true else (XP a2).bind λv8=> bif v8 !=0 then KW a1 a2 a3 a4 true else (YH [a3]).bind λv11=> bif v11 !=0 then KW a1 a2 a3 a4 true else (DJ a4).bind λv14=> KW a1 a2 a3 a4 (!v14)
def YQ (x5:Bool):Option Bool:= some x5
def BD (a1:Span) (a2:Int):Option Bool:= bif decide (a1.A≥0) then bif decide (a1.A<a1.B) then YQ (decide (a1.B<=a2)) else YQ false else YQ false
def QW (a1:Product) (a2:Int):Nat->Int->Option ((Int×Bool)⊕Unit)
 |0,_=>none
 |n+1,x3=> bif decide (x3<(a1.Lengths.length:Int)) then bif inb x3 a1.Lengths.length then bif (a1.Lengths.getD x3.toNat du) !=a2 then (QW a1 a2 n) (w64 (x3+1)) else bif decide (x3≥(a1.Prices.length:Int)) then some (Sum.inl (0,false)) else bif inb x3 a1.Prices.length then some (Sum.inl ((a1.Prices.getD x3.toNat du),true)) else none else none else some (Sum.inr ())
def UN (a1:Product) (a2:Int):Option (Int×Bool):= (QW a1 a2 FUEL 0).bind λu11=>Sum.elim (λv12=>some v12) (λo9=> some (0,false)) u11
def DZ (x4:Int) (R:Int->Int->Option Int) (x10:Int):Option Int:= R x10 (w64 (x4+1))
def BC (a1:List qR) (x3:Int) (x4:Int) (R:Int->Int->Option Int) (x8:Bool):Option Int:= bif x8 then DZ x4 R (imax x3 ((a1.getD x4.toNat du).lack)) else DZ x4 R x3
def QB (a1:List qR) (a2:Span):Nat->Int->Int->Option Int
 |0,_,_=>none
 |n+1,x3,x4=> bif decide (x4<(a1.length:Int)) then bif inb x4 a1.length then bif decide ((((a1.getD x4.toNat du).z).A)<a2.B) then BC a1 x3 x4 (QB a1 a2 n) (decide (a2.A<(((a1.getD x4.toNat du).z).B))) else BC a1 x3 x4 (QB a1 a2 n) false else none else some x3
def NJ (a1:List qR) (a2:Span):Option Int:= (QB a1 a2 FUEL 0 0).bind λo12=> some o12
def KI (x17:Int) (R:Int->Int->Option ((Int×Bool)⊕Int)) (x24:Int):Option ((Int×Bool)⊕Int):= R x24 (w64 (x17+1))
def zO (a1:qT) (a3:Int) (v14:Box):Nat->Int->Int->Option ((Int×Bool)⊕Int)
 |0,_,_=>none
 |n+1,x16,x17=> bif decide (x17<(a1.defects.length:Int)) then bif inb x17 a1.defects.length then (XG (a1.defects.getD x17.toNat du) v14).bind λv20=> bif !v20 then KI x17 (zO a1 a3 v14 n) x16 else bif ((a1.defects.getD x17.toNat du).Kind)==3 then some (Sum.inl (0,false)) else KI x17 (zO a1 a3 v14 n) (w64 (x16-a3)) else none else some (Sum.inr x16)
def KC (a1:qT) (a2:Span) (a3:Int) (v7:Int×Bool) (x12:Bool):Option (Int×Bool):= bif x12 then some (0,false) else (XK a1 a2).bind λv14=> (zO a1 a3 v14 FUEL v7.1 0).bind λu28=>Sum.elim (λv29=>some v29) (λo26=> some (imax o26 0,true)) u28
def WX (a1:qT) (a2:Span) (a3:Int):Option (Int×Bool):= (BD a2 a1.length).bind λv4=> bif !v4 then some (0,false) else (UN a1.product (w64 (a2.B-a2.A))).bind λv7=> bif !v7.2 then KC a1 a2 a3 v7 true else (NJ a1.zones a2).bind λv10=> KC a1 a2 a3 v7 (decide (v10>a1.product.Wane))
def NY (x24:Int) (R:Int->Bool->Int->Span->Option (Int×Bool×Span)) (x34:Int) (x35:Bool) (x36:Span):Option (Int×Bool×Span):= R x34 x35 (w64 (x24+1)) x36
def UK (a3:Product) (x19:Int) (x22:Int) (x23:Bool) (x24:Int) (x25:Span) (R:Int->Bool->Int->Span->Option (Int×Bool×Span)) (v28:Int×Bool) (x32:Bool):Option (Int×Bool×Span):= bif x32 then NY x24 R v28.1 true (Span.mk x19 (w64 (x19+(a3.Lengths.getD x24.toNat du)))) else NY x24 R x22 x23 x25
def jX (a3:Product) (a6:Int) (v14:qT×Bool) (x19:Int):Nat->Int->Bool->Int->Span->Option (Int×Bool×Span)
 |0,_,_,_,_=>none
 |n+1,x22,x23,x24,x25=> bif decide (x24<(a3.Lengths.length:Int)) then bif inb x24 a3.Lengths.length then (WX (qT.mk v14.1.product v14.1.rect v14.1.length v14.1.zones v14.1.defects) (Span.mk x19 (w64 (x19+(a3.Lengths.getD x24.toNat du)))) a6).bind λv28=> bif v28.2 then bif !x23 then UK a3 x19 x22 x23 x24 x25 (jX a3 a6 v14 x19 n) v28 true else UK a3 x19 x22 x23 x24 x25 (jX a3 a6 v14 x19 n) v28 (decide (v28.1>x22)) else UK a3 x19 x22 x23 x24 x25 (jX a3 a6 v14 x19 n) v28 false else none else some (x22,x23,x25)
def YM (a3:Product) (a5:Int) (a6:Int) (v14:qT×Bool):Nat->Int->Bool->Int->Span->Option (Int×Bool×Span)
 |0,_,_,_,_=>none
 |n+1,x17,x18,x19,x20=> bif decide (x19<v14.1.length) then (jX a3 a6 v14 x19 FUEL x17 x18 0 x20).bind λo40=> (YM a3 a5 a6 v14 n) o40.1 o40.2.1 (w64 (x19+a5)) o40.2.2 else some (x17,x18,x20)
def NR (a1:List qF) (a2:List qH) (a3:Product) (a4:Rect) (a5:Int) (a6:Int) (x12:Bool):Option (Span×Int×Bool):= bif x12 then some ((Span.mk 0 0),0,false) else (LI a1 a2 a3 a4).bind λv14=> bif !v14.2 then some ((Span.mk 0 0),0,false) else (YM a3 a5 a6 v14 FUEL 0 false 0 (Span.mk 0 0)).bind λo45=> some (o45.2.2,o45.1,o45.2.1)
def DS (a1:List qF) (a2:List qH) (a3:Product) (a4:Rect) (a5:Int) (a6:Int):Option (Span×Int×Bool):= (RH a5).bind λv7=> bif !v7 then NR a1 a2 a3 a4 a5 a6 true else (TG a6).bind λv10=> NR a1 a2 a3 a4 a5 a6 (!v10)
def YC (a1:Int) (a2:Rect) (a3:List qF) (a4:List qH) (a5:List Product) (a9:Int) (a12:Int) (a15:List qA) (x19:Bool):Option (List qA):= bif x19 then some (updL (updL a15 a1.toNat (λx=>(qA.mk x.kind x.at_ x.first x.second true x.rect x.leaf x.planned x.gives x.board))) a1.toNat (λx=>(qA.mk x.kind x.at_ x.first x.second x.stands a2 x.leaf x.planned x.gives x.board))) else bif inb (((updL (updL a15 a1.toNat (λx=>(qA.mk x.kind x.at_ x.first x.second true x.rect x.leaf x.planned x.gives x.board))) a1.toNat (λx=>(qA.mk x.kind x.at_ x.first x.second x.stands a2 x.leaf x.planned x.gives x.board))).getD a1.toNat du).at_) a5.length then (DS a3 a4 (a5.getD (((updL (updL a15 a1.toNat (λx=>(qA.mk x.kind x.at_ x.first x.second true x.rect x.leaf x.planned x.gives x.board))) a1.toNat (λx=>(qA.mk x.kind x.at_ x.first x.second x.stands a2 x.leaf x.planned x.gives x.board))).getD a1.toNat du).at_).toNat du) (Rect.mk (Span.mk a2.X.A (w64 (a2.X.A+(w64 ((((((updL (updL a15 a1.toNat (λx=>(qA.mk x.kind x.at_ x.first x.second true x.rect x.leaf x.planned x.gives x.board))) a1.toNat (λx=>(qA.mk x.kind x.at_ x.first x.second x.stands a2 x.leaf x.planned x.gives x.board))).getD a1.toNat du).planned).X).B)-(((((updL (updL a15 a1.toNat (λx=>(qA.mk x.kind x.at_ x.first x.second true x.rect x.leaf x.planned x.gives x.board))) a1.toNat (λx=>(qA.mk x.kind x.at_ x.first x.second x.stands a2 x.leaf x.planned x.gives x.board))).getD a1.toNat du).planned).X).A)))))) (Span.mk a2.Y.A (w64 (a2.Y.A+(w64 ((((((updL (updL a15 a1.toNat (λx=>(qA.mk x.kind x.at_ x.first x.second true x.rect x.leaf x.planned x.gives x.board))) a1.toNat (λx=>(qA.mk x.kind x.at_ x.first x.second x.stands a2 x.leaf x.planned x.gives x.board))).getD a1.toNat du).planned).Y).B)-(((((updL (updL a15 a1.toNat (λx=>(qA.mk x.kind x.at_ x.first x.second true x.rect x.leaf x.planned x.gives x.board))) a1.toNat (λx=>(qA.mk x.kind x.at_ x.first x.second x.stands a2 x.leaf x.planned x.gives x.board))).getD a1.toNat du).planned).Y).A))))))) a9 a12).bind λv22=>
 bif !v22.2.2 then some (updL (updL a15 a1.toNat (λx=>(qA.mk x.kind x.at_ x.first x.second true x.rect x.leaf x.planned x.gives x.board))) a1.toNat (λx=>(qA.mk x.kind x.at_ x.first x.second x.stands a2 x.leaf x.planned x.gives x.board))) else some (updL (updL (updL (updL a15 a1.toNat (λx=>(qA.mk x.kind x.at_ x.first x.second true x.rect x.leaf x.planned x.gives x.board))) a1.toNat (λx=>(qA.mk x.kind x.at_ x.first x.second x.stands a2 x.leaf x.planned x.gives x.board))) a1.toNat (λx=>(qA.mk x.kind x.at_ x.first x.second x.stands x.rect x.leaf x.planned true x.board))) a1.toNat (λx=>(qA.mk x.kind x.at_ x.first x.second x.stands x.rect x.leaf x.planned x.gives (qM.mk (((updL (updL (updL a15 a1.toNat (λx=>(qA.mk x.kind x.at_ x.first x.second true x.rect x.leaf x.planned x.gives x.board))) a1.toNat (λx=>(qA.mk x.kind x.at_ x.first x.second x.stands a2 x.leaf x.planned x.gives x.board))) a1.toNat (λx=>(qA.mk x.kind x.at_ x.first x.second x.stands x.rect x.leaf x.planned true x.board))).getD a1.toNat du).leaf) (((updL (updL (updL a15 a1.toNat (λx=>(qA.mk x.kind x.at_ x.first x.second true x.rect x.leaf x.planned x.gives x.board))) a1.toNat (λx=>(qA.mk x.kind x.at_ x.first x.second x.stands a2 x.leaf x.planned x.gives x.board))) a1.toNat (λx=>(qA.mk x.kind x.at_ x.first x.second x.stands x.rect x.leaf x.planned true x.board))).getD a1.toNat du).at_) (Box.mk (Span.mk a2.X.A (w64 (a2.X.A+(w64 ((((((updL (updL a15 a1.toNat (λx=>(qA.mk x.kind x.at_ x.first x.second true x.rect x.leaf x.planned x.gives x.board))) a1.toNat (λx=>(qA.mk x.kind x.at_ x.first x.second x.stands a2 x.leaf x.planned x.gives x.board))).getD a1.toNat du).planned).X).B)-(((((updL (updL a15 a1.toNat (λx=>(qA.mk x.kind x.at_ x.first x.second true x.rect x.leaf x.planned x.gives x.board))) a1.toNat (λx=>(qA.mk x.kind x.at_ x.first x.second x.stands a2 x.leaf x.planned x.gives x.board))).getD a1.toNat du).planned).X).A)))))) (Span.mk a2.Y.A (w64 (a2.Y.A+(w64 ((((((updL (updL a15 a1.toNat (λx=>(qA.mk x.kind x.at_ x.first x.second true x.rect x.leaf x.planned x.gives x.board))) a1.toNat (λx=>(qA.mk x.kind x.at_ x.first x.second x.stands a2 x.leaf x.planned x.gives x.board))).getD a1.toNat du).planned).Y).B)-(((((updL (updL a15 a1.toNat (λx=>(qA.mk x.kind x.at_ x.first x.second true x.rect x.leaf x.planned x.gives x.board))) a1.toNat (λx=>(qA.mk x.kind x.at_ x.first x.second x.stands a2 x.leaf x.planned x.gives x.board))).getD a1.toNat du).planned).Y).A)))))) v22.1) v22.2.1))))
 else none
def ZA (a1:Int) (a2:Rect) (a3:List qF) (a4:List qH) (a5:List Product) (a6:Int) (a7:Int) (a8:Int) (a9:Int) (a10:Int) (a11:Int) (a12:Int) (a13:Int) (a14:List Int) (a15:List qA):Option (List qA):= bif inb a1 a15.length then bif (((updL (updL a15 a1.toNat (λx=>(qA.mk x.kind x.at_ x.first x.second true x.rect x.leaf x.planned x.gives x.board))) a1.toNat (λx=>(qA.mk x.kind x.at_ x.first x.second x.stands a2 x.leaf x.planned x.gives x.board))).getD a1.toNat du).kind) !=1 then some (updL (updL a15 a1.toNat (λx=>(qA.mk x.kind x.at_ x.first x.second true x.rect x.leaf x.planned x.gives x.board))) a1.toNat (λx=>(qA.mk x.kind x.at_ x.first x.second x.stands a2 x.leaf x.planned x.gives x.board))) else bif decide ((w64 (a2.X.B-a2.X.A))<(w64 ((((((updL (updL a15 a1.toNat (λx=>(qA.mk x.kind x.at_ x.first x.second true x.rect x.leaf x.planned x.gives x.board))) a1.toNat (λx=>(qA.mk x.kind x.at_ x.first x.second x.stands a2 x.leaf x.planned x.gives x.board))).getD a1.toNat du).planned).X).B)-(((((updL (updL a15 a1.toNat (λx=>(qA.mk x.kind x.at_ x.first x.second true x.rect x.leaf x.planned x.gives x.board))) a1.toNat (λx=>(qA.mk x.kind x.at_ x.first x.second x.stands a2 x.leaf x.planned x.gives x.board))).getD a1.toNat du).planned).X).A)))) then
 YC a1 a2 a3 a4 a5 a9 a12 a15 true else YC a1 a2 a3 a4 a5 a9 a12 a15 (decide ((w64 (a2.Y.B-a2.Y.A))<(w64 ((((((updL (updL a15 a1.toNat (λx=>(qA.mk x.kind x.at_ x.first x.second true x.rect x.leaf x.planned x.gives x.board))) a1.toNat (λx=>(qA.mk x.kind x.at_ x.first x.second x.stands a2 x.leaf x.planned x.gives x.board))).getD a1.toNat du).planned).Y).B)-(((((updL (updL a15 a1.toNat (λx=>(qA.mk x.kind x.at_ x.first x.second true x.rect x.leaf x.planned x.gives x.board))) a1.toNat (λx=>(qA.mk x.kind x.at_ x.first x.second x.stands a2 x.leaf x.planned x.gives x.board))).getD a1.toNat du).planned).Y).A))))) else none
def RX (x22:Int) (l23:List qA) (R:Int->Int->(List qA)->(List Int)->Option ((List qA)×(List Int))) (x32:Int) (x33:qA) (l34:List Int):Option ((List qA)×(List Int)):= bif room (l23.length+1) 192 then R x32 (w64 (x22+1)) (l23++[x33]) l34 else none
def RT (a4:Pattern) (v10:(List Leaf)×Int) (x21:Int) (x22:Int) (l23:List qA) (l24:List Int) (R:Int->Int->(List qA)->(List Int)->Option ((List qA)×(List Int))) (x28:Bool):Option ((List qA)×(List Int)):= bif x28 then bif room (l24.length+1) 8 then RX x22 l23 R x21 (qA.mk ((a4.Nodes.getD x22.toNat du).Kind) ((a4.Nodes.getD x22.toNat du).At) 0 0 false (Rect.mk (Span.mk 0 0) (Span.mk 0 0)) 0 (Rect.mk (Span.mk 0 0) (Span.mk 0 0)) false (qM.mk 0 0 (Box.mk (Span.mk 0 0) (Span.mk 0 0) (Span.mk 0 0)) 0)) (l24++[x22]) else none else bif inb x21 v10.1.length then RX x22 l23 R (w64 (x21+1)) (qA.mk ((a4.Nodes.getD x22.toNat du).Kind) ((a4.Nodes.getD x22.toNat du).At) 0 0 false (Rect.mk (Span.mk 0 0) (Span.mk 0 0)) x21 ((v10.1.getD x21.toNat du).Rect) false (qM.mk 0 0 (Box.mk (Span.mk 0 0) (Span.mk 0 0) (Span.mk 0 0)) 0)) l24
 else none
def zR (a4:Pattern) (v10:(List Leaf)×Int):Nat->Int->Int->(List qA)->(List Int)->Option ((List qA)×(List Int))
 |0,_,_,_,_=>none
 |n+1,x21,x22,l23,l24=> bif decide (x22<(a4.Nodes.length:Int)) then bif inb x22 a4.Nodes.length then bif ((a4.Nodes.getD x22.toNat du).Kind)==2 then RT a4 v10 x21 x22 l23 l24 (zR a4 v10 n) true else RT a4 v10 x21 x22 l23 l24 (zR a4 v10 n) (((a4.Nodes.getD x22.toNat du).Kind)==3) else none else some (l23,l24)
def RA (a1:List qF) (a2:List qH) (a3:List Product) (a4:Pattern) (a5:Saw) (a6:Rates):Option (Int⊕(qS×Int)):= (NX a1 a2 a3 a4 a5 a6).bind λv7=> bif v7 !=0 then some (Sum.inl v7) else (TC a4 a5.Kerf).bind λv10=> bif v10.2 !=0 then some (Sum.inl v10.2) else (JO a1).bind λv13=> (YS a2).bind λv15=> (ZS a3).bind λv17=> (TE a1).bind λv19=> (zR a4 v10 FUEL 0 0 [] []).bind λo38=> (BZ 0 v13 v15 v17 a5.Kerf a5.Trim a5.Pitch a5.Step a6.Chip a6.Dust a6.Fine v19 o38.2 o38.1).bind λv40=> (ZA 0 a4.Frame v13 v15 v17 a5.Kerf a5.Trim a5.Pitch a5.Step a6.Chip a6.Dust a6.Fine v19 o38.2 v40.2).bind λv42=> some (Sum.inr ((qS.mk v13 v15 v17 (Saw.mk a5.Kerf a5.Trim a5.Pitch a5.Step) (Rates.mk a6.Chip a6.Dust a6.Fine) v19 v42 o38.2 []),0))
def JL (a1:qN):Option (Int⊕(qS×Int)):= (RA a1.Solid a1.Defects a1.Products a1.Pattern a1.Saw a1.Rates).bind λv2=> Sum.elim (λv4=> some (Sum.inl v4)) (λv5=> some (Sum.inr ((qS.mk v5.1.solid v5.1.defects v5.1.catalog v5.1.saw v5.1.rates v5.1.length v5.1.nodes v5.1.rips v5.1.sawn),v5.2))) v2
def YA (v2:qQ):Nat->Int->Int->Option Int
 |0,_,_=>none
 |n+1,x4,x5=> bif decide (x5<(v2.Rows.length:Int)) then bif inb x5 v2.Rows.length then (YG (v2.Rows.getD x5.toNat du)).bind λv8=> (YA v2 n) (w64 (x4+v8)) (w64 (x5+1)) else none else some x4
def GC (a1:qQ):Option Int:= (KY a1).bind λv2=> (YA v2 FUEL 0 0).bind λo11=> some (w64 (10*o11))
def JY (v2:(List qF)):Nat->Int->Int->Option Int
 |0,_,_=>none
 |n+1,x4,x5=> bif decide (x5<(v2.length:Int)) then bif inb x5 v2.length then (GC ((v2.getD x5.toNat du).Sec)).bind λv8=> (JY v2 n) (w64 (x4+(w64 (((v2.getD x5.toNat du).Len)*v8)))) (w64 (x5+1)) else none else some x4
def RO (a1:List qF):Option Int:= (PW a1).bind λv2=> (JY v2 FUEL 0 0).bind λo11=> some o11
def WW (a1:List qF):Nat->(List Span)->Int->Int->Option (List Span)
 |0,_,_,_=>none
 |n+1,l3,x4,x5=> bif decide (x5<(a1.length:Int)) then bif inb x5 a1.length then bif inb x5 l3.length then (WW a1 n) (l3.set x5.toNat (Span.mk x4 (w64 (x4+((a1.getD x5.toNat du).Len))))) (w64 (x4+((a1.getD x5.toNat du).Len))) (w64 (x5+1)) else none else none else some l3
def UV (a1:List qF):Option (List Span):= bif mkOk (a1.length:Int) 16 then (WW a1 FUEL (List.replicate ((a1.length:Int).toNat) (Span.mk 0 0)) 0 0).bind λo10=> some o10 else none
def VH (x8:Int) (R:Int->Int->Option Int) (x19:Int):Option Int:= R x19 (w64 (x8+1))
def QL (a2:Box) (v3:(List qF)) (v5:(List Span)):Nat->Int->Int->Option Int
 |0,_,_=>none
 |n+1,x7,x8=> bif decide (x8<(v5.length:Int)) then bif inb x8 v5.length then (XA (v5.getD x8.toNat du) a2.Z).bind λv11=> (YG v11).bind λv13=> bif decide (v13>0) then bif inb x8 v3.length then (XE ((v3.getD x8.toNat du).Sec) (Rect.mk a2.X a2.Y)).bind λv17=> VH x8 (QL a2 v3 v5 n) (w64 (x7+(w64 (v13*v17)))) else none else VH x8 (QL a2 v3 v5 n) x7 else none else some x7
def RV (a1:List qF) (a2:Box):Option Int:= (PW a1).bind λv3=> (UV v3).bind λv5=> (QL a2 v3 v5 FUEL 0 0).bind λo21=> some o21
def wG (a1:Rect) (a2:Span) (a3:List qF) (a4:List qH) (a5:List Product) (a6:Int) (a7:Int) (a8:Int) (a9:Int) (a10:Int) (a11:Int) (a12:Int) (a13:Int) (a14:List Int) (a15:List qA) (a16:List Rect):Option Int:= (RV a3 (Box.mk a1.X a1.Y a2)).bind λv17=> some v17
def JH (x16:Int) (R:(List qM)->Int->Option (List qM)) (l21:List qM):Option (List qM):= R l21 (w64 (x16+1))
def wB (a13:List qA):Nat->(List qM)->Int->Option (List qM)
 |0,_,_=>none
 |n+1,l15,x16=> bif decide (x16<(a13.length:Int)) then bif inb x16 a13.length then bif (a13.getD x16.toNat du).gives then bif room (l15.length+1) 72 then JH x16 (wB a13 n) (l15++[(a13.getD x16.toNat du).board]) else none else JH x16 (wB a13 n) l15 else none else some l15
def wI (a1:List qF) (a2:List qH) (a3:List Product) (a4:Int) (a5:Int) (a6:Int) (a7:Int) (a8:Int) (a9:Int) (a10:Int) (a11:Int) (a12:List Int) (a13:List qA) (a14:List Rect):Option (List qM):= (wB a13 FUEL [] 0).bind λo23=> some o23
def YD (a1:jJ) (a2:Span):Option Span:= some (Span.mk (imax 0 (w64 (a2.A-a1.kerf))) a2.A)
def JF (a1:jJ) (a2:Span):Option Span:= some (Span.mk a2.B (imin (w64 (a2.B+a1.kerf)) a1.length))
def JX (x16:Int) (R:(List Rect)->Int->Option (List Rect)) (l22:List Rect):Option (List Rect):= R l22 (w64 (x16+1))
def wJ (a12:List Int) (a13:List qA):Nat->(List Rect)->Int->Option (List Rect)
 |0,_,_=>none
 |n+1,l15,x16=> bif decide (x16<(a12.length:Int)) then bif inb x16 a12.length then bif inb (a12.getD x16.toNat du) a13.length then bif (a13.getD ((a12.getD x16.toNat du).toNat) du).stands then bif room (l15.length+1) 32 then JX x16 (wJ a12 a13 n) (l15++[(a13.getD ((a12.getD x16.toNat du).toNat) du).rect]) else none else JX x16 (wJ a12 a13 n) l15 else none else none else some l15
def yR (a1:List qF) (a2:List qH) (a3:List Product) (a4:Int) (a5:Int) (a6:Int) (a7:Int) (a8:Int) (a9:Int) (a10:Int) (a11:Int) (a12:List Int) (a13:List qA) (a14:List Rect):Option (List Rect):= (wJ a12 a13 FUEL [] 0).bind λo24=> some o24
def jA (a1:List qF) (a2:List qH) (a3:List Product) (a4:Int) (a5:Int) (a6:Int) (a7:Int) (a8:Int) (a9:Int) (a10:Int) (a11:Int) (a12:List Int) (a13:List qA) (a14:List Rect) (v15:Int):Nat->Int->Int->Option yA
 |0,_,_=>none
 |n+1,x17,x18=> bif decide (x17<(a14.length:Int)) then bif inb x17 a14.length then (wG (a14.getD x17.toNat du) (Span.mk 0 a11) a1 a2 a3 a4 a5 a6 a7 a8 a9 a10 a11 a12 a13 a14).bind λv21=> (jA a1 a2 a3 a4 a5 a6 a7 a8 a9 a10 a11 a12 a13 a14 v15 n) (w64 (x17+1)) (w64 (x18+v21)) else none else some (yA.mk v15 0 0 x18 0)
def jI (a1:List qF) (a2:List qH) (a3:List Product) (a4:Int) (a5:Int) (a6:Int) (a7:Int) (a8:Int) (a9:Int) (a10:Int) (a11:Int) (a12:List Int) (a13:List qA) (a14:List Rect) (o24:yA) (v26:(List qM)):Nat->Int->Int->Int->Int->Option yA
 |0,_,_,_,_=>none
 |n+1,x28,x29,x30,x31=> bif decide (x28<(v26.length:Int)) then bif inb x28 v26.length then (wG (Rect.mk (((v26.getD x28.toNat du).Box).X) (((v26.getD x28.toNat du).Box).Y)) (((v26.getD x28.toNat du).Box).Z) a1 a2 a3 a4 a5 a6 a7 a8 a9 a10 a11 a12 a13 a14).bind λv34=> (YD (jJ.mk a5 a11) (((v26.getD x28.toNat du).Box).Z)).bind λv36=> (wG (Rect.mk (((v26.getD x28.toNat du).Box).X) (((v26.getD x28.toNat du).Box).Y)) v36 a1 a2 a3 a4 a5 a6 a7 a8 a9 a10 a11 a12 a13 a14).bind λv38=> (JF (jJ.mk a5 a11) (((v26.getD x28.toNat du).Box).Z)).bind λv40=> (wG (Rect.mk (((v26.getD x28.toNat du).Box).X) (((v26.getD x28.toNat du).Box).Y)) v40 a1 a2 a3 a4 a5 a6 a7 a8 a9 a10 a11 a12 a13 a14).bind λv42=> (jI a1 a2 a3 a4 a5 a6 a7 a8 a9 a10 a11 a12 a13 a14 o24 v26 n) (w64 (x28+1)) (w64 (x29+v34)) (w64 ((w64 (x30+v38))+v42)) (w64 (x31+(w64 (1000000*((v26.getD x28.toNat du).Worth)))))
 else none else some (yA.mk o24.Log x29 o24.Chips x30 x31)
def jH (a1:List qF) (a2:List qH) (a3:List Product) (a4:Int) (a5:Int) (a6:Int) (a7:Int) (a8:Int) (a9:Int) (a10:Int) (a11:Int) (a12:List Int) (a13:List qA) (a14:List Rect) (v47:(List Rect)):Nat->Int->Int->Option Int
 |0,_,_=>none
 |n+1,x49,x50=> bif decide (x50<(v47.length:Int)) then bif inb x50 v47.length then (wG (v47.getD x50.toNat du) (Span.mk 0 a11) a1 a2 a3 a4 a5 a6 a7 a8 a9 a10 a11 a12 a13 a14).bind λv53=> (jH a1 a2 a3 a4 a5 a6 a7 a8 a9 a10 a11 a12 a13 a14 v47 n) (w64 (x49+v53)) (w64 (x50+1)) else none else some x49
def wM (a1:List qF) (a2:List qH) (a3:List Product) (a4:Int) (a5:Int) (a6:Int) (a7:Int) (a8:Int) (a9:Int) (a10:Int) (a11:Int) (a12:List Int) (a13:List qA) (a14:List Rect):Option (yA×Int):= (RO a1).bind λv15=> (jA a1 a2 a3 a4 a5 a6 a7 a8 a9 a10 a11 a12 a13 a14 v15 FUEL 0 0).bind λo24=> (wI a1 a2 a3 a4 a5 a6 a7 a8 a9 a10 a11 a12 a13 a14).bind λv26=> (jI a1 a2 a3 a4 a5 a6 a7 a8 a9 a10 a11 a12 a13 a14 o24 v26 FUEL 0 o24.Boards o24.Dust o24.Value).bind λo45=> (yR a1 a2 a3 a4 a5 a6 a7 a8 a9 a10 a11 a12 a13 a14).bind λv47=> (jH a1 a2 a3 a4 a5 a6 a7 a8 a9 a10 a11 a12 a13 a14 v47 FUEL 0 0).bind λo56=> some ((yA.mk o45.Log o45.Boards (w64 ((w64 ((w64 (o45.Log-o45.Boards))-o45.Dust))-o56)) o45.Dust (w64 (o45.Value+(w64 ((w64 (a8*(w64 ((w64 ((w64 (o45.Log-o45.Boards))-o45.Dust))-o56))))+(w64 (a9*o45.Dust))))))),o56)
def BX (a1:List qF) (a2:List qH) (a3:List Product) (a4:Int) (a5:Int) (a6:Int) (a7:Int) (a8:Int) (a9:Int) (a10:Int) (a11:Int) (a12:List Int) (a13:List qA) (a14:List Rect):Option Int:= some (a12.length:Int)
def ZV (a1:Int) (a2:Rect) (a3:List qF) (a4:List qH) (a5:List Product) (a9:Int) (a12:Int) (a15:List qA) (x20:Bool):Option (List qA):= bif x20 then some (updL (updL a15 a1.toNat (λx=>(qA.mk x.kind x.at_ x.first x.second true x.rect x.leaf x.planned x.gives x.board))) a1.toNat (λx=>(qA.mk x.kind x.at_ x.first x.second x.stands a2 x.leaf x.planned x.gives x.board))) else bif inb (((updL (updL a15 a1.toNat (λx=>(qA.mk x.kind x.at_ x.first x.second true x.rect x.leaf x.planned x.gives x.board))) a1.toNat (λx=>(qA.mk x.kind x.at_ x.first x.second x.stands a2 x.leaf x.planned x.gives x.board))).getD a1.toNat du).at_) a5.length then (DS a3 a4 (a5.getD (((updL (updL a15 a1.toNat (λx=>(qA.mk x.kind x.at_ x.first x.second true x.rect x.leaf x.planned x.gives x.board))) a1.toNat (λx=>(qA.mk x.kind x.at_ x.first x.second x.stands a2 x.leaf x.planned x.gives x.board))).getD a1.toNat du).at_).toNat du) (Rect.mk (Span.mk a2.X.A (w64 (a2.X.A+(w64 ((((((updL (updL a15 a1.toNat (λx=>(qA.mk x.kind x.at_ x.first x.second true x.rect x.leaf x.planned x.gives x.board))) a1.toNat (λx=>(qA.mk x.kind x.at_ x.first x.second x.stands a2 x.leaf x.planned x.gives x.board))).getD a1.toNat du).planned).X).B)-(((((updL (updL a15 a1.toNat (λx=>(qA.mk x.kind x.at_ x.first x.second true x.rect x.leaf x.planned x.gives x.board))) a1.toNat (λx=>(qA.mk x.kind x.at_ x.first x.second x.stands a2 x.leaf x.planned x.gives x.board))).getD a1.toNat du).planned).X).A)))))) (Span.mk a2.Y.A (w64 (a2.Y.A+(w64 ((((((updL (updL a15 a1.toNat (λx=>(qA.mk x.kind x.at_ x.first x.second true x.rect x.leaf x.planned x.gives x.board))) a1.toNat (λx=>(qA.mk x.kind x.at_ x.first x.second x.stands a2 x.leaf x.planned x.gives x.board))).getD a1.toNat du).planned).Y).B)-(((((updL (updL a15 a1.toNat (λx=>(qA.mk x.kind x.at_ x.first x.second true x.rect x.leaf x.planned x.gives x.board))) a1.toNat (λx=>(qA.mk x.kind x.at_ x.first x.second x.stands a2 x.leaf x.planned x.gives x.board))).getD a1.toNat du).planned).Y).A))))))) a9 a12).bind λv23=>
 bif !v23.2.2 then some (updL (updL a15 a1.toNat (λx=>(qA.mk x.kind x.at_ x.first x.second true x.rect x.leaf x.planned x.gives x.board))) a1.toNat (λx=>(qA.mk x.kind x.at_ x.first x.second x.stands a2 x.leaf x.planned x.gives x.board))) else some (updL (updL (updL (updL a15 a1.toNat (λx=>(qA.mk x.kind x.at_ x.first x.second true x.rect x.leaf x.planned x.gives x.board))) a1.toNat (λx=>(qA.mk x.kind x.at_ x.first x.second x.stands a2 x.leaf x.planned x.gives x.board))) a1.toNat (λx=>(qA.mk x.kind x.at_ x.first x.second x.stands x.rect x.leaf x.planned true x.board))) a1.toNat (λx=>(qA.mk x.kind x.at_ x.first x.second x.stands x.rect x.leaf x.planned x.gives (qM.mk (((updL (updL (updL a15 a1.toNat (λx=>(qA.mk x.kind x.at_ x.first x.second true x.rect x.leaf x.planned x.gives x.board))) a1.toNat (λx=>(qA.mk x.kind x.at_ x.first x.second x.stands a2 x.leaf x.planned x.gives x.board))) a1.toNat (λx=>(qA.mk x.kind x.at_ x.first x.second x.stands x.rect x.leaf x.planned true x.board))).getD a1.toNat du).leaf) (((updL (updL (updL a15 a1.toNat (λx=>(qA.mk x.kind x.at_ x.first x.second true x.rect x.leaf x.planned x.gives x.board))) a1.toNat (λx=>(qA.mk x.kind x.at_ x.first x.second x.stands a2 x.leaf x.planned x.gives x.board))) a1.toNat (λx=>(qA.mk x.kind x.at_ x.first x.second x.stands x.rect x.leaf x.planned true x.board))).getD a1.toNat du).at_) (Box.mk (Span.mk a2.X.A (w64 (a2.X.A+(w64 ((((((updL (updL a15 a1.toNat (λx=>(qA.mk x.kind x.at_ x.first x.second true x.rect x.leaf x.planned x.gives x.board))) a1.toNat (λx=>(qA.mk x.kind x.at_ x.first x.second x.stands a2 x.leaf x.planned x.gives x.board))).getD a1.toNat du).planned).X).B)-(((((updL (updL a15 a1.toNat (λx=>(qA.mk x.kind x.at_ x.first x.second true x.rect x.leaf x.planned x.gives x.board))) a1.toNat (λx=>(qA.mk x.kind x.at_ x.first x.second x.stands a2 x.leaf x.planned x.gives x.board))).getD a1.toNat du).planned).X).A)))))) (Span.mk a2.Y.A (w64 (a2.Y.A+(w64 ((((((updL (updL a15 a1.toNat (λx=>(qA.mk x.kind x.at_ x.first x.second true x.rect x.leaf x.planned x.gives x.board))) a1.toNat (λx=>(qA.mk x.kind x.at_ x.first x.second x.stands a2 x.leaf x.planned x.gives x.board))).getD a1.toNat du).planned).Y).B)-(((((updL (updL a15 a1.toNat (λx=>(qA.mk x.kind x.at_ x.first x.second true x.rect x.leaf x.planned x.gives x.board))) a1.toNat (λx=>(qA.mk x.kind x.at_ x.first x.second x.stands a2 x.leaf x.planned x.gives x.board))).getD a1.toNat du).planned).Y).A)))))) v23.1) v23.2.1))))
 else none
def zT (a1:Int) (a2:Rect) (a3:List qF) (a4:List qH) (a5:List Product) (a6:Int) (a7:Int) (a8:Int) (a9:Int) (a10:Int) (a11:Int) (a12:Int) (a13:Int) (a14:List Int) (a15:List qA) (a16:List Rect):Option (List qA):= bif inb a1 a15.length then bif (((updL (updL a15 a1.toNat (λx=>(qA.mk x.kind x.at_ x.first x.second true x.rect x.leaf x.planned x.gives x.board))) a1.toNat (λx=>(qA.mk x.kind x.at_ x.first x.second x.stands a2 x.leaf x.planned x.gives x.board))).getD a1.toNat du).kind) !=1 then some (updL (updL a15 a1.toNat (λx=>(qA.mk x.kind x.at_ x.first x.second true x.rect x.leaf x.planned x.gives x.board))) a1.toNat (λx=>(qA.mk x.kind x.at_ x.first x.second x.stands a2 x.leaf x.planned x.gives x.board)))
 else bif decide ((w64 (a2.X.B-a2.X.A))<(w64 ((((((updL (updL a15 a1.toNat (λx=>(qA.mk x.kind x.at_ x.first x.second true x.rect x.leaf x.planned x.gives x.board))) a1.toNat (λx=>(qA.mk x.kind x.at_ x.first x.second x.stands a2 x.leaf x.planned x.gives x.board))).getD a1.toNat du).planned).X).B)-(((((updL (updL a15 a1.toNat (λx=>(qA.mk x.kind x.at_ x.first x.second true x.rect x.leaf x.planned x.gives x.board))) a1.toNat (λx=>(qA.mk x.kind x.at_ x.first x.second x.stands a2 x.leaf x.planned x.gives x.board))).getD a1.toNat du).planned).X).A)))) then ZV a1 a2 a3 a4 a5 a9 a12 a15 true else ZV a1 a2 a3 a4 a5 a9 a12 a15 (decide ((w64 (a2.Y.B-a2.Y.A))<(w64 ((((((updL (updL a15 a1.toNat (λx=>(qA.mk x.kind x.at_ x.first x.second true x.rect x.leaf x.planned x.gives x.board))) a1.toNat (λx=>(qA.mk x.kind x.at_ x.first x.second x.stands a2 x.leaf x.planned x.gives x.board))).getD a1.toNat du).planned).Y).B)-(((((updL (updL a15 a1.toNat (λx=>(qA.mk x.kind x.at_ x.first x.second true x.rect x.leaf x.planned x.gives x.board))) a1.toNat (λx=>(qA.mk x.kind x.at_ x.first x.second x.stands a2 x.leaf x.planned x.gives x.board))).getD a1.toNat du).planned).Y).A)))))
 else none
def KJ (a1:Int) (a2:List qF) (a3:List qH) (a4:List Product) (a5:Int) (a6:Int) (a7:Int) (a8:Int) (a9:Int) (a10:Int) (a11:Int) (a12:Int) (a13:List Int) (a14:List qA) (a15:List Rect) (x21:Bool):Option (Int×(List Int)×(List qA)×(List Rect)):= bif x21 then some (9,a13,a14,a15) else bif slOk 1 (a13.length:Int) a13.length then bif room (a15.length+1) 32 then (zT ((a14.getD ((a13.getD (0:Int).toNat du).toNat) du).first) (Rect.mk (((a14.getD ((a13.getD (0:Int).toNat du).toNat) du).rect).X) (Span.mk ((((a14.getD ((a13.getD (0:Int).toNat du).toNat) du).rect).Y).A) (w64 (((a14.getD ((a13.getD (0:Int).toNat du).toNat) du).at_)+a1)))) a2 a3 a4 a5 a6 a7 a8 a9 a10 a11 a12 (a13.drop ((1:Int).toNat)) a14 (a15++[(Rect.mk (((a14.getD ((a13.getD (0:Int).toNat du).toNat) du).rect).X) (Span.mk (w64 (((a14.getD ((a13.getD (0:Int).toNat du).toNat) du).at_)+a1)) (imin (w64 ((w64 (((a14.getD ((a13.getD (0:Int).toNat du).toNat) du).at_)+a1))+a5)) ((((a14.getD ((a13.getD (0:Int).toNat du).toNat) du).rect).Y).B))))])).bind λv25=>
 (zT ((a14.getD ((a13.getD (0:Int).toNat du).toNat) du).second) (Rect.mk (((a14.getD ((a13.getD (0:Int).toNat du).toNat) du).rect).X) (Span.mk (imin (w64 ((w64 (((a14.getD ((a13.getD (0:Int).toNat du).toNat) du).at_)+a1))+a5)) ((((a14.getD ((a13.getD (0:Int).toNat du).toNat) du).rect).Y).B)) ((((a14.getD ((a13.getD (0:Int).toNat du).toNat) du).rect).Y).B))) a2 a3 a4 a5 a6 a7 a8 a9 a10 a11 a12 (a13.drop ((1:Int).toNat)) v25 (a15++[(Rect.mk (((a14.getD ((a13.getD (0:Int).toNat du).toNat) du).rect).X) (Span.mk (w64 (((a14.getD ((a13.getD (0:Int).toNat du).toNat) du).at_)+a1)) (imin (w64 ((w64 (((a14.getD ((a13.getD (0:Int).toNat du).toNat) du).at_)+a1))+a5)) ((((a14.getD ((a13.getD (0:Int).toNat du).toNat) du).rect).Y).B))))])).bind λv27=>
 some (0,(a13.drop ((1:Int).toNat)),v27,(a15++[(Rect.mk (((a14.getD ((a13.getD (0:Int).toNat du).toNat) du).rect).X) (Span.mk (w64 (((a14.getD ((a13.getD (0:Int).toNat du).toNat) du).at_)+a1)) (imin (w64 ((w64 (((a14.getD ((a13.getD (0:Int).toNat du).toNat) du).at_)+a1))+a5)) ((((a14.getD ((a13.getD (0:Int).toNat du).toNat) du).rect).Y).B))))])) else none else none
def KE (a1:Int) (a2:List qF) (a3:List qH) (a4:List Product) (a5:Int) (a6:Int) (a7:Int) (a8:Int) (a9:Int) (a10:Int) (a11:Int) (a12:Int) (a13:List Int) (a14:List qA) (a15:List Rect) (x30:Bool):Option (Int×(List Int)×(List qA)×(List Rect)):= bif x30 then some (9,a13,a14,a15) else bif slOk 1 (a13.length:Int) a13.length then bif room (a15.length+1) 32 then (zT ((a14.getD ((a13.getD (0:Int).toNat du).toNat) du).first) (Rect.mk (Span.mk ((((a14.getD ((a13.getD (0:Int).toNat du).toNat) du).rect).X).A) (w64 (((a14.getD ((a13.getD (0:Int).toNat du).toNat) du).at_)+a1))) (((a14.getD ((a13.getD (0:Int).toNat du).toNat) du).rect).Y)) a2 a3 a4 a5 a6 a7 a8 a9 a10 a11 a12 (a13.drop ((1:Int).toNat)) a14 (a15++[(Rect.mk (Span.mk (w64 (((a14.getD ((a13.getD (0:Int).toNat du).toNat) du).at_)+a1)) (imin (w64 ((w64 (((a14.getD ((a13.getD (0:Int).toNat du).toNat) du).at_)+a1))+a5)) ((((a14.getD ((a13.getD (0:Int).toNat du).toNat) du).rect).X).B))) (((a14.getD ((a13.getD (0:Int).toNat du).toNat) du).rect).Y))])).bind λv34=>
 (zT ((a14.getD ((a13.getD (0:Int).toNat du).toNat) du).second) (Rect.mk (Span.mk (imin (w64 ((w64 (((a14.getD ((a13.getD (0:Int).toNat du).toNat) du).at_)+a1))+a5)) ((((a14.getD ((a13.getD (0:Int).toNat du).toNat) du).rect).X).B)) ((((a14.getD ((a13.getD (0:Int).toNat du).toNat) du).rect).X).B)) (((a14.getD ((a13.getD (0:Int).toNat du).toNat) du).rect).Y)) a2 a3 a4 a5 a6 a7 a8 a9 a10 a11 a12 (a13.drop ((1:Int).toNat)) v34 (a15++[(Rect.mk (Span.mk (w64 (((a14.getD ((a13.getD (0:Int).toNat du).toNat) du).at_)+a1)) (imin (w64 ((w64 (((a14.getD ((a13.getD (0:Int).toNat du).toNat) du).at_)+a1))+a5)) ((((a14.getD ((a13.getD (0:Int).toNat du).toNat) du).rect).X).B))) (((a14.getD ((a13.getD (0:Int).toNat du).toNat) du).rect).Y))])).bind λv36=>
 some (0,(a13.drop ((1:Int).toNat)),v36,(a15++[(Rect.mk (Span.mk (w64 (((a14.getD ((a13.getD (0:Int).toNat du).toNat) du).at_)+a1)) (imin (w64 ((w64 (((a14.getD ((a13.getD (0:Int).toNat du).toNat) du).at_)+a1))+a5)) ((((a14.getD ((a13.getD (0:Int).toNat du).toNat) du).rect).X).B))) (((a14.getD ((a13.getD (0:Int).toNat du).toNat) du).rect).Y))])) else none else none
def wT (a1:Int) (a2:List qF) (a3:List qH) (a4:List Product) (a5:Int) (a6:Int) (a7:Int) (a8:Int) (a9:Int) (a10:Int) (a11:Int) (a12:Int) (a13:List Int) (a14:List qA) (a15:List Rect):Option (Int×(List Int)×(List qA)×(List Rect)):= bif (a13.length:Int)==0 then some (18,a13,a14,a15) else bif inb 0 a13.length then bif inb (a13.getD (0:Int).toNat du) a14.length then bif ((a14.getD ((a13.getD (0:Int).toNat du).toNat) du).kind)==3 then bif decide (a1<=(w64 (((((a14.getD ((a13.getD (0:Int).toNat du).toNat) du).rect).Y).A)-((a14.getD ((a13.getD (0:Int).toNat du).toNat) du).at_)))) then KJ a1 a2 a3 a4 a5 a6 a7 a8 a9 a10 a11 a12 a13 a14 a15 true else KJ a1 a2 a3 a4 a5 a6 a7 a8 a9 a10 a11 a12 a13 a14 a15 (decide (a1≥(w64 (((((a14.getD ((a13.getD (0:Int).toNat du).toNat) du).rect).Y).B)-((a14.getD ((a13.getD (0:Int).toNat du).toNat) du).at_)))))
 else bif decide (a1<=(w64 (((((a14.getD ((a13.getD (0:Int).toNat du).toNat) du).rect).X).A)-((a14.getD ((a13.getD (0:Int).toNat du).toNat) du).at_)))) then KE a1 a2 a3 a4 a5 a6 a7 a8 a9 a10 a11 a12 a13 a14 a15 true else KE a1 a2 a3 a4 a5 a6 a7 a8 a9 a10 a11 a12 a13 a14 a15 (decide (a1≥(w64 (((((a14.getD ((a13.getD (0:Int).toNat du).toNat) du).rect).X).B)-((a14.getD ((a13.getD (0:Int).toNat du).toNat) du).at_))))) else none else none
def yY (a1:List qF) (a2:List qH) (a3:List Product) (a4:Int) (a5:Int) (a6:Int) (a7:Int) (a8:Int) (a9:Int) (a10:Int) (a11:Int) (a12:List Int) (a13:List qA) (a14:List Rect):Option (Int×(List Int)):= bif (a12.length:Int)==0 then some (18,a12) else some (0,[])
def DN :Option Bool:= some false
def BB :Option Bool:= some false
def DV :Option Bool:= some false
def BG (x74:Bool):Option Bool:= some x74
def WQ (v22:qS×Int) (x61:Bool):Option Bool:= bif x61 then some false else (wT (-3) v22.1.solid v22.1.defects v22.1.catalog v22.1.saw.Kerf v22.1.saw.Trim v22.1.saw.Pitch v22.1.saw.Step v22.1.rates.Chip v22.1.rates.Dust v22.1.rates.Fine v22.1.length v22.1.rips v22.1.nodes v22.1.sawn).bind λv63=> bif v63.1 !=0 then some false else (wM v22.1.solid v22.1.defects v22.1.catalog v22.1.saw.Kerf v22.1.saw.Trim v22.1.saw.Pitch v22.1.saw.Step v22.1.rates.Chip v22.1.rates.Dust v22.1.rates.Fine v22.1.length v63.2.1 v63.2.2.1 v63.2.2.2).bind λv66=> (wI v22.1.solid v22.1.defects v22.1.catalog v22.1.saw.Kerf v22.1.saw.Trim v22.1.saw.Pitch v22.1.saw.Step v22.1.rates.Chip v22.1.rates.Dust v22.1.rates.Fine v22.1.length v63.2.1 v63.2.2.1 v63.2.2.2).bind λv68=>
 bif (v68.length:Int)==0 then bif v66.1.Dust==1260000 then (yY v22.1.solid v22.1.defects v22.1.catalog v22.1.saw.Kerf v22.1.saw.Trim v22.1.saw.Pitch v22.1.saw.Step v22.1.rates.Chip v22.1.rates.Dust v22.1.rates.Fine v22.1.length v63.2.1 v63.2.2.1 v63.2.2.2).bind λv72=> BG (v72.1==18) else BG false else BG false
def JA (v6:qS×Int) (v22:qS×Int) (x44:Bool) (l45:List qA) (l46:List Int) (l47:List Rect):Option Bool:= bif x44 then some false else (wM v6.1.solid v6.1.defects v6.1.catalog v6.1.saw.Kerf v6.1.saw.Trim v6.1.saw.Pitch v6.1.saw.Step v6.1.rates.Chip v6.1.rates.Dust v6.1.rates.Fine v6.1.length l46 l45 l47).bind λv49=> (wI v6.1.solid v6.1.defects v6.1.catalog v6.1.saw.Kerf v6.1.saw.Trim v6.1.saw.Pitch v6.1.saw.Step v6.1.rates.Chip v6.1.rates.Dust v6.1.rates.Fine v6.1.length l46 l45 l47).bind λv51=> bif (v51.length:Int) !=1 then WQ v22 true else bif inb 0 v51.length then bif ((((v51.getD ((0:Int).toNat) du).Box).Z).B) !=2000 then WQ v22 true else bif v49.2 !=0 then WQ v22 true else bif v49.1.Dust !=1282050 then
 WQ v22 true else bif v49.1.Chips !=109897950 then WQ v22 true else (yR v6.1.solid v6.1.defects v6.1.catalog v6.1.saw.Kerf v6.1.saw.Trim v6.1.saw.Pitch v6.1.saw.Step v6.1.rates.Chip v6.1.rates.Dust v6.1.rates.Fine v6.1.length l46 l45 l47).bind λv59=> WQ v22 ((v59.length:Int) !=0) else none
def BF (v6:qS×Int) (v22:qS×Int) (x27:Bool):Option Bool:= bif x27 then some false else (wM v6.1.solid v6.1.defects v6.1.catalog v6.1.saw.Kerf v6.1.saw.Trim v6.1.saw.Pitch v6.1.saw.Step v6.1.rates.Chip v6.1.rates.Dust v6.1.rates.Fine v6.1.length v6.1.rips v6.1.nodes v6.1.sawn).bind λv29=> (BX v6.1.solid v6.1.defects v6.1.catalog v6.1.saw.Kerf v6.1.saw.Trim v6.1.saw.Pitch v6.1.saw.Step v6.1.rates.Chip v6.1.rates.Dust v6.1.rates.Fine v6.1.length v6.1.rips v6.1.nodes v6.1.sawn).bind λv31=> bif v31 !=1 then JA v6 v22 true v6.1.nodes v6.1.rips v6.1.sawn else bif v29.2 !=28350000 then JA v6 v22 true v6.1.nodes v6.1.rips v6.1.sawn else bif v29.1.Chips !=91650000 then JA v6 v22 true v6.1.nodes v6.1.rips v6.1.sawn
 else (wT 48 v6.1.solid v6.1.defects v6.1.catalog v6.1.saw.Kerf v6.1.saw.Trim v6.1.saw.Pitch v6.1.saw.Step v6.1.rates.Chip v6.1.rates.Dust v6.1.rates.Fine v6.1.length v6.1.rips v6.1.nodes v6.1.sawn).bind λv36=> bif v36.1 !=9 then JA v6 v22 true v36.2.2.1 v36.2.1 v36.2.2.2 else (wT 0 v6.1.solid v6.1.defects v6.1.catalog v6.1.saw.Kerf v6.1.saw.Trim v6.1.saw.Pitch v6.1.saw.Step v6.1.rates.Chip v6.1.rates.Dust v6.1.rates.Fine v6.1.length v36.2.1 v36.2.2.1 v36.2.2.2).bind λv39=> bif v39.1 !=0 then JA v6 v22 true v39.2.2.1 v39.2.1 v39.2.2.2 else (wT 0 v6.1.solid v6.1.defects v6.1.catalog v6.1.saw.Kerf v6.1.saw.Trim v6.1.saw.Pitch v6.1.saw.Step v6.1.rates.Chip v6.1.rates.Dust v6.1.rates.Fine v6.1.length v39.2.1 v39.2.2.1 v39.2.2.2).bind λv42=>
 JA v6 v22 (v42.1 !=18) v42.2.2.1 v42.2.1 v42.2.2.2
def PX :Option Bool:= (GB).bind λv1=> (JL v1).bind λv3=> Sum.elim (λv5=> (GB).bind λv7=> (JL v7).bind λv9=> Sum.elim (λv11=> bif v5 !=0 then DN else bif v11 !=0 then DN else DN) (λv12=> bif v5 !=0 then BB else bif v12.2 !=0 then BB else BB) v9) (λv6=> (GB).bind λv17=> (JL v17).bind λv19=> Sum.elim (λv21=> bif v6.2 !=0 then DV else bif v21 !=0 then DV else DV) (λv22=> bif v6.2 !=0 then BF v6 v22 true else bif v22.2 !=0 then BF v6 v22 true else BF v6 v22 false) v19) v3
def JK (x16:Bool):Option Bool:= some x16
def JM (v10:Int):Option Bool:= bif (v10==0)==false then (PX).bind λv14=> JK v14 else JK false
def RC (x23:Bool):Option Bool:= some x23
def wS (a1:qN) (v51:(List qM)):Nat->Int->Int->Option Int
 |0,_,_=>none
 |n+1,x53,x54=> bif decide (x54<(v51.length:Int)) then bif inb x54 v51.length then (RV a1.Solid ((v51.getD x54.toNat du).Box)).bind λv57=> (wS a1 v51 n) (w64 (x53+v57)) (w64 (x54+1)) else none else some x53
def wC (a1:qN) (v11:qS×Int) (x24:Int) (R:Int->(List qA)->(List Int)->(List Rect)->Option (Bool⊕Unit)) (l37:List qA) (l38:List Int) (l39:List Rect) (v40:yA×Int) (x49:Bool):Option (Bool⊕Unit):= bif x49 then some (Sum.inl false) else (wI v11.1.solid v11.1.defects v11.1.catalog v11.1.saw.Kerf v11.1.saw.Trim v11.1.saw.Pitch v11.1.saw.Step v11.1.rates.Chip v11.1.rates.Dust v11.1.rates.Fine v11.1.length l38 l37 l39).bind λv51=> (wS a1 v51 FUEL 0 0).bind λo60=> bif o60 !=v40.1.Boards then some (Sum.inl false) else R (w64 (x24+1)) l37 l38 l39
def QS (a1:qN) (v11:qS×Int) (x24:Int) (R:Int->(List qA)->(List Int)->(List Rect)->Option (Bool⊕Unit)) (l37:List qA) (l38:List Int) (l39:List Rect):Option (Bool⊕Unit):= (wM v11.1.solid v11.1.defects v11.1.catalog v11.1.saw.Kerf v11.1.saw.Trim v11.1.saw.Pitch v11.1.saw.Step v11.1.rates.Chip v11.1.rates.Dust v11.1.rates.Fine v11.1.length l38 l37 l39).bind λv40=> (RO a1.Solid).bind λv42=> bif v40.1.Log !=v42 then wC a1 v11 x24 R l37 l38 l39 v40 true else bif decide (v40.1.Boards<0) then wC a1 v11 x24 R l37 l38 l39 v40 true else bif decide (v40.1.Chips<0) then wC a1 v11 x24 R l37 l38 l39 v40 true else bif decide (v40.1.Dust<0) then wC a1 v11 x24 R l37 l38 l39 v40 true else bif decide (v40.2<0) then
 wC a1 v11 x24 R l37 l38 l39 v40 true else wC a1 v11 x24 R l37 l38 l39 v40 ((w64 ((w64 ((w64 (v40.1.Log-v40.1.Boards))-v40.1.Chips))-v40.1.Dust)) !=v40.2)
def QT (a1:qN) (a2:List zH) (v11:qS×Int) (x24:Int) (l25:List qA) (l26:List Int) (l27:List Rect) (R:Int->(List qA)->(List Int)->(List Rect)->Option (Bool⊕Unit)) (x29:Bool):Option (Bool⊕Unit):= bif x29 then bif inb x24 a2.length then bif (a2.getD x24.toNat du).Stop then (yY v11.1.solid v11.1.defects v11.1.catalog v11.1.saw.Kerf v11.1.saw.Trim v11.1.saw.Pitch v11.1.saw.Step v11.1.rates.Chip v11.1.rates.Dust v11.1.rates.Fine v11.1.length l26 l25 l27).bind λv33=> QS a1 v11 x24 R l25 v33.2 l27 else (wT ((a2.getD x24.toNat du).Shift) v11.1.solid v11.1.defects v11.1.catalog v11.1.saw.Kerf v11.1.saw.Trim v11.1.saw.Pitch v11.1.saw.Step v11.1.rates.Chip v11.1.rates.Dust v11.1.rates.Fine v11.1.length l26 l25 l27).bind λv35=>
 QS a1 v11 x24 R v35.2.2.1 v35.2.1 v35.2.2.2 else none else some (Sum.inr ())
def zQ (a1:qN) (a2:List zH) (v11:qS×Int):Nat->Int->(List qA)->(List Int)->(List Rect)->Option (Bool⊕Unit)
 |0,_,_,_,_=>none
 |n+1,x24,l25,l26,l27=> bif decide (x24<(a2.length:Int)) then QT a1 a2 v11 x24 l25 l26 l27 (zQ a1 a2 v11 n) (decide (x24<24)) else QT a1 a2 v11 x24 l25 l26 l27 (zQ a1 a2 v11 n) false
def JG (a1:qN) (a2:List zH) (v11:qS×Int) (x18:Bool):Option Bool:= bif x18 then bif (v11.2==0)==true then (PX).bind λv21=> RC v21 else RC false else (zQ a1 a2 v11 FUEL 0 v11.1.nodes v11.1.rips v11.1.sawn).bind λu65=>Sum.elim (λv66=>some v66) (λo63=> (PX).bind λv67=> some v67) u65
def KK (a1:qN) (a2:List zH):Option Bool:= (NI a1).bind λv3=> bif !v3 then (PX).bind λv6=> some v6 else (JL a1).bind λv8=> Sum.elim (λv10=> bif v10 !=0 then JM v10 else JM v10) (λv11=> bif v11.2 !=0 then JG a1 a2 v11 true else JG a1 a2 v11 false) v8
def qDC (a1:List qF) (a2:List qH) (a3:List Product) (a4:Pattern) (a5:Saw) (a6:Rates):Option Int:= (YZ a1).bind λv7=> bif v7 !=0 then some v7 else (XP a2).bind λv10=> bif v10 !=0 then some v10 else (YH a3).bind λv13=> bif v13 !=0 then some v13 else (UX a5 a6).bind λv16=> bif v16 !=0 then some v16 else (KX a4 a3 a5.Kerf).bind λv19=> some v19
end Saw
end Go.SL

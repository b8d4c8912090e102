import Derived.Test.YtpommeghjpbepaaYa6
set_option linter.unusedVariables false
set_option linter.unusedSimpArgs false
namespace Go.SL
namespace Saw
structure Span where
 A:Int
 B:Int
instance : Inhabited Span:=⟨⟨0,0⟩⟩
def qN (r:Span):List C:=[ci r.A,ci r.B]
structure qP where
 Low:Int
 Rows:List Span
instance : Inhabited qP:=⟨⟨0,[]⟩⟩
def jR (r:qP):List C:=[ci r.Low,tl qN du r.Rows]
structure qG where
 Len:Int
 Sec:qP
instance : Inhabited qG:=⟨⟨0,du⟩⟩
def qF (r:qG):List C:=[ci r.Len,ci r.Sec.Low,tl qN du r.Sec.Rows]
structure Box where
 X:Span
 Y:Span
 Z:Span
instance : Inhabited Box:=⟨⟨du,du,du⟩⟩
def WN (r:Box):List C:=[ci r.X.A,ci r.X.B,ci r.Y.A,ci r.Y.B,ci r.Z.A,ci r.Z.B]
structure qH where
 Kind:Int
 Box:Box
instance : Inhabited qH:=⟨⟨0,du⟩⟩
def qE (r:qH):List C:=[ci r.Kind,ci r.Box.X.A,ci r.Box.X.B,ci r.Box.Y.A,ci r.Box.Y.B,ci r.Box.Z.A,ci r.Box.Z.B]
structure Product where
 Name:ByteArray
 Thick:Int
 Width:Int
 Allow:Int
 Wane:Int
 Lengths:List Int
 Prices:List Int
instance : Inhabited Product:=⟨⟨⟨#[]⟩,0,0,0,0,[],[]⟩⟩
def qD (r:Product):List C:=[cs r.Name,ci r.Thick,ci r.Width,ci r.Allow,ci r.Wane,tl qJ du r.Lengths,tl qJ du r.Prices]
structure Rect where
 X:Span
 Y:Span
instance : Inhabited Rect:=⟨⟨du,du⟩⟩
def qK (r:Rect):List C:=[ci r.X.A,ci r.X.B,ci r.Y.A,ci r.Y.B]
structure Node where
 Kind:Int
 At:Int
instance : Inhabited Node:=⟨⟨0,0⟩⟩
def yH (r:Node):List C:=[ci r.Kind,ci r.At]
structure Pattern where
 Frame:Rect
 Nodes:List Node
instance : Inhabited Pattern:=⟨⟨du,[]⟩⟩
def qO (r:Pattern):List C:=[ci r.Frame.X.A,ci r.Frame.X.B,ci r.Frame.Y.A,ci r.Frame.Y.B,tl yH du r.Nodes]
structure Saw where
 Kerf:Int
 Trim:Int
 Pitch:Int
 Step:Int
instance : Inhabited Saw:=⟨⟨0,0,0,0⟩⟩
def OU (r:Saw):List C:=[ci r.Kerf,ci r.Trim,ci r.Pitch,ci r.Step]
structure Rates where
 Chip:Int
 Dust:Int
 Fine:Int
instance : Inhabited Rates:=⟨⟨0,0,0⟩⟩
def DZ (r:Rates):List C:=[ci r.Chip,ci r.Dust,ci r.Fine]
structure qQ where
 Solid:List qG
 Defects:List qH
 Products:List Product
 Pattern:Pattern
 Saw:Saw
 Rates:Rates
instance : Inhabited qQ:=⟨⟨[],[],[],du,du,du⟩⟩
def qX (r:qQ):List C:=[tl qF du r.Solid,tl qE du r.Defects,tl qD du r.Products,ci r.Pattern.Frame.X.A,ci r.Pattern.Frame.X.B,ci r.Pattern.Frame.Y.A,ci r.Pattern.Frame.Y.B,tl yH du r.Pattern.Nodes,ci r.Saw.Kerf,ci r.Saw.Trim,ci r.Saw.Pitch,ci r.Saw.Step,ci r.Rates.Chip,ci r.Rates.Dust,ci r.Rates.Fine]
structure zG where
 Shift:Int
 Stop:Bool
instance : Inhabited zG:=⟨⟨0,false⟩⟩
def yF (r:zG):List C:=[ci r.Shift,cb r.Stop]
structure qB where
 rect:Rect
 level:Int
instance : Inhabited qB:=⟨⟨du,0⟩⟩
def qM (r:qB):List C:=[ci r.rect.X.A,ci r.rect.X.B,ci r.rect.Y.A,ci r.rect.Y.B,ci r.level]
structure Leaf where
 Rect:Rect
 Product:Int
instance : Inhabited Leaf:=⟨⟨du,0⟩⟩
def wH (r:Leaf):List C:=[ci r.Rect.X.A,ci r.Rect.X.B,ci r.Rect.Y.A,ci r.Rect.Y.B,ci r.Product]
structure qL where
 Leaf:Int
 Product:Int
 Box:Box
 Worth:Int
instance : Inhabited qL:=⟨⟨0,0,du,0⟩⟩
def wE (r:qL):List C:=[ci r.Leaf,ci r.Product,ci r.Box.X.A,ci r.Box.X.B,ci r.Box.Y.A,ci r.Box.Y.B,ci r.Box.Z.A,ci r.Box.Z.B,ci r.Worth]
structure qA where
 kind:Int
 at_:Int
 first:Int
 second:Int
 stands:Bool
 rect:Rect
 leaf:Int
 planned:Rect
 gives:Bool
 board:qL
instance : Inhabited qA:=⟨⟨0,0,0,0,false,du,0,du,false,du⟩⟩
def qC (r:qA):List C:=[ci r.kind,ci r.at_,ci r.first,ci r.second,cb r.stands,ci r.rect.X.A,ci r.rect.X.B,ci r.rect.Y.A,ci r.rect.Y.B,ci r.leaf,ci r.planned.X.A,ci r.planned.X.B,ci r.planned.Y.A,ci r.planned.Y.B,cb r.gives,ci r.board.Leaf,ci r.board.Product,ci r.board.Box.X.A,ci r.board.Box.X.B,ci r.board.Box.Y.A,ci r.board.Box.Y.B,ci r.board.Box.Z.A,ci r.board.Box.Z.B,ci r.board.Worth]
structure qR where
 z:Span
 lack:Int
instance : Inhabited qR:=⟨⟨du,0⟩⟩
def zB (r:qR):List C:=[ci r.z.A,ci r.z.B,ci r.lack]
structure qT where
 product:Product
 rect:Rect
 length:Int
 zones:List qR
 defects:List qH
instance : Inhabited qT:=⟨⟨du,du,0,[],[]⟩⟩
def GG (r:qT):List C:=[cs r.product.Name,ci r.product.Thick,ci r.product.Width,ci r.product.Allow,ci r.product.Wane,tl qJ du r.product.Lengths,tl qJ du r.product.Prices,ci r.rect.X.A,ci r.rect.X.B,ci r.rect.Y.A,ci r.rect.Y.B,ci r.length,tl zB du r.zones,tl qE du r.defects]
structure qS where
 solid:List qG
 defects:List qH
 catalog:List Product
 saw:Saw
 rates:Rates
 length:Int
 nodes:List qA
 rips:List Int
 sawn:List Rect
instance : Inhabited qS:=⟨⟨[],[],[],du,du,0,[],[],[]⟩⟩
structure QT where
 Log:Int
 Boards:Int
 Chips:Int
 Dust:Int
 Value:Int
instance : Inhabited QT:=⟨⟨0,0,0,0,0⟩⟩
def TM (r:QT):List C:=[ci r.Log,ci r.Boards,ci r.Chips,ci r.Dust,ci r.Value]
structure jQ where
 kerf:Int
 length:Int
instance : Inhabited jQ:=⟨⟨0,0⟩⟩
def RN (r:jQ):List C:=[ci r.kerf,ci r.length]
structure qMh where
 Leaf:Int
 Product:Int
 Box:Box
 Worth:Int
instance : Inhabited qMh:=⟨⟨0,0,du,0⟩⟩
def globs :List (Nat×C):=[]
def UU (a1:qQ) (x2:Int) (x3:Int) (R:Int->Int->Option Int) (x5:Bool):Option Int:= bif x5 then bif inb x3 a1.Solid.length then R (imin 20000 (w64 (x2+(imax 0 (imin 20000 ((a1.Solid.getD x3.toNat du).Len)))))) (w64 (x3+1)) else none else some x2
def WI (a1:qQ):Nat->Int->Int->Option Int
 |0,_,_=>none
 |n+1,x2,x3=> bif decide (x3<(a1.Solid.length:Int)) then UU a1 x2 x3 (WI a1 n) (decide (x3<30)) else UU a1 x2 x3 (WI a1 n) false
def KX (a1:qQ):Nat->Int->Int->Option Int
 |0,_,_=>none
 |n+1,x11,x12=> bif decide (x12<(a1.Products.length:Int)) then bif inb x12 a1.Products.length then (KX a1 n) (imax x11 (imin 10 ((((a1.Products.getD x12.toNat du).Lengths).length:Nat):Int))) (w64 (x12+1)) else none else some x11
def NU (a1:qQ) (o16:Int) (x20:Int):Option Int:= some (w64 ((w64 ((w64 (x20*o16))*(w64 (1+(imin 30 (a1.Solid.length:Int))))))*(w64 (1+(imin 140 (a1.Pattern.Nodes.length:Int))))))
def BB (a1:qQ):Option Int:= (WI a1 FUEL 0 0).bind λo9=> (KX a1 FUEL 1 0).bind λo16=> bif decide (a1.Saw.Step>0) then bif nz a1.Saw.Step then NU a1 o16 (w64 (1+(w64 (Int.tdiv o9 a1.Saw.Step)))) else none else NU a1 o16 1
def XL (a1:qQ):Nat->Int->Option (Bool⊕Unit)
 |0,_=>none
 |n+1,x10=> bif decide (x10<(a1.Solid.length:Int)) then bif inb x10 a1.Solid.length then bif decide ((((((a1.Solid.getD x10.toNat du).Sec).Rows).length:Nat):Int)>130) then some (Sum.inl false) else (XL a1 n) (w64 (x10+1)) else none else some (Sum.inr ())
def TI (x18:Int) (R:Int->Option (Bool⊕Unit)) (x23:Bool):Option (Bool⊕Unit):= bif x23 then some (Sum.inl false) else R (w64 (x18+1))
def QH (a1:qQ):Nat->Int->Option (Bool⊕Unit)
 |0,_=>none
 |n+1,x18=> bif decide (x18<(a1.Products.length:Int)) then bif inb x18 a1.Products.length then bif decide (((((a1.Products.getD x18.toNat du).Lengths).length:Nat):Int)>10) then TI x18 (QH a1 n) true else bif decide (((((a1.Products.getD x18.toNat du).Prices).length:Nat):Int)>10) then TI x18 (QH a1 n) true else TI x18 (QH a1 n) (decide (((((a1.Products.getD x18.toNat du).Name).size:Nat):Int)>100)) else none else some (Sum.inr ())
def QE (a1:qQ) (x8:Bool):Option Bool:= bif x8 then some false else (XL a1 FUEL 0).bind λu16=>Sum.elim (λv17=>some v17) (λo14=> (QH a1 FUEL 0).bind λu27=>Sum.elim (λv28=>some v28) (λo25=> some true) u27) u16
def NR (a1:qQ):Option Bool:= bif decide ((a1.Solid.length:Int)>30) then QE a1 true else bif decide ((a1.Defects.length:Int)>70) then QE a1 true else bif decide ((a1.Products.length:Int)>20) then QE a1 true else bif decide ((a1.Pattern.Nodes.length:Int)>140) then QE a1 true else (BB a1).bind λv6=> QE a1 (decide (v6>200000))
def BE (x7:Bool):Option Bool:= some x7
def NL (a1:qQ):Option Bool:= (NR a1).bind λv2=> bif v2 then (BB a1).bind λv5=> BE (decide (v5<=20000)) else BE false
def MQ (a3:Int) (a4:Span):Nat->Int->(List Span)->Option (List Span)
 |0,_,_=>none
 |n+1,x5,l6=> bif decide (x5<a3) then bif room (l6.length+1) 16 then (MQ a3 a4 n) (w64 (x5+1)) (l6++[a4]) else none else some l6
def CQ (a1:Int) (a2:Int) (a3:Int) (a4:Span):Option (List qG):= (MQ a3 a4 FUEL 0 []).bind λo10=> some ([(qG.mk a1 (qP.mk a2 o10))]:List qG)
def CM :Option (List Product):= some ([(Product.mk (ByteArray.mk #[112,108,97,110,107]) 40 100 50 0 [2000] [70])]:List Product)
def GE :Option qQ:= (CQ 3000 (-10) 20 (Span.mk (-100) 100)).bind λv1=> (CM).bind λv3=> some (qQ.mk v1 [] v3 (Pattern.mk (Rect.mk (Span.mk (-50) 55) (Span.mk 0 90)) [(Node.mk 3 42),(Node.mk 1 0),(Node.mk 0 0)]) (Saw.mk 4 5 1 500) (Rates.mk 0 0 0))
def PG (x3:Bool):Option Bool:= some x3
def PM (a1:Span):Option Bool:= bif decide ((imin a1.A a1.B)≥(-600)) then PG (decide ((imax a1.A a1.B)<=600)) else PG false
def YJ (a1:Span):Option Bool:= some (decide (a1.A≥a1.B))
def ZB (a1:qP):Nat->Int->Option (Int⊕Unit)
 |0,_=>none
 |n+1,x6=> bif decide (x6<(a1.Rows.length:Int)) then bif inb x6 a1.Rows.length then (PM (a1.Rows.getD x6.toNat du)).bind λv9=> bif !v9 then some (Sum.inl 9) else (ZB a1 n) (w64 (x6+1)) else none else some (Sum.inr ())
def UA (x27:Int) (R:Int->Option (Int⊕Unit)) (x33:Bool):Option (Int⊕Unit):= bif x33 then some (Sum.inl 19) else R (w64 (x27+1))
def yA (a1:qP):Nat->Int->Option (Int⊕Unit)
 |0,_=>none
 |n+1,x27=> bif decide (x27<(a1.Rows.length:Int)) then bif inb x27 a1.Rows.length then (YJ (a1.Rows.getD x27.toNat du)).bind λv30=> bif v30 then UA x27 (yA a1 n) (!((((a1.Rows.getD x27.toNat du).A)==0)&&((((a1.Rows.getD x27.toNat du).B)==0)&&true))) else UA x27 (yA a1 n) false else none else some (Sum.inr ())
def UH (a1:qP) (x25:Bool):Option Int:= bif x25 then some 19 else (yA a1 FUEL 0).bind λu37=>Sum.elim (λv38=>some v38) (λo35=> some 0) u37
def TV (a1:qP) (x4:Bool):Option Int:= bif x4 then some 9 else (ZB a1 FUEL 0).bind λu14=>Sum.elim (λv15=>some v15) (λo12=> bif (a1.Rows.length:Int)==0 then bif a1.Low !=0 then some 19 else some 0 else bif inb 0 a1.Rows.length then (YJ (a1.Rows.getD (0:Int).toNat du)).bind λv19=> bif v19 then UH a1 true else bif inb (w64 ((a1.Rows.length:Int)-1)) a1.Rows.length then (YJ (a1.Rows.getD (w64 ((a1.Rows.length:Int)-1)).toNat du)).bind λv23=> UH a1 v23 else none else none) u14
def KZ (a1:qP):Option Int:= bif decide ((a1.Rows.length:Int)>120) then some 4 else bif decide (a1.Low<(-60)) then TV a1 true else TV a1 (decide (a1.Low>(w64 (60-(a1.Rows.length:Int)))))
def DY (a1:List qG) (x4:Int) (x5:Int) (R:Int->Int->Option (Int⊕Unit)) (x13:Bool):Option (Int⊕Unit):= bif x13 then some (Sum.inl 9) else R (w64 (x4+((a1.getD x5.toNat du).Len))) (w64 (x5+1))
def QI (a1:List qG):Nat->Int->Int->Option (Int⊕Unit)
 |0,_,_=>none
 |n+1,x4,x5=> bif decide (x5<(a1.length:Int)) then bif inb x5 a1.length then (KZ ((a1.getD x5.toNat du).Sec)).bind λv8=> bif v8 !=0 then some (Sum.inl v8) else bif (((((a1.getD x5.toNat du).Sec).Rows).length:Nat):Int)==0 then some (Sum.inl 18) else bif decide (((a1.getD x5.toNat du).Len)<1) then DY a1 x4 x5 (QI a1 n) true else DY a1 x4 x5 (QI a1 n) (decide (((a1.getD x5.toNat du).Len)>(w64 (20000-x4)))) else none else some (Sum.inr ())
def XF (a1:List qG):Option Int:= bif (a1.length:Int)==0 then some 3 else bif decide ((a1.length:Int)>24) then some 4 else (QI a1 FUEL 0 0).bind λu17=>Sum.elim (λv18=>some v18) (λo15=> some 0) u17
def QF (a1:Span):Option Bool:= some (decide (a1.A≥a1.B))
def TY (x5:Bool):Option Bool:= some x5
def YK (a1:Span) (a2:Int) (a3:Int):Option Bool:= bif decide ((imin a1.A a1.B)≥a2) then TY (decide ((imax a1.A a1.B)<=a3)) else TY false
def PE (x23:Bool):Option Int:= bif x23 then some 9 else some 0
def PR (a1:qH) (x13:Bool):Option Int:= bif x13 then some 19 else (YK a1.Box.X (-600) 600).bind λv15=> bif !v15 then PE true else (YK a1.Box.Y (-600) 600).bind λv18=> bif !v18 then PE true else (YK a1.Box.Z 0 20000).bind λv21=> PE (!v21)
def VF (a1:qH) (x3:Bool):Option Int:= bif x3 then some 10 else (QF a1.Box.X).bind λv5=> bif v5 then PR a1 true else (QF a1.Box.Y).bind λv8=> bif v8 then PR a1 true else (QF a1.Box.Z).bind λv11=> PR a1 v11
def DG (a1:qH):Option Int:= bif decide (a1.Kind<1) then VF a1 true else VF a1 (decide (a1.Kind>6))
def ZW (a1:List qH):Nat->Int->Option (Int⊕Unit)
 |0,_=>none
 |n+1,x3=> bif decide (x3<(a1.length:Int)) then bif inb x3 a1.length then (DG (a1.getD x3.toNat du)).bind λv6=> bif v6 !=0 then some (Sum.inl v6) else (ZW a1 n) (w64 (x3+1)) else none else some (Sum.inr ())
def XV (a1:List qH):Option Int:= bif decide ((a1.length:Int)>64) then some 4 else (ZW a1 FUEL 0).bind λu11=>Sum.elim (λv12=>some v12) (λo9=> some 0) u11
def UE (x3:Bool):Option Bool:= some x3
def KW (a1:Int):Option Bool:= bif decide (97<=a1) then UE (decide (a1<=122)) else UE false
def UJ (x3:Bool):Option Bool:= some x3
def US (a1:Int):Option Bool:= bif decide (48<=a1) then UJ (decide (a1<=57)) else UJ false
def PW (x9:Int) (R:Int->Option (Bool⊕Unit)) (x18:Bool):Option (Bool⊕Unit):= bif x18 then some (Sum.inl false) else R (w64 (x9+1))
def jP (a1:ByteArray):Nat->Int->Option (Bool⊕Unit)
 |0,_=>none
 |n+1,x9=> bif decide (x9<(a1.size:Int)) then bif inb x9 a1.size then (KW (strAt a1 x9.toNat)).bind λv12=> bif !v12 then (US (strAt a1 x9.toNat)).bind λv15=> bif !v15 then PW x9 (jP a1 n) ((strAt a1 x9.toNat) !=95) else PW x9 (jP a1 n) false else PW x9 (jP a1 n) false else none else some (Sum.inr ())
def PO (a1:ByteArray) (x7:Bool):Option Bool:= bif x7 then some false else (jP a1 FUEL 1).bind λu22=>Sum.elim (λv23=>some v23) (λo20=> some true) u22
def GH (a1:ByteArray):Option Bool:= bif decide ((a1.size:Int)<1) then PO a1 true else bif decide ((a1.size:Int)>16) then PO a1 true else bif inb 0 a1.size then (KW (strAt a1 ((0:Int).toNat))).bind λv5=> PO a1 (!v5) else none
def WB (a1:List Product) (a2:ByteArray):Nat->Int->Option ((Int×Bool)⊕Unit)
 |0,_=>none
 |n+1,x3=> bif decide (x3<(a1.length:Int)) then bif inb x3 a1.length then bif strEq ((a1.getD x3.toNat du).Name) a2 then some (Sum.inl (x3,true)) else (WB a1 a2 n) (w64 (x3+1)) else none else some (Sum.inr ())
def GX (a1:List Product) (a2:ByteArray):Option (Int×Bool):= (WB a1 a2 FUEL 0).bind λu9=>Sum.elim (λv10=>some v10) (λo7=> some (0,false)) u9
def RK (x3:Bool):Option Bool:= some x3
def XM (a1:Int):Option Bool:= bif decide (a1≥1) then RK (decide (a1<=600)) else RK false
def DH (a1:Int) (a2:Int):Option Int:= some (w64 (Int.tdiv (w64 ((w64 (a1*(w64 (1000+a2))))+999)) 1000))
def JG (a1:Product) (x9:Bool):Option (Int×Int):= bif x9 then some (0,0) else (DH a1.Thick a1.Allow).bind λv11=> (DH a1.Width a1.Allow).bind λv13=> some (v11,v13)
def YQ (a1:Product):Option (Int×Int):= (XM a1.Thick).bind λv2=> bif !v2 then JG a1 true else (XM a1.Width).bind λv5=> bif !v5 then JG a1 true else bif decide (a1.Allow<0) then JG a1 true else JG a1 (decide (a1.Allow>200))
def WQ (x18:Int) (R:Int->Option (Int⊕Unit)) (x26:Bool):Option (Int⊕Unit):= bif x26 then some (Sum.inl 11) else R (w64 (x18+1))
def WP (a1:Product) (x18:Int) (R:Int->Option (Int⊕Unit)) (x22:Bool):Option (Int⊕Unit):= bif x22 then some (Sum.inl 9) else bif decide (x18>0) then bif inb (w64 (x18-1)) a1.Lengths.length then WQ x18 R (decide ((a1.Lengths.getD x18.toNat du)<=(a1.Lengths.getD (w64 (x18-1)).toNat du))) else none else WQ x18 R false
def zQ (a1:Product):Nat->Int->Option (Int⊕Unit)
 |0,_=>none
 |n+1,x18=> bif decide (x18<(a1.Lengths.length:Int)) then bif inb x18 a1.Lengths.length then bif decide ((a1.Lengths.getD x18.toNat du)<100) then WP a1 x18 (zQ a1 n) true else WP a1 x18 (zQ a1 n) (decide ((a1.Lengths.getD x18.toNat du)>20000)) else none else some (Sum.inr ())
def WM (x32:Int) (R:Int->Option (Int⊕Unit)) (x36:Bool):Option (Int⊕Unit):= bif x36 then some (Sum.inl 9) else R (w64 (x32+1))
def wA (a1:Product):Nat->Int->Option (Int⊕Unit)
 |0,_=>none
 |n+1,x32=> bif decide (x32<(a1.Prices.length:Int)) then bif inb x32 a1.Prices.length then bif decide ((a1.Prices.getD x32.toNat du)<0) then WM x32 (wA a1 n) true else WM x32 (wA a1 n) (decide ((a1.Prices.getD x32.toNat du)>1000000)) else none else some (Sum.inr ())
def jW (a1:Product) (x10:Bool):Option Int:= bif x10 then some 9 else (YQ a1).bind λv12=> bif decide (v12.2>600) then some 9 else bif (a1.Lengths.length:Int)==0 then some 3 else bif decide ((a1.Lengths.length:Int)>8) then some 4 else bif (a1.Prices.length:Int) !=(a1.Lengths.length:Int) then some 19 else (zQ a1 FUEL 0).bind λu30=>Sum.elim (λv31=>some v31) (λo28=> (wA a1 FUEL 0).bind λu40=>Sum.elim (λv41=>some v41) (λo38=> some 0) u40) u30
def jV (a1:Product) (x5:Bool):Option Int:= bif x5 then some 9 else bif decide (a1.Allow<0) then jW a1 true else bif decide (a1.Allow>200) then jW a1 true else bif decide (a1.Wane<0) then jW a1 true else jW a1 (decide (a1.Wane>1000))
def ZX (a1:Product):Option Int:= bif decide (a1.Thick<5) then jV a1 true else bif decide (a1.Thick>300) then jV a1 true else bif decide (a1.Width<a1.Thick) then jV a1 true else jV a1 (decide (a1.Width>600))
def ZC (a1:List Product):Nat->Int->Option (Int⊕Unit)
 |0,_=>none
 |n+1,x3=> bif decide (x3<(a1.length:Int)) then bif inb x3 a1.length then (GH ((a1.getD x3.toNat du).Name)).bind λv6=> bif !v6 then some (Sum.inl 6) else bif slOk 0 x3 a1.length then (GX (a1.take x3.toNat) ((a1.getD x3.toNat du).Name)).bind λv10=> bif v10.2 then some (Sum.inl 7) else (ZX (a1.getD x3.toNat du)).bind λv13=> bif v13 !=0 then some (Sum.inl v13) else (ZC a1 n) (w64 (x3+1)) else none else none else some (Sum.inr ())
def YL (a1:List Product):Option Int:= bif decide ((a1.length:Int)>16) then some 4 else (ZC a1 FUEL 0).bind λu18=>Sum.elim (λv19=>some v19) (λo16=> some 0) u18
def VG (x3:Bool):Option Bool:= some x3
def TE (a1:Int):Option Bool:= bif decide (a1≥1) then VG (decide (a1<=20000)) else VG false
def VM (x3:Bool):Option Bool:= some x3
def RR (a1:Int):Option Bool:= bif decide (a1≥0) then VM (decide (a1<=1000000)) else VM false
def JD (x20:Bool):Option Int:= bif x20 then some 9 else some 0
def TO (a2:Rates) (x12:Bool):Option Int:= bif x12 then some 9 else bif decide (a2.Chip<0) then JD true else bif decide (a2.Chip>1000) then JD true else bif decide (a2.Dust<0) then JD true else bif decide (a2.Dust>1000) then JD true else (RR a2.Fine).bind λv18=> JD (!v18)
def XK (a1:Saw) (a2:Rates) (x6:Bool):Option Int:= bif x6 then some 9 else bif decide (a1.Pitch<1) then TO a2 true else bif decide (a1.Pitch>2000) then TO a2 true else (TE a1.Step).bind λv10=> TO a2 (!v10)
def UZ (a1:Saw) (a2:Rates):Option Int:= bif decide (a1.Kerf<0) then XK a1 a2 true else bif decide (a1.Kerf>20) then XK a1 a2 true else bif decide (a1.Trim<0) then XK a1 a2 true else XK a1 a2 (decide (a1.Trim>20))
def jT (x2:Int) (R:Int->Option (Bool⊕Unit)) (x7:Bool):Option (Bool⊕Unit):= bif x7 then some (Sum.inl false) else R (w64 (x2+1))
def zX (a1:Rect):Nat->Int->Option (Bool⊕Unit)
 |0,_=>none
 |n+1,x2=> bif decide (x2<2) then bif inb x2 2 then bif decide ((([a1.X.A,a1.X.B,a1.Y.A,a1.Y.B]:List Int).getD (x2.toNat*2+0) 0)<(-600)) then jT x2 (zX a1 n) true else bif decide ((([a1.X.A,a1.X.B,a1.Y.A,a1.Y.B]:List Int).getD (x2.toNat*2+1) 0)>600) then jT x2 (zX a1 n) true else jT x2 (zX a1 n) (decide ((([a1.X.A,a1.X.B,a1.Y.A,a1.Y.B]:List Int).getD (x2.toNat*2+0) 0)≥(([a1.X.A,a1.X.B,a1.Y.A,a1.Y.B]:List Int).getD (x2.toNat*2+1) 0))) else none else some (Sum.inr ())
def YA (a1:Rect):Option Bool:= (zX a1 FUEL 0).bind λu11=>Sum.elim (λv12=>some v12) (λo9=> some true) u11
def ZE (a1:Pattern) (a2:Int):Option (Pattern×Int):= some (a1,a2)
def UB (x3:Bool):Option Bool:= some x3
def ZA (a1:Int):Option Bool:= bif a1==2 then UB true else UB (a1==3)
def PC (a1:Rect) (a2:Int):Option Span:= bif a2==2 then some a1.X else some a1.Y
def WA :Option Int:= some 0
def YZ (x15:Bool):Option Int:= bif x15 then some 20 else WA
def jX (a1:Node) (a2:qB) (x6:Bool):Option Int:= bif x6 then some 10 else bif decide (a2.level>64) then some 28 else (ZA a1.Kind).bind λv9=> bif v9 then (PC a2.rect a1.Kind).bind λv12=> bif decide (a1.At<=v12.A) then YZ true else YZ (decide (a1.At≥v12.B)) else WA
def WE (a1:Node) (a2:qB):Option Int:= bif decide (a1.Kind<0) then jX a1 a2 true else bif decide (a1.Kind>3) then jX a1 a2 true else bif a1.Kind==0 then jX a1 a2 (a1.At !=0) else jX a1 a2 false
def CH (a1:Span):Option Int:= bif decide (a1.A≥a1.B) then some 0 else some (IntKind.u64.wrap ((IntKind.u64.wrap (a1.B))-(IntKind.u64.wrap (a1.A))))
def LY (a1:Int):Option Int:= some (w64 (imin a1 9223372036854775807))
def YO (a1:Span):Option Int:= (CH a1).bind λv2=> (LY v2).bind λv4=> some v4
def yV (x18:Bool):Option Int:= bif x18 then some 20 else some 0
def ZG (a1:Rect) (a2:Int) (a3:List Product) (x5:Bool):Option Int:= bif x5 then some 8 else bif inb a2 a3.length then (YQ (a3.getD a2.toNat du)).bind λv8=> (YO a1.X).bind λv10=> (YO a1.Y).bind λv12=> bif v10 !=v8.1 then bif v10 !=v8.2 then yV true else yV (v12 !=v8.1) else bif v12 !=v8.2 then bif v10 !=v8.2 then yV true else yV (v12 !=v8.1) else yV false else none
def PJ (a1:Rect) (a2:Int) (a3:List Product):Option Int:= bif decide (a2<0) then ZG a1 a2 a3 true else ZG a1 a2 a3 (decide (a2≥(a3.length:Int)))
def JU (a1:Int) (a5:Int) (a6:Int) (x16:Int):Option (Nat×Int×Int):= bif x16 !=0 then some (1,x16,a6) else some (0,a5,w64 (a1+1))
def JL (a1:Int) (a2:qB) (a3:Pattern) (a4:List Product) (a5:Int) (a6:Int) (v9:Int) (x12:Bool):Option (Nat×Int×Int):= bif x12 then (PJ a2.rect ((a3.Nodes.getD a1.toNat du).At) a4).bind λv14=> JU a1 a5 a6 v14 else JU a1 a5 a6 v9
def yL (a1:Int) (a2:qB) (a3:Pattern) (a4:List Product) (a5:Int) (a6:Int):Option (Nat×Int×Int):= bif decide (a1≥(a3.Nodes.length:Int)) then some (1,3,a6) else bif inb a1 a3.Nodes.length then (WE (a3.Nodes.getD a1.toNat du) a2).bind λv9=> bif v9==0 then JL a1 a2 a3 a4 a5 a6 v9 (((a3.Nodes.getD a1.toNat du).Kind)==1) else JL a1 a2 a3 a4 a5 a6 v9 false else none
def VU (x5:Rect):Option Rect:= some x5
def XZ (a1:Rect) (a2:Int) (a3:Span):Option Rect:= bif a2==2 then VU (Rect.mk a3 a1.Y) else VU (Rect.mk a1.X a3)
def WF (a1:Rect) (a2:Node) (a3:Int):Option (Rect×Rect×Rect):= (PC a1 a2.Kind).bind λv4=> (XZ a1 a2.Kind (Span.mk v4.A a2.At)).bind λv6=> (XZ a1 a2.Kind (Span.mk a2.At (imin (w64 (a2.At+a3)) v4.B))).bind λv8=> (XZ a1 a2.Kind (Span.mk (imin (w64 (a2.At+a3)) v4.B) v4.B)).bind λv10=> some (v6,v8,v10)
def KQ (x8:Int) (R:(List qB)->Int->Int->Int->Option ((Nat×Int×Int)⊕(Int×Int))) (l25:List qB) (x26:Int) (x27:Int):Option ((Nat×Int×Int)⊕(Int×Int)):= R l25 (w64 (x8+1)) x27 x26
def yM (a1:Pattern) (a2:List Product) (a5:Pattern) (a6:Int):Nat->(List qB)->Int->Int->Int->Option ((Nat×Int×Int)⊕(Int×Int))
 |0,_,_,_,_=>none
 |n+1,l7,x8,x9,x10=> bif decide ((l7.length:Int)>0) then bif inb (w64 ((l7.length:Int)-1)) l7.length then bif slOk 0 (w64 ((l7.length:Int)-1)) l7.length then (yL x8 (l7.getD ((w64 ((l7.length:Int)-1)).toNat) du) a1 a2 x9 x10).bind λv14=> bif !(Nat.beq v14.1 0) then some (Sum.inl (v14.1,v14.2.1,v14.2.2)) else bif decide (x8≥(a5.Nodes.length:Int)) then some (Sum.inl (0,v14.2.1,v14.2.2)) else bif inb x8 a5.Nodes.length then (ZA ((a5.Nodes.getD x8.toNat du).Kind)).bind λv19=> bif v19 then (WF ((l7.getD ((w64 ((l7.length:Int)-1)).toNat) du).rect) (a5.Nodes.getD x8.toNat du) a6).bind λv22=> bif room ((w64 ((l7.length:Int)-1)).toNat+2) 40 then KQ x8 (yM a1 a2 a5 a6 n) ((l7.take ((w64 ((l7.length:Int)-1)).toNat))++[(qB.mk v22.2.2 (w64 (((l7.getD ((w64 ((l7.length:Int)-1)).toNat) du).level)+1))),(qB.mk v22.1 (w64 (((l7.getD ((w64 ((l7.length:Int)-1)).toNat) du).level)+1)))]) v14.2.2 v14.2.1
 else none else KQ x8 (yM a1 a2 a5 a6 n) (l7.take ((w64 ((l7.length:Int)-1)).toNat)) v14.2.2 v14.2.1 else none else none else none else some (Sum.inr (x10,x9))
def KF (a1:Pattern) (a2:List Product) (a3:Int) (a4:Int) (a5:Pattern) (a6:Int):Option (Nat×Int×Int):= (yM a1 a2 a5 a6 FUEL [(qB.mk a5.Frame 1)] 0 a3 a4).bind λu32=>Sum.elim (λv33=>some v33) (λo30=> some (0,o30.2,o30.1)) u32
def JA (a1:Pattern) (a2:Int) (a3:List Product) (x8:Bool):Option Int:= bif x8 then some 9 else bif decide ((a1.Nodes.length:Int)>127) then some 4 else (ZE a1 a2).bind λv11=> (KF a1 a3 0 0 v11.1 v11.2).bind λv13=> bif Nat.beq v13.1 0 then bif decide (v13.2.2<(a1.Nodes.length:Int)) then some 4 else some 0 else bif Nat.beq v13.1 1 then some v13.2.1 else none
def NZ (a1:Pattern) (a2:Int) (a3:List Product):Option Int:= (YA a1.Frame).bind λv4=> bif !v4 then some 19 else bif decide (a2<0) then JA a1 a2 a3 true else JA a1 a2 a3 (decide (a2>20))
def PD (a1:Pattern) (a2:List Product) (a3:Int):Option Int:= (NZ a1 a3 a2).bind λv4=> some v4
def FB (a1:List qG) (a2:List qH) (a3:List Product) (a4:Pattern) (a5:Saw) (a6:Rates):Option Int:= (XF a1).bind λv7=> bif v7 !=0 then some v7 else (XV a2).bind λv10=> bif v10 !=0 then some v10 else (YL a3).bind λv13=> bif v13 !=0 then some v13 else (UZ a5 a6).bind λv16=> bif v16 !=0 then some v16 else (PD a4 a3 a5.Kerf).bind λv19=> some v19
def KH (x4:Bool):Option Int:= bif x4 then some 8 else some 0
def KE (a1:Rect) (a2:Int):Option Int:= bif decide (a2<0) then KH true else KH (decide (a2≥16))
def ZQ (a1:Int) (a4:Int) (a5:Int) (x15:Int):Option (Nat×Int×Int):= bif x15 !=0 then some (1,x15,a5) else some (0,a4,w64 (a1+1))
def ZR (a1:Int) (a2:qB) (a3:Pattern) (a4:Int) (a5:Int) (v8:Int) (x11:Bool):Option (Nat×Int×Int):= bif x11 then (KE a2.rect ((a3.Nodes.getD a1.toNat du).At)).bind λv13=> ZQ a1 a4 a5 v13 else ZQ a1 a4 a5 v8
def wZ (a1:Int) (a2:qB) (a3:Pattern) (a4:Int) (a5:Int):Option (Nat×Int×Int):= bif decide (a1≥(a3.Nodes.length:Int)) then some (1,3,a5) else bif inb a1 a3.Nodes.length then (WE (a3.Nodes.getD a1.toNat du) a2).bind λv8=> bif v8==0 then ZR a1 a2 a3 a4 a5 v8 (((a3.Nodes.getD a1.toNat du).Kind)==1) else ZR a1 a2 a3 a4 a5 v8 false else none
def JO (x7:Int) (R:(List qB)->Int->Int->Int->Option ((Nat×Int×Int)⊕(Int×Int))) (l24:List qB) (x25:Int) (x26:Int):Option ((Nat×Int×Int)⊕(Int×Int)):= R l24 (w64 (x7+1)) x26 x25
def jD (a1:Pattern) (a4:Pattern) (a5:Int):Nat->(List qB)->Int->Int->Int->Option ((Nat×Int×Int)⊕(Int×Int))
 |0,_,_,_,_=>none
 |n+1,l6,x7,x8,x9=> bif decide ((l6.length:Int)>0) then bif inb (w64 ((l6.length:Int)-1)) l6.length then bif slOk 0 (w64 ((l6.length:Int)-1)) l6.length then (wZ x7 (l6.getD ((w64 ((l6.length:Int)-1)).toNat) du) a1 x8 x9).bind λv13=> bif !(Nat.beq v13.1 0) then some (Sum.inl (v13.1,v13.2.1,v13.2.2)) else bif decide (x7≥(a4.Nodes.length:Int)) then some (Sum.inl (0,v13.2.1,v13.2.2)) else bif inb x7 a4.Nodes.length then (ZA ((a4.Nodes.getD x7.toNat du).Kind)).bind λv18=> bif v18 then (WF ((l6.getD ((w64 ((l6.length:Int)-1)).toNat) du).rect) (a4.Nodes.getD x7.toNat du) a5).bind λv21=> bif room ((w64 ((l6.length:Int)-1)).toNat+2) 40 then JO x7 (jD a1 a4 a5 n) ((l6.take ((w64 ((l6.length:Int)-1)).toNat))++[(qB.mk v21.2.2 (w64 (((l6.getD ((w64 ((l6.length:Int)-1)).toNat) du).level)+1))),(qB.mk v21.1 (w64 (((l6.getD ((w64 ((l6.length:Int)-1)).toNat) du).level)+1)))]) v13.2.2 v13.2.1
 else none else JO x7 (jD a1 a4 a5 n) (l6.take ((w64 ((l6.length:Int)-1)).toNat)) v13.2.2 v13.2.1 else none else none else none else some (Sum.inr (x9,x8))
def WW (a1:Pattern) (a2:Int) (a3:Int) (a4:Pattern) (a5:Int):Option (Nat×Int×Int):= (jD a1 a4 a5 FUEL [(qB.mk a4.Frame 1)] 0 a2 a3).bind λu31=>Sum.elim (λv32=>some v32) (λo29=> some (0,o29.2,o29.1)) u31
def KO (a1:Pattern) (a2:Int) (x7:Bool):Option Int:= bif x7 then some 9 else bif decide ((a1.Nodes.length:Int)>127) then some 4 else (ZE a1 a2).bind λv10=> (WW a1 0 0 v10.1 v10.2).bind λv12=> bif Nat.beq v12.1 0 then bif decide (v12.2.2<(a1.Nodes.length:Int)) then some 4 else some 0 else bif Nat.beq v12.1 1 then some v12.2.1 else none
def KD (a1:Pattern) (a2:Int):Option Int:= (YA a1.Frame).bind λv3=> bif !v3 then some 19 else bif decide (a2<0) then KO a1 a2 true else KO a1 a2 (decide (a2>20))
def jY (a1:Int) (a2:qB) (a3:Pattern) (a4:List Leaf):Option (Nat×(List Leaf)):= bif inb a1 a3.Nodes.length then bif ((a3.Nodes.getD a1.toNat du).Kind)==0 then bif room (a4.length+1) 40 then some (0,(a4++[(Leaf.mk a2.rect (-1))])) else none else bif ((a3.Nodes.getD a1.toNat du).Kind)==1 then bif room (a4.length+1) 40 then some (0,(a4++[(Leaf.mk a2.rect ((a3.Nodes.getD a1.toNat du).At))])) else none else some (0,a4) else none
def JM (x6:Int) (R:(List qB)->Int->(List Leaf)->Option ((Nat×(List Leaf))⊕(List Leaf))) (l22:List qB) (l23:List Leaf):Option ((Nat×(List Leaf))⊕(List Leaf)):= R l22 (w64 (x6+1)) l23
def jB (a1:Pattern) (a2:Pattern) (a3:Int):Nat->(List qB)->Int->(List Leaf)->Option ((Nat×(List Leaf))⊕(List Leaf))
 |0,_,_,_=>none
 |n+1,l5,x6,l7=> bif decide ((l5.length:Int)>0) then bif inb (w64 ((l5.length:Int)-1)) l5.length then bif slOk 0 (w64 ((l5.length:Int)-1)) l5.length then (jY x6 (l5.getD ((w64 ((l5.length:Int)-1)).toNat) du) a1 l7).bind λv11=> bif !(Nat.beq v11.1 0) then some (Sum.inl (v11.1,v11.2)) else bif decide (x6≥(a2.Nodes.length:Int)) then some (Sum.inl (0,v11.2)) else bif inb x6 a2.Nodes.length then (ZA ((a2.Nodes.getD x6.toNat du).Kind)).bind λv16=> bif v16 then (WF ((l5.getD ((w64 ((l5.length:Int)-1)).toNat) du).rect) (a2.Nodes.getD x6.toNat du) a3).bind λv19=> bif room ((w64 ((l5.length:Int)-1)).toNat+2) 40 then JM x6 (jB a1 a2 a3 n) ((l5.take ((w64 ((l5.length:Int)-1)).toNat))++[(qB.mk v19.2.2 (w64 (((l5.getD ((w64 ((l5.length:Int)-1)).toNat) du).level)+1))),(qB.mk v19.1 (w64 (((l5.getD ((w64 ((l5.length:Int)-1)).toNat) du).level)+1)))]) v11.2
 else none else JM x6 (jB a1 a2 a3 n) (l5.take ((w64 ((l5.length:Int)-1)).toNat)) v11.2 else none else none else none else some (Sum.inr l7)
def WX (a1:Pattern) (a2:Pattern) (a3:Int) (a4:List Leaf):Option (Nat×(List Leaf)):= (jB a1 a2 a3 FUEL [(qB.mk a2.Frame 1)] 0 a4).bind λu27=>Sum.elim (λv28=>some v28) (λo25=> some (0,o25)) u27
def TL (a1:Pattern) (a2:Int):Option ((List Leaf)×Int):= (KD a1 a2).bind λv3=> bif v3 !=0 then some ([],v3) else (ZE a1 a2).bind λv6=> (WX a1 v6.1 v6.2 []).bind λv8=> bif Nat.beq v8.1 0 then some (v8.2,0) else none
def KG (a1:List qG):Option (List qG):= bif room a1.length 40 then some a1 else none
def PL (a1:List Span):Option (List Span):= bif room a1.length 16 then some a1 else none
def yU (v2:List qG):Nat->(List qG)->Int->Option (List qG)
 |0,_,_=>none
 |n+1,l4,x5=> bif decide (x5<(v2.length:Int)) then bif inb x5 l4.length then (PL (((l4.getD x5.toNat du).Sec).Rows)).bind λv8=> (yU v2 n) (l4.set x5.toNat (qG.mk ((l4.getD x5.toNat du).Len) (qP.mk (((l4.getD x5.toNat du).Sec).Low) v8))) (w64 (x5+1)) else none else some l4
def JW (a1:List qG):Option (List qG):= (KG a1).bind λv2=> (yU v2 FUEL v2 0).bind λo11=> some o11
def YV (a1:List qH):Option (List qH):= bif room a1.length 56 then some a1 else none
def JY (a1:List Product):Option (List Product):= bif room a1.length 96 then some a1 else none
def YS (a1:List Int):Option (List Int):= bif room a1.length 8 then some a1 else none
def jU (v2:List Product):Nat->(List Product)->Int->Option (List Product)
 |0,_,_=>none
 |n+1,l4,x5=> bif decide (x5<(v2.length:Int)) then bif inb x5 l4.length then (YS ((l4.getD x5.toNat du).Lengths)).bind λv8=> (YS (((l4.set x5.toNat (Product.mk ((l4.getD x5.toNat du).Name) ((l4.getD x5.toNat du).Thick) ((l4.getD x5.toNat du).Width) ((l4.getD x5.toNat du).Allow) ((l4.getD x5.toNat du).Wane) v8 ((l4.getD x5.toNat du).Prices))).getD x5.toNat du).Prices)).bind λv10=> (jU v2 n) ((l4.set x5.toNat (Product.mk ((l4.getD x5.toNat du).Name) ((l4.getD x5.toNat du).Thick) ((l4.getD x5.toNat du).Width) ((l4.getD x5.toNat du).Allow) ((l4.getD x5.toNat du).Wane) v8 ((l4.getD x5.toNat du).Prices))).set x5.toNat (Product.mk (((l4.set x5.toNat (Product.mk ((l4.getD x5.toNat du).Name) ((l4.getD x5.toNat du).Thick) ((l4.getD x5.toNat du).Width) ((l4.getD x5.toNat du).Allow) ((l4.getD x5.toNat du).Wane) v8 ((l4.getD x5.toNat du).Prices))).getD x5.toNat du).Name) (((l4.set x5.toNat (Product.mk ((l4.getD x5.toNat du).Name) ((l4.getD x5.toNat du).Thick) ((l4.getD x5.toNat du).Width) ((l4.getD x5.toNat du).Allow) ((l4.getD x5.toNat du).Wane) v8 ((l4.getD x5.toNat du).Prices))).getD x5.toNat du).Thick) (((l4.set x5.toNat (Product.mk ((l4.getD x5.toNat du).Name) ((l4.getD x5.toNat du).Thick) ((l4.getD x5.toNat du).Width) ((l4.getD x5.toNat du).Allow) ((l4.getD x5.toNat du).Wane) v8 ((l4.getD x5.toNat du).Prices))).getD x5.toNat du).Width) (((l4.set x5.toNat (Product.mk ((l4.getD x5.toNat du).Name) ((l4.getD x5.toNat du).Thick) ((l4.getD x5.toNat du).Width) ((l4.getD x5.toNat du).Allow) ((l4.getD x5.toNat du).Wane) v8 ((l4.getD x5.toNat du).Prices))).getD x5.toNat du).Allow) (((l4.set x5.toNat (Product.mk ((l4.getD x5.toNat du).Name) ((l4.getD x5.toNat du).Thick) ((l4.getD x5.toNat du).Width) ((l4.getD x5.toNat du).Allow) ((l4.getD x5.toNat du).Wane) v8 ((l4.getD x5.toNat du).Prices))).getD x5.toNat du).Wane) (((l4.set x5.toNat (Product.mk ((l4.getD x5.toNat du).Name) ((l4.getD x5.toNat du).Thick) ((l4.getD x5.toNat du).Width) ((l4.getD x5.toNat du).Allow) ((l4.getD x5.toNat du).Wane) v8 ((l4.getD x5.toNat du).Prices))).getD x5.toNat du).Lengths) v10)) (w64 (x5+1))
 else none else some l4
def WC (a1:List Product):Option (List Product):= (JY a1).bind λv2=> (jU v2 FUEL v2 0).bind λo13=> some o13
def PZ (a1:List qG):Option (List qG):= (XF a1).bind λv2=> bif v2 !=0 then some ([]:List qG) else some a1
def ZV (v2:(List qG)):Nat->Int->Int->Option Int
 |0,_,_=>none
 |n+1,x4,x5=> bif decide (x5<(v2.length:Int)) then bif inb x5 v2.length then (ZV v2 n) (w64 (x4+((v2.getD x5.toNat du).Len))) (w64 (x5+1)) else none else some x4
def RO (a1:List qG):Option Int:= (PZ a1).bind λv2=> (ZV v2 FUEL 0 0).bind λo9=> some o9
def yC (a1:Int) (a2:List qG) (a3:List qH) (a4:List Product) (a5:Int) (a6:Int) (a7:Int) (a8:Int) (a9:Int) (a10:Int) (a11:Int) (a12:Int) (a13:List Int) (a14:List qA) (R:Int->(List qG)->(List qH)->(List Product)->Int->Int->Int->Int->Int->Int->Int->Int->(List Int)->(List qA)->Option (Int×(List qA))) (x17:Bool):Option (Int×(List qA)):= bif x17 then some (w64 (a1+1),a14) else (R (((updL a14 a1.toNat (λx=>(qA.mk x.kind x.at_ (w64 (a1+1)) x.second x.stands x.rect x.leaf x.planned x.gives x.board))).getD a1.toNat du).first) a2 a3 a4 a5 a6 a7 a8 a9 a10 a11 a12 a13 (updL a14 a1.toNat (λx=>(qA.mk x.kind x.at_ (w64 (a1+1)) x.second x.stands x.rect x.leaf x.planned x.gives x.board)))).bind λv19=> bif Nat.ble (a1.toNat+1) v19.2.length then
 (R (((updL v19.2 a1.toNat (λx=>(qA.mk x.kind x.at_ x.first v19.1 x.stands x.rect x.leaf x.planned x.gives x.board))).getD a1.toNat du).second) a2 a3 a4 a5 a6 a7 a8 a9 a10 a11 a12 a13 (updL v19.2 a1.toNat (λx=>(qA.mk x.kind x.at_ x.first v19.1 x.stands x.rect x.leaf x.planned x.gives x.board)))).bind λv22=> some (v22.1,v22.2) else none
def zS :Nat->Int->(List qG)->(List qH)->(List Product)->Int->Int->Int->Int->Int->Int->Int->Int->(List Int)->(List qA)->Option (Int×(List qA))
 |0,_,_,_,_,_,_,_,_,_,_,_,_,_,_=>none
 |n+1,a1,a2,a3,a4,a5,a6,a7,a8,a9,a10,a11,a12,a13,a14=> bif inb a1 a14.length then bif ((a14.getD a1.toNat du).kind) !=2 then yC a1 a2 a3 a4 a5 a6 a7 a8 a9 a10 a11 a12 a13 a14 (zS n) (((a14.getD a1.toNat du).kind) !=3) else yC a1 a2 a3 a4 a5 a6 a7 a8 a9 a10 a11 a12 a13 a14 (zS n) false else none
def NF (a1:Int) (a2:List qG) (a3:List qH) (a4:List Product) (a5:Int) (a6:Int) (a7:Int) (a8:Int) (a9:Int) (a10:Int) (a11:Int) (a12:Int) (a13:List Int) (a14:List qA):Option (Int×(List qA)):=zS FUEL a1 a2 a3 a4 a5 a6 a7 a8 a9 a10 a11 a12 a13 a14
def QS (x2:Int) (R:Int->Option (Bool⊕Unit)) (x7:Bool):Option (Bool⊕Unit):= bif x7 then some (Sum.inl false) else R (w64 (x2+1))
def wM (a1:Rect):Nat->Int->Option (Bool⊕Unit)
 |0,_=>none
 |n+1,x2=> bif decide (x2<2) then bif inb x2 2 then bif decide ((([a1.X.A,a1.X.B,a1.Y.A,a1.Y.B]:List Int).getD (x2.toNat*2+0) 0)<(-600)) then QS x2 (wM a1 n) true else bif decide ((([a1.X.A,a1.X.B,a1.Y.A,a1.Y.B]:List Int).getD (x2.toNat*2+1) 0)>600) then QS x2 (wM a1 n) true else QS x2 (wM a1 n) (decide ((([a1.X.A,a1.X.B,a1.Y.A,a1.Y.B]:List Int).getD (x2.toNat*2+0) 0)≥(([a1.X.A,a1.X.B,a1.Y.A,a1.Y.B]:List Int).getD (x2.toNat*2+1) 0))) else none else some (Sum.inr ())
def GW (a1:Rect):Option Bool:= (wM a1 FUEL 0).bind λu11=>Sum.elim (λv12=>some v12) (λo9=> some true) u11
def KY (a1:qP):Option qP:= (KZ a1).bind λv2=> bif v2 !=0 then some (qP.mk 0 []) else some a1
def PV (a1:Int) (a2:Int):Option Span:= some (Span.mk (w64 (10*a1)) (w64 (10*a2)))
def XD (a1:Span) (a2:Span):Option Span:= bif decide ((imax a1.A a2.A)≥(imin a1.B a2.B)) then some (Span.mk 0 0) else some (Span.mk (imax a1.A a2.A) (imin a1.B a2.B))
def WD (a2:Rect) (v3:qP):Nat->Int->Int->Option Int
 |0,_,_=>none
 |n+1,x5,x6=> bif decide (x6<(v3.Rows.length:Int)) then bif inb x6 v3.Rows.length then (PV (w64 (v3.Low+x6)) (w64 ((w64 (v3.Low+x6))+1))).bind λv9=> (XD (v3.Rows.getD x6.toNat du) a2.X).bind λv11=> (YO v11).bind λv13=> (XD v9 a2.Y).bind λv15=> (YO v15).bind λv17=> (WD a2 v3 n) (w64 (x5+(w64 (v13*v17)))) (w64 (x6+1)) else none else some x5
def XG (a1:qP) (a2:Rect):Option Int:= (KY a1).bind λv3=> (WD a2 v3 FUEL 0 0).bind λo20=> some o20
def XP (a1:List qG) (a2:Rect):Nat->(List qR)->Int->Int->Option (List qR)
 |0,_,_,_=>none
 |n+1,l3,x4,x5=> bif decide (x5<(a1.length:Int)) then bif inb x5 a1.length then (XG ((a1.getD x5.toNat du).Sec) a2).bind λv8=> bif nz (w64 ((w64 (a2.X.B-a2.X.A))*(w64 (a2.Y.B-a2.Y.A)))) then bif room (l3.length+1) 24 then (XP a1 a2 n) (l3++[(qR.mk (Span.mk x4 (w64 (x4+((a1.getD x5.toNat du).Len)))) (w64 (Int.tdiv (w64 ((w64 ((w64 (1000*(w64 ((w64 ((w64 (a2.X.B-a2.X.A))*(w64 (a2.Y.B-a2.Y.A))))-v8))))+(w64 ((w64 (a2.X.B-a2.X.A))*(w64 (a2.Y.B-a2.Y.A))))))-1)) (w64 ((w64 (a2.X.B-a2.X.A))*(w64 (a2.Y.B-a2.Y.A)))))))]) (w64 (x4+((a1.getD x5.toNat du).Len))) (w64 (x5+1)) else none else none else none else some l3
def NJ (a1:List qG) (a2:Rect):Option (List qR):= (XP a1 a2 FUEL [] 0 0).bind λo13=> some o13
def XJ (a1:qT) (a2:Span):Option Box:= some (Box.mk a1.rect.X a1.rect.Y a2)
def RU (v3:Span) (v5:Span) (v7:Span) (x17:Bool):Option (Box×Bool):= bif x17 then some ((Box.mk (Span.mk 0 0) (Span.mk 0 0) (Span.mk 0 0)),false) else some ((Box.mk v3 v5 v7),true)
def HF (a1:Box) (a2:Box):Option (Box×Bool):= (XD a1.X a2.X).bind λv3=> (XD a1.Y a2.Y).bind λv5=> (XD a1.Z a2.Z).bind λv7=> (QF v3).bind λv9=> bif v9 then RU v3 v5 v7 true else (QF v5).bind λv12=> bif v12 then RU v3 v5 v7 true else (QF v7).bind λv15=> RU v3 v5 v7 v15
def XO (a1:qH) (a2:Box):Option Bool:= (HF a1.Box a2).bind λv3=> some v3.2
def NS (x29:Int) (R:Int->(List qH)->Option (List qH)) (l37:List qH):Option (List qH):= R (w64 (x29+1)) l37
def WG (a2:List qH) (v27:Box):Nat->Int->(List qH)->Option (List qH)
 |0,_,_=>none
 |n+1,x29,l30=> bif decide (x29<(a2.length:Int)) then bif inb x29 a2.length then (XO (a2.getD x29.toNat du) v27).bind λv33=> bif v33 then bif room (l30.length+1) 56 then NS x29 (WG a2 v27 n) (l30++[(a2.getD x29.toNat du)]) else none else NS x29 (WG a2 v27 n) l30 else none else some l30
def UR (a1:List qG) (a2:List qH) (a3:Product) (a4:Rect) (x21:Bool):Option (qT×Bool):= bif x21 then some ((qT.mk (Product.mk (ByteArray.mk #[]) 0 0 0 0 [] []) (Rect.mk (Span.mk 0 0) (Span.mk 0 0)) 0 [] []),false) else (RO a1).bind λv23=> (NJ a1 a4).bind λv25=> (XJ (qT.mk a3 a4 v23 v25 []) (Span.mk 0 v23)).bind λv27=> (WG a2 v27 FUEL 0 []).bind λo39=> some ((qT.mk a3 a4 v23 v25 o39),true)
def PB (a1:List qG) (a2:List qH) (a3:Product) (a4:Rect) (x16:Bool):Option (qT×Bool):= bif x16 then some ((qT.mk (Product.mk (ByteArray.mk #[]) 0 0 0 0 [] []) (Rect.mk (Span.mk 0 0) (Span.mk 0 0)) 0 [] []),false) else (YQ a3).bind λv18=> bif !(((w64 (a4.X.B-a4.X.A))==v18.1)&&(((w64 (a4.Y.B-a4.Y.A))==v18.2)&&true)) then UR a1 a2 a3 a4 (!(((w64 (a4.X.B-a4.X.A))==v18.2)&&(((w64 (a4.Y.B-a4.Y.A))==v18.1)&&true))) else UR a1 a2 a3 a4 false
def MA (a1:List qG) (a2:List qH) (a3:Product) (a4:Rect):Option (qT×Bool):= (XF a1).bind λv5=> bif v5 !=0 then PB a1 a2 a3 a4 true else (XV a2).bind λv8=> bif v8 !=0 then PB a1 a2 a3 a4 true else (YL [a3]).bind λv11=> bif v11 !=0 then PB a1 a2 a3 a4 true else (GW a4).bind λv14=> PB a1 a2 a3 a4 (!v14)
def YT (x5:Bool):Option Bool:= some x5
def BD (a1:Span) (a2:Int):Option Bool:= bif decide (a1.A≥0) then bif decide (a1.A<a1.B) then YT (decide (a1.B<=a2)) else YT false else YT false
def ZD (a1:Product) (a2:Int):Nat->Int->Option ((Int×Bool)⊕Unit)
 |0,_=>none
 |n+1,x3=> bif decide (x3<(a1.Lengths.length:Int)) then bif inb x3 a1.Lengths.length then bif (a1.Lengths.getD x3.toNat du) !=a2 then (ZD a1 a2 n) (w64 (x3+1)) else bif decide (x3≥(a1.Prices.length:Int)) then some (Sum.inl (0,false)) else bif inb x3 a1.Prices.length then some (Sum.inl ((a1.Prices.getD x3.toNat du),true)) else none else none else some (Sum.inr ())
def UQ (a1:Product) (a2:Int):Option (Int×Bool):= (ZD a1 a2 FUEL 0).bind λu11=>Sum.elim (λv12=>some v12) (λo9=> some (0,false)) u11
def BC (x4:Int) (R:Int->Int->Option Int) (x10:Int):Option Int:= R x10 (w64 (x4+1))
def DO (a1:List qR) (x3:Int) (x4:Int) (R:Int->Int->Option Int) (x8:Bool):Option Int:= bif x8 then BC x4 R (imax x3 ((a1.getD x4.toNat du).lack)) else BC x4 R x3
def QC (a1:List qR) (a2:Span):Nat->Int->Int->Option Int
 |0,_,_=>none
 |n+1,x3,x4=> bif decide (x4<(a1.length:Int)) then bif inb x4 a1.length then bif decide ((((a1.getD x4.toNat du).z).A)<a2.B) then DO a1 x3 x4 (QC a1 a2 n) (decide (a2.A<(((a1.getD x4.toNat du).z).B))) else DO a1 x3 x4 (QC a1 a2 n) false else none else some x3
def NN (a1:List qR) (a2:Span):Option Int:= (QC a1 a2 FUEL 0 0).bind λo12=> some o12
def KM (x17:Int) (R:Int->Int->Option ((Int×Bool)⊕Int)) (x24:Int):Option ((Int×Bool)⊕Int):= R x24 (w64 (x17+1))
def zT (a1:qT) (a3:Int) (v14:Box):Nat->Int->Int->Option ((Int×Bool)⊕Int)
 |0,_,_=>none
 |n+1,x16,x17=> bif decide (x17<(a1.defects.length:Int)) then bif inb x17 a1.defects.length then (XO (a1.defects.getD x17.toNat du) v14).bind λv20=> bif !v20 then KM x17 (zT a1 a3 v14 n) x16 else bif ((a1.defects.getD x17.toNat du).Kind)==3 then some (Sum.inl (0,false)) else KM x17 (zT a1 a3 v14 n) (w64 (x16-a3)) else none else some (Sum.inr x16)
def KK (a1:qT) (a2:Span) (a3:Int) (v7:Int×Bool) (x12:Bool):Option (Int×Bool):= bif x12 then some (0,false) else (XJ a1 a2).bind λv14=> (zT a1 a3 v14 FUEL v7.1 0).bind λu28=>Sum.elim (λv29=>some v29) (λo26=> some (imax o26 0,true)) u28
def JH (a1:qT) (a2:Span) (a3:Int):Option (Int×Bool):= (BD a2 a1.length).bind λv4=> bif !v4 then some (0,false) else (UQ a1.product (w64 (a2.B-a2.A))).bind λv7=> bif !v7.2 then KK a1 a2 a3 v7 true else (NN a1.zones a2).bind λv10=> KK a1 a2 a3 v7 (decide (v10>a1.product.Wane))
def NY (x24:Int) (R:Int->Bool->Int->Span->Option (Int×Bool×Span)) (x34:Int) (x35:Bool) (x36:Span):Option (Int×Bool×Span):= R x34 x35 (w64 (x24+1)) x36
def UW (a3:Product) (x19:Int) (x22:Int) (x23:Bool) (x24:Int) (x25:Span) (R:Int->Bool->Int->Span->Option (Int×Bool×Span)) (v28:Int×Bool) (x32:Bool):Option (Int×Bool×Span):= bif x32 then NY x24 R v28.1 true (Span.mk x19 (w64 (x19+(a3.Lengths.getD x24.toNat du)))) else NY x24 R x22 x23 x25
def yI (a3:Product) (a6:Int) (v14:qT×Bool) (x19:Int):Nat->Int->Bool->Int->Span->Option (Int×Bool×Span)
 |0,_,_,_,_=>none
 |n+1,x22,x23,x24,x25=> bif decide (x24<(a3.Lengths.length:Int)) then bif inb x24 a3.Lengths.length then (JH (qT.mk v14.1.product v14.1.rect v14.1.length v14.1.zones v14.1.defects) (Span.mk x19 (w64 (x19+(a3.Lengths.getD x24.toNat du)))) a6).bind λv28=> bif v28.2 then bif !x23 then UW a3 x19 x22 x23 x24 x25 (yI a3 a6 v14 x19 n) v28 true else UW a3 x19 x22 x23 x24 x25 (yI a3 a6 v14 x19 n) v28 (decide (v28.1>x22)) else UW a3 x19 x22 x23 x24 x25 (yI a3 a6 v14 x19 n) v28 false else none else some (x22,x23,x25)
def YM (a3:Product) (a5:Int) (a6:Int) (v14:qT×Bool):Nat->Int->Bool->Int->Span->Option (Int×Bool×Span)
 |0,_,_,_,_=>none
 |n+1,x17,x18,x19,x20=> bif decide (x19<v14.1.length) then (yI a3 a6 v14 x19 FUEL x17 x18 0 x20).bind λo40=> (YM a3 a5 a6 v14 n) o40.1 o40.2.1 (w64 (x19+a5)) o40.2.2 else some (x17,x18,x20)
def NT (a1:List qG) (a2:List qH) (a3:Product) (a4:Rect) (a5:Int) (a6:Int) (x12:Bool):Option (Span×Int×Bool):= bif x12 then some ((Span.mk 0 0),0,false) else (MA a1 a2 a3 a4).bind λv14=> bif !v14.2 then some ((Span.mk 0 0),0,false) else (YM a3 a5 a6 v14 FUEL 0 false 0 (Span.mk 0 0)).bind λo45=> some (o45.2.2,o45.1,o45.2.1)
def DS (a1:List qG) (a2:List qH) (a3:Product) (a4:Rect) (a5:Int) (a6:Int):Option (Span×Int×Bool):= (TE a5).bind λv7=> bif !v7 then NT a1 a2 a3 a4 a5 a6 true else (RR a6).bind λv10=> NT a1 a2 a3 a4 a5 a6 (!v10)
def JZ (a1:Int) (a2:Rect) (a3:List qG) (a4:List qH) (a5:List Product) (a9:Int) (a12:Int) (a15:List qA) (x19:Bool):Option (List qA):= bif x19 then some (updL (updL a15 a1.toNat (λx=>(qA.mk x.kind x.at_ x.first x.second true x.rect x.leaf x.planned x.gives x.board))) a1.toNat (λx=>(qA.mk x.kind x.at_ x.first x.second x.stands a2 x.leaf x.planned x.gives x.board))) else bif inb (((updL (updL a15 a1.toNat (λx=>(qA.mk x.kind x.at_ x.first x.second true x.rect x.leaf x.planned x.gives x.board))) a1.toNat (λx=>(qA.mk x.kind x.at_ x.first x.second x.stands a2 x.leaf x.planned x.gives x.board))).getD a1.toNat du).at_) a5.length then (DS a3 a4 (a5.getD (((updL (updL a15 a1.toNat (λx=>(qA.mk x.kind x.at_ x.first x.second true x.rect x.leaf x.planned x.gives x.board))) a1.toNat (λx=>(qA.mk x.kind x.at_ x.first x.second x.stands a2 x.leaf x.planned x.gives x.board))).getD a1.toNat du).at_).toNat du) (Rect.mk (Span.mk a2.X.A (w64 (a2.X.A+(w64 ((((((updL (updL a15 a1.toNat (λx=>(qA.mk x.kind x.at_ x.first x.second true x.rect x.leaf x.planned x.gives x.board))) a1.toNat (λx=>(qA.mk x.kind x.at_ x.first x.second x.stands a2 x.leaf x.planned x.gives x.board))).getD a1.toNat du).planned).X).B)-(((((updL (updL a15 a1.toNat (λx=>(qA.mk x.kind x.at_ x.first x.second true x.rect x.leaf x.planned x.gives x.board))) a1.toNat (λx=>(qA.mk x.kind x.at_ x.first x.second x.stands a2 x.leaf x.planned x.gives x.board))).getD a1.toNat du).planned).X).A)))))) (Span.mk a2.Y.A (w64 (a2.Y.A+(w64 ((((((updL (updL a15 a1.toNat (λx=>(qA.mk x.kind x.at_ x.first x.second true x.rect x.leaf x.planned x.gives x.board))) a1.toNat (λx=>(qA.mk x.kind x.at_ x.first x.second x.stands a2 x.leaf x.planned x.gives x.board))).getD a1.toNat du).planned).Y).B)-(((((updL (updL a15 a1.toNat (λx=>(qA.mk x.kind x.at_ x.first x.second true x.rect x.leaf x.planned x.gives x.board))) a1.toNat (λx=>(qA.mk x.kind x.at_ x.first x.second x.stands a2 x.leaf x.planned x.gives x.board))).getD a1.toNat du).planned).Y).A))))))) a9 a12).bind λv22=>
 bif !v22.2.2 then some (updL (updL a15 a1.toNat (λx=>(qA.mk x.kind x.at_ x.first x.second true x.rect x.leaf x.planned x.gives x.board))) a1.toNat (λx=>(qA.mk x.kind x.at_ x.first x.second x.stands a2 x.leaf x.planned x.gives x.board))) else some (updL (updL (updL (updL a15 a1.toNat (λx=>(qA.mk x.kind x.at_ x.first x.second true x.rect x.leaf x.planned x.gives x.board))) a1.toNat (λx=>(qA.mk x.kind x.at_ x.first x.second x.stands a2 x.leaf x.planned x.gives x.board))) a1.toNat (λx=>(qA.mk x.kind x.at_ x.first x.second x.stands x.rect x.leaf x.planned true x.board))) a1.toNat (λx=>(qA.mk x.kind x.at_ x.first x.second x.stands x.rect x.leaf x.planned x.gives (qL.mk (((updL (updL (updL a15 a1.toNat (λx=>(qA.mk x.kind x.at_ x.first x.second true x.rect x.leaf x.planned x.gives x.board))) a1.toNat (λx=>(qA.mk x.kind x.at_ x.first x.second x.stands a2 x.leaf x.planned x.gives x.board))) a1.toNat (λx=>(qA.mk x.kind x.at_ x.first x.second x.stands x.rect x.leaf x.planned true x.board))).getD a1.toNat du).leaf) (((updL (updL (updL a15 a1.toNat (λx=>(qA.mk x.kind x.at_ x.first x.second true x.rect x.leaf x.planned x.gives x.board))) a1.toNat (λx=>(qA.mk x.kind x.at_ x.first x.second x.stands a2 x.leaf x.planned x.gives x.board))) a1.toNat (λx=>(qA.mk x.kind x.at_ x.first x.second x.stands x.rect x.leaf x.planned true x.board))).getD a1.toNat du).at_) (Box.mk (Span.mk a2.X.A (w64 (a2.X.A+(w64 ((((((updL (updL a15 a1.toNat (λx=>(qA.mk x.kind x.at_ x.first x.second true x.rect x.leaf x.planned x.gives x.board))) a1.toNat (λx=>(qA.mk x.kind x.at_ x.first x.second x.stands a2 x.leaf x.planned x.gives x.board))).getD a1.toNat du).planned).X).B)-(((((updL (updL a15 a1.toNat (λx=>(qA.mk x.kind x.at_ x.first x.second true x.rect x.leaf x.planned x.gives x.board))) a1.toNat (λx=>(qA.mk x.kind x.at_ x.first x.second x.stands a2 x.leaf x.planned x.gives x.board))).getD a1.toNat du).planned).X).A)))))) (Span.mk a2.Y.A (w64 (a2.Y.A+(w64 ((((((updL (updL a15 a1.toNat (λx=>(qA.mk x.kind x.at_ x.first x.second true x.rect x.leaf x.planned x.gives x.board))) a1.toNat (λx=>(qA.mk x.kind x.at_ x.first x.second x.stands a2 x.leaf x.planned x.gives x.board))).getD a1.toNat du).planned).Y).B)-(((((updL (updL a15 a1.toNat (λx=>(qA.mk x.kind x.at_ x.first x.second true x.rect x.leaf x.planned x.gives x.board))) a1.toNat (λx=>(qA.mk x.kind x.at_ x.first x.second x.stands a2 x.leaf x.planned x.gives x.board))).getD a1.toNat du).planned).Y).A)))))) v22.1) v22.2.1))))
 else none
def ZL (a1:Int) (a2:Rect) (a3:List qG) (a4:List qH) (a5:List Product) (a6:Int) (a7:Int) (a8:Int) (a9:Int) (a10:Int) (a11:Int) (a12:Int) (a13:Int) (a14:List Int) (a15:List qA):Option (List qA):= bif inb a1 a15.length then bif (((updL (updL a15 a1.toNat (λx=>(qA.mk x.kind x.at_ x.first x.second true x.rect x.leaf x.planned x.gives x.board))) a1.toNat (λx=>(qA.mk x.kind x.at_ x.first x.second x.stands a2 x.leaf x.planned x.gives x.board))).getD a1.toNat du).kind) !=1 then some (updL (updL a15 a1.toNat (λx=>(qA.mk x.kind x.at_ x.first x.second true x.rect x.leaf x.planned x.gives x.board))) a1.toNat (λx=>(qA.mk x.kind x.at_ x.first x.second x.stands a2 x.leaf x.planned x.gives x.board))) else bif decide ((w64 (a2.X.B-a2.X.A))<(w64 ((((((updL (updL a15 a1.toNat (λx=>(qA.mk x.kind x.at_ x.first x.second true x.rect x.leaf x.planned x.gives x.board))) a1.toNat (λx=>(qA.mk x.kind x.at_ x.first x.second x.stands a2 x.leaf x.planned x.gives x.board))).getD a1.toNat du).planned).X).B)-(((((updL (updL a15 a1.toNat (λx=>(qA.mk x.kind x.at_ x.first x.second true x.rect x.leaf x.planned x.gives x.board))) a1.toNat (λx=>(qA.mk x.kind x.at_ x.first x.second x.stands a2 x.leaf x.planned x.gives x.board))).getD a1.toNat du).planned).X).A)))) then
 JZ a1 a2 a3 a4 a5 a9 a12 a15 true else JZ a1 a2 a3 a4 a5 a9 a12 a15 (decide ((w64 (a2.Y.B-a2.Y.A))<(w64 ((((((updL (updL a15 a1.toNat (λx=>(qA.mk x.kind x.at_ x.first x.second true x.rect x.leaf x.planned x.gives x.board))) a1.toNat (λx=>(qA.mk x.kind x.at_ x.first x.second x.stands a2 x.leaf x.planned x.gives x.board))).getD a1.toNat du).planned).Y).B)-(((((updL (updL a15 a1.toNat (λx=>(qA.mk x.kind x.at_ x.first x.second true x.rect x.leaf x.planned x.gives x.board))) a1.toNat (λx=>(qA.mk x.kind x.at_ x.first x.second x.stands a2 x.leaf x.planned x.gives x.board))).getD a1.toNat du).planned).Y).A))))) else none
def TG (x22:Int) (l23:List qA) (R:Int->Int->(List qA)->(List Int)->Option ((List qA)×(List Int))) (x32:Int) (x33:qA) (l34:List Int):Option ((List qA)×(List Int)):= bif room (l23.length+1) 192 then R x32 (w64 (x22+1)) (l23++[x33]) l34 else none
def TN (a4:Pattern) (v10:(List Leaf)×Int) (x21:Int) (x22:Int) (l23:List qA) (l24:List Int) (R:Int->Int->(List qA)->(List Int)->Option ((List qA)×(List Int))) (x28:Bool):Option ((List qA)×(List Int)):= bif x28 then bif room (l24.length+1) 8 then TG x22 l23 R x21 (qA.mk ((a4.Nodes.getD x22.toNat du).Kind) ((a4.Nodes.getD x22.toNat du).At) 0 0 false (Rect.mk (Span.mk 0 0) (Span.mk 0 0)) 0 (Rect.mk (Span.mk 0 0) (Span.mk 0 0)) false (qL.mk 0 0 (Box.mk (Span.mk 0 0) (Span.mk 0 0) (Span.mk 0 0)) 0)) (l24++[x22]) else none else bif inb x21 v10.1.length then TG x22 l23 R (w64 (x21+1)) (qA.mk ((a4.Nodes.getD x22.toNat du).Kind) ((a4.Nodes.getD x22.toNat du).At) 0 0 false (Rect.mk (Span.mk 0 0) (Span.mk 0 0)) x21 ((v10.1.getD x21.toNat du).Rect) false (qL.mk 0 0 (Box.mk (Span.mk 0 0) (Span.mk 0 0) (Span.mk 0 0)) 0)) l24
 else none
def zW (a4:Pattern) (v10:(List Leaf)×Int):Nat->Int->Int->(List qA)->(List Int)->Option ((List qA)×(List Int))
 |0,_,_,_,_=>none
 |n+1,x21,x22,l23,l24=> bif decide (x22<(a4.Nodes.length:Int)) then bif inb x22 a4.Nodes.length then bif ((a4.Nodes.getD x22.toNat du).Kind)==2 then TN a4 v10 x21 x22 l23 l24 (zW a4 v10 n) true else TN a4 v10 x21 x22 l23 l24 (zW a4 v10 n) (((a4.Nodes.getD x22.toNat du).Kind)==3) else none else some (l23,l24)
def RB (a1:List qG) (a2:List qH) (a3:List Product) (a4:Pattern) (a5:Saw) (a6:Rates):Option (Int⊕(qS×Int)):= (FB a1 a2 a3 a4 a5 a6).bind λv7=> bif v7 !=0 then some (Sum.inl v7) else (TL a4 a5.Kerf).bind λv10=> bif v10.2 !=0 then some (Sum.inl v10.2) else (JW a1).bind λv13=> (YV a2).bind λv15=> (WC a3).bind λv17=> (RO a1).bind λv19=> (zW a4 v10 FUEL 0 0 [] []).bind λo38=> (NF 0 v13 v15 v17 a5.Kerf a5.Trim a5.Pitch a5.Step a6.Chip a6.Dust a6.Fine v19 o38.2 o38.1).bind λv40=> (ZL 0 a4.Frame v13 v15 v17 a5.Kerf a5.Trim a5.Pitch a5.Step a6.Chip a6.Dust a6.Fine v19 o38.2 v40.2).bind λv42=> some (Sum.inr ((qS.mk v13 v15 v17 (Saw.mk a5.Kerf a5.Trim a5.Pitch a5.Step) (Rates.mk a6.Chip a6.Dust a6.Fine) v19 v42 o38.2 []),0))
def JN (a1:qQ):Option (Int⊕(qS×Int)):= (RB a1.Solid a1.Defects a1.Products a1.Pattern a1.Saw a1.Rates).bind λv2=> Sum.elim (λv4=> some (Sum.inl v4)) (λv5=> some (Sum.inr ((qS.mk v5.1.solid v5.1.defects v5.1.catalog v5.1.saw v5.1.rates v5.1.length v5.1.nodes v5.1.rips v5.1.sawn),v5.2))) v2
def YE (v2:qP):Nat->Int->Int->Option Int
 |0,_,_=>none
 |n+1,x4,x5=> bif decide (x5<(v2.Rows.length:Int)) then bif inb x5 v2.Rows.length then (YO (v2.Rows.getD x5.toNat du)).bind λv8=> (YE v2 n) (w64 (x4+v8)) (w64 (x5+1)) else none else some x4
def GO (a1:qP):Option Int:= (KY a1).bind λv2=> (YE v2 FUEL 0 0).bind λo11=> some (w64 (10*o11))
def YD (v2:(List qG)):Nat->Int->Int->Option Int
 |0,_,_=>none
 |n+1,x4,x5=> bif decide (x5<(v2.length:Int)) then bif inb x5 v2.length then (GO ((v2.getD x5.toNat du).Sec)).bind λv8=> (YD v2 n) (w64 (x4+(w64 (((v2.getD x5.toNat du).Len)*v8)))) (w64 (x5+1)) else none else some x4
def GK (a1:List qG):Option Int:= (PZ a1).bind λv2=> (YD v2 FUEL 0 0).bind λo11=> some o11
def JF (a1:List qG):Nat->(List Span)->Int->Int->Option (List Span)
 |0,_,_,_=>none
 |n+1,l3,x4,x5=> bif decide (x5<(a1.length:Int)) then bif inb x5 a1.length then bif inb x5 l3.length then (JF a1 n) (l3.set x5.toNat (Span.mk x4 (w64 (x4+((a1.getD x5.toNat du).Len))))) (w64 (x4+((a1.getD x5.toNat du).Len))) (w64 (x5+1)) else none else none else some l3
def UN (a1:List qG):Option (List Span):= bif mkOk (a1.length:Int) 16 then (JF a1 FUEL (List.replicate ((a1.length:Int).toNat) (Span.mk 0 0)) 0 0).bind λo10=> some o10 else none
def VO (x8:Int) (R:Int->Int->Option Int) (x19:Int):Option Int:= R x19 (w64 (x8+1))
def QR (a2:Box) (v3:(List qG)) (v5:(List Span)):Nat->Int->Int->Option Int
 |0,_,_=>none
 |n+1,x7,x8=> bif decide (x8<(v5.length:Int)) then bif inb x8 v5.length then (XD (v5.getD x8.toNat du) a2.Z).bind λv11=> (YO v11).bind λv13=> bif decide (v13>0) then bif inb x8 v3.length then (XG ((v3.getD x8.toNat du).Sec) (Rect.mk a2.X a2.Y)).bind λv17=> VO x8 (QR a2 v3 v5 n) (w64 (x7+(w64 (v13*v17)))) else none else VO x8 (QR a2 v3 v5 n) x7 else none else some x7
def DE (a1:List qG) (a2:Box):Option Int:= (PZ a1).bind λv3=> (UN v3).bind λv5=> (QR a2 v3 v5 FUEL 0 0).bind λo21=> some o21
def wP (a1:Rect) (a2:Span) (a3:List qG) (a4:List qH) (a5:List Product) (a6:Int) (a7:Int) (a8:Int) (a9:Int) (a10:Int) (a11:Int) (a12:Int) (a13:Int) (a14:List Int) (a15:List qA) (a16:List Rect):Option Int:= (DE a3 (Box.mk a1.X a1.Y a2)).bind λv17=> some v17
def JS (x16:Int) (R:(List qL)->Int->Option (List qL)) (l21:List qL):Option (List qL):= R l21 (w64 (x16+1))
def wK (a13:List qA):Nat->(List qL)->Int->Option (List qL)
 |0,_,_=>none
 |n+1,l15,x16=> bif decide (x16<(a13.length:Int)) then bif inb x16 a13.length then bif (a13.getD x16.toNat du).gives then bif room (l15.length+1) 72 then JS x16 (wK a13 n) (l15++[(a13.getD x16.toNat du).board]) else none else JS x16 (wK a13 n) l15 else none else some l15
def wG (a1:List qG) (a2:List qH) (a3:List Product) (a4:Int) (a5:Int) (a6:Int) (a7:Int) (a8:Int) (a9:Int) (a10:Int) (a11:Int) (a12:List Int) (a13:List qA) (a14:List Rect):Option (List qL):= (wK a13 FUEL [] 0).bind λo23=> some o23
def YH (a1:jQ) (a2:Span):Option Span:= some (Span.mk (imax 0 (w64 (a2.A-a1.kerf))) a2.A)
def JT (a1:jQ) (a2:Span):Option Span:= some (Span.mk a2.B (imin (w64 (a2.B+a1.kerf)) a1.length))
def YF (x16:Int) (R:(List Rect)->Int->Option (List Rect)) (l22:List Rect):Option (List Rect):= R l22 (w64 (x16+1))
def wQ (a12:List Int) (a13:List qA):Nat->(List Rect)->Int->Option (List Rect)
 |0,_,_=>none
 |n+1,l15,x16=> bif decide (x16<(a12.length:Int)) then bif inb x16 a12.length then bif inb (a12.getD x16.toNat du) a13.length then bif (a13.getD ((a12.getD x16.toNat du).toNat) du).stands then bif room (l15.length+1) 32 then YF x16 (wQ a12 a13 n) (l15++[(a13.getD ((a12.getD x16.toNat du).toNat) du).rect]) else none else YF x16 (wQ a12 a13 n) l15 else none else none else some l15
def yY (a1:List qG) (a2:List qH) (a3:List Product) (a4:Int) (a5:Int) (a6:Int) (a7:Int) (a8:Int) (a9:Int) (a10:Int) (a11:Int) (a12:List Int) (a13:List qA) (a14:List Rect):Option (List Rect):= (wQ a12 a13 FUEL [] 0).bind λo24=> some o24
def jI (a1:List qG) (a2:List qH) (a3:List Product) (a4:Int) (a5:Int) (a6:Int) (a7:Int) (a8:Int) (a9:Int) (a10:Int) (a11:Int) (a12:List Int) (a13:List qA) (a14:List Rect) (v15:Int):Nat->Int->Int->Option QT
 |0,_,_=>none
 |n+1,x17,x18=> bif decide (x17<(a14.length:Int)) then bif inb x17 a14.length then (wP (a14.getD x17.toNat du) (Span.mk 0 a11) a1 a2 a3 a4 a5 a6 a7 a8 a9 a10 a11 a12 a13 a14).bind λv21=> (jI a1 a2 a3 a4 a5 a6 a7 a8 a9 a10 a11 a12 a13 a14 v15 n) (w64 (x17+1)) (w64 (x18+v21)) else none else some (QT.mk v15 0 0 x18 0)
def jL (a1:List qG) (a2:List qH) (a3:List Product) (a4:Int) (a5:Int) (a6:Int) (a7:Int) (a8:Int) (a9:Int) (a10:Int) (a11:Int) (a12:List Int) (a13:List qA) (a14:List Rect) (o24:QT) (v26:(List qL)):Nat->Int->Int->Int->Int->Option QT
 |0,_,_,_,_=>none
 |n+1,x28,x29,x30,x31=> bif decide (x28<(v26.length:Int)) then bif inb x28 v26.length then (wP (Rect.mk (((v26.getD x28.toNat du).Box).X) (((v26.getD x28.toNat du).Box).Y)) (((v26.getD x28.toNat du).Box).Z) a1 a2 a3 a4 a5 a6 a7 a8 a9 a10 a11 a12 a13 a14).bind λv34=> (YH (jQ.mk a5 a11) (((v26.getD x28.toNat du).Box).Z)).bind λv36=> (wP (Rect.mk (((v26.getD x28.toNat du).Box).X) (((v26.getD x28.toNat du).Box).Y)) v36 a1 a2 a3 a4 a5 a6 a7 a8 a9 a10 a11 a12 a13 a14).bind λv38=> (JT (jQ.mk a5 a11) (((v26.getD x28.toNat du).Box).Z)).bind λv40=> (wP (Rect.mk (((v26.getD x28.toNat du).Box).X) (((v26.getD x28.toNat du).Box).Y)) v40 a1 a2 a3 a4 a5 a6 a7 a8 a9 a10 a11 a12 a13 a14).bind λv42=> (jL a1 a2 a3 a4 a5 a6 a7 a8 a9 a10 a11 a12 a13 a14 o24 v26 n) (w64 (x28+1)) (w64 (x29+v34)) (w64 ((w64 (x30+v38))+v42)) (w64 (x31+(w64 (1000000*((v26.getD x28.toNat du).Worth)))))
 else none else some (QT.mk o24.Log x29 o24.Chips x30 x31)
def jM (a1:List qG) (a2:List qH) (a3:List Product) (a4:Int) (a5:Int) (a6:Int) (a7:Int) (a8:Int) (a9:Int) (a10:Int) (a11:Int) (a12:List Int) (a13:List qA) (a14:List Rect) (v47:(List Rect)):Nat->Int->Int->Option Int
 |0,_,_=>none
 |n+1,x49,x50=> bif decide (x50<(v47.length:Int)) then bif inb x50 v47.length then (wP (v47.getD x50.toNat du) (Span.mk 0 a11) a1 a2 a3 a4 a5 a6 a7 a8 a9 a10 a11 a12 a13 a14).bind λv53=> (jM a1 a2 a3 a4 a5 a6 a7 a8 a9 a10 a11 a12 a13 a14 v47 n) (w64 (x49+v53)) (w64 (x50+1)) else none else some x49
def wJ (a1:List qG) (a2:List qH) (a3:List Product) (a4:Int) (a5:Int) (a6:Int) (a7:Int) (a8:Int) (a9:Int) (a10:Int) (a11:Int) (a12:List Int) (a13:List qA) (a14:List Rect):Option (QT×Int):= (GK a1).bind λv15=> (jI a1 a2 a3 a4 a5 a6 a7 a8 a9 a10 a11 a12 a13 a14 v15 FUEL 0 0).bind λo24=> (wG a1 a2 a3 a4 a5 a6 a7 a8 a9 a10 a11 a12 a13 a14).bind λv26=> (jL a1 a2 a3 a4 a5 a6 a7 a8 a9 a10 a11 a12 a13 a14 o24 v26 FUEL 0 o24.Boards o24.Dust o24.Value).bind λo45=> (yY a1 a2 a3 a4 a5 a6 a7 a8 a9 a10 a11 a12 a13 a14).bind λv47=> (jM a1 a2 a3 a4 a5 a6 a7 a8 a9 a10 a11 a12 a13 a14 v47 FUEL 0 0).bind λo56=> some ((QT.mk o45.Log o45.Boards (w64 ((w64 ((w64 (o45.Log-o45.Boards))-o45.Dust))-o56)) o45.Dust (w64 (o45.Value+(w64 ((w64 (a8*(w64 ((w64 ((w64 (o45.Log-o45.Boards))-o45.Dust))-o56))))+(w64 (a9*o45.Dust))))))),o56)
def yK (a1:List qG) (a2:List qH) (a3:List Product) (a4:Int) (a5:Int) (a6:Int) (a7:Int) (a8:Int) (a9:Int) (a10:Int) (a11:Int) (a12:List Int) (a13:List qA) (a14:List Rect):Option Int:= some (a12.length:Int)
def ZT (a1:Int) (a2:Rect) (a3:List qG) (a4:List qH) (a5:List Product) (a9:Int) (a12:Int) (a15:List qA) (x20:Bool):Option (List qA):= bif x20 then some (updL (updL a15 a1.toNat (λx=>(qA.mk x.kind x.at_ x.first x.second true x.rect x.leaf x.planned x.gives x.board))) a1.toNat (λx=>(qA.mk x.kind x.at_ x.first x.second x.stands a2 x.leaf x.planned x.gives x.board))) else bif inb (((updL (updL a15 a1.toNat (λx=>(qA.mk x.kind x.at_ x.first x.second true x.rect x.leaf x.planned x.gives x.board))) a1.toNat (λx=>(qA.mk x.kind x.at_ x.first x.second x.stands a2 x.leaf x.planned x.gives x.board))).getD a1.toNat du).at_) a5.length then (DS a3 a4 (a5.getD (((updL (updL a15 a1.toNat (λx=>(qA.mk x.kind x.at_ x.first x.second true x.rect x.leaf x.planned x.gives x.board))) a1.toNat (λx=>(qA.mk x.kind x.at_ x.first x.second x.stands a2 x.leaf x.planned x.gives x.board))).getD a1.toNat du).at_).toNat du) (Rect.mk (Span.mk a2.X.A (w64 (a2.X.A+(w64 ((((((updL (updL a15 a1.toNat (λx=>(qA.mk x.kind x.at_ x.first x.second true x.rect x.leaf x.planned x.gives x.board))) a1.toNat (λx=>(qA.mk x.kind x.at_ x.first x.second x.stands a2 x.leaf x.planned x.gives x.board))).getD a1.toNat du).planned).X).B)-(((((updL (updL a15 a1.toNat (λx=>(qA.mk x.kind x.at_ x.first x.second true x.rect x.leaf x.planned x.gives x.board))) a1.toNat (λx=>(qA.mk x.kind x.at_ x.first x.second x.stands a2 x.leaf x.planned x.gives x.board))).getD a1.toNat du).planned).X).A)))))) (Span.mk a2.Y.A (w64 (a2.Y.A+(w64 ((((((updL (updL a15 a1.toNat (λx=>(qA.mk x.kind x.at_ x.first x.second true x.rect x.leaf x.planned x.gives x.board))) a1.toNat (λx=>(qA.mk x.kind x.at_ x.first x.second x.stands a2 x.leaf x.planned x.gives x.board))).getD a1.toNat du).planned).Y).B)-(((((updL (updL a15 a1.toNat (λx=>(qA.mk x.kind x.at_ x.first x.second true x.rect x.leaf x.planned x.gives x.board))) a1.toNat (λx=>(qA.mk x.kind x.at_ x.first x.second x.stands a2 x.leaf x.planned x.gives x.board))).getD a1.toNat du).planned).Y).A))))))) a9 a12).bind λv23=>
 bif !v23.2.2 then some (updL (updL a15 a1.toNat (λx=>(qA.mk x.kind x.at_ x.first x.second true x.rect x.leaf x.planned x.gives x.board))) a1.toNat (λx=>(qA.mk x.kind x.at_ x.first x.second x.stands a2 x.leaf x.planned x.gives x.board))) else some (updL (updL (updL (updL a15 a1.toNat (λx=>(qA.mk x.kind x.at_ x.first x.second true x.rect x.leaf x.planned x.gives x.board))) a1.toNat (λx=>(qA.mk x.kind x.at_ x.first x.second x.stands a2 x.leaf x.planned x.gives x.board))) a1.toNat (λx=>(qA.mk x.kind x.at_ x.first x.second x.stands x.rect x.leaf x.planned true x.board))) a1.toNat (λx=>(qA.mk x.kind x.at_ x.first x.second x.stands x.rect x.leaf x.planned x.gives (qL.mk (((updL (updL (updL a15 a1.toNat (λx=>(qA.mk x.kind x.at_ x.first x.second true x.rect x.leaf x.planned x.gives x.board))) a1.toNat (λx=>(qA.mk x.kind x.at_ x.first x.second x.stands a2 x.leaf x.planned x.gives x.board))) a1.toNat (λx=>(qA.mk x.kind x.at_ x.first x.second x.stands x.rect x.leaf x.planned true x.board))).getD a1.toNat du).leaf) (((updL (updL (updL a15 a1.toNat (λx=>(qA.mk x.kind x.at_ x.first x.second true x.rect x.leaf x.planned x.gives x.board))) a1.toNat (λx=>(qA.mk x.kind x.at_ x.first x.second x.stands a2 x.leaf x.planned x.gives x.board))) a1.toNat (λx=>(qA.mk x.kind x.at_ x.first x.second x.stands x.rect x.leaf x.planned true x.board))).getD a1.toNat du).at_) (Box.mk (Span.mk a2.X.A (w64 (a2.X.A+(w64 ((((((updL (updL a15 a1.toNat (λx=>(qA.mk x.kind x.at_ x.first x.second true x.rect x.leaf x.planned x.gives x.board))) a1.toNat (λx=>(qA.mk x.kind x.at_ x.first x.second x.stands a2 x.leaf x.planned x.gives x.board))).getD a1.toNat du).planned).X).B)-(((((updL (updL a15 a1.toNat (λx=>(qA.mk x.kind x.at_ x.first x.second true x.rect x.leaf x.planned x.gives x.board))) a1.toNat (λx=>(qA.mk x.kind x.at_ x.first x.second x.stands a2 x.leaf x.planned x.gives x.board))).getD a1.toNat du).planned).X).A)))))) (Span.mk a2.Y.A (w64 (a2.Y.A+(w64 ((((((updL (updL a15 a1.toNat (λx=>(qA.mk x.kind x.at_ x.first x.second true x.rect x.leaf x.planned x.gives x.board))) a1.toNat (λx=>(qA.mk x.kind x.at_ x.first x.second x.stands a2 x.leaf x.planned x.gives x.board))).getD a1.toNat du).planned).Y).B)-(((((updL (updL a15 a1.toNat (λx=>(qA.mk x.kind x.at_ x.first x.second true x.rect x.leaf x.planned x.gives x.board))) a1.toNat (λx=>(qA.mk x.kind x.at_ x.first x.second x.stands a2 x.leaf x.planned x.gives x.board))).getD a1.toNat du).planned).Y).A)))))) v23.1) v23.2.1))))
 else none
def zY (a1:Int) (a2:Rect) (a3:List qG) (a4:List qH) (a5:List Product) (a6:Int) (a7:Int) (a8:Int) (a9:Int) (a10:Int) (a11:Int) (a12:Int) (a13:Int) (a14:List Int) (a15:List qA) (a16:List Rect):Option (List qA):= bif inb a1 a15.length then bif (((updL (updL a15 a1.toNat (λx=>(qA.mk x.kind x.at_ x.first x.second true x.rect x.leaf x.planned x.gives x.board))) a1.toNat (λx=>(qA.mk x.kind x.at_ x.first x.second x.stands a2 x.leaf x.planned x.gives x.board))).getD a1.toNat du).kind) !=1 then some (updL (updL a15 a1.toNat (λx=>(qA.mk x.kind x.at_ x.first x.second true x.rect x.leaf x.planned x.gives x.board))) a1.toNat (λx=>(qA.mk x.kind x.at_ x.first x.second x.stands a2 x.leaf x.planned x.gives x.board)))
 else bif decide ((w64 (a2.X.B-a2.X.A))<(w64 ((((((updL (updL a15 a1.toNat (λx=>(qA.mk x.kind x.at_ x.first x.second true x.rect x.leaf x.planned x.gives x.board))) a1.toNat (λx=>(qA.mk x.kind x.at_ x.first x.second x.stands a2 x.leaf x.planned x.gives x.board))).getD a1.toNat du).planned).X).B)-(((((updL (updL a15 a1.toNat (λx=>(qA.mk x.kind x.at_ x.first x.second true x.rect x.leaf x.planned x.gives x.board))) a1.toNat (λx=>(qA.mk x.kind x.at_ x.first x.second x.stands a2 x.leaf x.planned x.gives x.board))).getD a1.toNat du).planned).X).A)))) then ZT a1 a2 a3 a4 a5 a9 a12 a15 true else ZT a1 a2 a3 a4 a5 a9 a12 a15 (decide ((w64 (a2.Y.B-a2.Y.A))<(w64 ((((((updL (updL a15 a1.toNat (λx=>(qA.mk x.kind x.at_ x.first x.second true x.rect x.leaf x.planned x.gives x.board))) a1.toNat (λx=>(qA.mk x.kind x.at_ x.first x.second x.stands a2 x.leaf x.planned x.gives x.board))).getD a1.toNat du).planned).Y).B)-(((((updL (updL a15 a1.toNat (λx=>(qA.mk x.kind x.at_ x.first x.second true x.rect x.leaf x.planned x.gives x.board))) a1.toNat (λx=>(qA.mk x.kind x.at_ x.first x.second x.stands a2 x.leaf x.planned x.gives x.board))).getD a1.toNat du).planned).Y).A)))))
 else none
def KP (a1:Int) (a2:List qG) (a3:List qH) (a4:List Product) (a5:Int) (a6:Int) (a7:Int) (a8:Int) (a9:Int) (a10:Int) (a11:Int) (a12:Int) (a13:List Int) (a14:List qA) (a15:List Rect) (x21:Bool):Option (Int×(List Int)×(List qA)×(List Rect)):= bif x21 then some (9,a13,a14,a15) else bif slOk 1 (a13.length:Int) a13.length then bif room (a15.length+1) 32 then (zY ((a14.getD ((a13.getD (0:Int).toNat du).toNat) du).first) (Rect.mk (((a14.getD ((a13.getD (0:Int).toNat du).toNat) du).rect).X) (Span.mk ((((a14.getD ((a13.getD (0:Int).toNat du).toNat) du).rect).Y).A) (w64 (((a14.getD ((a13.getD (0:Int).toNat du).toNat) du).at_)+a1)))) a2 a3 a4 a5 a6 a7 a8 a9 a10 a11 a12 (a13.drop ((1:Int).toNat)) a14 (a15++[(Rect.mk (((a14.getD ((a13.getD (0:Int).toNat du).toNat) du).rect).X) (Span.mk (w64 (((a14.getD ((a13.getD (0:Int).toNat du).toNat) du).at_)+a1)) (imin (w64 ((w64 (((a14.getD ((a13.getD (0:Int).toNat du).toNat) du).at_)+a1))+a5)) ((((a14.getD ((a13.getD (0:Int).toNat du).toNat) du).rect).Y).B))))])).bind λv25=>
 (zY ((a14.getD ((a13.getD (0:Int).toNat du).toNat) du).second) (Rect.mk (((a14.getD ((a13.getD (0:Int).toNat du).toNat) du).rect).X) (Span.mk (imin (w64 ((w64 (((a14.getD ((a13.getD (0:Int).toNat du).toNat) du).at_)+a1))+a5)) ((((a14.getD ((a13.getD (0:Int).toNat du).toNat) du).rect).Y).B)) ((((a14.getD ((a13.getD (0:Int).toNat du).toNat) du).rect).Y).B))) a2 a3 a4 a5 a6 a7 a8 a9 a10 a11 a12 (a13.drop ((1:Int).toNat)) v25 (a15++[(Rect.mk (((a14.getD ((a13.getD (0:Int).toNat du).toNat) du).rect).X) (Span.mk (w64 (((a14.getD ((a13.getD (0:Int).toNat du).toNat) du).at_)+a1)) (imin (w64 ((w64 (((a14.getD ((a13.getD (0:Int).toNat du).toNat) du).at_)+a1))+a5)) ((((a14.getD ((a13.getD (0:Int).toNat du).toNat) du).rect).Y).B))))])).bind λv27=>
 some (0,(a13.drop ((1:Int).toNat)),v27,(a15++[(Rect.mk (((a14.getD ((a13.getD (0:Int).toNat du).toNat) du).rect).X) (Span.mk (w64 (((a14.getD ((a13.getD (0:Int).toNat du).toNat) du).at_)+a1)) (imin (w64 ((w64 (((a14.getD ((a13.getD (0:Int).toNat du).toNat) du).at_)+a1))+a5)) ((((a14.getD ((a13.getD (0:Int).toNat du).toNat) du).rect).Y).B))))])) else none else none
def KI (a1:Int) (a2:List qG) (a3:List qH) (a4:List Product) (a5:Int) (a6:Int) (a7:Int) (a8:Int) (a9:Int) (a10:Int) (a11:Int) (a12:Int) (a13:List Int) (a14:List qA) (a15:List Rect) (x30:Bool):Option (Int×(List Int)×(List qA)×(List Rect)):= bif x30 then some (9,a13,a14,a15) else bif slOk 1 (a13.length:Int) a13.length then bif room (a15.length+1) 32 then (zY ((a14.getD ((a13.getD (0:Int).toNat du).toNat) du).first) (Rect.mk (Span.mk ((((a14.getD ((a13.getD (0:Int).toNat du).toNat) du).rect).X).A) (w64 (((a14.getD ((a13.getD (0:Int).toNat du).toNat) du).at_)+a1))) (((a14.getD ((a13.getD (0:Int).toNat du).toNat) du).rect).Y)) a2 a3 a4 a5 a6 a7 a8 a9 a10 a11 a12 (a13.drop ((1:Int).toNat)) a14 (a15++[(Rect.mk (Span.mk (w64 (((a14.getD ((a13.getD (0:Int).toNat du).toNat) du).at_)+a1)) (imin (w64 ((w64 (((a14.getD ((a13.getD (0:Int).toNat du).toNat) du).at_)+a1))+a5)) ((((a14.getD ((a13.getD (0:Int).toNat du).toNat) du).rect).X).B))) (((a14.getD ((a13.getD (0:Int).toNat du).toNat) du).rect).Y))])).bind λv34=>
 (zY ((a14.getD ((a13.getD (0:Int).toNat du).toNat) du).second) (Rect.mk (Span.mk (imin (w64 ((w64 (((a14.getD ((a13.getD (0:Int).toNat du).toNat) du).at_)+a1))+a5)) ((((a14.getD ((a13.getD (0:Int).toNat du).toNat) du).rect).X).B)) ((((a14.getD ((a13.getD (0:Int).toNat du).toNat) du).rect).X).B)) (((a14.getD ((a13.getD (0:Int).toNat du).toNat) du).rect).Y)) a2 a3 a4 a5 a6 a7 a8 a9 a10 a11 a12 (a13.drop ((1:Int).toNat)) v34 (a15++[(Rect.mk (Span.mk (w64 (((a14.getD ((a13.getD (0:Int).toNat du).toNat) du).at_)+a1)) (imin (w64 ((w64 (((a14.getD ((a13.getD (0:Int).toNat du).toNat) du).at_)+a1))+a5)) ((((a14.getD ((a13.getD (0:Int).toNat du).toNat) du).rect).X).B))) (((a14.getD ((a13.getD (0:Int).toNat du).toNat) du).rect).Y))])).bind λv36=>
 some (0,(a13.drop ((1:Int).toNat)),v36,(a15++[(Rect.mk (Span.mk (w64 (((a14.getD ((a13.getD (0:Int).toNat du).toNat) du).at_)+a1)) (imin (w64 ((w64 (((a14.getD ((a13.getD (0:Int).toNat du).toNat) du).at_)+a1))+a5)) ((((a14.getD ((a13.getD (0:Int).toNat du).toNat) du).rect).X).B))) (((a14.getD ((a13.getD (0:Int).toNat du).toNat) du).rect).Y))])) else none else none
def jC (a1:Int) (a2:List qG) (a3:List qH) (a4:List Product) (a5:Int) (a6:Int) (a7:Int) (a8:Int) (a9:Int) (a10:Int) (a11:Int) (a12:Int) (a13:List Int) (a14:List qA) (a15:List Rect):Option (Int×(List Int)×(List qA)×(List Rect)):= bif (a13.length:Int)==0 then some (18,a13,a14,a15) else bif inb 0 a13.length then bif inb (a13.getD (0:Int).toNat du) a14.length then bif ((a14.getD ((a13.getD (0:Int).toNat du).toNat) du).kind)==3 then bif decide (a1<=(w64 (((((a14.getD ((a13.getD (0:Int).toNat du).toNat) du).rect).Y).A)-((a14.getD ((a13.getD (0:Int).toNat du).toNat) du).at_)))) then KP a1 a2 a3 a4 a5 a6 a7 a8 a9 a10 a11 a12 a13 a14 a15 true else KP a1 a2 a3 a4 a5 a6 a7 a8 a9 a10 a11 a12 a13 a14 a15 (decide (a1≥(w64 (((((a14.getD ((a13.getD (0:Int).toNat du).toNat) du).rect).Y).B)-((a14.getD ((a13.getD (0:Int).toNat du).toNat) du).at_)))))
 else bif decide (a1<=(w64 (((((a14.getD ((a13.getD (0:Int).toNat du).toNat) du).rect).X).A)-((a14.getD ((a13.getD (0:Int).toNat du).toNat) du).at_)))) then KI a1 a2 a3 a4 a5 a6 a7 a8 a9 a10 a11 a12 a13 a14 a15 true else KI a1 a2 a3 a4 a5 a6 a7 a8 a9 a10 a11 a12 a13 a14 a15 (decide (a1≥(w64 (((((a14.getD ((a13.getD (0:Int).toNat du).toNat) du).rect).X).B)-((a14.getD ((a13.getD (0:Int).toNat du).toNat) du).at_))))) else none else none
def QG (a1:List qG) (a2:List qH) (a3:List Product) (a4:Int) (a5:Int) (a6:Int) (a7:Int) (a8:Int) (a9:Int) (a10:Int) (a11:Int) (a12:List Int) (a13:List qA) (a14:List Rect):Option (Int×(List Int)):= bif (a12.length:Int)==0 then some (18,a12) else some (0,[])
def DQ :Option Bool:= some false
def BJ :Option Bool:= some false
def DP :Option Bool:= some false
def BK (x74:Bool):Option Bool:= some x74
def JI (v22:qS×Int) (x61:Bool):Option Bool:= bif x61 then some false else (jC (-3) v22.1.solid v22.1.defects v22.1.catalog v22.1.saw.Kerf v22.1.saw.Trim v22.1.saw.Pitch v22.1.saw.Step v22.1.rates.Chip v22.1.rates.Dust v22.1.rates.Fine v22.1.length v22.1.rips v22.1.nodes v22.1.sawn).bind λv63=> bif v63.1 !=0 then some false else (wJ v22.1.solid v22.1.defects v22.1.catalog v22.1.saw.Kerf v22.1.saw.Trim v22.1.saw.Pitch v22.1.saw.Step v22.1.rates.Chip v22.1.rates.Dust v22.1.rates.Fine v22.1.length v63.2.1 v63.2.2.1 v63.2.2.2).bind λv66=> (wG v22.1.solid v22.1.defects v22.1.catalog v22.1.saw.Kerf v22.1.saw.Trim v22.1.saw.Pitch v22.1.saw.Step v22.1.rates.Chip v22.1.rates.Dust v22.1.rates.Fine v22.1.length v63.2.1 v63.2.2.1 v63.2.2.2).bind λv68=>
 bif (v68.length:Int)==0 then bif v66.1.Dust==1260000 then (QG v22.1.solid v22.1.defects v22.1.catalog v22.1.saw.Kerf v22.1.saw.Trim v22.1.saw.Pitch v22.1.saw.Step v22.1.rates.Chip v22.1.rates.Dust v22.1.rates.Fine v22.1.length v63.2.1 v63.2.2.1 v63.2.2.2).bind λv72=> BK (v72.1==18) else BK false else BK false
def JB (v6:qS×Int) (v22:qS×Int) (x44:Bool) (l45:List qA) (l46:List Int) (l47:List Rect):Option Bool:= bif x44 then some false else (wJ v6.1.solid v6.1.defects v6.1.catalog v6.1.saw.Kerf v6.1.saw.Trim v6.1.saw.Pitch v6.1.saw.Step v6.1.rates.Chip v6.1.rates.Dust v6.1.rates.Fine v6.1.length l46 l45 l47).bind λv49=> (wG v6.1.solid v6.1.defects v6.1.catalog v6.1.saw.Kerf v6.1.saw.Trim v6.1.saw.Pitch v6.1.saw.Step v6.1.rates.Chip v6.1.rates.Dust v6.1.rates.Fine v6.1.length l46 l45 l47).bind λv51=> bif (v51.length:Int) !=1 then JI v22 true else bif inb 0 v51.length then bif ((((v51.getD ((0:Int).toNat) du).Box).Z).B) !=2000 then JI v22 true else bif v49.2 !=0 then JI v22 true else bif v49.1.Dust !=1282050 then
 JI v22 true else bif v49.1.Chips !=109897950 then JI v22 true else (yY v6.1.solid v6.1.defects v6.1.catalog v6.1.saw.Kerf v6.1.saw.Trim v6.1.saw.Pitch v6.1.saw.Step v6.1.rates.Chip v6.1.rates.Dust v6.1.rates.Fine v6.1.length l46 l45 l47).bind λv59=> JI v22 ((v59.length:Int) !=0) else none
def DW (v6:qS×Int) (v22:qS×Int) (x27:Bool):Option Bool:= bif x27 then some false else (wJ v6.1.solid v6.1.defects v6.1.catalog v6.1.saw.Kerf v6.1.saw.Trim v6.1.saw.Pitch v6.1.saw.Step v6.1.rates.Chip v6.1.rates.Dust v6.1.rates.Fine v6.1.length v6.1.rips v6.1.nodes v6.1.sawn).bind λv29=> (yK v6.1.solid v6.1.defects v6.1.catalog v6.1.saw.Kerf v6.1.saw.Trim v6.1.saw.Pitch v6.1.saw.Step v6.1.rates.Chip v6.1.rates.Dust v6.1.rates.Fine v6.1.length v6.1.rips v6.1.nodes v6.1.sawn).bind λv31=> bif v31 !=1 then JB v6 v22 true v6.1.nodes v6.1.rips v6.1.sawn else bif v29.2 !=28350000 then JB v6 v22 true v6.1.nodes v6.1.rips v6.1.sawn else bif v29.1.Chips !=91650000 then JB v6 v22 true v6.1.nodes v6.1.rips v6.1.sawn
 else (jC 48 v6.1.solid v6.1.defects v6.1.catalog v6.1.saw.Kerf v6.1.saw.Trim v6.1.saw.Pitch v6.1.saw.Step v6.1.rates.Chip v6.1.rates.Dust v6.1.rates.Fine v6.1.length v6.1.rips v6.1.nodes v6.1.sawn).bind λv36=> bif v36.1 !=9 then JB v6 v22 true v36.2.2.1 v36.2.1 v36.2.2.2 else (jC 0 v6.1.solid v6.1.defects v6.1.catalog v6.1.saw.Kerf v6.1.saw.Trim v6.1.saw.Pitch v6.1.saw.Step v6.1.rates.Chip v6.1.rates.Dust v6.1.rates.Fine v6.1.length v36.2.1 v36.2.2.1 v36.2.2.2).bind λv39=> bif v39.1 !=0 then JB v6 v22 true v39.2.2.1 v39.2.1 v39.2.2.2 else (jC 0 v6.1.solid v6.1.defects v6.1.catalog v6.1.saw.Kerf v6.1.saw.Trim v6.1.saw.Pitch v6.1.saw.Step v6.1.rates.Chip v6.1.rates.Dust v6.1.rates.Fine v6.1.length v39.2.1 v39.2.2.1 v39.2.2.2).bind λv42=>
 JB v6 v22 (v42.1 !=18) v42.2.2.1 v42.2.1 v42.2.2.2
def RA :Option Bool:= (GE).bind λv1=> (JN v1).bind λv3=> Sum.elim (λv5=> (GE).bind λv7=> (JN v7).bind λv9=> Sum.elim (λv11=> bif v5 !=0 then DQ else bif v11 !=0 then DQ else DQ) (λv12=> bif v5 !=0 then BJ else bif v12.2 !=0 then BJ else BJ) v9) (λv6=> (GE).bind λv17=> (JN v17).bind λv19=> Sum.elim (λv21=> bif v6.2 !=0 then DP else bif v21 !=0 then DP else DP) (λv22=> bif v6.2 !=0 then DW v6 v22 true else bif v22.2 !=0 then DW v6 v22 true else DW v6 v22 false) v19) v3
def JP (x16:Bool):Option Bool:= some x16
def JK (v10:Int):Option Bool:= bif (v10==0)==false then (RA).bind λv14=> JP v14 else JP false
def RG (x23:Bool):Option Bool:= some x23
def WT (x71:Int) (R:Bool->Int->Option Bool) (x76:Bool):Option Bool:= R x76 (w64 (x71+1))
def zZ (v33:(List qL)) (v49:(List qL)) (x68:Int):Nat->Bool->Int->Option Bool
 |0,_,_=>none
 |n+1,x70,x71=> bif decide (x71<(v49.length:Int)) then bif x70 then WT x71 (zZ v33 v49 x68 n) true else bif inb x71 v49.length then bif inb x68 v33.length then WT x71 (zZ v33 v49 x68 n) ((((v49.getD x71.toNat du).Leaf)==((v33.getD x68.toNat du).Leaf))&&((((v49.getD x71.toNat du).Product)==((v33.getD x68.toNat du).Product))&&((((((((v49.getD x71.toNat du).Box).X).A)==((((v33.getD x68.toNat du).Box).X).A))&&((((((v49.getD x71.toNat du).Box).X).B)==((((v33.getD x68.toNat du).Box).X).B))&&true))&&(((((((v49.getD x71.toNat du).Box).Y).A)==((((v33.getD x68.toNat du).Box).Y).A))&&((((((v49.getD x71.toNat du).Box).Y).B)==((((v33.getD x68.toNat du).Box).Y).B))&&true))&&(((((((v49.getD x71.toNat du).Box).Z).A)==((((v33.getD x68.toNat du).Box).Z).A))&&((((((v49.getD x71.toNat du).Box).Z).B)==((((v33.getD x68.toNat du).Box).Z).B))&&true))&&true)))&&((((v49.getD x71.toNat du).Worth)==((v33.getD x68.toNat du).Worth))&&true))))
 else none else none else some x70
def zV (v33:(List qL)) (v49:(List qL)):Nat->Int->Option (Bool⊕Unit)
 |0,_=>none
 |n+1,x68=> bif decide (x68<(v33.length:Int)) then (zZ v33 v49 x68 FUEL false 0).bind λo78=> bif !o78 then some (Sum.inl false) else (zV v33 v49 n) (w64 (x68+1)) else some (Sum.inr ())
def zI (x24:Int) (R:Int->(List qA)->(List Int)->(List Rect)->Option (Bool⊕Unit)) (v33:(List qL)) (l44:List qA) (l45:List Int) (l46:List Rect) (v49:(List qL)) (x66:Bool):Option (Bool⊕Unit):= bif x66 then some (Sum.inl false) else (zV v33 v49 FUEL 0).bind λu83=>Sum.elim (λv84=>some (Sum.inl v84)) (λo81=> R (w64 (x24+1)) l44 l45 l46) u83
def QV (v11:qS×Int) (x24:Int) (R:Int->(List qA)->(List Int)->(List Rect)->Option (Bool⊕Unit)) (v31:QT×Int) (v33:(List qL)) (v35:Int) (x43:Int) (l44:List qA) (l45:List Int) (l46:List Rect):Option (Bool⊕Unit):= (wJ v11.1.solid v11.1.defects v11.1.catalog v11.1.saw.Kerf v11.1.saw.Trim v11.1.saw.Pitch v11.1.saw.Step v11.1.rates.Chip v11.1.rates.Dust v11.1.rates.Fine v11.1.length l45 l44 l46).bind λv47=> (wG v11.1.solid v11.1.defects v11.1.catalog v11.1.saw.Kerf v11.1.saw.Trim v11.1.saw.Pitch v11.1.saw.Step v11.1.rates.Chip v11.1.rates.Dust v11.1.rates.Fine v11.1.length l45 l44 l46).bind λv49=> bif decide (v47.1.Boards<v31.1.Boards) then zI x24 R v33 l44 l45 l46 v49 true else bif decide (v47.1.Chips<v31.1.Chips) then
 zI x24 R v33 l44 l45 l46 v49 true else bif decide (v47.1.Dust<v31.1.Dust) then zI x24 R v33 l44 l45 l46 v49 true else bif decide (v47.2>v31.2) then zI x24 R v33 l44 l45 l46 v49 true else bif x43 !=0 then bif !((v47.1.Log==v31.1.Log)&&((v47.1.Boards==v31.1.Boards)&&((v47.1.Chips==v31.1.Chips)&&((v47.1.Dust==v31.1.Dust)&&((v47.1.Value==v31.1.Value)&&true))))) then zI x24 R v33 l44 l45 l46 v49 true else (yK v11.1.solid v11.1.defects v11.1.catalog v11.1.saw.Kerf v11.1.saw.Trim v11.1.saw.Pitch v11.1.saw.Step v11.1.rates.Chip v11.1.rates.Dust v11.1.rates.Fine v11.1.length l45 l44 l46).bind λv57=> bif v57 !=v35 then zI x24 R v33 l44 l45 l46 v49 true else bif x43==0 then (yK v11.1.solid v11.1.defects v11.1.catalog v11.1.saw.Kerf v11.1.saw.Trim v11.1.saw.Pitch v11.1.saw.Step v11.1.rates.Chip v11.1.rates.Dust v11.1.rates.Fine v11.1.length l45 l44 l46).bind λv61=>
 zI x24 R v33 l44 l45 l46 v49 (decide (v61≥v35)) else zI x24 R v33 l44 l45 l46 v49 false else bif x43==0 then (yK v11.1.solid v11.1.defects v11.1.catalog v11.1.saw.Kerf v11.1.saw.Trim v11.1.saw.Pitch v11.1.saw.Step v11.1.rates.Chip v11.1.rates.Dust v11.1.rates.Fine v11.1.length l45 l44 l46).bind λv64=> zI x24 R v33 l44 l45 l46 v49 (decide (v64≥v35)) else zI x24 R v33 l44 l45 l46 v49 false
def QW (a2:List zG) (v11:qS×Int) (x24:Int) (l25:List qA) (l26:List Int) (l27:List Rect) (R:Int->(List qA)->(List Int)->(List Rect)->Option (Bool⊕Unit)) (x29:Bool):Option (Bool⊕Unit):= bif x29 then (wJ v11.1.solid v11.1.defects v11.1.catalog v11.1.saw.Kerf v11.1.saw.Trim v11.1.saw.Pitch v11.1.saw.Step v11.1.rates.Chip v11.1.rates.Dust v11.1.rates.Fine v11.1.length l26 l25 l27).bind λv31=> (wG v11.1.solid v11.1.defects v11.1.catalog v11.1.saw.Kerf v11.1.saw.Trim v11.1.saw.Pitch v11.1.saw.Step v11.1.rates.Chip v11.1.rates.Dust v11.1.rates.Fine v11.1.length l26 l25 l27).bind λv33=> (yK v11.1.solid v11.1.defects v11.1.catalog v11.1.saw.Kerf v11.1.saw.Trim v11.1.saw.Pitch v11.1.saw.Step v11.1.rates.Chip v11.1.rates.Dust v11.1.rates.Fine v11.1.length l26 l25 l27).bind λv35=>
 bif inb x24 a2.length then bif (a2.getD x24.toNat du).Stop then (QG v11.1.solid v11.1.defects v11.1.catalog v11.1.saw.Kerf v11.1.saw.Trim v11.1.saw.Pitch v11.1.saw.Step v11.1.rates.Chip v11.1.rates.Dust v11.1.rates.Fine v11.1.length l26 l25 l27).bind λv39=> QV v11 x24 R v31 v33 v35 v39.1 l25 v39.2 l27 else (jC ((a2.getD x24.toNat du).Shift) v11.1.solid v11.1.defects v11.1.catalog v11.1.saw.Kerf v11.1.saw.Trim v11.1.saw.Pitch v11.1.saw.Step v11.1.rates.Chip v11.1.rates.Dust v11.1.rates.Fine v11.1.length l26 l25 l27).bind λv41=> QV v11 x24 R v31 v33 v35 v41.1 v41.2.2.1 v41.2.1 v41.2.2.2 else none else some (Sum.inr ())
def zU (a2:List zG) (v11:qS×Int):Nat->Int->(List qA)->(List Int)->(List Rect)->Option (Bool⊕Unit)
 |0,_,_,_,_=>none
 |n+1,x24,l25,l26,l27=> bif decide (x24<(a2.length:Int)) then QW a2 v11 x24 l25 l26 l27 (zU a2 v11 n) (decide (x24<24)) else QW a2 v11 x24 l25 l26 l27 (zU a2 v11 n) false
def JR (a2:List zG) (v11:qS×Int) (x18:Bool):Option Bool:= bif x18 then bif (v11.2==0)==true then (RA).bind λv21=> RG v21 else RG false else (zU a2 v11 FUEL 0 v11.1.nodes v11.1.rips v11.1.sawn).bind λu87=>Sum.elim (λv88=>some v88) (λo85=> (RA).bind λv89=> some v89) u87
def KJ (a1:qQ) (a2:List zG):Option Bool:= (NL a1).bind λv3=> bif !v3 then (RA).bind λv6=> some v6 else (JN a1).bind λv8=> Sum.elim (λv10=> bif v10 !=0 then JK v10 else JK v10) (λv11=> bif v11.2 !=0 then JR a2 v11 true else JR a2 v11 false) v8
def qDG (a1:List qG) (a2:List qH) (a3:List Product) (a4:Pattern) (a5:Saw) (a6:Rates):Option Int:= (XF a1).bind λv7=> bif v7 !=0 then some v7 else (XV a2).bind λv10=> bif v10 !=0 then some v10 else (YL a3).bind λv13=> bif v13 !=0 then some v13 else (UZ a5 a6).bind λv16=> bif v16 !=0 then some v16 else (PD a4 a3 a5.Kerf).bind λv19=> some v19
end Saw
end Go.SL

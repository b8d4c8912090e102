import Derived.Test.YtidlfgiogdjkaaaGreatDoorYa6
set_option linter.unusedVariables false
set_option linter.unusedSimpArgs false
namespace Go.SL
namespace Saw
structure qX where
 Size:Int
 At:Int
instance : Inhabited qX:=⟨⟨0,0⟩⟩
def zY (r:qX):List C:=[ci r.Size,ci r.At]
structure Product where
 Name:ByteArray
 Thick:Int
 Width:Int
 Allow:Int
 Wane:Int
 Lengths:List Int
 Prices:List Int
instance : Inhabited Product:=⟨⟨⟨#[]⟩,0,0,0,0,[],[]⟩⟩
def qH (r:Product):List C:=[cs r.Name,ci r.Thick,ci r.Width,ci r.Allow,ci r.Wane,tl qA du r.Lengths,tl qA du r.Prices]
structure Span where
 A:Int
 B:Int
instance : Inhabited Span:=⟨⟨0,0⟩⟩
def qG (r:Span):List C:=[ci r.A,ci r.B]
structure qQ where
 Low:Int
 Rows:List Span
instance : Inhabited qQ:=⟨⟨0,[]⟩⟩
def zQ (r:qQ):List C:=[ci r.Low,tl qG du r.Rows]
structure qC where
 Len:Int
 Sec:qQ
instance : Inhabited qC:=⟨⟨0,du⟩⟩
def qL (r:qC):List C:=[ci r.Len,ci r.Sec.Low,tl qG du r.Sec.Rows]
structure Box where
 X:Span
 Y:Span
 Z:Span
instance : Inhabited Box:=⟨⟨du,du,du⟩⟩
def wG (r:Box):List C:=[ci r.X.A,ci r.X.B,ci r.Y.A,ci r.Y.B,ci r.Z.A,ci r.Z.B]
structure qF where
 Kind:Int
 Box:Box
instance : Inhabited qF:=⟨⟨0,du⟩⟩
def qP (r:qF):List C:=[ci r.Kind,ci r.Box.X.A,ci r.Box.X.B,ci r.Box.Y.A,ci r.Box.Y.B,ci r.Box.Z.A,ci r.Box.Z.B]
structure Rect where
 X:Span
 Y:Span
instance : Inhabited Rect:=⟨⟨du,du⟩⟩
def qO (r:Rect):List C:=[ci r.X.A,ci r.X.B,ci r.Y.A,ci r.Y.B]
structure Saw where
 Kerf:Int
 Trim:Int
 Pitch:Int
 Step:Int
instance : Inhabited Saw:=⟨⟨0,0,0,0⟩⟩
def zW (r:Saw):List C:=[ci r.Kerf,ci r.Trim,ci r.Pitch,ci r.Step]
structure Rates where
 Chip:Int
 Dust:Int
 Fine:Int
instance : Inhabited Rates:=⟨⟨0,0,0⟩⟩
def zN (r:Rates):List C:=[ci r.Chip,ci r.Dust,ci r.Fine]
structure zB where
 Solid:List qC
 Defects:List qF
 Products:List Product
 Frame:Rect
 Saw:Saw
 Rates:Rates
instance : Inhabited zB:=⟨⟨[],[],[],du,du,du⟩⟩
def QG (r:zB):List C:=[tl qL du r.Solid,tl qP du r.Defects,tl qH du r.Products,ci r.Frame.X.A,ci r.Frame.X.B,ci r.Frame.Y.A,ci r.Frame.Y.B,ci r.Saw.Kerf,ci r.Saw.Trim,ci r.Saw.Pitch,ci r.Saw.Step,ci r.Rates.Chip,ci r.Rates.Dust,ci r.Rates.Fine]
structure qW where
 z:Span
 lack:Int
instance : Inhabited qW:=⟨⟨du,0⟩⟩
def zJ (r:qW):List C:=[ci r.z.A,ci r.z.B,ci r.lack]
structure zA where
 product:Product
 rect:Rect
 length:Int
 zones:List qW
 defects:List qF
instance : Inhabited zA:=⟨⟨du,du,0,[],[]⟩⟩
def SS (r:zA):List C:=[cs r.product.Name,ci r.product.Thick,ci r.product.Width,ci r.product.Allow,ci r.product.Wane,tl qA du r.product.Lengths,tl qA du r.product.Prices,ci r.rect.X.A,ci r.rect.X.B,ci r.rect.Y.A,ci r.rect.Y.B,ci r.length,tl zJ du r.zones,tl qP du r.defects]
structure Line where
 Len:Int
 Kerf:Int
 Pitch:Int
 Sizes:List Int
 Gain:List (List Int)
 Chip:List Int
 Dust:List Int
instance : Inhabited Line:=⟨⟨0,0,0,[],[],[],[]⟩⟩
def wB (r:Line):List C:=[ci r.Len,ci r.Kerf,ci r.Pitch,tl qA du r.Sizes,tl (qM qA) du r.Gain,tl qA du r.Chip,tl qA du r.Dust]
structure qD where
 piece:qX
 value:Int
instance : Inhabited qD:=⟨⟨du,0⟩⟩
def qR (r:qD):List C:=[ci r.piece.Size,ci r.piece.At,ci r.value]
structure Node where
 Kind:Int
 At:Int
instance : Inhabited Node:=⟨⟨0,0⟩⟩
def qE (r:Node):List C:=[ci r.Kind,ci r.At]
structure qN where
 Frame:Rect
 Nodes:List Node
instance : Inhabited qN:=⟨⟨du,[]⟩⟩
def JS (r:qN):List C:=[ci r.Frame.X.A,ci r.Frame.X.B,ci r.Frame.Y.A,ci r.Frame.Y.B,tl qE du r.Nodes]
structure qS where
 value:Int
 piece:qX
instance : Inhabited qS:=⟨⟨0,du⟩⟩
def zU (r:qS):List C:=[ci r.value,ci r.piece.Size,ci r.piece.At]
structure qZB where
 at_:Span
 from_:Int
 to:Int
instance : Inhabited qZB:=⟨⟨du,0,0⟩⟩
structure qJ where
 rect:Rect
 level:Int
instance : Inhabited qJ:=⟨⟨du,0⟩⟩
structure Leaf where
 Rect:Rect
 Product:Int
instance : Inhabited Leaf:=⟨⟨du,0⟩⟩
structure zV where
 Leaf:Int
 Product:Int
 Box:Box
 Worth:Int
instance : Inhabited zV:=⟨⟨0,0,du,0⟩⟩
structure NE where
 Log:Int
 Boards:Int
 Chips:Int
 Dust:Int
 Value:Int
instance : Inhabited NE:=⟨⟨0,0,0,0,0⟩⟩
def qOq :qX:=(qX.mk (-1) (-1))
def globs :List (Nat×C):=[(0,.lptr (zY qOq))]
def MQ (x3:Int) (R:Int->Option (Bool⊕Unit)) (x8:Bool):Option (Bool⊕Unit):= bif x8 then some (Sum.inl false) else R (w64 (x3+1))
def JF (a1:List Product):Nat->Int->Option (Bool⊕Unit)
 |0,_=>none
 |n+1,x3=> bif decide (x3<(a1.length:Int)) then bif inb x3 a1.length then bif decide (((((a1.getD x3.toNat du).Name).size:Nat):Int)>100) then MQ x3 (JF a1 n) true else bif decide (((((a1.getD x3.toNat du).Lengths).length:Nat):Int)>12) then MQ x3 (JF a1 n) true else MQ x3 (JF a1 n) (decide (((((a1.getD x3.toNat du).Prices).length:Nat):Int)>12)) else none else some (Sum.inr ())
def qDq (a1:List Product):Option Bool:= bif decide ((a1.length:Int)>20) then some false else (JF a1 FUEL 0).bind λu12=>Sum.elim (λv13=>some v13) (λo10=> some true) u12
def RM (a1:List qC):Nat->Int->Option (Bool⊕Unit)
 |0,_=>none
 |n+1,x3=> bif decide (x3<(a1.length:Int)) then bif inb x3 a1.length then bif decide ((((((a1.getD x3.toNat du).Sec).Rows).length:Nat):Int)>130) then some (Sum.inl false) else (RM a1 n) (w64 (x3+1)) else none else some (Sum.inr ())
def OH (a1:List qC):Option Bool:= bif decide ((a1.length:Int)>30) then some false else (RM a1 FUEL 0).bind λu9=>Sum.elim (λv10=>some v10) (λo7=> some true) u9
def MJ :Nat->Int->(List Span)->Option (List Span)
 |0,_,_=>none
 |n+1,x2,l3=> bif decide (x2<20) then bif room (l3.length+1) 16 then (MJ n) (w64 (x2+1)) (l3++[(Span.mk (-100) 100)]) else none else some l3
def TC (a1:Int):Option zB:= (MJ FUEL 0 []).bind λo7=> some (zB.mk [(qC.mk 3000 (qQ.mk (-10) o7))] [] ([(Product.mk (ByteArray.mk #[112,108,97,110,107]) 40 100 50 0 [2000] [70])]:List Product) (Rect.mk (Span.mk (-100) 10) (Span.mk 0 a1)) (Saw.mk 4 5 5 500) (Rates.mk 0 0 0))
def UK (x3:Bool):Option Bool:= some x3
def VK (a1:Span):Option Bool:= bif decide ((imin a1.A a1.B)≥(-600)) then UK (decide ((imax a1.A a1.B)<=600)) else UK false
def JD (a1:Span):Option Bool:= some (decide (a1.A≥a1.B))
def ZU (a1:qQ):Nat->Int->Option (Int⊕Unit)
 |0,_=>none
 |n+1,x6=> bif decide (x6<(a1.Rows.length:Int)) then bif inb x6 a1.Rows.length then (VK (a1.Rows.getD x6.toNat du)).bind λv9=> bif !v9 then some (Sum.inl 9) else (ZU a1 n) (w64 (x6+1)) else none else some (Sum.inr ())
def BR (x27:Int) (R:Int->Option (Int⊕Unit)) (x33:Bool):Option (Int⊕Unit):= bif x33 then some (Sum.inl 19) else R (w64 (x27+1))
def yF (a1:qQ):Nat->Int->Option (Int⊕Unit)
 |0,_=>none
 |n+1,x27=> bif decide (x27<(a1.Rows.length:Int)) then bif inb x27 a1.Rows.length then (JD (a1.Rows.getD x27.toNat du)).bind λv30=> bif v30 then BR x27 (yF a1 n) (!((((a1.Rows.getD x27.toNat du).A)==0)&&((((a1.Rows.getD x27.toNat du).B)==0)&&true))) else BR x27 (yF a1 n) false else none else some (Sum.inr ())
def NK (a1:qQ) (x25:Bool):Option Int:= bif x25 then some 19 else (yF a1 FUEL 0).bind λu37=>Sum.elim (λv38=>some v38) (λo35=> some 0) u37
def NC (a1:qQ) (x4:Bool):Option Int:= bif x4 then some 9 else (ZU a1 FUEL 0).bind λu14=>Sum.elim (λv15=>some v15) (λo12=> bif (a1.Rows.length:Int)==0 then bif a1.Low !=0 then some 19 else some 0 else bif inb 0 a1.Rows.length then (JD (a1.Rows.getD (0:Int).toNat du)).bind λv19=> bif v19 then NK a1 true else bif inb (w64 ((a1.Rows.length:Int)-1)) a1.Rows.length then (JD (a1.Rows.getD (w64 ((a1.Rows.length:Int)-1)).toNat du)).bind λv23=> NK a1 v23 else none else none) u14
def TN (a1:qQ):Option Int:= bif decide ((a1.Rows.length:Int)>120) then some 4 else bif decide (a1.Low<(-60)) then NC a1 true else NC a1 (decide (a1.Low>(w64 (60-(a1.Rows.length:Int)))))
def EJ (a1:List qC) (x4:Int) (x5:Int) (R:Int->Int->Option (Int⊕Unit)) (x13:Bool):Option (Int⊕Unit):= bif x13 then some (Sum.inl 9) else R (w64 (x4+((a1.getD x5.toNat du).Len))) (w64 (x5+1))
def QS (a1:List qC):Nat->Int->Int->Option (Int⊕Unit)
 |0,_,_=>none
 |n+1,x4,x5=> bif decide (x5<(a1.length:Int)) then bif inb x5 a1.length then (TN ((a1.getD x5.toNat du).Sec)).bind λv8=> bif v8 !=0 then some (Sum.inl v8) else bif (((((a1.getD x5.toNat du).Sec).Rows).length:Nat):Int)==0 then some (Sum.inl 18) else bif decide (((a1.getD x5.toNat du).Len)<1) then EJ a1 x4 x5 (QS a1 n) true else EJ a1 x4 x5 (QS a1 n) (decide (((a1.getD x5.toNat du).Len)>(w64 (20000-x4)))) else none else some (Sum.inr ())
def XE (a1:List qC):Option Int:= bif (a1.length:Int)==0 then some 3 else bif decide ((a1.length:Int)>24) then some 4 else (QS a1 FUEL 0 0).bind λu17=>Sum.elim (λv18=>some v18) (λo15=> some 0) u17
def QO (a1:Span):Option Bool:= some (decide (a1.A≥a1.B))
def NF (x5:Bool):Option Bool:= some x5
def KW (a1:Span) (a2:Int) (a3:Int):Option Bool:= bif decide ((imin a1.A a1.B)≥a2) then NF (decide ((imax a1.A a1.B)<=a3)) else NF false
def VF (x23:Bool):Option Int:= bif x23 then some 9 else some 0
def US (a1:qF) (x13:Bool):Option Int:= bif x13 then some 19 else (KW a1.Box.X (-600) 600).bind λv15=> bif !v15 then VF true else (KW a1.Box.Y (-600) 600).bind λv18=> bif !v18 then VF true else (KW a1.Box.Z 0 20000).bind λv21=> VF (!v21)
def MI (a1:qF) (x3:Bool):Option Int:= bif x3 then some 10 else (QO a1.Box.X).bind λv5=> bif v5 then US a1 true else (QO a1.Box.Y).bind λv8=> bif v8 then US a1 true else (QO a1.Box.Z).bind λv11=> US a1 v11
def HH (a1:qF):Option Int:= bif decide (a1.Kind<1) then MI a1 true else MI a1 (decide (a1.Kind>6))
def JE (a1:List qF):Nat->Int->Option (Int⊕Unit)
 |0,_=>none
 |n+1,x3=> bif decide (x3<(a1.length:Int)) then bif inb x3 a1.length then (HH (a1.getD x3.toNat du)).bind λv6=> bif v6 !=0 then some (Sum.inl v6) else (JE a1 n) (w64 (x3+1)) else none else some (Sum.inr ())
def XK (a1:List qF):Option Int:= bif decide ((a1.length:Int)>64) then some 4 else (JE a1 FUEL 0).bind λu11=>Sum.elim (λv12=>some v12) (λo9=> some 0) u11
def NI (x3:Bool):Option Bool:= some x3
def TP (a1:Int):Option Bool:= bif decide (97<=a1) then NI (decide (a1<=122)) else NI false
def BQ (x3:Bool):Option Bool:= some x3
def FA (a1:Int):Option Bool:= bif decide (48<=a1) then BQ (decide (a1<=57)) else BQ false
def UP (x9:Int) (R:Int->Option (Bool⊕Unit)) (x18:Bool):Option (Bool⊕Unit):= bif x18 then some (Sum.inl false) else R (w64 (x9+1))
def jW (a1:ByteArray):Nat->Int->Option (Bool⊕Unit)
 |0,_=>none
 |n+1,x9=> bif decide (x9<(a1.size:Int)) then bif inb x9 a1.size then (TP (strAt a1 x9.toNat)).bind λv12=> bif !v12 then (FA (strAt a1 x9.toNat)).bind λv15=> bif !v15 then UP x9 (jW a1 n) ((strAt a1 x9.toNat) !=95) else UP x9 (jW a1 n) false else UP x9 (jW a1 n) false else none else some (Sum.inr ())
def UY (a1:ByteArray) (x7:Bool):Option Bool:= bif x7 then some false else (jW a1 FUEL 1).bind λu22=>Sum.elim (λv23=>some v23) (λo20=> some true) u22
def SA (a1:ByteArray):Option Bool:= bif decide ((a1.size:Int)<1) then UY a1 true else bif decide ((a1.size:Int)>16) then UY a1 true else bif inb 0 a1.size then (TP (strAt a1 ((0:Int).toNat))).bind λv5=> UY a1 (!v5) else none
def WQ (a1:List Product) (a2:ByteArray):Nat->Int->Option ((Int×Bool)⊕Unit)
 |0,_=>none
 |n+1,x3=> bif decide (x3<(a1.length:Int)) then bif inb x3 a1.length then bif strEq ((a1.getD x3.toNat du).Name) a2 then some (Sum.inl (x3,true)) else (WQ a1 a2 n) (w64 (x3+1)) else none else some (Sum.inr ())
def SO (a1:List Product) (a2:ByteArray):Option (Int×Bool):= (WQ a1 a2 FUEL 0).bind λu9=>Sum.elim (λv10=>some v10) (λo7=> some (0,false)) u9
def GI (x3:Bool):Option Bool:= some x3
def RL (a1:Int):Option Bool:= bif decide (a1≥1) then GI (decide (a1<=600)) else GI false
def HV (a1:Int) (a2:Int):Option Int:= some (w64 (Int.tdiv (w64 ((w64 (a1*(w64 (1000+a2))))+999)) 1000))
def YS (a1:Product) (x9:Bool):Option (Int×Int):= bif x9 then some (0,0) else (HV a1.Thick a1.Allow).bind λv11=> (HV a1.Width a1.Allow).bind λv13=> some (v11,v13)
def ZO (a1:Product):Option (Int×Int):= (RL a1.Thick).bind λv2=> bif !v2 then YS a1 true else (RL a1.Width).bind λv5=> bif !v5 then YS a1 true else bif decide (a1.Allow<0) then YS a1 true else YS a1 (decide (a1.Allow>200))
def YB (x18:Int) (R:Int->Option (Int⊕Unit)) (x26:Bool):Option (Int⊕Unit):= bif x26 then some (Sum.inl 11) else R (w64 (x18+1))
def YC (a1:Product) (x18:Int) (R:Int->Option (Int⊕Unit)) (x22:Bool):Option (Int⊕Unit):= bif x22 then some (Sum.inl 9) else bif decide (x18>0) then bif inb (w64 (x18-1)) a1.Lengths.length then YB x18 R (decide ((a1.Lengths.getD x18.toNat du)<=(a1.Lengths.getD (w64 (x18-1)).toNat du))) else none else YB x18 R false
def wJ (a1:Product):Nat->Int->Option (Int⊕Unit)
 |0,_=>none
 |n+1,x18=> bif decide (x18<(a1.Lengths.length:Int)) then bif inb x18 a1.Lengths.length then bif decide ((a1.Lengths.getD x18.toNat du)<100) then YC a1 x18 (wJ a1 n) true else YC a1 x18 (wJ a1 n) (decide ((a1.Lengths.getD x18.toNat du)>20000)) else none else some (Sum.inr ())
def YD (x32:Int) (R:Int->Option (Int⊕Unit)) (x36:Bool):Option (Int⊕Unit):= bif x36 then some (Sum.inl 9) else R (w64 (x32+1))
def wQ (a1:Product):Nat->Int->Option (Int⊕Unit)
 |0,_=>none
 |n+1,x32=> bif decide (x32<(a1.Prices.length:Int)) then bif inb x32 a1.Prices.length then bif decide ((a1.Prices.getD x32.toNat du)<0) then YD x32 (wQ a1 n) true else YD x32 (wQ a1 n) (decide ((a1.Prices.getD x32.toNat du)>1000000)) else none else some (Sum.inr ())
def jX (a1:Product) (x10:Bool):Option Int:= bif x10 then some 9 else (ZO a1).bind λv12=> bif decide (v12.2>600) then some 9 else bif (a1.Lengths.length:Int)==0 then some 3 else bif decide ((a1.Lengths.length:Int)>8) then some 4 else bif (a1.Prices.length:Int) !=(a1.Lengths.length:Int) then some 19 else (wJ a1 FUEL 0).bind λu30=>Sum.elim (λv31=>some v31) (λo28=> (wQ a1 FUEL 0).bind λu40=>Sum.elim (λv41=>some v41) (λo38=> some 0) u40) u30
def jY (a1:Product) (x5:Bool):Option Int:= bif x5 then some 9 else bif decide (a1.Allow<0) then jX a1 true else bif decide (a1.Allow>200) then jX a1 true else bif decide (a1.Wane<0) then jX a1 true else jX a1 (decide (a1.Wane>1000))
def JG (a1:Product):Option Int:= bif decide (a1.Thick<5) then jY a1 true else bif decide (a1.Thick>300) then jY a1 true else bif decide (a1.Width<a1.Thick) then jY a1 true else jY a1 (decide (a1.Width>600))
def ZS (a1:List Product):Nat->Int->Option (Int⊕Unit)
 |0,_=>none
 |n+1,x3=> bif decide (x3<(a1.length:Int)) then bif inb x3 a1.length then (SA ((a1.getD x3.toNat du).Name)).bind λv6=> bif !v6 then some (Sum.inl 6) else bif slOk 0 x3 a1.length then (SO (a1.take x3.toNat) ((a1.getD x3.toNat du).Name)).bind λv10=> bif v10.2 then some (Sum.inl 7) else (JG (a1.getD x3.toNat du)).bind λv13=> bif v13 !=0 then some (Sum.inl v13) else (ZS a1 n) (w64 (x3+1)) else none else none else some (Sum.inr ())
def yK (a1:List Product):Option Int:= bif decide ((a1.length:Int)>16) then some 4 else (ZS a1 FUEL 0).bind λu18=>Sum.elim (λv19=>some v19) (λo16=> some 0) u18
def ML (x3:Bool):Option Bool:= some x3
def DH (a1:Int):Option Bool:= bif decide (a1≥1) then ML (decide (a1<=20000)) else ML false
def MH (x3:Bool):Option Bool:= some x3
def GT (a1:Int):Option Bool:= bif decide (a1≥0) then MH (decide (a1<=1000000)) else MH false
def YL (x20:Bool):Option Int:= bif x20 then some 9 else some 0
def GS (a2:Rates) (x12:Bool):Option Int:= bif x12 then some 9 else bif decide (a2.Chip<0) then YL true else bif decide (a2.Chip>1000) then YL true else bif decide (a2.Dust<0) then YL true else bif decide (a2.Dust>1000) then YL true else (GT a2.Fine).bind λv18=> YL (!v18)
def RG (a1:Saw) (a2:Rates) (x6:Bool):Option Int:= bif x6 then some 9 else bif decide (a1.Pitch<1) then GS a2 true else bif decide (a1.Pitch>2000) then GS a2 true else (DH a1.Step).bind λv10=> GS a2 (!v10)
def PR (a1:Saw) (a2:Rates):Option Int:= bif decide (a1.Kerf<0) then RG a1 a2 true else bif decide (a1.Kerf>20) then RG a1 a2 true else bif decide (a1.Trim<0) then RG a1 a2 true else RG a1 a2 (decide (a1.Trim>20))
def SB (x5:Int) (R:Int->Option (Int⊕Unit)) (x9:Bool):Option (Int⊕Unit):= bif x9 then some (Sum.inl 9) else R (w64 (x5+1))
def wC (a1:Rect):Nat->Int->Option (Int⊕Unit)
 |0,_=>none
 |n+1,x5=> bif decide (x5<4) then bif inb x5 4 then bif decide ((([a1.X.A,a1.X.B,a1.Y.A,a1.Y.B]:List Int).getD x5.toNat 0)<(-600)) then SB x5 (wC a1 n) true else SB x5 (wC a1 n) (decide ((([a1.X.A,a1.X.B,a1.Y.A,a1.Y.B]:List Int).getD x5.toNat 0)>600)) else none else some (Sum.inr ())
def UH (a1:Rect) (x3:Bool):Option Int:= bif x3 then some 19 else (wC a1 FUEL 0).bind λu13=>Sum.elim (λv14=>some v14) (λo11=> some 0) u13
def XZ (a1:Rect):Option Int:= bif decide (a1.X.A≥a1.X.B) then UH a1 true else UH a1 (decide (a1.Y.A≥a1.Y.B))
def BW (a1:List qC) (a2:List qF) (a3:List Product) (a4:Rect) (a5:Saw) (a6:Rates):Option Int:= (XE a1).bind λv7=> bif v7 !=0 then some v7 else (XK a2).bind λv10=> bif v10 !=0 then some v10 else (yK a3).bind λv13=> bif v13 !=0 then some v13 else (PR a5 a6).bind λv16=> bif v16 !=0 then some v16 else (XZ a4).bind λv19=> some v19
def ND (a1:List Int):Option (List Int):= bif Nat.blt a1.length 4611686018427387904 then some (GO (λx y=>decide (x<=y)) a1) else none
def XF (x12:Int) (R:(List Int)->Int->Int->Option ((List Int)×Int)) (l19:List Int) (x20:Int):Option ((List Int)×Int):= R l19 x20 (w64 (x12+1))
def wY (l3:List Int) (x4:Int):Nat->(List Int)->Int->Int->Option ((List Int)×Int)
 |0,_,_,_=>none
 |n+1,l10,x11,x12=> bif decide (x12<(((l3.length-x4.toNat):Nat):Int)) then bif inb x12 (l3.length-x4.toNat) then bif Nat.ble (x4.toNat+(l3.length-x4.toNat)) l10.length then bif inb (w64 (x12-1)) (l3.length-x4.toNat) then bif (l10.getD (x4.toNat+x12.toNat) du) !=(l10.getD (x4.toNat+((w64 (x12-1)).toNat)) du) then bif inb x11 l10.length then XF x12 (wY l3 x4 n) (l10.set x11.toNat (l10.getD (x4.toNat+x12.toNat) du)) (w64 (x11+1)) else none else XF x12 (wY l3 x4 n) l10 x11 else none else none else none else some (l10,x11)
def yO :Nat->(List Int)->Int->Option (((List Int)×(List Int))⊕(List Int))
 |0,_,_=>none
 |n+1,l3,x4=> bif decide (x4<(l3.length:Int)) then bif inb x4 l3.length then bif inb (w64 (x4-1)) l3.length then bif (l3.getD x4.toNat du)==(l3.getD ((w64 (x4-1)).toNat) du) then bif slOk x4 (l3.length:Int) l3.length then (wY l3 x4 FUEL l3 x4 1).bind λo23=> bif slOk o23.2 (o23.1.length:Int) o23.1.length then bif slOk 0 o23.2 o23.1.length then some (Sum.inl ((o23.1.take o23.2.toNat),(o23.1.take o23.2.toNat))) else none else none else none else (yO n) l3 (w64 (x4+1)) else none else none else some (Sum.inr l3)
def YK (a1:List Int):Option ((List Int)×(List Int)):= bif decide ((a1.length:Int)<2) then some (a1,a1) else (yO FUEL a1 1).bind λu30=>Sum.elim (λv31=>some v31) (λo28=> some (o28,o28)) u30
def KI (a1:List Product):Nat->(List Int)->Int->Option (List Int)
 |0,_,_=>none
 |n+1,l5,x6=> bif decide (x6<(a1.length:Int)) then bif inb x6 a1.length then (ZO (a1.getD x6.toNat du)).bind λv9=> bif room (l5.length+2) 8 then (KI a1 n) (l5++[v9.1,v9.2]) (w64 (x6+1)) else none else none else some l5
def XJ (a1:List Product):Option (List Int):= (yK a1).bind λv2=> bif v2 !=0 then some ([]:List Int) else (KI a1 FUEL [] 0).bind λo13=> (ND o13).bind λv15=> bif v15.length==o13.length then (YK v15).bind λv18=> some v18.2 else none
def NN (a1:Rect) (a2:Int) (a3:Int):Option Rect:= some (Rect.mk a1.X (Span.mk (w64 (a1.Y.A+a2)) (w64 (a1.Y.A+a3))))
def CU (x22:Int) (R:Int->Option (Int⊕Unit)) (x26:Bool):Option (Int⊕Unit):= bif x26 then some (Sum.inl 9) else R (w64 (x22+1))
def ZP (a4:Rect):Nat->Int->Option (Int⊕Unit)
 |0,_=>none
 |n+1,x22=> bif decide (x22<4) then bif inb x22 4 then bif decide ((([a4.X.A,a4.X.B,a4.Y.A,a4.Y.B]:List Int).getD x22.toNat 0)<(-600)) then CU x22 (ZP a4 n) true else CU x22 (ZP a4 n) (decide ((([a4.X.A,a4.X.B,a4.Y.A,a4.Y.B]:List Int).getD x22.toNat 0)>600)) else none else some (Sum.inr ())
def CQ (a4:Rect) (x20:Bool):Option Int:= bif x20 then some 19 else (ZP a4 FUEL 0).bind λu30=>Sum.elim (λv31=>some v31) (λo28=> some 0) u30
def qBN (a1:List qC) (a2:List qF) (a3:List Product) (a4:Rect) (a5:Saw) (a6:Rates):Option Int:= (XE a1).bind λv7=> bif v7 !=0 then some v7 else (XK a2).bind λv10=> bif v10 !=0 then some v10 else (yK a3).bind λv13=> bif v13 !=0 then some v13 else (PR a5 a6).bind λv16=> bif v16 !=0 then some v16 else bif decide (a4.X.A≥a4.X.B) then CQ a4 true else CQ a4 (decide (a4.Y.A≥a4.Y.B))
def CP (x8:Int) (R:(List Int)->(List Int)->Int->Option ((List Int)×(List Int))) (l19:List Int) (l20:List Int):Option ((List Int)×(List Int)):= R l19 l20 (w64 (x8+1))
def OY (l7:List Int) (x8:Int) (R:(List Int)->(List Int)->Int->Option ((List Int)×(List Int))) (l17:List Int):Option ((List Int)×(List Int)):= bif room (l7.length+1) 8 then CP x8 R l17 (l7++[x8]) else none
def yG (a1:List Product) (a2:Int):Nat->(List Int)->(List Int)->Int->Option ((List Int)×(List Int))
 |0,_,_,_=>none
 |n+1,l6,l7,x8=> bif decide (x8<(a1.length:Int)) then bif inb x8 a1.length then (ZO (a1.getD x8.toNat du)).bind λv11=> bif a2==v11.1 then bif room (l6.length+1) 8 then OY l7 x8 (yG a1 a2 n) (l6++[v11.2]) else none else bif a2==v11.2 then bif room (l6.length+1) 8 then OY l7 x8 (yG a1 a2 n) (l6++[v11.1]) else none else CP x8 (yG a1 a2 n) l6 l7 else none else some (l6,l7)
def NW (a1:List Product) (a2:Int):Option ((List Int)×(List Int)):= (yK a1).bind λv3=> bif v3 !=0 then some ([],[]) else (yG a1 a2 FUEL [] [] 0).bind λo23=> some (o23.1,o23.2)
def HW (a1:Rect) (a2:Int) (a3:Int):Option Rect:= some (Rect.mk (Span.mk (w64 (a1.X.A+a2)) (w64 (a1.X.A+a3))) a1.Y)
def QX (x2:Int) (R:Int->Option (Bool⊕Unit)) (x7:Bool):Option (Bool⊕Unit):= bif x7 then some (Sum.inl false) else R (w64 (x2+1))
def jC (a1:Rect):Nat->Int->Option (Bool⊕Unit)
 |0,_=>none
 |n+1,x2=> bif decide (x2<2) then bif inb x2 2 then bif decide ((([a1.X.A,a1.X.B,a1.Y.A,a1.Y.B]:List Int).getD (x2.toNat*2+0) 0)<(-600)) then QX x2 (jC a1 n) true else bif decide ((([a1.X.A,a1.X.B,a1.Y.A,a1.Y.B]:List Int).getD (x2.toNat*2+1) 0)>600) then QX x2 (jC a1 n) true else QX x2 (jC a1 n) (decide ((([a1.X.A,a1.X.B,a1.Y.A,a1.Y.B]:List Int).getD (x2.toNat*2+0) 0)≥(([a1.X.A,a1.X.B,a1.Y.A,a1.Y.B]:List Int).getD (x2.toNat*2+1) 0))) else none else some (Sum.inr ())
def HX (a1:Rect):Option Bool:= (jC a1 FUEL 0).bind λu11=>Sum.elim (λv12=>some v12) (λo9=> some true) u11
def PS (a1:List qC):Option (List qC):= (XE a1).bind λv2=> bif v2 !=0 then some ([]:List qC) else some a1
def WN (v2:(List qC)):Nat->Int->Int->Option Int
 |0,_,_=>none
 |n+1,x4,x5=> bif decide (x5<(v2.length:Int)) then bif inb x5 v2.length then (WN v2 n) (w64 (x4+((v2.getD x5.toNat du).Len))) (w64 (x5+1)) else none else some x4
def ZE (a1:List qC):Option Int:= (PS a1).bind λv2=> (WN v2 FUEL 0 0).bind λo9=> some o9
def KU (a1:qQ):Option qQ:= (TN a1).bind λv2=> bif v2 !=0 then some (qQ.mk 0 []) else some a1
def KL (a1:Int) (a2:Int):Option Span:= some (Span.mk (w64 (10*a1)) (w64 (10*a2)))
def PQ (a1:Span) (a2:Span):Option Span:= bif decide ((imax a1.A a2.A)≥(imin a1.B a2.B)) then some (Span.mk 0 0) else some (Span.mk (imax a1.A a2.A) (imin a1.B a2.B))
def qGt (a1:Span):Option Int:= bif decide (a1.A≥a1.B) then some 0 else some (IntKind.u64.wrap ((IntKind.u64.wrap (a1.B))-(IntKind.u64.wrap (a1.A))))
def qBA (a1:Int):Option Int:= some (w64 (imin a1 9223372036854775807))
def PB (a1:Span):Option Int:= (qGt a1).bind λv2=> (qBA v2).bind λv4=> some v4
def JN (a2:Rect) (v3:qQ):Nat->Int->Int->Option Int
 |0,_,_=>none
 |n+1,x5,x6=> bif decide (x6<(v3.Rows.length:Int)) then bif inb x6 v3.Rows.length then (KL (w64 (v3.Low+x6)) (w64 ((w64 (v3.Low+x6))+1))).bind λv9=> (PQ (v3.Rows.getD x6.toNat du) a2.X).bind λv11=> (PB v11).bind λv13=> (PQ v9 a2.Y).bind λv15=> (PB v15).bind λv17=> (JN a2 v3 n) (w64 (x5+(w64 (v13*v17)))) (w64 (x6+1)) else none else some x5
def RF (a1:qQ) (a2:Rect):Option Int:= (KU a1).bind λv3=> (JN a2 v3 FUEL 0 0).bind λo20=> some o20
def RC (a1:List qC) (a2:Rect):Nat->(List qW)->Int->Int->Option (List qW)
 |0,_,_,_=>none
 |n+1,l3,x4,x5=> bif decide (x5<(a1.length:Int)) then bif inb x5 a1.length then (RF ((a1.getD x5.toNat du).Sec) a2).bind λv8=> bif nz (w64 ((w64 (a2.X.B-a2.X.A))*(w64 (a2.Y.B-a2.Y.A)))) then bif room (l3.length+1) 24 then (RC a1 a2 n) (l3++[(qW.mk (Span.mk x4 (w64 (x4+((a1.getD x5.toNat du).Len)))) (w64 (Int.tdiv (w64 ((w64 ((w64 (1000*(w64 ((w64 ((w64 (a2.X.B-a2.X.A))*(w64 (a2.Y.B-a2.Y.A))))-v8))))+(w64 ((w64 (a2.X.B-a2.X.A))*(w64 (a2.Y.B-a2.Y.A))))))-1)) (w64 ((w64 (a2.X.B-a2.X.A))*(w64 (a2.Y.B-a2.Y.A)))))))]) (w64 (x4+((a1.getD x5.toNat du).Len))) (w64 (x5+1)) else none else none else none else some l3
def OT (a1:List qC) (a2:Rect):Option (List qW):= (RC a1 a2 FUEL [] 0 0).bind λo13=> some o13
def RD (a1:zA) (a2:Span):Option Box:= some (Box.mk a1.rect.X a1.rect.Y a2)
def BF (v3:Span) (v5:Span) (v7:Span) (x17:Bool):Option (Box×Bool):= bif x17 then some ((Box.mk (Span.mk 0 0) (Span.mk 0 0) (Span.mk 0 0)),false) else some ((Box.mk v3 v5 v7),true)
def qCN (a1:Box) (a2:Box):Option (Box×Bool):= (PQ a1.X a2.X).bind λv3=> (PQ a1.Y a2.Y).bind λv5=> (PQ a1.Z a2.Z).bind λv7=> (QO v3).bind λv9=> bif v9 then BF v3 v5 v7 true else (QO v5).bind λv12=> bif v12 then BF v3 v5 v7 true else (QO v7).bind λv15=> BF v3 v5 v7 v15
def RJ (a1:qF) (a2:Box):Option Bool:= (qCN a1.Box a2).bind λv3=> some v3.2
def CC (x29:Int) (R:Int->(List qF)->Option (List qF)) (l37:List qF):Option (List qF):= R (w64 (x29+1)) l37
def JV (a2:List qF) (v27:Box):Nat->Int->(List qF)->Option (List qF)
 |0,_,_=>none
 |n+1,x29,l30=> bif decide (x29<(a2.length:Int)) then bif inb x29 a2.length then (RJ (a2.getD x29.toNat du) v27).bind λv33=> bif v33 then bif room (l30.length+1) 56 then CC x29 (JV a2 v27 n) (l30++[(a2.getD x29.toNat du)]) else none else CC x29 (JV a2 v27 n) l30 else none else some l30
def FO (a1:List qC) (a2:List qF) (a3:Product) (a4:Rect) (x21:Bool):Option (zA×Bool):= bif x21 then some ((zA.mk (Product.mk (ByteArray.mk #[]) 0 0 0 0 [] []) (Rect.mk (Span.mk 0 0) (Span.mk 0 0)) 0 [] []),false) else (ZE a1).bind λv23=> (OT a1 a4).bind λv25=> (RD (zA.mk a3 a4 v23 v25 []) (Span.mk 0 v23)).bind λv27=> (JV a2 v27 FUEL 0 []).bind λo39=> some ((zA.mk a3 a4 v23 v25 o39),true)
def TW (a1:List qC) (a2:List qF) (a3:Product) (a4:Rect) (x16:Bool):Option (zA×Bool):= bif x16 then some ((zA.mk (Product.mk (ByteArray.mk #[]) 0 0 0 0 [] []) (Rect.mk (Span.mk 0 0) (Span.mk 0 0)) 0 [] []),false) else (ZO a3).bind λv18=> bif !(((w64 (a4.X.B-a4.X.A))==v18.1)&&(((w64 (a4.Y.B-a4.Y.A))==v18.2)&&true)) then FO a1 a2 a3 a4 (!(((w64 (a4.X.B-a4.X.A))==v18.2)&&(((w64 (a4.Y.B-a4.Y.A))==v18.1)&&true))) else FO a1 a2 a3 a4 false
def qBC (a1:List qC) (a2:List qF) (a3:Product) (a4:Rect):Option (zA×Bool):= (XE a1).bind λv5=> bif v5 !=0 then TW a1 a2 a3 a4 true else (XK a2).bind λv8=> bif v8 !=0 then TW a1 a2 a3 a4 true else (yK [a3]).bind λv11=> bif v11 !=0 then TW a1 a2 a3 a4 true else (HX a4).bind λv14=> TW a1 a2 a3 a4 (!v14)
def PE (x5:Bool):Option Bool:= some x5
def AO (a1:Span) (a2:Int):Option Bool:= bif decide (a1.A≥0) then bif decide (a1.A<a1.B) then PE (decide (a1.B<=a2)) else PE false else PE false
def ZR (a1:Product) (a2:Int):Nat->Int->Option ((Int×Bool)⊕Unit)
 |0,_=>none
 |n+1,x3=> bif decide (x3<(a1.Lengths.length:Int)) then bif inb x3 a1.Lengths.length then bif (a1.Lengths.getD x3.toNat du) !=a2 then (ZR a1 a2 n) (w64 (x3+1)) else bif decide (x3≥(a1.Prices.length:Int)) then some (Sum.inl (0,false)) else bif inb x3 a1.Prices.length then some (Sum.inl ((a1.Prices.getD x3.toNat du),true)) else none else none else some (Sum.inr ())
def FI (a1:Product) (a2:Int):Option (Int×Bool):= (ZR a1 a2 FUEL 0).bind λu11=>Sum.elim (λv12=>some v12) (λo9=> some (0,false)) u11
def AB (x4:Int) (R:Int->Int->Option Int) (x10:Int):Option Int:= R x10 (w64 (x4+1))
def AN (a1:List qW) (x3:Int) (x4:Int) (R:Int->Int->Option Int) (x8:Bool):Option Int:= bif x8 then AB x4 R (imax x3 ((a1.getD x4.toNat du).lack)) else AB x4 R x3
def QT (a1:List qW) (a2:Span):Nat->Int->Int->Option Int
 |0,_,_=>none
 |n+1,x3,x4=> bif decide (x4<(a1.length:Int)) then bif inb x4 a1.length then bif decide ((((a1.getD x4.toNat du).z).A)<a2.B) then AN a1 x3 x4 (QT a1 a2 n) (decide (a2.A<(((a1.getD x4.toNat du).z).B))) else AN a1 x3 x4 (QT a1 a2 n) false else none else some x3
def OS (a1:List qW) (a2:Span):Option Int:= (QT a1 a2 FUEL 0 0).bind λo12=> some o12
def TJ (x17:Int) (R:Int->Int->Option ((Int×Bool)⊕Int)) (x24:Int):Option ((Int×Bool)⊕Int):= R x24 (w64 (x17+1))
def wM (a1:zA) (a3:Int) (v14:Box):Nat->Int->Int->Option ((Int×Bool)⊕Int)
 |0,_,_=>none
 |n+1,x16,x17=> bif decide (x17<(a1.defects.length:Int)) then bif inb x17 a1.defects.length then (RJ (a1.defects.getD x17.toNat du) v14).bind λv20=> bif !v20 then TJ x17 (wM a1 a3 v14 n) x16 else bif ((a1.defects.getD x17.toNat du).Kind)==3 then some (Sum.inl (0,false)) else TJ x17 (wM a1 a3 v14 n) (w64 (x16-a3)) else none else some (Sum.inr x16)
def TH (a1:zA) (a2:Span) (a3:Int) (v7:Int×Bool) (x12:Bool):Option (Int×Bool):= bif x12 then some (0,false) else (RD a1 a2).bind λv14=> (wM a1 a3 v14 FUEL v7.1 0).bind λu28=>Sum.elim (λv29=>some v29) (λo26=> some (imax o26 0,true)) u28
def YU (a1:zA) (a2:Span) (a3:Int):Option (Int×Bool):= (AO a2 a1.length).bind λv4=> bif !v4 then some (0,false) else (FI a1.product (w64 (a2.B-a2.A))).bind λv7=> bif !v7.2 then TH a1 a2 a3 v7 true else (OS a1.zones a2).bind λv10=> TH a1 a2 a3 v7 (decide (v10>a1.product.Wane))
def CJ (x24:Int) (R:Int->Bool->Int->Span->Option (Int×Bool×Span)) (x34:Int) (x35:Bool) (x36:Span):Option (Int×Bool×Span):= R x34 x35 (w64 (x24+1)) x36
def FM (a3:Product) (x19:Int) (x22:Int) (x23:Bool) (x24:Int) (x25:Span) (R:Int->Bool->Int->Span->Option (Int×Bool×Span)) (v28:Int×Bool) (x32:Bool):Option (Int×Bool×Span):= bif x32 then CJ x24 R v28.1 true (Span.mk x19 (w64 (x19+(a3.Lengths.getD x24.toNat du)))) else CJ x24 R x22 x23 x25
def yH (a3:Product) (a6:Int) (v14:zA×Bool) (x19:Int):Nat->Int->Bool->Int->Span->Option (Int×Bool×Span)
 |0,_,_,_,_=>none
 |n+1,x22,x23,x24,x25=> bif decide (x24<(a3.Lengths.length:Int)) then bif inb x24 a3.Lengths.length then (YU (zA.mk v14.1.product v14.1.rect v14.1.length v14.1.zones v14.1.defects) (Span.mk x19 (w64 (x19+(a3.Lengths.getD x24.toNat du)))) a6).bind λv28=> bif v28.2 then bif !x23 then FM a3 x19 x22 x23 x24 x25 (yH a3 a6 v14 x19 n) v28 true else FM a3 x19 x22 x23 x24 x25 (yH a3 a6 v14 x19 n) v28 (decide (v28.1>x22)) else FM a3 x19 x22 x23 x24 x25 (yH a3 a6 v14 x19 n) v28 false else none else some (x22,x23,x25)
def KV (a3:Product) (a5:Int) (a6:Int) (v14:zA×Bool):Nat->Int->Bool->Int->Span->Option (Int×Bool×Span)
 |0,_,_,_,_=>none
 |n+1,x17,x18,x19,x20=> bif decide (x19<v14.1.length) then (yH a3 a6 v14 x19 FUEL x17 x18 0 x20).bind λo40=> (KV a3 a5 a6 v14 n) o40.1 o40.2.1 (w64 (x19+a5)) o40.2.2 else some (x17,x18,x20)
def CM (a1:List qC) (a2:List qF) (a3:Product) (a4:Rect) (a5:Int) (a6:Int) (x12:Bool):Option (Span×Int×Bool):= bif x12 then some ((Span.mk 0 0),0,false) else (qBC a1 a2 a3 a4).bind λv14=> bif !v14.2 then some ((Span.mk 0 0),0,false) else (KV a3 a5 a6 v14 FUEL 0 false 0 (Span.mk 0 0)).bind λo45=> some (o45.2.2,o45.1,o45.2.1)
def EL (a1:List qC) (a2:List qF) (a3:Product) (a4:Rect) (a5:Int) (a6:Int):Option (Span×Int×Bool):= (DH a5).bind λv7=> bif !v7 then CM a1 a2 a3 a4 a5 a6 true else (GT a6).bind λv10=> CM a1 a2 a3 a4 a5 a6 (!v10)
def YP (a1:List qC):Nat->(List Span)->Int->Int->Option (List Span)
 |0,_,_,_=>none
 |n+1,l3,x4,x5=> bif decide (x5<(a1.length:Int)) then bif inb x5 a1.length then bif inb x5 l3.length then (YP a1 n) (l3.set x5.toNat (Span.mk x4 (w64 (x4+((a1.getD x5.toNat du).Len))))) (w64 (x4+((a1.getD x5.toNat du).Len))) (w64 (x5+1)) else none else none else some l3
def FJ (a1:List qC):Option (List Span):= bif mkOk (a1.length:Int) 16 then (YP a1 FUEL (List.replicate ((a1.length:Int).toNat) (Span.mk 0 0)) 0 0).bind λo10=> some o10 else none
def LR (x8:Int) (R:Int->Int->Option Int) (x19:Int):Option Int:= R x19 (w64 (x8+1))
def QY (a2:Box) (v3:(List qC)) (v5:(List Span)):Nat->Int->Int->Option Int
 |0,_,_=>none
 |n+1,x7,x8=> bif decide (x8<(v5.length:Int)) then bif inb x8 v5.length then (PQ (v5.getD x8.toNat du) a2.Z).bind λv11=> (PB v11).bind λv13=> bif decide (v13>0) then bif inb x8 v3.length then (RF ((v3.getD x8.toNat du).Sec) (Rect.mk a2.X a2.Y)).bind λv17=> LR x8 (QY a2 v3 v5 n) (w64 (x7+(w64 (v13*v17)))) else none else LR x8 (QY a2 v3 v5 n) x7 else none else some x7
def ZF (a1:List qC) (a2:Box):Option Int:= (PS a1).bind λv3=> (FJ v3).bind λv5=> (QY a2 v3 v5 FUEL 0 0).bind λo21=> some o21
def YZ (a1:List qC) (a2:Rect) (a3:Span):Option Int:= (ZF a1 (Box.mk a2.X a2.Y a3)).bind λv4=> some v4
def qCY (a1:List qC) (a2:List qF) (a3:Product) (a4:Rect) (a5:Saw) (a6:Rates):Option Int:= (EL a1 a2 a3 a4 a5.Step a6.Fine).bind λv7=> bif !v7.2.2 then some (-1) else (ZE a1).bind λv10=> (YZ a1 a4 (Span.mk 0 v10)).bind λv12=> (YZ a1 a4 v7.1).bind λv14=> (YZ a1 a4 (Span.mk (imax 0 (w64 (v7.1.A-a5.Trim))) v7.1.A)).bind λv16=> (YZ a1 a4 (Span.mk v7.1.B (imin (w64 (v7.1.B+a5.Trim)) v10))).bind λv18=> some (w64 ((w64 ((w64 (1000000*v7.2.1))+(w64 (a6.Dust*(w64 (v16+v18))))))+(w64 (a6.Chip*(w64 ((w64 (v12-v14))-(w64 (v16+v18))))))))
def qA0 (l16:List Int) (x17:Int) (R:(List Int)->Int->Option (List Int)) (x27:Int):Option (List Int):= bif room (l16.length+1) 8 then R (l16++[x27]) (w64 (x17+1)) else none
def JL (a1:List qC) (a2:List qF) (a3:List Product) (a4:Rect) (a5:Saw) (a6:Rates) (v10:(List Int)×(List Int)) (x12:Int):Nat->(List Int)->Int->Option (List Int)
 |0,_,_=>none
 |n+1,l16,x17=> bif decide ((w64 (x17+(v10.1.getD x12.toNat du)))<=(w64 (a4.X.B-a4.X.A))) then bif nz a5.Pitch then bif (Int.tmod x17 a5.Pitch)==0 then bif inb x12 v10.2.length then bif inb (v10.2.getD x12.toNat du) a3.length then (HW a4 x17 (w64 (x17+(v10.1.getD x12.toNat du)))).bind λv23=> (qCY a1 a2 (a3.getD (v10.2.getD x12.toNat du).toNat du) v23 a5 a6).bind λv25=> qA0 l16 x17 (JL a1 a2 a3 a4 a5 a6 v10 x12 n) v25 else none else none else qA0 l16 x17 (JL a1 a2 a3 a4 a5 a6 v10 x12 n) (-1) else none else some l16
def RX (a1:List qC) (a2:List qF) (a3:List Product) (a4:Rect) (a5:Saw) (a6:Rates) (v10:(List Int)×(List Int)):Nat->Int->(List (List Int))->Option (List (List Int))
 |0,_,_=>none
 |n+1,x12,l13=> bif decide (x12<(v10.1.length:Int)) then bif inb x12 v10.1.length then (JL a1 a2 a3 a4 a5 a6 v10 x12 FUEL [] 0).bind λo30=> bif room (l13.length+1) 24 then (RX a1 a2 a3 a4 a5 a6 v10 n) (w64 (x12+1)) (l13++[o30]) else none else none else some l13
def RQ (a1:List qC) (a4:Rect) (a6:Rates) (v36:Int):Nat->Int->(List Int)->(List Int)->Option ((List Int)×(List Int))
 |0,_,_,_=>none
 |n+1,x38,l39,l40=> bif decide (x38<(w64 (a4.X.B-a4.X.A))) then (HW a4 x38 (w64 (x38+1))).bind λv42=> (YZ a1 v42 (Span.mk 0 v36)).bind λv44=> bif room (l39.length+1) 8 then bif room (l40.length+1) 8 then (RQ a1 a4 a6 v36 n) (w64 (x38+1)) (l39++[w64 (a6.Chip*v44)]) (l40++[w64 (a6.Dust*v44)]) else none else none else some (l39,l40)
def qC6 (a1:List qC) (a2:List qF) (a3:List Product) (a4:Rect) (a5:Saw) (a6:Rates):Option (Line×Int):= (qBN a1 a2 a3 a4 a5 a6).bind λv7=> bif v7 !=0 then some ((Line.mk 0 0 0 [] [] [] []),v7) else (NW a3 (w64 (a4.Y.B-a4.Y.A))).bind λv10=> (RX a1 a2 a3 a4 a5 a6 v10 FUEL 0 []).bind λo34=> (ZE a1).bind λv36=> (RQ a1 a4 a6 v36 FUEL 0 [] []).bind λo50=> some ((Line.mk (w64 (a4.X.B-a4.X.A)) a5.Kerf 1 v10.1 o34 o50.1 o50.2),0)
def TG (x10:Int) (R:Int->Option (Int⊕Unit)) (x14:Bool):Option (Int⊕Unit):= bif x14 then some (Sum.inl 9) else R (w64 (x10+1))
def jQ (a1:Line):Nat->Int->Option (Int⊕Unit)
 |0,_=>none
 |n+1,x10=> bif decide (x10<(a1.Sizes.length:Int)) then bif inb x10 a1.Sizes.length then bif decide ((a1.Sizes.getD x10.toNat du)<1) then TG x10 (jQ a1 n) true else TG x10 (jQ a1 n) (decide ((a1.Sizes.getD x10.toNat du)>2000)) else none else some (Sum.inr ())
def jP (a1:Line) (x7:Bool):Option Int:= bif x7 then some 9 else bif decide ((a1.Sizes.length:Int)>32) then some 4 else (jQ a1 FUEL 0).bind λu18=>Sum.elim (λv19=>some v19) (λo16=> some 0) u18
def RU (a1:Line):Option Int:= bif decide (a1.Len<0) then jP a1 true else bif decide (a1.Len>2000) then jP a1 true else bif decide (a1.Kerf<0) then jP a1 true else bif decide (a1.Kerf>20) then jP a1 true else bif decide (a1.Pitch<1) then jP a1 true else jP a1 (decide (a1.Pitch>2000))
def EG (a1:Line) (a2:Int):Option Int:= some (imax 0 (w64 ((w64 (a1.Len-a2))+1)))
def NX (x5:Int) (R:Int->Option (Bool⊕Unit)) (x9:Bool):Option (Bool⊕Unit):= bif x9 then some (Sum.inl false) else R (w64 (x5+1))
def QD (a1:List (List Int)) (x2:Int):Nat->Int->Option (Bool⊕Unit)
 |0,_=>none
 |n+1,x5=> bif decide (x5<((a1.getD x2.toNat du).length:Int)) then bif inb x5 ((a1.getD x2.toNat du).length) then bif decide (((a1.getD x2.toNat du).getD x5.toNat du)<(-1125899906842624)) then NX x5 (QD a1 x2 n) true else NX x5 (QD a1 x2 n) (decide (((a1.getD x2.toNat du).getD x5.toNat du)>1125899906842624)) else none else some (Sum.inr ())
def YV (a1:List (List Int)):Nat->Int->Option (Bool⊕Unit)
 |0,_=>none
 |n+1,x2=> bif decide (x2<(a1.length:Int)) then bif inb x2 a1.length then (QD a1 x2 FUEL 0).bind λu13=>Sum.elim (λv14=>some (Sum.inl v14)) (λo11=> (YV a1 n) (w64 (x2+1))) u13 else none else some (Sum.inr ())
def TO (a1:List (List Int)):Option Bool:= (YV a1 FUEL 0).bind λu17=>Sum.elim (λv18=>some v18) (λo15=> some true) u17
def YO (a1:Line):Nat->Int->Option (Int⊕Unit)
 |0,_=>none
 |n+1,x9=> bif decide (x9<(a1.Gain.length:Int)) then bif inb x9 a1.Gain.length then bif inb x9 a1.Sizes.length then (EG a1 (a1.Sizes.getD x9.toNat du)).bind λv13=> bif ((a1.Gain.getD x9.toNat du).length:Int) !=v13 then some (Sum.inl 19) else (YO a1 n) (w64 (x9+1)) else none else none else some (Sum.inr ())
def NT (x25:Bool):Option Int:= bif x25 then some 9 else some 0
def RV (a1:Line) (x7:Bool):Option Int:= bif x7 then some 19 else (YO a1 FUEL 0).bind λu18=>Sum.elim (λv19=>some v19) (λo16=> (TO a1.Gain).bind λv20=> bif !v20 then NT true else (TO [a1.Chip,a1.Dust]).bind λv23=> NT (!v23)) u18
def FL (a1:Line):Option Int:= (RU a1).bind λv2=> bif v2 !=0 then some v2 else bif (a1.Gain.length:Int) !=(a1.Sizes.length:Int) then RV a1 true else bif (a1.Chip.length:Int) !=a1.Len then RV a1 true else RV a1 ((a1.Dust.length:Int) !=a1.Len)
def XV (a1:List Int):Nat->(List Int)->Int->Option (List Int)
 |0,_,_=>none
 |n+1,l3,x4=> bif decide (x4<(a1.length:Int)) then bif inb x4 a1.length then bif inb x4 l3.length then bif inb (w64 (x4+1)) l3.length then (XV a1 n) (l3.set ((w64 (x4+1)).toNat) (w64 ((l3.getD x4.toNat du)+(a1.getD x4.toNat du)))) (w64 (x4+1)) else none else none else none else some l3
def GU (a1:List Int):Option (List Int):= bif mkOk (w64 ((a1.length:Int)+1)) 8 then (XV a1 FUEL (List.replicate ((w64 ((a1.length:Int)+1)).toNat) 0) 0).bind λo10=> some o10 else none
def RA (a1:Line) (a2:Int):Option Int:= bif a2==a1.Len then some (-1) else some (imin (w64 (a2+a1.Kerf)) a1.Len)
def RP (x5:Int) (R:Int->qD->Option qD) (x26:qD):Option qD:= R (w64 (x5+1)) x26
def BZ (x5:Int) (x6:qD) (R:Int->qD->Option qD) (x22:qD) (x24:Bool):Option qD:= bif x24 then RP x5 R x22 else RP x5 R x6
def NQ (x5:Int) (x6:qD) (R:Int->qD->Option qD) (x22:qD):Option qD:= bif ((x6.piece.Size==(-1))&&((x6.piece.At==(-1))&&true)) then BZ x5 x6 R x22 true else BZ x5 x6 R x22 (decide (x22.value>x6.value))
def BX (a1:Line) (a2:Int) (a3:List Int) (a4:List qD) (x5:Int) (x6:qD) (R:Int->qD->Option qD) (x12:Bool):Option qD:= bif x12 then RP x5 R x6 else bif inb x5 a1.Gain.length then bif inb a2 ((a1.Gain.getD x5.toNat du).length) then (RA a1 (w64 (a2+(a1.Sizes.getD x5.toNat du)))).bind λv16=> bif decide (v16≥0) then bif inb v16 a3.length then bif inb (w64 (a2+(a1.Sizes.getD x5.toNat du))) a3.length then bif inb v16 a4.length then NQ x5 x6 R (qD.mk (qX.mk x5 a2) (w64 (((a1.Gain.getD x5.toNat du).getD a2.toNat du)+(w64 ((w64 ((a3.getD v16.toNat du)-(a3.getD (w64 (a2+(a1.Sizes.getD x5.toNat du))).toNat du)))+((a4.getD v16.toNat du).value)))))) else none else none else none else NQ x5 x6 R (qD.mk (qX.mk x5 a2) ((a1.Gain.getD x5.toNat du).getD a2.toNat du))
 else none else none
def jD (a1:Line) (a2:Int) (a3:List Int) (a4:List qD):Nat->Int->qD->Option qD
 |0,_,_=>none
 |n+1,x5,x6=> bif decide (x5<(a1.Sizes.length:Int)) then bif inb x5 a1.Sizes.length then bif decide ((w64 (a2+(a1.Sizes.getD x5.toNat du)))>a1.Len) then BX a1 a2 a3 a4 x5 x6 (jD a1 a2 a3 a4 n) true else bif inb x5 a1.Gain.length then bif inb a2 ((a1.Gain.getD x5.toNat du).length) then BX a1 a2 a3 a4 x5 x6 (jD a1 a2 a3 a4 n) (decide (((a1.Gain.getD x5.toNat du).getD a2.toNat du)<0)) else none else none else none else some x6
def FG (a1:Line) (a2:Int) (a3:List Int) (a4:List qD):Option qD:= (jD a1 a2 a3 a4 FUEL 0 (qD.mk (qX.mk (-1) (-1)) 0)).bind λo28=> some o28
def UT (a1:Line) (x20:Int) (R:Int->qD->Option qD) (x31:qD):Option qD:= R (w64 (x20+a1.Pitch)) x31
def UZ (a1:Line) (v2:(List Int)) (v4:(List Int)) (l8:List qD) (x9:Int) (v11:qD) (x20:Int) (x21:qD) (R:Int->qD->Option qD) (x29:Bool):Option qD:= bif x29 then UT a1 x20 R (qD.mk (((l8.set x9.toNat v11).getD x20.toNat du).piece) (w64 ((((l8.set x9.toNat v11).getD x20.toNat du).value)+(w64 ((w64 ((w64 ((v2.getD ((w64 (x20-a1.Kerf)).toNat) du)-(v2.getD x9.toNat du)))+(v4.getD x20.toNat du)))-(v4.getD ((w64 (x20-a1.Kerf)).toNat) du)))))) else UT a1 x20 R x21
def jA (a1:Line) (v2:(List Int)) (v4:(List Int)) (l8:List qD) (x9:Int) (v11:qD):Nat->Int->qD->Option qD
 |0,_,_=>none
 |n+1,x20,x21=> bif decide (x20<=a1.Len) then bif inb x20 l8.length then bif inb (w64 (x20-a1.Kerf)) v2.length then bif inb x9 v2.length then bif inb x20 v4.length then bif inb (w64 (x20-a1.Kerf)) v4.length then bif !((((((l8.set x9.toNat v11).getD x20.toNat du).piece).Size)==(-1))&&((((((l8.set x9.toNat v11).getD x20.toNat du).piece).At)==(-1))&&true)) then UZ a1 v2 v4 l8 x9 v11 x20 x21 (jA a1 v2 v4 l8 x9 v11 n) (decide ((w64 ((((l8.set x9.toNat v11).getD x20.toNat du).value)+(w64 ((w64 ((w64 ((v2.getD ((w64 (x20-a1.Kerf)).toNat) du)-(v2.getD x9.toNat du)))+(v4.getD x20.toNat du)))-(v4.getD ((w64 (x20-a1.Kerf)).toNat) du)))))>x21.value)) else UZ a1 v2 v4 l8 x9 v11 x20 x21 (jA a1 v2 v4 l8 x9 v11 n) false
 else none else none else none else none else none else some x21
def VJ (a1:Line) (v2:(List Int)) (v4:(List Int)) (l7:List qD) (l8:List qD) (x9:Int) (R:(List qD)->(List qD)->Int->Option (List qD)) (v11:qD) (x19:qD):Option (List qD):= (jA a1 v2 v4 l8 x9 v11 FUEL (w64 ((w64 (x9+a1.Pitch))+a1.Kerf)) x19).bind λo33=> bif inb x9 l7.length then R (l7.set x9.toNat o33) (l8.set x9.toNat v11) (w64 (x9-1)) else none
def VG (a1:Line) (v2:(List Int)) (v4:(List Int)) (l7:List qD) (l8:List qD) (x9:Int) (R:(List qD)->(List qD)->Int->Option (List qD)) (v11:qD) (x17:Bool):Option (List qD):= bif x17 then VJ a1 v2 v4 l7 l8 x9 R v11 ((l8.set x9.toNat v11).getD x9.toNat du) else VJ a1 v2 v4 l7 l8 x9 R v11 (qD.mk (qX.mk (-1) (-1)) (w64 ((v2.getD a1.Len.toNat du)-(v2.getD x9.toNat du))))
def jM (a1:Line) (v2:(List Int)) (v4:(List Int)):Nat->(List qD)->(List qD)->Int->Option (List qD)
 |0,_,_,_=>none
 |n+1,l7,l8,x9=> bif decide (x9≥0) then (FG a1 x9 v4 l7).bind λv11=> bif inb x9 l8.length then bif inb a1.Len v2.length then bif inb x9 v2.length then bif !((((((l8.set x9.toNat v11).getD x9.toNat du).piece).Size)==(-1))&&((((((l8.set x9.toNat v11).getD x9.toNat du).piece).At)==(-1))&&true)) then VG a1 v2 v4 l7 l8 x9 (jM a1 v2 v4 n) v11 (decide ((((l8.set x9.toNat v11).getD x9.toNat du).value)>(w64 ((v2.getD a1.Len.toNat du)-(v2.getD x9.toNat du))))) else VG a1 v2 v4 l7 l8 x9 (jM a1 v2 v4 n) v11 false else none else none else none else some l7
def UG (a1:Line):Option (List qD):= (GU a1.Chip).bind λv2=> (GU a1.Dust).bind λv4=> bif mkOk (w64 (a1.Len+1)) 24 then (jM a1 v2 v4 FUEL (List.replicate ((w64 (a1.Len+1)).toNat) (qD.mk (qX.mk 0 0) 0)) (List.replicate ((w64 (a1.Len+1)).toNat) (qD.mk (qX.mk 0 0) 0)) a1.Len).bind λo37=> some o37 else none
def XU (a1:Line) (v5:(List qD)):Nat->(List qX)->Int->Option (List qX)
 |0,_,_=>none
 |n+1,l7,x8=> bif decide (x8≥0) then bif inb x8 v5.length then bif (((((v5.getD x8.toNat du).piece).Size)==(-1))&&(((((v5.getD x8.toNat du).piece).At)==(-1))&&true)) then some l7 else bif room (l7.length+1) 16 then bif inb (((v5.getD x8.toNat du).piece).Size) a1.Sizes.length then (RA a1 (w64 ((((v5.getD x8.toNat du).piece).At)+(a1.Sizes.getD (((v5.getD x8.toNat du).piece).Size).toNat du)))).bind λv14=> (XU a1 v5 n) (l7++[(v5.getD x8.toNat du).piece]) v14 else none else none else none else some l7
def JC (a1:Line):Option ((List qX)×Int×Int):= (FL a1).bind λv2=> bif v2 !=0 then some ([],0,v2) else (UG a1).bind λv5=> (XU a1 v5 FUEL [] 0).bind λo17=> bif inb 0 v5.length then some (o17,(v5.getD ((0:Int).toNat) du).value,0) else none
def XL (a1:List Node):Option (List Node):= bif room a1.length 16 then some a1 else none
def MO (a1:List (List Node)) (a2:List Node):Option ((List (List Node))×(List (List Node))):= (XL a2).bind λv3=> bif room (a1.length+1) 24 then some ((a1++[v3]),(a1++[v3])) else none
def BS (x3:Bool):Option Bool:= some x3
def jH (a1:Int):Option Bool:= bif a1==2 then BS true else BS (a1==3)
def jJ (x2:Int) (R:Int->Option (Bool⊕Unit)) (x7:Bool):Option (Bool⊕Unit):= bif x7 then some (Sum.inl false) else R (w64 (x2+1))
def zX (a1:Rect):Nat->Int->Option (Bool⊕Unit)
 |0,_=>none
 |n+1,x2=> bif decide (x2<2) then bif inb x2 2 then bif decide ((([a1.X.A,a1.X.B,a1.Y.A,a1.Y.B]:List Int).getD (x2.toNat*2+0) 0)<(-600)) then jJ x2 (zX a1 n) true else bif decide ((([a1.X.A,a1.X.B,a1.Y.A,a1.Y.B]:List Int).getD (x2.toNat*2+1) 0)>600) then jJ x2 (zX a1 n) true else jJ x2 (zX a1 n) (decide ((([a1.X.A,a1.X.B,a1.Y.A,a1.Y.B]:List Int).getD (x2.toNat*2+0) 0)≥(([a1.X.A,a1.X.B,a1.Y.A,a1.Y.B]:List Int).getD (x2.toNat*2+1) 0))) else none else some (Sum.inr ())
def yP (a1:Rect):Option Bool:= (zX a1 FUEL 0).bind λu11=>Sum.elim (λv12=>some v12) (λo9=> some true) u11
def JZ (a1:Rect) (a2:Int):Option Span:= bif a2==2 then some a1.X else some a1.Y
def yX (a1:List Node) (a2:Int) (a3:List Node):Option (Int×(List Node)):= bif decide ((w64 (a2+(a1.length:Int)))<=127) then bif room (a3.length+a1.length) 16 then some (w64 (a2+(a1.length:Int)),(a3++a1)) else none else some (w64 (a2+(a1.length:Int)),a3)
def SW (a5:List (List Node)) (x21:Int) (R:Int->Bool->Int->(List Node)->Int->Option (((List Node)×Int)⊕(Bool×(List Node)×Int))) (x40:Int) (x41:Bool) (l42:List Node) (x43:Int):Option (((List Node)×Int)⊕(Bool×(List Node)×Int)):= bif inb x21 a5.length then (yX (a5.getD x21.toNat du) x43 l42).bind λv45=> R x40 x41 (w64 (x21+1)) v45.2 v45.1 else none
def BH (a2:Int) (a3:Int) (a4:List Span) (a5:List (List Node)) (v17:Span) (x19:Int) (x20:Bool) (x21:Int) (R:Int->Bool->Int->(List Node)->Int->Option (((List Node)×Int)⊕(Bool×(List Node)×Int))) (l35:List Node) (x36:Int):Option (((List Node)×Int)⊕(Bool×(List Node)×Int)):= bif decide (((a4.getD x21.toNat du).B)<v17.B) then (yX [(Node.mk a2 ((a4.getD x21.toNat du).B))] x36 l35).bind λv38=> SW a5 x21 R (imin (w64 (((a4.getD x21.toNat du).B)+a3)) v17.B) x20 v38.2 v38.1 else SW a5 x21 R x19 true l35 x36
def DR (a2:Int) (a3:Int) (a4:List Span) (a5:List (List Node)) (v17:Span) (x19:Int) (x20:Bool) (x21:Int) (l22:List Node) (x23:Int) (R:Int->Bool->Int->(List Node)->Int->Option (((List Node)×Int)⊕(Bool×(List Node)×Int))) (x29:Bool):Option (((List Node)×Int)⊕(Bool×(List Node)×Int)):= bif x29 then some (Sum.inl ([],11)) else bif decide (((a4.getD x21.toNat du).B)>v17.B) then some (Sum.inl ([],20)) else bif decide (((a4.getD x21.toNat du).A)>x19) then (yX [(Node.mk a2 (w64 (((a4.getD x21.toNat du).A)-a3))),(Node.mk 0 0)] x23 l22).bind λv33=> BH a2 a3 a4 a5 v17 x19 x20 x21 R v33.2 v33.1 else BH a2 a3 a4 a5 v17 x19 x20 x21 R l22 x23
def jB (a2:Int) (a3:Int) (a4:List Span) (a5:List (List Node)) (v17:Span):Nat->Int->Bool->Int->(List Node)->Int->Option (((List Node)×Int)⊕(Bool×(List Node)×Int))
 |0,_,_,_,_,_=>none
 |n+1,x19,x20,x21,l22,x23=> bif decide (x21<(a4.length:Int)) then bif inb x21 a4.length then bif decide (((a4.getD x21.toNat du).A)≥((a4.getD x21.toNat du).B)) then some (Sum.inl ([],19)) else bif x20 then DR a2 a3 a4 a5 v17 x19 x20 x21 l22 x23 (jB a2 a3 a4 a5 v17 n) true else bif ((a4.getD x21.toNat du).A) !=x19 then DR a2 a3 a4 a5 v17 x19 x20 x21 l22 x23 (jB a2 a3 a4 a5 v17 n) (decide (((a4.getD x21.toNat du).A)<(w64 ((w64 (x19+a3))+1)))) else DR a2 a3 a4 a5 v17 x19 x20 x21 l22 x23 (jB a2 a3 a4 a5 v17 n) false else none else some (Sum.inr (x20,l22,x23))
def DN (x57:Int) (l58:List Node):Option ((List Node)×Int):= bif decide (x57>127) then some ([],4) else some (l58,0)
def EZ (a1:Rect) (a2:Int) (a3:Int) (a4:List Span) (a5:List (List Node)) (x15:Bool):Option ((List Node)×Int):= bif x15 then some ([],9) else (JZ a1 a2).bind λv17=> (jB a2 a3 a4 a5 v17 FUEL v17.A false 0 [] 0).bind λu52=>Sum.elim (λv53=>some v53) (λo50=> bif !o50.1 then (yX [(Node.mk 0 0)] o50.2.2 o50.2.1).bind λv55=> DN v55.1 v55.2 else DN o50.2.2 o50.2.1) u52
def EE (a1:Rect) (a2:Int) (a3:Int) (a4:List Span) (a5:List (List Node)) (x12:Bool):Option ((List Node)×Int):= bif x12 then some ([],19) else bif decide (a3<0) then EZ a1 a2 a3 a4 a5 true else EZ a1 a2 a3 a4 a5 (decide (a3>20))
def XC (a1:Rect) (a2:Int) (a3:Int) (a4:List Span) (a5:List (List Node)):Option ((List Node)×Int):= (jH a2).bind λv6=> bif !v6 then some ([],10) else (yP a1).bind λv9=> bif !v9 then EE a1 a2 a3 a4 a5 true else EE a1 a2 a3 a4 a5 ((a4.length:Int) !=(a5.length:Int))
def DJ (a4:Rect) (v10:(List qX)×Int×Int) (v13:(List Int)×(List Int)):Nat->(List Span)->(List (List Node))->Int->Option ((List Span)×(List (List Node)))
 |0,_,_,_=>none
 |n+1,l15,l16,x17=> bif decide (x17<(v10.1.length:Int)) then bif inb x17 v10.1.length then bif inb ((v10.1.getD x17.toNat du).Size) v13.1.length then (HW a4 ((v10.1.getD x17.toNat du).At) (w64 (((v10.1.getD x17.toNat du).At)+(v13.1.getD (((v10.1.getD x17.toNat du).Size).toNat) du)))).bind λv21=> bif room (l15.length+1) 16 then bif inb ((v10.1.getD x17.toNat du).Size) v13.2.length then (MO l16 [(Node.mk 1 (v13.2.getD (((v10.1.getD x17.toNat du).Size).toNat) du))]).bind λv25=> (DJ a4 v10 v13 n) (l15++[v21.X]) v25.2 (w64 (x17+1)) else none else none else none else none else some (l15,l16)
def qDy (a1:List qC) (a2:List qF) (a3:List Product) (a4:Rect) (a5:Saw) (a6:Rates):Option ((List Node)×Int×Int):= (qC6 a1 a2 a3 a4 a5 a6).bind λv7=> bif v7.2 !=0 then some ([],0,v7.2) else (JC (Line.mk v7.1.Len v7.1.Kerf v7.1.Pitch v7.1.Sizes v7.1.Gain v7.1.Chip v7.1.Dust)).bind λv10=> bif v10.2.2 !=0 then some ([],0,v10.2.2) else (NW a3 (w64 (a4.Y.B-a4.Y.A))).bind λv13=> (DJ a4 v10 v13 FUEL [] [] 0).bind λo29=> (XC a4 2 a5.Kerf o29.1 o29.2).bind λv31=> bif v31.2 !=0 then some ([],0,v31.2) else some (v31.1,v10.2.1,0)
def MM (a1:Node):Option Bool:= some (a1.Kind==1)
def jO (a1:List Node):Nat->Int->Option (Int⊕Unit)
 |0,_=>none
 |n+1,x2=> bif decide (x2<(a1.length:Int)) then bif inb x2 a1.length then (MM (a1.getD x2.toNat du)).bind λv5=> bif v5 then some (Sum.inl x2) else (jO a1 n) (w64 (x2+1)) else none else some (Sum.inr ())
def YY (a1:List Node):Option Int:= (jO a1 FUEL 0).bind λu10=>Sum.elim (λv11=>some v11) (λo8=> some (-1)) u10
def WJ (a1:List Node):Option Bool:= (YY a1).bind λv2=> some (decide (v2≥0))
def NY (a1:List Node):Option Bool:= (WJ a1).bind λv2=> some v2
def FV (a1:List qC) (a2:Rect):Option Int:= (ZE a1).bind λv3=> (ZF a1 (Box.mk a2.X a2.Y (Span.mk 0 v3))).bind λv5=> some v5
def HP (l14:List Int) (l15:List (List Node)) (x16:Int) (R:(List Int)->(List (List Node))->Int->Option ((List Int)×(List (List Node)))) (x30:Int) (l31:List Node):Option ((List Int)×(List (List Node))):= bif room (l14.length+1) 8 then bif room (l15.length+1) 24 then R (l14++[x30]) (l15++[l31]) (w64 (x16+1)) else none else none
def qBb (l14:List Int) (l15:List (List Node)) (x16:Int) (R:(List Int)->(List (List Node))->Int->Option ((List Int)×(List (List Node)))) (v22:(List Node)×Int×Int) (x27:Bool):Option ((List Int)×(List (List Node))):= bif x27 then HP l14 l15 x16 R v22.2.1 v22.1 else HP l14 l15 x16 R (-1) ([]:List Node)
def QC (a1:List qC) (a2:List qF) (a3:List Product) (a4:Rect) (a5:Saw) (a6:Rates) (v7:(List Int)) (x10:Int):Nat->(List Int)->(List (List Node))->Int->Option ((List Int)×(List (List Node)))
 |0,_,_,_=>none
 |n+1,l14,l15,x16=> bif decide ((w64 (x16+(v7.getD x10.toNat du)))<=(w64 (a4.Y.B-a4.Y.A))) then bif nz a5.Pitch then bif (Int.tmod x16 a5.Pitch)==0 then (NN a4 x16 (w64 (x16+(v7.getD x10.toNat du)))).bind λv20=> (qDy a1 a2 a3 v20 a5 a6).bind λv22=> bif v22.2.2==0 then (NY v22.1).bind λv25=> qBb l14 l15 x16 (QC a1 a2 a3 a4 a5 a6 v7 x10 n) v22 v25 else qBb l14 l15 x16 (QC a1 a2 a3 a4 a5 a6 v7 x10 n) v22 false else HP l14 l15 x16 (QC a1 a2 a3 a4 a5 a6 v7 x10 n) (-1) ([]:List Node) else none else some (l14,l15)
def GQ (a1:List qC) (a2:List qF) (a3:List Product) (a4:Rect) (a5:Saw) (a6:Rates) (v7:(List Int)):Nat->(List (List (List Node)))->Int->(List (List Int))->Option ((List (List (List Node)))×(List (List Int)))
 |0,_,_,_=>none
 |n+1,l9,x10,l11=> bif decide (x10<(v7.length:Int)) then bif inb x10 v7.length then (QC a1 a2 a3 a4 a5 a6 v7 x10 FUEL [] [] 0).bind λo36=> bif room (l11.length+1) 24 then bif room (l9.length+1) 24 then (GQ a1 a2 a3 a4 a5 a6 v7 n) (l9++[o36.2]) (w64 (x10+1)) (l11++[o36.1]) else none else none else none else some (l9,l11)
def GW (a1:List qC) (a4:Rect) (a6:Rates):Nat->Int->(List Int)->(List Int)->Option ((List Int)×(List Int))
 |0,_,_,_=>none
 |n+1,x44,l45,l46=> bif decide (x44<(w64 (a4.Y.B-a4.Y.A))) then (NN a4 x44 (w64 (x44+1))).bind λv48=> (FV a1 v48).bind λv50=> bif room (l45.length+1) 8 then bif room (l46.length+1) 8 then (GW a1 a4 a6 n) (w64 (x44+1)) (l45++[w64 (a6.Chip*v50)]) (l46++[w64 (a6.Dust*v50)]) else none else none else some (l45,l46)
def qDi (a1:List qC) (a2:List qF) (a3:List Product) (a4:Rect) (a5:Saw) (a6:Rates):Option (Line×(List (List (List Node)))):= (XJ a3).bind λv7=> (GQ a1 a2 a3 a4 a5 a6 v7 FUEL [] 0 []).bind λo42=> (GW a1 a4 a6 FUEL 0 [] []).bind λo56=> some ((Line.mk (w64 (a4.Y.B-a4.Y.A)) a5.Kerf 1 v7 o42.2 o56.1 o56.2),o42.1)
def MP (a1:List Node) (a2:List (List Node)):Option ((List (List Node))×(List (List Node))):= bif room (a2.length+1) 24 then some ((a2++[a1]),(a2++[a1])) else none
def KO (v2:qQ):Nat->Int->Int->Option Int
 |0,_,_=>none
 |n+1,x4,x5=> bif decide (x5<(v2.Rows.length:Int)) then bif inb x5 v2.Rows.length then (PB (v2.Rows.getD x5.toNat du)).bind λv8=> (KO v2 n) (w64 (x4+v8)) (w64 (x5+1)) else none else some x4
def HQ (a1:qQ):Option Int:= (KU a1).bind λv2=> (KO v2 FUEL 0 0).bind λo11=> some (w64 (10*o11))
def KP (v2:(List qC)):Nat->Int->Int->Option Int
 |0,_,_=>none
 |n+1,x4,x5=> bif decide (x5<(v2.length:Int)) then bif inb x5 v2.length then (HQ ((v2.getD x5.toNat du).Sec)).bind λv8=> (KP v2 n) (w64 (x4+(w64 (((v2.getD x5.toNat du).Len)*v8)))) (w64 (x5+1)) else none else some x4
def DI (a1:List qC):Option Int:= (PS a1).bind λv2=> (KP v2 FUEL 0 0).bind λo11=> some o11
def BB (a4:Rect) (v10:Line×(List (List (List Node)))) (v12:(List qX)×Int×Int):Nat->(List Span)->(List (List Node))->Int->Option ((List Span)×(List (List Node)))
 |0,_,_,_=>none
 |n+1,l15,l16,x17=> bif decide (x17<(v12.1.length:Int)) then bif inb x17 v12.1.length then bif inb ((v12.1.getD x17.toNat du).Size) v10.1.Sizes.length then (NN a4 ((v12.1.getD x17.toNat du).At) (w64 (((v12.1.getD x17.toNat du).At)+(v10.1.Sizes.getD (((v12.1.getD x17.toNat du).Size).toNat) du)))).bind λv21=> bif room (l15.length+1) 16 then bif inb ((v12.1.getD x17.toNat du).Size) v10.2.length then bif inb ((v12.1.getD x17.toNat du).At) ((v10.2.getD (((v12.1.getD x17.toNat du).Size).toNat) du).length) then (MP ((v10.2.getD (((v12.1.getD x17.toNat du).Size).toNat) du).getD ((v12.1.getD x17.toNat du).At).toNat du) l16).bind λv26=> (BB a4 v10 v12 n) (l15++[v21.Y]) v26.2 (w64 (x17+1)) else none else none
 else none else none else none else some (l15,l16)
def BM (a1:List qC) (a2:List qF) (a3:List Product) (a4:Rect) (a5:Saw) (a6:Rates):Option (qN×Int×Int):= (BW a1 a2 a3 a4 a5 a6).bind λv7=> bif v7 !=0 then some ((qN.mk (Rect.mk (Span.mk 0 0) (Span.mk 0 0)) []),0,v7) else (qDi a1 a2 a3 a4 a5 a6).bind λv10=> (JC (Line.mk v10.1.Len v10.1.Kerf v10.1.Pitch v10.1.Sizes v10.1.Gain v10.1.Chip v10.1.Dust)).bind λv12=> bif v12.2.2 !=0 then some ((qN.mk (Rect.mk (Span.mk 0 0) (Span.mk 0 0)) []),0,v12.2.2) else (BB a4 v10 v12 FUEL [] [] 0).bind λo30=> (XC a4 3 a5.Kerf o30.1 o30.2).bind λv32=> bif v32.2 !=0 then some ((qN.mk (Rect.mk (Span.mk 0 0) (Span.mk 0 0)) []),0,13) else (DI a1).bind λv35=> (FV a1 a4).bind λv37=> some ((qN.mk a4 v32.1),w64 (v12.2.1+(w64 (a6.Chip*(w64 (v35-v37))))),0)
def WO (a1:zB):Option (qN×Int×Int):= (BM a1.Solid a1.Defects a1.Products a1.Frame a1.Saw a1.Rates).bind λv2=> some ((qN.mk v2.1.Frame v2.1.Nodes),v2.2.1,v2.2.2)
def zbQ (x6:Int) (R:Int->Span->Option Span) (x13:Span):Option Span:= R (w64 (x6+1)) x13
def PC (v2:qQ):Nat->Int->Span->Option Span
 |0,_,_=>none
 |n+1,x6,x7=> bif decide (x6<(v2.Rows.length:Int)) then bif inb x6 v2.Rows.length then (JD (v2.Rows.getD x6.toNat du)).bind λv10=> bif !v10 then zbQ x6 (PC v2 n) (Span.mk (imin x7.A ((v2.Rows.getD x6.toNat du).A)) (imax x7.B ((v2.Rows.getD x6.toNat du).B))) else zbQ x6 (PC v2 n) x7 else none else some x7
def qCd (a1:qQ):Option Rect:= (KU a1).bind λv2=> bif (v2.Rows.length:Int)==0 then some (Rect.mk (Span.mk 0 0) (Span.mk 0 0)) else bif inb 0 v2.Rows.length then (PC v2 FUEL 0 (v2.Rows.getD (0:Int).toNat du)).bind λo15=> (KL v2.Low (w64 (v2.Low+(v2.Rows.length:Int)))).bind λv17=> some (Rect.mk o15 v17) else none
def qBG (x4:Int) (R:Int->Rect->Option Rect) (v8:Rect) (x11:Rect):Option Rect:= R (w64 (x4+1)) (Rect.mk (Span.mk (imin x11.X.A v8.X.A) (imax x11.X.B v8.X.B)) (Span.mk (imin x11.Y.A v8.Y.A) (imax x11.Y.B v8.Y.B)))
def UX (v2:(List qC)):Nat->Int->Rect->Option Rect
 |0,_,_=>none
 |n+1,x4,x5=> bif decide (x4<(v2.length:Int)) then bif inb x4 v2.length then (qCd ((v2.getD x4.toNat du).Sec)).bind λv8=> bif x4==0 then qBG x4 (UX v2 n) v8 v8 else qBG x4 (UX v2 n) v8 x5 else none else some x5
def qFl (a1:List qC):Option Rect:= (PS a1).bind λv2=> (UX v2 FUEL 0 (Rect.mk (Span.mk 0 0) (Span.mk 0 0))).bind λo13=> some o13
def qBL (a1:List qC):Option Rect:= (qFl a1).bind λv2=> some v2
def qEN (x3:Int) (R:Int->Int->Option (Int⊕Unit)) (x9:Int):Option (Int⊕Unit):= bif x9==0 then some (Sum.inl (w64 (x3+1))) else R x9 (w64 (x3+1))
def qFn (x2:Int) (x3:Int) (R:Int->Int->Option (Int⊕Unit)) (x7:Bool):Option (Int⊕Unit):= bif x7 then qEN x3 R (w64 ((w64 (x2-1))+2)) else qEN x3 R (w64 (x2-1))
def DM (a1:List Node):Nat->Int->Int->Option (Int⊕Unit)
 |0,_,_=>none
 |n+1,x2,x3=> bif decide (x3<(a1.length:Int)) then bif inb x3 a1.length then bif ((a1.getD x3.toNat du).Kind)==2 then qFn x2 x3 (DM a1 n) true else qFn x2 x3 (DM a1 n) (((a1.getD x3.toNat du).Kind)==3) else none else some (Sum.inr ())
def qJR (a1:List Node):Option Int:= (DM a1 FUEL 1 0).bind λu13=>Sum.elim (λv14=>some v14) (λo11=> some (a1.length:Int)) u13
def DS (a1:List Node) (a2:List Node):Nat->Int->Option (Bool⊕Unit)
 |0,_=>none
 |n+1,x4=> bif decide (x4<(a1.length:Int)) then bif inb x4 a1.length then bif inb x4 a2.length then bif !((((a1.getD x4.toNat du).Kind)==((a2.getD x4.toNat du).Kind))&&((((a1.getD x4.toNat du).At)==((a2.getD x4.toNat du).At))&&true)) then some (Sum.inl false) else (DS a1 a2 n) (w64 (x4+1)) else none else none else some (Sum.inr ())
def MS (a1:List Node) (a2:List Node):Option Bool:= bif (a1.length:Int) !=(a2.length:Int) then some false else (DS a1 a2 FUEL 0).bind λu11=>Sum.elim (λv12=>some v12) (λo9=> some true) u11
def qHa (l11:List Node) (R:(List Span)->(List (List Node))->Int->(List Node)->Option ((List Span)×(List (List Node))×Int×(List Node))) (v18:Int) (l27:List Span) (l28:List (List Node)) (x29:Int):Option ((List Span)×(List (List Node))×Int×(List Node)):= bif slOk v18 (((l11.drop ((1:Int).toNat)).length:Nat):Int) (l11.drop ((1:Int).toNat)).length then R l27 l28 x29 ((l11.drop ((1:Int).toNat)).drop v18.toNat) else none
def qHc (a3:Int) (x7:Span) (l8:List Span) (l9:List (List Node)) (x10:Int) (l11:List Node) (R:(List Span)->(List (List Node))->Int->(List Node)->Option ((List Span)×(List (List Node))×Int×(List Node))) (v18:Int) (x22:Bool):Option ((List Span)×(List (List Node))×Int×(List Node)):= bif x22 then qHa l11 R v18 l8 l9 (w64 (((l11.getD (0:Int).toNat du).At)+a3)) else bif room (l8.length+1) 16 then bif slOk 0 v18 (l11.drop ((1:Int).toNat)).length then bif room (l9.length+1) 24 then qHa l11 R v18 (l8++[(Span.mk x10 ((l11.getD (0:Int).toNat du).At))]) (l9++[((l11.drop ((1:Int).toNat)).take v18.toNat)]) (imin (w64 (((l11.getD (0:Int).toNat du).At)+a3)) x7.B) else none else none else none
def qHg (a3:Int) (x7:Span) (l8:List Span) (l9:List (List Node)) (x10:Int) (l11:List Node) (R:(List Span)->(List (List Node))->Int->(List Node)->Option ((List Span)×(List (List Node))×Int×(List Node))) (x14:Bool):Option ((List Span)×(List (List Node))×Int×(List Node)):= bif x14 then bif inb 0 l11.length then bif slOk 1 (l11.length:Int) l11.length then (qJR (l11.drop ((1:Int).toNat))).bind λv18=> bif v18==1 then bif inb 0 ((l11.drop ((1:Int).toNat)).length) then qHc a3 x7 l8 l9 x10 l11 R v18 ((((l11.drop ((1:Int).toNat)).getD (0:Int).toNat du).Kind)==0) else none else qHc a3 x7 l8 l9 x10 l11 R v18 false else none else none else some (l8,l9,x10,l11)
def GF (a2:Int) (a3:Int) (x7:Span):Nat->(List Span)->(List (List Node))->Int->(List Node)->Option ((List Span)×(List (List Node))×Int×(List Node))
 |0,_,_,_,_=>none
 |n+1,l8,l9,x10,l11=> bif decide ((l11.length:Int)>0) then bif inb 0 l11.length then qHg a3 x7 l8 l9 x10 l11 (GF a2 a3 x7 n) (((l11.getD (0:Int).toNat du).Kind)==a2) else none else qHg a3 x7 l8 l9 x10 l11 (GF a2 a3 x7 n) false
def qHd (l43:List Span) (l44:List (List Node)) (x50:Bool):Option ((List Span)×(List (List Node))×Bool):= bif x50 then some ([],[],false) else some (l43,l44,true)
def qGZ (a1:Rect) (a2:Int) (a3:Int) (a4:List Node) (l43:List Span) (l44:List (List Node)):Option ((List Span)×(List (List Node))×Bool):= (XC a1 a2 a3 l43 l44).bind λv45=> bif v45.2 !=0 then qHd l43 l44 true else (MS a4 v45.1).bind λv48=> qHd l43 l44 (!v48)
def qG5 (a1:Rect) (a2:Int) (a3:Int) (a4:List Node) (x7:Span) (o35:(List Span)×(List (List Node))×Int×(List Node)) (x39:Bool):Option ((List Span)×(List (List Node))×Bool):= bif x39 then bif room (o35.1.length+1) 16 then bif room (o35.2.1.length+1) 24 then qGZ a1 a2 a3 a4 (o35.1++[(Span.mk o35.2.2.1 x7.B)]) (o35.2.1++[o35.2.2.2]) else none else none else qGZ a1 a2 a3 a4 o35.1 o35.2.1
def qG7 (a1:Rect) (a2:Int) (a3:Int) (a4:List Node) (x7:Span):Option ((List Span)×(List (List Node))×Bool):= (GF a2 a3 x7 FUEL [] [] x7.A a4).bind λo35=> bif decide ((o35.2.2.2.length:Int)>0) then bif inb 0 o35.2.2.2.length then qG5 a1 a2 a3 a4 x7 o35 (((o35.2.2.2.getD (0:Int).toNat du).Kind) !=0) else none else qG5 a1 a2 a3 a4 x7 o35 false
def qI6 (a1:Rect) (a2:Int) (a3:Int) (a4:List Node):Option ((List Span)×(List (List Node))×Bool):= bif decide ((a4.length:Int)>127) then some ([],[],false) else bif a2==3 then qG7 a1 a2 a3 a4 a1.Y else qG7 a1 a2 a3 a4 a1.X
def NB (a1:List Int) (a2:Int):Nat->Int->Option (Int⊕Unit)
 |0,_=>none
 |n+1,x3=> bif decide (x3<(a1.length:Int)) then bif inb x3 a1.length then bif a2==(a1.getD x3.toNat du) then some (Sum.inl x3) else (NB a1 a2 n) (w64 (x3+1)) else none else some (Sum.inr ())
def IQ (a1:List Int) (a2:Int):Option Int:= (NB a1 a2 FUEL 0).bind λu9=>Sum.elim (λv10=>some v10) (λo7=> some (-1)) u9
def NH (a1:List Int) (a2:Int):Option Bool:= (IQ a1 a2).bind λv3=> some (decide (v3≥0))
def MA (x23:Int) (R:Bool->Int->Option Bool) (x31:Bool):Option Bool:= R x31 (w64 (x23+1))
def XX (v5:(List Span)×(List (List Node))×Bool) (v10:(List Int)×(List Int)) (x12:Int):Nat->Bool->Int->Option Bool
 |0,_,_=>none
 |n+1,x22,x23=> bif decide (x23<(v10.1.length:Int)) then bif inb x23 v10.1.length then bif x22 then MA x23 (XX v5 v10 x12 n) true else bif (v10.1.getD x23.toNat du)==(w64 (((v5.1.getD x12.toNat du).B)-((v5.1.getD x12.toNat du).A))) then bif inb x23 v10.2.length then bif inb x12 v5.2.1.length then bif inb 0 ((v5.2.1.getD x12.toNat du).length) then MA x23 (XX v5 v10 x12 n) ((v10.2.getD x23.toNat du)==(((v5.2.1.getD x12.toNat du).getD (0:Int).toNat du).At)) else none else none else none else MA x23 (XX v5 v10 x12 n) false else none else some x22
def LV (v5:(List Span)×(List (List Node))×Bool) (v10:(List Int)×(List Int)) (x12:Int) (R:Int->Option (Bool⊕Unit)) (x20:Bool):Option (Bool⊕Unit):= bif x20 then some (Sum.inl false) else (XX v5 v10 x12 FUEL false 0).bind λo33=> bif !o33 then some (Sum.inl false) else R (w64 (x12+1))
def KJ (a1:Rect) (a3:Saw) (v5:(List Span)×(List (List Node))×Bool) (v10:(List Int)×(List Int)):Nat->Int->Option (Bool⊕Unit)
 |0,_=>none
 |n+1,x12=> bif decide (x12<(v5.1.length:Int)) then bif inb x12 v5.1.length then bif nz a3.Pitch then bif (Int.tmod (w64 (((v5.1.getD x12.toNat du).A)-a1.X.A)) a3.Pitch) !=0 then LV v5 v10 x12 (KJ a1 a3 v5 v10 n) true else bif inb x12 v5.2.1.length then bif ((v5.2.1.getD x12.toNat du).length:Int) !=1 then LV v5 v10 x12 (KJ a1 a3 v5 v10 n) true else bif inb 0 ((v5.2.1.getD x12.toNat du).length) then LV v5 v10 x12 (KJ a1 a3 v5 v10 n) ((((v5.2.1.getD x12.toNat du).getD (0:Int).toNat du).Kind) !=1) else none else none else none else none else some (Sum.inr ())
def qBq (a1:Rect) (a2:List Product) (a3:Saw) (v5:(List Span)×(List (List Node))×Bool) (x8:Bool):Option Bool:= bif x8 then some false else (NW a2 (w64 (a1.Y.B-a1.Y.A))).bind λv10=> (KJ a1 a3 v5 v10 FUEL 0).bind λu38=>Sum.elim (λv39=>some v39) (λo36=> some true) u38
def qFd (a1:Rect) (a2:List Product) (a3:Saw) (a4:List Node):Option Bool:= (qI6 a1 2 a3.Kerf a4).bind λv5=> bif !v5.2.2 then qBq a1 a2 a3 v5 true else qBq a1 a2 a3 v5 ((v5.1.length:Int)==0)
def qCl (a1:qN) (a2:List Product) (a3:Saw) (v14:(List Span)×(List (List Node))×Bool) (x19:Int) (R:Int->Option (Bool⊕Unit)) (x26:Bool):Option (Bool⊕Unit):= bif x26 then some (Sum.inl false) else bif inb x19 v14.2.1.length then (qFd (Rect.mk a1.Frame.X (v14.1.getD x19.toNat du)) a2 a3 (v14.2.1.getD x19.toNat du)).bind λv29=> bif !v29 then some (Sum.inl false) else R (w64 (x19+1)) else none
def DL (a1:qN) (a2:List Product) (a3:Saw) (v14:(List Span)×(List (List Node))×Bool) (v17:(List Int)):Nat->Int->Option (Bool⊕Unit)
 |0,_=>none
 |n+1,x19=> bif decide (x19<(v14.1.length:Int)) then bif inb x19 v14.1.length then bif nz a3.Pitch then bif (Int.tmod (w64 (((v14.1.getD x19.toNat du).A)-a1.Frame.Y.A)) a3.Pitch) !=0 then qCl a1 a2 a3 v14 x19 (DL a1 a2 a3 v14 v17 n) true else (NH v17 (w64 (((v14.1.getD x19.toNat du).B)-((v14.1.getD x19.toNat du).A)))).bind λv24=> qCl a1 a2 a3 v14 x19 (DL a1 a2 a3 v14 v17 n) (!v24) else none else none else some (Sum.inr ())
def EQ (a1:qN) (a2:List Product) (a3:Saw) (x12:Bool):Option Bool:= bif x12 then some false else (qI6 a1.Frame 3 a3.Kerf a1.Nodes).bind λv14=> bif !v14.2.2 then some false else (XJ a2).bind λv17=> (DL a1 a2 a3 v14 v17 FUEL 0).bind λu34=>Sum.elim (λv35=>some v35) (λo32=> some true) u34
def OW (a1:qN) (a2:List Product) (a3:Saw):Option Bool:= (yK a2).bind λv4=> bif v4 !=0 then EQ a1 a2 a3 true else (PR a3 (Rates.mk 0 0 0)).bind λv7=> bif v7 !=0 then EQ a1 a2 a3 true else (XZ a1.Frame).bind λv10=> EQ a1 a2 a3 (v10 !=0)
def zS (x28:Bool):Option Bool:= some x28
def VQ :Option Bool:= (TC 97).bind λv1=> (WO (zB.mk v1.Solid v1.Defects v1.Products v1.Frame v1.Saw v1.Rates)).bind λv3=> (TC 96).bind λv5=> (WO (zB.mk v5.Solid v5.Defects v5.Products v5.Frame v5.Saw v5.Rates)).bind λv7=> (XJ v1.Products).bind λv9=> (qBL v1.Solid).bind λv11=> bif v3.2.2==0 then bif v3.2.1==140000000 then bif v7.2.2==0 then bif v7.2.1==70000000 then bif (v9.length:Int)==2 then bif inb 0 v9.length then bif (v9.getD ((0:Int).toNat) du)==42 then bif inb 1 v9.length then bif (v9.getD ((1:Int).toNat) du)==105 then bif (((v11.X.A==(-100))&&((v11.X.B==100)&&true))&&(((v11.Y.A==(-100))&&((v11.Y.B==100)&&true))&&true)) then bif (v3.1.Nodes.length:Int)==9 then bif inb 0 v3.1.Nodes.length then
 bif ((((v3.1.Nodes.getD ((0:Int).toNat) du).Kind)==3)&&((((v3.1.Nodes.getD ((0:Int).toNat) du).At)==42)&&true)) then (OW (qN.mk v3.1.Frame v3.1.Nodes) v1.Products v1.Saw).bind λv26=> zS v26 else zS false else none else zS false else zS false else zS false else none else zS false else none else zS false else zS false else zS false else zS false else zS false
def AC (x3:Bool):Option Bool:= some x3
def OM (a1:Int):Option Bool:= bif decide (a1≥48) then AC (decide (a1<=57)) else AC false
def XY (x5:Int) (R:Int->Option (Bool⊕Unit)) (x16:Bool):Option (Bool⊕Unit):= bif x16 then some (Sum.inl false) else R (w64 (x5+1))
def MF (a1:ByteArray) (x5:Int) (R:Int->Option (Bool⊕Unit)) (x9:Bool):Option (Bool⊕Unit):= bif !x9 then bif x5==0 then XY x5 R true else bif inb x5 a1.size then bif (strAt a1 x5.toNat) !=95 then (OM (strAt a1 x5.toNat)).bind λv14=> XY x5 R (!v14) else XY x5 R false else none else XY x5 R false
def jV (a1:ByteArray):Nat->Int->Option (Bool⊕Unit)
 |0,_=>none
 |n+1,x5=> bif decide (x5<(a1.size:Int)) then bif inb x5 a1.size then bif decide ((strAt a1 x5.toNat)≥97) then MF a1 x5 (jV a1 n) (decide ((strAt a1 x5.toNat)<=122)) else MF a1 x5 (jV a1 n) false else none else some (Sum.inr ())
def MK (a1:ByteArray) (x3:Bool):Option Bool:= bif x3 then some false else (jV a1 FUEL 0).bind λu20=>Sum.elim (λv21=>some v21) (λo18=> some true) u20
def MR (a1:ByteArray):Option Bool:= bif decide ((a1.size:Int)<1) then MK a1 true else MK a1 (decide ((a1.size:Int)>16))
def RH (x5:Bool):Option Bool:= some x5
def qCM (a1:Product):Option Bool:= bif decide (a1.Thick≥1) then bif decide (a1.Thick<=600) then bif decide (a1.Width≥1) then RH (decide (a1.Width<=600)) else RH false else RH false else RH false
def DW (a1:Product) (x6:Bool):Option (Int×Int):= bif x6 then some (0,0) else some (w64 (Int.tdiv (w64 ((w64 (a1.Thick*(w64 (1000+a1.Allow))))+999)) 1000),w64 (Int.tdiv (w64 ((w64 (a1.Width*(w64 (1000+a1.Allow))))+999)) 1000))
def PY (a1:Product):Option (Int×Int):= (qCM a1).bind λv2=> bif !v2 then DW a1 true else bif decide (a1.Allow<0) then DW a1 true else DW a1 (decide (a1.Allow>200))
def XT (x5:Int) (R:Int->Option (Int⊕Unit)) (x14:Bool):Option (Int⊕Unit):= bif x14 then some (Sum.inl 11) else R (w64 (x5+1))
def XW (a1:Product) (x5:Int) (R:Int->Option (Int⊕Unit)) (x9:Bool):Option (Int⊕Unit):= bif x9 then some (Sum.inl 9) else bif decide (x5>0) then bif inb x5 a1.Lengths.length then bif inb (w64 (x5-1)) a1.Lengths.length then XT x5 R (decide ((a1.Lengths.getD x5.toNat du)<=(a1.Lengths.getD (w64 (x5-1)).toNat du))) else none else none else XT x5 R false
def wP (a1:Product):Nat->Int->Option (Int⊕Unit)
 |0,_=>none
 |n+1,x5=> bif decide (x5<(a1.Lengths.length:Int)) then bif inb x5 a1.Lengths.length then bif decide ((a1.Lengths.getD x5.toNat du)<100) then XW a1 x5 (wP a1 n) true else XW a1 x5 (wP a1 n) (decide ((a1.Lengths.getD x5.toNat du)>20000)) else none else some (Sum.inr ())
def KE (x20:Int) (R:Int->Option (Int⊕Unit)) (x24:Bool):Option (Int⊕Unit):= bif x24 then some (Sum.inl 9) else R (w64 (x20+1))
def wV (a1:Product):Nat->Int->Option (Int⊕Unit)
 |0,_=>none
 |n+1,x20=> bif decide (x20<(a1.Prices.length:Int)) then bif inb x20 a1.Prices.length then bif decide ((a1.Prices.getD x20.toNat du)<0) then KE x20 (wV a1 n) true else KE x20 (wV a1 n) (decide ((a1.Prices.getD x20.toNat du)>1000000)) else none else some (Sum.inr ())
def XM (a1:Product):Option Int:= bif (a1.Lengths.length:Int)==0 then some 3 else bif decide ((a1.Lengths.length:Int)>8) then some 4 else bif (a1.Prices.length:Int) !=(a1.Lengths.length:Int) then some 19 else (wP a1 FUEL 0).bind λu18=>Sum.elim (λv19=>some v19) (λo16=> (wV a1 FUEL 0).bind λu28=>Sum.elim (λv29=>some v29) (λo26=> some 0) u28) u18
def YX (a1:List Product) (x3:Int):Nat->Int->Option (Int⊕Unit)
 |0,_=>none
 |n+1,x9=> bif decide (x9<x3) then bif inb x9 a1.length then bif strEq ((a1.getD x9.toNat du).Name) ((a1.getD x3.toNat du).Name) then some (Sum.inl 7) else (YX a1 x3 n) (w64 (x9+1)) else none else some (Sum.inr ())
def yN (a1:List Product) (x3:Int) (R:Int->Option (Int⊕Unit)) (x24:Bool):Option (Int⊕Unit):= bif x24 then some (Sum.inl 9) else (PY (a1.getD x3.toNat du)).bind λv26=> bif decide (v26.2>600) then some (Sum.inl 9) else (XM (a1.getD x3.toNat du)).bind λv29=> bif v29 !=0 then some (Sum.inl v29) else R (w64 (x3+1))
def wR (a1:List Product):Nat->Int->Option (Int⊕Unit)
 |0,_=>none
 |n+1,x3=> bif decide (x3<(a1.length:Int)) then bif inb x3 a1.length then (MR ((a1.getD x3.toNat du).Name)).bind λv6=> bif !v6 then some (Sum.inl 6) else (YX a1 x3 FUEL 0).bind λu15=>Sum.elim (λv16=>some (Sum.inl v16)) (λo13=> bif decide (((a1.getD x3.toNat du).Thick)<5) then yN a1 x3 (wR a1 n) true else bif decide (((a1.getD x3.toNat du).Thick)>300) then yN a1 x3 (wR a1 n) true else bif decide (((a1.getD x3.toNat du).Width)<((a1.getD x3.toNat du).Thick)) then yN a1 x3 (wR a1 n) true else bif decide (((a1.getD x3.toNat du).Width)>600) then yN a1 x3 (wR a1 n) true else bif decide (((a1.getD x3.toNat du).Allow)<0) then yN a1 x3 (wR a1 n) true else bif decide (((a1.getD x3.toNat du).Allow)>200) then
 yN a1 x3 (wR a1 n) true else bif decide (((a1.getD x3.toNat du).Wane)<0) then yN a1 x3 (wR a1 n) true else yN a1 x3 (wR a1 n) (decide (((a1.getD x3.toNat du).Wane)>1000))) u15 else none else some (Sum.inr ())
def XA (a1:List Product):Option Int:= bif decide ((a1.length:Int)>16) then some 4 else (wR a1 FUEL 0).bind λu34=>Sum.elim (λv35=>some v35) (λo32=> some 0) u34
def MY (a1:List Int) (x5:Int) (R:(List Int)->Bool->Int->Option ((List Int)×Bool)) (l15:List Int) (x16:Bool):Option ((List Int)×Bool):= bif inb x5 a1.length then bif room (l15.length+1) 8 then R (l15++[(a1.getD x5.toNat du)]) x16 (w64 (x5+1)) else none else none
def qBa (a1:List Int) (x5:Int) (R:(List Int)->Bool->Int->Option ((List Int)×Bool)) (l14:List Int):Option ((List Int)×Bool):= MY a1 x5 R l14 true
def SP (a1:List Int) (a2:Int) (l3:List Int) (x4:Bool) (x5:Int) (R:(List Int)->Bool->Int->Option ((List Int)×Bool)) (x9:Bool):Option ((List Int)×Bool):= bif x9 then bif inb x5 a1.length then bif decide ((a1.getD x5.toNat du)>a2) then bif room (l3.length+1) 8 then qBa a1 x5 R (l3++[a2]) else none else qBa a1 x5 R l3 else none else MY a1 x5 R l3 x4
def ZI (a1:List Int) (a2:Int):Nat->(List Int)->Bool->Int->Option ((List Int)×Bool)
 |0,_,_,_=>none
 |n+1,l3,x4,x5=> bif decide (x5<(a1.length:Int)) then bif !x4 then bif inb x5 a1.length then SP a1 a2 l3 x4 x5 (ZI a1 a2 n) (decide ((a1.getD x5.toNat du)≥a2)) else none else SP a1 a2 l3 x4 x5 (ZI a1 a2 n) false else some (l3,x4)
def qAS (l25:List Int):Option (List Int):= some l25
def qAO (a1:List Int) (a2:Int):Option (List Int):= (ZI a1 a2 FUEL [] false 0).bind λo21=> bif !o21.2 then bif room (o21.1.length+1) 8 then qAS (o21.1++[a2]) else none else qAS o21.1
def YN (a1:List Product):Nat->(List Int)->Int->Option (List Int)
 |0,_,_=>none
 |n+1,l5,x6=> bif decide (x6<(a1.length:Int)) then bif inb x6 a1.length then (PY (a1.getD x6.toNat du)).bind λv9=> (qAO l5 v9.1).bind λv11=> (qAO v11 v9.2).bind λv13=> (YN a1 n) v13 (w64 (x6+1)) else none else some l5
def FN (a1:List Product):Option (List Int):= (XA a1).bind λv2=> bif v2 !=0 then some ([]:List Int) else (YN a1 FUEL [] 0).bind λo16=> some o16
def LZ (x3:Bool):Option Bool:= some x3
def DA (a1:Int):Option Bool:= bif decide (a1<(-600)) then LZ true else LZ (decide (a1>600))
def PP (a1:Span):Option Bool:= some (decide (a1.A≥a1.B))
def AK (x6:Int) (R:Int->Option (Int⊕Unit)) (x14:Bool):Option (Int⊕Unit):= bif x14 then some (Sum.inl 9) else R (w64 (x6+1))
def QM (a1:qQ):Nat->Int->Option (Int⊕Unit)
 |0,_=>none
 |n+1,x6=> bif decide (x6<(a1.Rows.length:Int)) then bif inb x6 a1.Rows.length then (DA ((a1.Rows.getD x6.toNat du).A)).bind λv9=> bif v9 then AK x6 (QM a1 n) true else (DA ((a1.Rows.getD x6.toNat du).B)).bind λv12=> AK x6 (QM a1 n) v12 else none else some (Sum.inr ())
def EY (x31:Int) (R:Int->Option (Int⊕Unit)) (x37:Bool):Option (Int⊕Unit):= bif x37 then some (Sum.inl 19) else R (w64 (x31+1))
def QP (a1:qQ):Nat->Int->Option (Int⊕Unit)
 |0,_=>none
 |n+1,x31=> bif decide (x31<(a1.Rows.length:Int)) then bif inb x31 a1.Rows.length then (PP (a1.Rows.getD x31.toNat du)).bind λv34=> bif v34 then EY x31 (QP a1 n) (!((((a1.Rows.getD x31.toNat du).A)==0)&&((((a1.Rows.getD x31.toNat du).B)==0)&&true))) else EY x31 (QP a1 n) false else none else some (Sum.inr ())
def SX (a1:qQ) (x29:Bool):Option Int:= bif x29 then some 19 else (QP a1 FUEL 0).bind λu41=>Sum.elim (λv42=>some v42) (λo39=> some 0) u41
def AS (a1:qQ) (x4:Bool):Option Int:= bif x4 then some 9 else (QM a1 FUEL 0).bind λu18=>Sum.elim (λv19=>some v19) (λo16=> bif (a1.Rows.length:Int)==0 then bif a1.Low !=0 then some 19 else some 0 else bif inb 0 a1.Rows.length then (PP (a1.Rows.getD (0:Int).toNat du)).bind λv23=> bif v23 then SX a1 true else bif inb (w64 ((a1.Rows.length:Int)-1)) a1.Rows.length then (PP (a1.Rows.getD (w64 ((a1.Rows.length:Int)-1)).toNat du)).bind λv27=> SX a1 v27 else none else none) u18
def zaQ (a1:qQ):Option Int:= bif decide ((a1.Rows.length:Int)>120) then some 4 else bif decide (a1.Low<(-60)) then AS a1 true else AS a1 (decide (a1.Low>(w64 (60-(a1.Rows.length:Int)))))
def EC (a1:List qC) (x4:Int) (x5:Int) (R:Int->Int->Option (Int⊕Unit)) (x13:Bool):Option (Int⊕Unit):= bif x13 then some (Sum.inl 9) else R (w64 (x4+((a1.getD x5.toNat du).Len))) (w64 (x5+1))
def QI (a1:List qC):Nat->Int->Int->Option (Int⊕Unit)
 |0,_,_=>none
 |n+1,x4,x5=> bif decide (x5<(a1.length:Int)) then bif inb x5 a1.length then (zaQ ((a1.getD x5.toNat du).Sec)).bind λv8=> bif v8 !=0 then some (Sum.inl v8) else bif (((((a1.getD x5.toNat du).Sec).Rows).length:Nat):Int)==0 then some (Sum.inl 18) else bif decide (((a1.getD x5.toNat du).Len)<1) then EC a1 x4 x5 (QI a1 n) true else EC a1 x4 x5 (QI a1 n) (decide (((a1.getD x5.toNat du).Len)>(w64 (20000-x4)))) else none else some (Sum.inr ())
def ZH (a1:List qC):Option Int:= bif (a1.length:Int)==0 then some 3 else bif decide ((a1.length:Int)>24) then some 4 else (QI a1 FUEL 0 0).bind λu17=>Sum.elim (λv18=>some v18) (λo15=> some 0) u17
def FX (a1:qQ):Option qQ:= (zaQ a1).bind λv2=> bif v2 !=0 then some (qQ.mk 0 []) else some a1
def FF (a1:Span) (a2:Int) (x5:Bool):Option Int:= bif x5 then some 1 else bif nz a2 then some (w64 ((w64 (Int.tdiv (w64 (a1.B-a1.A)) a2))+1)) else none
def AV (a1:Span) (a2:Int):Option Int:= bif decide (a1.A<(-600)) then FF a1 a2 true else bif decide (a1.B>600) then FF a1 a2 true else FF a1 a2 (decide (a2<1))
def DZ (a1:zB) (x15:Bool):Option Bool:= bif x15 then some false else (AV a1.Frame.X a1.Saw.Pitch).bind λv17=> (AV a1.Frame.Y a1.Saw.Pitch).bind λv19=> some (decide ((w64 (v17*v19))<=300))
def YR (a1:zB) (x9:Bool):Option Bool:= bif x9 then some false else bif decide (a1.Saw.Step≥1) then (ZE a1.Solid).bind λv12=> bif nz a1.Saw.Step then DZ a1 (decide ((w64 (Int.tdiv v12 a1.Saw.Step))>30)) else none else DZ a1 false
def LA (a1:zB):Option Bool:= (OH a1.Solid).bind λv2=> bif !v2 then YR a1 true else bif decide ((a1.Defects.length:Int)>70) then YR a1 true else (qDq a1.Products).bind λv6=> bif !v6 then YR a1 true else YR a1 (decide ((a1.Products.length:Int)>4))
def GR (x4:Bool):Option Bool:= some x4
def FZ (a1:Box):Option Bool:= bif decide (a1.X.A≥a1.X.B) then GR true else bif decide (a1.Y.A≥a1.Y.B) then GR true else GR (decide (a1.Z.A≥a1.Z.B))
def qCU (x5:Bool):Option Bool:= some x5
def qAz (a1:Span) (a2:Int) (a3:Int):Option Bool:= bif decide (a2<=a1.A) then qCU (decide (a1.B<=a3)) else qCU false
def VH (x10:Bool):Option Bool:= some x10
def MT (a1:Box):Option Bool:= (qAz a1.X (-600) 600).bind λv2=> bif v2 then (qAz a1.Y (-600) 600).bind λv5=> bif v5 then (qAz a1.Z 0 20000).bind λv8=> VH v8 else VH false else VH false
def EN (a1:List qF) (x3:Int) (R:Int->Option (Int⊕Unit)) (x7:Bool):Option (Int⊕Unit):= bif x7 then some (Sum.inl 10) else bif inb x3 a1.length then (FZ ((a1.getD x3.toNat du).Box)).bind λv10=> bif v10 then some (Sum.inl 19) else (MT ((a1.getD x3.toNat du).Box)).bind λv13=> bif !v13 then some (Sum.inl 9) else R (w64 (x3+1)) else none
def QJ (a1:List qF):Nat->Int->Option (Int⊕Unit)
 |0,_=>none
 |n+1,x3=> bif decide (x3<(a1.length:Int)) then bif inb x3 a1.length then bif decide (((a1.getD x3.toNat du).Kind)<1) then EN a1 x3 (QJ a1 n) true else EN a1 x3 (QJ a1 n) (decide (((a1.getD x3.toNat du).Kind)>6)) else none else some (Sum.inr ())
def VZ (a1:List qF):Option Int:= bif decide ((a1.length:Int)>64) then some 4 else (QJ a1 FUEL 0).bind λu18=>Sum.elim (λv19=>some v19) (λo16=> some 0) u18
def CO (x5:Bool):Option Bool:= some x5
def QU (a1:Int) (a2:Int) (a3:Int):Option Bool:= bif decide (a1≥a2) then CO (decide (a1<=a3)) else CO false
def GX (x24:Bool):Option Int:= bif x24 then some 9 else some 0
def RB (a2:Rates) (x14:Bool):Option Int:= bif x14 then some 9 else (QU a2.Chip 0 1000).bind λv16=> bif !v16 then GX true else (QU a2.Dust 0 1000).bind λv19=> bif !v19 then GX true else (QU a2.Fine 0 1000000).bind λv22=> GX (!v22)
def LE (a1:Saw) (a2:Rates):Option Int:= (QU a1.Kerf 0 20).bind λv3=> bif !v3 then RB a2 true else (QU a1.Trim 0 20).bind λv6=> bif !v6 then RB a2 true else (QU a1.Pitch 1 2000).bind λv9=> bif !v9 then RB a2 true else (QU a1.Step 1 20000).bind λv12=> RB a2 (!v12)
def RS (x5:Bool):Option Bool:= some x5
def CK (a1:Span):Option Bool:= bif decide (a1.A<(-600)) then RS true else bif decide (a1.A>600) then RS true else bif decide (a1.B<(-600)) then RS true else RS (decide (a1.B>600))
def qCk (x27:Bool):Option Int:= bif x27 then some 9 else some 0
def qB4 (a4:Rect) (x20:Bool):Option Int:= bif x20 then some 19 else (CK a4.X).bind λv22=> bif v22 then qCk true else (CK a4.Y).bind λv25=> qCk v25
def qCV (a1:List qC) (a2:List qF) (a3:List Product) (a4:Rect) (a5:Saw) (a6:Rates):Option Int:= (ZH a1).bind λv7=> bif v7 !=0 then some v7 else (VZ a2).bind λv10=> bif v10 !=0 then some v10 else (XA a3).bind λv13=> bif v13 !=0 then some v13 else (LE a5 a6).bind λv16=> bif v16 !=0 then some v16 else bif decide (a4.X.A≥a4.X.B) then qB4 a4 true else qB4 a4 (decide (a4.Y.A≥a4.Y.B))
def VX (a1:Rect) (a2:Int) (a3:Int):Option Rect:= some (Rect.mk a1.X (Span.mk (w64 (a1.Y.A+a2)) (w64 (a1.Y.A+a3))))
def KD (x5:Bool):Option Bool:= some x5
def DT (a1:Span):Option Bool:= bif decide (a1.A<(-600)) then KD true else bif decide (a1.A>600) then KD true else bif decide (a1.B<(-600)) then KD true else KD (decide (a1.B>600))
def EU (x27:Bool):Option Int:= bif x27 then some 9 else some 0
def ES (a4:Rect) (x20:Bool):Option Int:= bif x20 then some 19 else (DT a4.X).bind λv22=> bif v22 then EU true else (DT a4.Y).bind λv25=> EU v25
def OG (a1:List qC) (a2:List qF) (a3:List Product) (a4:Rect) (a5:Saw) (a6:Rates):Option Int:= (ZH a1).bind λv7=> bif v7 !=0 then some v7 else (VZ a2).bind λv10=> bif v10 !=0 then some v10 else (XA a3).bind λv13=> bif v13 !=0 then some v13 else (LE a5 a6).bind λv16=> bif v16 !=0 then some v16 else bif decide (a4.X.A≥a4.X.B) then ES a4 true else ES a4 (decide (a4.Y.A≥a4.Y.B))
def GY (x8:Int) (R:(List Int)->(List Int)->Int->Option ((List Int)×(List Int))) (l19:List Int) (l20:List Int):Option ((List Int)×(List Int)):= R l19 l20 (w64 (x8+1))
def yL (a1:List Product) (a2:Int):Nat->(List Int)->(List Int)->Int->Option ((List Int)×(List Int))
 |0,_,_,_=>none
 |n+1,l6,l7,x8=> bif decide (x8<(a1.length:Int)) then bif inb x8 a1.length then (PY (a1.getD x8.toNat du)).bind λv11=> bif v11.1==a2 then bif room (l6.length+1) 8 then bif room (l7.length+1) 8 then GY x8 (yL a1 a2 n) (l6++[v11.2]) (l7++[x8]) else none else none else bif v11.2==a2 then bif room (l6.length+1) 8 then bif room (l7.length+1) 8 then GY x8 (yL a1 a2 n) (l6++[v11.1]) (l7++[x8]) else none else none else GY x8 (yL a1 a2 n) l6 l7 else none else some (l6,l7)
def FT (a1:List Product) (a2:Int):Option ((List Int)×(List Int)):= (XA a1).bind λv3=> bif v3 !=0 then some ([],[]) else (yL a1 a2 FUEL [] [] 0).bind λo23=> some (o23.1,o23.2)
def BU (a1:Rect) (a2:Int) (a3:Int):Option Rect:= some (Rect.mk (Span.mk (w64 (a1.X.A+a2)) (w64 (a1.X.A+a3))) a1.Y)
def DY (x12:Bool):Option Bool:= some x12
def qCS (a1:List qC) (a2:List qF) (a3:Product):Option Bool:= (ZH a1).bind λv4=> bif v4==0 then (VZ a2).bind λv7=> bif v7==0 then (XA [a3]).bind λv10=> DY (v10==0) else DY false else DY false
def WZ (a1:List qC):Nat->Int->Int->Option Int
 |0,_,_=>none
 |n+1,x5,x6=> bif decide (x6<(a1.length:Int)) then bif inb x6 a1.length then (WZ a1 n) (w64 (x5+((a1.getD x6.toNat du).Len))) (w64 (x6+1)) else none else some x5
def WY (a1:List qC):Option Int:= (ZH a1).bind λv2=> bif v2 !=0 then some 0 else (WZ a1 FUEL 0 0).bind λo10=> some o10
def UL (x4:Bool):Option Bool:= some x4
def DB (a1:Span):Option Bool:= bif decide (a1.A≥(-600)) then bif decide (a1.A<a1.B) then UL (decide (a1.B<=600)) else UL false else UL false
def WU (x13:Bool):Option Bool:= some x13
def MX (a1:List qC) (a2:Box):Option Bool:= (DB a2.X).bind λv3=> bif v3 then (DB a2.Y).bind λv6=> bif v6 then bif decide (a2.Z.A≥0) then bif decide (a2.Z.A<a2.Z.B) then (WY a1).bind λv11=> WU (decide (a2.Z.B<=v11)) else WU false else WU false else WU false else WU false
def YW (a1:Product) (a2:Int):Nat->Int->Option ((Int×Bool)⊕Unit)
 |0,_=>none
 |n+1,x3=> bif decide (x3<(a1.Lengths.length:Int)) then bif inb x3 a1.Lengths.length then bif (a1.Lengths.getD x3.toNat du)==a2 then bif decide (x3≥(a1.Prices.length:Int)) then some (Sum.inl (0,false)) else bif inb x3 a1.Prices.length then some (Sum.inl ((a1.Prices.getD x3.toNat du),true)) else none else (YW a1 a2 n) (w64 (x3+1)) else none else some (Sum.inr ())
def LC (a1:Product) (a2:Int):Option (Int×Bool):= (YW a1 a2 FUEL 0).bind λu11=>Sum.elim (λv12=>some v12) (λo9=> some (0,false)) u11
def NG (a1:Span) (a2:Span):Option Span:= bif decide ((imax a1.A a2.A)≥(imin a1.B a2.B)) then some (Span.mk 0 0) else some (Span.mk (imax a1.A a2.A) (imin a1.B a2.B))
def qEC (a1:Box) (a2:Box):Option Box:= (NG a1.X a2.X).bind λv3=> (NG a1.Y a2.Y).bind λv5=> (NG a1.Z a2.Z).bind λv7=> some (Box.mk v3 v5 v7)
def TY (a1:qF) (a2:Box):Option Bool:= (qEC a1.Box a2).bind λv3=> (FZ v3).bind λv5=> some (!v5)
def EK (a1:Span) (a2:Int) (a3:Int):Option Int:= bif decide ((imax a1.A a2)≥(imin a1.B (w64 (a2+a3)))) then some 0 else some (w64 ((imin a1.B (w64 (a2+a3)))-(imax a1.A a2)))
def qA2 (a1:List qC) (x7:Int) (x8:Int) (R:(List qC)->Int->Int->Option (List qC)) (l15:List qC):Option (List qC):= R l15 (w64 (x7+((a1.getD x8.toNat du).Len))) (w64 (x8+1))
def XQ (a1:List qC) (a2:Span):Nat->(List qC)->Int->Int->Option (List qC)
 |0,_,_,_=>none
 |n+1,l6,x7,x8=> bif decide (x8<(a1.length:Int)) then bif inb x8 a1.length then (EK (Span.mk (imax a2.A 0) (imin a2.B 20000)) x7 ((a1.getD x8.toNat du).Len)).bind λv11=> bif decide (v11>0) then bif room (l6.length+1) 40 then qA2 a1 x7 x8 (XQ a1 a2 n) (l6++[(qC.mk v11 ((a1.getD x8.toNat du).Sec))]) else none else qA2 a1 x7 x8 (XQ a1 a2 n) l6 else none else some l6
def qDf (a1:List qC) (a2:Span):Option (List qC):= (ZH a1).bind λv3=> bif v3 !=0 then some ([]:List qC) else (XQ a1 a2 FUEL [] 0 0).bind λo17=> some o17
def LY (a1:Span) (a2:Span) (x6:Bool):Option Int:= bif x6 then some 0 else some (w64 ((imin a1.B a2.B)-(imax a1.A a2.A)))
def DK (a1:Span) (a2:Span):Option Int:= (PP a2).bind λv3=> bif v3 then LY a1 a2 true else LY a1 a2 (decide ((imax a1.A a2.A)≥(imin a1.B a2.B)))
def FC (a1:Int):Option Span:= some (Span.mk (w64 (10*a1)) (w64 (10*(w64 (a1+1)))))
def XS (a2:Rect) (v3:qQ):Nat->Int->Int->Option Int
 |0,_,_=>none
 |n+1,x5,x6=> bif decide (x6<(v3.Rows.length:Int)) then bif inb x6 v3.Rows.length then (DK (v3.Rows.getD x6.toNat du) a2.X).bind λv9=> (FC (w64 (v3.Low+x6))).bind λv11=> (DK v11 a2.Y).bind λv13=> (XS a2 v3 n) (w64 (x5+(w64 (v9*v13)))) (w64 (x6+1)) else none else some x5
def DV (a1:qQ) (a2:Rect):Option Int:= (FX a1).bind λv3=> (XS a2 v3 FUEL 0 0).bind λo16=> some o16
def TX (a2:Box) (v3:(List qC)):Nat->Int->Int->Option Int
 |0,_,_=>none
 |n+1,x5,x6=> bif decide (x6<(v3.length:Int)) then bif inb x6 v3.length then (DV ((v3.getD x6.toNat du).Sec) (Rect.mk a2.X a2.Y)).bind λv9=> bif nz (w64 ((w64 (a2.X.B-a2.X.A))*(w64 (a2.Y.B-a2.Y.A)))) then (TX a2 v3 n) (imax x5 (w64 (Int.tdiv (w64 ((w64 ((w64 (1000*(w64 ((w64 ((w64 (a2.X.B-a2.X.A))*(w64 (a2.Y.B-a2.Y.A))))-v9))))+(w64 ((w64 (a2.X.B-a2.X.A))*(w64 (a2.Y.B-a2.Y.A))))))-1)) (w64 ((w64 (a2.X.B-a2.X.A))*(w64 (a2.Y.B-a2.Y.A))))))) (w64 (x6+1)) else none else none else some x5
def qAT (a1:List qC) (a2:Box):Option Int:= (qDf a1 a2.Z).bind λv3=> (TX a2 v3 FUEL 0 0).bind λo13=> some o13
def ME (x19:Int) (R:Int->Option (Bool⊕Unit)) (x25:Bool):Option (Bool⊕Unit):= bif x25 then some (Sum.inl false) else R (w64 (x19+1))
def yS (a2:List qF) (a4:Box):Nat->Int->Option (Bool⊕Unit)
 |0,_=>none
 |n+1,x19=> bif decide (x19<(a2.length:Int)) then bif inb x19 a2.length then bif ((a2.getD x19.toNat du).Kind)==3 then (TY (a2.getD x19.toNat du) a4).bind λv23=> ME x19 (yS a2 a4 n) v23 else ME x19 (yS a2 a4 n) false else none else some (Sum.inr ())
def jK (a1:List qC) (a2:List qF) (a3:Product) (a4:Box) (x17:Bool):Option Bool:= bif x17 then some false else (yS a2 a4 FUEL 0).bind λu29=>Sum.elim (λv30=>some v30) (λo27=> (qAT a1 a4).bind λv31=> some (decide (v31<=a3.Wane))) u29
def SI (a1:List qC) (a2:List qF) (a3:Product) (a4:Box):Option Bool:= (MX a1 a4).bind λv5=> bif !v5 then some false else (PY a3).bind λv8=> (LC a3 (w64 (a4.Z.B-a4.Z.A))).bind λv10=> bif !v10.2 then jK a1 a2 a3 a4 true else bif (w64 (a4.X.B-a4.X.A))==v8.1 then bif !((w64 (a4.Y.B-a4.Y.A))==v8.2) then bif (w64 (a4.X.B-a4.X.A))==v8.2 then jK a1 a2 a3 a4 (!((w64 (a4.Y.B-a4.Y.A))==v8.1)) else jK a1 a2 a3 a4 true else jK a1 a2 a3 a4 false else bif (w64 (a4.X.B-a4.X.A))==v8.2 then jK a1 a2 a3 a4 (!((w64 (a4.Y.B-a4.Y.A))==v8.1)) else jK a1 a2 a3 a4 true
def EM (x8:Int) (R:Int->Int->Option Int) (x14:Int):Option Int:= R x14 (w64 (x8+1))
def ZW (a1:List qF) (a3:Box) (a4:Int):Nat->Int->Int->Option Int
 |0,_,_=>none
 |n+1,x7,x8=> bif decide (x8<(a1.length:Int)) then bif inb x8 a1.length then (TY (a1.getD x8.toNat du) a3).bind λv11=> bif v11 then EM x8 (ZW a1 a3 a4 n) (w64 (x7-a4)) else EM x8 (ZW a1 a3 a4 n) x7 else none else some x7
def OJ (a1:List qF) (a2:Product) (a3:Box) (a4:Int):Option Int:= (LC a2 (w64 (a3.Z.B-a3.Z.A))).bind λv5=> (ZW a1 a3 a4 FUEL v5.1 0).bind λo16=> some (imax 0 o16)
def KY (x26:Int) (R:Int->Bool->Int->Span->Option (Int×Bool×Span)) (x38:Int) (x39:Bool) (x40:Span):Option (Int×Bool×Span):= R x38 x39 (w64 (x26+1)) x40
def CN (a3:Product) (x19:Int) (x24:Int) (x25:Bool) (x26:Int) (x27:Span) (R:Int->Bool->Int->Span->Option (Int×Bool×Span)) (v33:Int) (x36:Bool):Option (Int×Bool×Span):= bif x36 then KY x26 R v33 true (Span.mk x19 (w64 (x19+(a3.Lengths.getD x26.toNat du)))) else KY x26 R x24 x25 x27
def yJ (a1:List qC) (a2:List qF) (a3:Product) (a4:Rect) (a6:Int) (x19:Int):Nat->Int->Bool->Int->Span->Option (Int×Bool×Span)
 |0,_,_,_,_=>none
 |n+1,x24,x25,x26,x27=> bif decide (x26<(a3.Lengths.length:Int)) then bif inb x26 a3.Lengths.length then (SI a1 a2 a3 (Box.mk a4.X a4.Y (Span.mk x19 (w64 (x19+(a3.Lengths.getD x26.toNat du)))))).bind λv30=> bif !v30 then KY x26 (yJ a1 a2 a3 a4 a6 x19 n) x24 x25 x27 else (OJ a2 a3 (Box.mk a4.X a4.Y (Span.mk x19 (w64 (x19+(a3.Lengths.getD x26.toNat du))))) a6).bind λv33=> bif !x25 then CN a3 x19 x24 x25 x26 x27 (yJ a1 a2 a3 a4 a6 x19 n) v33 true else CN a3 x19 x24 x25 x26 x27 (yJ a1 a2 a3 a4 a6 x19 n) v33 (decide (v33>x24)) else none else some (x24,x25,x27)
def TQ (a1:List qC) (a2:List qF) (a3:Product) (a4:Rect) (a5:Int) (a6:Int):Nat->Int->Bool->Int->Span->Option (Int×Bool×Span)
 |0,_,_,_,_=>none
 |n+1,x17,x18,x19,x20=> (WY a1).bind λv21=> bif decide (x19<v21) then (yJ a1 a2 a3 a4 a6 x19 FUEL x17 x18 0 x20).bind λo44=> (TQ a1 a2 a3 a4 a5 a6 n) o44.1 o44.2.1 (w64 (x19+a5)) o44.2.2 else some (x17,x18,x20)
def FH (a1:List qC) (a2:List qF) (a3:Product) (a4:Rect) (a5:Int) (a6:Int) (x15:Bool):Option (Span×Int×Bool):= bif x15 then some ((Span.mk 0 0),0,false) else (TQ a1 a2 a3 a4 a5 a6 FUEL 0 false 0 (Span.mk 0 0)).bind λo49=> some (o49.2.2,o49.1,o49.2.1)
def qAU (a1:List qC) (a2:List qF) (a3:Product) (a4:Rect) (a5:Int) (a6:Int):Option (Span×Int×Bool):= (QU a5 1 20000).bind λv7=> bif !v7 then FH a1 a2 a3 a4 a5 a6 true else (QU a6 0 1000000).bind λv10=> bif !v10 then FH a1 a2 a3 a4 a5 a6 true else (qCS a1 a2 a3).bind λv13=> FH a1 a2 a3 a4 a5 a6 (!v13)
def LX (a1:List qC) (x11:Int) (x12:Int) (R:Int->Int->Int->Option Int) (x20:Int):Option Int:= R x20 (w64 (x11+((a1.getD x12.toNat du).Len))) (w64 (x12+1))
def QZ (a1:List qC) (a2:Box):Nat->Int->Int->Int->Option Int
 |0,_,_,_=>none
 |n+1,x10,x11,x12=> bif decide (x12<(a1.length:Int)) then bif inb x12 a1.length then (EK (Span.mk (imax a2.Z.A 0) (imin a2.Z.B 20000)) x11 ((a1.getD x12.toNat du).Len)).bind λv15=> bif decide (v15>0) then (DV ((a1.getD x12.toNat du).Sec) (Rect.mk a2.X a2.Y)).bind λv18=> LX a1 x11 x12 (QZ a1 a2 n) (w64 (x10+(w64 (v15*v18)))) else LX a1 x11 x12 (QZ a1 a2 n) x10 else none else some x10
def WP (a1:List qC) (a2:Box) (x8:Bool):Option Int:= bif x8 then some 0 else (QZ a1 a2 FUEL 0 0 0).bind λo22=> some o22
def DU (a1:List qC) (a2:Box):Option Int:= (ZH a1).bind λv3=> bif v3 !=0 then WP a1 a2 true else bif decide (a2.X.A≥a2.X.B) then WP a1 a2 true else bif decide (a2.Y.A≥a2.Y.B) then WP a1 a2 true else WP a1 a2 (decide (a2.Z.A≥a2.Z.B))
def PV (a1:List qC) (a2:Rect) (a3:Span):Option Int:= (DU a1 (Box.mk a2.X a2.Y a3)).bind λv4=> some v4
def BA (a1:List qC) (a2:Rect):Option Int:= (WY a1).bind λv3=> (PV a1 a2 (Span.mk 0 v3)).bind λv5=> some v5
def qBp (a1:List qC) (a2:List qF) (a3:Product) (a4:Rect) (a5:Saw) (a6:Rates):Option Int:= (qAU a1 a2 a3 a4 a5.Step a6.Fine).bind λv7=> bif !v7.2.2 then some (-1) else (PV a1 a4 (Span.mk (imax 0 (w64 (v7.1.A-a5.Trim))) v7.1.A)).bind λv10=> (WY a1).bind λv12=> (PV a1 a4 (Span.mk v7.1.B (imin (w64 (v7.1.B+a5.Trim)) v12))).bind λv14=> (BA a1 a4).bind λv16=> (PV a1 a4 v7.1).bind λv18=> some (w64 ((w64 ((w64 (1000000*v7.2.1))+(w64 (a6.Dust*(w64 (v10+v14))))))+(w64 (a6.Chip*(w64 ((w64 (v16-v18))-(w64 (v10+v14))))))))
def CG (l15:List Int) (x16:Int) (R:(List Int)->Int->Option (List Int)) (x27:Int):Option (List Int):= bif room (l15.length+1) 8 then R (l15++[x27]) (w64 (x16+1)) else none
def ZN (a1:List qC) (a2:List qF) (a3:List Product) (a4:Rect) (a5:Saw) (a6:Rates) (v10:(List Int)×(List Int)) (x12:Int):Nat->(List Int)->Int->Option (List Int)
 |0,_,_=>none
 |n+1,l15,x16=> bif inb x12 v10.1.length then bif decide ((w64 (x16+(v10.1.getD x12.toNat du)))<=(w64 (a4.X.B-a4.X.A))) then bif nz a5.Pitch then bif (Int.tmod x16 a5.Pitch)==0 then bif inb x12 v10.2.length then bif inb (v10.2.getD x12.toNat du) a3.length then (BU a4 x16 (w64 (x16+(v10.1.getD x12.toNat du)))).bind λv23=> (qBp a1 a2 (a3.getD (v10.2.getD x12.toNat du).toNat du) v23 a5 a6).bind λv25=> CG l15 x16 (ZN a1 a2 a3 a4 a5 a6 v10 x12 n) v25 else none else none else CG l15 x16 (ZN a1 a2 a3 a4 a5 a6 v10 x12 n) (-1) else none else some l15 else none
def KZ (a1:List qC) (a2:List qF) (a3:List Product) (a4:Rect) (a5:Saw) (a6:Rates) (v10:(List Int)×(List Int)):Nat->Int->(List (List Int))->Option (List (List Int))
 |0,_,_=>none
 |n+1,x12,l13=> bif decide (x12<(v10.1.length:Int)) then (ZN a1 a2 a3 a4 a5 a6 v10 x12 FUEL [] 0).bind λo30=> bif room (l13.length+1) 24 then (KZ a1 a2 a3 a4 a5 a6 v10 n) (w64 (x12+1)) (l13++[o30]) else none else some l13
def PA (a1:List qC) (a4:Rect) (a6:Rates):Nat->Int->(List Int)->(List Int)->Option ((List Int)×(List Int))
 |0,_,_,_=>none
 |n+1,x36,l37,l38=> bif decide (x36<(w64 (a4.X.B-a4.X.A))) then (BU a4 x36 (w64 (x36+1))).bind λv40=> (BA a1 v40).bind λv42=> bif room (l37.length+1) 8 then bif room (l38.length+1) 8 then (PA a1 a4 a6 n) (w64 (x36+1)) (l37++[w64 (a6.Chip*v42)]) (l38++[w64 (a6.Dust*v42)]) else none else none else some (l37,l38)
def qBU (a1:List qC) (a2:List qF) (a3:List Product) (a4:Rect) (a5:Saw) (a6:Rates):Option (Line×Int):= (OG a1 a2 a3 a4 a5 a6).bind λv7=> bif v7 !=0 then some ((Line.mk 0 0 0 [] [] [] []),v7) else (FT a3 (w64 (a4.Y.B-a4.Y.A))).bind λv10=> (KZ a1 a2 a3 a4 a5 a6 v10 FUEL 0 []).bind λo34=> (PA a1 a4 a6 FUEL 0 [] []).bind λo48=> some ((Line.mk (w64 (a4.X.B-a4.X.A)) a5.Kerf 1 v10.1 o34 o48.1 o48.2),0)
def SV (x2:Int) (R:Int->Option (Bool⊕Unit)) (x6:Bool):Option (Bool⊕Unit):= bif x6 then some (Sum.inl false) else R (w64 (x2+1))
def WF (a1:List Int):Nat->Int->Option (Bool⊕Unit)
 |0,_=>none
 |n+1,x2=> bif decide (x2<(a1.length:Int)) then bif inb x2 a1.length then bif decide ((a1.getD x2.toNat du)<(-1125899906842624)) then SV x2 (WF a1 n) true else SV x2 (WF a1 n) (decide ((a1.getD x2.toNat du)>1125899906842624)) else none else some (Sum.inr ())
def GB (a1:List Int):Option Bool:= (WF a1 FUEL 0).bind λu10=>Sum.elim (λv11=>some v11) (λo8=> some true) u10
def SY (x10:Int) (R:Int->Option (Int⊕Unit)) (x14:Bool):Option (Int⊕Unit):= bif x14 then some (Sum.inl 9) else R (w64 (x10+1))
def WC (a1:Line):Nat->Int->Option (Int⊕Unit)
 |0,_=>none
 |n+1,x10=> bif decide (x10<(a1.Sizes.length:Int)) then bif inb x10 a1.Sizes.length then bif decide ((a1.Sizes.getD x10.toNat du)<1) then SY x10 (WC a1 n) true else SY x10 (WC a1 n) (decide ((a1.Sizes.getD x10.toNat du)>2000)) else none else some (Sum.inr ())
def PZ (a1:Line):Nat->Int->Option (Int⊕Unit)
 |0,_=>none
 |n+1,x24=> bif decide (x24<(a1.Gain.length:Int)) then bif inb x24 a1.Gain.length then bif inb x24 a1.Sizes.length then bif ((a1.Gain.getD x24.toNat du).length:Int) !=(imax 0 (w64 ((w64 (a1.Len-(a1.Sizes.getD x24.toNat du)))+1))) then some (Sum.inl 19) else (PZ a1 n) (w64 (x24+1)) else none else none else some (Sum.inr ())
def EP (x40:Int) (R:Bool->Int->Option Bool) (x46:Bool):Option Bool:= R x46 (w64 (x40+1))
def WB (a1:Line):Nat->Bool->Int->Option Bool
 |0,_,_=>none
 |n+1,x39,x40=> bif decide (x40<(a1.Gain.length:Int)) then bif x39 then bif inb x40 a1.Gain.length then (GB (a1.Gain.getD x40.toNat du)).bind λv44=> EP x40 (WB a1 n) v44 else none else EP x40 (WB a1 n) false else some x39
def AE (a1:Line) (x38:Bool):Option Int:= (WB a1 FUEL x38 0).bind λo48=> bif !o48 then some 9 else some 0
def GV (a1:Line) (x22:Bool):Option Int:= bif x22 then some 19 else (PZ a1 FUEL 0).bind λu31=>Sum.elim (λv32=>some v32) (λo29=> (GB a1.Chip).bind λv33=> bif v33 then (GB a1.Dust).bind λv36=> AE a1 v36 else AE a1 false) u31
def WD (a1:Line) (x7:Bool):Option Int:= bif x7 then some 9 else bif decide ((a1.Sizes.length:Int)>32) then some 4 else (WC a1 FUEL 0).bind λu18=>Sum.elim (λv19=>some v19) (λo16=> bif (a1.Gain.length:Int) !=(a1.Sizes.length:Int) then GV a1 true else bif (a1.Chip.length:Int) !=a1.Len then GV a1 true else GV a1 ((a1.Dust.length:Int) !=a1.Len)) u18
def OR (a1:Line):Option Int:= bif decide (a1.Len<0) then WD a1 true else bif decide (a1.Len>2000) then WD a1 true else bif decide (a1.Kerf<0) then WD a1 true else bif decide (a1.Kerf>20) then WD a1 true else bif decide (a1.Pitch<1) then WD a1 true else WD a1 (decide (a1.Pitch>2000))
def KK (a1:List Int):Nat->(List Int)->Int->Option (List Int)
 |0,_,_=>none
 |n+1,l2,x3=> bif decide (x3<(a1.length:Int)) then bif inb x3 l2.length then bif inb x3 a1.length then bif room (l2.length+1) 8 then (KK a1 n) (l2++[w64 ((l2.getD x3.toNat du)+(a1.getD x3.toNat du))]) (w64 (x3+1)) else none else none else none else some l2
def BG (a1:List Int):Option (List Int):= (KK a1 FUEL [0] 0).bind λo9=> some o9
def OQ (a1:Line) (a2:qX) (a3:List Int) (a4:List qS):Option Int:= bif inb a2.Size a1.Gain.length then bif inb a2.At ((a1.Gain.getD a2.Size.toNat du).length) then bif inb a2.Size a1.Sizes.length then bif (w64 (a2.At+(a1.Sizes.getD a2.Size.toNat du)))==a1.Len then some ((a1.Gain.getD a2.Size.toNat du).getD a2.At.toNat du) else bif inb (imin (w64 ((w64 (a2.At+(a1.Sizes.getD a2.Size.toNat du)))+a1.Kerf)) a1.Len) a3.length then bif inb (w64 (a2.At+(a1.Sizes.getD a2.Size.toNat du))) a3.length then bif inb (imin (w64 ((w64 (a2.At+(a1.Sizes.getD a2.Size.toNat du)))+a1.Kerf)) a1.Len) a4.length then some (w64 ((w64 ((w64 (((a1.Gain.getD a2.Size.toNat du).getD a2.At.toNat du)+(a3.getD (imin (w64 ((w64 (a2.At+(a1.Sizes.getD a2.Size.toNat du)))+a1.Kerf)) a1.Len).toNat du)))-(a3.getD (w64 (a2.At+(a1.Sizes.getD a2.Size.toNat du))).toNat du)))+((a4.getD (imin (w64 ((w64 (a2.At+(a1.Sizes.getD a2.Size.toNat du)))+a1.Kerf)) a1.Len).toNat du).value)))
 else none else none else none else none else none else none
def FR (x19:Int) (R:Int->qS->Option qS) (x31:qS):Option qS:= R (w64 (x19+1)) x31
def CS (a1:Line) (a4:List Int) (a5:List qS) (x17:Int) (x18:Int) (x19:Int) (x20:qS) (R:Int->qS->Option qS) (x26:Bool):Option qS:= bif x26 then FR x19 R x20 else (OQ a1 (qX.mk x19 x17) a4 a5).bind λv28=> bif decide ((w64 (x18+v28))>x20.value) then FR x19 R (qS.mk (w64 (x18+v28)) (qX.mk x19 x17)) else FR x19 R x20
def QF (a1:Line) (a4:List Int) (a5:List qS) (x17:Int) (x18:Int):Nat->Int->qS->Option qS
 |0,_,_=>none
 |n+1,x19,x20=> bif decide (x19<(a1.Sizes.length:Int)) then bif inb x19 a1.Sizes.length then bif decide (x17>(w64 (a1.Len-(a1.Sizes.getD x19.toNat du)))) then CS a1 a4 a5 x17 x18 x19 x20 (QF a1 a4 a5 x17 x18 n) true else bif inb x19 a1.Gain.length then bif inb x17 ((a1.Gain.getD x19.toNat du).length) then CS a1 a4 a5 x17 x18 x19 x20 (QF a1 a4 a5 x17 x18 n) (decide (((a1.Gain.getD x19.toNat du).getD x17.toNat du)<0)) else none else none else none else some x20
def FP (a1:Line) (a4:List Int) (a5:List qS) (x8:Int) (x9:qS) (R:Int->qS->Option qS) (x17:Int) (x18:Int):Option qS:= (QF a1 a4 a5 x17 x18 FUEL 0 x9).bind λo33=> R (w64 (x8+a1.Pitch)) o33
def QE (a1:Line) (a2:Int) (a3:List Int) (a4:List Int) (a5:List qS):Nat->Int->qS->Option qS
 |0,_,_=>none
 |n+1,x8,x9=> bif decide ((w64 (a2+x8))<=a1.Len) then bif decide (x8>0) then bif decide ((w64 ((w64 (a2+x8))+a1.Kerf))>a1.Len) then some x9 else bif inb (w64 (a2+x8)) a3.length then bif inb a2 a3.length then bif inb (w64 ((w64 (a2+x8))+a1.Kerf)) a4.length then bif inb (w64 (a2+x8)) a4.length then FP a1 a4 a5 x8 x9 (QE a1 a2 a3 a4 a5 n) (w64 ((w64 (a2+x8))+a1.Kerf)) (w64 ((w64 ((w64 ((a3.getD (w64 (a2+x8)).toNat du)-(a3.getD a2.toNat du)))+(a4.getD (w64 ((w64 (a2+x8))+a1.Kerf)).toNat du)))-(a4.getD (w64 (a2+x8)).toNat du))) else none else none else none else none else FP a1 a4 a5 x8 x9 (QE a1 a2 a3 a4 a5 n) a2 0 else some x9
def qA4 (a1:Line) (a2:Int) (a3:List Int) (a4:List Int) (a5:List qS):Option qS:= bif inb a1.Len a3.length then bif inb a2 a3.length then (QE a1 a2 a3 a4 a5 FUEL 0 (qS.mk (w64 ((a3.getD a1.Len.toNat du)-(a3.getD a2.toNat du))) (qX.mk (-1) 0))).bind λo36=> some o36 else none else none
def UC (a1:Line) (v5:(List Int)) (v7:(List Int)):Nat->(List qS)->Int->Option (List qS)
 |0,_,_=>none
 |n+1,l10,x11=> bif decide (x11≥0) then (qA4 a1 x11 v5 v7 l10).bind λv13=> bif inb x11 l10.length then (UC a1 v5 v7 n) (l10.set x11.toNat v13) (w64 (x11-1)) else none else some l10
def FD (a1:Line) (o17:(List qS)):Nat->(List qX)->Int->Option (List qX)
 |0,_,_=>none
 |n+1,l19,x20=> bif inb x20 o17.length then bif decide ((((o17.getD x20.toNat du).piece).Size)≥0) then bif room (l19.length+1) 16 then bif inb (((o17.getD x20.toNat du).piece).Size) a1.Sizes.length then bif (w64 ((((o17.getD x20.toNat du).piece).At)+(a1.Sizes.getD (((o17.getD x20.toNat du).piece).Size).toNat du)))==a1.Len then some (l19++[(o17.getD x20.toNat du).piece]) else (FD a1 o17 n) (l19++[(o17.getD x20.toNat du).piece]) (imin (w64 ((w64 ((((o17.getD x20.toNat du).piece).At)+(a1.Sizes.getD (((o17.getD x20.toNat du).piece).Size).toNat du)))+a1.Kerf)) a1.Len) else none else none else some l19 else none
def EB (a1:Line):Option ((List qX)×Int×Int):= (OR a1).bind λv2=> bif v2 !=0 then some ([],0,v2) else (BG a1.Chip).bind λv5=> (BG a1.Dust).bind λv7=> bif mkOk (w64 (a1.Len+1)) 24 then (UC a1 v5 v7 FUEL (List.replicate ((w64 (a1.Len+1)).toNat) (qS.mk 0 (qX.mk 0 0))) a1.Len).bind λo17=> (FD a1 o17 FUEL [] 0).bind λo27=> bif inb 0 o17.length then some (o27,(o17.getD ((0:Int).toNat) du).value,0) else none else none
def WW (x7:Bool):Option Bool:= some x7
def HK (a1:Rect):Option Bool:= bif decide (a1.X.A<a1.X.B) then bif decide (a1.Y.A<a1.Y.B) then bif decide (a1.X.A≥(-600)) then bif decide (a1.X.B<=600) then bif decide (a1.Y.A≥(-600)) then WW (decide (a1.Y.B<=600)) else WW false else WW false else WW false else WW false else WW false
def qBV (a3:Int) (a4:List Span) (a5:List (List Node)) (x18:Span) (x22:Int) (R:(List Node)->Int->Bool->Int->Option (((List Node)×Int)⊕((List Node)×Bool))) (l36:List Node):Option (((List Node)×Int)⊕((List Node)×Bool)):= bif inb x22 a5.length then bif room (l36.length+(a5.getD x22.toNat du).length) 16 then R (l36++(a5.getD x22.toNat du)) (imin (w64 (((a4.getD x22.toNat du).B)+a3)) x18.B) (((a4.getD x22.toNat du).B)==x18.B) (w64 (x22+1)) else none else none
def MW (a2:Int) (a3:Int) (a4:List Span) (a5:List (List Node)) (x18:Span) (x22:Int) (R:(List Node)->Int->Bool->Int->Option (((List Node)×Int)⊕((List Node)×Bool))) (l33:List Node):Option (((List Node)×Int)⊕((List Node)×Bool)):= bif !(((a4.getD x22.toNat du).B)==x18.B) then bif room (l33.length+1) 16 then qBV a3 a4 a5 x18 x22 R (l33++[(Node.mk a2 ((a4.getD x22.toNat du).B))]) else none else qBV a3 a4 a5 x18 x22 R l33
def HI (a2:Int) (a3:Int) (a4:List Span) (a5:List (List Node)) (x18:Span) (l19:List Node) (x20:Int) (x22:Int) (R:(List Node)->Int->Bool->Int->Option (((List Node)×Int)⊕((List Node)×Bool))) (x28:Bool):Option (((List Node)×Int)⊕((List Node)×Bool)):= bif x28 then some (Sum.inl ([],11)) else bif decide (((a4.getD x22.toNat du).B)>x18.B) then some (Sum.inl ([],20)) else bif ((a4.getD x22.toNat du).A) !=x20 then bif room (l19.length+2) 16 then MW a2 a3 a4 a5 x18 x22 R (l19++[(Node.mk a2 (w64 (((a4.getD x22.toNat du).A)-a3))),(Node.mk 0 0)]) else none else MW a2 a3 a4 a5 x18 x22 R l19
def jT (a2:Int) (a3:Int) (a4:List Span) (a5:List (List Node)) (x18:Span):Nat->(List Node)->Int->Bool->Int->Option (((List Node)×Int)⊕((List Node)×Bool))
 |0,_,_,_,_=>none
 |n+1,l19,x20,x21,x22=> bif decide (x22<(a4.length:Int)) then bif inb x22 a4.length then bif decide (((a4.getD x22.toNat du).A)≥((a4.getD x22.toNat du).B)) then some (Sum.inl ([],19)) else bif x21 then HI a2 a3 a4 a5 x18 l19 x20 x22 (jT a2 a3 a4 a5 x18 n) true else bif ((a4.getD x22.toNat du).A) !=x20 then HI a2 a3 a4 a5 x18 l19 x20 x22 (jT a2 a3 a4 a5 x18 n) (decide (((a4.getD x22.toNat du).A)<(w64 ((w64 (x20+a3))+1)))) else HI a2 a3 a4 a5 x18 l19 x20 x22 (jT a2 a3 a4 a5 x18 n) false else none else some (Sum.inr (l19,x21))
def MZ (l47:List Node):Option ((List Node)×Int):= bif decide ((l47.length:Int)>127) then some ([],4) else some (l47,0)
def MU (a2:Int) (a3:Int) (a4:List Span) (a5:List (List Node)) (x18:Span):Option ((List Node)×Int):= (jT a2 a3 a4 a5 x18 FUEL [] x18.A false 0).bind λu43=>Sum.elim (λv44=>some v44) (λo41=> bif !o41.2 then bif room (o41.1.length+1) 16 then MZ (o41.1++[(Node.mk 0 0)]) else none else MZ o41.1) u43
def qBE (a1:Rect) (a2:Int) (a3:Int) (a4:List Span) (a5:List (List Node)) (x15:Bool):Option ((List Node)×Int):= bif x15 then some ([],9) else bif a2==3 then MU a2 a3 a4 a5 a1.Y else MU a2 a3 a4 a5 a1.X
def qA8 (a1:Rect) (a2:Int) (a3:Int) (a4:List Span) (a5:List (List Node)) (x12:Bool):Option ((List Node)×Int):= bif x12 then some ([],19) else bif decide (a3<0) then qBE a1 a2 a3 a4 a5 true else qBE a1 a2 a3 a4 a5 (decide (a3>20))
def qBw (a1:Rect) (a2:Int) (a3:Int) (a4:List Span) (a5:List (List Node)) (x7:Bool):Option ((List Node)×Int):= bif x7 then some ([],10) else (HK a1).bind λv9=> bif !v9 then qA8 a1 a2 a3 a4 a5 true else qA8 a1 a2 a3 a4 a5 ((a4.length:Int) !=(a5.length:Int))
def UO (a1:Rect) (a2:Int) (a3:Int) (a4:List Span) (a5:List (List Node)):Option ((List Node)×Int):= bif a2 !=2 then qBw a1 a2 a3 a4 a5 (a2 !=3) else qBw a1 a2 a3 a4 a5 false
def UA (a4:Rect) (v7:Line×Int) (v10:(List Int)×(List Int)) (v12:(List qX)×Int×Int):Nat->(List Span)->(List (List Node))->Int->Option ((List Span)×(List (List Node)))
 |0,_,_,_=>none
 |n+1,l15,l16,x17=> bif decide (x17<(v12.1.length:Int)) then bif inb x17 v12.1.length then bif inb ((v12.1.getD x17.toNat du).Size) v7.1.Sizes.length then (BU a4 ((v12.1.getD x17.toNat du).At) (w64 (((v12.1.getD x17.toNat du).At)+(v7.1.Sizes.getD (((v12.1.getD x17.toNat du).Size).toNat) du)))).bind λv21=> bif room (l15.length+1) 16 then bif inb ((v12.1.getD x17.toNat du).Size) v10.2.length then bif room (l16.length+1) 24 then (UA a4 v7 v10 v12 n) (l15++[v21.X]) (l16++([([(Node.mk 1 (v10.2.getD (((v12.1.getD x17.toNat du).Size).toNat) du))]:List Node)]:List (List Node))) (w64 (x17+1)) else none else none else none else none else none else some (l15,l16)
def EH (a1:List qC) (a2:List qF) (a3:List Product) (a4:Rect) (a5:Saw) (a6:Rates):Option ((List Node)×Int×Int):= (qBU a1 a2 a3 a4 a5 a6).bind λv7=> bif v7.2 !=0 then some ([],0,v7.2) else (FT a3 (w64 (a4.Y.B-a4.Y.A))).bind λv10=> (EB (Line.mk v7.1.Len v7.1.Kerf v7.1.Pitch v7.1.Sizes v7.1.Gain v7.1.Chip v7.1.Dust)).bind λv12=> bif v12.2.2 !=0 then some ([],0,v12.2.2) else (UA a4 v7 v10 v12 FUEL [] [] 0).bind λo28=> (UO a4 2 a5.Kerf o28.1 o28.2).bind λv30=> bif v30.2 !=0 then some ([],0,v30.2) else some (v30.1,v12.2.1,0)
def KM (a1:List Node):Nat->Int->Option (Bool⊕Unit)
 |0,_=>none
 |n+1,x2=> bif decide (x2<(a1.length:Int)) then bif inb x2 a1.length then bif ((a1.getD x2.toNat du).Kind)==1 then some (Sum.inl true) else (KM a1 n) (w64 (x2+1)) else none else some (Sum.inr ())
def SR (a1:List Node):Option Bool:= (KM a1 FUEL 0).bind λu8=>Sum.elim (λv9=>some v9) (λo6=> some false) u8
def DE (a1:List qC) (a2:Rect):Option Int:= (WY a1).bind λv3=> (DU a1 (Box.mk a2.X a2.Y (Span.mk 0 v3))).bind λv5=> some v5
def FQ (l12:List Int) (x13:Int) (R:(List Int)->Int->Option (List Int)) (x27:Int):Option (List Int):= bif room (l12.length+1) 8 then R (l12++[x27]) (w64 (x13+1)) else none
def CF (l12:List Int) (x13:Int) (R:(List Int)->Int->Option (List Int)) (v20:(List Node)×Int×Int) (x25:Bool):Option (List Int):= bif x25 then FQ l12 x13 R v20.2.1 else FQ l12 x13 R (-1)
def yI (a1:List qC) (a2:List qF) (a3:List Product) (a4:Rect) (a5:Saw) (a6:Rates) (v7:(List Int)) (x9:Int):Nat->(List Int)->Int->Option (List Int)
 |0,_,_=>none
 |n+1,l12,x13=> bif inb x9 v7.length then bif decide ((w64 (x13+(v7.getD x9.toNat du)))<=(w64 (a4.Y.B-a4.Y.A))) then bif nz a5.Pitch then bif (Int.tmod x13 a5.Pitch)==0 then (VX a4 x13 (w64 (x13+(v7.getD x9.toNat du)))).bind λv18=> (EH a1 a2 a3 v18 a5 a6).bind λv20=> bif v20.2.2==0 then (SR v20.1).bind λv23=> CF l12 x13 (yI a1 a2 a3 a4 a5 a6 v7 x9 n) v20 v23 else CF l12 x13 (yI a1 a2 a3 a4 a5 a6 v7 x9 n) v20 false else FQ l12 x13 (yI a1 a2 a3 a4 a5 a6 v7 x9 n) (-1) else none else some l12 else none
def TS (a1:List qC) (a2:List qF) (a3:List Product) (a4:Rect) (a5:Saw) (a6:Rates) (v7:(List Int)):Nat->Int->(List (List Int))->Option (List (List Int))
 |0,_,_=>none
 |n+1,x9,l10=> bif decide (x9<(v7.length:Int)) then (yI a1 a2 a3 a4 a5 a6 v7 x9 FUEL [] 0).bind λo30=> bif room (l10.length+1) 24 then (TS a1 a2 a3 a4 a5 a6 v7 n) (w64 (x9+1)) (l10++[o30]) else none else some l10
def UB (a1:List qC) (a4:Rect) (a6:Rates):Nat->Int->(List Int)->(List Int)->Option ((List Int)×(List Int))
 |0,_,_,_=>none
 |n+1,x36,l37,l38=> bif decide (x36<(w64 (a4.Y.B-a4.Y.A))) then (VX a4 x36 (w64 (x36+1))).bind λv40=> (DE a1 v40).bind λv42=> bif room (l37.length+1) 8 then bif room (l38.length+1) 8 then (UB a1 a4 a6 n) (w64 (x36+1)) (l37++[w64 (a6.Chip*v42)]) (l38++[w64 (a6.Dust*v42)]) else none else none else some (l37,l38)
def qBF (a1:List qC) (a2:List qF) (a3:List Product) (a4:Rect) (a5:Saw) (a6:Rates):Option Line:= (FN a3).bind λv7=> (TS a1 a2 a3 a4 a5 a6 v7 FUEL 0 []).bind λo34=> (UB a1 a4 a6 FUEL 0 [] []).bind λo48=> some (Line.mk (w64 (a4.Y.B-a4.Y.A)) a5.Kerf 1 v7 o34 o48.1 o48.2)
def TT (v2:qQ):Nat->Int->Int->Option Int
 |0,_,_=>none
 |n+1,x4,x5=> bif decide (x5<(v2.Rows.length:Int)) then bif inb x5 v2.Rows.length then (TT v2 n) (w64 (x4+(w64 (10*(w64 (((v2.Rows.getD x5.toNat du).B)-((v2.Rows.getD x5.toNat du).A))))))) (w64 (x5+1)) else none else some x4
def qBB (a1:qQ):Option Int:= (FX a1).bind λv2=> (TT v2 FUEL 0 0).bind λo9=> some o9
def KH (a1:List qC):Nat->Int->Int->Option Int
 |0,_,_=>none
 |n+1,x5,x6=> bif decide (x6<(a1.length:Int)) then bif inb x6 a1.length then (qBB ((a1.getD x6.toNat du).Sec)).bind λv9=> (KH a1 n) (w64 (x5+(w64 (((a1.getD x6.toNat du).Len)*v9)))) (w64 (x6+1)) else none else some x5
def HR (a1:List qC):Option Int:= (ZH a1).bind λv2=> bif v2 !=0 then some 0 else (KH a1 FUEL 0 0).bind λo12=> some o12
def TZ (a1:List qC) (a2:List qF) (a3:List Product) (a4:Rect) (a5:Saw) (a6:Rates) (v10:Line) (v12:(List qX)×Int×Int):Nat->(List Span)->(List (List Node))->Int->Option ((List Span)×(List (List Node)))
 |0,_,_,_=>none
 |n+1,l14,l15,x16=> bif decide (x16<(v12.1.length:Int)) then bif inb x16 v12.1.length then bif inb ((v12.1.getD x16.toNat du).Size) v10.Sizes.length then (VX a4 ((v12.1.getD x16.toNat du).At) (w64 (((v12.1.getD x16.toNat du).At)+(v10.Sizes.getD (((v12.1.getD x16.toNat du).Size).toNat) du)))).bind λv20=> (EH a1 a2 a3 v20 a5 a6).bind λv22=> bif room (l14.length+1) 16 then bif room (l15.length+1) 24 then (TZ a1 a2 a3 a4 a5 a6 v10 v12 n) (l14++[v20.Y]) (l15++[v22.1]) (w64 (x16+1)) else none else none else none else none else some (l14,l15)
def AT (a1:List qC) (a2:List qF) (a3:List Product) (a4:Rect) (a5:Saw) (a6:Rates):Option (qN×Int×Int):= (qCV a1 a2 a3 a4 a5 a6).bind λv7=> bif v7 !=0 then some ((qN.mk (Rect.mk (Span.mk 0 0) (Span.mk 0 0)) []),0,v7) else (qBF a1 a2 a3 a4 a5 a6).bind λv10=> (EB (Line.mk v10.Len v10.Kerf v10.Pitch v10.Sizes v10.Gain v10.Chip v10.Dust)).bind λv12=> (TZ a1 a2 a3 a4 a5 a6 v10 v12 FUEL [] [] 0).bind λo28=> (UO a4 3 a5.Kerf o28.1 o28.2).bind λv30=> bif v30.2 !=0 then some ((qN.mk (Rect.mk (Span.mk 0 0) (Span.mk 0 0)) []),0,13) else (HR a1).bind λv33=> (DE a1 a4).bind λv35=> some ((qN.mk a4 v30.1),w64 (v12.2.1+(w64 (a6.Chip*(w64 (v33-v35))))),0)
def UD (a1:qN) (a2:qN):Nat->Int->Option (Bool⊕Unit)
 |0,_=>none
 |n+1,x6=> bif decide (x6<(a1.Nodes.length:Int)) then bif inb x6 a1.Nodes.length then bif inb x6 a2.Nodes.length then bif !((((a1.Nodes.getD x6.toNat du).Kind)==((a2.Nodes.getD x6.toNat du).Kind))&&((((a1.Nodes.getD x6.toNat du).At)==((a2.Nodes.getD x6.toNat du).At))&&true)) then some (Sum.inl false) else (UD a1 a2 n) (w64 (x6+1)) else none else none else some (Sum.inr ())
def CA (a1:qN) (a2:qN) (x4:Bool):Option Bool:= bif x4 then some false else (UD a1 a2 FUEL 0).bind λu13=>Sum.elim (λv14=>some v14) (λo11=> some true) u13
def EA (a1:qN) (a2:qN):Option Bool:= bif !(((a1.Frame.X.A==a2.Frame.X.A)&&((a1.Frame.X.B==a2.Frame.X.B)&&true))&&(((a1.Frame.Y.A==a2.Frame.Y.A)&&((a1.Frame.Y.B==a2.Frame.Y.B)&&true))&&true)) then CA a1 a2 true else CA a1 a2 ((a1.Nodes.length:Int) !=(a2.Nodes.length:Int))
def jI (x18:Bool):Option Bool:= some x18
def MG (a1:zB):Option Bool:= (LA a1).bind λv2=> bif !v2 then (VQ).bind λv5=> some v5 else (WO a1).bind λv7=> (AT a1.Solid a1.Defects a1.Products a1.Frame a1.Saw a1.Rates).bind λv9=> (EA (qN.mk v7.1.Frame v7.1.Nodes) (qN.mk v9.1.Frame v9.1.Nodes)).bind λv11=> bif v11 then bif v7.2.1==v9.2.1 then bif v7.2.2==v9.2.2 then (VQ).bind λv16=> jI v16 else jI false else jI false else jI false
def WG (a1:qN) (a2:Int):Option (qN×Int):= some (a1,a2)
def PN :Option Int:= some 0
def NL (x15:Bool):Option Int:= bif x15 then some 20 else PN
def QR (a1:Node) (a2:qJ) (x6:Bool):Option Int:= bif x6 then some 10 else bif decide (a2.level>64) then some 28 else (jH a1.Kind).bind λv9=> bif v9 then (JZ a2.rect a1.Kind).bind λv12=> bif decide (a1.At<=v12.A) then NL true else NL (decide (a1.At≥v12.B)) else PN
def GP (a1:Node) (a2:qJ):Option Int:= bif decide (a1.Kind<0) then QR a1 a2 true else bif decide (a1.Kind>3) then QR a1 a2 true else bif a1.Kind==0 then QR a1 a2 (a1.At !=0) else QR a1 a2 false
def WE (x18:Bool):Option Int:= bif x18 then some 20 else some 0
def XI (a1:Rect) (a2:Int) (a3:List Product) (x5:Bool):Option Int:= bif x5 then some 8 else bif inb a2 a3.length then (ZO (a3.getD a2.toNat du)).bind λv8=> (PB a1.X).bind λv10=> (PB a1.Y).bind λv12=> bif v10 !=v8.1 then bif v10 !=v8.2 then WE true else WE (v12 !=v8.1) else bif v12 !=v8.2 then bif v10 !=v8.2 then WE true else WE (v12 !=v8.1) else WE false else none
def qBI (a1:Rect) (a2:Int) (a3:List Product):Option Int:= bif decide (a2<0) then XI a1 a2 a3 true else XI a1 a2 a3 (decide (a2≥(a3.length:Int)))
def GD (a1:Int) (a5:Int) (a6:Int) (x16:Int):Option (Nat×Int×Int):= bif x16 !=0 then some (1,x16,a6) else some (0,a5,w64 (a1+1))
def VU (a1:Int) (a2:qJ) (a3:qN) (a4:List Product) (a5:Int) (a6:Int) (v9:Int) (x12:Bool):Option (Nat×Int×Int):= bif x12 then (qBI a2.rect ((a3.Nodes.getD a1.toNat du).At) a4).bind λv14=> GD a1 a5 a6 v14 else GD a1 a5 a6 v9
def YH (a1:Int) (a2:qJ) (a3:qN) (a4:List Product) (a5:Int) (a6:Int):Option (Nat×Int×Int):= bif decide (a1≥(a3.Nodes.length:Int)) then some (1,3,a6) else bif inb a1 a3.Nodes.length then (GP (a3.Nodes.getD a1.toNat du) a2).bind λv9=> bif v9==0 then VU a1 a2 a3 a4 a5 a6 v9 (((a3.Nodes.getD a1.toNat du).Kind)==1) else VU a1 a2 a3 a4 a5 a6 v9 false else none
def qBv (x5:Rect):Option Rect:= some x5
def SE (a1:Rect) (a2:Int) (a3:Span):Option Rect:= bif a2==2 then qBv (Rect.mk a3 a1.Y) else qBv (Rect.mk a1.X a3)
def JU (a1:Rect) (a2:Node) (a3:Int):Option (Rect×Rect×Rect):= (JZ a1 a2.Kind).bind λv4=> (SE a1 a2.Kind (Span.mk v4.A a2.At)).bind λv6=> (SE a1 a2.Kind (Span.mk a2.At (imin (w64 (a2.At+a3)) v4.B))).bind λv8=> (SE a1 a2.Kind (Span.mk (imin (w64 (a2.At+a3)) v4.B) v4.B)).bind λv10=> some (v6,v8,v10)
def LK (x8:Int) (R:(List qJ)->Int->Int->Int->Option ((Nat×Int×Int)⊕(Int×Int))) (l25:List qJ) (x26:Int) (x27:Int):Option ((Nat×Int×Int)⊕(Int×Int)):= R l25 (w64 (x8+1)) x27 x26
def YJ (a1:qN) (a2:List Product) (a5:qN) (a6:Int):Nat->(List qJ)->Int->Int->Int->Option ((Nat×Int×Int)⊕(Int×Int))
 |0,_,_,_,_=>none
 |n+1,l7,x8,x9,x10=> bif decide ((l7.length:Int)>0) then bif inb (w64 ((l7.length:Int)-1)) l7.length then bif slOk 0 (w64 ((l7.length:Int)-1)) l7.length then (YH x8 (l7.getD ((w64 ((l7.length:Int)-1)).toNat) du) a1 a2 x9 x10).bind λv14=> bif !(Nat.beq v14.1 0) then some (Sum.inl (v14.1,v14.2.1,v14.2.2)) else bif decide (x8≥(a5.Nodes.length:Int)) then some (Sum.inl (0,v14.2.1,v14.2.2)) else bif inb x8 a5.Nodes.length then (jH ((a5.Nodes.getD x8.toNat du).Kind)).bind λv19=> bif v19 then (JU ((l7.getD ((w64 ((l7.length:Int)-1)).toNat) du).rect) (a5.Nodes.getD x8.toNat du) a6).bind λv22=> bif room ((w64 ((l7.length:Int)-1)).toNat+2) 40 then LK x8 (YJ a1 a2 a5 a6 n) ((l7.take ((w64 ((l7.length:Int)-1)).toNat))++[(qJ.mk v22.2.2 (w64 (((l7.getD ((w64 ((l7.length:Int)-1)).toNat) du).level)+1))),(qJ.mk v22.1 (w64 (((l7.getD ((w64 ((l7.length:Int)-1)).toNat) du).level)+1)))]) v14.2.2 v14.2.1
 else none else LK x8 (YJ a1 a2 a5 a6 n) (l7.take ((w64 ((l7.length:Int)-1)).toNat)) v14.2.2 v14.2.1 else none else none else none else some (Sum.inr (x10,x9))
def qAv (a1:qN) (a2:List Product) (a3:Int) (a4:Int) (a5:qN) (a6:Int):Option (Nat×Int×Int):= (YJ a1 a2 a5 a6 FUEL [(qJ.mk a5.Frame 1)] 0 a3 a4).bind λu32=>Sum.elim (λv33=>some v33) (λo30=> some (0,o30.2,o30.1)) u32
def TA (a1:qN) (a2:Int) (a3:List Product) (x8:Bool):Option Int:= bif x8 then some 9 else bif decide ((a1.Nodes.length:Int)>127) then some 4 else (WG a1 a2).bind λv11=> (qAv a1 a3 0 0 v11.1 v11.2).bind λv13=> bif Nat.beq v13.1 0 then bif decide (v13.2.2<(a1.Nodes.length:Int)) then some 4 else some 0 else bif Nat.beq v13.1 1 then some v13.2.1 else none
def qJb (a1:qN) (a2:Int) (a3:List Product):Option Int:= (yP a1.Frame).bind λv4=> bif !v4 then some 19 else bif decide (a2<0) then TA a1 a2 a3 true else TA a1 a2 a3 (decide (a2>20))
def qDM (a1:qN) (a2:List Product) (a3:Int):Option Int:= (qJb a1 a3 a2).bind λv4=> some v4
def qCT (a1:List qC) (a2:List qF) (a3:List Product) (a4:qN) (a5:Saw) (a6:Rates):Option Int:= (XE a1).bind λv7=> bif v7 !=0 then some v7 else (XK a2).bind λv10=> bif v10 !=0 then some v10 else (yK a3).bind λv13=> bif v13 !=0 then some v13 else (PR a5 a6).bind λv16=> bif v16 !=0 then some v16 else (qDM a4 a3 a5.Kerf).bind λv19=> some v19
def LI (x4:Bool):Option Int:= bif x4 then some 8 else some 0
def qAk (a1:Rect) (a2:Int):Option Int:= bif decide (a2<0) then LI true else LI (decide (a2≥16))
def PK (a1:Int) (a4:Int) (a5:Int) (x15:Int):Option (Nat×Int×Int):= bif x15 !=0 then some (1,x15,a5) else some (0,a4,w64 (a1+1))
def PG (a1:Int) (a2:qJ) (a3:qN) (a4:Int) (a5:Int) (v8:Int) (x11:Bool):Option (Nat×Int×Int):= bif x11 then (qAk a2.rect ((a3.Nodes.getD a1.toNat du).At)).bind λv13=> PK a1 a4 a5 v13 else PK a1 a4 a5 v8
def ZJ (a1:Int) (a2:qJ) (a3:qN) (a4:Int) (a5:Int):Option (Nat×Int×Int):= bif decide (a1≥(a3.Nodes.length:Int)) then some (1,3,a5) else bif inb a1 a3.Nodes.length then (GP (a3.Nodes.getD a1.toNat du) a2).bind λv8=> bif v8==0 then PG a1 a2 a3 a4 a5 v8 (((a3.Nodes.getD a1.toNat du).Kind)==1) else PG a1 a2 a3 a4 a5 v8 false else none
def GC (x7:Int) (R:(List qJ)->Int->Int->Int->Option ((Nat×Int×Int)⊕(Int×Int))) (l24:List qJ) (x25:Int) (x26:Int):Option ((Nat×Int×Int)⊕(Int×Int)):= R l24 (w64 (x7+1)) x26 x25
def ZM (a1:qN) (a4:qN) (a5:Int):Nat->(List qJ)->Int->Int->Int->Option ((Nat×Int×Int)⊕(Int×Int))
 |0,_,_,_,_=>none
 |n+1,l6,x7,x8,x9=> bif decide ((l6.length:Int)>0) then bif inb (w64 ((l6.length:Int)-1)) l6.length then bif slOk 0 (w64 ((l6.length:Int)-1)) l6.length then (ZJ x7 (l6.getD ((w64 ((l6.length:Int)-1)).toNat) du) a1 x8 x9).bind λv13=> bif !(Nat.beq v13.1 0) then some (Sum.inl (v13.1,v13.2.1,v13.2.2)) else bif decide (x7≥(a4.Nodes.length:Int)) then some (Sum.inl (0,v13.2.1,v13.2.2)) else bif inb x7 a4.Nodes.length then (jH ((a4.Nodes.getD x7.toNat du).Kind)).bind λv18=> bif v18 then (JU ((l6.getD ((w64 ((l6.length:Int)-1)).toNat) du).rect) (a4.Nodes.getD x7.toNat du) a5).bind λv21=> bif room ((w64 ((l6.length:Int)-1)).toNat+2) 40 then GC x7 (ZM a1 a4 a5 n) ((l6.take ((w64 ((l6.length:Int)-1)).toNat))++[(qJ.mk v21.2.2 (w64 (((l6.getD ((w64 ((l6.length:Int)-1)).toNat) du).level)+1))),(qJ.mk v21.1 (w64 (((l6.getD ((w64 ((l6.length:Int)-1)).toNat) du).level)+1)))]) v13.2.2 v13.2.1
 else none else GC x7 (ZM a1 a4 a5 n) (l6.take ((w64 ((l6.length:Int)-1)).toNat)) v13.2.2 v13.2.1 else none else none else none else some (Sum.inr (x9,x8))
def LG (a1:qN) (a2:Int) (a3:Int) (a4:qN) (a5:Int):Option (Nat×Int×Int):= (ZM a1 a4 a5 FUEL [(qJ.mk a4.Frame 1)] 0 a2 a3).bind λu31=>Sum.elim (λv32=>some v32) (λo29=> some (0,o29.2,o29.1)) u31
def LJ (a1:qN) (a2:Int) (x7:Bool):Option Int:= bif x7 then some 9 else bif decide ((a1.Nodes.length:Int)>127) then some 4 else (WG a1 a2).bind λv10=> (LG a1 0 0 v10.1 v10.2).bind λv12=> bif Nat.beq v12.1 0 then bif decide (v12.2.2<(a1.Nodes.length:Int)) then some 4 else some 0 else bif Nat.beq v12.1 1 then some v12.2.1 else none
def BO (a1:qN) (a2:Int):Option Int:= (yP a1.Frame).bind λv3=> bif !v3 then some 19 else bif decide (a2<0) then LJ a1 a2 true else LJ a1 a2 (decide (a2>20))
def WV (a1:Int) (a2:qJ) (a3:qN) (a4:List Leaf):Option (Nat×(List Leaf)):= bif inb a1 a3.Nodes.length then bif ((a3.Nodes.getD a1.toNat du).Kind)==0 then bif room (a4.length+1) 40 then some (0,(a4++[(Leaf.mk a2.rect (-1))])) else none else bif ((a3.Nodes.getD a1.toNat du).Kind)==1 then bif room (a4.length+1) 40 then some (0,(a4++[(Leaf.mk a2.rect ((a3.Nodes.getD a1.toNat du).At))])) else none else some (0,a4) else none
def GG (x6:Int) (R:(List qJ)->Int->(List Leaf)->Option ((Nat×(List Leaf))⊕(List Leaf))) (l22:List qJ) (l23:List Leaf):Option ((Nat×(List Leaf))⊕(List Leaf)):= R l22 (w64 (x6+1)) l23
def ZG (a1:qN) (a2:qN) (a3:Int):Nat->(List qJ)->Int->(List Leaf)->Option ((Nat×(List Leaf))⊕(List Leaf))
 |0,_,_,_=>none
 |n+1,l5,x6,l7=> bif decide ((l5.length:Int)>0) then bif inb (w64 ((l5.length:Int)-1)) l5.length then bif slOk 0 (w64 ((l5.length:Int)-1)) l5.length then (WV x6 (l5.getD ((w64 ((l5.length:Int)-1)).toNat) du) a1 l7).bind λv11=> bif !(Nat.beq v11.1 0) then some (Sum.inl (v11.1,v11.2)) else bif decide (x6≥(a2.Nodes.length:Int)) then some (Sum.inl (0,v11.2)) else bif inb x6 a2.Nodes.length then (jH ((a2.Nodes.getD x6.toNat du).Kind)).bind λv16=> bif v16 then (JU ((l5.getD ((w64 ((l5.length:Int)-1)).toNat) du).rect) (a2.Nodes.getD x6.toNat du) a3).bind λv19=> bif room ((w64 ((l5.length:Int)-1)).toNat+2) 40 then GG x6 (ZG a1 a2 a3 n) ((l5.take ((w64 ((l5.length:Int)-1)).toNat))++[(qJ.mk v19.2.2 (w64 (((l5.getD ((w64 ((l5.length:Int)-1)).toNat) du).level)+1))),(qJ.mk v19.1 (w64 (((l5.getD ((w64 ((l5.length:Int)-1)).toNat) du).level)+1)))]) v11.2
 else none else GG x6 (ZG a1 a2 a3 n) (l5.take ((w64 ((l5.length:Int)-1)).toNat)) v11.2 else none else none else none else some (Sum.inr l7)
def LL (a1:qN) (a2:qN) (a3:Int) (a4:List Leaf):Option (Nat×(List Leaf)):= (ZG a1 a2 a3 FUEL [(qJ.mk a2.Frame 1)] 0 a4).bind λu27=>Sum.elim (λv28=>some v28) (λo25=> some (0,o25)) u27
def qCw (a1:qN) (a2:Int):Option ((List Leaf)×Int):= (BO a1 a2).bind λv3=> bif v3 !=0 then some ([],v3) else (WG a1 a2).bind λv6=> (LL a1 v6.1 v6.2 []).bind λv8=> bif Nat.beq v8.1 0 then some (v8.2,0) else none
def qDY (a1:List Leaf):Option (List Leaf):= some a1
def SD (a1:Rect) (a2:Span):Option Box:= some (Box.mk a1.X a1.Y a2)
def qDk (a1:Int) (a2:Leaf) (a3:List qC) (a4:List qF) (a5:List Product) (a6:Saw) (a7:Int) (a8:List zV):Option (Nat×(List zV)):= bif inb a2.Product a5.length then (EL a3 a4 (a5.getD a2.Product.toNat du) a2.Rect a6.Step a7).bind λv10=> bif v10.2.2 then (SD a2.Rect v10.1).bind λv13=> bif room (a8.length+1) 72 then some (0,(a8++[(zV.mk a1 a2.Product v13 v10.2.1)])) else none else some (0,a8) else none
def GA (x8:Int) (R:Int->(List zV)->Option ((Nat×(List zV))⊕(List zV))) (l16:List zV):Option ((Nat×(List zV))⊕(List zV)):= R (w64 (x8+1)) l16
def wZ (a1:List qC) (a2:List qF) (a3:List Product) (a4:Saw) (a5:Int) (a6:List Leaf):Nat->Int->(List zV)->Option ((Nat×(List zV))⊕(List zV))
 |0,_,_=>none
 |n+1,x8,l9=> bif decide (x8<(a6.length:Int)) then bif inb x8 a6.length then bif ((a6.getD x8.toNat du).Product) !=(-1) then (qDk x8 (a6.getD x8.toNat du) a1 a2 a3 a4 a5 l9).bind λv13=> bif !(Nat.beq v13.1 0) then some (Sum.inl (v13.1,v13.2)) else GA x8 (wZ a1 a2 a3 a4 a5 a6 n) v13.2 else GA x8 (wZ a1 a2 a3 a4 a5 a6 n) l9 else none else some (Sum.inr l9)
def LQ (a1:List qC) (a2:List qF) (a3:List Product) (a4:Saw) (a5:Int) (a6:List Leaf) (a7:List zV):Option (Nat×(List zV)):= (wZ a1 a2 a3 a4 a5 a6 FUEL 0 a7).bind λu20=>Sum.elim (λv21=>some v21) (λo18=> some (0,o18)) u20
def qEX (a1:List qC) (a2:List qF) (a3:List Product) (a4:qN) (a5:Saw) (a6:Int):Option ((List zV)×Int):= (qCT a1 a2 a3 a4 a5 (Rates.mk 0 0 a6)).bind λv7=> bif v7 !=0 then some ([],v7) else (qCw a4 a5.Kerf).bind λv10=> bif v10.2 !=0 then some ([],v10.2) else (qDY v10.1).bind λv13=> (LQ a1 a2 a3 a5 a6 v13 []).bind λv15=> bif Nat.beq v15.1 0 then some (v15.2,0) else none
def XP (a1:Int) (a2:qJ) (a3:qN) (a4:Int) (a5:List Rect):Option (Nat×(List Rect)):= bif inb a1 a3.Nodes.length then (jH ((a3.Nodes.getD a1.toNat du).Kind)).bind λv7=> bif v7 then (JU a2.rect (a3.Nodes.getD a1.toNat du) a4).bind λv10=> bif room (a5.length+1) 32 then some (0,(a5++[v10.2.1])) else none else some (0,a5) else none
def VV (x7:Int) (R:(List qJ)->Int->(List Rect)->Option ((Nat×(List Rect))⊕(List Rect))) (l23:List qJ) (l24:List Rect):Option ((Nat×(List Rect))⊕(List Rect)):= R l23 (w64 (x7+1)) l24
def ZK (a1:qN) (a2:Int) (a3:qN) (a4:Int):Nat->(List qJ)->Int->(List Rect)->Option ((Nat×(List Rect))⊕(List Rect))
 |0,_,_,_=>none
 |n+1,l6,x7,l8=> bif decide ((l6.length:Int)>0) then bif inb (w64 ((l6.length:Int)-1)) l6.length then bif slOk 0 (w64 ((l6.length:Int)-1)) l6.length then (XP x7 (l6.getD ((w64 ((l6.length:Int)-1)).toNat) du) a1 a2 l8).bind λv12=> bif !(Nat.beq v12.1 0) then some (Sum.inl (v12.1,v12.2)) else bif decide (x7≥(a3.Nodes.length:Int)) then some (Sum.inl (0,v12.2)) else bif inb x7 a3.Nodes.length then (jH ((a3.Nodes.getD x7.toNat du).Kind)).bind λv17=> bif v17 then (JU ((l6.getD ((w64 ((l6.length:Int)-1)).toNat) du).rect) (a3.Nodes.getD x7.toNat du) a4).bind λv20=> bif room ((w64 ((l6.length:Int)-1)).toNat+2) 40 then VV x7 (ZK a1 a2 a3 a4 n) ((l6.take ((w64 ((l6.length:Int)-1)).toNat))++[(qJ.mk v20.2.2 (w64 (((l6.getD ((w64 ((l6.length:Int)-1)).toNat) du).level)+1))),(qJ.mk v20.1 (w64 (((l6.getD ((w64 ((l6.length:Int)-1)).toNat) du).level)+1)))]) v12.2
 else none else VV x7 (ZK a1 a2 a3 a4 n) (l6.take ((w64 ((l6.length:Int)-1)).toNat)) v12.2 else none else none else none else some (Sum.inr l8)
def LO (a1:qN) (a2:Int) (a3:qN) (a4:Int) (a5:List Rect):Option (Nat×(List Rect)):= (ZK a1 a2 a3 a4 FUEL [(qJ.mk a3.Frame 1)] 0 a5).bind λu28=>Sum.elim (λv29=>some v29) (λo26=> some (0,o26)) u28
def qEM (a1:qN) (a2:Int):Option ((List Rect)×Int):= (BO a1 a2).bind λv3=> bif v3 !=0 then some ([],v3) else (WG a1 a2).bind λv6=> (LO a1 a2 v6.1 v6.2 []).bind λv8=> bif Nat.beq v8.1 0 then some (v8.2,0) else none
def LD (a1:List qC) (v13:(List Rect)×Int) (v16:Int) (v18:Int):Nat->Int->Int->Option NE
 |0,_,_=>none
 |n+1,x20,x21=> bif decide (x20<(v13.1.length:Int)) then bif inb x20 v13.1.length then (SD (v13.1.getD x20.toNat du) (Span.mk 0 v16)).bind λv24=> (ZF a1 v24).bind λv26=> (LD a1 v13 v16 v18 n) (w64 (x20+1)) (w64 (x21+v26)) else none else some (NE.mk v18 0 0 x21 0)
def FW (a1:List qC) (a5:Saw) (v10:(List zV)×Int) (v16:Int) (o29:NE):Nat->Int->Int->Int->Int->Option NE
 |0,_,_,_,_=>none
 |n+1,x31,x32,x33,x34=> bif decide (x31<(v10.1.length:Int)) then bif inb x31 v10.1.length then (ZF a1 ((v10.1.getD x31.toNat du).Box)).bind λv37=> (SD (Rect.mk (((v10.1.getD x31.toNat du).Box).X) (((v10.1.getD x31.toNat du).Box).Y)) (Span.mk (imax 0 (w64 (((((v10.1.getD x31.toNat du).Box).Z).A)-a5.Trim))) ((((v10.1.getD x31.toNat du).Box).Z).A))).bind λv39=> (ZF a1 v39).bind λv41=> (SD (Rect.mk (((v10.1.getD x31.toNat du).Box).X) (((v10.1.getD x31.toNat du).Box).Y)) (Span.mk ((((v10.1.getD x31.toNat du).Box).Z).B) (imin (w64 (((((v10.1.getD x31.toNat du).Box).Z).B)+a5.Trim)) v16))).bind λv43=> (ZF a1 v43).bind λv45=> (FW a1 a5 v10 v16 o29 n) (w64 (x31+1)) (w64 (x32+v37)) (w64 ((w64 (x33+v41))+v45)) (w64 (x34+(w64 (1000000*((v10.1.getD x31.toNat du).Worth)))))
 else none else some (NE.mk o29.Log x32 o29.Chips x33 x34)
def qVP (a1:List qC) (a2:List qF) (a3:List Product) (a4:qN) (a5:Saw) (a6:Rates):Option (NE×Int):= (qCT a1 a2 a3 a4 a5 a6).bind λv7=> bif v7 !=0 then some ((NE.mk 0 0 0 0 0),v7) else (qEX a1 a2 a3 a4 a5 a6.Fine).bind λv10=> bif v10.2 !=0 then some ((NE.mk 0 0 0 0 0),v10.2) else (qEM a4 a5.Kerf).bind λv13=> bif v13.2 !=0 then some ((NE.mk 0 0 0 0 0),v13.2) else (ZE a1).bind λv16=> (DI a1).bind λv18=> (LD a1 v13 v16 v18 FUEL 0 0).bind λo29=> (FW a1 a5 v10 v16 o29 FUEL 0 o29.Boards o29.Dust o29.Value).bind λo48=> some ((NE.mk o48.Log o48.Boards (w64 ((w64 (o48.Log-o48.Boards))-o48.Dust)) o48.Dust (w64 (o48.Value+(w64 ((w64 (a6.Chip*(w64 ((w64 (o48.Log-o48.Boards))-o48.Dust))))+(w64 (a6.Dust*o48.Dust))))))),0)
end Saw
end Go.SL

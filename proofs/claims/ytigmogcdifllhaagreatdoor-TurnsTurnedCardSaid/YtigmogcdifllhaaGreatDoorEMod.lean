import Derived.Test.YtigmogcdifllhaaGreatDoorYa6
set_option linter.unusedVariables false
set_option linter.unusedSimpArgs false
namespace Go.SL
namespace Saw
structure zR where
 Size:Int
 At:Int
instance : Inhabited zR:=⟨⟨0,0⟩⟩
def QB (r:zR):List C:=[ci r.Size,ci r.At]
structure qA where
 X:Int
 Y:Int
instance : Inhabited qA:=⟨⟨0,0⟩⟩
def qF (r:qA):List C:=[ci r.X,ci r.Y]
structure qO where
 P:qA
 Ok:Bool
instance : Inhabited qO:=⟨⟨dd,false⟩⟩
def qV (r:qO):List C:=[ci r.P.X,ci r.P.Y,cb r.Ok]
structure Ring where
 Z:Int
 Read:List qO
instance : Inhabited Ring:=⟨⟨0,[]⟩⟩
def qX (r:Ring):List C:=[ci r.Z,tl qV dd r.Read]
structure Span where
 A:Int
 B:Int
instance : Inhabited Span:=⟨⟨0,0⟩⟩
def qK (r:Span):List C:=[ci r.A,ci r.B]
structure Box where
 X:Span
 Y:Span
 Z:Span
instance : Inhabited Box:=⟨⟨dd,dd,dd⟩⟩
def ZJ (r:Box):List C:=[ci r.X.A,ci r.X.B,ci r.Y.A,ci r.Y.B,ci r.Z.A,ci r.Z.B]
structure qG where
 Kind:Int
 Box:Box
instance : Inhabited qG:=⟨⟨0,dd⟩⟩
def qM (r:qG):List C:=[ci r.Kind,ci r.Box.X.A,ci r.Box.X.B,ci r.Box.Y.A,ci r.Box.Y.B,ci r.Box.Z.A,ci r.Box.Z.B]
structure Scan where
 Rings:List Ring
 Defects:List qG
instance : Inhabited Scan:=⟨⟨[],[]⟩⟩
def wE (r:Scan):List C:=[tl qX dd r.Rings,tl qM dd r.Defects]
structure zX where
 Scan:Scan
 Limit:Int
 Most:Int
instance : Inhabited zX:=⟨⟨dd,0,0⟩⟩
def PF (r:zX):List C:=[tl qX dd r.Scan.Rings,tl qM dd r.Scan.Defects,ci r.Limit,ci r.Most]
structure qE where
 Name:ByteArray
 Thick:Int
 Width:Int
 Allow:Int
 Wane:Int
 Lengths:List Int
 Prices:List Int
instance : Inhabited qE:=⟨⟨⟨#[]⟩,0,0,0,0,[],[]⟩⟩
def qP (r:qE):List C:=[cs r.Name,ci r.Thick,ci r.Width,ci r.Allow,ci r.Wane,tl qD dd r.Lengths,tl qD dd r.Prices]
structure qH where
 Low:Int
 Rows:List Span
instance : Inhabited qH:=⟨⟨0,[]⟩⟩
def qZ (r:qH):List C:=[ci r.Low,tl qK dd r.Rows]
structure Rect where
 X:Span
 Y:Span
instance : Inhabited Rect:=⟨⟨dd,dd⟩⟩
def qT (r:Rect):List C:=[ci r.X.A,ci r.X.B,ci r.Y.A,ci r.Y.B]
structure qN where
 Len:Int
 Sec:qH
instance : Inhabited qN:=⟨⟨0,dd⟩⟩
def qR (r:qN):List C:=[ci r.Len,ci r.Sec.Low,tl qK dd r.Sec.Rows]
structure Saw where
 Kerf:Int
 Trim:Int
 Pitch:Int
 Step:Int
instance : Inhabited Saw:=⟨⟨0,0,0,0⟩⟩
def jY (r:Saw):List C:=[ci r.Kerf,ci r.Trim,ci r.Pitch,ci r.Step]
structure Rates where
 Chip:Int
 Dust:Int
 Fine:Int
instance : Inhabited Rates:=⟨⟨0,0,0⟩⟩
def wC (r:Rates):List C:=[ci r.Chip,ci r.Dust,ci r.Fine]
structure qY where
 z:Span
 lack:Int
instance : Inhabited qY:=⟨⟨dd,0⟩⟩
def zH (r:qY):List C:=[ci r.z.A,ci r.z.B,ci r.lack]
structure zF where
 product:qE
 rect:Rect
 length:Int
 zones:List qY
 defects:List qG
instance : Inhabited zF:=⟨⟨dd,dd,0,[],[]⟩⟩
def LI (r:zF):List C:=[cs r.product.Name,ci r.product.Thick,ci r.product.Width,ci r.product.Allow,ci r.product.Wane,tl qD dd r.product.Lengths,tl qD dd r.product.Prices,ci r.rect.X.A,ci r.rect.X.B,ci r.rect.Y.A,ci r.rect.Y.B,ci r.length,tl zH dd r.zones,tl qM dd r.defects]
structure Line where
 Len:Int
 Kerf:Int
 Pitch:Int
 Sizes:List Int
 Gain:List (List Int)
 Chip:List Int
 Dust:List Int
instance : Inhabited Line:=⟨⟨0,0,0,[],[],[],[]⟩⟩
def QK (r:Line):List C:=[ci r.Len,ci r.Kerf,ci r.Pitch,tl qD dd r.Sizes,tl (qU qD) dd r.Gain,tl qD dd r.Chip,tl qD dd r.Dust]
structure qB where
 piece:zR
 value:Int
instance : Inhabited qB:=⟨⟨dd,0⟩⟩
def qQ (r:qB):List C:=[ci r.piece.Size,ci r.piece.At,ci r.value]
structure Node where
 Kind:Int
 At:Int
instance : Inhabited Node:=⟨⟨0,0⟩⟩
def qL (r:Node):List C:=[ci r.Kind,ci r.At]
structure Pattern where
 Frame:Rect
 Nodes:List Node
instance : Inhabited Pattern:=⟨⟨dd,[]⟩⟩
def KZ (r:Pattern):List C:=[ci r.Frame.X.A,ci r.Frame.X.B,ci r.Frame.Y.A,ci r.Frame.Y.B,tl qL dd r.Nodes]
structure qI where
 Quarters:Int
 Pattern:Pattern
 Value:Int
instance : Inhabited qI:=⟨⟨0,dd,0⟩⟩
def zB (r:qI):List C:=[ci r.Quarters,ci r.Pattern.Frame.X.A,ci r.Pattern.Frame.X.B,ci r.Pattern.Frame.Y.A,ci r.Pattern.Frame.Y.B,tl qL dd r.Pattern.Nodes,ci r.Value]
structure qXX where
 Solid:List qN
 Defects:List qG
instance : Inhabited qXX:=⟨⟨[],[]⟩⟩
structure zM where
 Products:List qE
 Saw:Saw
 Rates:Rates
instance : Inhabited zM:=⟨⟨[],dd,dd⟩⟩
def yN (r:zM):List C:=[tl qP dd r.Products,ci r.Saw.Kerf,ci r.Saw.Trim,ci r.Saw.Pitch,ci r.Saw.Step,ci r.Rates.Chip,ci r.Rates.Dust,ci r.Rates.Fine]
structure qXv where
 value:Int
 piece:zR
instance : Inhabited qXv:=⟨⟨0,dd⟩⟩
structure yJ where
 Quarters:Int
 Pattern:Pattern
 Value:Int
instance : Inhabited yJ:=⟨⟨0,dd,0⟩⟩
def qCa (r:yJ):List C:=[ci r.Quarters,ci r.Pattern.Frame.X.A,ci r.Pattern.Frame.X.B,ci r.Pattern.Frame.Y.A,ci r.Pattern.Frame.Y.B,tl qL dd r.Pattern.Nodes,ci r.Value]
structure wO where
 rect:Rect
 level:Int
instance : Inhabited wO:=⟨⟨dd,0⟩⟩
def qNf :zR:=(zR.mk (-1) (-1))
def zK :List qA:=[(qA.mk 1 0),(qA.mk 0 1),(qA.mk (-1) 0),(qA.mk 0 (-1))]
def qHU :List Int:=[(-1),1]
def globs :List (Nat×C):=[(0,.lptr (QB qNf)),(1,.aptr 4 2 (rf qF zK)),(2,.aptr 2 1 (rf qD qHU))]
def qDq :Nat->Int->(List qO)->Option (List qO)
 |0,_,_=>none
 |n+1,x4,l5=> bif decide (x4<((8:Nat):Int)) then bif inb x4 8 then bif room (l5.length+1) 24 then (qDq n) (w64 (x4+1)) (l5++([(qO.mk (([(qA.mk 60 30),(qA.mk 0 30),(qA.mk (-60) 30),(qA.mk (-60) 0),(qA.mk (-60) (-30)),(qA.mk 0 (-30)),(qA.mk 60 (-30)),(qA.mk 60 0)]:List qA).getD x4.toNat dd) true)]:List qO)) else none else none else some l5
def qDy :Nat->Int->(List Ring)->Option (List Ring)
 |0,_,_=>none
 |n+1,x1,l2=> bif decide (x1<2) then (qDq FUEL 0 []).bind λo10=> bif room (l2.length+1) 32 then (qDy n) (w64 (x1+1)) (l2++[(Ring.mk (w64 (3000*x1)) o10)]) else none else some l2
def DY :Option Scan:= (qDy FUEL 0 []).bind λo14=> some (Scan.mk o14 [])
def SO (x3:Bool):Option Bool:= some x3
def NU (a1:Int):Option Bool:= bif decide (a1≥(-600)) then SO (decide (a1<=600)) else SO false
def IB (x7:Int) (R:Int->Option (Int⊕Unit)) (x19:Bool):Option (Int⊕Unit):= bif x19 then some (Sum.inl 19) else R (w64 (x7+1))
def BW (a1:Ring) (x7:Int) (R:Int->Option (Int⊕Unit)) (x16:Bool):Option (Int⊕Unit):= bif x16 then some (Sum.inl 9) else bif !((a1.Read.getD x7.toNat dd).Ok) then IB x7 R (!(((((a1.Read.getD x7.toNat dd).P).X)==0)&&(((((a1.Read.getD x7.toNat dd).P).Y)==0)&&true))) else IB x7 R false
def QQ (a1:Ring):Nat->Int->Option (Int⊕Unit)
 |0,_=>none
 |n+1,x7=> bif decide (x7<(a1.Read.length:Int)) then bif inb x7 a1.Read.length then bif (a1.Read.getD x7.toNat dd).Ok then (NU (((a1.Read.getD x7.toNat dd).P).X)).bind λv11=> bif !v11 then BW a1 x7 (QQ a1 n) true else (NU (((a1.Read.getD x7.toNat dd).P).Y)).bind λv14=> BW a1 x7 (QQ a1 n) (!v14) else BW a1 x7 (QQ a1 n) false else none else some (Sum.inr ())
def II (a1:Ring) (x5:Bool):Option Int:= bif x5 then some 9 else (QQ a1 FUEL 0).bind λu23=>Sum.elim (λv24=>some v24) (λo21=> some 0) u23
def UH (a1:Ring):Option Int:= bif decide ((a1.Read.length:Int)<8) then some 3 else bif decide ((a1.Read.length:Int)>32) then some 4 else bif decide (a1.Z<0) then II a1 true else II a1 (decide (a1.Z>20000))
def ZB (a1:Span):Option Bool:= some (decide (a1.A≥a1.B))
def BN (x5:Bool):Option Bool:= some x5
def KF (a1:Span) (a2:Int) (a3:Int):Option Bool:= bif decide ((imin a1.A a1.B)≥a2) then BN (decide ((imax a1.A a1.B)<=a3)) else BN false
def UL (x23:Bool):Option Int:= bif x23 then some 9 else some 0
def UU (a1:qG) (x13:Bool):Option Int:= bif x13 then some 19 else (KF a1.Box.X (-600) 600).bind λv15=> bif !v15 then UL true else (KF a1.Box.Y (-600) 600).bind λv18=> bif !v18 then UL true else (KF a1.Box.Z 0 20000).bind λv21=> UL (!v21)
def FR (a1:qG) (x3:Bool):Option Int:= bif x3 then some 10 else (ZB a1.Box.X).bind λv5=> bif v5 then UU a1 true else (ZB a1.Box.Y).bind λv8=> bif v8 then UU a1 true else (ZB a1.Box.Z).bind λv11=> UU a1 v11
def MW (a1:qG):Option Int:= bif decide (a1.Kind<1) then FR a1 true else FR a1 (decide (a1.Kind>6))
def WO (a1:List qG):Nat->Int->Option (Int⊕Unit)
 |0,_=>none
 |n+1,x3=> bif decide (x3<(a1.length:Int)) then bif inb x3 a1.length then (MW (a1.getD x3.toNat dd)).bind λv6=> bif v6 !=0 then some (Sum.inl v6) else (WO a1 n) (w64 (x3+1)) else none else some (Sum.inr ())
def JD (a1:List qG):Option Int:= bif decide ((a1.length:Int)>64) then some 4 else (WO a1 FUEL 0).bind λu11=>Sum.elim (λv12=>some v12) (λo9=> some 0) u11
def KM (a1:Scan) (x4:Int) (R:Int->Option (Int⊕Unit)) (x16:Bool):Option (Int⊕Unit):= bif x16 then some (Sum.inl 11) else bif inb 0 a1.Rings.length then bif ((((a1.Rings.getD x4.toNat dd).Read).length:Nat):Int) !=((((a1.Rings.getD (0:Int).toNat dd).Read).length:Nat):Int) then some (Sum.inl 19) else R (w64 (x4+1)) else none
def jQ (a1:Scan):Nat->Int->Option (Int⊕Unit)
 |0,_=>none
 |n+1,x4=> bif decide (x4<(a1.Rings.length:Int)) then bif inb x4 a1.Rings.length then (UH (a1.Rings.getD x4.toNat dd)).bind λv7=> bif v7 !=0 then some (Sum.inl v7) else bif x4==0 then bif ((a1.Rings.getD x4.toNat dd).Z) !=0 then KM a1 x4 (jQ a1 n) true else bif decide (x4>0) then bif inb (w64 (x4-1)) a1.Rings.length then KM a1 x4 (jQ a1 n) (decide (((a1.Rings.getD x4.toNat dd).Z)<=((a1.Rings.getD (w64 (x4-1)).toNat dd).Z))) else none else KM a1 x4 (jQ a1 n) false else bif decide (x4>0) then bif inb (w64 (x4-1)) a1.Rings.length then KM a1 x4 (jQ a1 n) (decide (((a1.Rings.getD x4.toNat dd).Z)<=((a1.Rings.getD (w64 (x4-1)).toNat dd).Z))) else none else KM a1 x4 (jQ a1 n) false else none else some (Sum.inr ())
def TM (a1:Scan):Nat->Int->Option (Int⊕Unit)
 |0,_=>none
 |n+1,x28=> bif decide (x28<(a1.Defects.length:Int)) then bif inb x28 a1.Defects.length then bif decide (((((a1.Defects.getD x28.toNat dd).Box).Z).B)>((a1.Rings.getD (w64 ((a1.Rings.length:Int)-1)).toNat dd).Z)) then some (Sum.inl 9) else (TM a1 n) (w64 (x28+1)) else none else some (Sum.inr ())
def SI (a1:Scan):Option Int:= bif decide ((a1.Rings.length:Int)<2) then some 3 else bif decide ((a1.Rings.length:Int)>24) then some 4 else (jQ a1 FUEL 0).bind λu22=>Sum.elim (λv23=>some v23) (λo20=> (JD a1.Defects).bind λv24=> bif v24 !=0 then some v24 else bif inb (w64 ((a1.Rings.length:Int)-1)) a1.Rings.length then (TM a1 FUEL 0).bind λu34=>Sum.elim (λv35=>some v35) (λo32=> some 0) u34 else none) u22
def HH (a1:List Ring):Option (List Ring):= bif room a1.length 32 then some a1 else none
def QX (a1:List qG):Option (List qG):= bif room a1.length 56 then some a1 else none
def WE (a1:List qO):Option (List qO):= bif room a1.length 24 then some a1 else none
def qDC (v2:List Ring):Nat->Int->(List Ring)->Option (List Ring)
 |0,_,_=>none
 |n+1,x6,l7=> bif decide (x6<(v2.length:Int)) then bif inb x6 l7.length then (WE ((l7.getD x6.toNat dd).Read)).bind λv13=> (qDC v2 n) (w64 (x6+1)) (l7.set x6.toNat (Ring.mk ((l7.getD x6.toNat dd).Z) v13)) else none else some l7
def qI5 (a1:Scan):Option Scan:= (HH a1.Rings).bind λv2=> (QX a1.Defects).bind λv4=> (qDC v2 FUEL 0 v2).bind λo16=> some (Scan.mk o16 v4)
def QY (a1:List qG) (a2:Int) (x8:Int):Nat->Int->Int->Int->Int->Int->Option qG
 |0,_,_,_,_,_=>none
 |n+1,x11,x12,x13,x14,x15=> bif decide (x11<(Int.tmod (w64 ((Int.tmod a2 4)+4)) 4)) then (QY a1 a2 x8 n) (w64 (x11+1)) (w64 (0-x15)) (w64 (0-x14)) x12 x13 else some (qG.mk ((a1.getD x8.toNat dd).Kind) (Box.mk (Span.mk x12 x13) (Span.mk x14 x15) (((a1.getD x8.toNat dd).Box).Z)))
def WB (a1:List qG) (a2:Int):Nat->(List qG)->Int->Option (List qG)
 |0,_,_=>none
 |n+1,l7,x8=> bif decide (x8<(a1.length:Int)) then bif inb x8 a1.length then (QY a1 a2 x8 FUEL 0 ((((a1.getD x8.toNat dd).Box).X).A) ((((a1.getD x8.toNat dd).Box).X).B) ((((a1.getD x8.toNat dd).Box).Y).A) ((((a1.getD x8.toNat dd).Box).Y).B)).bind λo18=> bif inb x8 l7.length then (WB a1 a2 n) (l7.set x8.toNat o18) (w64 (x8+1)) else none else none else some l7
def AB (a1:List qG) (a2:Int):Option (List qG):= (JD a1).bind λv3=> bif v3 !=0 then some ([]:List qG) else bif mkOk (a1.length:Int) 56 then (WB a1 a2 FUEL (List.replicate ((a1.length:Int).toNat) (qG.mk 0 (Box.mk (Span.mk 0 0) (Span.mk 0 0) (Span.mk 0 0)))) 0).bind λo22=> some o22 else none
def HX (a1:Ring):Option Ring:= (WE a1.Read).bind λv2=> some (Ring.mk a1.Z v2)
def zaQ (x2:Int) (R:Int->Option (Bool⊕Unit)) (x6:Bool):Option (Bool⊕Unit):= bif x6 then some (Sum.inl false) else R (w64 (x2+1))
def ZM (a1:List qA):Nat->Int->Option (Bool⊕Unit)
 |0,_=>none
 |n+1,x2=> bif decide (x2<(a1.length:Int)) then bif inb x2 a1.length then bif ((a1.getD x2.toNat dd).X)==(-9223372036854775808) then zaQ x2 (ZM a1 n) true else zaQ x2 (ZM a1 n) (((a1.getD x2.toNat dd).Y)==(-9223372036854775808)) else none else some (Sum.inr ())
def LK (a1:List qA):Option Bool:= (ZM a1 FUEL 0).bind λu10=>Sum.elim (λv11=>some v11) (λo8=> some true) u10
def GL (a1:List qA) (a2:Int):Nat->(List qA)->Int->Option (List qA)
 |0,_,_=>none
 |n+1,l8,x9=> bif decide (x9<(a1.length:Int)) then bif inb x9 a1.length then bif inb x9 l8.length then (GL a1 a2 n) (l8.set x9.toNat (qA.mk (w64 ((w64 (((zK.getD (Int.tmod (w64 ((Int.tmod a2 4)+4)) 4).toNat dd).X)*((a1.getD x9.toNat dd).X)))-(w64 (((zK.getD (Int.tmod (w64 ((Int.tmod a2 4)+4)) 4).toNat dd).Y)*((a1.getD x9.toNat dd).Y))))) (w64 ((w64 (((zK.getD (Int.tmod (w64 ((Int.tmod a2 4)+4)) 4).toNat dd).Y)*((a1.getD x9.toNat dd).X)))+(w64 (((zK.getD (Int.tmod (w64 ((Int.tmod a2 4)+4)) 4).toNat dd).X)*((a1.getD x9.toNat dd).Y))))))) (w64 (x9+1)) else none else none else some l8
def qCF (a1:List qA) (a2:Int):Option (List qA):= (LK a1).bind λv3=> bif !v3 then some ([]:List qA) else bif inb (Int.tmod (w64 ((Int.tmod a2 4)+4)) 4) 4 then bif mkOk (a1.length:Int) 16 then (GL a1 a2 FUEL (List.replicate ((a1.length:Int).toNat) (qA.mk 0 0)) 0).bind λo14=> some o14 else none else none
def VR (a1:Ring):Nat->(List qA)->Int->Option (List qA)
 |0,_,_=>none
 |n+1,l9,x10=> bif decide (x10<(a1.Read.length:Int)) then bif inb x10 a1.Read.length then bif inb x10 l9.length then (VR a1 n) (l9.set x10.toNat ((a1.Read.getD x10.toNat dd).P)) (w64 (x10+1)) else none else none else some l9
def GQ (v17:(List qA)):Nat->Int->(List qO)->Option (List qO)
 |0,_,_=>none
 |n+1,x19,l20=> bif decide (x19<(v17.length:Int)) then bif inb x19 v17.length then bif inb x19 l20.length then (GQ v17 n) (w64 (x19+1)) (l20.set x19.toNat (qO.mk (v17.getD x19.toNat dd) ((l20.getD x19.toNat dd).Ok))) else none else none else some l20
def qDf (a1:Ring) (a2:Int):Option Ring:= (HX a1).bind λv3=> (UH a1).bind λv5=> bif v5 !=0 then some (Ring.mk v3.Z v3.Read) else bif mkOk (a1.Read.length:Int) 16 then (VR a1 FUEL (List.replicate ((a1.Read.length:Int).toNat) (qA.mk 0 0)) 0).bind λo15=> (qCF o15 a2).bind λv17=> (GQ v17 FUEL 0 v3.Read).bind λo25=> some (Ring.mk v3.Z o25) else none
def XH (a1:Scan) (a2:Int):Nat->Int->(List Ring)->Option (List Ring)
 |0,_,_=>none
 |n+1,x11,l12=> bif decide (x11<(a1.Rings.length:Int)) then bif inb x11 a1.Rings.length then (qDf (a1.Rings.getD x11.toNat dd) a2).bind λv19=> bif inb x11 l12.length then (XH a1 a2 n) (w64 (x11+1)) (l12.set x11.toNat v19) else none else none else some l12
def ZI (a1:Scan) (a2:Int):Option Scan:= (SI a1).bind λv3=> bif v3 !=0 then (qI5 a1).bind λv6=> some (Scan.mk v6.Rings v6.Defects) else bif mkOk (a1.Rings.length:Int) 32 then (AB a1.Defects a2).bind λv9=> (XH a1 a2 FUEL 0 (List.replicate ((a1.Rings.length:Int).toNat) (Ring.mk 0 []))).bind λo23=> some (Scan.mk o23 v9) else none
def DQ (x3:Int) (R:(List Int)->Int->Option (List Int)) (l8:List Int):Option (List Int):= R l8 (w64 (x3+1))
def QG (a1:Ring):Nat->(List Int)->Int->Option (List Int)
 |0,_,_=>none
 |n+1,l2,x3=> bif decide (x3<(a1.Read.length:Int)) then bif inb x3 a1.Read.length then bif (a1.Read.getD x3.toNat dd).Ok then bif room (l2.length+1) 8 then DQ x3 (QG a1 n) (l2++[x3]) else none else DQ x3 (QG a1 n) l2 else none else some l2
def KB (a1:Ring):Option (List Int):= (QG a1 FUEL [] 0).bind λo10=> some o10
def qCj (x5:Bool):Option Bool:= some x5
def qE2 (a1:qA) (a2:qA) (a3:Int):Option Bool:= bif decide ((imax (w64 (a1.X-a2.X)) (w64 (a2.X-a1.X)))>a3) then qCj true else qCj (decide ((imax (w64 (a1.Y-a2.Y)) (w64 (a2.Y-a1.Y)))>a3))
def AW (x18:Int) (R:Bool->Int->Option Bool) (x28:Bool):Option Bool:= R x28 (w64 (x18+1))
def yO (a1:Ring) (a2:Int) (v5:(List Int)) (x13:Int):Nat->Bool->Int->Option Bool
 |0,_,_=>none
 |n+1,x17,x18=> bif decide (x18<2) then bif inb x18 2 then bif nz (v5.length:Int) then bif inb (Int.tmod (w64 ((w64 (x13+(v5.length:Int)))+(([(-1),1]:List Int).getD x18.toNat 0))) (v5.length:Int)) v5.length then bif inb (v5.getD ((Int.tmod (w64 ((w64 (x13+(v5.length:Int)))+(([(-1),1]:List Int).getD x18.toNat 0))) (v5.length:Int)).toNat) dd) a1.Read.length then bif x17 then bif inb (v5.getD x13.toNat dd) a1.Read.length then (qE2 ((a1.Read.getD (v5.getD x13.toNat dd).toNat dd).P) ((a1.Read.getD (v5.getD ((Int.tmod (w64 ((w64 (x13+(v5.length:Int)))+(([(-1),1]:List Int).getD x18.toNat 0))) (v5.length:Int)).toNat) dd).toNat dd).P) a2).bind λv26=> AW x18 (yO a1 a2 v5 x13 n) v26 else none else AW x18 (yO a1 a2 v5 x13 n) false
 else none else none else none else none else some x17
def IK (x13:Int) (R:Int->(List qO)->Option (List qO)) (l34:List qO):Option (List qO):= R (w64 (x13+1)) l34
def JG (a1:Ring) (a2:Int) (v5:(List Int)):Nat->Int->(List qO)->Option (List qO)
 |0,_,_=>none
 |n+1,x13,l14=> bif decide (x13<(v5.length:Int)) then bif inb x13 v5.length then (yO a1 a2 v5 x13 FUEL true 0).bind λo30=> bif o30 then bif inb (v5.getD x13.toNat dd) l14.length then IK x13 (JG a1 a2 v5 n) (l14.set ((v5.getD x13.toNat dd).toNat) (qO.mk (qA.mk 0 0) false)) else none else IK x13 (JG a1 a2 v5 n) l14 else none else some l14
def BY (a1:Ring) (a2:Int) (v3:Ring) (v5:(List Int)) (x11:Bool):Option Ring:= bif x11 then some (Ring.mk v3.Z v3.Read) else (JG a1 a2 v5 FUEL 0 v3.Read).bind λo36=> some (Ring.mk v3.Z o36)
def qAf (a1:Ring) (a2:Int):Option Ring:= (HX a1).bind λv3=> (KB a1).bind λv5=> bif decide (a2<0) then BY a1 a2 v3 v5 true else bif decide ((v5.length:Int)<2) then BY a1 a2 v3 v5 true else (UH a1).bind λv9=> BY a1 a2 v3 v5 (v9 !=0)
def NP (a1:Ring) (a2:List Int) (a3:Int):Option Int:= bif decide ((w64 (a3+1))<(a2.length:Int)) then bif inb (w64 (a3+1)) a2.length then bif inb a3 a2.length then some (w64 ((w64 ((a2.getD (w64 (a3+1)).toNat dd)-(a2.getD a3.toNat dd)))-1)) else none else none else bif inb 0 a2.length then bif inb a3 a2.length then some (w64 ((w64 ((w64 ((a2.getD (0:Int).toNat dd)+(a1.Read.length:Int)))-(a2.getD a3.toNat dd)))-1)) else none else none
def DF (a1:Ring) (v2:(List Int)):Nat->Int->Int->Option Int
 |0,_,_=>none
 |n+1,x5,x6=> bif decide (x6<(v2.length:Int)) then (NP a1 v2 x6).bind λv8=> (DF a1 v2 n) (imax x5 v8) (w64 (x6+1)) else some x5
def CK (a1:Ring):Option (Int×Int):= (KB a1).bind λv2=> bif (v2.length:Int)==0 then some (w64 ((a1.Read.length:Int)-(v2.length:Int)),w64 ((a1.Read.length:Int)-(v2.length:Int))) else (DF a1 v2 FUEL 0 0).bind λo11=> some (w64 ((a1.Read.length:Int)-(v2.length:Int)),o11)
def AY (x5:Int):Option Int:= some x5
def HN (a1:Int) (a2:Int):Option Int:= bif nz a2 then bif decide ((Int.tmod a1 a2)<0) then AY (w64 ((w64 (Int.tdiv a1 a2))-1)) else AY (w64 (Int.tdiv a1 a2)) else none
def PO (a1:Ring) (v6:(List Int)) (x16:Int) (v24:Int):Nat->(List qA)->Int->Option (List qA)
 |0,_,_=>none
 |n+1,l26,x27=> bif decide (x27<=v24) then bif nz (l26.length:Int) then (HN (w64 ((w64 ((((a1.Read.getD (v6.getD ((Int.tmod (w64 (x16+1)) (v6.length:Int)).toNat) dd).toNat dd).P).X)-(((a1.Read.getD (v6.getD x16.toNat dd).toNat dd).P).X)))*x27)) (w64 (v24+1))).bind λv30=> (HN (w64 ((w64 ((((a1.Read.getD (v6.getD ((Int.tmod (w64 (x16+1)) (v6.length:Int)).toNat) dd).toNat dd).P).Y)-(((a1.Read.getD (v6.getD x16.toNat dd).toNat dd).P).Y)))*x27)) (w64 (v24+1))).bind λv32=> bif inb (Int.tmod (w64 ((v6.getD x16.toNat dd)+x27)) (l26.length:Int)) l26.length then (PO a1 v6 x16 v24 n) (l26.set ((Int.tmod (w64 ((v6.getD x16.toNat dd)+x27)) (l26.length:Int)).toNat) (qA.mk (w64 ((((a1.Read.getD (v6.getD x16.toNat dd).toNat dd).P).X)+v30)) (w64 ((((a1.Read.getD (v6.getD x16.toNat dd).toNat dd).P).Y)+v32)))) (w64 (x27+1))
 else none else none else some l26
def YD (a1:Ring) (v6:(List Int)):Nat->(List qA)->Int->Option (List qA)
 |0,_,_=>none
 |n+1,l15,x16=> bif decide (x16<(v6.length:Int)) then bif inb x16 v6.length then bif inb (v6.getD x16.toNat dd) a1.Read.length then bif nz (v6.length:Int) then bif inb (Int.tmod (w64 (x16+1)) (v6.length:Int)) v6.length then bif inb (v6.getD ((Int.tmod (w64 (x16+1)) (v6.length:Int)).toNat) dd) a1.Read.length then bif inb (v6.getD x16.toNat dd) l15.length then (NP a1 v6 x16).bind λv24=> (PO a1 v6 x16 v24 FUEL (l15.set ((v6.getD x16.toNat dd).toNat) ((a1.Read.getD (v6.getD x16.toNat dd).toNat dd).P)) 1).bind λo36=> (YD a1 v6 n) o36 (w64 (x16+1)) else none else none else none else none else none else none else some l15
def GZ (a1:Ring) (v6:(List Int)) (x12:Bool):Option ((List qA)×Int):= bif x12 then some ([],30) else bif mkOk (a1.Read.length:Int) 16 then (YD a1 v6 FUEL (List.replicate ((a1.Read.length:Int).toNat) (qA.mk 0 0)) 0).bind λo39=> some (o39,0) else none
def AU (a1:Ring) (a2:Int):Option ((List qA)×Int):= (UH a1).bind λv3=> bif v3 !=0 then some ([],v3) else (KB a1).bind λv6=> (CK a1).bind λv8=> bif decide ((v6.length:Int)<3) then GZ a1 v6 true else bif decide (v8.1>0) then GZ a1 v6 (decide (v8.2>a2)) else GZ a1 v6 false
def SC (x3:Bool):Option Bool:= some x3
def NT (a1:Int):Option Bool:= bif decide (a1≥(-600)) then SC (decide (a1<=600)) else SC false
def FU (x2:Int) (R:Int->Option (Bool⊕Unit)) (x10:Bool):Option (Bool⊕Unit):= bif x10 then some (Sum.inl false) else R (w64 (x2+1))
def JA (a1:List qA):Nat->Int->Option (Bool⊕Unit)
 |0,_=>none
 |n+1,x2=> bif decide (x2<(a1.length:Int)) then bif inb x2 a1.length then (NT ((a1.getD x2.toNat dd).X)).bind λv5=> bif !v5 then FU x2 (JA a1 n) true else (NT ((a1.getD x2.toNat dd).Y)).bind λv8=> FU x2 (JA a1 n) (!v8) else none else some (Sum.inr ())
def RF (a1:List qA):Option Bool:= (JA a1 FUEL 0).bind λu14=>Sum.elim (λv15=>some v15) (λo12=> some true) u14
def TC (a1:List qA):Nat->Int->Int->Option Int
 |0,_,_=>none
 |n+1,x7,x8=> bif decide (x8<(a1.length:Int)) then bif inb x8 a1.length then bif nz (a1.length:Int) then bif inb (Int.tmod (w64 (x8+1)) (a1.length:Int)) a1.length then (TC a1 n) (w64 (x7+(w64 ((w64 (((a1.getD x8.toNat dd).X)*((a1.getD (Int.tmod (w64 (x8+1)) (a1.length:Int)).toNat dd).Y)))-(w64 (((a1.getD (Int.tmod (w64 (x8+1)) (a1.length:Int)).toNat dd).X)*((a1.getD x8.toNat dd).Y))))))) (w64 (x8+1)) else none else none else none else some x7
def IQ (a1:List qA) (x5:Bool):Option Int:= bif x5 then some 0 else (TC a1 FUEL 0 0).bind λo14=> some o14
def qAF (a1:List qA):Option Int:= bif decide ((a1.length:Int)>32) then IQ a1 true else (RF a1).bind λv3=> IQ a1 (!v3)
def qAE (a1:List qA):Option Int:= bif decide ((a1.length:Int)<3) then some 3 else bif decide ((a1.length:Int)>32) then some 4 else (RF a1).bind λv4=> bif !v4 then some 9 else (qAF a1).bind λv7=> bif v7==0 then some 19 else some 0
def XK (a1:Int) (a2:Int):Option Span:= some (Span.mk (w64 (10*a1)) (w64 (10*a2)))
def JV (a1:List qA):Option (List qA):= bif room a1.length 16 then some a1 else none
def NK (a1:Int):Option Bool:= some (a1 !=a1)
def XI (a1:Int) (a2:Int):Option Int:= (NK a1).bind λv3=> (NK a2).bind λv5=> bif v3 then bif v5 then some 0 else some (-1) else bif v5 then some 1 else bif decide (a1<a2) then some (-1) else bif decide (a1>a2) then some 1 else some 0
def PS (a1:List Int):Nat->Int->Option (Int⊕Unit)
 |0,_=>none
 |n+1,x2=> bif decide (x2<(a1.length:Int)) then bif inb x2 a1.length then bif (a1.getD x2.toNat dd) !=0 then some (Sum.inl (a1.getD x2.toNat dd)) else (PS a1 n) (w64 (x2+1)) else none else some (Sum.inr ())
def AA (a1:List Int):Option Int:= (PS a1 FUEL 0).bind λu8=>Sum.elim (λv9=>some v9) (λo6=> some 0) u8
def poly_Hull_1 (a1:qA) (a2:qA):Option Int:= (XI a1.X a2.X).bind λv3=> (XI a1.Y a2.Y).bind λv5=> (AA [v3,v5]).bind λv7=> some v7
def ZS (a1:List qA):Option (List qA):= bif qJR a1.length then some (BR poly_Hull_1 a1) else none
def WX (x12:Int) (R:(List qA)->Int->Int->Option ((List qA)×Int)) (l19:List qA) (x20:Int):Option ((List qA)×Int):= R l19 x20 (w64 (x12+1))
def jD (l3:List qA) (x4:Int):Nat->(List qA)->Int->Int->Option ((List qA)×Int)
 |0,_,_,_=>none
 |n+1,l10,x11,x12=> bif decide (x12<(((l3.length-x4.toNat):Nat):Int)) then bif inb x12 (l3.length-x4.toNat) then bif Nat.ble (x4.toNat+(l3.length-x4.toNat)) l10.length then bif inb (w64 (x12-1)) (l3.length-x4.toNat) then bif !((((l10.getD (x4.toNat+x12.toNat) dd).X)==((l10.getD (x4.toNat+((w64 (x12-1)).toNat)) dd).X))&&((((l10.getD (x4.toNat+x12.toNat) dd).Y)==((l10.getD (x4.toNat+((w64 (x12-1)).toNat)) dd).Y))&&true)) then bif inb x11 l10.length then WX x12 (jD l3 x4 n) (l10.set x11.toNat (l10.getD (x4.toNat+x12.toNat) dd)) (w64 (x11+1)) else none else WX x12 (jD l3 x4 n) l10 x11 else none else none else none else some (l10,x11)
def jT :Nat->(List qA)->Int->Option (((List qA)×(List qA))⊕(List qA))
 |0,_,_=>none
 |n+1,l3,x4=> bif decide (x4<(l3.length:Int)) then bif inb x4 l3.length then bif inb (w64 (x4-1)) l3.length then bif ((((l3.getD x4.toNat dd).X)==((l3.getD ((w64 (x4-1)).toNat) dd).X))&&((((l3.getD x4.toNat dd).Y)==((l3.getD ((w64 (x4-1)).toNat) dd).Y))&&true)) then bif slOk x4 (l3.length:Int) l3.length then (jD l3 x4 FUEL l3 x4 1).bind λo23=> bif slOk o23.2 (o23.1.length:Int) o23.1.length then bif slOk 0 o23.2 o23.1.length then some (Sum.inl ((o23.1.take o23.2.toNat),(o23.1.take o23.2.toNat))) else none else none else none else (jT n) l3 (w64 (x4+1)) else none else none else some (Sum.inr l3)
def QD (a1:List qA):Option ((List qA)×(List qA)):= bif decide ((a1.length:Int)<2) then some (a1,a1) else (jT FUEL a1 1).bind λu30=>Sum.elim (λv31=>some v31) (λo28=> some (o28,o28)) u30
def CW (a1:qA) (a2:qA) (a3:qA):Option Int:= some (w64 ((w64 ((w64 (a2.X-a1.X))*(w64 (a3.Y-a1.Y))))-(w64 ((w64 (a3.X-a1.X))*(w64 (a2.Y-a1.Y))))))
def IS (l6:List qA) (R:(List qA)->Option (List qA)) (x12:Bool):Option (List qA):= bif x12 then bif slOk 0 (w64 ((l6.length:Int)-1)) l6.length then R (l6.take ((w64 ((l6.length:Int)-1)).toNat)) else none else some l6
def KJ (a1:List qA) (x3:Int):Nat->(List qA)->Option (List qA)
 |0,_=>none
 |n+1,l6=> bif decide ((l6.length:Int)≥2) then bif inb (w64 ((l6.length:Int)-2)) l6.length then bif inb (w64 ((l6.length:Int)-1)) l6.length then (CW (l6.getD ((w64 ((l6.length:Int)-2)).toNat) dd) (l6.getD ((w64 ((l6.length:Int)-1)).toNat) dd) (a1.getD x3.toNat dd)).bind λv10=> IS l6 (KJ a1 x3 n) (decide (v10<=0)) else none else none else IS l6 (KJ a1 x3 n) false
def NH (a1:List qA):Nat->(List qA)->Int->Option (List qA)
 |0,_,_=>none
 |n+1,l2,x3=> bif decide (x3<(a1.length:Int)) then bif inb x3 a1.length then (KJ a1 x3 FUEL l2).bind λo16=> bif room (o16.length+1) 16 then (NH a1 n) (o16++[(a1.getD x3.toNat dd)]) (w64 (x3+1)) else none else none else some l2
def SE (a1:List qA):Option (List qA):= (NH a1 FUEL [] 0).bind λo20=> bif slOk 0 (w64 ((o20.length:Int)-1)) o20.length then some (o20.take ((w64 ((o20.length:Int)-1)).toNat)) else none
def QL :Nat->(List qA)->Int->Int->Option (List qA)
 |0,_,_,_=>none
 |n+1,l2,x3,x4=> bif decide (x3<x4) then bif inb x4 l2.length then bif inb x3 l2.length then (QL n) ((l2.set x3.toNat (l2.getD x4.toNat dd)).set x4.toNat (l2.getD x3.toNat dd)) (w64 (x3+1)) (w64 (x4-1)) else none else none else some l2
def WG (a1:List qA):Option (List qA):= (QL FUEL a1 0 (w64 ((a1.length:Int)-1))).bind λo9=> some o9
def HJ (a1:List qA) (x6:Bool):Option (List qA):= bif x6 then some ([]:List qA) else (JV a1).bind λv8=> (ZS v8).bind λv10=> bif v10.length==v8.length then (QD v10).bind λv13=> (SE v13.2).bind λv15=> (WG v13.2).bind λv17=> bif v17.length==v13.2.length then (SE v17).bind λv20=> bif room (v15.length+v20.length) 16 then bif decide ((((v15.length+v20.length):Nat):Int)<3) then some ([]:List qA) else some (v15++v20) else none else none else none
def qC8 (a1:List qA):Option (List qA):= bif decide ((a1.length:Int)<3) then HJ a1 true else bif decide ((a1.length:Int)>32) then HJ a1 true else (RF a1).bind λv4=> HJ a1 (!v4)
def GN (a1:List qA):Nat->Int->Rect->Option Rect
 |0,_,_=>none
 |n+1,x4,x5=> bif decide (x4<(a1.length:Int)) then bif inb x4 a1.length then (GN a1 n) (w64 (x4+1)) (Rect.mk (Span.mk (imin x5.X.A ((a1.getD x4.toNat dd).X)) (imax x5.X.B ((a1.getD x4.toNat dd).X))) (Span.mk (imin x5.Y.A ((a1.getD x4.toNat dd).Y)) (imax x5.Y.B ((a1.getD x4.toNat dd).Y)))) else none else some x5
def AI (a1:List qA):Option Rect:= bif (a1.length:Int)==0 then some (Rect.mk (Span.mk 0 0) (Span.mk 0 0)) else bif inb 0 a1.length then (GN a1 FUEL 0 (Rect.mk (Span.mk ((a1.getD (0:Int).toNat dd).X) ((a1.getD (0:Int).toNat dd).X)) (Span.mk ((a1.getD (0:Int).toNat dd).Y) ((a1.getD (0:Int).toNat dd).Y)))).bind λo9=> some o9 else none
def IP (x5:Int):Option Int:= some x5
def HZ (a1:Int) (a2:Int):Option Int:= bif nz a2 then bif decide ((Int.tmod a1 a2)<0) then IP (w64 ((w64 (Int.tdiv a1 a2))-1)) else IP (w64 (Int.tdiv a1 a2)) else none
def TY (x6:Int) (R:Int->Int->Int->Option (Int×Int)) (x23:Int) (x24:Int):Option (Int×Int):= R x23 x24 (w64 (x6+1))
def UW (a1:Int) (a3:List qA) (x4:Int) (x5:Int) (x6:Int) (R:Int->Int->Int->Option (Int×Int)) (x19:Bool):Option (Int×Int):= bif x19 then (HZ (w64 ((w64 (((a3.getD ((Int.tmod (w64 (x6+1)) (a3.length:Int)).toNat) dd).X)-((a3.getD x6.toNat dd).X)))*(w64 (a1-((a3.getD ((Int.tmod (w64 (x6+1)) (a3.length:Int)).toNat) dd).Y))))) (w64 (((a3.getD x6.toNat dd).Y)-((a3.getD ((Int.tmod (w64 (x6+1)) (a3.length:Int)).toNat) dd).Y)))).bind λv21=> TY x6 R (w64 (((a3.getD ((Int.tmod (w64 (x6+1)) (a3.length:Int)).toNat) dd).X)-v21)) x5 else TY x6 R x4 x5
def TZ (a1:Int) (a3:List qA) (x4:Int) (x5:Int) (x6:Int) (R:Int->Int->Int->Option (Int×Int)) (x13:Bool):Option (Int×Int):= bif x13 then (HZ (w64 ((w64 (((a3.getD ((Int.tmod (w64 (x6+1)) (a3.length:Int)).toNat) dd).X)-((a3.getD x6.toNat dd).X)))*(w64 (a1-((a3.getD x6.toNat dd).Y))))) (w64 (((a3.getD ((Int.tmod (w64 (x6+1)) (a3.length:Int)).toNat) dd).Y)-((a3.getD x6.toNat dd).Y)))).bind λv15=> TY x6 R x4 (w64 (((a3.getD x6.toNat dd).X)+v15)) else bif decide (((a3.getD x6.toNat dd).Y)>((a3.getD ((Int.tmod (w64 (x6+1)) (a3.length:Int)).toNat) dd).Y)) then bif decide (((a3.getD ((Int.tmod (w64 (x6+1)) (a3.length:Int)).toNat) dd).Y)<=a1) then UW a1 a3 x4 x5 x6 R (decide (a1<=((a3.getD x6.toNat dd).Y)))
 else UW a1 a3 x4 x5 x6 R false else UW a1 a3 x4 x5 x6 R false
def jH (a1:Int) (a3:List qA):Nat->Int->Int->Int->Option (Int×Int)
 |0,_,_,_=>none
 |n+1,x4,x5,x6=> bif decide (x6<(a3.length:Int)) then bif inb x6 a3.length then bif nz (a3.length:Int) then bif inb (Int.tmod (w64 (x6+1)) (a3.length:Int)) a3.length then bif decide (((a3.getD x6.toNat dd).Y)<((a3.getD ((Int.tmod (w64 (x6+1)) (a3.length:Int)).toNat) dd).Y)) then bif decide (((a3.getD x6.toNat dd).Y)<=a1) then TZ a1 a3 x4 x5 x6 (jH a1 a3 n) (decide (a1<=((a3.getD ((Int.tmod (w64 (x6+1)) (a3.length:Int)).toNat) dd).Y))) else TZ a1 a3 x4 x5 x6 (jH a1 a3 n) false else TZ a1 a3 x4 x5 x6 (jH a1 a3 n) false else none else none else none else some (x4,x5)
def GJ (a1:Int) (a2:Rect) (a3:List qA):Option (Int×Int):= (jH a1 a3 FUEL a2.X.A a2.X.B 0).bind λo27=> some (o27.1,o27.2)
def TJ (a2:Int) (a3:Int) (v4:(List qA)) (v6:Rect) (x11:Bool):Option Span:= bif x11 then some (Span.mk 0 0) else (GJ a2 v6 v4).bind λv13=> (GJ a3 v6 v4).bind λv15=> bif decide ((imax v13.1 v15.1)≥(imin v13.2 v15.2)) then some (Span.mk 0 0) else some (Span.mk (imax v13.1 v15.1) (imin v13.2 v15.2))
def qA9 (a1:List qA) (a2:Int) (a3:Int):Option Span:= (qC8 a1).bind λv4=> (AI v4).bind λv6=> bif (v4.length:Int)==0 then TJ a2 a3 v4 v6 true else bif decide (a2≥a3) then TJ a2 a3 v4 v6 true else bif decide (a2<v6.Y.A) then TJ a2 a3 v4 v6 true else TJ a2 a3 v4 v6 (decide (a3>v6.Y.B))
def HC (a1:Int) (a2:List qA):Option Span:= (XK a1 (w64 (a1+1))).bind λv3=> (qA9 a2 v3.A v3.B).bind λv5=> some v5
def yW (a1:Span):Option Bool:= some (decide (a1.A≥a1.B))
def RB (x3:Int) (R:Int->Int->Int->(List Span)->Option (Int×Int×(List Span))) (x17:Int) (x18:Int) (l19:List Span):Option (Int×Int×(List Span)):= R x17 (w64 (x3+1)) x18 l19
def BH (x3:Int) (l5:List Span) (R:Int->Int->Int->(List Span)->Option (Int×Int×(List Span))) (v7:Span) (x13:Int):Option (Int×Int×(List Span)):= bif room (l5.length+1) 16 then RB x3 R (((l5.length+1):Nat):Int) x13 (l5++[v7]) else none
def jE (a1:List qA):Nat->Int->Int->Int->(List Span)->Option (Int×Int×(List Span))
 |0,_,_,_,_=>none
 |n+1,x2,x3,x4,l5=> bif decide (x3<60) then (HC x3 a1).bind λv7=> (yW v7).bind λv9=> bif !v9 then bif x2==0 then BH x3 l5 (jE a1 n) v7 x3 else BH x3 l5 (jE a1 n) v7 x4 else bif decide (x2>0) then bif room (l5.length+1) 16 then RB x3 (jE a1 n) x2 x4 (l5++[(Span.mk 0 0)]) else none else RB x3 (jE a1 n) x2 x4 l5 else some (x2,x4,l5)
def NB (a1:List qA):Option qH:= (jE a1 FUEL 0 (-60) 0 []).bind λo23=> bif slOk 0 o23.1 o23.2.2.length then some (qH.mk o23.2.1 (o23.2.2.take o23.1.toNat)) else none
def qAO (a1:List qA):Option (qH×Int):= (qAE a1).bind λv2=> bif v2 !=0 then some ((qH.mk 0 []),v2) else (NB a1).bind λv5=> bif (v5.Rows.length:Int)==0 then some ((qH.mk 0 []),18) else some ((qH.mk v5.Low v5.Rows),0)
def GA (a1:Ring) (a2:Int) (a3:Int):Option (qH×Int):= (qAf a1 a2).bind λv4=> (AU (Ring.mk v4.Z v4.Read) a3).bind λv6=> bif v6.2 !=0 then some ((qH.mk 0 []),v6.2) else (qAO v6.1).bind λv9=> some ((qH.mk v9.1.Low v9.1.Rows),v9.2)
def UJ (x3:Bool):Option Bool:= some x3
def UM (a1:Span):Option Bool:= bif decide ((imin a1.A a1.B)≥(-600)) then UJ (decide ((imax a1.A a1.B)<=600)) else UJ false
def ZX (a1:qH):Nat->Int->Option (Int⊕Unit)
 |0,_=>none
 |n+1,x6=> bif decide (x6<(a1.Rows.length:Int)) then bif inb x6 a1.Rows.length then (UM (a1.Rows.getD x6.toNat dd)).bind λv9=> bif !v9 then some (Sum.inl 9) else (ZX a1 n) (w64 (x6+1)) else none else some (Sum.inr ())
def DS (x27:Int) (R:Int->Option (Int⊕Unit)) (x33:Bool):Option (Int⊕Unit):= bif x33 then some (Sum.inl 19) else R (w64 (x27+1))
def yH (a1:qH):Nat->Int->Option (Int⊕Unit)
 |0,_=>none
 |n+1,x27=> bif decide (x27<(a1.Rows.length:Int)) then bif inb x27 a1.Rows.length then (yW (a1.Rows.getD x27.toNat dd)).bind λv30=> bif v30 then DS x27 (yH a1 n) (!((((a1.Rows.getD x27.toNat dd).A)==0)&&((((a1.Rows.getD x27.toNat dd).B)==0)&&true))) else DS x27 (yH a1 n) false else none else some (Sum.inr ())
def BP (a1:qH) (x25:Bool):Option Int:= bif x25 then some 19 else (yH a1 FUEL 0).bind λu37=>Sum.elim (λv38=>some v38) (λo35=> some 0) u37
def DR (a1:qH) (x4:Bool):Option Int:= bif x4 then some 9 else (ZX a1 FUEL 0).bind λu14=>Sum.elim (λv15=>some v15) (λo12=> bif (a1.Rows.length:Int)==0 then bif a1.Low !=0 then some 19 else some 0 else bif inb 0 a1.Rows.length then (yW (a1.Rows.getD (0:Int).toNat dd)).bind λv19=> bif v19 then BP a1 true else bif inb (w64 ((a1.Rows.length:Int)-1)) a1.Rows.length then (yW (a1.Rows.getD (w64 ((a1.Rows.length:Int)-1)).toNat dd)).bind λv23=> BP a1 v23 else none else none) u14
def XZ (a1:qH):Option Int:= bif decide ((a1.Rows.length:Int)>120) then some 4 else bif decide (a1.Low<(-60)) then DR a1 true else DR a1 (decide (a1.Low>(w64 (60-(a1.Rows.length:Int)))))
def QR (a1:qH):Option qH:= (XZ a1).bind λv2=> bif v2 !=0 then some (qH.mk 0 []) else some a1
def IV (a1:qH) (a2:Int) (x4:Bool):Option Span:= bif x4 then some (Span.mk 0 0) else bif inb (w64 (a2-a1.Low)) a1.Rows.length then some (a1.Rows.getD (w64 (a2-a1.Low)).toNat dd) else none
def SJ (a1:qH) (a2:Int):Option Span:= bif decide (a2<a1.Low) then IV a1 a2 true else IV a1 a2 (decide (a2≥(w64 (a1.Low+(a1.Rows.length:Int)))))
def WH (a1:Span) (a2:Span):Option Span:= bif decide ((imax a1.A a2.A)≥(imin a1.B a2.B)) then some (Span.mk 0 0) else some (Span.mk (imax a1.A a2.A) (imin a1.B a2.B))
def DB (a1:Int) (a2:qH) (a3:qH):Option Span:= (SJ a2 a1).bind λv4=> (SJ a3 a1).bind λv6=> (WH v4 v6).bind λv8=> some v8
def JW (x4:Int) (R:Int->Int->Int->(List Span)->Option (Int×Int×(List Span))) (x18:Int) (x19:Int) (l20:List Span):Option (Int×Int×(List Span)):= R x18 (w64 (x4+1)) x19 l20
def RZ (x4:Int) (l6:List Span) (R:Int->Int->Int->(List Span)->Option (Int×Int×(List Span))) (v8:Span) (x14:Int):Option (Int×Int×(List Span)):= bif room (l6.length+1) 16 then JW x4 R (((l6.length+1):Nat):Int) x14 (l6++[v8]) else none
def wI (a1:qH) (a2:qH):Nat->Int->Int->Int->(List Span)->Option (Int×Int×(List Span))
 |0,_,_,_,_=>none
 |n+1,x3,x4,x5,l6=> bif decide (x4<60) then (DB x4 a1 a2).bind λv8=> (yW v8).bind λv10=> bif !v10 then bif x3==0 then RZ x4 l6 (wI a1 a2 n) v8 x4 else RZ x4 l6 (wI a1 a2 n) v8 x5 else bif decide (x3>0) then bif room (l6.length+1) 16 then JW x4 (wI a1 a2 n) x3 x5 (l6++[(Span.mk 0 0)]) else none else JW x4 (wI a1 a2 n) x3 x5 l6 else some (x3,x5,l6)
def RL (a1:qH) (a2:qH):Option qH:= (wI a1 a2 FUEL 0 (-60) 0 []).bind λo24=> bif slOk 0 o24.1 o24.2.2.length then some (qH.mk o24.2.1 (o24.2.2.take o24.1.toNat)) else none
def GT (a1:qH) (a2:qH):Option qH:= (QR a1).bind λv3=> (QR a2).bind λv5=> (RL v3 v5).bind λv7=> some (qH.mk v7.Low v7.Rows)
def TL (a1:Scan) (a2:Int) (a3:Int):Nat->(List qH)->Int->Option (((List qN)×Int)⊕(List qH))
 |0,_,_=>none
 |n+1,l8,x9=> bif decide (x9<(a1.Rings.length:Int)) then bif inb x9 a1.Rings.length then (GA (a1.Rings.getD x9.toNat dd) a2 a3).bind λv12=> bif v12.2 !=0 then some (Sum.inl ([],30)) else bif inb x9 l8.length then (TL a1 a2 a3 n) (l8.set x9.toNat v12.1) (w64 (x9+1)) else none else none else some (Sum.inr l8)
def TH (a1:Scan) (o17:(List qH)):Nat->(List qN)->Int->Option (((List qN)×Int)⊕(List qN))
 |0,_,_=>none
 |n+1,l22,x23=> bif decide (x23<(((w64 ((a1.Rings.length:Int)-1)).toNat:Nat):Int)) then bif inb x23 o17.length then bif inb (w64 (x23+1)) o17.length then (GT (o17.getD x23.toNat dd) (o17.getD ((w64 (x23+1)).toNat) dd)).bind λv27=> bif (v27.Rows.length:Int)==0 then some (Sum.inl ([],30)) else bif inb (w64 (x23+1)) a1.Rings.length then bif inb x23 a1.Rings.length then bif inb x23 l22.length then (TH a1 o17 n) (l22.set x23.toNat (qN.mk (w64 (((a1.Rings.getD (w64 (x23+1)).toNat dd).Z)-((a1.Rings.getD x23.toNat dd).Z))) v27)) (w64 (x23+1)) else none else none else none else none else none else some (Sum.inr l22)
def HQ (a1:Scan) (a2:Int) (a3:Int):Option ((List qN)×Int):= (SI a1).bind λv4=> bif v4 !=0 then some ([],v4) else bif mkOk (a1.Rings.length:Int) 32 then (TL a1 a2 a3 FUEL (List.replicate ((a1.Rings.length:Int).toNat) (qH.mk 0 [])) 0).bind λu19=>Sum.elim (λv20=>some v20) (λo17=> bif mkOk (w64 ((a1.Rings.length:Int)-1)) 40 then (TH a1 o17 FUEL (List.replicate ((w64 ((a1.Rings.length:Int)-1)).toNat) (qN.mk 0 (qH.mk 0 []))) 0).bind λu39=>Sum.elim (λv40=>some v40) (λo37=> some (o37,0)) u39 else none) u19 else none
def wU (a1:Scan) (a2 a3 a4:Int):Option ((List qN)×(List qG)×Int):= (ZI a1 a2).bind λv1=> (HQ v1 a3 a4).bind λv2=> (QX v1.Defects).bind λv3=> bif v2.2 !=0 then some ([],[],v2.2) else some (v2.1,v3,v2.2)
def qBi (a1:List qN) (x4:Int) (x5:Int) (R:Int->Int->Option (Int⊕Unit)) (x13:Bool):Option (Int⊕Unit):= bif x13 then some (Sum.inl 9) else R (w64 (x4+((a1.getD x5.toNat dd).Len))) (w64 (x5+1))
def WF (a1:List qN):Nat->Int->Int->Option (Int⊕Unit)
 |0,_,_=>none
 |n+1,x4,x5=> bif decide (x5<(a1.length:Int)) then bif inb x5 a1.length then (XZ ((a1.getD x5.toNat dd).Sec)).bind λv8=> bif v8 !=0 then some (Sum.inl v8) else bif (((((a1.getD x5.toNat dd).Sec).Rows).length:Nat):Int)==0 then some (Sum.inl 18) else bif decide (((a1.getD x5.toNat dd).Len)<1) then qBi a1 x4 x5 (WF a1 n) true else qBi a1 x4 x5 (WF a1 n) (decide (((a1.getD x5.toNat dd).Len)>(w64 (20000-x4)))) else none else some (Sum.inr ())
def PE (a1:List qN):Option Int:= bif (a1.length:Int)==0 then some 3 else bif decide ((a1.length:Int)>24) then some 4 else (WF a1 FUEL 0 0).bind λu17=>Sum.elim (λv18=>some v18) (λo15=> some 0) u17
def PG (a1:List qN):Option (List qN):= (PE a1).bind λv2=> bif v2 !=0 then some ([]:List qN) else some a1
def EX (x6:Int) (R:Int->Span->Option Span) (x13:Span):Option Span:= R (w64 (x6+1)) x13
def yU (v2:qH):Nat->Int->Span->Option Span
 |0,_,_=>none
 |n+1,x6,x7=> bif decide (x6<(v2.Rows.length:Int)) then bif inb x6 v2.Rows.length then (yW (v2.Rows.getD x6.toNat dd)).bind λv10=> bif !v10 then EX x6 (yU v2 n) (Span.mk (imin x7.A ((v2.Rows.getD x6.toNat dd).A)) (imax x7.B ((v2.Rows.getD x6.toNat dd).B))) else EX x6 (yU v2 n) x7 else none else some x7
def VW (a1:qH):Option Rect:= (QR a1).bind λv2=> bif (v2.Rows.length:Int)==0 then some (Rect.mk (Span.mk 0 0) (Span.mk 0 0)) else bif inb 0 v2.Rows.length then (yU v2 FUEL 0 (v2.Rows.getD (0:Int).toNat dd)).bind λo15=> (XK v2.Low (w64 (v2.Low+(v2.Rows.length:Int)))).bind λv17=> some (Rect.mk o15 v17) else none
def qA6 (x4:Int) (R:Int->Rect->Option Rect) (v8:Rect) (x11:Rect):Option Rect:= R (w64 (x4+1)) (Rect.mk (Span.mk (imin x11.X.A v8.X.A) (imax x11.X.B v8.X.B)) (Span.mk (imin x11.Y.A v8.Y.A) (imax x11.Y.B v8.Y.B)))
def ZO (v2:(List qN)):Nat->Int->Rect->Option Rect
 |0,_,_=>none
 |n+1,x4,x5=> bif decide (x4<(v2.length:Int)) then bif inb x4 v2.length then (VW ((v2.getD x4.toNat dd).Sec)).bind λv8=> bif x4==0 then qA6 x4 (ZO v2 n) v8 v8 else qA6 x4 (ZO v2 n) v8 x5 else none else some x5
def MM (a1:List qN):Option Rect:= (PG a1).bind λv2=> (ZO v2 FUEL 0 (Rect.mk (Span.mk 0 0) (Span.mk 0 0))).bind λo13=> some o13
def KU (a1:List qN):Option Rect:= (MM a1).bind λv2=> some v2
def OZ (x3:Bool):Option Bool:= some x3
def TF (a1:Int):Option Bool:= bif decide (97<=a1) then OZ (decide (a1<=122)) else OZ false
def IX (x3:Bool):Option Bool:= some x3
def BX (a1:Int):Option Bool:= bif decide (48<=a1) then IX (decide (a1<=57)) else IX false
def UG (x9:Int) (R:Int->Option (Bool⊕Unit)) (x18:Bool):Option (Bool⊕Unit):= bif x18 then some (Sum.inl false) else R (w64 (x9+1))
def yZ (a1:ByteArray):Nat->Int->Option (Bool⊕Unit)
 |0,_=>none
 |n+1,x9=> bif decide (x9<(a1.size:Int)) then bif inb x9 a1.size then (TF (RW a1 x9.toNat)).bind λv12=> bif !v12 then (BX (RW a1 x9.toNat)).bind λv15=> bif !v15 then UG x9 (yZ a1 n) ((RW a1 x9.toNat) !=95) else UG x9 (yZ a1 n) false else UG x9 (yZ a1 n) false else none else some (Sum.inr ())
def TW (a1:ByteArray) (x7:Bool):Option Bool:= bif x7 then some false else (yZ a1 FUEL 1).bind λu22=>Sum.elim (λv23=>some v23) (λo20=> some true) u22
def LC (a1:ByteArray):Option Bool:= bif decide ((a1.size:Int)<1) then TW a1 true else bif decide ((a1.size:Int)>16) then TW a1 true else bif inb 0 a1.size then (TF (RW a1 ((0:Int).toNat))).bind λv5=> TW a1 (!v5) else none
def XM (a1:List qE) (a2:ByteArray):Nat->Int->Option ((Int×Bool)⊕Unit)
 |0,_=>none
 |n+1,x3=> bif decide (x3<(a1.length:Int)) then bif inb x3 a1.length then bif qLr ((a1.getD x3.toNat dd).Name) a2 then some (Sum.inl (x3,true)) else (XM a1 a2 n) (w64 (x3+1)) else none else some (Sum.inr ())
def MY (a1:List qE) (a2:ByteArray):Option (Int×Bool):= (XM a1 a2 FUEL 0).bind λu9=>Sum.elim (λv10=>some v10) (λo7=> some (0,false)) u9
def VM (x3:Bool):Option Bool:= some x3
def PV (a1:Int):Option Bool:= bif decide (a1≥1) then VM (decide (a1<=600)) else VM false
def LY (a1:Int) (a2:Int):Option Int:= some (w64 (Int.tdiv (w64 ((w64 (a1*(w64 (1000+a2))))+999)) 1000))
def YA (a1:qE) (x9:Bool):Option (Int×Int):= bif x9 then some (0,0) else (LY a1.Thick a1.Allow).bind λv11=> (LY a1.Width a1.Allow).bind λv13=> some (v11,v13)
def yL (a1:qE):Option (Int×Int):= (PV a1.Thick).bind λv2=> bif !v2 then YA a1 true else (PV a1.Width).bind λv5=> bif !v5 then YA a1 true else bif decide (a1.Allow<0) then YA a1 true else YA a1 (decide (a1.Allow>200))
def JP (x18:Int) (R:Int->Option (Int⊕Unit)) (x26:Bool):Option (Int⊕Unit):= bif x26 then some (Sum.inl 11) else R (w64 (x18+1))
def JQ (a1:qE) (x18:Int) (R:Int->Option (Int⊕Unit)) (x22:Bool):Option (Int⊕Unit):= bif x22 then some (Sum.inl 9) else bif decide (x18>0) then bif inb (w64 (x18-1)) a1.Lengths.length then JP x18 R (decide ((a1.Lengths.getD x18.toNat dd)<=(a1.Lengths.getD (w64 (x18-1)).toNat dd))) else none else JP x18 R false
def wH (a1:qE):Nat->Int->Option (Int⊕Unit)
 |0,_=>none
 |n+1,x18=> bif decide (x18<(a1.Lengths.length:Int)) then bif inb x18 a1.Lengths.length then bif decide ((a1.Lengths.getD x18.toNat dd)<100) then JQ a1 x18 (wH a1 n) true else JQ a1 x18 (wH a1 n) (decide ((a1.Lengths.getD x18.toNat dd)>20000)) else none else some (Sum.inr ())
def JO (x32:Int) (R:Int->Option (Int⊕Unit)) (x36:Bool):Option (Int⊕Unit):= bif x36 then some (Sum.inl 9) else R (w64 (x32+1))
def wW (a1:qE):Nat->Int->Option (Int⊕Unit)
 |0,_=>none
 |n+1,x32=> bif decide (x32<(a1.Prices.length:Int)) then bif inb x32 a1.Prices.length then bif decide ((a1.Prices.getD x32.toNat dd)<0) then JO x32 (wW a1 n) true else JO x32 (wW a1 n) (decide ((a1.Prices.getD x32.toNat dd)>1000000)) else none else some (Sum.inr ())
def yD (a1:qE) (x10:Bool):Option Int:= bif x10 then some 9 else (yL a1).bind λv12=> bif decide (v12.2>600) then some 9 else bif (a1.Lengths.length:Int)==0 then some 3 else bif decide ((a1.Lengths.length:Int)>8) then some 4 else bif (a1.Prices.length:Int) !=(a1.Lengths.length:Int) then some 19 else (wH a1 FUEL 0).bind λu30=>Sum.elim (λv31=>some v31) (λo28=> (wW a1 FUEL 0).bind λu40=>Sum.elim (λv41=>some v41) (λo38=> some 0) u40) u30
def yC (a1:qE) (x5:Bool):Option Int:= bif x5 then some 9 else bif decide (a1.Allow<0) then yD a1 true else bif decide (a1.Allow>200) then yD a1 true else bif decide (a1.Wane<0) then yD a1 true else yD a1 (decide (a1.Wane>1000))
def WW (a1:qE):Option Int:= bif decide (a1.Thick<5) then yC a1 true else bif decide (a1.Thick>300) then yC a1 true else bif decide (a1.Width<a1.Thick) then yC a1 true else yC a1 (decide (a1.Width>600))
def YF (a1:List qE):Nat->Int->Option (Int⊕Unit)
 |0,_=>none
 |n+1,x3=> bif decide (x3<(a1.length:Int)) then bif inb x3 a1.length then (LC ((a1.getD x3.toNat dd).Name)).bind λv6=> bif !v6 then some (Sum.inl 6) else bif slOk 0 x3 a1.length then (MY (a1.take x3.toNat) ((a1.getD x3.toNat dd).Name)).bind λv10=> bif v10.2 then some (Sum.inl 7) else (WW (a1.getD x3.toNat dd)).bind λv13=> bif v13 !=0 then some (Sum.inl v13) else (YF a1 n) (w64 (x3+1)) else none else none else some (Sum.inr ())
def ZV (a1:List qE):Option Int:= bif decide ((a1.length:Int)>16) then some 4 else (YF a1 FUEL 0).bind λu18=>Sum.elim (λv19=>some v19) (λo16=> some 0) u18
def FK (x3:Bool):Option Bool:= some x3
def GE (a1:Int):Option Bool:= bif decide (a1≥1) then FK (decide (a1<=20000)) else FK false
def qAL (x3:Bool):Option Bool:= some x3
def GH (a1:Int):Option Bool:= bif decide (a1≥0) then qAL (decide (a1<=1000000)) else qAL false
def YP (x20:Bool):Option Int:= bif x20 then some 9 else some 0
def GC (a2:Rates) (x12:Bool):Option Int:= bif x12 then some 9 else bif decide (a2.Chip<0) then YP true else bif decide (a2.Chip>1000) then YP true else bif decide (a2.Dust<0) then YP true else bif decide (a2.Dust>1000) then YP true else (GH a2.Fine).bind λv18=> YP (!v18)
def PU (a1:Saw) (a2:Rates) (x6:Bool):Option Int:= bif x6 then some 9 else bif decide (a1.Pitch<1) then GC a2 true else bif decide (a1.Pitch>2000) then GC a2 true else (GE a1.Step).bind λv10=> GC a2 (!v10)
def NR (a1:Saw) (a2:Rates):Option Int:= bif decide (a1.Kerf<0) then PU a1 a2 true else bif decide (a1.Kerf>20) then PU a1 a2 true else bif decide (a1.Trim<0) then PU a1 a2 true else PU a1 a2 (decide (a1.Trim>20))
def UO (x5:Int) (R:Int->Option (Int⊕Unit)) (x9:Bool):Option (Int⊕Unit):= bif x9 then some (Sum.inl 9) else R (w64 (x5+1))
def yA (a1:Rect):Nat->Int->Option (Int⊕Unit)
 |0,_=>none
 |n+1,x5=> bif decide (x5<4) then bif inb x5 4 then bif decide ((([a1.X.A,a1.X.B,a1.Y.A,a1.Y.B]:List Int).getD x5.toNat 0)<(-600)) then UO x5 (yA a1 n) true else UO x5 (yA a1 n) (decide ((([a1.X.A,a1.X.B,a1.Y.A,a1.Y.B]:List Int).getD x5.toNat 0)>600)) else none else some (Sum.inr ())
def UI (a1:Rect) (x3:Bool):Option Int:= bif x3 then some 19 else (yA a1 FUEL 0).bind λu13=>Sum.elim (λv14=>some v14) (λo11=> some 0) u13
def FJ (a1:Rect):Option Int:= bif decide (a1.X.A≥a1.X.B) then UI a1 true else UI a1 (decide (a1.Y.A≥a1.Y.B))
def UK (a1:List qN) (a2:List qG) (a3:List qE) (a4:Rect) (a5:Saw) (a6:Rates):Option Int:= (PE a1).bind λv7=> bif v7 !=0 then some v7 else (JD a2).bind λv10=> bif v10 !=0 then some v10 else (ZV a3).bind λv13=> bif v13 !=0 then some v13 else (NR a5 a6).bind λv16=> bif v16 !=0 then some v16 else (FJ a4).bind λv19=> some v19
def DZ (a1:List Int):Option (List Int):= bif Nat.blt a1.length 4611686018427387904 then some (WR (λx y=>decide (x<=y)) a1) else none
def VE (x12:Int) (R:(List Int)->Int->Int->Option ((List Int)×Int)) (l19:List Int) (x20:Int):Option ((List Int)×Int):= R l19 x20 (w64 (x12+1))
def wY (l3:List Int) (x4:Int):Nat->(List Int)->Int->Int->Option ((List Int)×Int)
 |0,_,_,_=>none
 |n+1,l10,x11,x12=> bif decide (x12<(((l3.length-x4.toNat):Nat):Int)) then bif inb x12 (l3.length-x4.toNat) then bif Nat.ble (x4.toNat+(l3.length-x4.toNat)) l10.length then bif inb (w64 (x12-1)) (l3.length-x4.toNat) then bif (l10.getD (x4.toNat+x12.toNat) dd) !=(l10.getD (x4.toNat+((w64 (x12-1)).toNat)) dd) then bif inb x11 l10.length then VE x12 (wY l3 x4 n) (l10.set x11.toNat (l10.getD (x4.toNat+x12.toNat) dd)) (w64 (x11+1)) else none else VE x12 (wY l3 x4 n) l10 x11 else none else none else none else some (l10,x11)
def yR :Nat->(List Int)->Int->Option (((List Int)×(List Int))⊕(List Int))
 |0,_,_=>none
 |n+1,l3,x4=> bif decide (x4<(l3.length:Int)) then bif inb x4 l3.length then bif inb (w64 (x4-1)) l3.length then bif (l3.getD x4.toNat dd)==(l3.getD ((w64 (x4-1)).toNat) dd) then bif slOk x4 (l3.length:Int) l3.length then (wY l3 x4 FUEL l3 x4 1).bind λo23=> bif slOk o23.2 (o23.1.length:Int) o23.1.length then bif slOk 0 o23.2 o23.1.length then some (Sum.inl ((o23.1.take o23.2.toNat),(o23.1.take o23.2.toNat))) else none else none else none else (yR n) l3 (w64 (x4+1)) else none else none else some (Sum.inr l3)
def JX (a1:List Int):Option ((List Int)×(List Int)):= bif decide ((a1.length:Int)<2) then some (a1,a1) else (yR FUEL a1 1).bind λu30=>Sum.elim (λv31=>some v31) (λo28=> some (o28,o28)) u30
def XO (a1:List qE):Nat->(List Int)->Int->Option (List Int)
 |0,_,_=>none
 |n+1,l5,x6=> bif decide (x6<(a1.length:Int)) then bif inb x6 a1.length then (yL (a1.getD x6.toNat dd)).bind λv9=> bif room (l5.length+2) 8 then (XO a1 n) (l5++[v9.1,v9.2]) (w64 (x6+1)) else none else none else some l5
def DE (a1:List qE):Option (List Int):= (ZV a1).bind λv2=> bif v2 !=0 then some ([]:List Int) else (XO a1 FUEL [] 0).bind λo13=> (DZ o13).bind λv15=> bif v15.length==o13.length then (JX v15).bind λv18=> some v18.2 else none
def KW (a1:Rect) (a2:Int) (a3:Int):Option Rect:= some (Rect.mk a1.X (Span.mk (w64 (a1.Y.A+a2)) (w64 (a1.Y.A+a3))))
def IE (x22:Int) (R:Int->Option (Int⊕Unit)) (x26:Bool):Option (Int⊕Unit):= bif x26 then some (Sum.inl 9) else R (w64 (x22+1))
def JM (a4:Rect):Nat->Int->Option (Int⊕Unit)
 |0,_=>none
 |n+1,x22=> bif decide (x22<4) then bif inb x22 4 then bif decide ((([a4.X.A,a4.X.B,a4.Y.A,a4.Y.B]:List Int).getD x22.toNat 0)<(-600)) then IE x22 (JM a4 n) true else IE x22 (JM a4 n) (decide ((([a4.X.A,a4.X.B,a4.Y.A,a4.Y.B]:List Int).getD x22.toNat 0)>600)) else none else some (Sum.inr ())
def IT (a4:Rect) (x20:Bool):Option Int:= bif x20 then some 19 else (JM a4 FUEL 0).bind λu30=>Sum.elim (λv31=>some v31) (λo28=> some 0) u30
def qAr (a1:List qN) (a2:List qG) (a3:List qE) (a4:Rect) (a5:Saw) (a6:Rates):Option Int:= (PE a1).bind λv7=> bif v7 !=0 then some v7 else (JD a2).bind λv10=> bif v10 !=0 then some v10 else (ZV a3).bind λv13=> bif v13 !=0 then some v13 else (NR a5 a6).bind λv16=> bif v16 !=0 then some v16 else bif decide (a4.X.A≥a4.X.B) then IT a4 true else IT a4 (decide (a4.Y.A≥a4.Y.B))
def qDu (x8:Int) (R:(List Int)->(List Int)->Int->Option ((List Int)×(List Int))) (l19:List Int) (l20:List Int):Option ((List Int)×(List Int)):= R l19 l20 (w64 (x8+1))
def BT (l7:List Int) (x8:Int) (R:(List Int)->(List Int)->Int->Option ((List Int)×(List Int))) (l17:List Int):Option ((List Int)×(List Int)):= bif room (l7.length+1) 8 then qDu x8 R l17 (l7++[x8]) else none
def yM (a1:List qE) (a2:Int):Nat->(List Int)->(List Int)->Int->Option ((List Int)×(List Int))
 |0,_,_,_=>none
 |n+1,l6,l7,x8=> bif decide (x8<(a1.length:Int)) then bif inb x8 a1.length then (yL (a1.getD x8.toNat dd)).bind λv11=> bif a2==v11.1 then bif room (l6.length+1) 8 then BT l7 x8 (yM a1 a2 n) (l6++[v11.2]) else none else bif a2==v11.2 then bif room (l6.length+1) 8 then BT l7 x8 (yM a1 a2 n) (l6++[v11.1]) else none else qDu x8 (yM a1 a2 n) l6 l7 else none else some (l6,l7)
def VA (a1:List qE) (a2:Int):Option ((List Int)×(List Int)):= (ZV a1).bind λv3=> bif v3 !=0 then some ([],[]) else (yM a1 a2 FUEL [] [] 0).bind λo23=> some (o23.1,o23.2)
def DL (a1:Rect) (a2:Int) (a3:Int):Option Rect:= some (Rect.mk (Span.mk (w64 (a1.X.A+a2)) (w64 (a1.X.A+a3))) a1.Y)
def UZ (x2:Int) (R:Int->Option (Bool⊕Unit)) (x7:Bool):Option (Bool⊕Unit):= bif x7 then some (Sum.inl false) else R (w64 (x2+1))
def yV (a1:Rect):Nat->Int->Option (Bool⊕Unit)
 |0,_=>none
 |n+1,x2=> bif decide (x2<2) then bif inb x2 2 then bif decide ((([a1.X.A,a1.X.B,a1.Y.A,a1.Y.B]:List Int).getD (x2.toNat*2+0) 0)<(-600)) then UZ x2 (yV a1 n) true else bif decide ((([a1.X.A,a1.X.B,a1.Y.A,a1.Y.B]:List Int).getD (x2.toNat*2+1) 0)>600) then UZ x2 (yV a1 n) true else UZ x2 (yV a1 n) (decide ((([a1.X.A,a1.X.B,a1.Y.A,a1.Y.B]:List Int).getD (x2.toNat*2+0) 0)≥(([a1.X.A,a1.X.B,a1.Y.A,a1.Y.B]:List Int).getD (x2.toNat*2+1) 0))) else none else some (Sum.inr ())
def MF (a1:Rect):Option Bool:= (yV a1 FUEL 0).bind λu11=>Sum.elim (λv12=>some v12) (λo9=> some true) u11
def XN (v2:(List qN)):Nat->Int->Int->Option Int
 |0,_,_=>none
 |n+1,x4,x5=> bif decide (x5<(v2.length:Int)) then bif inb x5 v2.length then (XN v2 n) (w64 (x4+((v2.getD x5.toNat dd).Len))) (w64 (x5+1)) else none else some x4
def XF (a1:List qN):Option Int:= (PG a1).bind λv2=> (XN v2 FUEL 0 0).bind λo9=> some o9
def qCD (a1:Span):Option Int:= bif decide (a1.A≥a1.B) then some 0 else some (IntKind.u64.wrap ((IntKind.u64.wrap (a1.B))-(IntKind.u64.wrap (a1.A))))
def HD (a1:Int):Option Int:= some (w64 (imin a1 9223372036854775807))
def XX (a1:Span):Option Int:= (qCD a1).bind λv2=> (HD v2).bind λv4=> some v4
def JE (a2:Rect) (v3:qH):Nat->Int->Int->Option Int
 |0,_,_=>none
 |n+1,x5,x6=> bif decide (x6<(v3.Rows.length:Int)) then bif inb x6 v3.Rows.length then (XK (w64 (v3.Low+x6)) (w64 ((w64 (v3.Low+x6))+1))).bind λv9=> (WH (v3.Rows.getD x6.toNat dd) a2.X).bind λv11=> (XX v11).bind λv13=> (WH v9 a2.Y).bind λv15=> (XX v15).bind λv17=> (JE a2 v3 n) (w64 (x5+(w64 (v13*v17)))) (w64 (x6+1)) else none else some x5
def PR (a1:qH) (a2:Rect):Option Int:= (QR a1).bind λv3=> (JE a2 v3 FUEL 0 0).bind λo20=> some o20
def PI (a1:List qN) (a2:Rect):Nat->(List qY)->Int->Int->Option (List qY)
 |0,_,_,_=>none
 |n+1,l3,x4,x5=> bif decide (x5<(a1.length:Int)) then bif inb x5 a1.length then (PR ((a1.getD x5.toNat dd).Sec) a2).bind λv8=> bif nz (w64 ((w64 (a2.X.B-a2.X.A))*(w64 (a2.Y.B-a2.Y.A)))) then bif room (l3.length+1) 24 then (PI a1 a2 n) (l3++[(qY.mk (Span.mk x4 (w64 (x4+((a1.getD x5.toNat dd).Len)))) (w64 (Int.tdiv (w64 ((w64 ((w64 (1000*(w64 ((w64 ((w64 (a2.X.B-a2.X.A))*(w64 (a2.Y.B-a2.Y.A))))-v8))))+(w64 ((w64 (a2.X.B-a2.X.A))*(w64 (a2.Y.B-a2.Y.A))))))-1)) (w64 ((w64 (a2.X.B-a2.X.A))*(w64 (a2.Y.B-a2.Y.A)))))))]) (w64 (x4+((a1.getD x5.toNat dd).Len))) (w64 (x5+1)) else none else none else none else some l3
def AP (a1:List qN) (a2:Rect):Option (List qY):= (PI a1 a2 FUEL [] 0 0).bind λo13=> some o13
def SV (a1:zF) (a2:Span):Option Box:= some (Box.mk a1.rect.X a1.rect.Y a2)
def DK (v3:Span) (v5:Span) (v7:Span) (x17:Bool):Option (Box×Bool):= bif x17 then some ((Box.mk (Span.mk 0 0) (Span.mk 0 0) (Span.mk 0 0)),false) else some ((Box.mk v3 v5 v7),true)
def qCu (a1:Box) (a2:Box):Option (Box×Bool):= (WH a1.X a2.X).bind λv3=> (WH a1.Y a2.Y).bind λv5=> (WH a1.Z a2.Z).bind λv7=> (ZB v3).bind λv9=> bif v9 then DK v3 v5 v7 true else (ZB v5).bind λv12=> bif v12 then DK v3 v5 v7 true else (ZB v7).bind λv15=> DK v3 v5 v7 v15
def PP (a1:qG) (a2:Box):Option Bool:= (qCu a1.Box a2).bind λv3=> some v3.2
def qDE (x29:Int) (R:Int->(List qG)->Option (List qG)) (l37:List qG):Option (List qG):= R (w64 (x29+1)) l37
def JH (a2:List qG) (v27:Box):Nat->Int->(List qG)->Option (List qG)
 |0,_,_=>none
 |n+1,x29,l30=> bif decide (x29<(a2.length:Int)) then bif inb x29 a2.length then (PP (a2.getD x29.toNat dd) v27).bind λv33=> bif v33 then bif room (l30.length+1) 56 then qDE x29 (JH a2 v27 n) (l30++[(a2.getD x29.toNat dd)]) else none else qDE x29 (JH a2 v27 n) l30 else none else some l30
def BZ (a1:List qN) (a2:List qG) (a3:qE) (a4:Rect) (x21:Bool):Option (zF×Bool):= bif x21 then some ((zF.mk (qE.mk (ByteArray.mk #[]) 0 0 0 0 [] []) (Rect.mk (Span.mk 0 0) (Span.mk 0 0)) 0 [] []),false) else (XF a1).bind λv23=> (AP a1 a4).bind λv25=> (SV (zF.mk a3 a4 v23 v25 []) (Span.mk 0 v23)).bind λv27=> (JH a2 v27 FUEL 0 []).bind λo39=> some ((zF.mk a3 a4 v23 v25 o39),true)
def TG (a1:List qN) (a2:List qG) (a3:qE) (a4:Rect) (x16:Bool):Option (zF×Bool):= bif x16 then some ((zF.mk (qE.mk (ByteArray.mk #[]) 0 0 0 0 [] []) (Rect.mk (Span.mk 0 0) (Span.mk 0 0)) 0 [] []),false) else (yL a3).bind λv18=> bif !(((w64 (a4.X.B-a4.X.A))==v18.1)&&(((w64 (a4.Y.B-a4.Y.A))==v18.2)&&true)) then BZ a1 a2 a3 a4 (!(((w64 (a4.X.B-a4.X.A))==v18.2)&&(((w64 (a4.Y.B-a4.Y.A))==v18.1)&&true))) else BZ a1 a2 a3 a4 false
def qAJ (a1:List qN) (a2:List qG) (a3:qE) (a4:Rect):Option (zF×Bool):= (PE a1).bind λv5=> bif v5 !=0 then TG a1 a2 a3 a4 true else (JD a2).bind λv8=> bif v8 !=0 then TG a1 a2 a3 a4 true else (ZV [a3]).bind λv11=> bif v11 !=0 then TG a1 a2 a3 a4 true else (MF a4).bind λv14=> TG a1 a2 a3 a4 (!v14)
def VJ (x5:Bool):Option Bool:= some x5
def SQ (a1:Span) (a2:Int):Option Bool:= bif decide (a1.A≥0) then bif decide (a1.A<a1.B) then VJ (decide (a1.B<=a2)) else VJ false else VJ false
def YL (a1:qE) (a2:Int):Nat->Int->Option ((Int×Bool)⊕Unit)
 |0,_=>none
 |n+1,x3=> bif decide (x3<(a1.Lengths.length:Int)) then bif inb x3 a1.Lengths.length then bif (a1.Lengths.getD x3.toNat dd) !=a2 then (YL a1 a2 n) (w64 (x3+1)) else bif decide (x3≥(a1.Prices.length:Int)) then some (Sum.inl (0,false)) else bif inb x3 a1.Prices.length then some (Sum.inl ((a1.Prices.getD x3.toNat dd),true)) else none else none else some (Sum.inr ())
def NC (a1:qE) (a2:Int):Option (Int×Bool):= (YL a1 a2 FUEL 0).bind λu11=>Sum.elim (λv12=>some v12) (λo9=> some (0,false)) u11
def qB4 (x4:Int) (R:Int->Int->Option Int) (x10:Int):Option Int:= R x10 (w64 (x4+1))
def qBl (a1:List qY) (x3:Int) (x4:Int) (R:Int->Int->Option Int) (x8:Bool):Option Int:= bif x8 then qB4 x4 R (imax x3 ((a1.getD x4.toNat dd).lack)) else qB4 x4 R x3
def QU (a1:List qY) (a2:Span):Nat->Int->Int->Option Int
 |0,_,_=>none
 |n+1,x3,x4=> bif decide (x4<(a1.length:Int)) then bif inb x4 a1.length then bif decide ((((a1.getD x4.toNat dd).z).A)<a2.B) then qBl a1 x3 x4 (QU a1 a2 n) (decide (a2.A<(((a1.getD x4.toNat dd).z).B))) else qBl a1 x3 x4 (QU a1 a2 n) false else none else some x3
def AH (a1:List qY) (a2:Span):Option Int:= (QU a1 a2 FUEL 0 0).bind λo12=> some o12
def NZ (x17:Int) (R:Int->Int->Option ((Int×Bool)⊕Int)) (x24:Int):Option ((Int×Bool)⊕Int):= R x24 (w64 (x17+1))
def jO (a1:zF) (a3:Int) (v14:Box):Nat->Int->Int->Option ((Int×Bool)⊕Int)
 |0,_,_=>none
 |n+1,x16,x17=> bif decide (x17<(a1.defects.length:Int)) then bif inb x17 a1.defects.length then (PP (a1.defects.getD x17.toNat dd) v14).bind λv20=> bif !v20 then NZ x17 (jO a1 a3 v14 n) x16 else bif ((a1.defects.getD x17.toNat dd).Kind)==3 then some (Sum.inl (0,false)) else NZ x17 (jO a1 a3 v14 n) (w64 (x16-a3)) else none else some (Sum.inr x16)
def RX (a1:zF) (a2:Span) (a3:Int) (v7:Int×Bool) (x12:Bool):Option (Int×Bool):= bif x12 then some (0,false) else (SV a1 a2).bind λv14=> (jO a1 a3 v14 FUEL v7.1 0).bind λu28=>Sum.elim (λv29=>some v29) (λo26=> some (imax o26 0,true)) u28
def RK (a1:zF) (a2:Span) (a3:Int):Option (Int×Bool):= (SQ a2 a1.length).bind λv4=> bif !v4 then some (0,false) else (NC a1.product (w64 (a2.B-a2.A))).bind λv7=> bif !v7.2 then RX a1 a2 a3 v7 true else (AH a1.zones a2).bind λv10=> RX a1 a2 a3 v7 (decide (v10>a1.product.Wane))
def qDk (x24:Int) (R:Int->Bool->Int->Span->Option (Int×Bool×Span)) (x34:Int) (x35:Bool) (x36:Span):Option (Int×Bool×Span):= R x34 x35 (w64 (x24+1)) x36
def TD (a3:qE) (x19:Int) (x22:Int) (x23:Bool) (x24:Int) (x25:Span) (R:Int->Bool->Int->Span->Option (Int×Bool×Span)) (v28:Int×Bool) (x32:Bool):Option (Int×Bool×Span):= bif x32 then qDk x24 R v28.1 true (Span.mk x19 (w64 (x19+(a3.Lengths.getD x24.toNat dd)))) else qDk x24 R x22 x23 x25
def yP (a3:qE) (a6:Int) (v14:zF×Bool) (x19:Int):Nat->Int->Bool->Int->Span->Option (Int×Bool×Span)
 |0,_,_,_,_=>none
 |n+1,x22,x23,x24,x25=> bif decide (x24<(a3.Lengths.length:Int)) then bif inb x24 a3.Lengths.length then (RK (zF.mk v14.1.product v14.1.rect v14.1.length v14.1.zones v14.1.defects) (Span.mk x19 (w64 (x19+(a3.Lengths.getD x24.toNat dd)))) a6).bind λv28=> bif v28.2 then bif !x23 then TD a3 x19 x22 x23 x24 x25 (yP a3 a6 v14 x19 n) v28 true else TD a3 x19 x22 x23 x24 x25 (yP a3 a6 v14 x19 n) v28 (decide (v28.1>x22)) else TD a3 x19 x22 x23 x24 x25 (yP a3 a6 v14 x19 n) v28 false else none else some (x22,x23,x25)
def TE (a3:qE) (a5:Int) (a6:Int) (v14:zF×Bool):Nat->Int->Bool->Int->Span->Option (Int×Bool×Span)
 |0,_,_,_,_=>none
 |n+1,x17,x18,x19,x20=> bif decide (x19<v14.1.length) then (yP a3 a6 v14 x19 FUEL x17 x18 0 x20).bind λo40=> (TE a3 a5 a6 v14 n) o40.1 o40.2.1 (w64 (x19+a5)) o40.2.2 else some (x17,x18,x20)
def IH (a1:List qN) (a2:List qG) (a3:qE) (a4:Rect) (a5:Int) (a6:Int) (x12:Bool):Option (Span×Int×Bool):= bif x12 then some ((Span.mk 0 0),0,false) else (qAJ a1 a2 a3 a4).bind λv14=> bif !v14.2 then some ((Span.mk 0 0),0,false) else (TE a3 a5 a6 v14 FUEL 0 false 0 (Span.mk 0 0)).bind λo45=> some (o45.2.2,o45.1,o45.2.1)
def qAq (a1:List qN) (a2:List qG) (a3:qE) (a4:Rect) (a5:Int) (a6:Int):Option (Span×Int×Bool):= (GE a5).bind λv7=> bif !v7 then IH a1 a2 a3 a4 a5 a6 true else (GH a6).bind λv10=> IH a1 a2 a3 a4 a5 a6 (!v10)
def YH (a1:List qN):Nat->(List Span)->Int->Int->Option (List Span)
 |0,_,_,_=>none
 |n+1,l3,x4,x5=> bif decide (x5<(a1.length:Int)) then bif inb x5 a1.length then bif inb x5 l3.length then (YH a1 n) (l3.set x5.toNat (Span.mk x4 (w64 (x4+((a1.getD x5.toNat dd).Len))))) (w64 (x4+((a1.getD x5.toNat dd).Len))) (w64 (x5+1)) else none else none else some l3
def ND (a1:List qN):Option (List Span):= bif mkOk (a1.length:Int) 16 then (YH a1 FUEL (List.replicate ((a1.length:Int).toNat) (Span.mk 0 0)) 0 0).bind λo10=> some o10 else none
def qAT (x8:Int) (R:Int->Int->Option Int) (x19:Int):Option Int:= R x19 (w64 (x8+1))
def ZN (a2:Box) (v3:(List qN)) (v5:(List Span)):Nat->Int->Int->Option Int
 |0,_,_=>none
 |n+1,x7,x8=> bif decide (x8<(v5.length:Int)) then bif inb x8 v5.length then (WH (v5.getD x8.toNat dd) a2.Z).bind λv11=> (XX v11).bind λv13=> bif decide (v13>0) then bif inb x8 v3.length then (PR ((v3.getD x8.toNat dd).Sec) (Rect.mk a2.X a2.Y)).bind λv17=> qAT x8 (ZN a2 v3 v5 n) (w64 (x7+(w64 (v13*v17)))) else none else qAT x8 (ZN a2 v3 v5 n) x7 else none else some x7
def GD (a1:List qN) (a2:Box):Option Int:= (PG a1).bind λv3=> (ND v3).bind λv5=> (ZN a2 v3 v5 FUEL 0 0).bind λo21=> some o21
def PC (a1:List qN) (a2:Rect) (a3:Span):Option Int:= (GD a1 (Box.mk a2.X a2.Y a3)).bind λv4=> some v4
def qCN (a1:List qN) (a2:List qG) (a3:qE) (a4:Rect) (a5:Saw) (a6:Rates):Option Int:= (qAq a1 a2 a3 a4 a5.Step a6.Fine).bind λv7=> bif !v7.2.2 then some (-1) else (XF a1).bind λv10=> (PC a1 a4 (Span.mk 0 v10)).bind λv12=> (PC a1 a4 v7.1).bind λv14=> (PC a1 a4 (Span.mk (imax 0 (w64 (v7.1.A-a5.Trim))) v7.1.A)).bind λv16=> (PC a1 a4 (Span.mk v7.1.B (imin (w64 (v7.1.B+a5.Trim)) v10))).bind λv18=> some (w64 ((w64 ((w64 (1000000*v7.2.1))+(w64 (a6.Dust*(w64 (v16+v18))))))+(w64 (a6.Chip*(w64 ((w64 (v12-v14))-(w64 (v16+v18))))))))
def HE (l16:List Int) (x17:Int) (R:(List Int)->Int->Option (List Int)) (x27:Int):Option (List Int):= bif room (l16.length+1) 8 then R (l16++[x27]) (w64 (x17+1)) else none
def WP (a1:List qN) (a2:List qG) (a3:List qE) (a4:Rect) (a5:Saw) (a6:Rates) (v10:(List Int)×(List Int)) (x12:Int):Nat->(List Int)->Int->Option (List Int)
 |0,_,_=>none
 |n+1,l16,x17=> bif decide ((w64 (x17+(v10.1.getD x12.toNat dd)))<=(w64 (a4.X.B-a4.X.A))) then bif nz a5.Pitch then bif (Int.tmod x17 a5.Pitch)==0 then bif inb x12 v10.2.length then bif inb (v10.2.getD x12.toNat dd) a3.length then (DL a4 x17 (w64 (x17+(v10.1.getD x12.toNat dd)))).bind λv23=> (qCN a1 a2 (a3.getD (v10.2.getD x12.toNat dd).toNat dd) v23 a5 a6).bind λv25=> HE l16 x17 (WP a1 a2 a3 a4 a5 a6 v10 x12 n) v25 else none else none else HE l16 x17 (WP a1 a2 a3 a4 a5 a6 v10 x12 n) (-1) else none else some l16
def GS (a1:List qN) (a2:List qG) (a3:List qE) (a4:Rect) (a5:Saw) (a6:Rates) (v10:(List Int)×(List Int)):Nat->Int->(List (List Int))->Option (List (List Int))
 |0,_,_=>none
 |n+1,x12,l13=> bif decide (x12<(v10.1.length:Int)) then bif inb x12 v10.1.length then (WP a1 a2 a3 a4 a5 a6 v10 x12 FUEL [] 0).bind λo30=> bif room (l13.length+1) 24 then (GS a1 a2 a3 a4 a5 a6 v10 n) (w64 (x12+1)) (l13++[o30]) else none else none else some l13
def VP (a1:List qN) (a4:Rect) (a6:Rates) (v36:Int):Nat->Int->(List Int)->(List Int)->Option ((List Int)×(List Int))
 |0,_,_,_=>none
 |n+1,x38,l39,l40=> bif decide (x38<(w64 (a4.X.B-a4.X.A))) then (DL a4 x38 (w64 (x38+1))).bind λv42=> (PC a1 v42 (Span.mk 0 v36)).bind λv44=> bif room (l39.length+1) 8 then bif room (l40.length+1) 8 then (VP a1 a4 a6 v36 n) (w64 (x38+1)) (l39++[w64 (a6.Chip*v44)]) (l40++[w64 (a6.Dust*v44)]) else none else none else some (l39,l40)
def CN (a1:List qN) (a2:List qG) (a3:List qE) (a4:Rect) (a5:Saw) (a6:Rates):Option (Line×Int):= (qAr a1 a2 a3 a4 a5 a6).bind λv7=> bif v7 !=0 then some ((Line.mk 0 0 0 [] [] [] []),v7) else (VA a3 (w64 (a4.Y.B-a4.Y.A))).bind λv10=> (GS a1 a2 a3 a4 a5 a6 v10 FUEL 0 []).bind λo34=> (XF a1).bind λv36=> (VP a1 a4 a6 v36 FUEL 0 [] []).bind λo50=> some ((Line.mk (w64 (a4.X.B-a4.X.A)) a5.Kerf 1 v10.1 o34 o50.1 o50.2),0)
def RU (x10:Int) (R:Int->Option (Int⊕Unit)) (x14:Bool):Option (Int⊕Unit):= bif x14 then some (Sum.inl 9) else R (w64 (x10+1))
def jN (a1:Line):Nat->Int->Option (Int⊕Unit)
 |0,_=>none
 |n+1,x10=> bif decide (x10<(a1.Sizes.length:Int)) then bif inb x10 a1.Sizes.length then bif decide ((a1.Sizes.getD x10.toNat dd)<1) then RU x10 (jN a1 n) true else RU x10 (jN a1 n) (decide ((a1.Sizes.getD x10.toNat dd)>2000)) else none else some (Sum.inr ())
def jM (a1:Line) (x7:Bool):Option Int:= bif x7 then some 9 else bif decide ((a1.Sizes.length:Int)>32) then some 4 else (jN a1 FUEL 0).bind λu18=>Sum.elim (λv19=>some v19) (λo16=> some 0) u18
def RH (a1:Line):Option Int:= bif decide (a1.Len<0) then jM a1 true else bif decide (a1.Len>2000) then jM a1 true else bif decide (a1.Kerf<0) then jM a1 true else bif decide (a1.Kerf>20) then jM a1 true else bif decide (a1.Pitch<1) then jM a1 true else jM a1 (decide (a1.Pitch>2000))
def qB1 (a1:Line) (a2:Int):Option Int:= some (imax 0 (w64 ((w64 (a1.Len-a2))+1)))
def DT (x5:Int) (R:Int->Option (Bool⊕Unit)) (x9:Bool):Option (Bool⊕Unit):= bif x9 then some (Sum.inl false) else R (w64 (x5+1))
def QM (a1:List (List Int)) (x2:Int):Nat->Int->Option (Bool⊕Unit)
 |0,_=>none
 |n+1,x5=> bif decide (x5<((a1.getD x2.toNat dd).length:Int)) then bif inb x5 ((a1.getD x2.toNat dd).length) then bif decide (((a1.getD x2.toNat dd).getD x5.toNat dd)<(-1125899906842624)) then DT x5 (QM a1 x2 n) true else DT x5 (QM a1 x2 n) (decide (((a1.getD x2.toNat dd).getD x5.toNat dd)>1125899906842624)) else none else some (Sum.inr ())
def YS (a1:List (List Int)):Nat->Int->Option (Bool⊕Unit)
 |0,_=>none
 |n+1,x2=> bif decide (x2<(a1.length:Int)) then bif inb x2 a1.length then (QM a1 x2 FUEL 0).bind λu13=>Sum.elim (λv14=>some (Sum.inl v14)) (λo11=> (YS a1 n) (w64 (x2+1))) u13 else none else some (Sum.inr ())
def TK (a1:List (List Int)):Option Bool:= (YS a1 FUEL 0).bind λu17=>Sum.elim (λv18=>some v18) (λo15=> some true) u17
def YR (a1:Line):Nat->Int->Option (Int⊕Unit)
 |0,_=>none
 |n+1,x9=> bif decide (x9<(a1.Gain.length:Int)) then bif inb x9 a1.Gain.length then bif inb x9 a1.Sizes.length then (qB1 a1 (a1.Sizes.getD x9.toNat dd)).bind λv13=> bif ((a1.Gain.getD x9.toNat dd).length:Int) !=v13 then some (Sum.inl 19) else (YR a1 n) (w64 (x9+1)) else none else none else some (Sum.inr ())
def OR (x25:Bool):Option Int:= bif x25 then some 9 else some 0
def RS (a1:Line) (x7:Bool):Option Int:= bif x7 then some 19 else (YR a1 FUEL 0).bind λu18=>Sum.elim (λv19=>some v19) (λo16=> (TK a1.Gain).bind λv20=> bif !v20 then OR true else (TK [a1.Chip,a1.Dust]).bind λv23=> OR (!v23)) u18
def NN (a1:Line):Option Int:= (RH a1).bind λv2=> bif v2 !=0 then some v2 else bif (a1.Gain.length:Int) !=(a1.Sizes.length:Int) then RS a1 true else bif (a1.Chip.length:Int) !=a1.Len then RS a1 true else RS a1 ((a1.Dust.length:Int) !=a1.Len)
def XV (a1:List Int):Nat->(List Int)->Int->Option (List Int)
 |0,_,_=>none
 |n+1,l3,x4=> bif decide (x4<(a1.length:Int)) then bif inb x4 a1.length then bif inb x4 l3.length then bif inb (w64 (x4+1)) l3.length then (XV a1 n) (l3.set ((w64 (x4+1)).toNat) (w64 ((l3.getD x4.toNat dd)+(a1.getD x4.toNat dd)))) (w64 (x4+1)) else none else none else none else some l3
def GF (a1:List Int):Option (List Int):= bif mkOk (w64 ((a1.length:Int)+1)) 8 then (XV a1 FUEL (List.replicate ((w64 ((a1.length:Int)+1)).toNat) 0) 0).bind λo10=> some o10 else none
def PW (a1:Line) (a2:Int):Option Int:= bif a2==a1.Len then some (-1) else some (imin (w64 (a2+a1.Kerf)) a1.Len)
def BC (x5:Int) (R:Int->qB->Option qB) (x26:qB):Option qB:= R (w64 (x5+1)) x26
def BE (x5:Int) (x6:qB) (R:Int->qB->Option qB) (x22:qB) (x24:Bool):Option qB:= bif x24 then BC x5 R x22 else BC x5 R x6
def RD (x5:Int) (x6:qB) (R:Int->qB->Option qB) (x22:qB):Option qB:= bif ((x6.piece.Size==(-1))&&((x6.piece.At==(-1))&&true)) then BE x5 x6 R x22 true else BE x5 x6 R x22 (decide (x22.value>x6.value))
def BG (a1:Line) (a2:Int) (a3:List Int) (a4:List qB) (x5:Int) (x6:qB) (R:Int->qB->Option qB) (x12:Bool):Option qB:= bif x12 then BC x5 R x6 else bif inb x5 a1.Gain.length then bif inb a2 ((a1.Gain.getD x5.toNat dd).length) then (PW a1 (w64 (a2+(a1.Sizes.getD x5.toNat dd)))).bind λv16=> bif decide (v16≥0) then bif inb v16 a3.length then bif inb (w64 (a2+(a1.Sizes.getD x5.toNat dd))) a3.length then bif inb v16 a4.length then RD x5 x6 R (qB.mk (zR.mk x5 a2) (w64 (((a1.Gain.getD x5.toNat dd).getD a2.toNat dd)+(w64 ((w64 ((a3.getD v16.toNat dd)-(a3.getD (w64 (a2+(a1.Sizes.getD x5.toNat dd))).toNat dd)))+((a4.getD v16.toNat dd).value)))))) else none else none else none else RD x5 x6 R (qB.mk (zR.mk x5 a2) ((a1.Gain.getD x5.toNat dd).getD a2.toNat dd))
 else none else none
def wV (a1:Line) (a2:Int) (a3:List Int) (a4:List qB):Nat->Int->qB->Option qB
 |0,_,_=>none
 |n+1,x5,x6=> bif decide (x5<(a1.Sizes.length:Int)) then bif inb x5 a1.Sizes.length then bif decide ((w64 (a2+(a1.Sizes.getD x5.toNat dd)))>a1.Len) then BG a1 a2 a3 a4 x5 x6 (wV a1 a2 a3 a4 n) true else bif inb x5 a1.Gain.length then bif inb a2 ((a1.Gain.getD x5.toNat dd).length) then BG a1 a2 a3 a4 x5 x6 (wV a1 a2 a3 a4 n) (decide (((a1.Gain.getD x5.toNat dd).getD a2.toNat dd)<0)) else none else none else none else some x6
def BU (a1:Line) (a2:Int) (a3:List Int) (a4:List qB):Option qB:= (wV a1 a2 a3 a4 FUEL 0 (qB.mk (zR.mk (-1) (-1)) 0)).bind λo28=> some o28
def YY (a1:Line) (x20:Int) (R:Int->qB->Option qB) (x31:qB):Option qB:= R (w64 (x20+a1.Pitch)) x31
def UC (a1:Line) (v2:(List Int)) (v4:(List Int)) (l8:List qB) (x9:Int) (v11:qB) (x20:Int) (x21:qB) (R:Int->qB->Option qB) (x29:Bool):Option qB:= bif x29 then YY a1 x20 R (qB.mk (((l8.set x9.toNat v11).getD x20.toNat dd).piece) (w64 ((((l8.set x9.toNat v11).getD x20.toNat dd).value)+(w64 ((w64 ((w64 ((v2.getD ((w64 (x20-a1.Kerf)).toNat) dd)-(v2.getD x9.toNat dd)))+(v4.getD x20.toNat dd)))-(v4.getD ((w64 (x20-a1.Kerf)).toNat) dd)))))) else YY a1 x20 R x21
def wR (a1:Line) (v2:(List Int)) (v4:(List Int)) (l8:List qB) (x9:Int) (v11:qB):Nat->Int->qB->Option qB
 |0,_,_=>none
 |n+1,x20,x21=> bif decide (x20<=a1.Len) then bif inb x20 l8.length then bif inb (w64 (x20-a1.Kerf)) v2.length then bif inb x9 v2.length then bif inb x20 v4.length then bif inb (w64 (x20-a1.Kerf)) v4.length then bif !((((((l8.set x9.toNat v11).getD x20.toNat dd).piece).Size)==(-1))&&((((((l8.set x9.toNat v11).getD x20.toNat dd).piece).At)==(-1))&&true)) then UC a1 v2 v4 l8 x9 v11 x20 x21 (wR a1 v2 v4 l8 x9 v11 n) (decide ((w64 ((((l8.set x9.toNat v11).getD x20.toNat dd).value)+(w64 ((w64 ((w64 ((v2.getD ((w64 (x20-a1.Kerf)).toNat) dd)-(v2.getD x9.toNat dd)))+(v4.getD x20.toNat dd)))-(v4.getD ((w64 (x20-a1.Kerf)).toNat) dd)))))>x21.value)) else UC a1 v2 v4 l8 x9 v11 x20 x21 (wR a1 v2 v4 l8 x9 v11 n) false
 else none else none else none else none else none else some x21
def XG (a1:Line) (v2:(List Int)) (v4:(List Int)) (l7:List qB) (l8:List qB) (x9:Int) (R:(List qB)->(List qB)->Int->Option (List qB)) (v11:qB) (x19:qB):Option (List qB):= (wR a1 v2 v4 l8 x9 v11 FUEL (w64 ((w64 (x9+a1.Pitch))+a1.Kerf)) x19).bind λo33=> bif inb x9 l7.length then R (l7.set x9.toNat o33) (l8.set x9.toNat v11) (w64 (x9-1)) else none
def UQ (a1:Line) (v2:(List Int)) (v4:(List Int)) (l7:List qB) (l8:List qB) (x9:Int) (R:(List qB)->(List qB)->Int->Option (List qB)) (v11:qB) (x17:Bool):Option (List qB):= bif x17 then XG a1 v2 v4 l7 l8 x9 R v11 ((l8.set x9.toNat v11).getD x9.toNat dd) else XG a1 v2 v4 l7 l8 x9 R v11 (qB.mk (zR.mk (-1) (-1)) (w64 ((v2.getD a1.Len.toNat dd)-(v2.getD x9.toNat dd))))
def jA (a1:Line) (v2:(List Int)) (v4:(List Int)):Nat->(List qB)->(List qB)->Int->Option (List qB)
 |0,_,_,_=>none
 |n+1,l7,l8,x9=> bif decide (x9≥0) then (BU a1 x9 v4 l7).bind λv11=> bif inb x9 l8.length then bif inb a1.Len v2.length then bif inb x9 v2.length then bif !((((((l8.set x9.toNat v11).getD x9.toNat dd).piece).Size)==(-1))&&((((((l8.set x9.toNat v11).getD x9.toNat dd).piece).At)==(-1))&&true)) then UQ a1 v2 v4 l7 l8 x9 (jA a1 v2 v4 n) v11 (decide ((((l8.set x9.toNat v11).getD x9.toNat dd).value)>(w64 ((v2.getD a1.Len.toNat dd)-(v2.getD x9.toNat dd))))) else UQ a1 v2 v4 l7 l8 x9 (jA a1 v2 v4 n) v11 false else none else none else none else some l7
def UR (a1:Line):Option (List qB):= (GF a1.Chip).bind λv2=> (GF a1.Dust).bind λv4=> bif mkOk (w64 (a1.Len+1)) 24 then (jA a1 v2 v4 FUEL (List.replicate ((w64 (a1.Len+1)).toNat) (qB.mk (zR.mk 0 0) 0)) (List.replicate ((w64 (a1.Len+1)).toNat) (qB.mk (zR.mk 0 0) 0)) a1.Len).bind λo37=> some o37 else none
def XW (a1:Line) (v5:(List qB)):Nat->(List zR)->Int->Option (List zR)
 |0,_,_=>none
 |n+1,l7,x8=> bif decide (x8≥0) then bif inb x8 v5.length then bif (((((v5.getD x8.toNat dd).piece).Size)==(-1))&&(((((v5.getD x8.toNat dd).piece).At)==(-1))&&true)) then some l7 else bif room (l7.length+1) 16 then bif inb (((v5.getD x8.toNat dd).piece).Size) a1.Sizes.length then (PW a1 (w64 ((((v5.getD x8.toNat dd).piece).At)+(a1.Sizes.getD (((v5.getD x8.toNat dd).piece).Size).toNat dd)))).bind λv14=> (XW a1 v5 n) (l7++[(v5.getD x8.toNat dd).piece]) v14 else none else none else none else some l7
def jV (a1:Line):Option ((List zR)×Int×Int):= (NN a1).bind λv2=> bif v2 !=0 then some ([],0,v2) else (UR a1).bind λv5=> (XW a1 v5 FUEL [] 0).bind λo17=> bif inb 0 v5.length then some (o17,(v5.getD ((0:Int).toNat) dd).value,0) else none
def UF (a1:List Node):Option (List Node):= bif room a1.length 16 then some a1 else none
def FO (a1:List (List Node)) (a2:List Node):Option ((List (List Node))×(List (List Node))):= (UF a2).bind λv3=> bif room (a1.length+1) 24 then some ((a1++[v3]),(a1++[v3])) else none
def OO (x3:Bool):Option Bool:= some x3
def KG (a1:Int):Option Bool:= bif a1==2 then OO true else OO (a1==3)
def QO (x2:Int) (R:Int->Option (Bool⊕Unit)) (x7:Bool):Option (Bool⊕Unit):= bif x7 then some (Sum.inl false) else R (w64 (x2+1))
def zQ (a1:Rect):Nat->Int->Option (Bool⊕Unit)
 |0,_=>none
 |n+1,x2=> bif decide (x2<2) then bif inb x2 2 then bif decide ((([a1.X.A,a1.X.B,a1.Y.A,a1.Y.B]:List Int).getD (x2.toNat*2+0) 0)<(-600)) then QO x2 (zQ a1 n) true else bif decide ((([a1.X.A,a1.X.B,a1.Y.A,a1.Y.B]:List Int).getD (x2.toNat*2+1) 0)>600) then QO x2 (zQ a1 n) true else QO x2 (zQ a1 n) (decide ((([a1.X.A,a1.X.B,a1.Y.A,a1.Y.B]:List Int).getD (x2.toNat*2+0) 0)≥(([a1.X.A,a1.X.B,a1.Y.A,a1.Y.B]:List Int).getD (x2.toNat*2+1) 0))) else none else some (Sum.inr ())
def ZP (a1:Rect):Option Bool:= (zQ a1 FUEL 0).bind λu11=>Sum.elim (λv12=>some v12) (λo9=> some true) u11
def KN (a1:Rect) (a2:Int):Option Span:= bif a2==2 then some a1.X else some a1.Y
def QI (a1:List Node) (a2:Int) (a3:List Node):Option (Int×(List Node)):= bif decide ((w64 (a2+(a1.length:Int)))<=127) then bif room (a3.length+a1.length) 16 then some (w64 (a2+(a1.length:Int)),(a3++a1)) else none else some (w64 (a2+(a1.length:Int)),a3)
def VU (a5:List (List Node)) (x21:Int) (R:Int->Bool->Int->(List Node)->Int->Option (((List Node)×Int)⊕(Bool×(List Node)×Int))) (x40:Int) (x41:Bool) (l42:List Node) (x43:Int):Option (((List Node)×Int)⊕(Bool×(List Node)×Int)):= bif inb x21 a5.length then (QI (a5.getD x21.toNat dd) x43 l42).bind λv45=> R x40 x41 (w64 (x21+1)) v45.2 v45.1 else none
def VX (a2:Int) (a3:Int) (a4:List Span) (a5:List (List Node)) (v17:Span) (x19:Int) (x20:Bool) (x21:Int) (R:Int->Bool->Int->(List Node)->Int->Option (((List Node)×Int)⊕(Bool×(List Node)×Int))) (l35:List Node) (x36:Int):Option (((List Node)×Int)⊕(Bool×(List Node)×Int)):= bif decide (((a4.getD x21.toNat dd).B)<v17.B) then (QI [(Node.mk a2 ((a4.getD x21.toNat dd).B))] x36 l35).bind λv38=> VU a5 x21 R (imin (w64 (((a4.getD x21.toNat dd).B)+a3)) v17.B) x20 v38.2 v38.1 else VU a5 x21 R x19 true l35 x36
def YC (a2:Int) (a3:Int) (a4:List Span) (a5:List (List Node)) (v17:Span) (x19:Int) (x20:Bool) (x21:Int) (l22:List Node) (x23:Int) (R:Int->Bool->Int->(List Node)->Int->Option (((List Node)×Int)⊕(Bool×(List Node)×Int))) (x29:Bool):Option (((List Node)×Int)⊕(Bool×(List Node)×Int)):= bif x29 then some (Sum.inl ([],11)) else bif decide (((a4.getD x21.toNat dd).B)>v17.B) then some (Sum.inl ([],20)) else bif decide (((a4.getD x21.toNat dd).A)>x19) then (QI [(Node.mk a2 (w64 (((a4.getD x21.toNat dd).A)-a3))),(Node.mk 0 0)] x23 l22).bind λv33=> VX a2 a3 a4 a5 v17 x19 x20 x21 R v33.2 v33.1 else VX a2 a3 a4 a5 v17 x19 x20 x21 R l22 x23
def wT (a2:Int) (a3:Int) (a4:List Span) (a5:List (List Node)) (v17:Span):Nat->Int->Bool->Int->(List Node)->Int->Option (((List Node)×Int)⊕(Bool×(List Node)×Int))
 |0,_,_,_,_,_=>none
 |n+1,x19,x20,x21,l22,x23=> bif decide (x21<(a4.length:Int)) then bif inb x21 a4.length then bif decide (((a4.getD x21.toNat dd).A)≥((a4.getD x21.toNat dd).B)) then some (Sum.inl ([],19)) else bif x20 then YC a2 a3 a4 a5 v17 x19 x20 x21 l22 x23 (wT a2 a3 a4 a5 v17 n) true else bif ((a4.getD x21.toNat dd).A) !=x19 then YC a2 a3 a4 a5 v17 x19 x20 x21 l22 x23 (wT a2 a3 a4 a5 v17 n) (decide (((a4.getD x21.toNat dd).A)<(w64 ((w64 (x19+a3))+1)))) else YC a2 a3 a4 a5 v17 x19 x20 x21 l22 x23 (wT a2 a3 a4 a5 v17 n) false else none else some (Sum.inr (x20,l22,x23))
def SM (x57:Int) (l58:List Node):Option ((List Node)×Int):= bif decide (x57>127) then some ([],4) else some (l58,0)
def HS (a1:Rect) (a2:Int) (a3:Int) (a4:List Span) (a5:List (List Node)) (x15:Bool):Option ((List Node)×Int):= bif x15 then some ([],9) else (KN a1 a2).bind λv17=> (wT a2 a3 a4 a5 v17 FUEL v17.A false 0 [] 0).bind λu52=>Sum.elim (λv53=>some v53) (λo50=> bif !o50.1 then (QI [(Node.mk 0 0)] o50.2.2 o50.2.1).bind λv55=> SM v55.1 v55.2 else SM o50.2.2 o50.2.1) u52
def SG (a1:Rect) (a2:Int) (a3:Int) (a4:List Span) (a5:List (List Node)) (x12:Bool):Option ((List Node)×Int):= bif x12 then some ([],19) else bif decide (a3<0) then HS a1 a2 a3 a4 a5 true else HS a1 a2 a3 a4 a5 (decide (a3>20))
def WL (a1:Rect) (a2:Int) (a3:Int) (a4:List Span) (a5:List (List Node)):Option ((List Node)×Int):= (KG a2).bind λv6=> bif !v6 then some ([],10) else (ZP a1).bind λv9=> bif !v9 then SG a1 a2 a3 a4 a5 true else SG a1 a2 a3 a4 a5 ((a4.length:Int) !=(a5.length:Int))
def RC (a4:Rect) (v10:(List zR)×Int×Int) (v13:(List Int)×(List Int)):Nat->(List Span)->(List (List Node))->Int->Option ((List Span)×(List (List Node)))
 |0,_,_,_=>none
 |n+1,l15,l16,x17=> bif decide (x17<(v10.1.length:Int)) then bif inb x17 v10.1.length then bif inb ((v10.1.getD x17.toNat dd).Size) v13.1.length then (DL a4 ((v10.1.getD x17.toNat dd).At) (w64 (((v10.1.getD x17.toNat dd).At)+(v13.1.getD (((v10.1.getD x17.toNat dd).Size).toNat) dd)))).bind λv21=> bif room (l15.length+1) 16 then bif inb ((v10.1.getD x17.toNat dd).Size) v13.2.length then (FO l16 [(Node.mk 1 (v13.2.getD (((v10.1.getD x17.toNat dd).Size).toNat) dd))]).bind λv25=> (RC a4 v10 v13 n) (l15++[v21.X]) v25.2 (w64 (x17+1)) else none else none else none else none else some (l15,l16)
def wZ (a1:List qN) (a2:List qG) (a3:List qE) (a4:Rect) (a5:Saw) (a6:Rates):Option ((List Node)×Int×Int):= (CN a1 a2 a3 a4 a5 a6).bind λv7=> bif v7.2 !=0 then some ([],0,v7.2) else (jV (Line.mk v7.1.Len v7.1.Kerf v7.1.Pitch v7.1.Sizes v7.1.Gain v7.1.Chip v7.1.Dust)).bind λv10=> bif v10.2.2 !=0 then some ([],0,v10.2.2) else (VA a3 (w64 (a4.Y.B-a4.Y.A))).bind λv13=> (RC a4 v10 v13 FUEL [] [] 0).bind λo29=> (WL a4 2 a5.Kerf o29.1 o29.2).bind λv31=> bif v31.2 !=0 then some ([],0,v31.2) else some (v31.1,v10.2.1,0)
def qAj (a1:Node):Option Bool:= some (a1.Kind==1)
def jJ (a1:List Node):Nat->Int->Option (Int⊕Unit)
 |0,_=>none
 |n+1,x2=> bif decide (x2<(a1.length:Int)) then bif inb x2 a1.length then (qAj (a1.getD x2.toNat dd)).bind λv5=> bif v5 then some (Sum.inl x2) else (jJ a1 n) (w64 (x2+1)) else none else some (Sum.inr ())
def YV (a1:List Node):Option Int:= (jJ a1 FUEL 0).bind λu10=>Sum.elim (λv11=>some v11) (λo8=> some (-1)) u10
def WI (a1:List Node):Option Bool:= (YV a1).bind λv2=> some (decide (v2≥0))
def TI (a1:List Node):Option Bool:= (WI a1).bind λv2=> some v2
def PD (a1:List qN) (a2:Rect):Option Int:= (XF a1).bind λv3=> (GD a1 (Box.mk a2.X a2.Y (Span.mk 0 v3))).bind λv5=> some v5
def XB (l14:List Int) (l15:List (List Node)) (x16:Int) (R:(List Int)->(List (List Node))->Int->Option ((List Int)×(List (List Node)))) (x30:Int) (l31:List Node):Option ((List Int)×(List (List Node))):= bif room (l14.length+1) 8 then bif room (l15.length+1) 24 then R (l14++[x30]) (l15++[l31]) (w64 (x16+1)) else none else none
def MX (l14:List Int) (l15:List (List Node)) (x16:Int) (R:(List Int)->(List (List Node))->Int->Option ((List Int)×(List (List Node)))) (v22:(List Node)×Int×Int) (x27:Bool):Option ((List Int)×(List (List Node))):= bif x27 then XB l14 l15 x16 R v22.2.1 v22.1 else XB l14 l15 x16 R (-1) ([]:List Node)
def zN (a1:List qN) (a2:List qG) (a3:List qE) (a4:Rect) (a5:Saw) (a6:Rates) (v7:(List Int)) (x10:Int):Nat->(List Int)->(List (List Node))->Int->Option ((List Int)×(List (List Node)))
 |0,_,_,_=>none
 |n+1,l14,l15,x16=> bif decide ((w64 (x16+(v7.getD x10.toNat dd)))<=(w64 (a4.Y.B-a4.Y.A))) then bif nz a5.Pitch then bif (Int.tmod x16 a5.Pitch)==0 then (KW a4 x16 (w64 (x16+(v7.getD x10.toNat dd)))).bind λv20=> (wZ a1 a2 a3 v20 a5 a6).bind λv22=> bif v22.2.2==0 then (TI v22.1).bind λv25=> MX l14 l15 x16 (zN a1 a2 a3 a4 a5 a6 v7 x10 n) v22 v25 else MX l14 l15 x16 (zN a1 a2 a3 a4 a5 a6 v7 x10 n) v22 false else XB l14 l15 x16 (zN a1 a2 a3 a4 a5 a6 v7 x10 n) (-1) ([]:List Node) else none else some (l14,l15)
def yK (a1:List qN) (a2:List qG) (a3:List qE) (a4:Rect) (a5:Saw) (a6:Rates) (v7:(List Int)):Nat->(List (List (List Node)))->Int->(List (List Int))->Option ((List (List (List Node)))×(List (List Int)))
 |0,_,_,_=>none
 |n+1,l9,x10,l11=> bif decide (x10<(v7.length:Int)) then bif inb x10 v7.length then (zN a1 a2 a3 a4 a5 a6 v7 x10 FUEL [] [] 0).bind λo36=> bif room (l11.length+1) 24 then bif room (l9.length+1) 24 then (yK a1 a2 a3 a4 a5 a6 v7 n) (l9++[o36.2]) (w64 (x10+1)) (l11++[o36.1]) else none else none else none else some (l9,l11)
def RQ (a1:List qN) (a4:Rect) (a6:Rates):Nat->Int->(List Int)->(List Int)->Option ((List Int)×(List Int))
 |0,_,_,_=>none
 |n+1,x44,l45,l46=> bif decide (x44<(w64 (a4.Y.B-a4.Y.A))) then (KW a4 x44 (w64 (x44+1))).bind λv48=> (PD a1 v48).bind λv50=> bif room (l45.length+1) 8 then bif room (l46.length+1) 8 then (RQ a1 a4 a6 n) (w64 (x44+1)) (l45++[w64 (a6.Chip*v50)]) (l46++[w64 (a6.Dust*v50)]) else none else none else some (l45,l46)
def PB (a1:List qN) (a2:List qG) (a3:List qE) (a4:Rect) (a5:Saw) (a6:Rates):Option (Line×(List (List (List Node)))):= (DE a3).bind λv7=> (yK a1 a2 a3 a4 a5 a6 v7 FUEL [] 0 []).bind λo42=> (RQ a1 a4 a6 FUEL 0 [] []).bind λo56=> some ((Line.mk (w64 (a4.Y.B-a4.Y.A)) a5.Kerf 1 v7 o42.2 o56.1 o56.2),o42.1)
def FM (a1:List Node) (a2:List (List Node)):Option ((List (List Node))×(List (List Node))):= bif room (a2.length+1) 24 then some ((a2++[a1]),(a2++[a1])) else none
def XQ (v2:qH):Nat->Int->Int->Option Int
 |0,_,_=>none
 |n+1,x4,x5=> bif decide (x5<(v2.Rows.length:Int)) then bif inb x5 v2.Rows.length then (XX (v2.Rows.getD x5.toNat dd)).bind λv8=> (XQ v2 n) (w64 (x4+v8)) (w64 (x5+1)) else none else some x4
def MG (a1:qH):Option Int:= (QR a1).bind λv2=> (XQ v2 FUEL 0 0).bind λo11=> some (w64 (10*o11))
def XT (v2:(List qN)):Nat->Int->Int->Option Int
 |0,_,_=>none
 |n+1,x4,x5=> bif decide (x5<(v2.length:Int)) then bif inb x5 v2.length then (MG ((v2.getD x5.toNat dd).Sec)).bind λv8=> (XT v2 n) (w64 (x4+(w64 (((v2.getD x5.toNat dd).Len)*v8)))) (w64 (x5+1)) else none else some x4
def XC (a1:List qN):Option Int:= (PG a1).bind λv2=> (XT v2 FUEL 0 0).bind λo11=> some o11
def JC (a4:Rect) (v10:Line×(List (List (List Node)))) (v12:(List zR)×Int×Int):Nat->(List Span)->(List (List Node))->Int->Option ((List Span)×(List (List Node)))
 |0,_,_,_=>none
 |n+1,l15,l16,x17=> bif decide (x17<(v12.1.length:Int)) then bif inb x17 v12.1.length then bif inb ((v12.1.getD x17.toNat dd).Size) v10.1.Sizes.length then (KW a4 ((v12.1.getD x17.toNat dd).At) (w64 (((v12.1.getD x17.toNat dd).At)+(v10.1.Sizes.getD (((v12.1.getD x17.toNat dd).Size).toNat) dd)))).bind λv21=> bif room (l15.length+1) 16 then bif inb ((v12.1.getD x17.toNat dd).Size) v10.2.length then bif inb ((v12.1.getD x17.toNat dd).At) ((v10.2.getD (((v12.1.getD x17.toNat dd).Size).toNat) dd).length) then (FM ((v10.2.getD (((v12.1.getD x17.toNat dd).Size).toNat) dd).getD ((v12.1.getD x17.toNat dd).At).toNat dd) l16).bind λv26=> (JC a4 v10 v12 n) (l15++[v21.Y]) v26.2 (w64 (x17+1)) else none else none
 else none else none else none else some (l15,l16)
def JI (a1:List qN) (a2:List qG) (a3:List qE) (a4:Rect) (a5:Saw) (a6:Rates):Option (Pattern×Int×Int):= (UK a1 a2 a3 a4 a5 a6).bind λv7=> bif v7 !=0 then some ((Pattern.mk (Rect.mk (Span.mk 0 0) (Span.mk 0 0)) []),0,v7) else (PB a1 a2 a3 a4 a5 a6).bind λv10=> (jV (Line.mk v10.1.Len v10.1.Kerf v10.1.Pitch v10.1.Sizes v10.1.Gain v10.1.Chip v10.1.Dust)).bind λv12=> bif v12.2.2 !=0 then some ((Pattern.mk (Rect.mk (Span.mk 0 0) (Span.mk 0 0)) []),0,v12.2.2) else (JC a4 v10 v12 FUEL [] [] 0).bind λo30=> (WL a4 3 a5.Kerf o30.1 o30.2).bind λv32=> bif v32.2 !=0 then some ((Pattern.mk (Rect.mk (Span.mk 0 0) (Span.mk 0 0)) []),0,13) else (XC a1).bind λv35=> (PD a1 a4).bind λv37=> some ((Pattern.mk a4 v32.1),w64 (v12.2.1+(w64 (a6.Chip*(w64 (v35-v37))))),0)
def jU (a1:Scan) (a2:List qE) (a3:Saw) (a4:Rates) (a5:Int) (a6:Int):Nat->(List qI)->Int->Option (((List qI)×Int)⊕(List qI))
 |0,_,_=>none
 |n+1,l7,x8=> bif decide (x8<4) then (wU a1 x8 a5 a6).bind λv10=> bif v10.2.2 !=0 then some (Sum.inl ([],v10.2.2)) else (KU v10.1).bind λv13=> (JI v10.1 v10.2.1 a2 v13 a3 a4).bind λv15=> bif v15.2.2 !=0 then some (Sum.inl ([],v15.2.2)) else bif room (l7.length+1) 72 then (jU a1 a2 a3 a4 a5 a6 n) (l7++[(qI.mk x8 v15.1 v15.2.1)]) (w64 (x8+1)) else none else some (Sum.inr l7)
def QH (a1:Scan) (a2:List qE) (a3:Saw) (a4:Rates) (a5:Int) (a6:Int):Option ((List qI)×Int):= (jU a1 a2 a3 a4 a5 a6 FUEL [] 0).bind λu22=>Sum.elim (λv23=>some v23) (λo20=> some (o20,0)) u22
def qDs (x12:Int) (R:Int->qI->Option (Int×Int×Int×Int×Int×(List Node)×Int)) (x18:Int) (x19:Int) (x20:Int) (x21:Int) (x22:Int) (l23:List Node) (x24:Int):Option (Int×Int×Int×Int×Int×(List Node)×Int):= R (w64 (x12+1)) (qI.mk x18 (Pattern.mk (Rect.mk (Span.mk x19 x20) (Span.mk x21 x22)) l23) x24)
def JN (v7:(List qI)×Int):Nat->Int->qI->Option (Int×Int×Int×Int×Int×(List Node)×Int)
 |0,_,_=>none
 |n+1,x12,x13=> bif decide (x12<(((v7.1.length-(1:Int).toNat):Nat):Int)) then bif inb x12 (v7.1.length-(1:Int).toNat) then bif Nat.ble (((1:Int).toNat)+(v7.1.length-(1:Int).toNat)) v7.1.length then bif decide (((v7.1.getD (((1:Int).toNat)+x12.toNat) dd).Value)>x13.Value) then qDs x12 (JN v7 n) ((v7.1.getD (((1:Int).toNat)+x12.toNat) dd).Quarters) (((((v7.1.getD (((1:Int).toNat)+x12.toNat) dd).Pattern).Frame).X).A) (((((v7.1.getD (((1:Int).toNat)+x12.toNat) dd).Pattern).Frame).X).B) (((((v7.1.getD (((1:Int).toNat)+x12.toNat) dd).Pattern).Frame).Y).A) (((((v7.1.getD (((1:Int).toNat)+x12.toNat) dd).Pattern).Frame).Y).B) (((v7.1.getD (((1:Int).toNat)+x12.toNat) dd).Pattern).Nodes) ((v7.1.getD (((1:Int).toNat)+x12.toNat) dd).Value)
 else qDs x12 (JN v7 n) x13.Quarters x13.Pattern.Frame.X.A x13.Pattern.Frame.X.B x13.Pattern.Frame.Y.A x13.Pattern.Frame.Y.B x13.Pattern.Nodes x13.Value else none else none else some (x13.Quarters,x13.Pattern.Frame.X.A,x13.Pattern.Frame.X.B,x13.Pattern.Frame.Y.A,x13.Pattern.Frame.Y.B,x13.Pattern.Nodes,x13.Value)
def yY (a1:Scan) (a2:List qE) (a3:Saw) (a4:Rates) (a5:Int) (a6:Int):Option (qI×Int):= (QH a1 a2 a3 a4 a5 a6).bind λv7=> bif v7.2 !=0 then some ((qI.mk 0 (Pattern.mk (Rect.mk (Span.mk 0 0) (Span.mk 0 0)) []) 0),v7.2) else bif inb 0 v7.1.length then bif slOk 1 (v7.1.length:Int) v7.1.length then (JN v7 FUEL 0 (v7.1.getD ((0:Int).toNat) dd)).bind λo32=> some ((qI.mk o32.1 (Pattern.mk (Rect.mk (Span.mk o32.2.1 o32.2.2.1) (Span.mk o32.2.2.2.1 o32.2.2.2.2.1)) o32.2.2.2.2.2.1) o32.2.2.2.2.2.2),0) else none else none
def qBD (x24:Int) (R:Int->Option (Bool⊕Unit)) (x28:Bool):Option (Bool⊕Unit):= bif x28 then some (Sum.inl false) else R (w64 (x24+1))
def GO (v11:(List qI)×Int):Nat->Int->Option (Bool⊕Unit)
 |0,_=>none
 |n+1,x24=> bif decide (x24<(v11.1.length:Int)) then bif inb x24 v11.1.length then bif ((v11.1.getD x24.toNat dd).Quarters) !=x24 then qBD x24 (GO v11 n) true else qBD x24 (GO v11 n) (((v11.1.getD x24.toNat dd).Value) !=80000000) else none else some (Sum.inr ())
def jF (x46:Bool):Option Bool:= some x46
def YQ (v3:(List qN)×(List qG)×Int) (v11:(List qI)×Int) (v17:qI×Int) (v19:qI×Int) (x22:Bool):Option Bool:= bif x22 then some false else (GO v11 FUEL 0).bind λu32=>Sum.elim (λv33=>some v33) (λo30=> bif v3.2.2==0 then bif (v3.2.1.length:Int)==0 then bif inb 0 v3.1.length then bif ((v3.1.getD (0:Int).toNat dd).Len)==3000 then bif (((v3.1.getD (0:Int).toNat dd).Sec).Low)==(-6) then bif (((((v3.1.getD (0:Int).toNat dd).Sec).Rows).length:Nat):Int)==12 then bif inb 0 ((((v3.1.getD (0:Int).toNat dd).Sec).Rows).length) then bif (((((((v3.1.getD (0:Int).toNat dd).Sec).Rows).getD (0:Int).toNat dd).A)==(-30))&&(((((((v3.1.getD (0:Int).toNat dd).Sec).Rows).getD (0:Int).toNat dd).B)==30)&&true)) then bif v11.2==0 then
 bif v17.2==0 then bif v17.1.Quarters==0 then bif v17.1.Value==80000000 then jF (v19.2==3) else jF false else jF false else jF false else jF false else jF false else none else jF false else jF false else jF false else none else jF false else jF false) u32
def QS :Option Bool:= (DY).bind λv1=> (wU v1 1 200 2).bind λv3=> (DY).bind λv9=> (QH v9 ([(qE.mk (ByteArray.mk #[112,108,97,110,107]) 50 100 0 0 [3000] [80])]:List qE) (Saw.mk 4 0 10 1000) (Rates.mk 0 0 0) 200 2).bind λv11=> (DY).bind λv15=> (yY v15 ([(qE.mk (ByteArray.mk #[112,108,97,110,107]) 50 100 0 0 [3000] [80])]:List qE) (Saw.mk 4 0 10 1000) (Rates.mk 0 0 0) 200 2).bind λv17=> (yY (Scan.mk [] []) ([(qE.mk (ByteArray.mk #[112,108,97,110,107]) 50 100 0 0 [3000] [80])]:List qE) (Saw.mk 4 0 10 1000) (Rates.mk 0 0 0) 200 2).bind λv19=> bif (v3.1.length:Int) !=1 then YQ v3 v11 v17 v19 true else YQ v3 v11 v17 v19 ((v11.1.length:Int) !=4)
def WN (x2:Int) (R:Int->Option (Bool⊕Unit)) (x8:Bool):Option (Bool⊕Unit):= bif x8 then some (Sum.inl false) else R (w64 (x2+1))
def jC (a1:List qA):Nat->Int->Option (Bool⊕Unit)
 |0,_=>none
 |n+1,x2=> bif decide (x2<(a1.length:Int)) then bif inb x2 a1.length then bif decide (((a1.getD x2.toNat dd).X)<(-600)) then WN x2 (jC a1 n) true else bif decide (((a1.getD x2.toNat dd).X)>600) then WN x2 (jC a1 n) true else bif decide (((a1.getD x2.toNat dd).Y)<(-600)) then WN x2 (jC a1 n) true else WN x2 (jC a1 n) (decide (((a1.getD x2.toNat dd).Y)>600)) else none else some (Sum.inr ())
def ZT (a1:List qA):Option Bool:= (jC a1 FUEL 0).bind λu12=>Sum.elim (λv13=>some v13) (λo10=> some true) u12
def HR (x7:Int) (R:Int->Option (Int⊕Unit)) (x16:Bool):Option (Int⊕Unit):= bif x16 then some (Sum.inl 19) else R (w64 (x7+1))
def SH (a1:Ring) (x7:Int) (R:Int->Option (Int⊕Unit)) (x13:Bool):Option (Int⊕Unit):= bif x13 then some (Sum.inl 9) else bif !((a1.Read.getD x7.toNat dd).Ok) then HR x7 R (!(((((a1.Read.getD x7.toNat dd).P).X)==0)&&(((((a1.Read.getD x7.toNat dd).P).Y)==0)&&true))) else HR x7 R false
def ZD (a1:Ring):Nat->Int->Option (Int⊕Unit)
 |0,_=>none
 |n+1,x7=> bif decide (x7<(a1.Read.length:Int)) then bif inb x7 a1.Read.length then bif (a1.Read.getD x7.toNat dd).Ok then (ZT [(a1.Read.getD x7.toNat dd).P]).bind λv11=> SH a1 x7 (ZD a1 n) (!v11) else SH a1 x7 (ZD a1 n) false else none else some (Sum.inr ())
def SW (a1:Ring) (x5:Bool):Option Int:= bif x5 then some 9 else (ZD a1 FUEL 0).bind λu20=>Sum.elim (λv21=>some v21) (λo18=> some 0) u20
def VF (a1:Ring):Option Int:= bif decide ((a1.Read.length:Int)<8) then some 3 else bif decide ((a1.Read.length:Int)>32) then some 4 else bif decide (a1.Z<0) then SW a1 true else SW a1 (decide (a1.Z>20000))
def GR (x4:Bool):Option Bool:= some x4
def AN (a1:Box):Option Bool:= bif decide (a1.X.A≥a1.X.B) then GR true else bif decide (a1.Y.A≥a1.Y.B) then GR true else GR (decide (a1.Z.A≥a1.Z.B))
def qCv (x5:Bool):Option Bool:= some x5
def OT (a1:Span) (a2:Int) (a3:Int):Option Bool:= bif decide (a2<=a1.A) then qCv (decide (a1.B<=a3)) else qCv false
def TU (x10:Bool):Option Bool:= some x10
def LL (a1:Box):Option Bool:= (OT a1.X (-600) 600).bind λv2=> bif v2 then (OT a1.Y (-600) 600).bind λv5=> bif v5 then (OT a1.Z 0 20000).bind λv8=> TU v8 else TU false else TU false
def SB (a1:List qG) (x3:Int) (R:Int->Option (Int⊕Unit)) (x7:Bool):Option (Int⊕Unit):= bif x7 then some (Sum.inl 10) else bif inb x3 a1.length then (AN ((a1.getD x3.toNat dd).Box)).bind λv10=> bif v10 then some (Sum.inl 19) else (LL ((a1.getD x3.toNat dd).Box)).bind λv13=> bif !v13 then some (Sum.inl 9) else R (w64 (x3+1)) else none
def QZ (a1:List qG):Nat->Int->Option (Int⊕Unit)
 |0,_=>none
 |n+1,x3=> bif decide (x3<(a1.length:Int)) then bif inb x3 a1.length then bif decide (((a1.getD x3.toNat dd).Kind)<1) then SB a1 x3 (QZ a1 n) true else SB a1 x3 (QZ a1 n) (decide (((a1.getD x3.toNat dd).Kind)>6)) else none else some (Sum.inr ())
def NO (a1:List qG):Option Int:= bif decide ((a1.length:Int)>64) then some 4 else (QZ a1 FUEL 0).bind λu18=>Sum.elim (λv19=>some v19) (λo16=> some 0) u18
def JZ (a1:Scan) (x5:Int) (R:Int->Int->Option (Int⊕Int)) (x15:Bool):Option (Int⊕Int):= bif x15 then some (Sum.inl 11) else bif inb 0 a1.Rings.length then bif ((((a1.Rings.getD x5.toNat dd).Read).length:Nat):Int) !=((((a1.Rings.getD (0:Int).toNat dd).Read).length:Nat):Int) then some (Sum.inl 19) else R ((a1.Rings.getD x5.toNat dd).Z) (w64 (x5+1)) else none
def wM (a1:Scan):Nat->Int->Int->Option (Int⊕Int)
 |0,_,_=>none
 |n+1,x4,x5=> bif decide (x5<(a1.Rings.length:Int)) then bif inb x5 a1.Rings.length then (VF (a1.Rings.getD x5.toNat dd)).bind λv8=> bif v8 !=0 then some (Sum.inl v8) else bif x5==0 then bif ((a1.Rings.getD x5.toNat dd).Z) !=0 then JZ a1 x5 (wM a1 n) true else bif decide (x5>0) then JZ a1 x5 (wM a1 n) (decide (((a1.Rings.getD x5.toNat dd).Z)<=x4)) else JZ a1 x5 (wM a1 n) false else bif decide (x5>0) then JZ a1 x5 (wM a1 n) (decide (((a1.Rings.getD x5.toNat dd).Z)<=x4)) else JZ a1 x5 (wM a1 n) false else none else some (Sum.inr x4)
def PL (a1:Scan) (o20:Int):Nat->Int->Option (Int⊕Unit)
 |0,_=>none
 |n+1,x27=> bif decide (x27<(a1.Defects.length:Int)) then bif inb x27 a1.Defects.length then bif decide (((((a1.Defects.getD x27.toNat dd).Box).Z).B)>o20) then some (Sum.inl 9) else (PL a1 o20 n) (w64 (x27+1)) else none else some (Sum.inr ())
def AM (a1:Scan):Option Int:= bif decide ((a1.Rings.length:Int)<2) then some 3 else bif decide ((a1.Rings.length:Int)>24) then some 4 else (wM a1 FUEL 0 0).bind λu22=>Sum.elim (λv23=>some v23) (λo20=> (NO a1.Defects).bind λv24=> bif v24 !=0 then some v24 else (PL a1 o20 FUEL 0).bind λu33=>Sum.elim (λv34=>some v34) (λo31=> some 0) u33) u22
def qFq (a1:Ring):Option Ring:= bif room (0+a1.Read.length) 24 then some (Ring.mk a1.Z (([]:List qO)++a1.Read)) else none
def qBS (a1:Int):Option Int:= some (Int.tmod (w64 ((Int.tmod a1 4)+4)) 4)
def qS3 (a1:Box):Option Box:= some (Box.mk (Span.mk (w64 (0-a1.Y.B)) (w64 (0-a1.Y.A))) a1.X a1.Z)
def JL (a1:List qG) (a2:Int) (x7:Int):Nat->Int->Int->Int->Int->Int->Int->Int->Option qG
 |0,_,_,_,_,_,_,_=>none
 |n+1,x10,x11,x12,x13,x14,x15,x16=> (qBS a2).bind λv17=> bif decide (x10<v17) then (qS3 (Box.mk (Span.mk x11 x12) (Span.mk x13 x14) (Span.mk x15 x16))).bind λv20=> (JL a1 a2 x7 n) (w64 (x10+1)) v20.X.A v20.X.B v20.Y.A v20.Y.B v20.Z.A v20.Z.B else some (qG.mk ((a1.getD x7.toNat dd).Kind) (Box.mk (Span.mk x11 x12) (Span.mk x13 x14) (Span.mk x15 x16)))
def KC (a1:List qG) (a2:Int):Nat->(List qG)->Int->Option (List qG)
 |0,_,_=>none
 |n+1,l6,x7=> bif decide (x7<(a1.length:Int)) then bif inb x7 a1.length then (JL a1 a2 x7 FUEL 0 ((((a1.getD x7.toNat dd).Box).X).A) ((((a1.getD x7.toNat dd).Box).X).B) ((((a1.getD x7.toNat dd).Box).Y).A) ((((a1.getD x7.toNat dd).Box).Y).B) ((((a1.getD x7.toNat dd).Box).Z).A) ((((a1.getD x7.toNat dd).Box).Z).B)).bind λo23=> bif room (l6.length+1) 56 then (KC a1 a2 n) (l6++[o23]) (w64 (x7+1)) else none else none else some l6
def qOE (a1:List qG) (a2:Int):Option (List qG):= (NO a1).bind λv3=> bif v3 !=0 then some ([]:List qG) else (KC a1 a2 FUEL [] 0).bind λo27=> some o27
def qDl (x8:Int) (R:Int->Option Int) (x12:Bool):Option Int:= bif x12 then R (w64 (x8+1)) else some x8
def QP (a1:Ring) (x4:Int):Nat->Int->Option Int
 |0,_=>none
 |n+1,x8=> bif decide (x8<(a1.Read.length:Int)) then bif nz (a1.Read.length:Int) then bif inb (Int.tmod (w64 (x4+x8)) (a1.Read.length:Int)) a1.Read.length then qDl x8 (QP a1 x4 n) (!((a1.Read.getD (Int.tmod (w64 (x4+x8)) (a1.Read.length:Int)).toNat dd).Ok)) else none else none else qDl x8 (QP a1 x4 n) false
def qDB (x4:Int) (R:Int->Int->Int->Option (Int×Int)) (x17:Int) (x18:Int):Option (Int×Int):= R x17 x18 (w64 (x4+1))
def TP (a1:Ring):Nat->Int->Int->Int->Option (Int×Int)
 |0,_,_,_=>none
 |n+1,x2,x3,x4=> bif decide (x4<(a1.Read.length:Int)) then bif inb x4 a1.Read.length then bif (a1.Read.getD x4.toNat dd).Ok then qDB x4 (TP a1 n) x2 x3 else (QP a1 x4 FUEL 0).bind λo15=> qDB x4 (TP a1 n) (w64 (x2+1)) (imax x3 o15) else none else some (x2,x3)
def qAm (a1:Ring):Option (Int×Int):= (TP a1 FUEL 0 0 0).bind λo21=> some (o21.1,o21.2)
def TN (a1:List qO) (a3:Int):Nat->Int->Option Int
 |0,_=>none
 |n+1,x5=> bif inb x5 a1.length then bif !((a1.getD x5.toNat dd).Ok) then bif nz (a1.length:Int) then (TN a1 a3 n) (Int.tmod (w64 ((w64 (x5+a3))+(a1.length:Int))) (a1.length:Int)) else none else some x5 else none
def YW (a1:List qO) (a2:Int) (a3:Int):Option Int:= bif nz (a1.length:Int) then (TN a1 a3 FUEL (Int.tmod (w64 ((w64 (a2+a3))+(a1.length:Int))) (a1.length:Int))).bind λo10=> some o10 else none
def GX (x7:Bool):Option Bool:= some x7
def qCn (a1:qA) (a2:qA) (a3:Int):Option Bool:= bif decide ((w64 (a1.X-a2.X))>a3) then GX true else bif decide ((w64 (a2.X-a1.X))>a3) then GX true else bif decide ((w64 (a1.Y-a2.Y))>a3) then GX true else GX (decide ((w64 (a2.Y-a1.Y))>a3))
def HV (x13:Int) (R:Int->(List qO)->Option (List qO)) (l32:List qO):Option (List qO):= R (w64 (x13+1)) l32
def qBN (x13:Int) (l14:List qO) (R:Int->(List qO)->Option (List qO)) (x29:Bool):Option (List qO):= bif x29 then bif inb x13 l14.length then HV x13 R (l14.set x13.toNat (qO.mk (qA.mk 0 0) false)) else none else HV x13 R l14
def YN (a1:Ring) (a2:Int):Nat->Int->(List qO)->Option (List qO)
 |0,_,_=>none
 |n+1,x13,l14=> bif decide (x13<(a1.Read.length:Int)) then bif inb x13 a1.Read.length then bif !((a1.Read.getD x13.toNat dd).Ok) then HV x13 (YN a1 a2 n) l14 else (YW a1.Read x13 (-1)).bind λv18=> bif inb v18 a1.Read.length then (YW a1.Read x13 1).bind λv21=> bif inb v21 a1.Read.length then (qCn ((a1.Read.getD x13.toNat dd).P) ((a1.Read.getD v18.toNat dd).P) a2).bind λv24=> bif v24 then (qCn ((a1.Read.getD x13.toNat dd).P) ((a1.Read.getD v21.toNat dd).P) a2).bind λv27=> qBN x13 l14 (YN a1 a2 n) v27 else qBN x13 l14 (YN a1 a2 n) false else none else none else none else some l14
def SN (a1:Ring) (a2:Int) (v5:Ring) (x11:Bool):Option Ring:= bif x11 then some (Ring.mk v5.Z v5.Read) else (YN a1 a2 FUEL 0 v5.Read).bind λo34=> some (Ring.mk v5.Z o34)
def qHf (a1:Ring) (a2:Int):Option Ring:= (qAm a1).bind λv3=> (qFq a1).bind λv5=> bif decide (a2<0) then SN a1 a2 v5 true else bif decide ((w64 ((a1.Read.length:Int)-v3.1))<2) then SN a1 a2 v5 true else (VF a1).bind λv9=> SN a1 a2 v5 (v9 !=0)
def qBf (x5:Int):Option Int:= some x5
def qCz (a1:Int) (a2:Int):Option Int:= bif nz a2 then bif decide ((w64 ((w64 (Int.tdiv a1 a2))*a2))>a1) then qBf (w64 ((w64 (Int.tdiv a1 a2))-1)) else qBf (w64 (Int.tdiv a1 a2)) else none
def qA3 (x13:Int) (R:(List qA)->Int->Option (List qA)) (l30:List qA):Option (List qA):= R l30 (w64 (x13+1))
def WV (a1:Ring):Nat->(List qA)->Int->Option (List qA)
 |0,_,_=>none
 |n+1,l12,x13=> bif decide (x13<(a1.Read.length:Int)) then bif inb x13 a1.Read.length then bif (a1.Read.getD x13.toNat dd).Ok then bif room (l12.length+1) 16 then qA3 x13 (WV a1 n) (l12++[(a1.Read.getD x13.toNat dd).P]) else none else (YW a1.Read x13 (-1)).bind λv18=> (YW a1.Read x13 1).bind λv20=> bif nz (a1.Read.length:Int) then bif inb v18 a1.Read.length then bif inb v20 a1.Read.length then (qCz (w64 ((w64 ((((a1.Read.getD v20.toNat dd).P).X)-(((a1.Read.getD v18.toNat dd).P).X)))*(Int.tmod (w64 ((w64 (x13-v18))+(a1.Read.length:Int))) (a1.Read.length:Int)))) (Int.tmod (w64 ((w64 (v20-v18))+(a1.Read.length:Int))) (a1.Read.length:Int))).bind λv25=> (qCz (w64 ((w64 ((((a1.Read.getD v20.toNat dd).P).Y)-(((a1.Read.getD v18.toNat dd).P).Y)))*(Int.tmod (w64 ((w64 (x13-v18))+(a1.Read.length:Int))) (a1.Read.length:Int)))) (Int.tmod (w64 ((w64 (v20-v18))+(a1.Read.length:Int))) (a1.Read.length:Int))).bind λv27=>
 bif room (l12.length+1) 16 then qA3 x13 (WV a1 n) (l12++[(qA.mk (w64 ((((a1.Read.getD v18.toNat dd).P).X)+v25)) (w64 ((((a1.Read.getD v18.toNat dd).P).Y)+v27)))]) else none else none else none else none else none else some l12
def FH (a1:Ring) (x10:Bool):Option ((List qA)×Int):= bif x10 then some ([],30) else (WV a1 FUEL [] 0).bind λo32=> some (o32,0)
def qE4 (a1:Ring) (a2:Int):Option ((List qA)×Int):= (VF a1).bind λv3=> bif v3 !=0 then some ([],v3) else (qAm a1).bind λv6=> bif decide ((w64 ((a1.Read.length:Int)-v6.1))<3) then FH a1 true else bif decide (v6.1>0) then FH a1 (decide (v6.2>a2)) else FH a1 false
def GY (a1:List qA):Nat->Int->Int->Option Int
 |0,_,_=>none
 |n+1,x7,x8=> bif decide (x8<(a1.length:Int)) then bif nz (a1.length:Int) then bif inb (Int.tmod (w64 (x8+1)) (a1.length:Int)) a1.length then bif inb x8 a1.length then (GY a1 n) (w64 ((w64 (x7+(w64 (((a1.getD x8.toNat dd).X)*((a1.getD (Int.tmod (w64 (x8+1)) (a1.length:Int)).toNat dd).Y)))))-(w64 (((a1.getD (Int.tmod (w64 (x8+1)) (a1.length:Int)).toNat dd).X)*((a1.getD x8.toNat dd).Y))))) (w64 (x8+1)) else none else none else none else some x7
def qBM (a1:List qA) (x5:Bool):Option Int:= bif x5 then some 0 else (GY a1 FUEL 0 0).bind λo14=> some o14
def qGZ (a1:List qA):Option Int:= bif decide ((a1.length:Int)>32) then qBM a1 true else (ZT a1).bind λv3=> qBM a1 (!v3)
def qG3 (a1:List qA):Option Int:= bif decide ((a1.length:Int)<3) then some 3 else bif decide ((a1.length:Int)>32) then some 4 else (ZT a1).bind λv4=> bif !v4 then some 9 else (qGZ a1).bind λv7=> bif v7==0 then some 19 else some 0
def FX (x5:Bool):Option Bool:= some x5
def qE7 (a1:qA) (a2:qA):Option Bool:= bif decide (a1.X<a2.X) then FX true else bif a1.X==a2.X then FX (decide (a1.Y<a2.Y)) else FX false
def qAs (x5:Int) (R:Int->Option Int) (x11:Bool):Option Int:= bif x11 then R (w64 (x5+1)) else some x5
def TV (a1:List qA) (l2:List qA) (x3:Int):Nat->Int->Option Int
 |0,_=>none
 |n+1,x5=> bif decide (x5<(l2.length:Int)) then bif inb x5 l2.length then bif inb x3 a1.length then (qE7 (l2.getD x5.toNat dd) (a1.getD x3.toNat dd)).bind λv9=> qAs x5 (TV a1 l2 x3 n) v9 else none else none else qAs x5 (TV a1 l2 x3 n) false
def qAc (x3:Int) (R:(List qA)->Int->Option (List qA)) (l27:List qA):Option (List qA):= R l27 (w64 (x3+1))
def qAP (a1:List qA) (l2:List qA) (x3:Int) (R:(List qA)->Int->Option (List qA)) (o14:Int) (x19:Bool):Option (List qA):= bif x19 then qAc x3 R l2 else bif slOk 0 o14 l2.length then bif room (0+o14.toNat) 16 then bif inb x3 a1.length then bif room ((0+o14.toNat)+1) 16 then bif slOk o14 (l2.length:Int) l2.length then bif room (((0+o14.toNat)+1)+(l2.length-o14.toNat)) 16 then qAc x3 R (((([]:List qA)++(l2.take o14.toNat))++[(a1.getD x3.toNat dd)])++((l2.drop o14.toNat).take (l2.length-o14.toNat))) else none else none else none else none else none else none
def XJ (a1:List qA):Nat->(List qA)->Int->Option (List qA)
 |0,_,_=>none
 |n+1,l2,x3=> bif decide (x3<(a1.length:Int)) then (TV a1 l2 x3 FUEL 0).bind λo14=> bif decide (o14<(l2.length:Int)) then bif inb o14 l2.length then bif inb x3 a1.length then qAP a1 l2 x3 (XJ a1 n) o14 ((((l2.getD o14.toNat dd).X)==((a1.getD x3.toNat dd).X))&&((((l2.getD o14.toNat dd).Y)==((a1.getD x3.toNat dd).Y))&&true)) else none else none else qAP a1 l2 x3 (XJ a1 n) o14 false else some l2
def qFh (a1:List qA):Option (List qA):= (XJ a1 FUEL [] 0).bind λo29=> some o29
def qG0 (a1:qA) (a2:qA) (a3:qA):Option Int:= some (w64 ((w64 ((w64 (a2.X-a1.X))*(w64 (a3.Y-a1.Y))))-(w64 ((w64 (a2.Y-a1.Y))*(w64 (a3.X-a1.X))))))
def qBy (l5:List qA) (R:(List qA)->Option (List qA)) (x12:Bool):Option (List qA):= bif x12 then bif slOk 0 (w64 ((l5.length:Int)-1)) l5.length then R (l5.take ((w64 ((l5.length:Int)-1)).toNat)) else none else some l5
def GW (a1:List qA) (x3:Int):Nat->(List qA)->Option (List qA)
 |0,_=>none
 |n+1,l5=> bif decide ((l5.length:Int)>1) then bif inb (w64 ((l5.length:Int)-2)) l5.length then bif inb (w64 ((l5.length:Int)-1)) l5.length then bif inb x3 a1.length then (qG0 (l5.getD ((w64 ((l5.length:Int)-2)).toNat) dd) (l5.getD ((w64 ((l5.length:Int)-1)).toNat) dd) (a1.getD x3.toNat dd)).bind λv10=> qBy l5 (GW a1 x3 n) (decide (v10<=0)) else none else none else none else qBy l5 (GW a1 x3 n) false
def HP (a1:List qA):Nat->(List qA)->Int->Option (List qA)
 |0,_,_=>none
 |n+1,l2,x3=> bif decide (x3<(a1.length:Int)) then (GW a1 x3 FUEL l2).bind λo16=> bif inb x3 a1.length then bif room (o16.length+1) 16 then (HP a1 n) (o16++[(a1.getD x3.toNat dd)]) (w64 (x3+1)) else none else none else some l2
def qCx (a1:List qA):Option (List qA):= (HP a1 FUEL [] 0).bind λo21=> some o21
def TQ (v7:(List qA)):Nat->(List qA)->Int->Option (List qA)
 |0,_,_=>none
 |n+1,l9,x10=> bif decide (x10≥0) then bif inb x10 v7.length then bif room (l9.length+1) 16 then (TQ v7 n) (l9++[(v7.getD x10.toNat dd)]) (w64 (x10-1)) else none else none else some l9
def qDv (a1:List qA) (x5:Bool):Option (List qA):= bif x5 then some ([]:List qA) else (qFh a1).bind λv7=> (TQ v7 FUEL [] (w64 ((v7.length:Int)-1))).bind λo15=> (qCx v7).bind λv17=> (qCx o15).bind λv19=> bif decide ((w64 ((v17.length:Int)+(v19.length:Int)))<5) then some ([]:List qA) else bif slOk 0 (w64 ((v17.length:Int)-1)) v17.length then bif room (0+(w64 ((v17.length:Int)-1)).toNat) 16 then bif slOk 0 (w64 ((v19.length:Int)-1)) v19.length then bif room ((0+(w64 ((v17.length:Int)-1)).toNat)+(w64 ((v19.length:Int)-1)).toNat) 16 then some ((([]:List qA)++(v17.take ((w64 ((v17.length:Int)-1)).toNat)))++(v19.take ((w64 ((v19.length:Int)-1)).toNat))) else none else none else none else none
def qIz (a1:List qA):Option (List qA):= bif decide ((a1.length:Int)>32) then qDv a1 true else (ZT a1).bind λv3=> qDv a1 (!v3)
def qBE (x5:Int):Option Int:= some x5
def qCk (a1:Int) (a2:Int):Option Int:= bif nz a2 then bif decide ((w64 ((w64 (Int.tdiv a1 a2))*a2))>a1) then qBE (w64 ((w64 (Int.tdiv a1 a2))-1)) else qBE (w64 (Int.tdiv a1 a2)) else none
def FP (x5:Int) (R:Int->Int->Int->Option ((Int×Int)⊕(Int×Int))) (x17:Int) (x18:Int):Option ((Int×Int)⊕(Int×Int)):= R x17 x18 (w64 (x5+1))
def WZ (a1:List qA) (a2:Int):Nat->Int->Int->Int->Option ((Int×Int)⊕(Int×Int))
 |0,_,_,_=>none
 |n+1,x3,x4,x5=> bif decide (x5<(a1.length:Int)) then bif inb x5 a1.length then bif nz (a1.length:Int) then bif inb (Int.tmod (w64 (x5+1)) (a1.length:Int)) a1.length then bif decide ((w64 (((a1.getD (Int.tmod (w64 (x5+1)) (a1.length:Int)).toNat dd).Y)-((a1.getD x5.toNat dd).Y)))>0) then (qCk (w64 ((w64 (((a1.getD (Int.tmod (w64 (x5+1)) (a1.length:Int)).toNat dd).X)-((a1.getD x5.toNat dd).X)))*(w64 (a2-((a1.getD x5.toNat dd).Y))))) (w64 (((a1.getD (Int.tmod (w64 (x5+1)) (a1.length:Int)).toNat dd).Y)-((a1.getD x5.toNat dd).Y)))).bind λv11=> FP x5 (WZ a1 a2 n) x3 (imin x4 (w64 (((a1.getD x5.toNat dd).X)+v11))) else bif decide ((w64 (((a1.getD (Int.tmod (w64 (x5+1)) (a1.length:Int)).toNat dd).Y)-((a1.getD x5.toNat dd).Y)))<0) then
 (qCk (w64 ((w64 (((a1.getD (Int.tmod (w64 (x5+1)) (a1.length:Int)).toNat dd).X)-((a1.getD x5.toNat dd).X)))*(w64 (a2-((a1.getD x5.toNat dd).Y))))) (w64 (0-(w64 (((a1.getD (Int.tmod (w64 (x5+1)) (a1.length:Int)).toNat dd).Y)-((a1.getD x5.toNat dd).Y)))))).bind λv14=> FP x5 (WZ a1 a2 n) (imax x3 (w64 (((a1.getD x5.toNat dd).X)-v14))) x4 else bif decide ((w64 ((w64 (((a1.getD (Int.tmod (w64 (x5+1)) (a1.length:Int)).toNat dd).X)-((a1.getD x5.toNat dd).X)))*(w64 (a2-((a1.getD x5.toNat dd).Y)))))<0) then some (Sum.inl (1,0)) else FP x5 (WZ a1 a2 n) x3 x4 else none else none else none else some (Sum.inr (x3,x4))
def HB (a1:List qA) (a2:Int):Option (Int×Int):= (WZ a1 a2 FUEL (-600) 600 0).bind λu23=>Sum.elim (λv24=>some v24) (λo21=> some (o21.1,o21.2)) u23
def SS (v11:Int×Int) (v13:Int×Int) (x17:Bool):Option Span:= bif x17 then some (Span.mk 0 0) else some (Span.mk (imax v11.1 v13.1) (imin v11.2 v13.2))
def VY (a2:Int) (a3:Int) (v4:(List qA)) (x9:Bool):Option Span:= bif x9 then some (Span.mk 0 0) else (HB v4 a2).bind λv11=> (HB v4 a3).bind λv13=> bif decide (v11.1>v11.2) then SS v11 v13 true else bif decide (v13.1>v13.2) then SS v11 v13 true else SS v11 v13 (decide ((imax v11.1 v13.1)≥(imin v11.2 v13.2)))
def qGY (a1:List qA) (a2:Int) (a3:Int):Option Span:= (qIz a1).bind λv4=> bif (v4.length:Int)==0 then VY a2 a3 v4 true else bif decide (a2≥a3) then VY a2 a3 v4 true else bif decide (a2<(-600)) then VY a2 a3 v4 true else VY a2 a3 v4 (decide (a3>600))
def VI (a1:Span):Option Bool:= some (decide (a1.A≥a1.B))
def CA (x3:Int) (R:Int->Option Int) (x8:Bool):Option Int:= bif x8 then R (w64 (x3+1)) else some x3
def YM (a2:List Span):Nat->Int->Option Int
 |0,_=>none
 |n+1,x3=> bif decide (x3<(a2.length:Int)) then bif inb x3 a2.length then (VI (a2.getD x3.toNat dd)).bind λv6=> CA x3 (YM a2 n) v6 else none else CA x3 (YM a2 n) false
def CC (x13:Int) (R:Int->Option Int) (x18:Bool):Option Int:= bif x18 then R (w64 (x13-1)) else some x13
def RA (a2:List Span) (o11:Int):Nat->Int->Option Int
 |0,_=>none
 |n+1,x13=> bif decide (x13>o11) then bif inb (w64 (x13-1)) a2.length then (VI (a2.getD (w64 (x13-1)).toNat dd)).bind λv16=> CC x13 (RA a2 o11 n) v16 else none else CC x13 (RA a2 o11 n) false
def PX (x24:Int) (l25:List Span) (R:Int->(List Span)->Option (List Span)) (x31:Span):Option (List Span):= bif room (l25.length+1) 16 then R (w64 (x24+1)) (l25++[x31]) else none
def QJ (a2:List Span) (o21:Int):Nat->Int->(List Span)->Option (List Span)
 |0,_,_=>none
 |n+1,x24,l25=> bif decide (x24<o21) then bif inb x24 a2.length then (VI (a2.getD x24.toNat dd)).bind λv28=> bif v28 then PX x24 l25 (QJ a2 o21 n) (Span.mk 0 0) else PX x24 l25 (QJ a2 o21 n) (a2.getD x24.toNat dd) else none else some l25
def TB (a1:Int) (a2:List Span):Option qH:= (YM a2 FUEL 0).bind λo11=> (RA a2 o11 FUEL (a2.length:Int)).bind λo21=> bif o11==o21 then some (qH.mk 0 []) else (QJ a2 o21 FUEL o11 []).bind λo34=> some (qH.mk (w64 (a1+o11)) o34)
def NS (a1:List qA):Nat->Int->Int->Int->Option (Int×Int)
 |0,_,_,_=>none
 |n+1,x6,x7,x8=> bif decide (x8<(a1.length:Int)) then bif inb x8 a1.length then (NS a1 n) (imin x6 ((a1.getD x8.toNat dd).Y)) (imax x7 ((a1.getD x8.toNat dd).Y)) (w64 (x8+1)) else none else some (x6,x7)
def qCi (l15:List Span) (x16:Int) (R:(List Span)->Int->Option (List Span)) (x23:Span):Option (List Span):= bif room (l15.length+1) 16 then R (l15++[x23]) (w64 (x16+1)) else none
def qHa (a1:List qA) (l15:List Span) (x16:Int) (R:(List Span)->Int->Option (List Span)) (x19:Bool):Option (List Span):= bif x19 then (qGY a1 (w64 (10*x16)) (w64 (10*(w64 (x16+1))))).bind λv21=> qCi l15 x16 R v21 else qCi l15 x16 R (Span.mk 0 0)
def WM (a1:List qA) (o13:Int×Int):Nat->(List Span)->Int->Option (List Span)
 |0,_,_=>none
 |n+1,l15,x16=> bif decide (x16<60) then bif decide ((w64 (10*x16))≥o13.1) then qHa a1 l15 x16 (WM a1 o13 n) (decide ((w64 (10*(w64 (x16+1))))<=o13.2)) else qHa a1 l15 x16 (WM a1 o13 n) false else some l15
def qNh (a1:List qA):Option (qH×Int):= (qG3 a1).bind λv2=> bif v2 !=0 then some ((qH.mk 0 []),v2) else bif inb 0 a1.length then (NS a1 FUEL ((a1.getD (0:Int).toNat dd).Y) ((a1.getD (0:Int).toNat dd).Y) 0).bind λo13=> (WM a1 o13 FUEL [] (-60)).bind λo26=> (TB (-60) o26).bind λv28=> bif (v28.Rows.length:Int)==0 then some ((qH.mk 0 []),18) else some ((qH.mk v28.Low v28.Rows),0) else none
def qJb (a1:Ring) (a2:Int) (a3:Int):Option (qH×Bool):= (qHf a1 a2).bind λv4=> (qE4 (Ring.mk v4.Z v4.Read) a3).bind λv6=> bif v6.2 !=0 then some ((qH.mk 0 []),false) else (qNh v6.1).bind λv9=> some ((qH.mk v9.1.Low v9.1.Rows),v9.2==0)
def qA8 (x3:Bool):Option Bool:= some x3
def qAG (a1:Int):Option Bool:= bif decide (a1<(-600)) then qA8 true else qA8 (decide (a1>600))
def qBd (x6:Int) (R:Int->Option (Int⊕Unit)) (x14:Bool):Option (Int⊕Unit):= bif x14 then some (Sum.inl 9) else R (w64 (x6+1))
def YJ (a1:qH):Nat->Int->Option (Int⊕Unit)
 |0,_=>none
 |n+1,x6=> bif decide (x6<(a1.Rows.length:Int)) then bif inb x6 a1.Rows.length then (qAG ((a1.Rows.getD x6.toNat dd).A)).bind λv9=> bif v9 then qBd x6 (YJ a1 n) true else (qAG ((a1.Rows.getD x6.toNat dd).B)).bind λv12=> qBd x6 (YJ a1 n) v12 else none else some (Sum.inr ())
def qBQ (x31:Int) (R:Int->Option (Int⊕Unit)) (x37:Bool):Option (Int⊕Unit):= bif x37 then some (Sum.inl 19) else R (w64 (x31+1))
def YO (a1:qH):Nat->Int->Option (Int⊕Unit)
 |0,_=>none
 |n+1,x31=> bif decide (x31<(a1.Rows.length:Int)) then bif inb x31 a1.Rows.length then (VI (a1.Rows.getD x31.toNat dd)).bind λv34=> bif v34 then qBQ x31 (YO a1 n) (!((((a1.Rows.getD x31.toNat dd).A)==0)&&((((a1.Rows.getD x31.toNat dd).B)==0)&&true))) else qBQ x31 (YO a1 n) false else none else some (Sum.inr ())
def qBF (a1:qH) (x29:Bool):Option Int:= bif x29 then some 19 else (YO a1 FUEL 0).bind λu41=>Sum.elim (λv42=>some v42) (λo39=> some 0) u41
def qBr (a1:qH) (x4:Bool):Option Int:= bif x4 then some 9 else (YJ a1 FUEL 0).bind λu18=>Sum.elim (λv19=>some v19) (λo16=> bif (a1.Rows.length:Int)==0 then bif a1.Low !=0 then some 19 else some 0 else bif inb 0 a1.Rows.length then (VI (a1.Rows.getD (0:Int).toNat dd)).bind λv23=> bif v23 then qBF a1 true else bif inb (w64 ((a1.Rows.length:Int)-1)) a1.Rows.length then (VI (a1.Rows.getD (w64 ((a1.Rows.length:Int)-1)).toNat dd)).bind λv27=> qBF a1 v27 else none else none) u18
def qGR (a1:qH):Option Int:= bif decide ((a1.Rows.length:Int)>120) then some 4 else bif decide (a1.Low<(-60)) then qBr a1 true else qBr a1 (decide (a1.Low>(w64 (60-(a1.Rows.length:Int)))))
def qCw (a1:qH):Option qH:= (qGR a1).bind λv2=> bif v2 !=0 then some (qH.mk 0 []) else some a1
def qFx (a1:qH) (a2:Int) (x4:Bool):Option Span:= bif x4 then some (Span.mk 0 0) else bif inb (w64 (a2-a1.Low)) a1.Rows.length then some (a1.Rows.getD (w64 (a2-a1.Low)).toNat dd) else none
def qFG (a1:qH) (a2:Int):Option Span:= bif decide (a2<a1.Low) then qFx a1 a2 true else qFx a1 a2 (decide (a2≥(w64 (a1.Low+(a1.Rows.length:Int)))))
def TR (v3:qH) (v5:qH):Nat->(List Span)->Int->Option (List Span)
 |0,_,_=>none
 |n+1,l7,x8=> bif decide (x8<60) then (qFG v3 x8).bind λv10=> (qFG v5 x8).bind λv12=> bif room (l7.length+1) 16 then (TR v3 v5 n) (l7++[(Span.mk (imax v10.A v12.A) (imin v10.B v12.B))]) (w64 (x8+1)) else none else some l7
def qII (a1:qH) (a2:qH):Option qH:= (qCw a1).bind λv3=> (qCw a2).bind λv5=> (TR v3 v5 FUEL [] (-60)).bind λo16=> (TB (-60) o16).bind λv18=> some (qH.mk v18.Low v18.Rows)
def qDr (x5:Bool):Option Bool:= some x5
def WQ (a1:Int) (a2:Int) (a3:Int):Option Bool:= bif decide (a1≥a2) then qDr (decide (a1<=a3)) else qDr false
def VT (x24:Bool):Option Int:= bif x24 then some 9 else some 0
def PM (a2:Rates) (x14:Bool):Option Int:= bif x14 then some 9 else (WQ a2.Chip 0 1000).bind λv16=> bif !v16 then VT true else (WQ a2.Dust 0 1000).bind λv19=> bif !v19 then VT true else (WQ a2.Fine 0 1000000).bind λv22=> VT (!v22)
def AQ (a1:Saw) (a2:Rates):Option Int:= (WQ a1.Kerf 0 20).bind λv3=> bif !v3 then PM a2 true else (WQ a1.Trim 0 20).bind λv6=> bif !v6 then PM a2 true else (WQ a1.Pitch 1 2000).bind λv9=> bif !v9 then PM a2 true else (WQ a1.Step 1 20000).bind λv12=> PM a2 (!v12)
def DG (x13:Int) (R:Int->Option (Bool⊕Unit)) (x20:Bool):Option (Bool⊕Unit):= bif x20 then some (Sum.inl false) else R (w64 (x13+1))
def yS (a1:zX) (x7:Int):Nat->Int->Option (Bool⊕Unit)
 |0,_=>none
 |n+1,x13=> bif inb x7 a1.Scan.Rings.length then bif decide (x13<((((a1.Scan.Rings.getD x7.toNat dd).Read).length:Nat):Int)) then bif inb x13 (((a1.Scan.Rings.getD x7.toNat dd).Read).length) then bif decide ((((((a1.Scan.Rings.getD x7.toNat dd).Read).getD x13.toNat dd).P).X)<(-110)) then DG x13 (yS a1 x7 n) true else bif decide ((((((a1.Scan.Rings.getD x7.toNat dd).Read).getD x13.toNat dd).P).X)>110) then DG x13 (yS a1 x7 n) true else bif decide ((((((a1.Scan.Rings.getD x7.toNat dd).Read).getD x13.toNat dd).P).Y)<(-110)) then DG x13 (yS a1 x7 n) true else DG x13 (yS a1 x7 n) (decide ((((((a1.Scan.Rings.getD x7.toNat dd).Read).getD x13.toNat dd).P).Y)>110)) else none else some (Sum.inr ()) else none
def HT (a1:zX) (x7:Int) (R:Int->Option (Bool⊕Unit)) (x11:Bool):Option (Bool⊕Unit):= bif x11 then some (Sum.inl false) else (yS a1 x7 FUEL 0).bind λu24=>Sum.elim (λv25=>some (Sum.inl v25)) (λo22=> R (w64 (x7+1))) u24
def ZZ (a1:zX):Nat->Int->Option (Bool⊕Unit)
 |0,_=>none
 |n+1,x7=> bif decide (x7<(a1.Scan.Rings.length:Int)) then bif inb x7 a1.Scan.Rings.length then bif decide (((((a1.Scan.Rings.getD x7.toNat dd).Read).length:Nat):Int)>40) then HT a1 x7 (ZZ a1 n) true else HT a1 x7 (ZZ a1 n) (decide (((a1.Scan.Rings.getD x7.toNat dd).Z)>3000)) else none else some (Sum.inr ())
def SF (x30:Int) (R:Int->Option (Bool⊕Unit)) (x35:Bool):Option (Bool⊕Unit):= bif x35 then some (Sum.inl false) else R (w64 (x30+1))
def QV (a2:zM):Nat->Int->Option (Bool⊕Unit)
 |0,_=>none
 |n+1,x30=> bif decide (x30<(a2.Products.length:Int)) then bif inb x30 a2.Products.length then bif decide (((((a2.Products.getD x30.toNat dd).Lengths).length:Nat):Int)>2) then SF x30 (QV a2 n) true else bif decide (((((a2.Products.getD x30.toNat dd).Prices).length:Nat):Int)>2) then SF x30 (QV a2 n) true else SF x30 (QV a2 n) (decide (((((a2.Products.getD x30.toNat dd).Name).size:Nat):Int)>100)) else none else some (Sum.inr ())
def SK (x45:Bool):Option Bool:= some x45
def GP (a1:zX) (a2:zM) (x5:Bool):Option Bool:= bif x5 then some false else (ZZ a1 FUEL 0).bind λu28=>Sum.elim (λv29=>some v29) (λo26=> (QV a2 FUEL 0).bind λu39=>Sum.elim (λv40=>some v40) (λo37=> (AQ a2.Saw a2.Rates).bind λv41=> bif v41 !=0 then SK true else bif decide (a2.Saw.Pitch≥20) then SK (decide (a2.Saw.Step≥500)) else SK false) u39) u28
def AE (a1:zX) (a2:zM):Option Bool:= bif decide ((a1.Scan.Rings.length:Int)>4) then GP a1 a2 true else bif decide ((a1.Scan.Defects.length:Int)>4) then GP a1 a2 true else GP a1 a2 (decide ((a2.Products.length:Int)>2))
def KL (a1:Pattern) (a2:Pattern):Nat->Int->Option (Bool⊕Unit)
 |0,_=>none
 |n+1,x6=> bif decide (x6<(a1.Nodes.length:Int)) then bif inb x6 a1.Nodes.length then bif inb x6 a2.Nodes.length then bif !((((a1.Nodes.getD x6.toNat dd).Kind)==((a2.Nodes.getD x6.toNat dd).Kind))&&((((a1.Nodes.getD x6.toNat dd).At)==((a2.Nodes.getD x6.toNat dd).At))&&true)) then some (Sum.inl false) else (KL a1 a2 n) (w64 (x6+1)) else none else none else some (Sum.inr ())
def AV (a1:Pattern) (a2:Pattern) (x4:Bool):Option Bool:= bif x4 then some false else (KL a1 a2 FUEL 0).bind λu13=>Sum.elim (λv14=>some v14) (λo11=> some true) u13
def qEk (a1:Pattern) (a2:Pattern):Option Bool:= bif !(((a1.Frame.X.A==a2.Frame.X.A)&&((a1.Frame.X.B==a2.Frame.X.B)&&true))&&(((a1.Frame.Y.A==a2.Frame.Y.A)&&((a1.Frame.Y.B==a2.Frame.Y.B)&&true))&&true)) then AV a1 a2 true else AV a1 a2 ((a1.Nodes.length:Int) !=(a2.Nodes.length:Int))
def NE (x7:Bool):Option Bool:= some x7
def qEl (a1:yJ) (a2:yJ):Option Bool:= bif a1.Quarters==a2.Quarters then bif a1.Value==a2.Value then (qEk a1.Pattern a2.Pattern).bind λv5=> NE v5 else NE false else NE false
def DV (a1:qI) (a2:yJ):Option Bool:= (qEl (yJ.mk a1.Quarters a1.Pattern a1.Value) a2).bind λv3=> some v3
def ZA (x30:Bool):Option Bool:= some x30
def yI (v14:(List qI)×Int) (v16:(List qI)×Int):Nat->Int->Option (Bool⊕Unit)
 |0,_=>none
 |n+1,x37=> bif decide (x37<4) then bif inb (Int.tmod (w64 (x37+1)) 4) v14.1.length then bif inb x37 v16.1.length then (DV (v16.1.getD x37.toNat dd) (yJ.mk x37 ((v14.1.getD ((Int.tmod (w64 (x37+1)) 4).toNat) dd).Pattern) ((v14.1.getD ((Int.tmod (w64 (x37+1)) 4).toNat) dd).Value))).bind λv41=> bif !v41 then some (Sum.inl false) else (yI v14 v16 n) (w64 (x37+1)) else none else none else some (Sum.inr ())
def yE (v14:(List qI)×Int) (v16:(List qI)×Int) (x35:Bool):Option Bool:= bif x35 then some false else (yI v14 v16 FUEL 0).bind λu46=>Sum.elim (λv47=>some v47) (λo44=> (QS).bind λv48=> some v48) u46
def wX (v14:(List qI)×Int) (v16:(List qI)×Int) (v18:qI×Int) (v20:qI×Int) (x23:Bool):Option Bool:= bif x23 then bif (v14.2==0)==(v16.2==0) then bif v18.2==v14.2 then bif v20.2==v16.2 then (QS).bind λv28=> ZA v28 else ZA false else ZA false else ZA false else bif (v14.1.length:Int) !=4 then yE v14 v16 true else bif (v16.1.length:Int) !=4 then yE v14 v16 true else bif v18.2 !=0 then yE v14 v16 true else bif v20.2 !=0 then yE v14 v16 true else yE v14 v16 (v18.1.Value !=v20.1.Value)
def jG (a1:zX) (a2:zM) (x8:Bool):Option Bool:= bif x8 then (QS).bind λv10=> some v10 else (ZI a1.Scan 1).bind λv12=> (QH a1.Scan a2.Products a2.Saw a2.Rates a1.Limit a1.Most).bind λv14=> (QH v12 a2.Products a2.Saw a2.Rates a1.Limit a1.Most).bind λv16=> (yY a1.Scan a2.Products a2.Saw a2.Rates a1.Limit a1.Most).bind λv18=> (yY v12 a2.Products a2.Saw a2.Rates a1.Limit a1.Most).bind λv20=> bif v14.2 !=0 then wX v14 v16 v18 v20 true else wX v14 v16 v18 v20 (v16.2 !=0)
def KO (a1:zX) (a2:zM):Option Bool:= (AE a1 a2).bind λv3=> bif !v3 then jG a1 a2 true else (AM a1.Scan).bind λv6=> jG a1 a2 (v6 !=0)
def qH7 (a1:Pattern) (a2:Int):Option (Pattern×Int):= some (a1,a2)
def qAD :Option Int:= some 0
def qAA (x15:Bool):Option Int:= bif x15 then some 20 else qAD
def JB (a1:Node) (a2:wO) (x6:Bool):Option Int:= bif x6 then some 10 else bif decide (a2.level>64) then some 28 else (KG a1.Kind).bind λv9=> bif v9 then (KN a2.rect a1.Kind).bind λv12=> bif decide (a1.At<=v12.A) then qAA true else qAA (decide (a1.At≥v12.B)) else qAD
def VN (a1:Node) (a2:wO):Option Int:= bif decide (a1.Kind<0) then JB a1 a2 true else bif decide (a1.Kind>3) then JB a1 a2 true else bif a1.Kind==0 then JB a1 a2 (a1.At !=0) else JB a1 a2 false
def yB (x18:Bool):Option Int:= bif x18 then some 20 else some 0
def LD (a1:Rect) (a2:Int) (a3:List qE) (x5:Bool):Option Int:= bif x5 then some 8 else bif inb a2 a3.length then (yL (a3.getD a2.toNat dd)).bind λv8=> (XX a1.X).bind λv10=> (XX a1.Y).bind λv12=> bif v10 !=v8.1 then bif v10 !=v8.2 then yB true else yB (v12 !=v8.1) else bif v12 !=v8.2 then bif v10 !=v8.2 then yB true else yB (v12 !=v8.1) else yB false else none
def FI (a1:Rect) (a2:Int) (a3:List qE):Option Int:= bif decide (a2<0) then LD a1 a2 a3 true else LD a1 a2 a3 (decide (a2≥(a3.length:Int)))
def YT (a1:Int) (a5:Int) (a6:Int) (x16:Int):Option (Nat×Int×Int):= bif x16 !=0 then some (1,x16,a6) else some (0,a5,w64 (a1+1))
def VG (a1:Int) (a2:wO) (a3:Pattern) (a4:List qE) (a5:Int) (a6:Int) (v9:Int) (x12:Bool):Option (Nat×Int×Int):= bif x12 then (FI a2.rect ((a3.Nodes.getD a1.toNat dd).At) a4).bind λv14=> YT a1 a5 a6 v14 else YT a1 a5 a6 v9
def FA (a1:Int) (a2:wO) (a3:Pattern) (a4:List qE) (a5:Int) (a6:Int):Option (Nat×Int×Int):= bif decide (a1≥(a3.Nodes.length:Int)) then some (1,3,a6) else bif inb a1 a3.Nodes.length then (VN (a3.Nodes.getD a1.toNat dd) a2).bind λv9=> bif v9==0 then VG a1 a2 a3 a4 a5 a6 v9 (((a3.Nodes.getD a1.toNat dd).Kind)==1) else VG a1 a2 a3 a4 a5 a6 v9 false else none
def qGg (x5:Rect):Option Rect:= some x5
def HK (a1:Rect) (a2:Int) (a3:Span):Option Rect:= bif a2==2 then qGg (Rect.mk a3 a1.Y) else qGg (Rect.mk a1.X a3)
def qDt (a1:Rect) (a2:Node) (a3:Int):Option (Rect×Rect×Rect):= (KN a1 a2.Kind).bind λv4=> (HK a1 a2.Kind (Span.mk v4.A a2.At)).bind λv6=> (HK a1 a2.Kind (Span.mk a2.At (imin (w64 (a2.At+a3)) v4.B))).bind λv8=> (HK a1 a2.Kind (Span.mk (imin (w64 (a2.At+a3)) v4.B) v4.B)).bind λv10=> some (v6,v8,v10)
def NY (x8:Int) (R:(List wO)->Int->Int->Int->Option ((Nat×Int×Int)⊕(Int×Int))) (l25:List wO) (x26:Int) (x27:Int):Option ((Nat×Int×Int)⊕(Int×Int)):= R l25 (w64 (x8+1)) x27 x26
def wJ (a1:Pattern) (a2:List qE) (a5:Pattern) (a6:Int):Nat->(List wO)->Int->Int->Int->Option ((Nat×Int×Int)⊕(Int×Int))
 |0,_,_,_,_=>none
 |n+1,l7,x8,x9,x10=> bif decide ((l7.length:Int)>0) then bif inb (w64 ((l7.length:Int)-1)) l7.length then bif slOk 0 (w64 ((l7.length:Int)-1)) l7.length then (FA x8 (l7.getD ((w64 ((l7.length:Int)-1)).toNat) dd) a1 a2 x9 x10).bind λv14=> bif !(Nat.beq v14.1 0) then some (Sum.inl (v14.1,v14.2.1,v14.2.2)) else bif decide (x8≥(a5.Nodes.length:Int)) then some (Sum.inl (0,v14.2.1,v14.2.2)) else bif inb x8 a5.Nodes.length then (KG ((a5.Nodes.getD x8.toNat dd).Kind)).bind λv19=> bif v19 then (qDt ((l7.getD ((w64 ((l7.length:Int)-1)).toNat) dd).rect) (a5.Nodes.getD x8.toNat dd) a6).bind λv22=> bif room ((w64 ((l7.length:Int)-1)).toNat+2) 40 then NY x8 (wJ a1 a2 a5 a6 n) ((l7.take ((w64 ((l7.length:Int)-1)).toNat))++[(wO.mk v22.2.2 (w64 (((l7.getD ((w64 ((l7.length:Int)-1)).toNat) dd).level)+1))),(wO.mk v22.1 (w64 (((l7.getD ((w64 ((l7.length:Int)-1)).toNat) dd).level)+1)))]) v14.2.2 v14.2.1
 else none else NY x8 (wJ a1 a2 a5 a6 n) (l7.take ((w64 ((l7.length:Int)-1)).toNat)) v14.2.2 v14.2.1 else none else none else none else some (Sum.inr (x10,x9))
def qFs (a1:Pattern) (a2:List qE) (a3:Int) (a4:Int) (a5:Pattern) (a6:Int):Option (Nat×Int×Int):= (wJ a1 a2 a5 a6 FUEL [(wO.mk a5.Frame 1)] 0 a3 a4).bind λu32=>Sum.elim (λv33=>some v33) (λo30=> some (0,o30.2,o30.1)) u32
def IZ (a1:Pattern) (a2:Int) (a3:List qE) (x8:Bool):Option Int:= bif x8 then some 9 else bif decide ((a1.Nodes.length:Int)>127) then some 4 else (qH7 a1 a2).bind λv11=> (qFs a1 a3 0 0 v11.1 v11.2).bind λv13=> bif Nat.beq v13.1 0 then bif decide (v13.2.2<(a1.Nodes.length:Int)) then some 4 else some 0 else bif Nat.beq v13.1 1 then some v13.2.1 else none
def qJw (a1:Pattern) (a2:Int) (a3:List qE):Option Int:= (ZP a1.Frame).bind λv4=> bif !v4 then some 19 else bif decide (a2<0) then IZ a1 a2 a3 true else IZ a1 a2 a3 (decide (a2>20))
def ID (a1:Pattern) (a2:List qE) (a3:Int):Option Int:= (qJw a1 a3 a2).bind λv4=> some v4
end Saw
end Go.SL

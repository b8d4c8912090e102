import Derived.Test.YtigmogcdifllhaaGreatDoorYa6
set_option linter.unusedVariables false
set_option linter.unusedSimpArgs false
namespace Go.SL
namespace Saw
structure zV where
 Size:Int
 At:Int
instance : Inhabited zV:=⟨⟨0,0⟩⟩
def QF (r:zV):List C:=[ci r.Size,ci r.At]
structure qA where
 X:Int
 Y:Int
instance : Inhabited qA:=⟨⟨0,0⟩⟩
def qF (r:qA):List C:=[ci r.X,ci r.Y]
structure qP where
 P:qA
 Ok:Bool
instance : Inhabited qP:=⟨⟨du,false⟩⟩
def qX (r:qP):List C:=[ci r.P.X,ci r.P.Y,cb r.Ok]
structure Ring where
 Z:Int
 Read:List qP
instance : Inhabited Ring:=⟨⟨0,[]⟩⟩
def zC (r:Ring):List C:=[ci r.Z,tl qX du r.Read]
structure Span where
 A:Int
 B:Int
instance : Inhabited Span:=⟨⟨0,0⟩⟩
def qL (r:Span):List C:=[ci r.A,ci r.B]
structure Box where
 X:Span
 Y:Span
 Z:Span
instance : Inhabited Box:=⟨⟨du,du,du⟩⟩
def JW (r:Box):List C:=[ci r.X.A,ci r.X.B,ci r.Y.A,ci r.Y.B,ci r.Z.A,ci r.Z.B]
structure qH where
 Kind:Int
 Box:Box
instance : Inhabited qH:=⟨⟨0,du⟩⟩
def qN (r:qH):List C:=[ci r.Kind,ci r.Box.X.A,ci r.Box.X.B,ci r.Box.Y.A,ci r.Box.Y.B,ci r.Box.Z.A,ci r.Box.Z.B]
structure Scan where
 Rings:List Ring
 Defects:List qH
instance : Inhabited Scan:=⟨⟨[],[]⟩⟩
def jG (r:Scan):List C:=[tl zC du r.Rings,tl qN du r.Defects]
structure wF where
 Scan:Scan
 Limit:Int
 Most:Int
instance : Inhabited wF:=⟨⟨du,0,0⟩⟩
def VV (r:wF):List C:=[tl zC du r.Scan.Rings,tl qN du r.Scan.Defects,ci r.Limit,ci r.Most]
structure qD where
 Name:ByteArray
 Thick:Int
 Width:Int
 Allow:Int
 Wane:Int
 Lengths:List Int
 Prices:List Int
instance : Inhabited qD:=⟨⟨⟨#[]⟩,0,0,0,0,[],[]⟩⟩
def qM (r:qD):List C:=[cs r.Name,ci r.Thick,ci r.Width,ci r.Allow,ci r.Wane,tl qE du r.Lengths,tl qE du r.Prices]
structure qG where
 Low:Int
 Rows:List Span
instance : Inhabited qG:=⟨⟨0,[]⟩⟩
def zA (r:qG):List C:=[ci r.Low,tl qL du r.Rows]
structure Rect where
 X:Span
 Y:Span
instance : Inhabited Rect:=⟨⟨du,du⟩⟩
def qR (r:Rect):List C:=[ci r.X.A,ci r.X.B,ci r.Y.A,ci r.Y.B]
structure qO where
 Len:Int
 Sec:qG
instance : Inhabited qO:=⟨⟨0,du⟩⟩
def qS (r:qO):List C:=[ci r.Len,ci r.Sec.Low,tl qL du r.Sec.Rows]
structure Saw where
 Kerf:Int
 Trim:Int
 Pitch:Int
 Step:Int
instance : Inhabited Saw:=⟨⟨0,0,0,0⟩⟩
def yK (r:Saw):List C:=[ci r.Kerf,ci r.Trim,ci r.Pitch,ci r.Step]
structure Rates where
 Chip:Int
 Dust:Int
 Fine:Int
instance : Inhabited Rates:=⟨⟨0,0,0⟩⟩
def wI (r:Rates):List C:=[ci r.Chip,ci r.Dust,ci r.Fine]
structure qY where
 z:Span
 lack:Int
instance : Inhabited qY:=⟨⟨du,0⟩⟩
def zJ (r:qY):List C:=[ci r.z.A,ci r.z.B,ci r.lack]
structure zG where
 product:qD
 rect:Rect
 length:Int
 zones:List qY
 defects:List qH
instance : Inhabited zG:=⟨⟨du,du,0,[],[]⟩⟩
def MG (r:zG):List C:=[cs r.product.Name,ci r.product.Thick,ci r.product.Width,ci r.product.Allow,ci r.product.Wane,tl qE du r.product.Lengths,tl qE du r.product.Prices,ci r.rect.X.A,ci r.rect.X.B,ci r.rect.Y.A,ci r.rect.Y.B,ci r.length,tl zJ du r.zones,tl qN du r.defects]
structure Line where
 Len:Int
 Kerf:Int
 Pitch:Int
 Sizes:List Int
 Gain:List (List Int)
 Chip:List Int
 Dust:List Int
instance : Inhabited Line:=⟨⟨0,0,0,[],[],[],[]⟩⟩
def QJ (r:Line):List C:=[ci r.Len,ci r.Kerf,ci r.Pitch,tl qE du r.Sizes,tl (qW qE) du r.Gain,tl qE du r.Chip,tl qE du r.Dust]
structure qB where
 piece:zV
 value:Int
instance : Inhabited qB:=⟨⟨du,0⟩⟩
def qQ (r:qB):List C:=[ci r.piece.Size,ci r.piece.At,ci r.value]
structure Node where
 Kind:Int
 At:Int
instance : Inhabited Node:=⟨⟨0,0⟩⟩
def qK (r:Node):List C:=[ci r.Kind,ci r.At]
structure Pattern where
 Frame:Rect
 Nodes:List Node
instance : Inhabited Pattern:=⟨⟨du,[]⟩⟩
def zL (r:Pattern):List C:=[ci r.Frame.X.A,ci r.Frame.X.B,ci r.Frame.Y.A,ci r.Frame.Y.B,tl qK du r.Nodes]
structure qI where
 Quarters:Int
 Pattern:Pattern
 Value:Int
instance : Inhabited qI:=⟨⟨0,du,0⟩⟩
def zF (r:qI):List C:=[ci r.Quarters,ci r.Pattern.Frame.X.A,ci r.Pattern.Frame.X.B,ci r.Pattern.Frame.Y.A,ci r.Pattern.Frame.Y.B,tl qK du r.Pattern.Nodes,ci r.Value]
structure qYd where
 Solid:List qO
 Defects:List qH
instance : Inhabited qYd:=⟨⟨[],[]⟩⟩
structure zH where
 Products:List qD
 Saw:Saw
 Rates:Rates
instance : Inhabited zH:=⟨⟨[],du,du⟩⟩
def jJ (r:zH):List C:=[tl qM du r.Products,ci r.Saw.Kerf,ci r.Saw.Trim,ci r.Saw.Pitch,ci r.Saw.Step,ci r.Rates.Chip,ci r.Rates.Dust,ci r.Rates.Fine]
structure qXU where
 value:Int
 piece:zV
instance : Inhabited qXU:=⟨⟨0,du⟩⟩
structure wZ where
 Quarters:Int
 Pattern:Pattern
 Value:Int
instance : Inhabited wZ:=⟨⟨0,du,0⟩⟩
def qBQ (r:wZ):List C:=[ci r.Quarters,ci r.Pattern.Frame.X.A,ci r.Pattern.Frame.X.B,ci r.Pattern.Frame.Y.A,ci r.Pattern.Frame.Y.B,tl qK du r.Pattern.Nodes,ci r.Value]
structure qV where
 rect:Rect
 level:Int
instance : Inhabited qV:=⟨⟨du,0⟩⟩
def zO (r:qV):List C:=[ci r.rect.X.A,ci r.rect.X.B,ci r.rect.Y.A,ci r.rect.Y.B,ci r.level]
def qNc :zV:=(zV.mk (-1) (-1))
def zM :List qA:=[(qA.mk 1 0),(qA.mk 0 1),(qA.mk (-1) 0),(qA.mk 0 (-1))]
def qHA :List Int:=[(-1),1]
def globs :List (Nat×C):=[(0,.lptr (QF qNc)),(1,.aptr 4 2 (rf qF zM)),(2,.aptr 2 1 (rf qE qHA))]
def qDA :Nat->Int->(List qP)->Option (List qP)
 |0,_,_=>none
 |n+1,x4,l5=> bif decide (x4<((8:Nat):Int)) then bif inb x4 8 then bif room (l5.length+1) 24 then (qDA n) (w64 (x4+1)) (l5++([(qP.mk (([(qA.mk 60 30),(qA.mk 0 30),(qA.mk (-60) 30),(qA.mk (-60) 0),(qA.mk (-60) (-30)),(qA.mk 0 (-30)),(qA.mk 60 (-30)),(qA.mk 60 0)]:List qA).getD x4.toNat du) true)]:List qP)) else none else none else some l5
def qDM :Nat->Int->(List Ring)->Option (List Ring)
 |0,_,_=>none
 |n+1,x1,l2=> bif decide (x1<2) then (qDA FUEL 0 []).bind λo10=> bif room (l2.length+1) 32 then (qDM n) (w64 (x1+1)) (l2++[(Ring.mk (w64 (3000*x1)) o10)]) else none else some l2
def NH :Option Scan:= (qDM FUEL 0 []).bind λo14=> some (Scan.mk o14 [])
def EB (x3:Bool):Option Bool:= some x3
def FQ (a1:Int):Option Bool:= bif decide (a1≥(-600)) then EB (decide (a1<=600)) else EB false
def IU (x7:Int) (R:Int->Option (Int⊕Unit)) (x19:Bool):Option (Int⊕Unit):= bif x19 then some (Sum.inl 19) else R (w64 (x7+1))
def FI (a1:Ring) (x7:Int) (R:Int->Option (Int⊕Unit)) (x16:Bool):Option (Int⊕Unit):= bif x16 then some (Sum.inl 9) else bif !((a1.Read.getD x7.toNat du).Ok) then IU x7 R (!(((((a1.Read.getD x7.toNat du).P).X)==0)&&(((((a1.Read.getD x7.toNat du).P).Y)==0)&&true))) else IU x7 R false
def QV (a1:Ring):Nat->Int->Option (Int⊕Unit)
 |0,_=>none
 |n+1,x7=> bif decide (x7<(a1.Read.length:Int)) then bif inb x7 a1.Read.length then bif (a1.Read.getD x7.toNat du).Ok then (FQ (((a1.Read.getD x7.toNat du).P).X)).bind λv11=> bif !v11 then FI a1 x7 (QV a1 n) true else (FQ (((a1.Read.getD x7.toNat du).P).Y)).bind λv14=> FI a1 x7 (QV a1 n) (!v14) else FI a1 x7 (QV a1 n) false else none else some (Sum.inr ())
def IP (a1:Ring) (x5:Bool):Option Int:= bif x5 then some 9 else (QV a1 FUEL 0).bind λu23=>Sum.elim (λv24=>some v24) (λo21=> some 0) u23
def US (a1:Ring):Option Int:= bif decide ((a1.Read.length:Int)<8) then some 3 else bif decide ((a1.Read.length:Int)>32) then some 4 else bif decide (a1.Z<0) then IP a1 true else IP a1 (decide (a1.Z>20000))
def QZ (a1:Span):Option Bool:= some (decide (a1.A≥a1.B))
def BV (x5:Bool):Option Bool:= some x5
def PD (a1:Span) (a2:Int) (a3:Int):Option Bool:= bif decide ((imin a1.A a1.B)≥a2) then BV (decide ((imax a1.A a1.B)<=a3)) else BV false
def VP (x23:Bool):Option Int:= bif x23 then some 9 else some 0
def UL (a1:qH) (x13:Bool):Option Int:= bif x13 then some 19 else (PD a1.Box.X (-600) 600).bind λv15=> bif !v15 then VP true else (PD a1.Box.Y (-600) 600).bind λv18=> bif !v18 then VP true else (PD a1.Box.Z 0 20000).bind λv21=> VP (!v21)
def LN (a1:qH) (x3:Bool):Option Int:= bif x3 then some 10 else (QZ a1.Box.X).bind λv5=> bif v5 then UL a1 true else (QZ a1.Box.Y).bind λv8=> bif v8 then UL a1 true else (QZ a1.Box.Z).bind λv11=> UL a1 v11
def MZ (a1:qH):Option Int:= bif decide (a1.Kind<1) then LN a1 true else LN a1 (decide (a1.Kind>6))
def JH (a1:List qH):Nat->Int->Option (Int⊕Unit)
 |0,_=>none
 |n+1,x3=> bif decide (x3<(a1.length:Int)) then bif inb x3 a1.length then (MZ (a1.getD x3.toNat du)).bind λv6=> bif v6 !=0 then some (Sum.inl v6) else (JH a1 n) (w64 (x3+1)) else none else some (Sum.inr ())
def JB (a1:List qH):Option Int:= bif decide ((a1.length:Int)>64) then some 4 else (JH a1 FUEL 0).bind λu11=>Sum.elim (λv12=>some v12) (λo9=> some 0) u11
def KT (a1:Scan) (x4:Int) (R:Int->Option (Int⊕Unit)) (x16:Bool):Option (Int⊕Unit):= bif x16 then some (Sum.inl 11) else bif inb 0 a1.Rings.length then bif ((((a1.Rings.getD x4.toNat du).Read).length:Nat):Int) !=((((a1.Rings.getD (0:Int).toNat du).Read).length:Nat):Int) then some (Sum.inl 19) else R (w64 (x4+1)) else none
def jS (a1:Scan):Nat->Int->Option (Int⊕Unit)
 |0,_=>none
 |n+1,x4=> bif decide (x4<(a1.Rings.length:Int)) then bif inb x4 a1.Rings.length then (US (a1.Rings.getD x4.toNat du)).bind λv7=> bif v7 !=0 then some (Sum.inl v7) else bif x4==0 then bif ((a1.Rings.getD x4.toNat du).Z) !=0 then KT a1 x4 (jS a1 n) true else bif decide (x4>0) then bif inb (w64 (x4-1)) a1.Rings.length then KT a1 x4 (jS a1 n) (decide (((a1.Rings.getD x4.toNat du).Z)<=((a1.Rings.getD (w64 (x4-1)).toNat du).Z))) else none else KT a1 x4 (jS a1 n) false else bif decide (x4>0) then bif inb (w64 (x4-1)) a1.Rings.length then KT a1 x4 (jS a1 n) (decide (((a1.Rings.getD x4.toNat du).Z)<=((a1.Rings.getD (w64 (x4-1)).toNat du).Z))) else none else KT a1 x4 (jS a1 n) false else none else some (Sum.inr ())
def TY (a1:Scan):Nat->Int->Option (Int⊕Unit)
 |0,_=>none
 |n+1,x28=> bif decide (x28<(a1.Defects.length:Int)) then bif inb x28 a1.Defects.length then bif decide (((((a1.Defects.getD x28.toNat du).Box).Z).B)>((a1.Rings.getD (w64 ((a1.Rings.length:Int)-1)).toNat du).Z)) then some (Sum.inl 9) else (TY a1 n) (w64 (x28+1)) else none else some (Sum.inr ())
def SN (a1:Scan):Option Int:= bif decide ((a1.Rings.length:Int)<2) then some 3 else bif decide ((a1.Rings.length:Int)>24) then some 4 else (jS a1 FUEL 0).bind λu22=>Sum.elim (λv23=>some v23) (λo20=> (JB a1.Defects).bind λv24=> bif v24 !=0 then some v24 else bif inb (w64 ((a1.Rings.length:Int)-1)) a1.Rings.length then (TY a1 FUEL 0).bind λu34=>Sum.elim (λv35=>some v35) (λo32=> some 0) u34 else none) u22
def UR (a1:List Ring):Option (List Ring):= bif room a1.length 32 then some a1 else none
def yL (a1:List qH):Option (List qH):= bif room a1.length 56 then some a1 else none
def QD (a1:List qP):Option (List qP):= bif room a1.length 24 then some a1 else none
def ZU (v2:List Ring):Nat->Int->(List Ring)->Option (List Ring)
 |0,_,_=>none
 |n+1,x6,l7=> bif decide (x6<(v2.length:Int)) then bif inb x6 l7.length then (QD ((l7.getD x6.toNat du).Read)).bind λv13=> (ZU v2 n) (w64 (x6+1)) (l7.set x6.toNat (Ring.mk ((l7.getD x6.toNat du).Z) v13)) else none else some l7
def qBg (a1:Scan):Option Scan:= (UR a1.Rings).bind λv2=> (yL a1.Defects).bind λv4=> (ZU v2 FUEL 0 v2).bind λo16=> some (Scan.mk o16 v4)
def ZB (a1:List qH) (a2:Int) (x8:Int):Nat->Int->Int->Int->Int->Int->Option qH
 |0,_,_,_,_,_=>none
 |n+1,x11,x12,x13,x14,x15=> bif decide (x11<(Int.tmod (w64 ((Int.tmod a2 4)+4)) 4)) then (ZB a1 a2 x8 n) (w64 (x11+1)) (w64 (0-x15)) (w64 (0-x14)) x12 x13 else some (qH.mk ((a1.getD x8.toNat du).Kind) (Box.mk (Span.mk x12 x13) (Span.mk x14 x15) (((a1.getD x8.toNat du).Box).Z)))
def WI (a1:List qH) (a2:Int):Nat->(List qH)->Int->Option (List qH)
 |0,_,_=>none
 |n+1,l7,x8=> bif decide (x8<(a1.length:Int)) then bif inb x8 a1.length then (ZB a1 a2 x8 FUEL 0 ((((a1.getD x8.toNat du).Box).X).A) ((((a1.getD x8.toNat du).Box).X).B) ((((a1.getD x8.toNat du).Box).Y).A) ((((a1.getD x8.toNat du).Box).Y).B)).bind λo18=> bif inb x8 l7.length then (WI a1 a2 n) (l7.set x8.toNat o18) (w64 (x8+1)) else none else none else some l7
def IJ (a1:List qH) (a2:Int):Option (List qH):= (JB a1).bind λv3=> bif v3 !=0 then some ([]:List qH) else bif mkOk (a1.length:Int) 56 then (WI a1 a2 FUEL (List.replicate ((a1.length:Int).toNat) (qH.mk 0 (Box.mk (Span.mk 0 0) (Span.mk 0 0) (Span.mk 0 0)))) 0).bind λo22=> some o22 else none
def EE (a1:Ring):Option Ring:= (QD a1.Read).bind λv2=> some (Ring.mk a1.Z v2)
def LO (x2:Int) (R:Int->Option (Bool⊕Unit)) (x6:Bool):Option (Bool⊕Unit):= bif x6 then some (Sum.inl false) else R (w64 (x2+1))
def ZO (a1:List qA):Nat->Int->Option (Bool⊕Unit)
 |0,_=>none
 |n+1,x2=> bif decide (x2<(a1.length:Int)) then bif inb x2 a1.length then bif ((a1.getD x2.toNat du).X)==(-9223372036854775808) then LO x2 (ZO a1 n) true else LO x2 (ZO a1 n) (((a1.getD x2.toNat du).Y)==(-9223372036854775808)) else none else some (Sum.inr ())
def MU (a1:List qA):Option Bool:= (ZO a1 FUEL 0).bind λu10=>Sum.elim (λv11=>some v11) (λo8=> some true) u10
def DO (a1:List qA) (a2:Int):Nat->(List qA)->Int->Option (List qA)
 |0,_,_=>none
 |n+1,l8,x9=> bif decide (x9<(a1.length:Int)) then bif inb x9 a1.length then bif inb x9 l8.length then (DO a1 a2 n) (l8.set x9.toNat (qA.mk (w64 ((w64 (((zM.getD (Int.tmod (w64 ((Int.tmod a2 4)+4)) 4).toNat du).X)*((a1.getD x9.toNat du).X)))-(w64 (((zM.getD (Int.tmod (w64 ((Int.tmod a2 4)+4)) 4).toNat du).Y)*((a1.getD x9.toNat du).Y))))) (w64 ((w64 (((zM.getD (Int.tmod (w64 ((Int.tmod a2 4)+4)) 4).toNat du).Y)*((a1.getD x9.toNat du).X)))+(w64 (((zM.getD (Int.tmod (w64 ((Int.tmod a2 4)+4)) 4).toNat du).X)*((a1.getD x9.toNat du).Y))))))) (w64 (x9+1)) else none else none else some l8
def qC2 (a1:List qA) (a2:Int):Option (List qA):= (MU a1).bind λv3=> bif !v3 then some ([]:List qA) else bif inb (Int.tmod (w64 ((Int.tmod a2 4)+4)) 4) 4 then bif mkOk (a1.length:Int) 16 then (DO a1 a2 FUEL (List.replicate ((a1.length:Int).toNat) (qA.mk 0 0)) 0).bind λo14=> some o14 else none else none
def DL (a1:Ring):Nat->(List qA)->Int->Option (List qA)
 |0,_,_=>none
 |n+1,l9,x10=> bif decide (x10<(a1.Read.length:Int)) then bif inb x10 a1.Read.length then bif inb x10 l9.length then (DL a1 n) (l9.set x10.toNat ((a1.Read.getD x10.toNat du).P)) (w64 (x10+1)) else none else none else some l9
def GD (v17:(List qA)):Nat->Int->(List qP)->Option (List qP)
 |0,_,_=>none
 |n+1,x19,l20=> bif decide (x19<(v17.length:Int)) then bif inb x19 v17.length then bif inb x19 l20.length then (GD v17 n) (w64 (x19+1)) (l20.set x19.toNat (qP.mk (v17.getD x19.toNat du) ((l20.getD x19.toNat du).Ok))) else none else none else some l20
def yX (a1:Ring) (a2:Int):Option Ring:= (EE a1).bind λv3=> (US a1).bind λv5=> bif v5 !=0 then some (Ring.mk v3.Z v3.Read) else bif mkOk (a1.Read.length:Int) 16 then (DL a1 FUEL (List.replicate ((a1.Read.length:Int).toNat) (qA.mk 0 0)) 0).bind λo15=> (qC2 o15 a2).bind λv17=> (GD v17 FUEL 0 v3.Read).bind λo25=> some (Ring.mk v3.Z o25) else none
def XH (a1:Scan) (a2:Int):Nat->Int->(List Ring)->Option (List Ring)
 |0,_,_=>none
 |n+1,x11,l12=> bif decide (x11<(a1.Rings.length:Int)) then bif inb x11 a1.Rings.length then (yX (a1.Rings.getD x11.toNat du) a2).bind λv19=> bif inb x11 l12.length then (XH a1 a2 n) (w64 (x11+1)) (l12.set x11.toNat v19) else none else none else some l12
def MV (a1:Scan) (a2:Int):Option Scan:= (SN a1).bind λv3=> bif v3 !=0 then (qBg a1).bind λv6=> some (Scan.mk v6.Rings v6.Defects) else bif mkOk (a1.Rings.length:Int) 32 then (IJ a1.Defects a2).bind λv9=> (XH a1 a2 FUEL 0 (List.replicate ((a1.Rings.length:Int).toNat) (Ring.mk 0 []))).bind λo23=> some (Scan.mk o23 v9) else none
def NC (x3:Int) (R:(List Int)->Int->Option (List Int)) (l8:List Int):Option (List Int):= R l8 (w64 (x3+1))
def QM (a1:Ring):Nat->(List Int)->Int->Option (List Int)
 |0,_,_=>none
 |n+1,l2,x3=> bif decide (x3<(a1.Read.length:Int)) then bif inb x3 a1.Read.length then bif (a1.Read.getD x3.toNat du).Ok then bif room (l2.length+1) 8 then NC x3 (QM a1 n) (l2++[x3]) else none else NC x3 (QM a1 n) l2 else none else some l2
def KQ (a1:Ring):Option (List Int):= (QM a1 FUEL [] 0).bind λo10=> some o10
def qCG (x5:Bool):Option Bool:= some x5
def qE3 (a1:qA) (a2:qA) (a3:Int):Option Bool:= bif decide ((imax (w64 (a1.X-a2.X)) (w64 (a2.X-a1.X)))>a3) then qCG true else qCG (decide ((imax (w64 (a1.Y-a2.Y)) (w64 (a2.Y-a1.Y)))>a3))
def OI (x18:Int) (R:Bool->Int->Option Bool) (x28:Bool):Option Bool:= R x28 (w64 (x18+1))
def yP (a1:Ring) (a2:Int) (v5:(List Int)) (x13:Int):Nat->Bool->Int->Option Bool
 |0,_,_=>none
 |n+1,x17,x18=> bif decide (x18<2) then bif inb x18 2 then bif nz (v5.length:Int) then bif inb (Int.tmod (w64 ((w64 (x13+(v5.length:Int)))+(([(-1),1]:List Int).getD x18.toNat 0))) (v5.length:Int)) v5.length then bif inb (v5.getD ((Int.tmod (w64 ((w64 (x13+(v5.length:Int)))+(([(-1),1]:List Int).getD x18.toNat 0))) (v5.length:Int)).toNat) du) a1.Read.length then bif x17 then bif inb (v5.getD x13.toNat du) a1.Read.length then (qE3 ((a1.Read.getD (v5.getD x13.toNat du).toNat du).P) ((a1.Read.getD (v5.getD ((Int.tmod (w64 ((w64 (x13+(v5.length:Int)))+(([(-1),1]:List Int).getD x18.toNat 0))) (v5.length:Int)).toNat) du).toNat du).P) a2).bind λv26=> OI x18 (yP a1 a2 v5 x13 n) v26 else none else OI x18 (yP a1 a2 v5 x13 n) false
 else none else none else none else none else some x17
def OE (x13:Int) (R:Int->(List qP)->Option (List qP)) (l34:List qP):Option (List qP):= R (w64 (x13+1)) l34
def JK (a1:Ring) (a2:Int) (v5:(List Int)):Nat->Int->(List qP)->Option (List qP)
 |0,_,_=>none
 |n+1,x13,l14=> bif decide (x13<(v5.length:Int)) then bif inb x13 v5.length then (yP a1 a2 v5 x13 FUEL true 0).bind λo30=> bif o30 then bif inb (v5.getD x13.toNat du) l14.length then OE x13 (JK a1 a2 v5 n) (l14.set ((v5.getD x13.toNat du).toNat) (qP.mk (qA.mk 0 0) false)) else none else OE x13 (JK a1 a2 v5 n) l14 else none else some l14
def NX (a1:Ring) (a2:Int) (v3:Ring) (v5:(List Int)) (x11:Bool):Option Ring:= bif x11 then some (Ring.mk v3.Z v3.Read) else (JK a1 a2 v5 FUEL 0 v3.Read).bind λo36=> some (Ring.mk v3.Z o36)
def qAq (a1:Ring) (a2:Int):Option Ring:= (EE a1).bind λv3=> (KQ a1).bind λv5=> bif decide (a2<0) then NX a1 a2 v3 v5 true else bif decide ((v5.length:Int)<2) then NX a1 a2 v3 v5 true else (US a1).bind λv9=> NX a1 a2 v3 v5 (v9 !=0)
def FT (a1:Ring) (a2:List Int) (a3:Int):Option Int:= bif decide ((w64 (a3+1))<(a2.length:Int)) then bif inb (w64 (a3+1)) a2.length then bif inb a3 a2.length then some (w64 ((w64 ((a2.getD (w64 (a3+1)).toNat du)-(a2.getD a3.toNat du)))-1)) else none else none else bif inb 0 a2.length then bif inb a3 a2.length then some (w64 ((w64 ((w64 ((a2.getD (0:Int).toNat du)+(a1.Read.length:Int)))-(a2.getD a3.toNat du)))-1)) else none else none
def GI (a1:Ring) (v2:(List Int)):Nat->Int->Int->Option Int
 |0,_,_=>none
 |n+1,x5,x6=> bif decide (x6<(v2.length:Int)) then (FT a1 v2 x6).bind λv8=> (GI a1 v2 n) (imax x5 v8) (w64 (x6+1)) else some x5
def CR (a1:Ring):Option (Int×Int):= (KQ a1).bind λv2=> bif (v2.length:Int)==0 then some (w64 ((a1.Read.length:Int)-(v2.length:Int)),w64 ((a1.Read.length:Int)-(v2.length:Int))) else (GI a1 v2 FUEL 0 0).bind λo11=> some (w64 ((a1.Read.length:Int)-(v2.length:Int)),o11)
def OD (x5:Int):Option Int:= some x5
def EM (a1:Int) (a2:Int):Option Int:= bif nz a2 then bif decide ((Int.tmod a1 a2)<0) then OD (w64 ((w64 (Int.tdiv a1 a2))-1)) else OD (w64 (Int.tdiv a1 a2)) else none
def RF (a1:Ring) (v6:(List Int)) (x16:Int) (v24:Int):Nat->(List qA)->Int->Option (List qA)
 |0,_,_=>none
 |n+1,l26,x27=> bif decide (x27<=v24) then bif nz (l26.length:Int) then (EM (w64 ((w64 ((((a1.Read.getD (v6.getD ((Int.tmod (w64 (x16+1)) (v6.length:Int)).toNat) du).toNat du).P).X)-(((a1.Read.getD (v6.getD x16.toNat du).toNat du).P).X)))*x27)) (w64 (v24+1))).bind λv30=> (EM (w64 ((w64 ((((a1.Read.getD (v6.getD ((Int.tmod (w64 (x16+1)) (v6.length:Int)).toNat) du).toNat du).P).Y)-(((a1.Read.getD (v6.getD x16.toNat du).toNat du).P).Y)))*x27)) (w64 (v24+1))).bind λv32=> bif inb (Int.tmod (w64 ((v6.getD x16.toNat du)+x27)) (l26.length:Int)) l26.length then (RF a1 v6 x16 v24 n) (l26.set ((Int.tmod (w64 ((v6.getD x16.toNat du)+x27)) (l26.length:Int)).toNat) (qA.mk (w64 ((((a1.Read.getD (v6.getD x16.toNat du).toNat du).P).X)+v30)) (w64 ((((a1.Read.getD (v6.getD x16.toNat du).toNat du).P).Y)+v32)))) (w64 (x27+1))
 else none else none else some l26
def YP (a1:Ring) (v6:(List Int)):Nat->(List qA)->Int->Option (List qA)
 |0,_,_=>none
 |n+1,l15,x16=> bif decide (x16<(v6.length:Int)) then bif inb x16 v6.length then bif inb (v6.getD x16.toNat du) a1.Read.length then bif nz (v6.length:Int) then bif inb (Int.tmod (w64 (x16+1)) (v6.length:Int)) v6.length then bif inb (v6.getD ((Int.tmod (w64 (x16+1)) (v6.length:Int)).toNat) du) a1.Read.length then bif inb (v6.getD x16.toNat du) l15.length then (FT a1 v6 x16).bind λv24=> (RF a1 v6 x16 v24 FUEL (l15.set ((v6.getD x16.toNat du).toNat) ((a1.Read.getD (v6.getD x16.toNat du).toNat du).P)) 1).bind λo36=> (YP a1 v6 n) o36 (w64 (x16+1)) else none else none else none else none else none else none else some l15
def GR (a1:Ring) (v6:(List Int)) (x12:Bool):Option ((List qA)×Int):= bif x12 then some ([],30) else bif mkOk (a1.Read.length:Int) 16 then (YP a1 v6 FUEL (List.replicate ((a1.Read.length:Int).toNat) (qA.mk 0 0)) 0).bind λo39=> some (o39,0) else none
def IK (a1:Ring) (a2:Int):Option ((List qA)×Int):= (US a1).bind λv3=> bif v3 !=0 then some ([],v3) else (KQ a1).bind λv6=> (CR a1).bind λv8=> bif decide ((v6.length:Int)<3) then GR a1 v6 true else bif decide (v8.1>0) then GR a1 v6 (decide (v8.2>a2)) else GR a1 v6 false
def EF (x3:Bool):Option Bool:= some x3
def FP (a1:Int):Option Bool:= bif decide (a1≥(-600)) then EF (decide (a1<=600)) else EF false
def LI (x2:Int) (R:Int->Option (Bool⊕Unit)) (x10:Bool):Option (Bool⊕Unit):= bif x10 then some (Sum.inl false) else R (w64 (x2+1))
def JD (a1:List qA):Nat->Int->Option (Bool⊕Unit)
 |0,_=>none
 |n+1,x2=> bif decide (x2<(a1.length:Int)) then bif inb x2 a1.length then (FP ((a1.getD x2.toNat du).X)).bind λv5=> bif !v5 then LI x2 (JD a1 n) true else (FP ((a1.getD x2.toNat du).Y)).bind λv8=> LI x2 (JD a1 n) (!v8) else none else some (Sum.inr ())
def RV (a1:List qA):Option Bool:= (JD a1 FUEL 0).bind λu14=>Sum.elim (λv15=>some v15) (λo12=> some true) u14
def TM (a1:List qA):Nat->Int->Int->Option Int
 |0,_,_=>none
 |n+1,x7,x8=> bif decide (x8<(a1.length:Int)) then bif inb x8 a1.length then bif nz (a1.length:Int) then bif inb (Int.tmod (w64 (x8+1)) (a1.length:Int)) a1.length then (TM a1 n) (w64 (x7+(w64 ((w64 (((a1.getD x8.toNat du).X)*((a1.getD (Int.tmod (w64 (x8+1)) (a1.length:Int)).toNat du).Y)))-(w64 (((a1.getD (Int.tmod (w64 (x8+1)) (a1.length:Int)).toNat du).X)*((a1.getD x8.toNat du).Y))))))) (w64 (x8+1)) else none else none else none else some x7
def IQ (a1:List qA) (x5:Bool):Option Int:= bif x5 then some 0 else (TM a1 FUEL 0 0).bind λo14=> some o14
def qA1 (a1:List qA):Option Int:= bif decide ((a1.length:Int)>32) then IQ a1 true else (RV a1).bind λv3=> IQ a1 (!v3)
def qAY (a1:List qA):Option Int:= bif decide ((a1.length:Int)<3) then some 3 else bif decide ((a1.length:Int)>32) then some 4 else (RV a1).bind λv4=> bif !v4 then some 9 else (qA1 a1).bind λv7=> bif v7==0 then some 19 else some 0
def XU (a1:Int) (a2:Int):Option Span:= some (Span.mk (w64 (10*a1)) (w64 (10*a2)))
def YE (a1:List qA):Option (List qA):= bif room a1.length 16 then some a1 else none
def FF (a1:Int):Option Bool:= some (a1 !=a1)
def KF (a1:Int) (a2:Int):Option Int:= (FF a1).bind λv3=> (FF a2).bind λv5=> bif v3 then bif v5 then some 0 else some (-1) else bif v5 then some 1 else bif decide (a1<a2) then some (-1) else bif decide (a1>a2) then some 1 else some 0
def RG (a1:List Int):Nat->Int->Option (Int⊕Unit)
 |0,_=>none
 |n+1,x2=> bif decide (x2<(a1.length:Int)) then bif inb x2 a1.length then bif (a1.getD x2.toNat du) !=0 then some (Sum.inl (a1.getD x2.toNat du)) else (RG a1 n) (w64 (x2+1)) else none else some (Sum.inr ())
def IH (a1:List Int):Option Int:= (RG a1 FUEL 0).bind λu8=>Sum.elim (λv9=>some v9) (λo6=> some 0) u8
def poly_Hull_1 (a1:qA) (a2:qA):Option Int:= (KF a1.X a2.X).bind λv3=> (KF a1.Y a2.Y).bind λv5=> (IH [v3,v5]).bind λv7=> some v7
def ZQ (a1:List qA):Option (List qA):= bif qK5 a1.length then some (FM poly_Hull_1 a1) else none
def WV (x12:Int) (R:(List qA)->Int->Int->Option ((List qA)×Int)) (l19:List qA) (x20:Int):Option ((List qA)×Int):= R l19 x20 (w64 (x12+1))
def jF (l3:List qA) (x4:Int):Nat->(List qA)->Int->Int->Option ((List qA)×Int)
 |0,_,_,_=>none
 |n+1,l10,x11,x12=> bif decide (x12<(((l3.length-x4.toNat):Nat):Int)) then bif inb x12 (l3.length-x4.toNat) then bif Nat.ble (x4.toNat+(l3.length-x4.toNat)) l10.length then bif inb (w64 (x12-1)) (l3.length-x4.toNat) then bif !((((l10.getD (x4.toNat+x12.toNat) du).X)==((l10.getD (x4.toNat+((w64 (x12-1)).toNat)) du).X))&&((((l10.getD (x4.toNat+x12.toNat) du).Y)==((l10.getD (x4.toNat+((w64 (x12-1)).toNat)) du).Y))&&true)) then bif inb x11 l10.length then WV x12 (jF l3 x4 n) (l10.set x11.toNat (l10.getD (x4.toNat+x12.toNat) du)) (w64 (x11+1)) else none else WV x12 (jF l3 x4 n) l10 x11 else none else none else none else some (l10,x11)
def jX :Nat->(List qA)->Int->Option (((List qA)×(List qA))⊕(List qA))
 |0,_,_=>none
 |n+1,l3,x4=> bif decide (x4<(l3.length:Int)) then bif inb x4 l3.length then bif inb (w64 (x4-1)) l3.length then bif ((((l3.getD x4.toNat du).X)==((l3.getD ((w64 (x4-1)).toNat) du).X))&&((((l3.getD x4.toNat du).Y)==((l3.getD ((w64 (x4-1)).toNat) du).Y))&&true)) then bif slOk x4 (l3.length:Int) l3.length then (jF l3 x4 FUEL l3 x4 1).bind λo23=> bif slOk o23.2 (o23.1.length:Int) o23.1.length then bif slOk 0 o23.2 o23.1.length then some (Sum.inl ((o23.1.take o23.2.toNat),(o23.1.take o23.2.toNat))) else none else none else none else (jX n) l3 (w64 (x4+1)) else none else none else some (Sum.inr l3)
def QG (a1:List qA):Option ((List qA)×(List qA)):= bif decide ((a1.length:Int)<2) then some (a1,a1) else (jX FUEL a1 1).bind λu30=>Sum.elim (λv31=>some v31) (λo28=> some (o28,o28)) u30
def qAN (a1:qA) (a2:qA) (a3:qA):Option Int:= some (w64 ((w64 ((w64 (a2.X-a1.X))*(w64 (a3.Y-a1.Y))))-(w64 ((w64 (a3.X-a1.X))*(w64 (a2.Y-a1.Y))))))
def OF (l6:List qA) (R:(List qA)->Option (List qA)) (x12:Bool):Option (List qA):= bif x12 then bif slOk 0 (w64 ((l6.length:Int)-1)) l6.length then R (l6.take ((w64 ((l6.length:Int)-1)).toNat)) else none else some l6
def KP (a1:List qA) (x3:Int):Nat->(List qA)->Option (List qA)
 |0,_=>none
 |n+1,l6=> bif decide ((l6.length:Int)≥2) then bif inb (w64 ((l6.length:Int)-2)) l6.length then bif inb (w64 ((l6.length:Int)-1)) l6.length then (qAN (l6.getD ((w64 ((l6.length:Int)-2)).toNat) du) (l6.getD ((w64 ((l6.length:Int)-1)).toNat) du) (a1.getD x3.toNat du)).bind λv10=> OF l6 (KP a1 x3 n) (decide (v10<=0)) else none else none else OF l6 (KP a1 x3 n) false
def NY (a1:List qA):Nat->(List qA)->Int->Option (List qA)
 |0,_,_=>none
 |n+1,l2,x3=> bif decide (x3<(a1.length:Int)) then bif inb x3 a1.length then (KP a1 x3 FUEL l2).bind λo16=> bif room (o16.length+1) 16 then (NY a1 n) (o16++[(a1.getD x3.toNat du)]) (w64 (x3+1)) else none else none else some l2
def SY (a1:List qA):Option (List qA):= (NY a1 FUEL [] 0).bind λo20=> bif slOk 0 (w64 ((o20.length:Int)-1)) o20.length then some (o20.take ((w64 ((o20.length:Int)-1)).toNat)) else none
def QN :Nat->(List qA)->Int->Int->Option (List qA)
 |0,_,_,_=>none
 |n+1,l2,x3,x4=> bif decide (x3<x4) then bif inb x4 l2.length then bif inb x3 l2.length then (QN n) ((l2.set x3.toNat (l2.getD x4.toNat du)).set x4.toNat (l2.getD x3.toNat du)) (w64 (x3+1)) (w64 (x4-1)) else none else none else some l2
def WF (a1:List qA):Option (List qA):= (QN FUEL a1 0 (w64 ((a1.length:Int)-1))).bind λo9=> some o9
def SC (a1:List qA) (x6:Bool):Option (List qA):= bif x6 then some ([]:List qA) else (YE a1).bind λv8=> (ZQ v8).bind λv10=> bif v10.length==v8.length then (QG v10).bind λv13=> (SY v13.2).bind λv15=> (WF v13.2).bind λv17=> bif v17.length==v13.2.length then (SY v17).bind λv20=> bif room (v15.length+v20.length) 16 then bif decide ((((v15.length+v20.length):Nat):Int)<3) then some ([]:List qA) else some (v15++v20) else none else none else none
def qC0 (a1:List qA):Option (List qA):= bif decide ((a1.length:Int)<3) then SC a1 true else bif decide ((a1.length:Int)>32) then SC a1 true else (RV a1).bind λv4=> SC a1 (!v4)
def DX (a1:List qA):Nat->Int->Rect->Option Rect
 |0,_,_=>none
 |n+1,x4,x5=> bif decide (x4<(a1.length:Int)) then bif inb x4 a1.length then (DX a1 n) (w64 (x4+1)) (Rect.mk (Span.mk (imin x5.X.A ((a1.getD x4.toNat du).X)) (imax x5.X.B ((a1.getD x4.toNat du).X))) (Span.mk (imin x5.Y.A ((a1.getD x4.toNat du).Y)) (imax x5.Y.B ((a1.getD x4.toNat du).Y)))) else none else some x5
def IC (a1:List qA):Option Rect:= bif (a1.length:Int)==0 then some (Rect.mk (Span.mk 0 0) (Span.mk 0 0)) else bif inb 0 a1.length then (DX a1 FUEL 0 (Rect.mk (Span.mk ((a1.getD (0:Int).toNat du).X) ((a1.getD (0:Int).toNat du).X)) (Span.mk ((a1.getD (0:Int).toNat du).Y) ((a1.getD (0:Int).toNat du).Y)))).bind λo9=> some o9 else none
def IX (x5:Int):Option Int:= some x5
def SV (a1:Int) (a2:Int):Option Int:= bif nz a2 then bif decide ((Int.tmod a1 a2)<0) then IX (w64 ((w64 (Int.tdiv a1 a2))-1)) else IX (w64 (Int.tdiv a1 a2)) else none
def VK (x6:Int) (R:Int->Int->Int->Option (Int×Int)) (x23:Int) (x24:Int):Option (Int×Int):= R x23 x24 (w64 (x6+1))
def UJ (a1:Int) (a3:List qA) (x4:Int) (x5:Int) (x6:Int) (R:Int->Int->Int->Option (Int×Int)) (x19:Bool):Option (Int×Int):= bif x19 then (SV (w64 ((w64 (((a3.getD ((Int.tmod (w64 (x6+1)) (a3.length:Int)).toNat) du).X)-((a3.getD x6.toNat du).X)))*(w64 (a1-((a3.getD ((Int.tmod (w64 (x6+1)) (a3.length:Int)).toNat) du).Y))))) (w64 (((a3.getD x6.toNat du).Y)-((a3.getD ((Int.tmod (w64 (x6+1)) (a3.length:Int)).toNat) du).Y)))).bind λv21=> VK x6 R (w64 (((a3.getD ((Int.tmod (w64 (x6+1)) (a3.length:Int)).toNat) du).X)-v21)) x5 else VK x6 R x4 x5
def UG (a1:Int) (a3:List qA) (x4:Int) (x5:Int) (x6:Int) (R:Int->Int->Int->Option (Int×Int)) (x13:Bool):Option (Int×Int):= bif x13 then (SV (w64 ((w64 (((a3.getD ((Int.tmod (w64 (x6+1)) (a3.length:Int)).toNat) du).X)-((a3.getD x6.toNat du).X)))*(w64 (a1-((a3.getD x6.toNat du).Y))))) (w64 (((a3.getD ((Int.tmod (w64 (x6+1)) (a3.length:Int)).toNat) du).Y)-((a3.getD x6.toNat du).Y)))).bind λv15=> VK x6 R x4 (w64 (((a3.getD x6.toNat du).X)+v15)) else bif decide (((a3.getD x6.toNat du).Y)>((a3.getD ((Int.tmod (w64 (x6+1)) (a3.length:Int)).toNat) du).Y)) then bif decide (((a3.getD ((Int.tmod (w64 (x6+1)) (a3.length:Int)).toNat) du).Y)<=a1) then UJ a1 a3 x4 x5 x6 R (decide (a1<=((a3.getD x6.toNat du).Y)))
 else UJ a1 a3 x4 x5 x6 R false else UJ a1 a3 x4 x5 x6 R false
def jI (a1:Int) (a3:List qA):Nat->Int->Int->Int->Option (Int×Int)
 |0,_,_,_=>none
 |n+1,x4,x5,x6=> bif decide (x6<(a3.length:Int)) then bif inb x6 a3.length then bif nz (a3.length:Int) then bif inb (Int.tmod (w64 (x6+1)) (a3.length:Int)) a3.length then bif decide (((a3.getD x6.toNat du).Y)<((a3.getD ((Int.tmod (w64 (x6+1)) (a3.length:Int)).toNat) du).Y)) then bif decide (((a3.getD x6.toNat du).Y)<=a1) then UG a1 a3 x4 x5 x6 (jI a1 a3 n) (decide (a1<=((a3.getD ((Int.tmod (w64 (x6+1)) (a3.length:Int)).toNat) du).Y))) else UG a1 a3 x4 x5 x6 (jI a1 a3 n) false else UG a1 a3 x4 x5 x6 (jI a1 a3 n) false else none else none else none else some (x4,x5)
def DT (a1:Int) (a2:Rect) (a3:List qA):Option (Int×Int):= (jI a1 a3 FUEL a2.X.A a2.X.B 0).bind λo27=> some (o27.1,o27.2)
def UB (a2:Int) (a3:Int) (v4:(List qA)) (v6:Rect) (x11:Bool):Option Span:= bif x11 then some (Span.mk 0 0) else (DT a2 v6 v4).bind λv13=> (DT a3 v6 v4).bind λv15=> bif decide ((imax v13.1 v15.1)≥(imin v13.2 v15.2)) then some (Span.mk 0 0) else some (Span.mk (imax v13.1 v15.1) (imin v13.2 v15.2))
def qA7 (a1:List qA) (a2:Int) (a3:Int):Option Span:= (qC0 a1).bind λv4=> (IC v4).bind λv6=> bif (v4.length:Int)==0 then UB a2 a3 v4 v6 true else bif decide (a2≥a3) then UB a2 a3 v4 v6 true else bif decide (a2<v6.Y.A) then UB a2 a3 v4 v6 true else UB a2 a3 v4 v6 (decide (a3>v6.Y.B))
def HX (a1:Int) (a2:List qA):Option Span:= (XU a1 (w64 (a1+1))).bind λv3=> (qA7 a2 v3.A v3.B).bind λv5=> some v5
def QC (a1:Span):Option Bool:= some (decide (a1.A≥a1.B))
def RY (x3:Int) (R:Int->Int->Int->(List Span)->Option (Int×Int×(List Span))) (x17:Int) (x18:Int) (l19:List Span):Option (Int×Int×(List Span)):= R x17 (w64 (x3+1)) x18 l19
def BP (x3:Int) (l5:List Span) (R:Int->Int->Int->(List Span)->Option (Int×Int×(List Span))) (v7:Span) (x13:Int):Option (Int×Int×(List Span)):= bif room (l5.length+1) 16 then RY x3 R (((l5.length+1):Nat):Int) x13 (l5++[v7]) else none
def jE (a1:List qA):Nat->Int->Int->Int->(List Span)->Option (Int×Int×(List Span))
 |0,_,_,_,_=>none
 |n+1,x2,x3,x4,l5=> bif decide (x3<60) then (HX x3 a1).bind λv7=> (QC v7).bind λv9=> bif !v9 then bif x2==0 then BP x3 l5 (jE a1 n) v7 x3 else BP x3 l5 (jE a1 n) v7 x4 else bif decide (x2>0) then bif room (l5.length+1) 16 then RY x3 (jE a1 n) x2 x4 (l5++[(Span.mk 0 0)]) else none else RY x3 (jE a1 n) x2 x4 l5 else some (x2,x4,l5)
def FA (a1:List qA):Option qG:= (jE a1 FUEL 0 (-60) 0 []).bind λo23=> bif slOk 0 o23.1 o23.2.2.length then some (qG.mk o23.2.1 (o23.2.2.take o23.1.toNat)) else none
def qAv (a1:List qA):Option (qG×Int):= (qAY a1).bind λv2=> bif v2 !=0 then some ((qG.mk 0 []),v2) else (FA a1).bind λv5=> bif (v5.Rows.length:Int)==0 then some ((qG.mk 0 []),18) else some ((qG.mk v5.Low v5.Rows),0)
def DP (a1:Ring) (a2:Int) (a3:Int):Option (qG×Int):= (qAq a1 a2).bind λv4=> (IK (Ring.mk v4.Z v4.Read) a3).bind λv6=> bif v6.2 !=0 then some ((qG.mk 0 []),v6.2) else (qAv v6.1).bind λv9=> some ((qG.mk v9.1.Low v9.1.Rows),v9.2)
def UO (x3:Bool):Option Bool:= some x3
def VC (a1:Span):Option Bool:= bif decide ((imin a1.A a1.B)≥(-600)) then UO (decide ((imax a1.A a1.B)<=600)) else UO false
def ZX (a1:qG):Nat->Int->Option (Int⊕Unit)
 |0,_=>none
 |n+1,x6=> bif decide (x6<(a1.Rows.length:Int)) then bif inb x6 a1.Rows.length then (VC (a1.Rows.getD x6.toNat du)).bind λv9=> bif !v9 then some (Sum.inl 9) else (ZX a1 n) (w64 (x6+1)) else none else some (Sum.inr ())
def NG (x27:Int) (R:Int->Option (Int⊕Unit)) (x33:Bool):Option (Int⊕Unit):= bif x33 then some (Sum.inl 19) else R (w64 (x27+1))
def yI (a1:qG):Nat->Int->Option (Int⊕Unit)
 |0,_=>none
 |n+1,x27=> bif decide (x27<(a1.Rows.length:Int)) then bif inb x27 a1.Rows.length then (QC (a1.Rows.getD x27.toNat du)).bind λv30=> bif v30 then NG x27 (yI a1 n) (!((((a1.Rows.getD x27.toNat du).A)==0)&&((((a1.Rows.getD x27.toNat du).B)==0)&&true))) else NG x27 (yI a1 n) false else none else some (Sum.inr ())
def BJ (a1:qG) (x25:Bool):Option Int:= bif x25 then some 19 else (yI a1 FUEL 0).bind λu37=>Sum.elim (λv38=>some v38) (λo35=> some 0) u37
def ND (a1:qG) (x4:Bool):Option Int:= bif x4 then some 9 else (ZX a1 FUEL 0).bind λu14=>Sum.elim (λv15=>some v15) (λo12=> bif (a1.Rows.length:Int)==0 then bif a1.Low !=0 then some 19 else some 0 else bif inb 0 a1.Rows.length then (QC (a1.Rows.getD (0:Int).toNat du)).bind λv19=> bif v19 then BJ a1 true else bif inb (w64 ((a1.Rows.length:Int)-1)) a1.Rows.length then (QC (a1.Rows.getD (w64 ((a1.Rows.length:Int)-1)).toNat du)).bind λv23=> BJ a1 v23 else none else none) u14
def KZ (a1:qG):Option Int:= bif decide ((a1.Rows.length:Int)>120) then some 4 else bif decide (a1.Low<(-60)) then ND a1 true else ND a1 (decide (a1.Low>(w64 (60-(a1.Rows.length:Int)))))
def QX (a1:qG):Option qG:= (KZ a1).bind λv2=> bif v2 !=0 then some (qG.mk 0 []) else some a1
def IV (a1:qG) (a2:Int) (x4:Bool):Option Span:= bif x4 then some (Span.mk 0 0) else bif inb (w64 (a2-a1.Low)) a1.Rows.length then some (a1.Rows.getD (w64 (a2-a1.Low)).toNat du) else none
def ST (a1:qG) (a2:Int):Option Span:= bif decide (a2<a1.Low) then IV a1 a2 true else IV a1 a2 (decide (a2≥(w64 (a1.Low+(a1.Rows.length:Int)))))
def WH (a1:Span) (a2:Span):Option Span:= bif decide ((imax a1.A a2.A)≥(imin a1.B a2.B)) then some (Span.mk 0 0) else some (Span.mk (imax a1.A a2.A) (imin a1.B a2.B))
def GW (a1:Int) (a2:qG) (a3:qG):Option Span:= (ST a2 a1).bind λv4=> (ST a3 a1).bind λv6=> (WH v4 v6).bind λv8=> some v8
def YF (x4:Int) (R:Int->Int->Int->(List Span)->Option (Int×Int×(List Span))) (x18:Int) (x19:Int) (l20:List Span):Option (Int×Int×(List Span)):= R x18 (w64 (x4+1)) x19 l20
def TH (x4:Int) (l6:List Span) (R:Int->Int->Int->(List Span)->Option (Int×Int×(List Span))) (v8:Span) (x14:Int):Option (Int×Int×(List Span)):= bif room (l6.length+1) 16 then YF x4 R (((l6.length+1):Nat):Int) x14 (l6++[v8]) else none
def wN (a1:qG) (a2:qG):Nat->Int->Int->Int->(List Span)->Option (Int×Int×(List Span))
 |0,_,_,_,_=>none
 |n+1,x3,x4,x5,l6=> bif decide (x4<60) then (GW x4 a1 a2).bind λv8=> (QC v8).bind λv10=> bif !v10 then bif x3==0 then TH x4 l6 (wN a1 a2 n) v8 x4 else TH x4 l6 (wN a1 a2 n) v8 x5 else bif decide (x3>0) then bif room (l6.length+1) 16 then YF x4 (wN a1 a2 n) x3 x5 (l6++[(Span.mk 0 0)]) else none else YF x4 (wN a1 a2 n) x3 x5 l6 else some (x3,x5,l6)
def RK (a1:qG) (a2:qG):Option qG:= (wN a1 a2 FUEL 0 (-60) 0 []).bind λo24=> bif slOk 0 o24.1 o24.2.2.length then some (qG.mk o24.2.1 (o24.2.2.take o24.1.toNat)) else none
def DR (a1:qG) (a2:qG):Option qG:= (QX a1).bind λv3=> (QX a2).bind λv5=> (RK v3 v5).bind λv7=> some (qG.mk v7.Low v7.Rows)
def TN (a1:Scan) (a2:Int) (a3:Int):Nat->(List qG)->Int->Option (((List qO)×Int)⊕(List qG))
 |0,_,_=>none
 |n+1,l8,x9=> bif decide (x9<(a1.Rings.length:Int)) then bif inb x9 a1.Rings.length then (DP (a1.Rings.getD x9.toNat du) a2 a3).bind λv12=> bif v12.2 !=0 then some (Sum.inl ([],30)) else bif inb x9 l8.length then (TN a1 a2 a3 n) (l8.set x9.toNat v12.1) (w64 (x9+1)) else none else none else some (Sum.inr l8)
def UC (a1:Scan) (o17:(List qG)):Nat->(List qO)->Int->Option (((List qO)×Int)⊕(List qO))
 |0,_,_=>none
 |n+1,l22,x23=> bif decide (x23<(((w64 ((a1.Rings.length:Int)-1)).toNat:Nat):Int)) then bif inb x23 o17.length then bif inb (w64 (x23+1)) o17.length then (DR (o17.getD x23.toNat du) (o17.getD ((w64 (x23+1)).toNat) du)).bind λv27=> bif (v27.Rows.length:Int)==0 then some (Sum.inl ([],30)) else bif inb (w64 (x23+1)) a1.Rings.length then bif inb x23 a1.Rings.length then bif inb x23 l22.length then (UC a1 o17 n) (l22.set x23.toNat (qO.mk (w64 (((a1.Rings.getD (w64 (x23+1)).toNat du).Z)-((a1.Rings.getD x23.toNat du).Z))) v27)) (w64 (x23+1)) else none else none else none else none else none else some (Sum.inr l22)
def EA (a1:Scan) (a2:Int) (a3:Int):Option ((List qO)×Int):= (SN a1).bind λv4=> bif v4 !=0 then some ([],v4) else bif mkOk (a1.Rings.length:Int) 32 then (TN a1 a2 a3 FUEL (List.replicate ((a1.Rings.length:Int).toNat) (qG.mk 0 [])) 0).bind λu19=>Sum.elim (λv20=>some v20) (λo17=> bif mkOk (w64 ((a1.Rings.length:Int)-1)) 40 then (UC a1 o17 FUEL (List.replicate ((w64 ((a1.Rings.length:Int)-1)).toNat) (qO.mk 0 (qG.mk 0 []))) 0).bind λu39=>Sum.elim (λv40=>some v40) (λo37=> some (o37,0)) u39 else none) u19 else none
def wU (a1:Scan) (a2 a3 a4:Int):Option ((List qO)×(List qH)×Int):= (MV a1 a2).bind λv1=> (EA v1 a3 a4).bind λv2=> (yL v1.Defects).bind λv3=> bif v2.2 !=0 then some ([],[],v2.2) else some (v2.1,v3,v2.2)
def qBZ (a1:List qO) (x4:Int) (x5:Int) (R:Int->Int->Option (Int⊕Unit)) (x13:Bool):Option (Int⊕Unit):= bif x13 then some (Sum.inl 9) else R (w64 (x4+((a1.getD x5.toNat du).Len))) (w64 (x5+1))
def WE (a1:List qO):Nat->Int->Int->Option (Int⊕Unit)
 |0,_,_=>none
 |n+1,x4,x5=> bif decide (x5<(a1.length:Int)) then bif inb x5 a1.length then (KZ ((a1.getD x5.toNat du).Sec)).bind λv8=> bif v8 !=0 then some (Sum.inl v8) else bif (((((a1.getD x5.toNat du).Sec).Rows).length:Nat):Int)==0 then some (Sum.inl 18) else bif decide (((a1.getD x5.toNat du).Len)<1) then qBZ a1 x4 x5 (WE a1 n) true else qBZ a1 x4 x5 (WE a1 n) (decide (((a1.getD x5.toNat du).Len)>(w64 (20000-x4)))) else none else some (Sum.inr ())
def PT (a1:List qO):Option Int:= bif (a1.length:Int)==0 then some 3 else bif decide ((a1.length:Int)>24) then some 4 else (WE a1 FUEL 0 0).bind λu17=>Sum.elim (λv18=>some v18) (λo15=> some 0) u17
def PS (a1:List qO):Option (List qO):= (PT a1).bind λv2=> bif v2 !=0 then some ([]:List qO) else some a1
def AI (x6:Int) (R:Int->Span->Option Span) (x13:Span):Option Span:= R (w64 (x6+1)) x13
def yY (v2:qG):Nat->Int->Span->Option Span
 |0,_,_=>none
 |n+1,x6,x7=> bif decide (x6<(v2.Rows.length:Int)) then bif inb x6 v2.Rows.length then (QC (v2.Rows.getD x6.toNat du)).bind λv10=> bif !v10 then AI x6 (yY v2 n) (Span.mk (imin x7.A ((v2.Rows.getD x6.toNat du).A)) (imax x7.B ((v2.Rows.getD x6.toNat du).B))) else AI x6 (yY v2 n) x7 else none else some x7
def BA (a1:qG):Option Rect:= (QX a1).bind λv2=> bif (v2.Rows.length:Int)==0 then some (Rect.mk (Span.mk 0 0) (Span.mk 0 0)) else bif inb 0 v2.Rows.length then (yY v2 FUEL 0 (v2.Rows.getD (0:Int).toNat du)).bind λo15=> (XU v2.Low (w64 (v2.Low+(v2.Rows.length:Int)))).bind λv17=> some (Rect.mk o15 v17) else none
def qAi (x4:Int) (R:Int->Rect->Option Rect) (v8:Rect) (x11:Rect):Option Rect:= R (w64 (x4+1)) (Rect.mk (Span.mk (imin x11.X.A v8.X.A) (imax x11.X.B v8.X.B)) (Span.mk (imin x11.Y.A v8.Y.A) (imax x11.Y.B v8.Y.B)))
def ZN (v2:(List qO)):Nat->Int->Rect->Option Rect
 |0,_,_=>none
 |n+1,x4,x5=> bif decide (x4<(v2.length:Int)) then bif inb x4 v2.length then (BA ((v2.getD x4.toNat du).Sec)).bind λv8=> bif x4==0 then qAi x4 (ZN v2 n) v8 v8 else qAi x4 (ZN v2 n) v8 x5 else none else some x5
def HI (a1:List qO):Option Rect:= (PS a1).bind λv2=> (ZN v2 FUEL 0 (Rect.mk (Span.mk 0 0) (Span.mk 0 0))).bind λo13=> some o13
def PK (a1:List qO):Option Rect:= (HI a1).bind λv2=> some v2
def OP (x3:Bool):Option Bool:= some x3
def TP (a1:Int):Option Bool:= bif decide (97<=a1) then OP (decide (a1<=122)) else OP false
def CE (x3:Bool):Option Bool:= some x3
def NS (a1:Int):Option Bool:= bif decide (48<=a1) then CE (decide (a1<=57)) else CE false
def UI (x9:Int) (R:Int->Option (Bool⊕Unit)) (x18:Bool):Option (Bool⊕Unit):= bif x18 then some (Sum.inl false) else R (w64 (x9+1))
def QA (a1:ByteArray):Nat->Int->Option (Bool⊕Unit)
 |0,_=>none
 |n+1,x9=> bif decide (x9<(a1.size:Int)) then bif inb x9 a1.size then (TP (TI a1 x9.toNat)).bind λv12=> bif !v12 then (NS (TI a1 x9.toNat)).bind λv15=> bif !v15 then UI x9 (QA a1 n) ((TI a1 x9.toNat) !=95) else UI x9 (QA a1 n) false else UI x9 (QA a1 n) false else none else some (Sum.inr ())
def UX (a1:ByteArray) (x7:Bool):Option Bool:= bif x7 then some false else (QA a1 FUEL 1).bind λu22=>Sum.elim (λv23=>some v23) (λo20=> some true) u22
def ME (a1:ByteArray):Option Bool:= bif decide ((a1.size:Int)<1) then UX a1 true else bif decide ((a1.size:Int)>16) then UX a1 true else bif inb 0 a1.size then (TP (TI a1 ((0:Int).toNat))).bind λv5=> UX a1 (!v5) else none
def KB (a1:List qD) (a2:ByteArray):Nat->Int->Option ((Int×Bool)⊕Unit)
 |0,_=>none
 |n+1,x3=> bif decide (x3<(a1.length:Int)) then bif inb x3 a1.length then bif qLH ((a1.getD x3.toNat du).Name) a2 then some (Sum.inl (x3,true)) else (KB a1 a2 n) (w64 (x3+1)) else none else some (Sum.inr ())
def HB (a1:List qD) (a2:ByteArray):Option (Int×Bool):= (KB a1 a2 FUEL 0).bind λu9=>Sum.elim (λv10=>some v10) (λo7=> some (0,false)) u9
def VW (x3:Bool):Option Bool:= some x3
def PW (a1:Int):Option Bool:= bif decide (a1≥1) then VW (decide (a1<=600)) else VW false
def MJ (a1:Int) (a2:Int):Option Int:= some (w64 (Int.tdiv (w64 ((w64 (a1*(w64 (1000+a2))))+999)) 1000))
def YX (a1:qD) (x9:Bool):Option (Int×Int):= bif x9 then some (0,0) else (MJ a1.Thick a1.Allow).bind λv11=> (MJ a1.Width a1.Allow).bind λv13=> some (v11,v13)
def yS (a1:qD):Option (Int×Int):= (PW a1.Thick).bind λv2=> bif !v2 then YX a1 true else (PW a1.Width).bind λv5=> bif !v5 then YX a1 true else bif decide (a1.Allow<0) then YX a1 true else YX a1 (decide (a1.Allow>200))
def JU (x18:Int) (R:Int->Option (Int⊕Unit)) (x26:Bool):Option (Int⊕Unit):= bif x26 then some (Sum.inl 11) else R (w64 (x18+1))
def JX (a1:qD) (x18:Int) (R:Int->Option (Int⊕Unit)) (x22:Bool):Option (Int⊕Unit):= bif x22 then some (Sum.inl 9) else bif decide (x18>0) then bif inb (w64 (x18-1)) a1.Lengths.length then JU x18 R (decide ((a1.Lengths.getD x18.toNat du)<=(a1.Lengths.getD (w64 (x18-1)).toNat du))) else none else JU x18 R false
def wM (a1:qD):Nat->Int->Option (Int⊕Unit)
 |0,_=>none
 |n+1,x18=> bif decide (x18<(a1.Lengths.length:Int)) then bif inb x18 a1.Lengths.length then bif decide ((a1.Lengths.getD x18.toNat du)<100) then JX a1 x18 (wM a1 n) true else JX a1 x18 (wM a1 n) (decide ((a1.Lengths.getD x18.toNat du)>20000)) else none else some (Sum.inr ())
def JY (x32:Int) (R:Int->Option (Int⊕Unit)) (x36:Bool):Option (Int⊕Unit):= bif x36 then some (Sum.inl 9) else R (w64 (x32+1))
def wX (a1:qD):Nat->Int->Option (Int⊕Unit)
 |0,_=>none
 |n+1,x32=> bif decide (x32<(a1.Prices.length:Int)) then bif inb x32 a1.Prices.length then bif decide ((a1.Prices.getD x32.toNat du)<0) then JY x32 (wX a1 n) true else JY x32 (wX a1 n) (decide ((a1.Prices.getD x32.toNat du)>1000000)) else none else some (Sum.inr ())
def yF (a1:qD) (x10:Bool):Option Int:= bif x10 then some 9 else (yS a1).bind λv12=> bif decide (v12.2>600) then some 9 else bif (a1.Lengths.length:Int)==0 then some 3 else bif decide ((a1.Lengths.length:Int)>8) then some 4 else bif (a1.Prices.length:Int) !=(a1.Lengths.length:Int) then some 19 else (wM a1 FUEL 0).bind λu30=>Sum.elim (λv31=>some v31) (λo28=> (wX a1 FUEL 0).bind λu40=>Sum.elim (λv41=>some v41) (λo38=> some 0) u40) u30
def yE (a1:qD) (x5:Bool):Option Int:= bif x5 then some 9 else bif decide (a1.Allow<0) then yF a1 true else bif decide (a1.Allow>200) then yF a1 true else bif decide (a1.Wane<0) then yF a1 true else yF a1 (decide (a1.Wane>1000))
def JG (a1:qD):Option Int:= bif decide (a1.Thick<5) then yE a1 true else bif decide (a1.Thick>300) then yE a1 true else bif decide (a1.Width<a1.Thick) then yE a1 true else yE a1 (decide (a1.Width>600))
def YK (a1:List qD):Nat->Int->Option (Int⊕Unit)
 |0,_=>none
 |n+1,x3=> bif decide (x3<(a1.length:Int)) then bif inb x3 a1.length then (ME ((a1.getD x3.toNat du).Name)).bind λv6=> bif !v6 then some (Sum.inl 6) else bif slOk 0 x3 a1.length then (HB (a1.take x3.toNat) ((a1.getD x3.toNat du).Name)).bind λv10=> bif v10.2 then some (Sum.inl 7) else (JG (a1.getD x3.toNat du)).bind λv13=> bif v13 !=0 then some (Sum.inl v13) else (YK a1 n) (w64 (x3+1)) else none else none else some (Sum.inr ())
def ZW (a1:List qD):Option Int:= bif decide ((a1.length:Int)>16) then some 4 else (YK a1 FUEL 0).bind λu18=>Sum.elim (λv19=>some v19) (λo16=> some 0) u18
def LS (x3:Bool):Option Bool:= some x3
def GN (a1:Int):Option Bool:= bif decide (a1≥1) then LS (decide (a1<=20000)) else LS false
def qBl (x3:Bool):Option Bool:= some x3
def GJ (a1:Int):Option Bool:= bif decide (a1≥0) then qBl (decide (a1<=1000000)) else qBl false
def YI (x20:Bool):Option Int:= bif x20 then some 9 else some 0
def GC (a2:Rates) (x12:Bool):Option Int:= bif x12 then some 9 else bif decide (a2.Chip<0) then YI true else bif decide (a2.Chip>1000) then YI true else bif decide (a2.Dust<0) then YI true else bif decide (a2.Dust>1000) then YI true else (GJ a2.Fine).bind λv18=> YI (!v18)
def PU (a1:Saw) (a2:Rates) (x6:Bool):Option Int:= bif x6 then some 9 else bif decide (a1.Pitch<1) then GC a2 true else bif decide (a1.Pitch>2000) then GC a2 true else (GN a1.Step).bind λv10=> GC a2 (!v10)
def FX (a1:Saw) (a2:Rates):Option Int:= bif decide (a1.Kerf<0) then PU a1 a2 true else bif decide (a1.Kerf>20) then PU a1 a2 true else bif decide (a1.Trim<0) then PU a1 a2 true else PU a1 a2 (decide (a1.Trim>20))
def VE (x5:Int) (R:Int->Option (Int⊕Unit)) (x9:Bool):Option (Int⊕Unit):= bif x9 then some (Sum.inl 9) else R (w64 (x5+1))
def yB (a1:Rect):Nat->Int->Option (Int⊕Unit)
 |0,_=>none
 |n+1,x5=> bif decide (x5<4) then bif inb x5 4 then bif decide ((([a1.X.A,a1.X.B,a1.Y.A,a1.Y.B]:List Int).getD x5.toNat 0)<(-600)) then VE x5 (yB a1 n) true else VE x5 (yB a1 n) (decide ((([a1.X.A,a1.X.B,a1.Y.A,a1.Y.B]:List Int).getD x5.toNat 0)>600)) else none else some (Sum.inr ())
def VG (a1:Rect) (x3:Bool):Option Int:= bif x3 then some 19 else (yB a1 FUEL 0).bind λu13=>Sum.elim (λv14=>some v14) (λo11=> some 0) u13
def LX (a1:Rect):Option Int:= bif decide (a1.X.A≥a1.X.B) then VG a1 true else VG a1 (decide (a1.Y.A≥a1.Y.B))
def UH (a1:List qO) (a2:List qH) (a3:List qD) (a4:Rect) (a5:Saw) (a6:Rates):Option Int:= (PT a1).bind λv7=> bif v7 !=0 then some v7 else (JB a2).bind λv10=> bif v10 !=0 then some v10 else (ZW a3).bind λv13=> bif v13 !=0 then some v13 else (FX a5 a6).bind λv16=> bif v16 !=0 then some v16 else (LX a4).bind λv19=> some v19
def NI (a1:List Int):Option (List Int):= bif Nat.blt a1.length 4611686018427387904 then some (WY (λx y=>decide (x<=y)) a1) else none
def VT (x12:Int) (R:(List Int)->Int->Int->Option ((List Int)×Int)) (l19:List Int) (x20:Int):Option ((List Int)×Int):= R l19 x20 (w64 (x12+1))
def jB (l3:List Int) (x4:Int):Nat->(List Int)->Int->Int->Option ((List Int)×Int)
 |0,_,_,_=>none
 |n+1,l10,x11,x12=> bif decide (x12<(((l3.length-x4.toNat):Nat):Int)) then bif inb x12 (l3.length-x4.toNat) then bif Nat.ble (x4.toNat+(l3.length-x4.toNat)) l10.length then bif inb (w64 (x12-1)) (l3.length-x4.toNat) then bif (l10.getD (x4.toNat+x12.toNat) du) !=(l10.getD (x4.toNat+((w64 (x12-1)).toNat)) du) then bif inb x11 l10.length then VT x12 (jB l3 x4 n) (l10.set x11.toNat (l10.getD (x4.toNat+x12.toNat) du)) (w64 (x11+1)) else none else VT x12 (jB l3 x4 n) l10 x11 else none else none else none else some (l10,x11)
def yW :Nat->(List Int)->Int->Option (((List Int)×(List Int))⊕(List Int))
 |0,_,_=>none
 |n+1,l3,x4=> bif decide (x4<(l3.length:Int)) then bif inb x4 l3.length then bif inb (w64 (x4-1)) l3.length then bif (l3.getD x4.toNat du)==(l3.getD ((w64 (x4-1)).toNat) du) then bif slOk x4 (l3.length:Int) l3.length then (jB l3 x4 FUEL l3 x4 1).bind λo23=> bif slOk o23.2 (o23.1.length:Int) o23.1.length then bif slOk 0 o23.2 o23.1.length then some (Sum.inl ((o23.1.take o23.2.toNat),(o23.1.take o23.2.toNat))) else none else none else none else (yW n) l3 (w64 (x4+1)) else none else none else some (Sum.inr l3)
def YD (a1:List Int):Option ((List Int)×(List Int)):= bif decide ((a1.length:Int)<2) then some (a1,a1) else (yW FUEL a1 1).bind λu30=>Sum.elim (λv31=>some v31) (λo28=> some (o28,o28)) u30
def KK (a1:List qD):Nat->(List Int)->Int->Option (List Int)
 |0,_,_=>none
 |n+1,l5,x6=> bif decide (x6<(a1.length:Int)) then bif inb x6 a1.length then (yS (a1.getD x6.toNat du)).bind λv9=> bif room (l5.length+2) 8 then (KK a1 n) (l5++[v9.1,v9.2]) (w64 (x6+1)) else none else none else some l5
def DM (a1:List qD):Option (List Int):= (ZW a1).bind λv2=> bif v2 !=0 then some ([]:List Int) else (KK a1 FUEL [] 0).bind λo13=> (NI o13).bind λv15=> bif v15.length==o13.length then (YD v15).bind λv18=> some v18.2 else none
def PH (a1:Rect) (a2:Int) (a3:Int):Option Rect:= some (Rect.mk a1.X (Span.mk (w64 (a1.Y.A+a2)) (w64 (a1.Y.A+a3))))
def IS (x22:Int) (R:Int->Option (Int⊕Unit)) (x26:Bool):Option (Int⊕Unit):= bif x26 then some (Sum.inl 9) else R (w64 (x22+1))
def JP (a4:Rect):Nat->Int->Option (Int⊕Unit)
 |0,_=>none
 |n+1,x22=> bif decide (x22<4) then bif inb x22 4 then bif decide ((([a4.X.A,a4.X.B,a4.Y.A,a4.Y.B]:List Int).getD x22.toNat 0)<(-600)) then IS x22 (JP a4 n) true else IS x22 (JP a4 n) (decide ((([a4.X.A,a4.X.B,a4.Y.A,a4.Y.B]:List Int).getD x22.toNat 0)>600)) else none else some (Sum.inr ())
def OC (a4:Rect) (x20:Bool):Option Int:= bif x20 then some 19 else (JP a4 FUEL 0).bind λu30=>Sum.elim (λv31=>some v31) (λo28=> some 0) u30
def qBc (a1:List qO) (a2:List qH) (a3:List qD) (a4:Rect) (a5:Saw) (a6:Rates):Option Int:= (PT a1).bind λv7=> bif v7 !=0 then some v7 else (JB a2).bind λv10=> bif v10 !=0 then some v10 else (ZW a3).bind λv13=> bif v13 !=0 then some v13 else (FX a5 a6).bind λv16=> bif v16 !=0 then some v16 else bif decide (a4.X.A≥a4.X.B) then OC a4 true else OC a4 (decide (a4.Y.A≥a4.Y.B))
def qDJ (x8:Int) (R:(List Int)->(List Int)->Int->Option ((List Int)×(List Int))) (l19:List Int) (l20:List Int):Option ((List Int)×(List Int)):= R l19 l20 (w64 (x8+1))
def NT (l7:List Int) (x8:Int) (R:(List Int)->(List Int)->Int->Option ((List Int)×(List Int))) (l17:List Int):Option ((List Int)×(List Int)):= bif room (l7.length+1) 8 then qDJ x8 R l17 (l7++[x8]) else none
def yQ (a1:List qD) (a2:Int):Nat->(List Int)->(List Int)->Int->Option ((List Int)×(List Int))
 |0,_,_,_=>none
 |n+1,l6,l7,x8=> bif decide (x8<(a1.length:Int)) then bif inb x8 a1.length then (yS (a1.getD x8.toNat du)).bind λv11=> bif a2==v11.1 then bif room (l6.length+1) 8 then NT l7 x8 (yQ a1 a2 n) (l6++[v11.2]) else none else bif a2==v11.2 then bif room (l6.length+1) 8 then NT l7 x8 (yQ a1 a2 n) (l6++[v11.1]) else none else qDJ x8 (yQ a1 a2 n) l6 l7 else none else some (l6,l7)
def UQ (a1:List qD) (a2:Int):Option ((List Int)×(List Int)):= (ZW a1).bind λv3=> bif v3 !=0 then some ([],[]) else (yQ a1 a2 FUEL [] [] 0).bind λo23=> some (o23.1,o23.2)
def BC (a1:Rect) (a2:Int) (a3:Int):Option Rect:= some (Rect.mk (Span.mk (w64 (a1.X.A+a2)) (w64 (a1.X.A+a3))) a1.Y)
def VH (x2:Int) (R:Int->Option (Bool⊕Unit)) (x7:Bool):Option (Bool⊕Unit):= bif x7 then some (Sum.inl false) else R (w64 (x2+1))
def yZ (a1:Rect):Nat->Int->Option (Bool⊕Unit)
 |0,_=>none
 |n+1,x2=> bif decide (x2<2) then bif inb x2 2 then bif decide ((([a1.X.A,a1.X.B,a1.Y.A,a1.Y.B]:List Int).getD (x2.toNat*2+0) 0)<(-600)) then VH x2 (yZ a1 n) true else bif decide ((([a1.X.A,a1.X.B,a1.Y.A,a1.Y.B]:List Int).getD (x2.toNat*2+1) 0)>600) then VH x2 (yZ a1 n) true else VH x2 (yZ a1 n) (decide ((([a1.X.A,a1.X.B,a1.Y.A,a1.Y.B]:List Int).getD (x2.toNat*2+0) 0)≥(([a1.X.A,a1.X.B,a1.Y.A,a1.Y.B]:List Int).getD (x2.toNat*2+1) 0))) else none else some (Sum.inr ())
def HZ (a1:Rect):Option Bool:= (yZ a1 FUEL 0).bind λu11=>Sum.elim (λv12=>some v12) (λo9=> some true) u11
def KJ (v2:(List qO)):Nat->Int->Int->Option Int
 |0,_,_=>none
 |n+1,x4,x5=> bif decide (x5<(v2.length:Int)) then bif inb x5 v2.length then (KJ v2 n) (w64 (x4+((v2.getD x5.toNat du).Len))) (w64 (x5+1)) else none else some x4
def XK (a1:List qO):Option Int:= (PS a1).bind λv2=> (KJ v2 FUEL 0 0).bind λo9=> some o9
def qCR (a1:Span):Option Int:= bif decide (a1.A≥a1.B) then some 0 else some (IntKind.u64.wrap ((IntKind.u64.wrap (a1.B))-(IntKind.u64.wrap (a1.A))))
def SB (a1:Int):Option Int:= some (w64 (imin a1 9223372036854775807))
def PA (a1:Span):Option Int:= (qCR a1).bind λv2=> (SB v2).bind λv4=> some v4
def JJ (a2:Rect) (v3:qG):Nat->Int->Int->Option Int
 |0,_,_=>none
 |n+1,x5,x6=> bif decide (x6<(v3.Rows.length:Int)) then bif inb x6 v3.Rows.length then (XU (w64 (v3.Low+x6)) (w64 ((w64 (v3.Low+x6))+1))).bind λv9=> (WH (v3.Rows.getD x6.toNat du) a2.X).bind λv11=> (PA v11).bind λv13=> (WH v9 a2.Y).bind λv15=> (PA v15).bind λv17=> (JJ a2 v3 n) (w64 (x5+(w64 (v13*v17)))) (w64 (x6+1)) else none else some x5
def RB (a1:qG) (a2:Rect):Option Int:= (QX a1).bind λv3=> (JJ a2 v3 FUEL 0 0).bind λo20=> some o20
def PX (a1:List qO) (a2:Rect):Nat->(List qY)->Int->Int->Option (List qY)
 |0,_,_,_=>none
 |n+1,l3,x4,x5=> bif decide (x5<(a1.length:Int)) then bif inb x5 a1.length then (RB ((a1.getD x5.toNat du).Sec) a2).bind λv8=> bif nz (w64 ((w64 (a2.X.B-a2.X.A))*(w64 (a2.Y.B-a2.Y.A)))) then bif room (l3.length+1) 24 then (PX a1 a2 n) (l3++[(qY.mk (Span.mk x4 (w64 (x4+((a1.getD x5.toNat du).Len)))) (w64 (Int.tdiv (w64 ((w64 ((w64 (1000*(w64 ((w64 ((w64 (a2.X.B-a2.X.A))*(w64 (a2.Y.B-a2.Y.A))))-v8))))+(w64 ((w64 (a2.X.B-a2.X.A))*(w64 (a2.Y.B-a2.Y.A))))))-1)) (w64 ((w64 (a2.X.B-a2.X.A))*(w64 (a2.Y.B-a2.Y.A)))))))]) (w64 (x4+((a1.getD x5.toNat du).Len))) (w64 (x5+1)) else none else none else none else some l3
def AW (a1:List qO) (a2:Rect):Option (List qY):= (PX a1 a2 FUEL [] 0 0).bind λo13=> some o13
def SM (a1:zG) (a2:Span):Option Box:= some (Box.mk a1.rect.X a1.rect.Y a2)
def DE (v3:Span) (v5:Span) (v7:Span) (x17:Bool):Option (Box×Bool):= bif x17 then some ((Box.mk (Span.mk 0 0) (Span.mk 0 0) (Span.mk 0 0)),false) else some ((Box.mk v3 v5 v7),true)
def qCB (a1:Box) (a2:Box):Option (Box×Bool):= (WH a1.X a2.X).bind λv3=> (WH a1.Y a2.Y).bind λv5=> (WH a1.Z a2.Z).bind λv7=> (QZ v3).bind λv9=> bif v9 then DE v3 v5 v7 true else (QZ v5).bind λv12=> bif v12 then DE v3 v5 v7 true else (QZ v7).bind λv15=> DE v3 v5 v7 v15
def RA (a1:qH) (a2:Box):Option Bool:= (qCB a1.Box a2).bind λv3=> some v3.2
def qDI (x29:Int) (R:Int->(List qH)->Option (List qH)) (l37:List qH):Option (List qH):= R (w64 (x29+1)) l37
def JN (a2:List qH) (v27:Box):Nat->Int->(List qH)->Option (List qH)
 |0,_,_=>none
 |n+1,x29,l30=> bif decide (x29<(a2.length:Int)) then bif inb x29 a2.length then (RA (a2.getD x29.toNat du) v27).bind λv33=> bif v33 then bif room (l30.length+1) 56 then qDI x29 (JN a2 v27 n) (l30++[(a2.getD x29.toNat du)]) else none else qDI x29 (JN a2 v27 n) l30 else none else some l30
def FC (a1:List qO) (a2:List qH) (a3:qD) (a4:Rect) (x21:Bool):Option (zG×Bool):= bif x21 then some ((zG.mk (qD.mk (ByteArray.mk #[]) 0 0 0 0 [] []) (Rect.mk (Span.mk 0 0) (Span.mk 0 0)) 0 [] []),false) else (XK a1).bind λv23=> (AW a1 a4).bind λv25=> (SM (zG.mk a3 a4 v23 v25 []) (Span.mk 0 v23)).bind λv27=> (JN a2 v27 FUEL 0 []).bind λo39=> some ((zG.mk a3 a4 v23 v25 o39),true)
def UE (a1:List qO) (a2:List qH) (a3:qD) (a4:Rect) (x16:Bool):Option (zG×Bool):= bif x16 then some ((zG.mk (qD.mk (ByteArray.mk #[]) 0 0 0 0 [] []) (Rect.mk (Span.mk 0 0) (Span.mk 0 0)) 0 [] []),false) else (yS a3).bind λv18=> bif !(((w64 (a4.X.B-a4.X.A))==v18.1)&&(((w64 (a4.Y.B-a4.Y.A))==v18.2)&&true)) then FC a1 a2 a3 a4 (!(((w64 (a4.X.B-a4.X.A))==v18.2)&&(((w64 (a4.Y.B-a4.Y.A))==v18.1)&&true))) else FC a1 a2 a3 a4 false
def qAj (a1:List qO) (a2:List qH) (a3:qD) (a4:Rect):Option (zG×Bool):= (PT a1).bind λv5=> bif v5 !=0 then UE a1 a2 a3 a4 true else (JB a2).bind λv8=> bif v8 !=0 then UE a1 a2 a3 a4 true else (ZW [a3]).bind λv11=> bif v11 !=0 then UE a1 a2 a3 a4 true else (HZ a4).bind λv14=> UE a1 a2 a3 a4 (!v14)
def VZ (x5:Bool):Option Bool:= some x5
def EC (a1:Span) (a2:Int):Option Bool:= bif decide (a1.A≥0) then bif decide (a1.A<a1.B) then VZ (decide (a1.B<=a2)) else VZ false else VZ false
def YQ (a1:qD) (a2:Int):Nat->Int->Option ((Int×Bool)⊕Unit)
 |0,_=>none
 |n+1,x3=> bif decide (x3<(a1.Lengths.length:Int)) then bif inb x3 a1.Lengths.length then bif (a1.Lengths.getD x3.toNat du) !=a2 then (YQ a1 a2 n) (w64 (x3+1)) else bif decide (x3≥(a1.Prices.length:Int)) then some (Sum.inl (0,false)) else bif inb x3 a1.Prices.length then some (Sum.inl ((a1.Prices.getD x3.toNat du),true)) else none else none else some (Sum.inr ())
def FD (a1:qD) (a2:Int):Option (Int×Bool):= (YQ a1 a2 FUEL 0).bind λu11=>Sum.elim (λv12=>some v12) (λo9=> some (0,false)) u11
def qB2 (x4:Int) (R:Int->Int->Option Int) (x10:Int):Option Int:= R x10 (w64 (x4+1))
def qCh (a1:List qY) (x3:Int) (x4:Int) (R:Int->Int->Option Int) (x8:Bool):Option Int:= bif x8 then qB2 x4 R (imax x3 ((a1.getD x4.toNat du).lack)) else qB2 x4 R x3
def ZF (a1:List qY) (a2:Span):Nat->Int->Int->Option Int
 |0,_,_=>none
 |n+1,x3,x4=> bif decide (x4<(a1.length:Int)) then bif inb x4 a1.length then bif decide ((((a1.getD x4.toNat du).z).A)<a2.B) then qCh a1 x3 x4 (ZF a1 a2 n) (decide (a2.A<(((a1.getD x4.toNat du).z).B))) else qCh a1 x3 x4 (ZF a1 a2 n) false else none else some x3
def IF (a1:List qY) (a2:Span):Option Int:= (ZF a1 a2 FUEL 0 0).bind λo12=> some o12
def LA (x17:Int) (R:Int->Int->Option ((Int×Bool)⊕Int)) (x24:Int):Option ((Int×Bool)⊕Int):= R x24 (w64 (x17+1))
def jR (a1:zG) (a3:Int) (v14:Box):Nat->Int->Int->Option ((Int×Bool)⊕Int)
 |0,_,_=>none
 |n+1,x16,x17=> bif decide (x17<(a1.defects.length:Int)) then bif inb x17 a1.defects.length then (RA (a1.defects.getD x17.toNat du) v14).bind λv20=> bif !v20 then LA x17 (jR a1 a3 v14 n) x16 else bif ((a1.defects.getD x17.toNat du).Kind)==3 then some (Sum.inl (0,false)) else LA x17 (jR a1 a3 v14 n) (w64 (x16-a3)) else none else some (Sum.inr x16)
def TK (a1:zG) (a2:Span) (a3:Int) (v7:Int×Bool) (x12:Bool):Option (Int×Bool):= bif x12 then some (0,false) else (SM a1 a2).bind λv14=> (jR a1 a3 v14 FUEL v7.1 0).bind λu28=>Sum.elim (λv29=>some v29) (λo26=> some (imax o26 0,true)) u28
def RQ (a1:zG) (a2:Span) (a3:Int):Option (Int×Bool):= (EC a2 a1.length).bind λv4=> bif !v4 then some (0,false) else (FD a1.product (w64 (a2.B-a2.A))).bind λv7=> bif !v7.2 then TK a1 a2 a3 v7 true else (IF a1.zones a2).bind λv10=> TK a1 a2 a3 v7 (decide (v10>a1.product.Wane))
def qDF (x24:Int) (R:Int->Bool->Int->Span->Option (Int×Bool×Span)) (x34:Int) (x35:Bool) (x36:Span):Option (Int×Bool×Span):= R x34 x35 (w64 (x24+1)) x36
def TX (a3:qD) (x19:Int) (x22:Int) (x23:Bool) (x24:Int) (x25:Span) (R:Int->Bool->Int->Span->Option (Int×Bool×Span)) (v28:Int×Bool) (x32:Bool):Option (Int×Bool×Span):= bif x32 then qDF x24 R v28.1 true (Span.mk x19 (w64 (x19+(a3.Lengths.getD x24.toNat du)))) else qDF x24 R x22 x23 x25
def yR (a3:qD) (a6:Int) (v14:zG×Bool) (x19:Int):Nat->Int->Bool->Int->Span->Option (Int×Bool×Span)
 |0,_,_,_,_=>none
 |n+1,x22,x23,x24,x25=> bif decide (x24<(a3.Lengths.length:Int)) then bif inb x24 a3.Lengths.length then (RQ (zG.mk v14.1.product v14.1.rect v14.1.length v14.1.zones v14.1.defects) (Span.mk x19 (w64 (x19+(a3.Lengths.getD x24.toNat du)))) a6).bind λv28=> bif v28.2 then bif !x23 then TX a3 x19 x22 x23 x24 x25 (yR a3 a6 v14 x19 n) v28 true else TX a3 x19 x22 x23 x24 x25 (yR a3 a6 v14 x19 n) v28 (decide (v28.1>x22)) else TX a3 x19 x22 x23 x24 x25 (yR a3 a6 v14 x19 n) v28 false else none else some (x22,x23,x25)
def TQ (a3:qD) (a5:Int) (a6:Int) (v14:zG×Bool):Nat->Int->Bool->Int->Span->Option (Int×Bool×Span)
 |0,_,_,_,_=>none
 |n+1,x17,x18,x19,x20=> bif decide (x19<v14.1.length) then (yR a3 a6 v14 x19 FUEL x17 x18 0 x20).bind λo40=> (TQ a3 a5 a6 v14 n) o40.1 o40.2.1 (w64 (x19+a5)) o40.2.2 else some (x17,x18,x20)
def IW (a1:List qO) (a2:List qH) (a3:qD) (a4:Rect) (a5:Int) (a6:Int) (x12:Bool):Option (Span×Int×Bool):= bif x12 then some ((Span.mk 0 0),0,false) else (qAj a1 a2 a3 a4).bind λv14=> bif !v14.2 then some ((Span.mk 0 0),0,false) else (TQ a3 a5 a6 v14 FUEL 0 false 0 (Span.mk 0 0)).bind λo45=> some (o45.2.2,o45.1,o45.2.1)
def qAH (a1:List qO) (a2:List qH) (a3:qD) (a4:Rect) (a5:Int) (a6:Int):Option (Span×Int×Bool):= (GN a5).bind λv7=> bif !v7 then IW a1 a2 a3 a4 a5 a6 true else (GJ a6).bind λv10=> IW a1 a2 a3 a4 a5 a6 (!v10)
def YW (a1:List qO):Nat->(List Span)->Int->Int->Option (List Span)
 |0,_,_,_=>none
 |n+1,l3,x4,x5=> bif decide (x5<(a1.length:Int)) then bif inb x5 a1.length then bif inb x5 l3.length then (YW a1 n) (l3.set x5.toNat (Span.mk x4 (w64 (x4+((a1.getD x5.toNat du).Len))))) (w64 (x4+((a1.getD x5.toNat du).Len))) (w64 (x5+1)) else none else none else some l3
def FK (a1:List qO):Option (List Span):= bif mkOk (a1.length:Int) 16 then (YW a1 FUEL (List.replicate ((a1.length:Int).toNat) (Span.mk 0 0)) 0 0).bind λo10=> some o10 else none
def qAz (x8:Int) (R:Int->Int->Option Int) (x19:Int):Option Int:= R x19 (w64 (x8+1))
def ZJ (a2:Box) (v3:(List qO)) (v5:(List Span)):Nat->Int->Int->Option Int
 |0,_,_=>none
 |n+1,x7,x8=> bif decide (x8<(v5.length:Int)) then bif inb x8 v5.length then (WH (v5.getD x8.toNat du) a2.Z).bind λv11=> (PA v11).bind λv13=> bif decide (v13>0) then bif inb x8 v3.length then (RB ((v3.getD x8.toNat du).Sec) (Rect.mk a2.X a2.Y)).bind λv17=> qAz x8 (ZJ a2 v3 v5 n) (w64 (x7+(w64 (v13*v17)))) else none else qAz x8 (ZJ a2 v3 v5 n) x7 else none else some x7
def DF (a1:List qO) (a2:Box):Option Int:= (PS a1).bind λv3=> (FK v3).bind λv5=> (ZJ a2 v3 v5 FUEL 0 0).bind λo21=> some o21
def PR (a1:List qO) (a2:Rect) (a3:Span):Option Int:= (DF a1 (Box.mk a2.X a2.Y a3)).bind λv4=> some v4
def qDl (a1:List qO) (a2:List qH) (a3:qD) (a4:Rect) (a5:Saw) (a6:Rates):Option Int:= (qAH a1 a2 a3 a4 a5.Step a6.Fine).bind λv7=> bif !v7.2.2 then some (-1) else (XK a1).bind λv10=> (PR a1 a4 (Span.mk 0 v10)).bind λv12=> (PR a1 a4 v7.1).bind λv14=> (PR a1 a4 (Span.mk (imax 0 (w64 (v7.1.A-a5.Trim))) v7.1.A)).bind λv16=> (PR a1 a4 (Span.mk v7.1.B (imin (w64 (v7.1.B+a5.Trim)) v10))).bind λv18=> some (w64 ((w64 ((w64 (1000000*v7.2.1))+(w64 (a6.Dust*(w64 (v16+v18))))))+(w64 (a6.Chip*(w64 ((w64 (v12-v14))-(w64 (v16+v18))))))))
def MI (l16:List Int) (x17:Int) (R:(List Int)->Int->Option (List Int)) (x27:Int):Option (List Int):= bif room (l16.length+1) 8 then R (l16++[x27]) (w64 (x17+1)) else none
def JC (a1:List qO) (a2:List qH) (a3:List qD) (a4:Rect) (a5:Saw) (a6:Rates) (v10:(List Int)×(List Int)) (x12:Int):Nat->(List Int)->Int->Option (List Int)
 |0,_,_=>none
 |n+1,l16,x17=> bif decide ((w64 (x17+(v10.1.getD x12.toNat du)))<=(w64 (a4.X.B-a4.X.A))) then bif nz a5.Pitch then bif (Int.tmod x17 a5.Pitch)==0 then bif inb x12 v10.2.length then bif inb (v10.2.getD x12.toNat du) a3.length then (BC a4 x17 (w64 (x17+(v10.1.getD x12.toNat du)))).bind λv23=> (qDl a1 a2 (a3.getD (v10.2.getD x12.toNat du).toNat du) v23 a5 a6).bind λv25=> MI l16 x17 (JC a1 a2 a3 a4 a5 a6 v10 x12 n) v25 else none else none else MI l16 x17 (JC a1 a2 a3 a4 a5 a6 v10 x12 n) (-1) else none else some l16
def GV (a1:List qO) (a2:List qH) (a3:List qD) (a4:Rect) (a5:Saw) (a6:Rates) (v10:(List Int)×(List Int)):Nat->Int->(List (List Int))->Option (List (List Int))
 |0,_,_=>none
 |n+1,x12,l13=> bif decide (x12<(v10.1.length:Int)) then bif inb x12 v10.1.length then (JC a1 a2 a3 a4 a5 a6 v10 x12 FUEL [] 0).bind λo30=> bif room (l13.length+1) 24 then (GV a1 a2 a3 a4 a5 a6 v10 n) (w64 (x12+1)) (l13++[o30]) else none else none else some l13
def DZ (a1:List qO) (a4:Rect) (a6:Rates) (v36:Int):Nat->Int->(List Int)->(List Int)->Option ((List Int)×(List Int))
 |0,_,_,_=>none
 |n+1,x38,l39,l40=> bif decide (x38<(w64 (a4.X.B-a4.X.A))) then (BC a4 x38 (w64 (x38+1))).bind λv42=> (PR a1 v42 (Span.mk 0 v36)).bind λv44=> bif room (l39.length+1) 8 then bif room (l40.length+1) 8 then (DZ a1 a4 a6 v36 n) (w64 (x38+1)) (l39++[w64 (a6.Chip*v44)]) (l40++[w64 (a6.Dust*v44)]) else none else none else some (l39,l40)
def CY (a1:List qO) (a2:List qH) (a3:List qD) (a4:Rect) (a5:Saw) (a6:Rates):Option (Line×Int):= (qBc a1 a2 a3 a4 a5 a6).bind λv7=> bif v7 !=0 then some ((Line.mk 0 0 0 [] [] [] []),v7) else (UQ a3 (w64 (a4.Y.B-a4.Y.A))).bind λv10=> (GV a1 a2 a3 a4 a5 a6 v10 FUEL 0 []).bind λo34=> (XK a1).bind λv36=> (DZ a1 a4 a6 v36 FUEL 0 [] []).bind λo50=> some ((Line.mk (w64 (a4.X.B-a4.X.A)) a5.Kerf 1 v10.1 o34 o50.1 o50.2),0)
def TF (x10:Int) (R:Int->Option (Int⊕Unit)) (x14:Bool):Option (Int⊕Unit):= bif x14 then some (Sum.inl 9) else R (w64 (x10+1))
def jQ (a1:Line):Nat->Int->Option (Int⊕Unit)
 |0,_=>none
 |n+1,x10=> bif decide (x10<(a1.Sizes.length:Int)) then bif inb x10 a1.Sizes.length then bif decide ((a1.Sizes.getD x10.toNat du)<1) then TF x10 (jQ a1 n) true else TF x10 (jQ a1 n) (decide ((a1.Sizes.getD x10.toNat du)>2000)) else none else some (Sum.inr ())
def jP (a1:Line) (x7:Bool):Option Int:= bif x7 then some 9 else bif decide ((a1.Sizes.length:Int)>32) then some 4 else (jQ a1 FUEL 0).bind λu18=>Sum.elim (λv19=>some v19) (λo16=> some 0) u18
def RH (a1:Line):Option Int:= bif decide (a1.Len<0) then jP a1 true else bif decide (a1.Len>2000) then jP a1 true else bif decide (a1.Kerf<0) then jP a1 true else bif decide (a1.Kerf>20) then jP a1 true else bif decide (a1.Pitch<1) then jP a1 true else jP a1 (decide (a1.Pitch>2000))
def qCm (a1:Line) (a2:Int):Option Int:= some (imax 0 (w64 ((w64 (a1.Len-a2))+1)))
def BX (x5:Int) (R:Int->Option (Bool⊕Unit)) (x9:Bool):Option (Bool⊕Unit):= bif x9 then some (Sum.inl false) else R (w64 (x5+1))
def QT (a1:List (List Int)) (x2:Int):Nat->Int->Option (Bool⊕Unit)
 |0,_=>none
 |n+1,x5=> bif decide (x5<((a1.getD x2.toNat du).length:Int)) then bif inb x5 ((a1.getD x2.toNat du).length) then bif decide (((a1.getD x2.toNat du).getD x5.toNat du)<(-1125899906842624)) then BX x5 (QT a1 x2 n) true else BX x5 (QT a1 x2 n) (decide (((a1.getD x2.toNat du).getD x5.toNat du)>1125899906842624)) else none else some (Sum.inr ())
def YY (a1:List (List Int)):Nat->Int->Option (Bool⊕Unit)
 |0,_=>none
 |n+1,x2=> bif decide (x2<(a1.length:Int)) then bif inb x2 a1.length then (QT a1 x2 FUEL 0).bind λu13=>Sum.elim (λv14=>some (Sum.inl v14)) (λo11=> (YY a1 n) (w64 (x2+1))) u13 else none else some (Sum.inr ())
def TU (a1:List (List Int)):Option Bool:= (YY a1 FUEL 0).bind λu17=>Sum.elim (λv18=>some v18) (λo15=> some true) u17
def YJ (a1:Line):Nat->Int->Option (Int⊕Unit)
 |0,_=>none
 |n+1,x9=> bif decide (x9<(a1.Gain.length:Int)) then bif inb x9 a1.Gain.length then bif inb x9 a1.Sizes.length then (qCm a1 (a1.Sizes.getD x9.toNat du)).bind λv13=> bif ((a1.Gain.getD x9.toNat du).length:Int) !=v13 then some (Sum.inl 19) else (YJ a1 n) (w64 (x9+1)) else none else none else some (Sum.inr ())
def OO (x25:Bool):Option Int:= bif x25 then some 9 else some 0
def RP (a1:Line) (x7:Bool):Option Int:= bif x7 then some 19 else (YJ a1 FUEL 0).bind λu18=>Sum.elim (λv19=>some v19) (λo16=> (TU a1.Gain).bind λv20=> bif !v20 then OO true else (TU [a1.Chip,a1.Dust]).bind λv23=> OO (!v23)) u18
def NQ (a1:Line):Option Int:= (RH a1).bind λv2=> bif v2 !=0 then some v2 else bif (a1.Gain.length:Int) !=(a1.Sizes.length:Int) then RP a1 true else bif (a1.Chip.length:Int) !=a1.Len then RP a1 true else RP a1 ((a1.Dust.length:Int) !=a1.Len)
def KA (a1:List Int):Nat->(List Int)->Int->Option (List Int)
 |0,_,_=>none
 |n+1,l3,x4=> bif decide (x4<(a1.length:Int)) then bif inb x4 a1.length then bif inb x4 l3.length then bif inb (w64 (x4+1)) l3.length then (KA a1 n) (l3.set ((w64 (x4+1)).toNat) (w64 ((l3.getD x4.toNat du)+(a1.getD x4.toNat du)))) (w64 (x4+1)) else none else none else none else some l3
def DV (a1:List Int):Option (List Int):= bif mkOk (w64 ((a1.length:Int)+1)) 8 then (KA a1 FUEL (List.replicate ((w64 ((a1.length:Int)+1)).toNat) 0) 0).bind λo10=> some o10 else none
def RE (a1:Line) (a2:Int):Option Int:= bif a2==a1.Len then some (-1) else some (imin (w64 (a2+a1.Kerf)) a1.Len)
def NK (x5:Int) (R:Int->qB->Option qB) (x26:qB):Option qB:= R (w64 (x5+1)) x26
def BH (x5:Int) (x6:qB) (R:Int->qB->Option qB) (x22:qB) (x24:Bool):Option qB:= bif x24 then NK x5 R x22 else NK x5 R x6
def RR (x5:Int) (x6:qB) (R:Int->qB->Option qB) (x22:qB):Option qB:= bif ((x6.piece.Size==(-1))&&((x6.piece.At==(-1))&&true)) then BH x5 x6 R x22 true else BH x5 x6 R x22 (decide (x22.value>x6.value))
def BN (a1:Line) (a2:Int) (a3:List Int) (a4:List qB) (x5:Int) (x6:qB) (R:Int->qB->Option qB) (x12:Bool):Option qB:= bif x12 then NK x5 R x6 else bif inb x5 a1.Gain.length then bif inb a2 ((a1.Gain.getD x5.toNat du).length) then (RE a1 (w64 (a2+(a1.Sizes.getD x5.toNat du)))).bind λv16=> bif decide (v16≥0) then bif inb v16 a3.length then bif inb (w64 (a2+(a1.Sizes.getD x5.toNat du))) a3.length then bif inb v16 a4.length then RR x5 x6 R (qB.mk (zV.mk x5 a2) (w64 (((a1.Gain.getD x5.toNat du).getD a2.toNat du)+(w64 ((w64 ((a3.getD v16.toNat du)-(a3.getD (w64 (a2+(a1.Sizes.getD x5.toNat du))).toNat du)))+((a4.getD v16.toNat du).value)))))) else none else none else none else RR x5 x6 R (qB.mk (zV.mk x5 a2) ((a1.Gain.getD x5.toNat du).getD a2.toNat du))
 else none else none
def wW (a1:Line) (a2:Int) (a3:List Int) (a4:List qB):Nat->Int->qB->Option qB
 |0,_,_=>none
 |n+1,x5,x6=> bif decide (x5<(a1.Sizes.length:Int)) then bif inb x5 a1.Sizes.length then bif decide ((w64 (a2+(a1.Sizes.getD x5.toNat du)))>a1.Len) then BN a1 a2 a3 a4 x5 x6 (wW a1 a2 a3 a4 n) true else bif inb x5 a1.Gain.length then bif inb a2 ((a1.Gain.getD x5.toNat du).length) then BN a1 a2 a3 a4 x5 x6 (wW a1 a2 a3 a4 n) (decide (((a1.Gain.getD x5.toNat du).getD a2.toNat du)<0)) else none else none else none else some x6
def NR (a1:Line) (a2:Int) (a3:List Int) (a4:List qB):Option qB:= (wW a1 a2 a3 a4 FUEL 0 (qB.mk (zV.mk (-1) (-1)) 0)).bind λo28=> some o28
def XF (a1:Line) (x20:Int) (R:Int->qB->Option qB) (x31:qB):Option qB:= R (w64 (x20+a1.Pitch)) x31
def UY (a1:Line) (v2:(List Int)) (v4:(List Int)) (l8:List qB) (x9:Int) (v11:qB) (x20:Int) (x21:qB) (R:Int->qB->Option qB) (x29:Bool):Option qB:= bif x29 then XF a1 x20 R (qB.mk (((l8.set x9.toNat v11).getD x20.toNat du).piece) (w64 ((((l8.set x9.toNat v11).getD x20.toNat du).value)+(w64 ((w64 ((w64 ((v2.getD ((w64 (x20-a1.Kerf)).toNat) du)-(v2.getD x9.toNat du)))+(v4.getD x20.toNat du)))-(v4.getD ((w64 (x20-a1.Kerf)).toNat) du)))))) else XF a1 x20 R x21
def wR (a1:Line) (v2:(List Int)) (v4:(List Int)) (l8:List qB) (x9:Int) (v11:qB):Nat->Int->qB->Option qB
 |0,_,_=>none
 |n+1,x20,x21=> bif decide (x20<=a1.Len) then bif inb x20 l8.length then bif inb (w64 (x20-a1.Kerf)) v2.length then bif inb x9 v2.length then bif inb x20 v4.length then bif inb (w64 (x20-a1.Kerf)) v4.length then bif !((((((l8.set x9.toNat v11).getD x20.toNat du).piece).Size)==(-1))&&((((((l8.set x9.toNat v11).getD x20.toNat du).piece).At)==(-1))&&true)) then UY a1 v2 v4 l8 x9 v11 x20 x21 (wR a1 v2 v4 l8 x9 v11 n) (decide ((w64 ((((l8.set x9.toNat v11).getD x20.toNat du).value)+(w64 ((w64 ((w64 ((v2.getD ((w64 (x20-a1.Kerf)).toNat) du)-(v2.getD x9.toNat du)))+(v4.getD x20.toNat du)))-(v4.getD ((w64 (x20-a1.Kerf)).toNat) du)))))>x21.value)) else UY a1 v2 v4 l8 x9 v11 x20 x21 (wR a1 v2 v4 l8 x9 v11 n) false
 else none else none else none else none else none else some x21
def XQ (a1:Line) (v2:(List Int)) (v4:(List Int)) (l7:List qB) (l8:List qB) (x9:Int) (R:(List qB)->(List qB)->Int->Option (List qB)) (v11:qB) (x19:qB):Option (List qB):= (wR a1 v2 v4 l8 x9 v11 FUEL (w64 ((w64 (x9+a1.Pitch))+a1.Kerf)) x19).bind λo33=> bif inb x9 l7.length then R (l7.set x9.toNat o33) (l8.set x9.toNat v11) (w64 (x9-1)) else none
def UT (a1:Line) (v2:(List Int)) (v4:(List Int)) (l7:List qB) (l8:List qB) (x9:Int) (R:(List qB)->(List qB)->Int->Option (List qB)) (v11:qB) (x17:Bool):Option (List qB):= bif x17 then XQ a1 v2 v4 l7 l8 x9 R v11 ((l8.set x9.toNat v11).getD x9.toNat du) else XQ a1 v2 v4 l7 l8 x9 R v11 (qB.mk (zV.mk (-1) (-1)) (w64 ((v2.getD a1.Len.toNat du)-(v2.getD x9.toNat du))))
def jA (a1:Line) (v2:(List Int)) (v4:(List Int)):Nat->(List qB)->(List qB)->Int->Option (List qB)
 |0,_,_,_=>none
 |n+1,l7,l8,x9=> bif decide (x9≥0) then (NR a1 x9 v4 l7).bind λv11=> bif inb x9 l8.length then bif inb a1.Len v2.length then bif inb x9 v2.length then bif !((((((l8.set x9.toNat v11).getD x9.toNat du).piece).Size)==(-1))&&((((((l8.set x9.toNat v11).getD x9.toNat du).piece).At)==(-1))&&true)) then UT a1 v2 v4 l7 l8 x9 (jA a1 v2 v4 n) v11 (decide ((((l8.set x9.toNat v11).getD x9.toNat du).value)>(w64 ((v2.getD a1.Len.toNat du)-(v2.getD x9.toNat du))))) else UT a1 v2 v4 l7 l8 x9 (jA a1 v2 v4 n) v11 false else none else none else none else some l7
def UW (a1:Line):Option (List qB):= (DV a1.Chip).bind λv2=> (DV a1.Dust).bind λv4=> bif mkOk (w64 (a1.Len+1)) 24 then (jA a1 v2 v4 FUEL (List.replicate ((w64 (a1.Len+1)).toNat) (qB.mk (zV.mk 0 0) 0)) (List.replicate ((w64 (a1.Len+1)).toNat) (qB.mk (zV.mk 0 0) 0)) a1.Len).bind λo37=> some o37 else none
def XV (a1:Line) (v5:(List qB)):Nat->(List zV)->Int->Option (List zV)
 |0,_,_=>none
 |n+1,l7,x8=> bif decide (x8≥0) then bif inb x8 v5.length then bif (((((v5.getD x8.toNat du).piece).Size)==(-1))&&(((((v5.getD x8.toNat du).piece).At)==(-1))&&true)) then some l7 else bif room (l7.length+1) 16 then bif inb (((v5.getD x8.toNat du).piece).Size) a1.Sizes.length then (RE a1 (w64 ((((v5.getD x8.toNat du).piece).At)+(a1.Sizes.getD (((v5.getD x8.toNat du).piece).Size).toNat du)))).bind λv14=> (XV a1 v5 n) (l7++[(v5.getD x8.toNat du).piece]) v14 else none else none else none else some l7
def jY (a1:Line):Option ((List zV)×Int×Int):= (NQ a1).bind λv2=> bif v2 !=0 then some ([],0,v2) else (UW a1).bind λv5=> (XV a1 v5 FUEL [] 0).bind λo17=> bif inb 0 v5.length then some (o17,(v5.getD ((0:Int).toNat) du).value,0) else none
def VO (a1:List Node):Option (List Node):= bif room a1.length 16 then some a1 else none
def LU (a1:List (List Node)) (a2:List Node):Option ((List (List Node))×(List (List Node))):= (VO a2).bind λv3=> bif room (a1.length+1) 24 then some ((a1++[v3]),(a1++[v3])) else none
def OX (x3:Bool):Option Bool:= some x3
def KM (a1:Int):Option Bool:= bif a1==2 then OX true else OX (a1==3)
def QK (x2:Int) (R:Int->Option (Bool⊕Unit)) (x7:Bool):Option (Bool⊕Unit):= bif x7 then some (Sum.inl false) else R (w64 (x2+1))
def zU (a1:Rect):Nat->Int->Option (Bool⊕Unit)
 |0,_=>none
 |n+1,x2=> bif decide (x2<2) then bif inb x2 2 then bif decide ((([a1.X.A,a1.X.B,a1.Y.A,a1.Y.B]:List Int).getD (x2.toNat*2+0) 0)<(-600)) then QK x2 (zU a1 n) true else bif decide ((([a1.X.A,a1.X.B,a1.Y.A,a1.Y.B]:List Int).getD (x2.toNat*2+1) 0)>600) then QK x2 (zU a1 n) true else QK x2 (zU a1 n) (decide ((([a1.X.A,a1.X.B,a1.Y.A,a1.Y.B]:List Int).getD (x2.toNat*2+0) 0)≥(([a1.X.A,a1.X.B,a1.Y.A,a1.Y.B]:List Int).getD (x2.toNat*2+1) 0))) else none else some (Sum.inr ())
def ZM (a1:Rect):Option Bool:= (zU a1 FUEL 0).bind λu11=>Sum.elim (λv12=>some v12) (λo9=> some true) u11
def KR (a1:Rect) (a2:Int):Option Span:= bif a2==2 then some a1.X else some a1.Y
def QP (a1:List Node) (a2:Int) (a3:List Node):Option (Int×(List Node)):= bif decide ((w64 (a2+(a1.length:Int)))<=127) then bif room (a3.length+a1.length) 16 then some (w64 (a2+(a1.length:Int)),(a3++a1)) else none else some (w64 (a2+(a1.length:Int)),a3)
def DJ (a5:List (List Node)) (x21:Int) (R:Int->Bool->Int->(List Node)->Int->Option (((List Node)×Int)⊕(Bool×(List Node)×Int))) (x40:Int) (x41:Bool) (l42:List Node) (x43:Int):Option (((List Node)×Int)⊕(Bool×(List Node)×Int)):= bif inb x21 a5.length then (QP (a5.getD x21.toNat du) x43 l42).bind λv45=> R x40 x41 (w64 (x21+1)) v45.2 v45.1 else none
def GS (a2:Int) (a3:Int) (a4:List Span) (a5:List (List Node)) (v17:Span) (x19:Int) (x20:Bool) (x21:Int) (R:Int->Bool->Int->(List Node)->Int->Option (((List Node)×Int)⊕(Bool×(List Node)×Int))) (l35:List Node) (x36:Int):Option (((List Node)×Int)⊕(Bool×(List Node)×Int)):= bif decide (((a4.getD x21.toNat du).B)<v17.B) then (QP [(Node.mk a2 ((a4.getD x21.toNat du).B))] x36 l35).bind λv38=> DJ a5 x21 R (imin (w64 (((a4.getD x21.toNat du).B)+a3)) v17.B) x20 v38.2 v38.1 else DJ a5 x21 R x19 true l35 x36
def YS (a2:Int) (a3:Int) (a4:List Span) (a5:List (List Node)) (v17:Span) (x19:Int) (x20:Bool) (x21:Int) (l22:List Node) (x23:Int) (R:Int->Bool->Int->(List Node)->Int->Option (((List Node)×Int)⊕(Bool×(List Node)×Int))) (x29:Bool):Option (((List Node)×Int)⊕(Bool×(List Node)×Int)):= bif x29 then some (Sum.inl ([],11)) else bif decide (((a4.getD x21.toNat du).B)>v17.B) then some (Sum.inl ([],20)) else bif decide (((a4.getD x21.toNat du).A)>x19) then (QP [(Node.mk a2 (w64 (((a4.getD x21.toNat du).A)-a3))),(Node.mk 0 0)] x23 l22).bind λv33=> GS a2 a3 a4 a5 v17 x19 x20 x21 R v33.2 v33.1 else GS a2 a3 a4 a5 v17 x19 x20 x21 R l22 x23
def wT (a2:Int) (a3:Int) (a4:List Span) (a5:List (List Node)) (v17:Span):Nat->Int->Bool->Int->(List Node)->Int->Option (((List Node)×Int)⊕(Bool×(List Node)×Int))
 |0,_,_,_,_,_=>none
 |n+1,x19,x20,x21,l22,x23=> bif decide (x21<(a4.length:Int)) then bif inb x21 a4.length then bif decide (((a4.getD x21.toNat du).A)≥((a4.getD x21.toNat du).B)) then some (Sum.inl ([],19)) else bif x20 then YS a2 a3 a4 a5 v17 x19 x20 x21 l22 x23 (wT a2 a3 a4 a5 v17 n) true else bif ((a4.getD x21.toNat du).A) !=x19 then YS a2 a3 a4 a5 v17 x19 x20 x21 l22 x23 (wT a2 a3 a4 a5 v17 n) (decide (((a4.getD x21.toNat du).A)<(w64 ((w64 (x19+a3))+1)))) else YS a2 a3 a4 a5 v17 x19 x20 x21 l22 x23 (wT a2 a3 a4 a5 v17 n) false else none else some (Sum.inr (x20,l22,x23))
def SR (x57:Int) (l58:List Node):Option ((List Node)×Int):= bif decide (x57>127) then some ([],4) else some (l58,0)
def SW (a1:Rect) (a2:Int) (a3:Int) (a4:List Span) (a5:List (List Node)) (x15:Bool):Option ((List Node)×Int):= bif x15 then some ([],9) else (KR a1 a2).bind λv17=> (wT a2 a3 a4 a5 v17 FUEL v17.A false 0 [] 0).bind λu52=>Sum.elim (λv53=>some v53) (λo50=> bif !o50.1 then (QP [(Node.mk 0 0)] o50.2.2 o50.2.1).bind λv55=> SR v55.1 v55.2 else SR o50.2.2 o50.2.1) u52
def SQ (a1:Rect) (a2:Int) (a3:Int) (a4:List Span) (a5:List (List Node)) (x12:Bool):Option ((List Node)×Int):= bif x12 then some ([],19) else bif decide (a3<0) then SW a1 a2 a3 a4 a5 true else SW a1 a2 a3 a4 a5 (decide (a3>20))
def WO (a1:Rect) (a2:Int) (a3:Int) (a4:List Span) (a5:List (List Node)):Option ((List Node)×Int):= (KM a2).bind λv6=> bif !v6 then some ([],10) else (ZM a1).bind λv9=> bif !v9 then SQ a1 a2 a3 a4 a5 true else SQ a1 a2 a3 a4 a5 ((a4.length:Int) !=(a5.length:Int))
def RU (a4:Rect) (v10:(List zV)×Int×Int) (v13:(List Int)×(List Int)):Nat->(List Span)->(List (List Node))->Int->Option ((List Span)×(List (List Node)))
 |0,_,_,_=>none
 |n+1,l15,l16,x17=> bif decide (x17<(v10.1.length:Int)) then bif inb x17 v10.1.length then bif inb ((v10.1.getD x17.toNat du).Size) v13.1.length then (BC a4 ((v10.1.getD x17.toNat du).At) (w64 (((v10.1.getD x17.toNat du).At)+(v13.1.getD (((v10.1.getD x17.toNat du).Size).toNat) du)))).bind λv21=> bif room (l15.length+1) 16 then bif inb ((v10.1.getD x17.toNat du).Size) v13.2.length then (LU l16 [(Node.mk 1 (v13.2.getD (((v10.1.getD x17.toNat du).Size).toNat) du))]).bind λv25=> (RU a4 v10 v13 n) (l15++[v21.X]) v25.2 (w64 (x17+1)) else none else none else none else none else some (l15,l16)
def jC (a1:List qO) (a2:List qH) (a3:List qD) (a4:Rect) (a5:Saw) (a6:Rates):Option ((List Node)×Int×Int):= (CY a1 a2 a3 a4 a5 a6).bind λv7=> bif v7.2 !=0 then some ([],0,v7.2) else (jY (Line.mk v7.1.Len v7.1.Kerf v7.1.Pitch v7.1.Sizes v7.1.Gain v7.1.Chip v7.1.Dust)).bind λv10=> bif v10.2.2 !=0 then some ([],0,v10.2.2) else (UQ a3 (w64 (a4.Y.B-a4.Y.A))).bind λv13=> (RU a4 v10 v13 FUEL [] [] 0).bind λo29=> (WO a4 2 a5.Kerf o29.1 o29.2).bind λv31=> bif v31.2 !=0 then some ([],0,v31.2) else some (v31.1,v10.2.1,0)
def qAf (a1:Node):Option Bool:= some (a1.Kind==1)
def jL (a1:List Node):Nat->Int->Option (Int⊕Unit)
 |0,_=>none
 |n+1,x2=> bif decide (x2<(a1.length:Int)) then bif inb x2 a1.length then (qAf (a1.getD x2.toNat du)).bind λv5=> bif v5 then some (Sum.inl x2) else (jL a1 n) (w64 (x2+1)) else none else some (Sum.inr ())
def XC (a1:List Node):Option Int:= (jL a1 FUEL 0).bind λu10=>Sum.elim (λv11=>some v11) (λo8=> some (-1)) u10
def WJ (a1:List Node):Option Bool:= (XC a1).bind λv2=> some (decide (v2≥0))
def TR (a1:List Node):Option Bool:= (WJ a1).bind λv2=> some v2
def PO (a1:List qO) (a2:Rect):Option Int:= (XK a1).bind λv3=> (DF a1 (Box.mk a2.X a2.Y (Span.mk 0 v3))).bind λv5=> some v5
def XN (l14:List Int) (l15:List (List Node)) (x16:Int) (R:(List Int)->(List (List Node))->Int->Option ((List Int)×(List (List Node)))) (x30:Int) (l31:List Node):Option ((List Int)×(List (List Node))):= bif room (l14.length+1) 8 then bif room (l15.length+1) 24 then R (l14++[x30]) (l15++[l31]) (w64 (x16+1)) else none else none
def MM (l14:List Int) (l15:List (List Node)) (x16:Int) (R:(List Int)->(List (List Node))->Int->Option ((List Int)×(List (List Node)))) (v22:(List Node)×Int×Int) (x27:Bool):Option ((List Int)×(List (List Node))):= bif x27 then XN l14 l15 x16 R v22.2.1 v22.1 else XN l14 l15 x16 R (-1) ([]:List Node)
def zS (a1:List qO) (a2:List qH) (a3:List qD) (a4:Rect) (a5:Saw) (a6:Rates) (v7:(List Int)) (x10:Int):Nat->(List Int)->(List (List Node))->Int->Option ((List Int)×(List (List Node)))
 |0,_,_,_=>none
 |n+1,l14,l15,x16=> bif decide ((w64 (x16+(v7.getD x10.toNat du)))<=(w64 (a4.Y.B-a4.Y.A))) then bif nz a5.Pitch then bif (Int.tmod x16 a5.Pitch)==0 then (PH a4 x16 (w64 (x16+(v7.getD x10.toNat du)))).bind λv20=> (jC a1 a2 a3 v20 a5 a6).bind λv22=> bif v22.2.2==0 then (TR v22.1).bind λv25=> MM l14 l15 x16 (zS a1 a2 a3 a4 a5 a6 v7 x10 n) v22 v25 else MM l14 l15 x16 (zS a1 a2 a3 a4 a5 a6 v7 x10 n) v22 false else XN l14 l15 x16 (zS a1 a2 a3 a4 a5 a6 v7 x10 n) (-1) ([]:List Node) else none else some (l14,l15)
def yO (a1:List qO) (a2:List qH) (a3:List qD) (a4:Rect) (a5:Saw) (a6:Rates) (v7:(List Int)):Nat->(List (List (List Node)))->Int->(List (List Int))->Option ((List (List (List Node)))×(List (List Int)))
 |0,_,_,_=>none
 |n+1,l9,x10,l11=> bif decide (x10<(v7.length:Int)) then bif inb x10 v7.length then (zS a1 a2 a3 a4 a5 a6 v7 x10 FUEL [] [] 0).bind λo36=> bif room (l11.length+1) 24 then bif room (l9.length+1) 24 then (yO a1 a2 a3 a4 a5 a6 v7 n) (l9++[o36.2]) (w64 (x10+1)) (l11++[o36.1]) else none else none else none else some (l9,l11)
def RO (a1:List qO) (a4:Rect) (a6:Rates):Nat->Int->(List Int)->(List Int)->Option ((List Int)×(List Int))
 |0,_,_,_=>none
 |n+1,x44,l45,l46=> bif decide (x44<(w64 (a4.Y.B-a4.Y.A))) then (PH a4 x44 (w64 (x44+1))).bind λv48=> (PO a1 v48).bind λv50=> bif room (l45.length+1) 8 then bif room (l46.length+1) 8 then (RO a1 a4 a6 n) (w64 (x44+1)) (l45++[w64 (a6.Chip*v50)]) (l46++[w64 (a6.Dust*v50)]) else none else none else some (l45,l46)
def PQ (a1:List qO) (a2:List qH) (a3:List qD) (a4:Rect) (a5:Saw) (a6:Rates):Option (Line×(List (List (List Node)))):= (DM a3).bind λv7=> (yO a1 a2 a3 a4 a5 a6 v7 FUEL [] 0 []).bind λo42=> (RO a1 a4 a6 FUEL 0 [] []).bind λo56=> some ((Line.mk (w64 (a4.Y.B-a4.Y.A)) a5.Kerf 1 v7 o42.2 o56.1 o56.2),o42.1)
def LQ (a1:List Node) (a2:List (List Node)):Option ((List (List Node))×(List (List Node))):= bif room (a2.length+1) 24 then some ((a2++[a1]),(a2++[a1])) else none
def XZ (v2:qG):Nat->Int->Int->Option Int
 |0,_,_=>none
 |n+1,x4,x5=> bif decide (x5<(v2.Rows.length:Int)) then bif inb x5 v2.Rows.length then (PA (v2.Rows.getD x5.toNat du)).bind λv8=> (XZ v2 n) (w64 (x4+v8)) (w64 (x5+1)) else none else some x4
def HU (a1:qG):Option Int:= (QX a1).bind λv2=> (XZ v2 FUEL 0 0).bind λo11=> some (w64 (10*o11))
def XY (v2:(List qO)):Nat->Int->Int->Option Int
 |0,_,_=>none
 |n+1,x4,x5=> bif decide (x5<(v2.length:Int)) then bif inb x5 v2.length then (HU ((v2.getD x5.toNat du).Sec)).bind λv8=> (XY v2 n) (w64 (x4+(w64 (((v2.getD x5.toNat du).Len)*v8)))) (w64 (x5+1)) else none else some x4
def XM (a1:List qO):Option Int:= (PS a1).bind λv2=> (XY v2 FUEL 0 0).bind λo11=> some o11
def JA (a4:Rect) (v10:Line×(List (List (List Node)))) (v12:(List zV)×Int×Int):Nat->(List Span)->(List (List Node))->Int->Option ((List Span)×(List (List Node)))
 |0,_,_,_=>none
 |n+1,l15,l16,x17=> bif decide (x17<(v12.1.length:Int)) then bif inb x17 v12.1.length then bif inb ((v12.1.getD x17.toNat du).Size) v10.1.Sizes.length then (PH a4 ((v12.1.getD x17.toNat du).At) (w64 (((v12.1.getD x17.toNat du).At)+(v10.1.Sizes.getD (((v12.1.getD x17.toNat du).Size).toNat) du)))).bind λv21=> bif room (l15.length+1) 16 then bif inb ((v12.1.getD x17.toNat du).Size) v10.2.length then bif inb ((v12.1.getD x17.toNat du).At) ((v10.2.getD (((v12.1.getD x17.toNat du).Size).toNat) du).length) then (LQ ((v10.2.getD (((v12.1.getD x17.toNat du).Size).toNat) du).getD ((v12.1.getD x17.toNat du).At).toNat du) l16).bind λv26=> (JA a4 v10 v12 n) (l15++[v21.Y]) v26.2 (w64 (x17+1)) else none else none
 else none else none else none else some (l15,l16)
def JL (a1:List qO) (a2:List qH) (a3:List qD) (a4:Rect) (a5:Saw) (a6:Rates):Option (Pattern×Int×Int):= (UH a1 a2 a3 a4 a5 a6).bind λv7=> bif v7 !=0 then some ((Pattern.mk (Rect.mk (Span.mk 0 0) (Span.mk 0 0)) []),0,v7) else (PQ a1 a2 a3 a4 a5 a6).bind λv10=> (jY (Line.mk v10.1.Len v10.1.Kerf v10.1.Pitch v10.1.Sizes v10.1.Gain v10.1.Chip v10.1.Dust)).bind λv12=> bif v12.2.2 !=0 then some ((Pattern.mk (Rect.mk (Span.mk 0 0) (Span.mk 0 0)) []),0,v12.2.2) else (JA a4 v10 v12 FUEL [] [] 0).bind λo30=> (WO a4 3 a5.Kerf o30.1 o30.2).bind λv32=> bif v32.2 !=0 then some ((Pattern.mk (Rect.mk (Span.mk 0 0) (Span.mk 0 0)) []),0,13) else (XM a1).bind λv35=> (PO a1 a4).bind λv37=> some ((Pattern.mk a4 v32.1),w64 (v12.2.1+(w64 (a6.Chip*(w64 (v35-v37))))),0)
def jW (a1:Scan) (a2:List qD) (a3:Saw) (a4:Rates) (a5:Int) (a6:Int):Nat->(List qI)->Int->Option (((List qI)×Int)⊕(List qI))
 |0,_,_=>none
 |n+1,l7,x8=> bif decide (x8<4) then (wU a1 x8 a5 a6).bind λv10=> bif v10.2.2 !=0 then some (Sum.inl ([],v10.2.2)) else (PK v10.1).bind λv13=> (JL v10.1 v10.2.1 a2 v13 a3 a4).bind λv15=> bif v15.2.2 !=0 then some (Sum.inl ([],v15.2.2)) else bif room (l7.length+1) 72 then (jW a1 a2 a3 a4 a5 a6 n) (l7++[(qI.mk x8 v15.1 v15.2.1)]) (w64 (x8+1)) else none else some (Sum.inr l7)
def WA (a1:Scan) (a2:List qD) (a3:Saw) (a4:Rates) (a5:Int) (a6:Int):Option ((List qI)×Int):= (jW a1 a2 a3 a4 a5 a6 FUEL [] 0).bind λu22=>Sum.elim (λv23=>some v23) (λo20=> some (o20,0)) u22
def qDL (x12:Int) (R:Int->qI->Option (Int×Int×Int×Int×Int×(List Node)×Int)) (x18:Int) (x19:Int) (x20:Int) (x21:Int) (x22:Int) (l23:List Node) (x24:Int):Option (Int×Int×Int×Int×Int×(List Node)×Int):= R (w64 (x12+1)) (qI.mk x18 (Pattern.mk (Rect.mk (Span.mk x19 x20) (Span.mk x21 x22)) l23) x24)
def JO (v7:(List qI)×Int):Nat->Int->qI->Option (Int×Int×Int×Int×Int×(List Node)×Int)
 |0,_,_=>none
 |n+1,x12,x13=> bif decide (x12<(((v7.1.length-(1:Int).toNat):Nat):Int)) then bif inb x12 (v7.1.length-(1:Int).toNat) then bif Nat.ble (((1:Int).toNat)+(v7.1.length-(1:Int).toNat)) v7.1.length then bif decide (((v7.1.getD (((1:Int).toNat)+x12.toNat) du).Value)>x13.Value) then qDL x12 (JO v7 n) ((v7.1.getD (((1:Int).toNat)+x12.toNat) du).Quarters) (((((v7.1.getD (((1:Int).toNat)+x12.toNat) du).Pattern).Frame).X).A) (((((v7.1.getD (((1:Int).toNat)+x12.toNat) du).Pattern).Frame).X).B) (((((v7.1.getD (((1:Int).toNat)+x12.toNat) du).Pattern).Frame).Y).A) (((((v7.1.getD (((1:Int).toNat)+x12.toNat) du).Pattern).Frame).Y).B) (((v7.1.getD (((1:Int).toNat)+x12.toNat) du).Pattern).Nodes) ((v7.1.getD (((1:Int).toNat)+x12.toNat) du).Value)
 else qDL x12 (JO v7 n) x13.Quarters x13.Pattern.Frame.X.A x13.Pattern.Frame.X.B x13.Pattern.Frame.Y.A x13.Pattern.Frame.Y.B x13.Pattern.Nodes x13.Value else none else none else some (x13.Quarters,x13.Pattern.Frame.X.A,x13.Pattern.Frame.X.B,x13.Pattern.Frame.Y.A,x13.Pattern.Frame.Y.B,x13.Pattern.Nodes,x13.Value)
def ZT (a1:Scan) (a2:List qD) (a3:Saw) (a4:Rates) (a5:Int) (a6:Int):Option (qI×Int):= (WA a1 a2 a3 a4 a5 a6).bind λv7=> bif v7.2 !=0 then some ((qI.mk 0 (Pattern.mk (Rect.mk (Span.mk 0 0) (Span.mk 0 0)) []) 0),v7.2) else bif inb 0 v7.1.length then bif slOk 1 (v7.1.length:Int) v7.1.length then (JO v7 FUEL 0 (v7.1.getD ((0:Int).toNat) du)).bind λo32=> some ((qI.mk o32.1 (Pattern.mk (Rect.mk (Span.mk o32.2.1 o32.2.2.1) (Span.mk o32.2.2.2.1 o32.2.2.2.2.1)) o32.2.2.2.2.2.1) o32.2.2.2.2.2.2),0) else none else none
def qBE (x24:Int) (R:Int->Option (Bool⊕Unit)) (x28:Bool):Option (Bool⊕Unit):= bif x28 then some (Sum.inl false) else R (w64 (x24+1))
def GL (v11:(List qI)×Int):Nat->Int->Option (Bool⊕Unit)
 |0,_=>none
 |n+1,x24=> bif decide (x24<(v11.1.length:Int)) then bif inb x24 v11.1.length then bif ((v11.1.getD x24.toNat du).Quarters) !=x24 then qBE x24 (GL v11 n) true else qBE x24 (GL v11 n) (((v11.1.getD x24.toNat du).Value) !=80000000) else none else some (Sum.inr ())
def jH (x46:Bool):Option Bool:= some x46
def YM (v3:(List qO)×(List qH)×Int) (v11:(List qI)×Int) (v17:qI×Int) (v19:qI×Int) (x22:Bool):Option Bool:= bif x22 then some false else (GL v11 FUEL 0).bind λu32=>Sum.elim (λv33=>some v33) (λo30=> bif v3.2.2==0 then bif (v3.2.1.length:Int)==0 then bif inb 0 v3.1.length then bif ((v3.1.getD (0:Int).toNat du).Len)==3000 then bif (((v3.1.getD (0:Int).toNat du).Sec).Low)==(-6) then bif (((((v3.1.getD (0:Int).toNat du).Sec).Rows).length:Nat):Int)==12 then bif inb 0 ((((v3.1.getD (0:Int).toNat du).Sec).Rows).length) then bif (((((((v3.1.getD (0:Int).toNat du).Sec).Rows).getD (0:Int).toNat du).A)==(-30))&&(((((((v3.1.getD (0:Int).toNat du).Sec).Rows).getD (0:Int).toNat du).B)==30)&&true)) then bif v11.2==0 then
 bif v17.2==0 then bif v17.1.Quarters==0 then bif v17.1.Value==80000000 then jH (v19.2==3) else jH false else jH false else jH false else jH false else jH false else none else jH false else jH false else jH false else none else jH false else jH false) u32
def WL :Option Bool:= (NH).bind λv1=> (wU v1 1 200 2).bind λv3=> (NH).bind λv9=> (WA v9 ([(qD.mk (ByteArray.mk #[112,108,97,110,107]) 50 100 0 0 [3000] [80])]:List qD) (Saw.mk 4 0 10 1000) (Rates.mk 0 0 0) 200 2).bind λv11=> (NH).bind λv15=> (ZT v15 ([(qD.mk (ByteArray.mk #[112,108,97,110,107]) 50 100 0 0 [3000] [80])]:List qD) (Saw.mk 4 0 10 1000) (Rates.mk 0 0 0) 200 2).bind λv17=> (ZT (Scan.mk [] []) ([(qD.mk (ByteArray.mk #[112,108,97,110,107]) 50 100 0 0 [3000] [80])]:List qD) (Saw.mk 4 0 10 1000) (Rates.mk 0 0 0) 200 2).bind λv19=> bif (v3.1.length:Int) !=1 then YM v3 v11 v17 v19 true else YM v3 v11 v17 v19 ((v11.1.length:Int) !=4)
def XX (x2:Int) (R:Int->Option (Bool⊕Unit)) (x8:Bool):Option (Bool⊕Unit):= bif x8 then some (Sum.inl false) else R (w64 (x2+1))
def yA (a1:List qA):Nat->Int->Option (Bool⊕Unit)
 |0,_=>none
 |n+1,x2=> bif decide (x2<(a1.length:Int)) then bif inb x2 a1.length then bif decide (((a1.getD x2.toNat du).X)<(-600)) then XX x2 (yA a1 n) true else bif decide (((a1.getD x2.toNat du).X)>600) then XX x2 (yA a1 n) true else bif decide (((a1.getD x2.toNat du).Y)<(-600)) then XX x2 (yA a1 n) true else XX x2 (yA a1 n) (decide (((a1.getD x2.toNat du).Y)>600)) else none else some (Sum.inr ())
def XO (a1:List qA):Option Bool:= (yA a1 FUEL 0).bind λu12=>Sum.elim (λv13=>some v13) (λo10=> some true) u12
def qCl (x7:Int) (R:Int->Option (Int⊕Unit)) (x16:Bool):Option (Int⊕Unit):= bif x16 then some (Sum.inl 19) else R (w64 (x7+1))
def qCc (a1:Ring) (x7:Int) (R:Int->Option (Int⊕Unit)) (x13:Bool):Option (Int⊕Unit):= bif x13 then some (Sum.inl 9) else bif !((a1.Read.getD x7.toNat du).Ok) then qCl x7 R (!(((((a1.Read.getD x7.toNat du).P).X)==0)&&(((((a1.Read.getD x7.toNat du).P).Y)==0)&&true))) else qCl x7 R false
def PZ (a1:Ring):Nat->Int->Option (Int⊕Unit)
 |0,_=>none
 |n+1,x7=> bif decide (x7<(a1.Read.length:Int)) then bif inb x7 a1.Read.length then bif (a1.Read.getD x7.toNat du).Ok then (XO [(a1.Read.getD x7.toNat du).P]).bind λv11=> qCc a1 x7 (PZ a1 n) (!v11) else qCc a1 x7 (PZ a1 n) false else none else some (Sum.inr ())
def qCf (a1:Ring) (x5:Bool):Option Int:= bif x5 then some 9 else (PZ a1 FUEL 0).bind λu20=>Sum.elim (λv21=>some v21) (λo18=> some 0) u20
def FO (a1:Ring):Option Int:= bif decide ((a1.Read.length:Int)<8) then some 3 else bif decide ((a1.Read.length:Int)>32) then some 4 else bif decide (a1.Z<0) then qCf a1 true else qCf a1 (decide (a1.Z>20000))
def EI (x4:Bool):Option Bool:= some x4
def qG2 (a1:Box):Option Bool:= bif decide (a1.X.A≥a1.X.B) then EI true else bif decide (a1.Y.A≥a1.Y.B) then EI true else EI (decide (a1.Z.A≥a1.Z.B))
def qG5 (x5:Bool):Option Bool:= some x5
def qFA (a1:Span) (a2:Int) (a3:Int):Option Bool:= bif decide (a2<=a1.A) then qG5 (decide (a1.B<=a3)) else qG5 false
def LK (x10:Bool):Option Bool:= some x10
def qFy (a1:Box):Option Bool:= (qFA a1.X (-600) 600).bind λv2=> bif v2 then (qFA a1.Y (-600) 600).bind λv5=> bif v5 then (qFA a1.Z 0 20000).bind λv8=> LK v8 else LK false else LK false
def qBH (a1:List qH) (x3:Int) (R:Int->Option (Int⊕Unit)) (x7:Bool):Option (Int⊕Unit):= bif x7 then some (Sum.inl 10) else bif inb x3 a1.length then (qG2 ((a1.getD x3.toNat du).Box)).bind λv10=> bif v10 then some (Sum.inl 19) else (qFy ((a1.getD x3.toNat du).Box)).bind λv13=> bif !v13 then some (Sum.inl 9) else R (w64 (x3+1)) else none
def YN (a1:List qH):Nat->Int->Option (Int⊕Unit)
 |0,_=>none
 |n+1,x3=> bif decide (x3<(a1.length:Int)) then bif inb x3 a1.length then bif decide (((a1.getD x3.toNat du).Kind)<1) then qBH a1 x3 (YN a1 n) true else qBH a1 x3 (YN a1 n) (decide (((a1.getD x3.toNat du).Kind)>6)) else none else some (Sum.inr ())
def qCC (a1:List qH):Option Int:= bif decide ((a1.length:Int)>64) then some 4 else (YN a1 FUEL 0).bind λu18=>Sum.elim (λv19=>some v19) (λo16=> some 0) u18
def RD (a1:Scan) (x5:Int) (R:Int->Int->Option (Int⊕Int)) (x15:Bool):Option (Int⊕Int):= bif x15 then some (Sum.inl 11) else bif inb 0 a1.Rings.length then bif ((((a1.Rings.getD x5.toNat du).Read).length:Nat):Int) !=((((a1.Rings.getD (0:Int).toNat du).Read).length:Nat):Int) then some (Sum.inl 19) else R ((a1.Rings.getD x5.toNat du).Z) (w64 (x5+1)) else none
def jD (a1:Scan):Nat->Int->Int->Option (Int⊕Int)
 |0,_,_=>none
 |n+1,x4,x5=> bif decide (x5<(a1.Rings.length:Int)) then bif inb x5 a1.Rings.length then (FO (a1.Rings.getD x5.toNat du)).bind λv8=> bif v8 !=0 then some (Sum.inl v8) else bif x5==0 then bif ((a1.Rings.getD x5.toNat du).Z) !=0 then RD a1 x5 (jD a1 n) true else bif decide (x5>0) then RD a1 x5 (jD a1 n) (decide (((a1.Rings.getD x5.toNat du).Z)<=x4)) else RD a1 x5 (jD a1 n) false else bif decide (x5>0) then RD a1 x5 (jD a1 n) (decide (((a1.Rings.getD x5.toNat du).Z)<=x4)) else RD a1 x5 (jD a1 n) false else none else some (Sum.inr x4)
def DH (a1:Scan) (o20:Int):Nat->Int->Option (Int⊕Unit)
 |0,_=>none
 |n+1,x27=> bif decide (x27<(a1.Defects.length:Int)) then bif inb x27 a1.Defects.length then bif decide (((((a1.Defects.getD x27.toNat du).Box).Z).B)>o20) then some (Sum.inl 9) else (DH a1 o20 n) (w64 (x27+1)) else none else some (Sum.inr ())
def qG6 (a1:Scan):Option Int:= bif decide ((a1.Rings.length:Int)<2) then some 3 else bif decide ((a1.Rings.length:Int)>24) then some 4 else (jD a1 FUEL 0 0).bind λu22=>Sum.elim (λv23=>some v23) (λo20=> (qCC a1.Defects).bind λv24=> bif v24 !=0 then some v24 else (DH a1 o20 FUEL 0).bind λu33=>Sum.elim (λv34=>some v34) (λo31=> some 0) u33) u22
def qAD (a1:Ring):Option Ring:= bif room (0+a1.Read.length) 24 then some (Ring.mk a1.Z (([]:List qP)++a1.Read)) else none
def GQ (a1:Int):Option Int:= some (Int.tmod (w64 ((Int.tmod a1 4)+4)) 4)
def WS (a2:Int):Nat->Int->qA->Option qA
 |0,_,_=>none
 |n+1,x3,x4=> bif decide (x3<a2) then (WS a2 n) (w64 (x3+1)) (qA.mk (w64 (0-x4.Y)) x4.X) else some x4
def qFB (a1:qA) (a2:Int):Option qA:= (WS a2 FUEL 0 a1).bind λo7=> some o7
def qDE (x8:Int) (R:Int->(List qP)->Option (List qP)) (l17:List qP):Option (List qP):= R (w64 (x8+1)) l17
def TT (a2:Int):Nat->Int->(List qP)->Option (List qP)
 |0,_,_=>none
 |n+1,x8,l9=> bif decide (x8<(l9.length:Int)) then bif inb x8 l9.length then bif (l9.getD x8.toNat du).Ok then (GQ a2).bind λv13=> (qFB ((l9.getD x8.toNat du).P) v13).bind λv15=> qDE x8 (TT a2 n) (l9.set x8.toNat (qP.mk v15 ((l9.getD x8.toNat du).Ok))) else qDE x8 (TT a2 n) l9 else none else some l9
def NB (a1:Ring) (a2:Int):Option Ring:= (qAD a1).bind λv3=> (FO a1).bind λv5=> bif v5 !=0 then some (Ring.mk v3.Z v3.Read) else (TT a2 FUEL 0 v3.Read).bind λo19=> some (Ring.mk v3.Z o19)
def qST (a1:Box):Option Box:= some (Box.mk (Span.mk (w64 (0-a1.Y.B)) (w64 (0-a1.Y.A))) a1.X a1.Z)
def JM (a1:List qH) (a2:Int) (x7:Int):Nat->Int->Int->Int->Int->Int->Int->Int->Option qH
 |0,_,_,_,_,_,_,_=>none
 |n+1,x10,x11,x12,x13,x14,x15,x16=> (GQ a2).bind λv17=> bif decide (x10<v17) then (qST (Box.mk (Span.mk x11 x12) (Span.mk x13 x14) (Span.mk x15 x16))).bind λv20=> (JM a1 a2 x7 n) (w64 (x10+1)) v20.X.A v20.X.B v20.Y.A v20.Y.B v20.Z.A v20.Z.B else some (qH.mk ((a1.getD x7.toNat du).Kind) (Box.mk (Span.mk x11 x12) (Span.mk x13 x14) (Span.mk x15 x16)))
def KV (a1:List qH) (a2:Int):Nat->(List qH)->Int->Option (List qH)
 |0,_,_=>none
 |n+1,l6,x7=> bif decide (x7<(a1.length:Int)) then bif inb x7 a1.length then (JM a1 a2 x7 FUEL 0 ((((a1.getD x7.toNat du).Box).X).A) ((((a1.getD x7.toNat du).Box).X).B) ((((a1.getD x7.toNat du).Box).Y).A) ((((a1.getD x7.toNat du).Box).Y).B) ((((a1.getD x7.toNat du).Box).Z).A) ((((a1.getD x7.toNat du).Box).Z).B)).bind λo23=> bif room (l6.length+1) 56 then (KV a1 a2 n) (l6++[o23]) (w64 (x7+1)) else none else none else some l6
def qIB (a1:List qH) (a2:Int):Option (List qH):= (qCC a1).bind λv3=> bif v3 !=0 then some ([]:List qH) else (KV a1 a2 FUEL [] 0).bind λo27=> some o27
def PB (a1:Scan) (a2:Int):Nat->Int->(List Ring)->Option (List Ring)
 |0,_,_=>none
 |n+1,x6,l7=> bif decide (x6<(a1.Rings.length:Int)) then bif inb x6 a1.Rings.length then (NB (a1.Rings.getD x6.toNat du) a2).bind λv13=> bif room (l7.length+1) 32 then (PB a1 a2 n) (w64 (x6+1)) (l7++[v13]) else none else none else some l7
def qPm (a1:Scan) (a2:Int):Option Scan:= (qG6 a1).bind λv3=> bif v3 !=0 then some a1 else (PB a1 a2 FUEL 0 []).bind λo17=> (qIB a1.Defects a2).bind λv19=> some (Scan.mk o17 v19)
def qDP (x8:Int) (R:Int->Option Int) (x12:Bool):Option Int:= bif x12 then R (w64 (x8+1)) else some x8
def QU (a1:Ring) (x4:Int):Nat->Int->Option Int
 |0,_=>none
 |n+1,x8=> bif decide (x8<(a1.Read.length:Int)) then bif nz (a1.Read.length:Int) then bif inb (Int.tmod (w64 (x4+x8)) (a1.Read.length:Int)) a1.Read.length then qDP x8 (QU a1 x4 n) (!((a1.Read.getD (Int.tmod (w64 (x4+x8)) (a1.Read.length:Int)).toNat du).Ok)) else none else none else qDP x8 (QU a1 x4 n) false
def qDD (x4:Int) (R:Int->Int->Int->Option (Int×Int)) (x17:Int) (x18:Int):Option (Int×Int):= R x17 x18 (w64 (x4+1))
def TV (a1:Ring):Nat->Int->Int->Int->Option (Int×Int)
 |0,_,_,_=>none
 |n+1,x2,x3,x4=> bif decide (x4<(a1.Read.length:Int)) then bif inb x4 a1.Read.length then bif (a1.Read.getD x4.toNat du).Ok then qDD x4 (TV a1 n) x2 x3 else (QU a1 x4 FUEL 0).bind λo15=> qDD x4 (TV a1 n) (w64 (x2+1)) (imax x3 o15) else none else some (x2,x3)
def qAG (a1:Ring):Option (Int×Int):= (TV a1 FUEL 0 0 0).bind λo21=> some (o21.1,o21.2)
def UD (a1:List qP) (a3:Int):Nat->Int->Option Int
 |0,_=>none
 |n+1,x5=> bif inb x5 a1.length then bif !((a1.getD x5.toNat du).Ok) then bif nz (a1.length:Int) then (UD a1 a3 n) (Int.tmod (w64 ((w64 (x5+a3))+(a1.length:Int))) (a1.length:Int)) else none else some x5 else none
def XA (a1:List qP) (a2:Int) (a3:Int):Option Int:= bif nz (a1.length:Int) then (UD a1 a3 FUEL (Int.tmod (w64 ((w64 (a2+a3))+(a1.length:Int))) (a1.length:Int))).bind λo10=> some o10 else none
def DU (x7:Bool):Option Bool:= some x7
def qCQ (a1:qA) (a2:qA) (a3:Int):Option Bool:= bif decide ((w64 (a1.X-a2.X))>a3) then DU true else bif decide ((w64 (a2.X-a1.X))>a3) then DU true else bif decide ((w64 (a1.Y-a2.Y))>a3) then DU true else DU (decide ((w64 (a2.Y-a1.Y))>a3))
def SK (x13:Int) (R:Int->(List qP)->Option (List qP)) (l32:List qP):Option (List qP):= R (w64 (x13+1)) l32
def qCr (x13:Int) (l14:List qP) (R:Int->(List qP)->Option (List qP)) (x29:Bool):Option (List qP):= bif x29 then bif inb x13 l14.length then SK x13 R (l14.set x13.toNat (qP.mk (qA.mk 0 0) false)) else none else SK x13 R l14
def YO (a1:Ring) (a2:Int):Nat->Int->(List qP)->Option (List qP)
 |0,_,_=>none
 |n+1,x13,l14=> bif decide (x13<(a1.Read.length:Int)) then bif inb x13 a1.Read.length then bif !((a1.Read.getD x13.toNat du).Ok) then SK x13 (YO a1 a2 n) l14 else (XA a1.Read x13 (-1)).bind λv18=> bif inb v18 a1.Read.length then (XA a1.Read x13 1).bind λv21=> bif inb v21 a1.Read.length then (qCQ ((a1.Read.getD x13.toNat du).P) ((a1.Read.getD v18.toNat du).P) a2).bind λv24=> bif v24 then (qCQ ((a1.Read.getD x13.toNat du).P) ((a1.Read.getD v21.toNat du).P) a2).bind λv27=> qCr x13 l14 (YO a1 a2 n) v27 else qCr x13 l14 (YO a1 a2 n) false else none else none else none else some l14
def EQ (a1:Ring) (a2:Int) (v5:Ring) (x11:Bool):Option Ring:= bif x11 then some (Ring.mk v5.Z v5.Read) else (YO a1 a2 FUEL 0 v5.Read).bind λo34=> some (Ring.mk v5.Z o34)
def qG4 (a1:Ring) (a2:Int):Option Ring:= (qAG a1).bind λv3=> (qAD a1).bind λv5=> bif decide (a2<0) then EQ a1 a2 v5 true else bif decide ((w64 ((a1.Read.length:Int)-v3.1))<2) then EQ a1 a2 v5 true else (FO a1).bind λv9=> EQ a1 a2 v5 (v9 !=0)
def qB4 (x5:Int):Option Int:= some x5
def qCL (a1:Int) (a2:Int):Option Int:= bif nz a2 then bif decide ((w64 ((w64 (Int.tdiv a1 a2))*a2))>a1) then qB4 (w64 ((w64 (Int.tdiv a1 a2))-1)) else qB4 (w64 (Int.tdiv a1 a2)) else none
def qAk (x13:Int) (R:(List qA)->Int->Option (List qA)) (l30:List qA):Option (List qA):= R l30 (w64 (x13+1))
def WZ (a1:Ring):Nat->(List qA)->Int->Option (List qA)
 |0,_,_=>none
 |n+1,l12,x13=> bif decide (x13<(a1.Read.length:Int)) then bif inb x13 a1.Read.length then bif (a1.Read.getD x13.toNat du).Ok then bif room (l12.length+1) 16 then qAk x13 (WZ a1 n) (l12++[(a1.Read.getD x13.toNat du).P]) else none else (XA a1.Read x13 (-1)).bind λv18=> (XA a1.Read x13 1).bind λv20=> bif nz (a1.Read.length:Int) then bif inb v18 a1.Read.length then bif inb v20 a1.Read.length then (qCL (w64 ((w64 ((((a1.Read.getD v20.toNat du).P).X)-(((a1.Read.getD v18.toNat du).P).X)))*(Int.tmod (w64 ((w64 (x13-v18))+(a1.Read.length:Int))) (a1.Read.length:Int)))) (Int.tmod (w64 ((w64 (v20-v18))+(a1.Read.length:Int))) (a1.Read.length:Int))).bind λv25=> (qCL (w64 ((w64 ((((a1.Read.getD v20.toNat du).P).Y)-(((a1.Read.getD v18.toNat du).P).Y)))*(Int.tmod (w64 ((w64 (x13-v18))+(a1.Read.length:Int))) (a1.Read.length:Int)))) (Int.tmod (w64 ((w64 (v20-v18))+(a1.Read.length:Int))) (a1.Read.length:Int))).bind λv27=>
 bif room (l12.length+1) 16 then qAk x13 (WZ a1 n) (l12++[(qA.mk (w64 ((((a1.Read.getD v18.toNat du).P).X)+v25)) (w64 ((((a1.Read.getD v18.toNat du).P).Y)+v27)))]) else none else none else none else none else none else some l12
def MB (a1:Ring) (x10:Bool):Option ((List qA)×Int):= bif x10 then some ([],30) else (WZ a1 FUEL [] 0).bind λo32=> some (o32,0)
def qFp (a1:Ring) (a2:Int):Option ((List qA)×Int):= (FO a1).bind λv3=> bif v3 !=0 then some ([],v3) else (qAG a1).bind λv6=> bif decide ((w64 ((a1.Read.length:Int)-v6.1))<3) then MB a1 true else bif decide (v6.1>0) then MB a1 (decide (v6.2>a2)) else MB a1 false
def DQ (a1:List qA):Nat->Int->Int->Option Int
 |0,_,_=>none
 |n+1,x7,x8=> bif decide (x8<(a1.length:Int)) then bif nz (a1.length:Int) then bif inb (Int.tmod (w64 (x8+1)) (a1.length:Int)) a1.length then bif inb x8 a1.length then (DQ a1 n) (w64 ((w64 (x7+(w64 (((a1.getD x8.toNat du).X)*((a1.getD (Int.tmod (w64 (x8+1)) (a1.length:Int)).toNat du).Y)))))-(w64 (((a1.getD (Int.tmod (w64 (x8+1)) (a1.length:Int)).toNat du).X)*((a1.getD x8.toNat du).Y))))) (w64 (x8+1)) else none else none else none else some x7
def qBF (a1:List qA) (x5:Bool):Option Int:= bif x5 then some 0 else (DQ a1 FUEL 0 0).bind λo14=> some o14
def qG8 (a1:List qA):Option Int:= bif decide ((a1.length:Int)>32) then qBF a1 true else (XO a1).bind λv3=> qBF a1 (!v3)
def qHj (a1:List qA):Option Int:= bif decide ((a1.length:Int)<3) then some 3 else bif decide ((a1.length:Int)>32) then some 4 else (XO a1).bind λv4=> bif !v4 then some 9 else (qG8 a1).bind λv7=> bif v7==0 then some 19 else some 0
def LR (x5:Bool):Option Bool:= some x5
def qFH (a1:qA) (a2:qA):Option Bool:= bif decide (a1.X<a2.X) then LR true else bif a1.X==a2.X then LR (decide (a1.Y<a2.Y)) else LR false
def qAg (x5:Int) (R:Int->Option Int) (x11:Bool):Option Int:= bif x11 then R (w64 (x5+1)) else some x5
def VB (a1:List qA) (l2:List qA) (x3:Int):Nat->Int->Option Int
 |0,_=>none
 |n+1,x5=> bif decide (x5<(l2.length:Int)) then bif inb x5 l2.length then bif inb x3 a1.length then (qFH (l2.getD x5.toNat du) (a1.getD x3.toNat du)).bind λv9=> qAg x5 (VB a1 l2 x3 n) v9 else none else none else qAg x5 (VB a1 l2 x3 n) false
def qAm (x3:Int) (R:(List qA)->Int->Option (List qA)) (l27:List qA):Option (List qA):= R l27 (w64 (x3+1))
def qAQ (a1:List qA) (l2:List qA) (x3:Int) (R:(List qA)->Int->Option (List qA)) (o14:Int) (x19:Bool):Option (List qA):= bif x19 then qAm x3 R l2 else bif slOk 0 o14 l2.length then bif room (0+o14.toNat) 16 then bif inb x3 a1.length then bif room ((0+o14.toNat)+1) 16 then bif slOk o14 (l2.length:Int) l2.length then bif room (((0+o14.toNat)+1)+(l2.length-o14.toNat)) 16 then qAm x3 R (((([]:List qA)++(l2.take o14.toNat))++[(a1.getD x3.toNat du)])++((l2.drop o14.toNat).take (l2.length-o14.toNat))) else none else none else none else none else none else none
def KE (a1:List qA):Nat->(List qA)->Int->Option (List qA)
 |0,_,_=>none
 |n+1,l2,x3=> bif decide (x3<(a1.length:Int)) then (VB a1 l2 x3 FUEL 0).bind λo14=> bif decide (o14<(l2.length:Int)) then bif inb o14 l2.length then bif inb x3 a1.length then qAQ a1 l2 x3 (KE a1 n) o14 ((((l2.getD o14.toNat du).X)==((a1.getD x3.toNat du).X))&&((((l2.getD o14.toNat du).Y)==((a1.getD x3.toNat du).Y))&&true)) else none else none else qAQ a1 l2 x3 (KE a1 n) o14 false else some l2
def qE0 (a1:List qA):Option (List qA):= (KE a1 FUEL [] 0).bind λo29=> some o29
def qHi (a1:qA) (a2:qA) (a3:qA):Option Int:= some (w64 ((w64 ((w64 (a2.X-a1.X))*(w64 (a3.Y-a1.Y))))-(w64 ((w64 (a2.Y-a1.Y))*(w64 (a3.X-a1.X))))))
def qBI (l5:List qA) (R:(List qA)->Option (List qA)) (x12:Bool):Option (List qA):= bif x12 then bif slOk 0 (w64 ((l5.length:Int)-1)) l5.length then R (l5.take ((w64 ((l5.length:Int)-1)).toNat)) else none else some l5
def GU (a1:List qA) (x3:Int):Nat->(List qA)->Option (List qA)
 |0,_=>none
 |n+1,l5=> bif decide ((l5.length:Int)>1) then bif inb (w64 ((l5.length:Int)-2)) l5.length then bif inb (w64 ((l5.length:Int)-1)) l5.length then bif inb x3 a1.length then (qHi (l5.getD ((w64 ((l5.length:Int)-2)).toNat) du) (l5.getD ((w64 ((l5.length:Int)-1)).toNat) du) (a1.getD x3.toNat du)).bind λv10=> qBI l5 (GU a1 x3 n) (decide (v10<=0)) else none else none else none else qBI l5 (GU a1 x3 n) false
def EN (a1:List qA):Nat->(List qA)->Int->Option (List qA)
 |0,_,_=>none
 |n+1,l2,x3=> bif decide (x3<(a1.length:Int)) then (GU a1 x3 FUEL l2).bind λo16=> bif inb x3 a1.length then bif room (o16.length+1) 16 then (EN a1 n) (o16++[(a1.getD x3.toNat du)]) (w64 (x3+1)) else none else none else some l2
def qCz (a1:List qA):Option (List qA):= (EN a1 FUEL [] 0).bind λo21=> some o21
def TS (v7:(List qA)):Nat->(List qA)->Int->Option (List qA)
 |0,_,_=>none
 |n+1,l9,x10=> bif decide (x10≥0) then bif inb x10 v7.length then bif room (l9.length+1) 16 then (TS v7 n) (l9++[(v7.getD x10.toNat du)]) (w64 (x10-1)) else none else none else some l9
def qDz (a1:List qA) (x5:Bool):Option (List qA):= bif x5 then some ([]:List qA) else (qE0 a1).bind λv7=> (TS v7 FUEL [] (w64 ((v7.length:Int)-1))).bind λo15=> (qCz v7).bind λv17=> (qCz o15).bind λv19=> bif decide ((w64 ((v17.length:Int)+(v19.length:Int)))<5) then some ([]:List qA) else bif slOk 0 (w64 ((v17.length:Int)-1)) v17.length then bif room (0+(w64 ((v17.length:Int)-1)).toNat) 16 then bif slOk 0 (w64 ((v19.length:Int)-1)) v19.length then bif room ((0+(w64 ((v17.length:Int)-1)).toNat)+(w64 ((v19.length:Int)-1)).toNat) 16 then some ((([]:List qA)++(v17.take ((w64 ((v17.length:Int)-1)).toNat)))++(v19.take ((w64 ((v19.length:Int)-1)).toNat))) else none else none else none else none
def qIL (a1:List qA):Option (List qA):= bif decide ((a1.length:Int)>32) then qDz a1 true else (XO a1).bind λv3=> qDz a1 (!v3)
def qBr (x5:Int):Option Int:= some x5
def qCy (a1:Int) (a2:Int):Option Int:= bif nz a2 then bif decide ((w64 ((w64 (Int.tdiv a1 a2))*a2))>a1) then qBr (w64 ((w64 (Int.tdiv a1 a2))-1)) else qBr (w64 (Int.tdiv a1 a2)) else none
def MD (x5:Int) (R:Int->Int->Int->Option ((Int×Int)⊕(Int×Int))) (x17:Int) (x18:Int):Option ((Int×Int)⊕(Int×Int)):= R x17 x18 (w64 (x5+1))
def WU (a1:List qA) (a2:Int):Nat->Int->Int->Int->Option ((Int×Int)⊕(Int×Int))
 |0,_,_,_=>none
 |n+1,x3,x4,x5=> bif decide (x5<(a1.length:Int)) then bif inb x5 a1.length then bif nz (a1.length:Int) then bif inb (Int.tmod (w64 (x5+1)) (a1.length:Int)) a1.length then bif decide ((w64 (((a1.getD (Int.tmod (w64 (x5+1)) (a1.length:Int)).toNat du).Y)-((a1.getD x5.toNat du).Y)))>0) then (qCy (w64 ((w64 (((a1.getD (Int.tmod (w64 (x5+1)) (a1.length:Int)).toNat du).X)-((a1.getD x5.toNat du).X)))*(w64 (a2-((a1.getD x5.toNat du).Y))))) (w64 (((a1.getD (Int.tmod (w64 (x5+1)) (a1.length:Int)).toNat du).Y)-((a1.getD x5.toNat du).Y)))).bind λv11=> MD x5 (WU a1 a2 n) x3 (imin x4 (w64 (((a1.getD x5.toNat du).X)+v11))) else bif decide ((w64 (((a1.getD (Int.tmod (w64 (x5+1)) (a1.length:Int)).toNat du).Y)-((a1.getD x5.toNat du).Y)))<0) then
 (qCy (w64 ((w64 (((a1.getD (Int.tmod (w64 (x5+1)) (a1.length:Int)).toNat du).X)-((a1.getD x5.toNat du).X)))*(w64 (a2-((a1.getD x5.toNat du).Y))))) (w64 (0-(w64 (((a1.getD (Int.tmod (w64 (x5+1)) (a1.length:Int)).toNat du).Y)-((a1.getD x5.toNat du).Y)))))).bind λv14=> MD x5 (WU a1 a2 n) (imax x3 (w64 (((a1.getD x5.toNat du).X)-v14))) x4 else bif decide ((w64 ((w64 (((a1.getD (Int.tmod (w64 (x5+1)) (a1.length:Int)).toNat du).X)-((a1.getD x5.toNat du).X)))*(w64 (a2-((a1.getD x5.toNat du).Y)))))<0) then some (Sum.inl (1,0)) else MD x5 (WU a1 a2 n) x3 x4 else none else none else none else some (Sum.inr (x3,x4))
def SH (a1:List qA) (a2:Int):Option (Int×Int):= (WU a1 a2 FUEL (-600) 600 0).bind λu23=>Sum.elim (λv24=>some v24) (λo21=> some (o21.1,o21.2)) u23
def SP (v11:Int×Int) (v13:Int×Int) (x17:Bool):Option Span:= bif x17 then some (Span.mk 0 0) else some (Span.mk (imax v11.1 v13.1) (imin v11.2 v13.2))
def GP (a2:Int) (a3:Int) (v4:(List qA)) (x9:Bool):Option Span:= bif x9 then some (Span.mk 0 0) else (SH v4 a2).bind λv11=> (SH v4 a3).bind λv13=> bif decide (v11.1>v11.2) then SP v11 v13 true else bif decide (v13.1>v13.2) then SP v11 v13 true else SP v11 v13 (decide ((imax v11.1 v13.1)≥(imin v11.2 v13.2)))
def qHg (a1:List qA) (a2:Int) (a3:Int):Option Span:= (qIL a1).bind λv4=> bif (v4.length:Int)==0 then GP a2 a3 v4 true else bif decide (a2≥a3) then GP a2 a3 v4 true else bif decide (a2<(-600)) then GP a2 a3 v4 true else GP a2 a3 v4 (decide (a3>600))
def VU (a1:Span):Option Bool:= some (decide (a1.A≥a1.B))
def OM (x3:Int) (R:Int->Option Int) (x8:Bool):Option Int:= bif x8 then R (w64 (x3+1)) else some x3
def YV (a2:List Span):Nat->Int->Option Int
 |0,_=>none
 |n+1,x3=> bif decide (x3<(a2.length:Int)) then bif inb x3 a2.length then (VU (a2.getD x3.toNat du)).bind λv6=> OM x3 (YV a2 n) v6 else none else OM x3 (YV a2 n) false
def CF (x13:Int) (R:Int->Option Int) (x18:Bool):Option Int:= bif x18 then R (w64 (x13-1)) else some x13
def TC (a2:List Span) (o11:Int):Nat->Int->Option Int
 |0,_=>none
 |n+1,x13=> bif decide (x13>o11) then bif inb (w64 (x13-1)) a2.length then (VU (a2.getD (w64 (x13-1)).toNat du)).bind λv16=> CF x13 (TC a2 o11 n) v16 else none else CF x13 (TC a2 o11 n) false
def RN (x24:Int) (l25:List Span) (R:Int->(List Span)->Option (List Span)) (x31:Span):Option (List Span):= bif room (l25.length+1) 16 then R (w64 (x24+1)) (l25++[x31]) else none
def QR (a2:List Span) (o21:Int):Nat->Int->(List Span)->Option (List Span)
 |0,_,_=>none
 |n+1,x24,l25=> bif decide (x24<o21) then bif inb x24 a2.length then (VU (a2.getD x24.toNat du)).bind λv28=> bif v28 then RN x24 l25 (QR a2 o21 n) (Span.mk 0 0) else RN x24 l25 (QR a2 o21 n) (a2.getD x24.toNat du) else none else some l25
def UA (a1:Int) (a2:List Span):Option qG:= (YV a2 FUEL 0).bind λo11=> (TC a2 o11 FUEL (a2.length:Int)).bind λo21=> bif o11==o21 then some (qG.mk 0 []) else (QR a2 o21 FUEL o11 []).bind λo34=> some (qG.mk (w64 (a1+o11)) o34)
def zaQ (a1:List qA):Nat->Int->Int->Int->Option (Int×Int)
 |0,_,_,_=>none
 |n+1,x6,x7,x8=> bif decide (x8<(a1.length:Int)) then bif inb x8 a1.length then (zaQ a1 n) (imin x6 ((a1.getD x8.toNat du).Y)) (imax x7 ((a1.getD x8.toNat du).Y)) (w64 (x8+1)) else none else some (x6,x7)
def qCM (l15:List Span) (x16:Int) (R:(List Span)->Int->Option (List Span)) (x23:Span):Option (List Span):= bif room (l15.length+1) 16 then R (l15++[x23]) (w64 (x16+1)) else none
def qHd (a1:List qA) (l15:List Span) (x16:Int) (R:(List Span)->Int->Option (List Span)) (x19:Bool):Option (List Span):= bif x19 then (qHg a1 (w64 (10*x16)) (w64 (10*(w64 (x16+1))))).bind λv21=> qCM l15 x16 R v21 else qCM l15 x16 R (Span.mk 0 0)
def WN (a1:List qA) (o13:Int×Int):Nat->(List Span)->Int->Option (List Span)
 |0,_,_=>none
 |n+1,l15,x16=> bif decide (x16<60) then bif decide ((w64 (10*x16))≥o13.1) then qHd a1 l15 x16 (WN a1 o13 n) (decide ((w64 (10*(w64 (x16+1))))<=o13.2)) else qHd a1 l15 x16 (WN a1 o13 n) false else some l15
def qNf (a1:List qA):Option (qG×Int):= (qHj a1).bind λv2=> bif v2 !=0 then some ((qG.mk 0 []),v2) else bif inb 0 a1.length then (zaQ a1 FUEL ((a1.getD (0:Int).toNat du).Y) ((a1.getD (0:Int).toNat du).Y) 0).bind λo13=> (WN a1 o13 FUEL [] (-60)).bind λo26=> (UA (-60) o26).bind λv28=> bif (v28.Rows.length:Int)==0 then some ((qG.mk 0 []),18) else some ((qG.mk v28.Low v28.Rows),0) else none
def qJx (a1:Ring) (a2:Int) (a3:Int):Option (qG×Bool):= (qG4 a1 a2).bind λv4=> (qFp (Ring.mk v4.Z v4.Read) a3).bind λv6=> bif v6.2 !=0 then some ((qG.mk 0 []),false) else (qNf v6.1).bind λv9=> some ((qG.mk v9.1.Low v9.1.Rows),v9.2==0)
def qBf (x3:Bool):Option Bool:= some x3
def qAo (a1:Int):Option Bool:= bif decide (a1<(-600)) then qBf true else qBf (decide (a1>600))
def qBO (x6:Int) (R:Int->Option (Int⊕Unit)) (x14:Bool):Option (Int⊕Unit):= bif x14 then some (Sum.inl 9) else R (w64 (x6+1))
def YR (a1:qG):Nat->Int->Option (Int⊕Unit)
 |0,_=>none
 |n+1,x6=> bif decide (x6<(a1.Rows.length:Int)) then bif inb x6 a1.Rows.length then (qAo ((a1.Rows.getD x6.toNat du).A)).bind λv9=> bif v9 then qBO x6 (YR a1 n) true else (qAo ((a1.Rows.getD x6.toNat du).B)).bind λv12=> qBO x6 (YR a1 n) v12 else none else some (Sum.inr ())
def qB0 (x31:Int) (R:Int->Option (Int⊕Unit)) (x37:Bool):Option (Int⊕Unit):= bif x37 then some (Sum.inl 19) else R (w64 (x31+1))
def YT (a1:qG):Nat->Int->Option (Int⊕Unit)
 |0,_=>none
 |n+1,x31=> bif decide (x31<(a1.Rows.length:Int)) then bif inb x31 a1.Rows.length then (VU (a1.Rows.getD x31.toNat du)).bind λv34=> bif v34 then qB0 x31 (YT a1 n) (!((((a1.Rows.getD x31.toNat du).A)==0)&&((((a1.Rows.getD x31.toNat du).B)==0)&&true))) else qB0 x31 (YT a1 n) false else none else some (Sum.inr ())
def qBt (a1:qG) (x29:Bool):Option Int:= bif x29 then some 19 else (YT a1 FUEL 0).bind λu41=>Sum.elim (λv42=>some v42) (λo39=> some 0) u41
def qCk (a1:qG) (x4:Bool):Option Int:= bif x4 then some 9 else (YR a1 FUEL 0).bind λu18=>Sum.elim (λv19=>some v19) (λo16=> bif (a1.Rows.length:Int)==0 then bif a1.Low !=0 then some 19 else some 0 else bif inb 0 a1.Rows.length then (VU (a1.Rows.getD (0:Int).toNat du)).bind λv23=> bif v23 then qBt a1 true else bif inb (w64 ((a1.Rows.length:Int)-1)) a1.Rows.length then (VU (a1.Rows.getD (w64 ((a1.Rows.length:Int)-1)).toNat du)).bind λv27=> qBt a1 v27 else none else none) u18
def qHa (a1:qG):Option Int:= bif decide ((a1.Rows.length:Int)>120) then some 4 else bif decide (a1.Low<(-60)) then qCk a1 true else qCk a1 (decide (a1.Low>(w64 (60-(a1.Rows.length:Int)))))
def qCN (a1:qG):Option qG:= (qHa a1).bind λv2=> bif v2 !=0 then some (qG.mk 0 []) else some a1
def qFj (a1:qG) (a2:Int) (x4:Bool):Option Span:= bif x4 then some (Span.mk 0 0) else bif inb (w64 (a2-a1.Low)) a1.Rows.length then some (a1.Rows.getD (w64 (a2-a1.Low)).toNat du) else none
def qGR (a1:qG) (a2:Int):Option Span:= bif decide (a2<a1.Low) then qFj a1 a2 true else qFj a1 a2 (decide (a2≥(w64 (a1.Low+(a1.Rows.length:Int)))))
def TW (v3:qG) (v5:qG):Nat->(List Span)->Int->Option (List Span)
 |0,_,_=>none
 |n+1,l7,x8=> bif decide (x8<60) then (qGR v3 x8).bind λv10=> (qGR v5 x8).bind λv12=> bif room (l7.length+1) 16 then (TW v3 v5 n) (l7++[(Span.mk (imax v10.A v12.A) (imin v10.B v12.B))]) (w64 (x8+1)) else none else some l7
def qIA (a1:qG) (a2:qG):Option qG:= (qCN a1).bind λv3=> (qCN a2).bind λv5=> (TW v3 v5 FUEL [] (-60)).bind λo16=> (UA (-60) o16).bind λv18=> some (qG.mk v18.Low v18.Rows)
def qDw (x5:Bool):Option Bool:= some x5
def WT (a1:Int) (a2:Int) (a3:Int):Option Bool:= bif decide (a1≥a2) then qDw (decide (a1<=a3)) else qDw false
def GF (x24:Bool):Option Int:= bif x24 then some 9 else some 0
def PV (a2:Rates) (x14:Bool):Option Int:= bif x14 then some 9 else (WT a2.Chip 0 1000).bind λv16=> bif !v16 then GF true else (WT a2.Dust 0 1000).bind λv19=> bif !v19 then GF true else (WT a2.Fine 0 1000000).bind λv22=> GF (!v22)
def AU (a1:Saw) (a2:Rates):Option Int:= (WT a1.Kerf 0 20).bind λv3=> bif !v3 then PV a2 true else (WT a1.Trim 0 20).bind λv6=> bif !v6 then PV a2 true else (WT a1.Pitch 1 2000).bind λv9=> bif !v9 then PV a2 true else (WT a1.Step 1 20000).bind λv12=> PV a2 (!v12)
def DI (x13:Int) (R:Int->Option (Bool⊕Unit)) (x20:Bool):Option (Bool⊕Unit):= bif x20 then some (Sum.inl false) else R (w64 (x13+1))
def yV (a1:wF) (x7:Int):Nat->Int->Option (Bool⊕Unit)
 |0,_=>none
 |n+1,x13=> bif inb x7 a1.Scan.Rings.length then bif decide (x13<((((a1.Scan.Rings.getD x7.toNat du).Read).length:Nat):Int)) then bif inb x13 (((a1.Scan.Rings.getD x7.toNat du).Read).length) then bif decide ((((((a1.Scan.Rings.getD x7.toNat du).Read).getD x13.toNat du).P).X)<(-110)) then DI x13 (yV a1 x7 n) true else bif decide ((((((a1.Scan.Rings.getD x7.toNat du).Read).getD x13.toNat du).P).X)>110) then DI x13 (yV a1 x7 n) true else bif decide ((((((a1.Scan.Rings.getD x7.toNat du).Read).getD x13.toNat du).P).Y)<(-110)) then DI x13 (yV a1 x7 n) true else DI x13 (yV a1 x7 n) (decide ((((((a1.Scan.Rings.getD x7.toNat du).Read).getD x13.toNat du).P).Y)>110)) else none else some (Sum.inr ()) else none
def SS (a1:wF) (x7:Int) (R:Int->Option (Bool⊕Unit)) (x11:Bool):Option (Bool⊕Unit):= bif x11 then some (Sum.inl false) else (yV a1 x7 FUEL 0).bind λu24=>Sum.elim (λv25=>some (Sum.inl v25)) (λo22=> R (w64 (x7+1))) u24
def WG (a1:wF):Nat->Int->Option (Bool⊕Unit)
 |0,_=>none
 |n+1,x7=> bif decide (x7<(a1.Scan.Rings.length:Int)) then bif inb x7 a1.Scan.Rings.length then bif decide (((((a1.Scan.Rings.getD x7.toNat du).Read).length:Nat):Int)>40) then SS a1 x7 (WG a1 n) true else SS a1 x7 (WG a1 n) (decide (((a1.Scan.Rings.getD x7.toNat du).Z)>3000)) else none else some (Sum.inr ())
def SU (x30:Int) (R:Int->Option (Bool⊕Unit)) (x35:Bool):Option (Bool⊕Unit):= bif x35 then some (Sum.inl false) else R (w64 (x30+1))
def ZE (a2:zH):Nat->Int->Option (Bool⊕Unit)
 |0,_=>none
 |n+1,x30=> bif decide (x30<(a2.Products.length:Int)) then bif inb x30 a2.Products.length then bif decide (((((a2.Products.getD x30.toNat du).Lengths).length:Nat):Int)>2) then SU x30 (ZE a2 n) true else bif decide (((((a2.Products.getD x30.toNat du).Prices).length:Nat):Int)>2) then SU x30 (ZE a2 n) true else SU x30 (ZE a2 n) (decide (((((a2.Products.getD x30.toNat du).Name).size:Nat):Int)>100)) else none else some (Sum.inr ())
def ER (x45:Bool):Option Bool:= some x45
def GB (a1:wF) (a2:zH) (x5:Bool):Option Bool:= bif x5 then some false else (WG a1 FUEL 0).bind λu28=>Sum.elim (λv29=>some v29) (λo26=> (ZE a2 FUEL 0).bind λu39=>Sum.elim (λv40=>some v40) (λo37=> (AU a2.Saw a2.Rates).bind λv41=> bif v41 !=0 then ER true else bif decide (a2.Saw.Pitch≥20) then ER (decide (a2.Saw.Step≥500)) else ER false) u39) u28
def FY (a1:wF) (a2:zH):Option Bool:= bif decide ((a1.Scan.Rings.length:Int)>4) then GB a1 a2 true else bif decide ((a1.Scan.Defects.length:Int)>4) then GB a1 a2 true else GB a1 a2 (decide ((a2.Products.length:Int)>2))
def KU (a1:Pattern) (a2:Pattern):Nat->Int->Option (Bool⊕Unit)
 |0,_=>none
 |n+1,x6=> bif decide (x6<(a1.Nodes.length:Int)) then bif inb x6 a1.Nodes.length then bif inb x6 a2.Nodes.length then bif !((((a1.Nodes.getD x6.toNat du).Kind)==((a2.Nodes.getD x6.toNat du).Kind))&&((((a1.Nodes.getD x6.toNat du).At)==((a2.Nodes.getD x6.toNat du).At))&&true)) then some (Sum.inl false) else (KU a1 a2 n) (w64 (x6+1)) else none else none else some (Sum.inr ())
def OG (a1:Pattern) (a2:Pattern) (x4:Bool):Option Bool:= bif x4 then some false else (KU a1 a2 FUEL 0).bind λu13=>Sum.elim (λv14=>some v14) (λo11=> some true) u13
def qEw (a1:Pattern) (a2:Pattern):Option Bool:= bif !(((a1.Frame.X.A==a2.Frame.X.A)&&((a1.Frame.X.B==a2.Frame.X.B)&&true))&&(((a1.Frame.Y.A==a2.Frame.Y.A)&&((a1.Frame.Y.B==a2.Frame.Y.B)&&true))&&true)) then OG a1 a2 true else OG a1 a2 ((a1.Nodes.length:Int) !=(a2.Nodes.length:Int))
def FG (x7:Bool):Option Bool:= some x7
def qEC (a1:wZ) (a2:wZ):Option Bool:= bif a1.Quarters==a2.Quarters then bif a1.Value==a2.Value then (qEw a1.Pattern a2.Pattern).bind λv5=> FG v5 else FG false else FG false
def ED (a1:qI) (a2:wZ):Option Bool:= (qEC (wZ.mk a1.Quarters a1.Pattern a1.Value) a2).bind λv3=> some v3
def EK (a1:Pattern) (a2:Int):Option (Pattern×Int):= some (a1,a2)
def BM :Option Int:= some 0
def NO (x15:Bool):Option Int:= bif x15 then some 20 else BM
def ZC (a1:Node) (a2:qV) (x6:Bool):Option Int:= bif x6 then some 10 else bif decide (a2.level>64) then some 28 else (KM a1.Kind).bind λv9=> bif v9 then (KR a2.rect a1.Kind).bind λv12=> bif decide (a1.At<=v12.A) then NO true else NO (decide (a1.At≥v12.B)) else BM
def JI (a1:Node) (a2:qV):Option Int:= bif decide (a1.Kind<0) then ZC a1 a2 true else bif decide (a1.Kind>3) then ZC a1 a2 true else bif a1.Kind==0 then ZC a1 a2 (a1.At !=0) else ZC a1 a2 false
def jK (x18:Bool):Option Int:= bif x18 then some 20 else some 0
def UM (a1:Rect) (a2:Int) (a3:List qD) (x5:Bool):Option Int:= bif x5 then some 8 else bif inb a2 a3.length then (yS (a3.getD a2.toNat du)).bind λv8=> (PA a1.X).bind λv10=> (PA a1.Y).bind λv12=> bif v10 !=v8.1 then bif v10 !=v8.2 then jK true else jK (v12 !=v8.1) else bif v12 !=v8.2 then bif v10 !=v8.2 then jK true else jK (v12 !=v8.1) else jK false else none
def XR (a1:Rect) (a2:Int) (a3:List qD):Option Int:= bif decide (a2<0) then UM a1 a2 a3 true else UM a1 a2 a3 (decide (a2≥(a3.length:Int)))
def ZR (a1:Int) (a5:Int) (a6:Int) (x16:Int):Option (Nat×Int×Int):= bif x16 !=0 then some (1,x16,a6) else some (0,a5,w64 (a1+1))
def XB (a1:Int) (a2:qV) (a3:Pattern) (a4:List qD) (a5:Int) (a6:Int) (v9:Int) (x12:Bool):Option (Nat×Int×Int):= bif x12 then (XR a2.rect ((a3.Nodes.getD a1.toNat du).At) a4).bind λv14=> ZR a1 a5 a6 v14 else ZR a1 a5 a6 v9
def YC (a1:Int) (a2:qV) (a3:Pattern) (a4:List qD) (a5:Int) (a6:Int):Option (Nat×Int×Int):= bif decide (a1≥(a3.Nodes.length:Int)) then some (1,3,a6) else bif inb a1 a3.Nodes.length then (JI (a3.Nodes.getD a1.toNat du) a2).bind λv9=> bif v9==0 then XB a1 a2 a3 a4 a5 a6 v9 (((a3.Nodes.getD a1.toNat du).Kind)==1) else XB a1 a2 a3 a4 a5 a6 v9 false else none
def qAM (x5:Rect):Option Rect:= some x5
def TB (a1:Rect) (a2:Int) (a3:Span):Option Rect:= bif a2==2 then qAM (Rect.mk a3 a1.Y) else qAM (Rect.mk a1.X a3)
def FB (a1:Rect) (a2:Node) (a3:Int):Option (Rect×Rect×Rect):= (KR a1 a2.Kind).bind λv4=> (TB a1 a2.Kind (Span.mk v4.A a2.At)).bind λv6=> (TB a1 a2.Kind (Span.mk a2.At (imin (w64 (a2.At+a3)) v4.B))).bind λv8=> (TB a1 a2.Kind (Span.mk (imin (w64 (a2.At+a3)) v4.B) v4.B)).bind λv10=> some (v6,v8,v10)
def TE (x8:Int) (R:(List qV)->Int->Int->Int->Option ((Nat×Int×Int)⊕(Int×Int))) (l25:List qV) (x26:Int) (x27:Int):Option ((Nat×Int×Int)⊕(Int×Int)):= R l25 (w64 (x8+1)) x27 x26
def wD (a1:Pattern) (a2:List qD) (a5:Pattern) (a6:Int):Nat->(List qV)->Int->Int->Int->Option ((Nat×Int×Int)⊕(Int×Int))
 |0,_,_,_,_=>none
 |n+1,l7,x8,x9,x10=> bif decide ((l7.length:Int)>0) then bif inb (w64 ((l7.length:Int)-1)) l7.length then bif slOk 0 (w64 ((l7.length:Int)-1)) l7.length then (YC x8 (l7.getD ((w64 ((l7.length:Int)-1)).toNat) du) a1 a2 x9 x10).bind λv14=> bif !(Nat.beq v14.1 0) then some (Sum.inl (v14.1,v14.2.1,v14.2.2)) else bif decide (x8≥(a5.Nodes.length:Int)) then some (Sum.inl (0,v14.2.1,v14.2.2)) else bif inb x8 a5.Nodes.length then (KM ((a5.Nodes.getD x8.toNat du).Kind)).bind λv19=> bif v19 then (FB ((l7.getD ((w64 ((l7.length:Int)-1)).toNat) du).rect) (a5.Nodes.getD x8.toNat du) a6).bind λv22=> bif room ((w64 ((l7.length:Int)-1)).toNat+2) 40 then TE x8 (wD a1 a2 a5 a6 n) ((l7.take ((w64 ((l7.length:Int)-1)).toNat))++[(qV.mk v22.2.2 (w64 (((l7.getD ((w64 ((l7.length:Int)-1)).toNat) du).level)+1))),(qV.mk v22.1 (w64 (((l7.getD ((w64 ((l7.length:Int)-1)).toNat) du).level)+1)))]) v14.2.2 v14.2.1
 else none else TE x8 (wD a1 a2 a5 a6 n) (l7.take ((w64 ((l7.length:Int)-1)).toNat)) v14.2.2 v14.2.1 else none else none else none else some (Sum.inr (x10,x9))
def BO (a1:Pattern) (a2:List qD) (a3:Int) (a4:Int) (a5:Pattern) (a6:Int):Option (Nat×Int×Int):= (wD a1 a2 a5 a6 FUEL [(qV.mk a5.Frame 1)] 0 a3 a4).bind λu32=>Sum.elim (λv33=>some v33) (λo30=> some (0,o30.2,o30.1)) u32
def BF (a1:Pattern) (a2:Int) (a3:List qD) (x8:Bool):Option Int:= bif x8 then some 9 else bif decide ((a1.Nodes.length:Int)>127) then some 4 else (EK a1 a2).bind λv11=> (BO a1 a3 0 0 v11.1 v11.2).bind λv13=> bif Nat.beq v13.1 0 then bif decide (v13.2.2<(a1.Nodes.length:Int)) then some 4 else some 0 else bif Nat.beq v13.1 1 then some v13.2.1 else none
def IN (a1:Pattern) (a2:Int) (a3:List qD):Option Int:= (ZM a1.Frame).bind λv4=> bif !v4 then some 19 else bif decide (a2<0) then BF a1 a2 a3 true else BF a1 a2 a3 (decide (a2>20))
def QW (a1:Pattern) (a2:List qD) (a3:Int):Option Int:= (IN a1 a3 a2).bind λv4=> some v4
def XJ (x20:Bool):Option Bool:= some x20
def ZY (x25:Int) (R:Int->Option (Bool⊕Unit)) (x34:Bool):Option (Bool⊕Unit):= bif x34 then some (Sum.inl false) else R (w64 (x25+1))
def wL (a2:zH) (v8:(List qI)×Int) (v10:qI×Int):Nat->Int->Option (Bool⊕Unit)
 |0,_=>none
 |n+1,x25=> bif decide (x25<4) then bif inb x25 v8.1.length then bif ((v8.1.getD x25.toNat du).Quarters) !=x25 then ZY x25 (wL a2 v8 v10 n) true else (QW ((v8.1.getD x25.toNat du).Pattern) a2.Products a2.Saw.Kerf).bind λv29=> bif v29 !=0 then ZY x25 (wL a2 v8 v10 n) true else bif decide (((v8.1.getD x25.toNat du).Value)>v10.1.Value) then ZY x25 (wL a2 v8 v10 n) true else bif decide (x25<v10.1.Quarters) then ZY x25 (wL a2 v8 v10 n) (((v8.1.getD x25.toNat du).Value)==v10.1.Value) else ZY x25 (wL a2 v8 v10 n) false else none else some (Sum.inr ())
def VF (x46:Bool):Option Bool:= some x46
def QL (a2:zH) (v8:(List qI)×Int) (v10:qI×Int) (x23:Bool):Option Bool:= bif x23 then some false else (wL a2 v8 v10 FUEL 0).bind λu38=>Sum.elim (λv39=>some v39) (λo36=> bif inb v10.1.Quarters v8.1.length then (ED v10.1 (wZ.mk ((v8.1.getD v10.1.Quarters.toNat du).Quarters) ((v8.1.getD v10.1.Quarters.toNat du).Pattern) ((v8.1.getD v10.1.Quarters.toNat du).Value))).bind λv41=> bif v41 then (WL).bind λv44=> VF v44 else VF false else none) u38
def WP (a1:wF) (a2:zH):Option Bool:= (FY a1 a2).bind λv3=> bif !v3 then (WL).bind λv6=> some v6 else (WA a1.Scan a2.Products a2.Saw a2.Rates a1.Limit a1.Most).bind λv8=> (ZT a1.Scan a2.Products a2.Saw a2.Rates a1.Limit a1.Most).bind λv10=> bif v8.2 !=v10.2 then some false else bif v8.2 !=0 then bif (v8.1.length:Int)==0 then (ED v10.1 (wZ.mk 0 (Pattern.mk (Rect.mk (Span.mk 0 0) (Span.mk 0 0)) []) 0)).bind λv15=> bif v15 then (WL).bind λv18=> XJ v18 else XJ false else XJ false else bif (v8.1.length:Int) !=4 then QL a2 v8 v10 true else bif decide (v10.1.Quarters<0) then QL a2 v8 v10 true else QL a2 v8 v10 (decide (v10.1.Quarters>3))
end Saw
end Go.SL

import Derived.Test.YtigmogcdifllhaaGreatDoorYa6
set_option linter.unusedVariables false
set_option linter.unusedSimpArgs false
namespace Go.SL
namespace Saw
structure zX where
 Size:Int
 At:Int
instance : Inhabited zX:=⟨⟨0,0⟩⟩
def yG (r:zX):List C:=[ci r.Size,ci r.At]
structure qA where
 X:Int
 Y:Int
instance : Inhabited qA:=⟨⟨0,0⟩⟩
def qB (r:qA):List C:=[ci r.X,ci r.Y]
structure qL where
 P:qA
 Ok:Bool
instance : Inhabited qL:=⟨⟨dd,false⟩⟩
def qQ (r:qL):List C:=[ci r.P.X,ci r.P.Y,cb r.Ok]
structure Ring where
 Z:Int
 Read:List qL
instance : Inhabited Ring:=⟨⟨0,[]⟩⟩
def qU (r:Ring):List C:=[ci r.Z,tl qQ dd r.Read]
structure Span where
 A:Int
 B:Int
instance : Inhabited Span:=⟨⟨0,0⟩⟩
def qE (r:Span):List C:=[ci r.A,ci r.B]
structure Box where
 X:Span
 Y:Span
 Z:Span
instance : Inhabited Box:=⟨⟨dd,dd,dd⟩⟩
def yC (r:Box):List C:=[ci r.X.A,ci r.X.B,ci r.Y.A,ci r.Y.B,ci r.Z.A,ci r.Z.B]
structure qH where
 Kind:Int
 Box:Box
instance : Inhabited qH:=⟨⟨0,dd⟩⟩
def qJ (r:qH):List C:=[ci r.Kind,ci r.Box.X.A,ci r.Box.X.B,ci r.Box.Y.A,ci r.Box.Y.B,ci r.Box.Z.A,ci r.Box.Z.B]
structure Scan where
 Rings:List Ring
 Defects:List qH
instance : Inhabited Scan:=⟨⟨[],[]⟩⟩
def zS (r:Scan):List C:=[tl qU dd r.Rings,tl qJ dd r.Defects]
structure XT where
 Scan:Scan
 Limit:Int
 Most:Int
instance : Inhabited XT:=⟨⟨dd,0,0⟩⟩
def qCy (r:XT):List C:=[tl qU dd r.Scan.Rings,tl qJ dd r.Scan.Defects,ci r.Limit,ci r.Most]
structure qK where
 Name:ByteArray
 Thick:Int
 Width:Int
 Allow:Int
 Wane:Int
 Lengths:List Int
 Prices:List Int
instance : Inhabited qK:=⟨⟨⟨#[]⟩,0,0,0,0,[],[]⟩⟩
def qT (r:qK):List C:=[cs r.Name,ci r.Thick,ci r.Width,ci r.Allow,ci r.Wane,tl qF dd r.Lengths,tl qF dd r.Prices]
structure qG where
 Low:Int
 Rows:List Span
instance : Inhabited qG:=⟨⟨0,[]⟩⟩
def qV (r:qG):List C:=[ci r.Low,tl qE dd r.Rows]
structure Rect where
 X:Span
 Y:Span
instance : Inhabited Rect:=⟨⟨dd,dd⟩⟩
def qX (r:Rect):List C:=[ci r.X.A,ci r.X.B,ci r.Y.A,ci r.Y.B]
structure qM where
 Len:Int
 Sec:qG
instance : Inhabited qM:=⟨⟨0,dd⟩⟩
def qO (r:qM):List C:=[ci r.Len,ci r.Sec.Low,tl qE dd r.Sec.Rows]
structure Saw where
 Kerf:Int
 Trim:Int
 Pitch:Int
 Step:Int
instance : Inhabited Saw:=⟨⟨0,0,0,0⟩⟩
def yL (r:Saw):List C:=[ci r.Kerf,ci r.Trim,ci r.Pitch,ci r.Step]
structure Rates where
 Chip:Int
 Dust:Int
 Fine:Int
instance : Inhabited Rates:=⟨⟨0,0,0⟩⟩
def wG (r:Rates):List C:=[ci r.Chip,ci r.Dust,ci r.Fine]
structure zC where
 z:Span
 lack:Int
instance : Inhabited zC:=⟨⟨dd,0⟩⟩
def zL (r:zC):List C:=[ci r.z.A,ci r.z.B,ci r.lack]
structure zP where
 product:qK
 rect:Rect
 length:Int
 zones:List zC
 defects:List qH
instance : Inhabited zP:=⟨⟨dd,dd,0,[],[]⟩⟩
def FT (r:zP):List C:=[cs r.product.Name,ci r.product.Thick,ci r.product.Width,ci r.product.Allow,ci r.product.Wane,tl qF dd r.product.Lengths,tl qF dd r.product.Prices,ci r.rect.X.A,ci r.rect.X.B,ci r.rect.Y.A,ci r.rect.Y.B,ci r.length,tl zL dd r.zones,tl qJ dd r.defects]
structure Line where
 Len:Int
 Kerf:Int
 Pitch:Int
 Sizes:List Int
 Gain:List (List Int)
 Chip:List Int
 Dust:List Int
instance : Inhabited Line:=⟨⟨0,0,0,[],[],[],[]⟩⟩
def yM (r:Line):List C:=[ci r.Len,ci r.Kerf,ci r.Pitch,tl qF dd r.Sizes,tl (qY qF) dd r.Gain,tl qF dd r.Chip,tl qF dd r.Dust]
structure qD where
 piece:zX
 value:Int
instance : Inhabited qD:=⟨⟨dd,0⟩⟩
def qS (r:qD):List C:=[ci r.piece.Size,ci r.piece.At,ci r.value]
structure Node where
 Kind:Int
 At:Int
instance : Inhabited Node:=⟨⟨0,0⟩⟩
def qN (r:Node):List C:=[ci r.Kind,ci r.At]
structure Pattern where
 Frame:Rect
 Nodes:List Node
instance : Inhabited Pattern:=⟨⟨dd,[]⟩⟩
structure qP where
 Quarters:Int
 Pattern:Pattern
 Value:Int
instance : Inhabited qP:=⟨⟨0,dd,0⟩⟩
def zR (r:qP):List C:=[ci r.Quarters,ci r.Pattern.Frame.X.A,ci r.Pattern.Frame.X.B,ci r.Pattern.Frame.Y.A,ci r.Pattern.Frame.Y.B,tl qN dd r.Pattern.Nodes,ci r.Value]
structure zA where
 Solid:List qM
 Defects:List qH
instance : Inhabited zA:=⟨⟨[],[]⟩⟩
def ZZ (r:zA):List C:=[tl qO dd r.Solid,tl qJ dd r.Defects]
structure q0m where
 Products:List qK
 Saw:Saw
 Rates:Rates
instance : Inhabited q0m:=⟨⟨[],dd,dd⟩⟩
structure q0e where
 value:Int
 piece:zX
instance : Inhabited q0e:=⟨⟨0,dd⟩⟩
structure qX1 where
 Quarters:Int
 Pattern:Pattern
 Value:Int
instance : Inhabited qX1:=⟨⟨0,dd,0⟩⟩
structure qU7 where
 rect:Rect
 level:Int
instance : Inhabited qU7:=⟨⟨dd,0⟩⟩
def qOr :zX:=(zX.mk (-1) (-1))
def zO :List qA:=[(qA.mk 1 0),(qA.mk 0 1),(qA.mk (-1) 0),(qA.mk 0 (-1))]
def qIC :List Int:=[(-1),1]
def globs :List (Nat×C):=[(0,.lptr (yG qOr)),(1,.aptr 4 2 (rf qB zO)),(2,.aptr 2 1 (rf qF qIC))]
def KK (a1:Scan):Nat->Int->Option (Bool⊕Unit)
 |0,_=>none
 |n+1,x2=> bif decide (x2<(a1.Rings.length:Int)) then bif inb x2 a1.Rings.length then bif decide (((((a1.Rings.getD x2.toNat dd).Read).length:Nat):Int)>100) then some (Sum.inl false) else (KK a1 n) (w64 (x2+1)) else none else some (Sum.inr ())
def qFh (x11:Bool):Option Bool:= some x11
def qDj (a1:Scan):Option Bool:= (KK a1 FUEL 0).bind λu8=>Sum.elim (λv9=>some v9) (λo6=> bif decide ((a1.Rings.length:Int)<=60) then qFh (decide ((a1.Defects.length:Int)<=70)) else qFh false) u8
def qEa :Nat->Int->(List qL)->Option (List qL)
 |0,_,_=>none
 |n+1,x4,l5=> bif decide (x4<((8:Nat):Int)) then bif inb x4 8 then bif room (l5.length+1) 24 then (qEa n) (w64 (x4+1)) (l5++([(qL.mk (([(qA.mk 60 30),(qA.mk 0 30),(qA.mk (-60) 30),(qA.mk (-60) 0),(qA.mk (-60) (-30)),(qA.mk 0 (-30)),(qA.mk 60 (-30)),(qA.mk 60 0)]:List qA).getD x4.toNat dd) true)]:List qL)) else none else none else some l5
def qDA :Nat->Int->(List Ring)->Option (List Ring)
 |0,_,_=>none
 |n+1,x1,l2=> bif decide (x1<2) then (qEa FUEL 0 []).bind λo10=> bif room (l2.length+1) 32 then (qDA n) (w64 (x1+1)) (l2++[(Ring.mk (w64 (3000*x1)) o10)]) else none else some l2
def GK :Option Scan:= (qDA FUEL 0 []).bind λo14=> some (Scan.mk o14 [])
def HE (x3:Bool):Option Bool:= some x3
def DT (a1:Int):Option Bool:= bif decide (a1≥(-600)) then HE (decide (a1<=600)) else HE false
def AF (x7:Int) (R:Int->Option (Int⊕Unit)) (x19:Bool):Option (Int⊕Unit):= bif x19 then some (Sum.inl 19) else R (w64 (x7+1))
def DF (a1:Ring) (x7:Int) (R:Int->Option (Int⊕Unit)) (x16:Bool):Option (Int⊕Unit):= bif x16 then some (Sum.inl 9) else bif !((a1.Read.getD x7.toNat dd).Ok) then AF x7 R (!(((((a1.Read.getD x7.toNat dd).P).X)==0)&&(((((a1.Read.getD x7.toNat dd).P).Y)==0)&&true))) else AF x7 R false
def yV (a1:Ring):Nat->Int->Option (Int⊕Unit)
 |0,_=>none
 |n+1,x7=> bif decide (x7<(a1.Read.length:Int)) then bif inb x7 a1.Read.length then bif (a1.Read.getD x7.toNat dd).Ok then (DT (((a1.Read.getD x7.toNat dd).P).X)).bind λv11=> bif !v11 then DF a1 x7 (yV a1 n) true else (DT (((a1.Read.getD x7.toNat dd).P).Y)).bind λv14=> DF a1 x7 (yV a1 n) (!v14) else DF a1 x7 (yV a1 n) false else none else some (Sum.inr ())
def AQ (a1:Ring) (x5:Bool):Option Int:= bif x5 then some 9 else (yV a1 FUEL 0).bind λu23=>Sum.elim (λv24=>some v24) (λo21=> some 0) u23
def RX (a1:Ring):Option Int:= bif decide ((a1.Read.length:Int)<8) then some 3 else bif decide ((a1.Read.length:Int)>32) then some 4 else bif decide (a1.Z<0) then AQ a1 true else AQ a1 (decide (a1.Z>20000))
def QA (a1:Span):Option Bool:= some (decide (a1.A≥a1.B))
def VI (x5:Bool):Option Bool:= some x5
def YX (a1:Span) (a2:Int) (a3:Int):Option Bool:= bif decide ((imin a1.A a1.B)≥a2) then VI (decide ((imax a1.A a1.B)<=a3)) else VI false
def RN (x23:Bool):Option Int:= bif x23 then some 9 else some 0
def PX (a1:qH) (x13:Bool):Option Int:= bif x13 then some 19 else (YX a1.Box.X (-600) 600).bind λv15=> bif !v15 then RN true else (YX a1.Box.Y (-600) 600).bind λv18=> bif !v18 then RN true else (YX a1.Box.Z 0 20000).bind λv21=> RN (!v21)
def BP (a1:qH) (x3:Bool):Option Int:= bif x3 then some 10 else (QA a1.Box.X).bind λv5=> bif v5 then PX a1 true else (QA a1.Box.Y).bind λv8=> bif v8 then PX a1 true else (QA a1.Box.Z).bind λv11=> PX a1 v11
def FM (a1:qH):Option Int:= bif decide (a1.Kind<1) then BP a1 true else BP a1 (decide (a1.Kind>6))
def WD (a1:List qH):Nat->Int->Option (Int⊕Unit)
 |0,_=>none
 |n+1,x3=> bif decide (x3<(a1.length:Int)) then bif inb x3 a1.length then (FM (a1.getD x3.toNat dd)).bind λv6=> bif v6 !=0 then some (Sum.inl v6) else (WD a1 n) (w64 (x3+1)) else none else some (Sum.inr ())
def ZY (a1:List qH):Option Int:= bif decide ((a1.length:Int)>64) then some 4 else (WD a1 FUEL 0).bind λu11=>Sum.elim (λv12=>some v12) (λo9=> some 0) u11
def YL (a1:Scan) (x4:Int) (R:Int->Option (Int⊕Unit)) (x16:Bool):Option (Int⊕Unit):= bif x16 then some (Sum.inl 11) else bif inb 0 a1.Rings.length then bif ((((a1.Rings.getD x4.toNat dd).Read).length:Nat):Int) !=((((a1.Rings.getD (0:Int).toNat dd).Read).length:Nat):Int) then some (Sum.inl 19) else R (w64 (x4+1)) else none
def wZ (a1:Scan):Nat->Int->Option (Int⊕Unit)
 |0,_=>none
 |n+1,x4=> bif decide (x4<(a1.Rings.length:Int)) then bif inb x4 a1.Rings.length then (RX (a1.Rings.getD x4.toNat dd)).bind λv7=> bif v7 !=0 then some (Sum.inl v7) else bif x4==0 then bif ((a1.Rings.getD x4.toNat dd).Z) !=0 then YL a1 x4 (wZ a1 n) true else bif decide (x4>0) then bif inb (w64 (x4-1)) a1.Rings.length then YL a1 x4 (wZ a1 n) (decide (((a1.Rings.getD x4.toNat dd).Z)<=((a1.Rings.getD (w64 (x4-1)).toNat dd).Z))) else none else YL a1 x4 (wZ a1 n) false else bif decide (x4>0) then bif inb (w64 (x4-1)) a1.Rings.length then YL a1 x4 (wZ a1 n) (decide (((a1.Rings.getD x4.toNat dd).Z)<=((a1.Rings.getD (w64 (x4-1)).toNat dd).Z))) else none else YL a1 x4 (wZ a1 n) false else none else some (Sum.inr ())
def PF (a1:Scan):Nat->Int->Option (Int⊕Unit)
 |0,_=>none
 |n+1,x28=> bif decide (x28<(a1.Defects.length:Int)) then bif inb x28 a1.Defects.length then bif decide (((((a1.Defects.getD x28.toNat dd).Box).Z).B)>((a1.Rings.getD (w64 ((a1.Rings.length:Int)-1)).toNat dd).Z)) then some (Sum.inl 9) else (PF a1 n) (w64 (x28+1)) else none else some (Sum.inr ())
def MF (a1:Scan):Option Int:= bif decide ((a1.Rings.length:Int)<2) then some 3 else bif decide ((a1.Rings.length:Int)>24) then some 4 else (wZ a1 FUEL 0).bind λu22=>Sum.elim (λv23=>some v23) (λo20=> (ZY a1.Defects).bind λv24=> bif v24 !=0 then some v24 else bif inb (w64 ((a1.Rings.length:Int)-1)) a1.Rings.length then (PF a1 FUEL 0).bind λu34=>Sum.elim (λv35=>some v35) (λo32=> some 0) u34 else none) u22
def RC (a1:List Ring):Option (List Ring):= bif room a1.length 32 then some a1 else none
def jM (a1:List qH):Option (List qH):= bif room a1.length 56 then some a1 else none
def yI (a1:List qL):Option (List qL):= bif room a1.length 24 then some a1 else none
def QX (v2:List Ring):Nat->Int->(List Ring)->Option (List Ring)
 |0,_,_=>none
 |n+1,x6,l7=> bif decide (x6<(v2.length:Int)) then bif inb x6 l7.length then (yI ((l7.getD x6.toNat dd).Read)).bind λv13=> (QX v2 n) (w64 (x6+1)) (l7.set x6.toNat (Ring.mk ((l7.getD x6.toNat dd).Z) v13)) else none else some l7
def qA4 (a1:Scan):Option Scan:= (RC a1.Rings).bind λv2=> (jM a1.Defects).bind λv4=> (QX v2 FUEL 0 v2).bind λo16=> some (Scan.mk o16 v4)
def QB (a1:List qH) (a2:Int) (x8:Int):Nat->Int->Int->Int->Int->Int->Option qH
 |0,_,_,_,_,_=>none
 |n+1,x11,x12,x13,x14,x15=> bif decide (x11<(Int.tmod (w64 ((Int.tmod a2 4)+4)) 4)) then (QB a1 a2 x8 n) (w64 (x11+1)) (w64 (0-x15)) (w64 (0-x14)) x12 x13 else some (qH.mk ((a1.getD x8.toNat dd).Kind) (Box.mk (Span.mk x12 x13) (Span.mk x14 x15) (((a1.getD x8.toNat dd).Box).Z)))
def ZP (a1:List qH) (a2:Int):Nat->(List qH)->Int->Option (List qH)
 |0,_,_=>none
 |n+1,l7,x8=> bif decide (x8<(a1.length:Int)) then bif inb x8 a1.length then (QB a1 a2 x8 FUEL 0 ((((a1.getD x8.toNat dd).Box).X).A) ((((a1.getD x8.toNat dd).Box).X).B) ((((a1.getD x8.toNat dd).Box).Y).A) ((((a1.getD x8.toNat dd).Box).Y).B)).bind λo18=> bif inb x8 l7.length then (ZP a1 a2 n) (l7.set x8.toNat o18) (w64 (x8+1)) else none else none else some l7
def EH (a1:List qH) (a2:Int):Option (List qH):= (ZY a1).bind λv3=> bif v3 !=0 then some ([]:List qH) else bif mkOk (a1.length:Int) 56 then (ZP a1 a2 FUEL (List.replicate ((a1.length:Int).toNat) (qH.mk 0 (Box.mk (Span.mk 0 0) (Span.mk 0 0) (Span.mk 0 0)))) 0).bind λo22=> some o22 else none
def MO (a1:Ring):Option Ring:= (yI a1.Read).bind λv2=> some (Ring.mk a1.Z v2)
def BQ (x2:Int) (R:Int->Option (Bool⊕Unit)) (x6:Bool):Option (Bool⊕Unit):= bif x6 then some (Sum.inl false) else R (w64 (x2+1))
def QN (a1:List qA):Nat->Int->Option (Bool⊕Unit)
 |0,_=>none
 |n+1,x2=> bif decide (x2<(a1.length:Int)) then bif inb x2 a1.length then bif ((a1.getD x2.toNat dd).X)==(-9223372036854775808) then BQ x2 (QN a1 n) true else BQ x2 (QN a1 n) (((a1.getD x2.toNat dd).Y)==(-9223372036854775808)) else none else some (Sum.inr ())
def NS (a1:List qA):Option Bool:= (QN a1 FUEL 0).bind λu10=>Sum.elim (λv11=>some v11) (λo8=> some true) u10
def UM (a1:List qA) (a2:Int):Nat->(List qA)->Int->Option (List qA)
 |0,_,_=>none
 |n+1,l8,x9=> bif decide (x9<(a1.length:Int)) then bif inb x9 a1.length then bif inb x9 l8.length then (UM a1 a2 n) (l8.set x9.toNat (qA.mk (w64 ((w64 (((zO.getD (Int.tmod (w64 ((Int.tmod a2 4)+4)) 4).toNat dd).X)*((a1.getD x9.toNat dd).X)))-(w64 (((zO.getD (Int.tmod (w64 ((Int.tmod a2 4)+4)) 4).toNat dd).Y)*((a1.getD x9.toNat dd).Y))))) (w64 ((w64 (((zO.getD (Int.tmod (w64 ((Int.tmod a2 4)+4)) 4).toNat dd).Y)*((a1.getD x9.toNat dd).X)))+(w64 (((zO.getD (Int.tmod (w64 ((Int.tmod a2 4)+4)) 4).toNat dd).X)*((a1.getD x9.toNat dd).Y))))))) (w64 (x9+1)) else none else none else some l8
def qDq (a1:List qA) (a2:Int):Option (List qA):= (NS a1).bind λv3=> bif !v3 then some ([]:List qA) else bif inb (Int.tmod (w64 ((Int.tmod a2 4)+4)) 4) 4 then bif mkOk (a1.length:Int) 16 then (UM a1 a2 FUEL (List.replicate ((a1.length:Int).toNat) (qA.mk 0 0)) 0).bind λo14=> some o14 else none else none
def TQ (a1:Ring):Nat->(List qA)->Int->Option (List qA)
 |0,_,_=>none
 |n+1,l9,x10=> bif decide (x10<(a1.Read.length:Int)) then bif inb x10 a1.Read.length then bif inb x10 l9.length then (TQ a1 n) (l9.set x10.toNat ((a1.Read.getD x10.toNat dd).P)) (w64 (x10+1)) else none else none else some l9
def UZ (v17:(List qA)):Nat->Int->(List qL)->Option (List qL)
 |0,_,_=>none
 |n+1,x19,l20=> bif decide (x19<(v17.length:Int)) then bif inb x19 v17.length then bif inb x19 l20.length then (UZ v17 n) (w64 (x19+1)) (l20.set x19.toNat (qL.mk (v17.getD x19.toNat dd) ((l20.getD x19.toNat dd).Ok))) else none else none else some l20
def jY (a1:Ring) (a2:Int):Option Ring:= (MO a1).bind λv3=> (RX a1).bind λv5=> bif v5 !=0 then some (Ring.mk v3.Z v3.Read) else bif mkOk (a1.Read.length:Int) 16 then (TQ a1 FUEL (List.replicate ((a1.Read.length:Int).toNat) (qA.mk 0 0)) 0).bind λo15=> (qDq o15 a2).bind λv17=> (UZ v17 FUEL 0 v3.Read).bind λo25=> some (Ring.mk v3.Z o25) else none
def JV (a1:Scan) (a2:Int):Nat->Int->(List Ring)->Option (List Ring)
 |0,_,_=>none
 |n+1,x11,l12=> bif decide (x11<(a1.Rings.length:Int)) then bif inb x11 a1.Rings.length then (jY (a1.Rings.getD x11.toNat dd) a2).bind λv19=> bif inb x11 l12.length then (JV a1 a2 n) (w64 (x11+1)) (l12.set x11.toNat v19) else none else none else some l12
def FR (a1:Scan) (a2:Int):Option Scan:= (MF a1).bind λv3=> bif v3 !=0 then (qA4 a1).bind λv6=> some (Scan.mk v6.Rings v6.Defects) else bif mkOk (a1.Rings.length:Int) 32 then (EH a1.Defects a2).bind λv9=> (JV a1 a2 FUEL 0 (List.replicate ((a1.Rings.length:Int).toNat) (Ring.mk 0 []))).bind λo23=> some (Scan.mk o23 v9) else none
def VN (x3:Int) (R:(List Int)->Int->Option (List Int)) (l8:List Int):Option (List Int):= R l8 (w64 (x3+1))
def yU (a1:Ring):Nat->(List Int)->Int->Option (List Int)
 |0,_,_=>none
 |n+1,l2,x3=> bif decide (x3<(a1.Read.length:Int)) then bif inb x3 a1.Read.length then bif (a1.Read.getD x3.toNat dd).Ok then bif room (l2.length+1) 8 then VN x3 (yU a1 n) (l2++[x3]) else none else VN x3 (yU a1 n) l2 else none else some l2
def YJ (a1:Ring):Option (List Int):= (yU a1 FUEL [] 0).bind λo10=> some o10
def qCJ (x5:Bool):Option Bool:= some x5
def qFq (a1:qA) (a2:qA) (a3:Int):Option Bool:= bif decide ((imax (w64 (a1.X-a2.X)) (w64 (a2.X-a1.X)))>a3) then qCJ true else qCJ (decide ((imax (w64 (a1.Y-a2.Y)) (w64 (a2.Y-a1.Y)))>a3))
def AW (x18:Int) (R:Bool->Int->Option Bool) (x28:Bool):Option Bool:= R x28 (w64 (x18+1))
def jQ (a1:Ring) (a2:Int) (v5:(List Int)) (x13:Int):Nat->Bool->Int->Option Bool
 |0,_,_=>none
 |n+1,x17,x18=> bif decide (x18<2) then bif inb x18 2 then bif nz (v5.length:Int) then bif inb (Int.tmod (w64 ((w64 (x13+(v5.length:Int)))+(([(-1),1]:List Int).getD x18.toNat 0))) (v5.length:Int)) v5.length then bif inb (v5.getD ((Int.tmod (w64 ((w64 (x13+(v5.length:Int)))+(([(-1),1]:List Int).getD x18.toNat 0))) (v5.length:Int)).toNat) dd) a1.Read.length then bif x17 then bif inb (v5.getD x13.toNat dd) a1.Read.length then (qFq ((a1.Read.getD (v5.getD x13.toNat dd).toNat dd).P) ((a1.Read.getD (v5.getD ((Int.tmod (w64 ((w64 (x13+(v5.length:Int)))+(([(-1),1]:List Int).getD x18.toNat 0))) (v5.length:Int)).toNat) dd).toNat dd).P) a2).bind λv26=> AW x18 (jQ a1 a2 v5 x13 n) v26 else none else AW x18 (jQ a1 a2 v5 x13 n) false
 else none else none else none else none else some x17
def AO (x13:Int) (R:Int->(List qL)->Option (List qL)) (l34:List qL):Option (List qL):= R (w64 (x13+1)) l34
def WO (a1:Ring) (a2:Int) (v5:(List Int)):Nat->Int->(List qL)->Option (List qL)
 |0,_,_=>none
 |n+1,x13,l14=> bif decide (x13<(v5.length:Int)) then bif inb x13 v5.length then (jQ a1 a2 v5 x13 FUEL true 0).bind λo30=> bif o30 then bif inb (v5.getD x13.toNat dd) l14.length then AO x13 (WO a1 a2 v5 n) (l14.set ((v5.getD x13.toNat dd).toNat) (qL.mk (qA.mk 0 0) false)) else none else AO x13 (WO a1 a2 v5 n) l14 else none else some l14
def DN (a1:Ring) (a2:Int) (v3:Ring) (v5:(List Int)) (x11:Bool):Option Ring:= bif x11 then some (Ring.mk v3.Z v3.Read) else (WO a1 a2 v5 FUEL 0 v3.Read).bind λo36=> some (Ring.mk v3.Z o36)
def qAz (a1:Ring) (a2:Int):Option Ring:= (MO a1).bind λv3=> (YJ a1).bind λv5=> bif decide (a2<0) then DN a1 a2 v3 v5 true else bif decide ((v5.length:Int)<2) then DN a1 a2 v3 v5 true else (RX a1).bind λv9=> DN a1 a2 v3 v5 (v9 !=0)
def DQ (a1:Ring) (a2:List Int) (a3:Int):Option Int:= bif decide ((w64 (a3+1))<(a2.length:Int)) then bif inb (w64 (a3+1)) a2.length then bif inb a3 a2.length then some (w64 ((w64 ((a2.getD (w64 (a3+1)).toNat dd)-(a2.getD a3.toNat dd)))-1)) else none else none else bif inb 0 a2.length then bif inb a3 a2.length then some (w64 ((w64 ((w64 ((a2.getD (0:Int).toNat dd)+(a1.Read.length:Int)))-(a2.getD a3.toNat dd)))-1)) else none else none
def UD (a1:Ring) (v2:(List Int)):Nat->Int->Int->Option Int
 |0,_,_=>none
 |n+1,x5,x6=> bif decide (x6<(v2.length:Int)) then (DQ a1 v2 x6).bind λv8=> (UD a1 v2 n) (imax x5 v8) (w64 (x6+1)) else some x5
def CH (a1:Ring):Option (Int×Int):= (YJ a1).bind λv2=> bif (v2.length:Int)==0 then some (w64 ((a1.Read.length:Int)-(v2.length:Int)),w64 ((a1.Read.length:Int)-(v2.length:Int))) else (UD a1 v2 FUEL 0 0).bind λo11=> some (w64 ((a1.Read.length:Int)-(v2.length:Int)),o11)
def IA (x5:Int):Option Int:= some x5
def HH (a1:Int) (a2:Int):Option Int:= bif nz a2 then bif decide ((Int.tmod a1 a2)<0) then IA (w64 ((w64 (Int.tdiv a1 a2))-1)) else IA (w64 (Int.tdiv a1 a2)) else none
def XY (a1:Ring) (v6:(List Int)) (x16:Int) (v24:Int):Nat->(List qA)->Int->Option (List qA)
 |0,_,_=>none
 |n+1,l26,x27=> bif decide (x27<=v24) then bif nz (l26.length:Int) then (HH (w64 ((w64 ((((a1.Read.getD (v6.getD ((Int.tmod (w64 (x16+1)) (v6.length:Int)).toNat) dd).toNat dd).P).X)-(((a1.Read.getD (v6.getD x16.toNat dd).toNat dd).P).X)))*x27)) (w64 (v24+1))).bind λv30=> (HH (w64 ((w64 ((((a1.Read.getD (v6.getD ((Int.tmod (w64 (x16+1)) (v6.length:Int)).toNat) dd).toNat dd).P).Y)-(((a1.Read.getD (v6.getD x16.toNat dd).toNat dd).P).Y)))*x27)) (w64 (v24+1))).bind λv32=> bif inb (Int.tmod (w64 ((v6.getD x16.toNat dd)+x27)) (l26.length:Int)) l26.length then (XY a1 v6 x16 v24 n) (l26.set ((Int.tmod (w64 ((v6.getD x16.toNat dd)+x27)) (l26.length:Int)).toNat) (qA.mk (w64 ((((a1.Read.getD (v6.getD x16.toNat dd).toNat dd).P).X)+v30)) (w64 ((((a1.Read.getD (v6.getD x16.toNat dd).toNat dd).P).Y)+v32)))) (w64 (x27+1))
 else none else none else some l26
def JE (a1:Ring) (v6:(List Int)):Nat->(List qA)->Int->Option (List qA)
 |0,_,_=>none
 |n+1,l15,x16=> bif decide (x16<(v6.length:Int)) then bif inb x16 v6.length then bif inb (v6.getD x16.toNat dd) a1.Read.length then bif nz (v6.length:Int) then bif inb (Int.tmod (w64 (x16+1)) (v6.length:Int)) v6.length then bif inb (v6.getD ((Int.tmod (w64 (x16+1)) (v6.length:Int)).toNat) dd) a1.Read.length then bif inb (v6.getD x16.toNat dd) l15.length then (DQ a1 v6 x16).bind λv24=> (XY a1 v6 x16 v24 FUEL (l15.set ((v6.getD x16.toNat dd).toNat) ((a1.Read.getD (v6.getD x16.toNat dd).toNat dd).P)) 1).bind λo36=> (JE a1 v6 n) o36 (w64 (x16+1)) else none else none else none else none else none else none else some l15
def TM (a1:Ring) (v6:(List Int)) (x12:Bool):Option ((List qA)×Int):= bif x12 then some ([],30) else bif mkOk (a1.Read.length:Int) 16 then (JE a1 v6 FUEL (List.replicate ((a1.Read.length:Int).toNat) (qA.mk 0 0)) 0).bind λo39=> some (o39,0) else none
def EK (a1:Ring) (a2:Int):Option ((List qA)×Int):= (RX a1).bind λv3=> bif v3 !=0 then some ([],v3) else (YJ a1).bind λv6=> (CH a1).bind λv8=> bif decide ((v6.length:Int)<3) then TM a1 v6 true else bif decide (v8.1>0) then TM a1 v6 (decide (v8.2>a2)) else TM a1 v6 false
def HO (x3:Bool):Option Bool:= some x3
def BA (a1:Int):Option Bool:= bif decide (a1≥(-600)) then HO (decide (a1<=600)) else HO false
def NC (x2:Int) (R:Int->Option (Bool⊕Unit)) (x10:Bool):Option (Bool⊕Unit):= bif x10 then some (Sum.inl false) else R (w64 (x2+1))
def WE (a1:List qA):Nat->Int->Option (Bool⊕Unit)
 |0,_=>none
 |n+1,x2=> bif decide (x2<(a1.length:Int)) then bif inb x2 a1.length then (BA ((a1.getD x2.toNat dd).X)).bind λv5=> bif !v5 then NC x2 (WE a1 n) true else (BA ((a1.getD x2.toNat dd).Y)).bind λv8=> NC x2 (WE a1 n) (!v8) else none else some (Sum.inr ())
def KO (a1:List qA):Option Bool:= (WE a1 FUEL 0).bind λu14=>Sum.elim (λv15=>some v15) (λo12=> some true) u14
def PH (a1:List qA):Nat->Int->Int->Option Int
 |0,_,_=>none
 |n+1,x7,x8=> bif decide (x8<(a1.length:Int)) then bif inb x8 a1.length then bif nz (a1.length:Int) then bif inb (Int.tmod (w64 (x8+1)) (a1.length:Int)) a1.length then (PH a1 n) (w64 (x7+(w64 ((w64 (((a1.getD x8.toNat dd).X)*((a1.getD (Int.tmod (w64 (x8+1)) (a1.length:Int)).toNat dd).Y)))-(w64 (((a1.getD (Int.tmod (w64 (x8+1)) (a1.length:Int)).toNat dd).X)*((a1.getD x8.toNat dd).Y))))))) (w64 (x8+1)) else none else none else none else some x7
def AY (a1:List qA) (x5:Bool):Option Int:= bif x5 then some 0 else (PH a1 FUEL 0 0).bind λo14=> some o14
def qAF (a1:List qA):Option Int:= bif decide ((a1.length:Int)>32) then AY a1 true else (KO a1).bind λv3=> AY a1 (!v3)
def qAL (a1:List qA):Option Int:= bif decide ((a1.length:Int)<3) then some 3 else bif decide ((a1.length:Int)>32) then some 4 else (KO a1).bind λv4=> bif !v4 then some 9 else (qAF a1).bind λv7=> bif v7==0 then some 19 else some 0
def JX (a1:Int) (a2:Int):Option Span:= some (Span.mk (w64 (10*a1)) (w64 (10*a2)))
def WX (a1:List qA):Option (List qA):= bif room a1.length 16 then some a1 else none
def DH (a1:Int):Option Bool:= some (a1 !=a1)
def YH (a1:Int) (a2:Int):Option Int:= (DH a1).bind λv3=> (DH a2).bind λv5=> bif v3 then bif v5 then some 0 else some (-1) else bif v5 then some 1 else bif decide (a1<a2) then some (-1) else bif decide (a1>a2) then some 1 else some 0
def KB (a1:List Int):Nat->Int->Option (Int⊕Unit)
 |0,_=>none
 |n+1,x2=> bif decide (x2<(a1.length:Int)) then bif inb x2 a1.length then bif (a1.getD x2.toNat dd) !=0 then some (Sum.inl (a1.getD x2.toNat dd)) else (KB a1 n) (w64 (x2+1)) else none else some (Sum.inr ())
def ET (a1:List Int):Option Int:= (KB a1 FUEL 0).bind λu8=>Sum.elim (λv9=>some v9) (λo6=> some 0) u8
def poly_Hull_1 (a1:qA) (a2:qA):Option Int:= (YH a1.X a2.X).bind λv3=> (YH a1.Y a2.Y).bind λv5=> (ET [v3,v5]).bind λv7=> some v7
def QU (a1:List qA):Option (List qA):= bif qLh a1.length then some (DK poly_Hull_1 a1) else none
def ZW (x12:Int) (R:(List qA)->Int->Int->Option ((List qA)×Int)) (l19:List qA) (x20:Int):Option ((List qA)×Int):= R l19 x20 (w64 (x12+1))
def wO (l3:List qA) (x4:Int):Nat->(List qA)->Int->Int->Option ((List qA)×Int)
 |0,_,_,_=>none
 |n+1,l10,x11,x12=> bif decide (x12<(((l3.length-x4.toNat):Nat):Int)) then bif inb x12 (l3.length-x4.toNat) then bif Nat.ble (x4.toNat+(l3.length-x4.toNat)) l10.length then bif inb (w64 (x12-1)) (l3.length-x4.toNat) then bif !((((l10.getD (x4.toNat+x12.toNat) dd).X)==((l10.getD (x4.toNat+((w64 (x12-1)).toNat)) dd).X))&&((((l10.getD (x4.toNat+x12.toNat) dd).Y)==((l10.getD (x4.toNat+((w64 (x12-1)).toNat)) dd).Y))&&true)) then bif inb x11 l10.length then ZW x12 (wO l3 x4 n) (l10.set x11.toNat (l10.getD (x4.toNat+x12.toNat) dd)) (w64 (x11+1)) else none else ZW x12 (wO l3 x4 n) l10 x11 else none else none else none else some (l10,x11)
def jD :Nat->(List qA)->Int->Option (((List qA)×(List qA))⊕(List qA))
 |0,_,_=>none
 |n+1,l3,x4=> bif decide (x4<(l3.length:Int)) then bif inb x4 l3.length then bif inb (w64 (x4-1)) l3.length then bif ((((l3.getD x4.toNat dd).X)==((l3.getD ((w64 (x4-1)).toNat) dd).X))&&((((l3.getD x4.toNat dd).Y)==((l3.getD ((w64 (x4-1)).toNat) dd).Y))&&true)) then bif slOk x4 (l3.length:Int) l3.length then (wO l3 x4 FUEL l3 x4 1).bind λo23=> bif slOk o23.2 (o23.1.length:Int) o23.1.length then bif slOk 0 o23.2 o23.1.length then some (Sum.inl ((o23.1.take o23.2.toNat),(o23.1.take o23.2.toNat))) else none else none else none else (jD n) l3 (w64 (x4+1)) else none else none else some (Sum.inr l3)
def yK (a1:List qA):Option ((List qA)×(List qA)):= bif decide ((a1.length:Int)<2) then some (a1,a1) else (jD FUEL a1 1).bind λu30=>Sum.elim (λv31=>some v31) (λo28=> some (o28,o28)) u30
def CQ (a1:qA) (a2:qA) (a3:qA):Option Int:= some (w64 ((w64 ((w64 (a2.X-a1.X))*(w64 (a3.Y-a1.Y))))-(w64 ((w64 (a3.X-a1.X))*(w64 (a2.Y-a1.Y))))))
def AG (l6:List qA) (R:(List qA)->Option (List qA)) (x12:Bool):Option (List qA):= bif x12 then bif slOk 0 (w64 ((l6.length:Int)-1)) l6.length then R (l6.take ((w64 ((l6.length:Int)-1)).toNat)) else none else some l6
def YY (a1:List qA) (x3:Int):Nat->(List qA)->Option (List qA)
 |0,_=>none
 |n+1,l6=> bif decide ((l6.length:Int)≥2) then bif inb (w64 ((l6.length:Int)-2)) l6.length then bif inb (w64 ((l6.length:Int)-1)) l6.length then (CQ (l6.getD ((w64 ((l6.length:Int)-2)).toNat) dd) (l6.getD ((w64 ((l6.length:Int)-1)).toNat) dd) (a1.getD x3.toNat dd)).bind λv10=> AG l6 (YY a1 x3 n) (decide (v10<=0)) else none else none else AG l6 (YY a1 x3 n) false
def GW (a1:List qA):Nat->(List qA)->Int->Option (List qA)
 |0,_,_=>none
 |n+1,l2,x3=> bif decide (x3<(a1.length:Int)) then bif inb x3 a1.length then (YY a1 x3 FUEL l2).bind λo16=> bif room (o16.length+1) 16 then (GW a1 n) (o16++[(a1.getD x3.toNat dd)]) (w64 (x3+1)) else none else none else some l2
def MV (a1:List qA):Option (List qA):= (GW a1 FUEL [] 0).bind λo20=> bif slOk 0 (w64 ((o20.length:Int)-1)) o20.length then some (o20.take ((w64 ((o20.length:Int)-1)).toNat)) else none
def yR :Nat->(List qA)->Int->Int->Option (List qA)
 |0,_,_,_=>none
 |n+1,l2,x3,x4=> bif decide (x3<x4) then bif inb x4 l2.length then bif inb x3 l2.length then (yR n) ((l2.set x3.toNat (l2.getD x4.toNat dd)).set x4.toNat (l2.getD x3.toNat dd)) (w64 (x3+1)) (w64 (x4-1)) else none else none else some l2
def ZM (a1:List qA):Option (List qA):= (yR FUEL a1 0 (w64 ((a1.length:Int)-1))).bind λo9=> some o9
def FA (a1:List qA) (x6:Bool):Option (List qA):= bif x6 then some ([]:List qA) else (WX a1).bind λv8=> (QU v8).bind λv10=> bif v10.length==v8.length then (yK v10).bind λv13=> (MV v13.2).bind λv15=> (ZM v13.2).bind λv17=> bif v17.length==v13.2.length then (MV v17).bind λv20=> bif room (v15.length+v20.length) 16 then bif decide ((((v15.length+v20.length):Nat):Int)<3) then some ([]:List qA) else some (v15++v20) else none else none else none
def qDi (a1:List qA):Option (List qA):= bif decide ((a1.length:Int)<3) then FA a1 true else bif decide ((a1.length:Int)>32) then FA a1 true else (KO a1).bind λv4=> FA a1 (!v4)
def UL (a1:List qA):Nat->Int->Rect->Option Rect
 |0,_,_=>none
 |n+1,x4,x5=> bif decide (x4<(a1.length:Int)) then bif inb x4 a1.length then (UL a1 n) (w64 (x4+1)) (Rect.mk (Span.mk (imin x5.X.A ((a1.getD x4.toNat dd).X)) (imax x5.X.B ((a1.getD x4.toNat dd).X))) (Span.mk (imin x5.Y.A ((a1.getD x4.toNat dd).Y)) (imax x5.Y.B ((a1.getD x4.toNat dd).Y)))) else none else some x5
def ES (a1:List qA):Option Rect:= bif (a1.length:Int)==0 then some (Rect.mk (Span.mk 0 0) (Span.mk 0 0)) else bif inb 0 a1.length then (UL a1 FUEL 0 (Rect.mk (Span.mk ((a1.getD (0:Int).toNat dd).X) ((a1.getD (0:Int).toNat dd).X)) (Span.mk ((a1.getD (0:Int).toNat dd).Y) ((a1.getD (0:Int).toNat dd).Y)))).bind λo9=> some o9 else none
def AE (x5:Int):Option Int:= some x5
def HC (a1:Int) (a2:Int):Option Int:= bif nz a2 then bif decide ((Int.tmod a1 a2)<0) then AE (w64 ((w64 (Int.tdiv a1 a2))-1)) else AE (w64 (Int.tdiv a1 a2)) else none
def RJ (x6:Int) (R:Int->Int->Int->Option (Int×Int)) (x23:Int) (x24:Int):Option (Int×Int):= R x23 x24 (w64 (x6+1))
def PT (a1:Int) (a3:List qA) (x4:Int) (x5:Int) (x6:Int) (R:Int->Int->Int->Option (Int×Int)) (x19:Bool):Option (Int×Int):= bif x19 then (HC (w64 ((w64 (((a3.getD ((Int.tmod (w64 (x6+1)) (a3.length:Int)).toNat) dd).X)-((a3.getD x6.toNat dd).X)))*(w64 (a1-((a3.getD ((Int.tmod (w64 (x6+1)) (a3.length:Int)).toNat) dd).Y))))) (w64 (((a3.getD x6.toNat dd).Y)-((a3.getD ((Int.tmod (w64 (x6+1)) (a3.length:Int)).toNat) dd).Y)))).bind λv21=> RJ x6 R (w64 (((a3.getD ((Int.tmod (w64 (x6+1)) (a3.length:Int)).toNat) dd).X)-v21)) x5 else RJ x6 R x4 x5
def RE (a1:Int) (a3:List qA) (x4:Int) (x5:Int) (x6:Int) (R:Int->Int->Int->Option (Int×Int)) (x13:Bool):Option (Int×Int):= bif x13 then (HC (w64 ((w64 (((a3.getD ((Int.tmod (w64 (x6+1)) (a3.length:Int)).toNat) dd).X)-((a3.getD x6.toNat dd).X)))*(w64 (a1-((a3.getD x6.toNat dd).Y))))) (w64 (((a3.getD ((Int.tmod (w64 (x6+1)) (a3.length:Int)).toNat) dd).Y)-((a3.getD x6.toNat dd).Y)))).bind λv15=> RJ x6 R x4 (w64 (((a3.getD x6.toNat dd).X)+v15)) else bif decide (((a3.getD x6.toNat dd).Y)>((a3.getD ((Int.tmod (w64 (x6+1)) (a3.length:Int)).toNat) dd).Y)) then bif decide (((a3.getD ((Int.tmod (w64 (x6+1)) (a3.length:Int)).toNat) dd).Y)<=a1) then PT a1 a3 x4 x5 x6 R (decide (a1<=((a3.getD x6.toNat dd).Y)))
 else PT a1 a3 x4 x5 x6 R false else PT a1 a3 x4 x5 x6 R false
def wT (a1:Int) (a3:List qA):Nat->Int->Int->Int->Option (Int×Int)
 |0,_,_,_=>none
 |n+1,x4,x5,x6=> bif decide (x6<(a3.length:Int)) then bif inb x6 a3.length then bif nz (a3.length:Int) then bif inb (Int.tmod (w64 (x6+1)) (a3.length:Int)) a3.length then bif decide (((a3.getD x6.toNat dd).Y)<((a3.getD ((Int.tmod (w64 (x6+1)) (a3.length:Int)).toNat) dd).Y)) then bif decide (((a3.getD x6.toNat dd).Y)<=a1) then RE a1 a3 x4 x5 x6 (wT a1 a3 n) (decide (a1<=((a3.getD ((Int.tmod (w64 (x6+1)) (a3.length:Int)).toNat) dd).Y))) else RE a1 a3 x4 x5 x6 (wT a1 a3 n) false else RE a1 a3 x4 x5 x6 (wT a1 a3 n) false else none else none else none else some (x4,x5)
def TW (a1:Int) (a2:Rect) (a3:List qA):Option (Int×Int):= (wT a1 a3 FUEL a2.X.A a2.X.B 0).bind λo27=> some (o27.1,o27.2)
def PJ (a2:Int) (a3:Int) (v4:(List qA)) (v6:Rect) (x11:Bool):Option Span:= bif x11 then some (Span.mk 0 0) else (TW a2 v6 v4).bind λv13=> (TW a3 v6 v4).bind λv15=> bif decide ((imax v13.1 v15.1)≥(imin v13.2 v15.2)) then some (Span.mk 0 0) else some (Span.mk (imax v13.1 v15.1) (imin v13.2 v15.2))
def qBo (a1:List qA) (a2:Int) (a3:Int):Option Span:= (qDi a1).bind λv4=> (ES v4).bind λv6=> bif (v4.length:Int)==0 then PJ a2 a3 v4 v6 true else bif decide (a2≥a3) then PJ a2 a3 v4 v6 true else bif decide (a2<v6.Y.A) then PJ a2 a3 v4 v6 true else PJ a2 a3 v4 v6 (decide (a3>v6.Y.B))
def FI (a1:Int) (a2:List qA):Option Span:= (JX a1 (w64 (a1+1))).bind λv3=> (qBo a2 v3.A v3.B).bind λv5=> some v5
def yF (a1:Span):Option Bool:= some (decide (a1.A≥a1.B))
def KS (x3:Int) (R:Int->Int->Int->(List Span)->Option (Int×Int×(List Span))) (x17:Int) (x18:Int) (l19:List Span):Option (Int×Int×(List Span)):= R x17 (w64 (x3+1)) x18 l19
def VU (x3:Int) (l5:List Span) (R:Int->Int->Int->(List Span)->Option (Int×Int×(List Span))) (v7:Span) (x13:Int):Option (Int×Int×(List Span)):= bif room (l5.length+1) 16 then KS x3 R (((l5.length+1):Nat):Int) x13 (l5++[v7]) else none
def wN (a1:List qA):Nat->Int->Int->Int->(List Span)->Option (Int×Int×(List Span))
 |0,_,_,_,_=>none
 |n+1,x2,x3,x4,l5=> bif decide (x3<60) then (FI x3 a1).bind λv7=> (yF v7).bind λv9=> bif !v9 then bif x2==0 then VU x3 l5 (wN a1 n) v7 x3 else VU x3 l5 (wN a1 n) v7 x4 else bif decide (x2>0) then bif room (l5.length+1) 16 then KS x3 (wN a1 n) x2 x4 (l5++[(Span.mk 0 0)]) else none else KS x3 (wN a1 n) x2 x4 l5 else some (x2,x4,l5)
def DO (a1:List qA):Option qG:= (wN a1 FUEL 0 (-60) 0 []).bind λo23=> bif slOk 0 o23.1 o23.2.2.length then some (qG.mk o23.2.1 (o23.2.2.take o23.1.toNat)) else none
def CW (a1:List qA):Option (qG×Int):= (qAL a1).bind λv2=> bif v2 !=0 then some ((qG.mk 0 []),v2) else (DO a1).bind λv5=> bif (v5.Rows.length:Int)==0 then some ((qG.mk 0 []),18) else some ((qG.mk v5.Low v5.Rows),0)
def UJ (a1:Ring) (a2:Int) (a3:Int):Option (qG×Int):= (qAz a1 a2).bind λv4=> (EK (Ring.mk v4.Z v4.Read) a3).bind λv6=> bif v6.2 !=0 then some ((qG.mk 0 []),v6.2) else (CW v6.1).bind λv9=> some ((qG.mk v9.1.Low v9.1.Rows),v9.2)
def RL (x3:Bool):Option Bool:= some x3
def RT (a1:Span):Option Bool:= bif decide ((imin a1.A a1.B)≥(-600)) then RL (decide ((imax a1.A a1.B)<=600)) else RL false
def ZD (a1:qG):Nat->Int->Option (Int⊕Unit)
 |0,_=>none
 |n+1,x6=> bif decide (x6<(a1.Rows.length:Int)) then bif inb x6 a1.Rows.length then (RT (a1.Rows.getD x6.toNat dd)).bind λv9=> bif !v9 then some (Sum.inl 9) else (ZD a1 n) (w64 (x6+1)) else none else some (Sum.inr ())
def VZ (x27:Int) (R:Int->Option (Int⊕Unit)) (x33:Bool):Option (Int⊕Unit):= bif x33 then some (Sum.inl 19) else R (w64 (x27+1))
def jP (a1:qG):Nat->Int->Option (Int⊕Unit)
 |0,_=>none
 |n+1,x27=> bif decide (x27<(a1.Rows.length:Int)) then bif inb x27 a1.Rows.length then (yF (a1.Rows.getD x27.toNat dd)).bind λv30=> bif v30 then VZ x27 (jP a1 n) (!((((a1.Rows.getD x27.toNat dd).A)==0)&&((((a1.Rows.getD x27.toNat dd).B)==0)&&true))) else VZ x27 (jP a1 n) false else none else some (Sum.inr ())
def GG (a1:qG) (x25:Bool):Option Int:= bif x25 then some 19 else (jP a1 FUEL 0).bind λu37=>Sum.elim (λv38=>some v38) (λo35=> some 0) u37
def GL (a1:qG) (x4:Bool):Option Int:= bif x4 then some 9 else (ZD a1 FUEL 0).bind λu14=>Sum.elim (λv15=>some v15) (λo12=> bif (a1.Rows.length:Int)==0 then bif a1.Low !=0 then some 19 else some 0 else bif inb 0 a1.Rows.length then (yF (a1.Rows.getD (0:Int).toNat dd)).bind λv19=> bif v19 then GG a1 true else bif inb (w64 ((a1.Rows.length:Int)-1)) a1.Rows.length then (yF (a1.Rows.getD (w64 ((a1.Rows.length:Int)-1)).toNat dd)).bind λv23=> GG a1 v23 else none else none) u14
def PL (a1:qG):Option Int:= bif decide ((a1.Rows.length:Int)>120) then some 4 else bif decide (a1.Low<(-60)) then GL a1 true else GL a1 (decide (a1.Low>(w64 (60-(a1.Rows.length:Int)))))
def ZA (a1:qG):Option qG:= (PL a1).bind λv2=> bif v2 !=0 then some (qG.mk 0 []) else some a1
def IB (a1:qG) (a2:Int) (x4:Bool):Option Span:= bif x4 then some (Span.mk 0 0) else bif inb (w64 (a2-a1.Low)) a1.Rows.length then some (a1.Rows.getD (w64 (a2-a1.Low)).toNat dd) else none
def HN (a1:qG) (a2:Int):Option Span:= bif decide (a2<a1.Low) then IB a1 a2 true else IB a1 a2 (decide (a2≥(w64 (a1.Low+(a1.Rows.length:Int)))))
def JQ (a1:Span) (a2:Span):Option Span:= bif decide ((imax a1.A a2.A)≥(imin a1.B a2.B)) then some (Span.mk 0 0) else some (Span.mk (imax a1.A a2.A) (imin a1.B a2.B))
def TP (a1:Int) (a2:qG) (a3:qG):Option Span:= (HN a2 a1).bind λv4=> (HN a3 a1).bind λv6=> (JQ v4 v6).bind λv8=> some v8
def WT (x4:Int) (R:Int->Int->Int->(List Span)->Option (Int×Int×(List Span))) (x18:Int) (x19:Int) (l20:List Span):Option (Int×Int×(List Span)):= R x18 (w64 (x4+1)) x19 l20
def KV (x4:Int) (l6:List Span) (R:Int->Int->Int->(List Span)->Option (Int×Int×(List Span))) (v8:Span) (x14:Int):Option (Int×Int×(List Span)):= bif room (l6.length+1) 16 then WT x4 R (((l6.length+1):Nat):Int) x14 (l6++[v8]) else none
def wF (a1:qG) (a2:qG):Nat->Int->Int->Int->(List Span)->Option (Int×Int×(List Span))
 |0,_,_,_,_=>none
 |n+1,x3,x4,x5,l6=> bif decide (x4<60) then (TP x4 a1 a2).bind λv8=> (yF v8).bind λv10=> bif !v10 then bif x3==0 then KV x4 l6 (wF a1 a2 n) v8 x4 else KV x4 l6 (wF a1 a2 n) v8 x5 else bif decide (x3>0) then bif room (l6.length+1) 16 then WT x4 (wF a1 a2 n) x3 x5 (l6++[(Span.mk 0 0)]) else none else WT x4 (wF a1 a2 n) x3 x5 l6 else some (x3,x5,l6)
def KN (a1:qG) (a2:qG):Option qG:= (wF a1 a2 FUEL 0 (-60) 0 []).bind λo24=> bif slOk 0 o24.1 o24.2.2.length then some (qG.mk o24.2.1 (o24.2.2.take o24.1.toNat)) else none
def UB (a1:qG) (a2:qG):Option qG:= (ZA a1).bind λv3=> (ZA a2).bind λv5=> (KN v3 v5).bind λv7=> some (qG.mk v7.Low v7.Rows)
def PK (a1:Scan) (a2:Int) (a3:Int):Nat->(List qG)->Int->Option (((List qM)×Int)⊕(List qG))
 |0,_,_=>none
 |n+1,l8,x9=> bif decide (x9<(a1.Rings.length:Int)) then bif inb x9 a1.Rings.length then (UJ (a1.Rings.getD x9.toNat dd) a2 a3).bind λv12=> bif v12.2 !=0 then some (Sum.inl ([],30)) else bif inb x9 l8.length then (PK a1 a2 a3 n) (l8.set x9.toNat v12.1) (w64 (x9+1)) else none else none else some (Sum.inr l8)
def PG (a1:Scan) (o17:(List qG)):Nat->(List qM)->Int->Option (((List qM)×Int)⊕(List qM))
 |0,_,_=>none
 |n+1,l22,x23=> bif decide (x23<(((w64 ((a1.Rings.length:Int)-1)).toNat:Nat):Int)) then bif inb x23 o17.length then bif inb (w64 (x23+1)) o17.length then (UB (o17.getD x23.toNat dd) (o17.getD ((w64 (x23+1)).toNat) dd)).bind λv27=> bif (v27.Rows.length:Int)==0 then some (Sum.inl ([],30)) else bif inb (w64 (x23+1)) a1.Rings.length then bif inb x23 a1.Rings.length then bif inb x23 l22.length then (PG a1 o17 n) (l22.set x23.toNat (qM.mk (w64 (((a1.Rings.getD (w64 (x23+1)).toNat dd).Z)-((a1.Rings.getD x23.toNat dd).Z))) v27)) (w64 (x23+1)) else none else none else none else none else none else some (Sum.inr l22)
def MN (a1:Scan) (a2:Int) (a3:Int):Option ((List qM)×Int):= (MF a1).bind λv4=> bif v4 !=0 then some ([],v4) else bif mkOk (a1.Rings.length:Int) 32 then (PK a1 a2 a3 FUEL (List.replicate ((a1.Rings.length:Int).toNat) (qG.mk 0 [])) 0).bind λu19=>Sum.elim (λv20=>some v20) (λo17=> bif mkOk (w64 ((a1.Rings.length:Int)-1)) 40 then (PG a1 o17 FUEL (List.replicate ((w64 ((a1.Rings.length:Int)-1)).toNat) (qM.mk 0 (qG.mk 0 []))) 0).bind λu39=>Sum.elim (λv40=>some v40) (λo37=> some (o37,0)) u39 else none) u19 else none
def jT (a1:Scan) (a2 a3 a4:Int):Option ((List qM)×(List qH)×Int):= (FR a1 a2).bind λv1=> (MN v1 a3 a4).bind λv2=> (jM v1.Defects).bind λv3=> bif v2.2 !=0 then some ([],[],v2.2) else some (v2.1,v3,v2.2)
def qCu (a1:List qM) (x4:Int) (x5:Int) (R:Int->Int->Option (Int⊕Unit)) (x13:Bool):Option (Int⊕Unit):= bif x13 then some (Sum.inl 9) else R (w64 (x4+((a1.getD x5.toNat dd).Len))) (w64 (x5+1))
def UA (a1:List qM):Nat->Int->Int->Option (Int⊕Unit)
 |0,_,_=>none
 |n+1,x4,x5=> bif decide (x5<(a1.length:Int)) then bif inb x5 a1.length then (PL ((a1.getD x5.toNat dd).Sec)).bind λv8=> bif v8 !=0 then some (Sum.inl v8) else bif (((((a1.getD x5.toNat dd).Sec).Rows).length:Nat):Int)==0 then some (Sum.inl 18) else bif decide (((a1.getD x5.toNat dd).Len)<1) then qCu a1 x4 x5 (UA a1 n) true else qCu a1 x4 x5 (UA a1 n) (decide (((a1.getD x5.toNat dd).Len)>(w64 (20000-x4)))) else none else some (Sum.inr ())
def DU (a1:List qM):Option Int:= bif (a1.length:Int)==0 then some 3 else bif decide ((a1.length:Int)>24) then some 4 else (UA a1 FUEL 0 0).bind λu17=>Sum.elim (λv18=>some v18) (λo15=> some 0) u17
def DX (a1:List qM):Option (List qM):= (DU a1).bind λv2=> bif v2 !=0 then some ([]:List qM) else some a1
def SO (x6:Int) (R:Int->Span->Option Span) (x13:Span):Option Span:= R (w64 (x6+1)) x13
def XD (v2:qG):Nat->Int->Span->Option Span
 |0,_,_=>none
 |n+1,x6,x7=> bif decide (x6<(v2.Rows.length:Int)) then bif inb x6 v2.Rows.length then (yF (v2.Rows.getD x6.toNat dd)).bind λv10=> bif !v10 then SO x6 (XD v2 n) (Span.mk (imin x7.A ((v2.Rows.getD x6.toNat dd).A)) (imax x7.B ((v2.Rows.getD x6.toNat dd).B))) else SO x6 (XD v2 n) x7 else none else some x7
def qBR (a1:qG):Option Rect:= (ZA a1).bind λv2=> bif (v2.Rows.length:Int)==0 then some (Rect.mk (Span.mk 0 0) (Span.mk 0 0)) else bif inb 0 v2.Rows.length then (XD v2 FUEL 0 (v2.Rows.getD (0:Int).toNat dd)).bind λo15=> (JX v2.Low (w64 (v2.Low+(v2.Rows.length:Int)))).bind λv17=> some (Rect.mk o15 v17) else none
def qAJ (x4:Int) (R:Int->Rect->Option Rect) (v8:Rect) (x11:Rect):Option Rect:= R (w64 (x4+1)) (Rect.mk (Span.mk (imin x11.X.A v8.X.A) (imax x11.X.B v8.X.B)) (Span.mk (imin x11.Y.A v8.Y.A) (imax x11.Y.B v8.Y.B)))
def PQ (v2:(List qM)):Nat->Int->Rect->Option Rect
 |0,_,_=>none
 |n+1,x4,x5=> bif decide (x4<(v2.length:Int)) then bif inb x4 v2.length then (qBR ((v2.getD x4.toNat dd).Sec)).bind λv8=> bif x4==0 then qAJ x4 (PQ v2 n) v8 v8 else qAJ x4 (PQ v2 n) v8 x5 else none else some x5
def qFH (a1:List qM):Option Rect:= (DX a1).bind λv2=> (PQ v2 FUEL 0 (Rect.mk (Span.mk 0 0) (Span.mk 0 0))).bind λo13=> some o13
def HQ (a1:List qM):Option Rect:= (qFH a1).bind λv2=> some v2
def OZ (x3:Bool):Option Bool:= some x3
def AK (a1:Int):Option Bool:= bif decide (97<=a1) then OZ (decide (a1<=122)) else OZ false
def OI (x3:Bool):Option Bool:= some x3
def qD5 (a1:Int):Option Bool:= bif decide (48<=a1) then OI (decide (a1<=57)) else OI false
def BT (x9:Int) (R:Int->Option (Bool⊕Unit)) (x18:Bool):Option (Bool⊕Unit):= bif x18 then some (Sum.inl false) else R (w64 (x9+1))
def YA (a1:ByteArray):Nat->Int->Option (Bool⊕Unit)
 |0,_=>none
 |n+1,x9=> bif decide (x9<(a1.size:Int)) then bif inb x9 a1.size then (AK (KX a1 x9.toNat)).bind λv12=> bif !v12 then (qD5 (KX a1 x9.toNat)).bind λv15=> bif !v15 then BT x9 (YA a1 n) ((KX a1 x9.toNat) !=95) else BT x9 (YA a1 n) false else BT x9 (YA a1 n) false else none else some (Sum.inr ())
def BO (a1:ByteArray) (x7:Bool):Option Bool:= bif x7 then some false else (YA a1 FUEL 1).bind λu22=>Sum.elim (λv23=>some v23) (λo20=> some true) u22
def qFO (a1:ByteArray):Option Bool:= bif decide ((a1.size:Int)<1) then BO a1 true else bif decide ((a1.size:Int)>16) then BO a1 true else bif inb 0 a1.size then (AK (KX a1 ((0:Int).toNat))).bind λv5=> BO a1 (!v5) else none
def qBi (a1:List qK) (a2:ByteArray):Nat->Int->Option ((Int×Bool)⊕Unit)
 |0,_=>none
 |n+1,x3=> bif decide (x3<(a1.length:Int)) then bif inb x3 a1.length then bif qMC ((a1.getD x3.toNat dd).Name) a2 then some (Sum.inl (x3,true)) else (qBi a1 a2 n) (w64 (x3+1)) else none else some (Sum.inr ())
def qFy (a1:List qK) (a2:ByteArray):Option (Int×Bool):= (qBi a1 a2 FUEL 0).bind λu9=>Sum.elim (λv10=>some v10) (λo7=> some (0,false)) u9
def SV (x3:Bool):Option Bool:= some x3
def HA (a1:Int):Option Bool:= bif decide (a1≥1) then SV (decide (a1<=600)) else SV false
def qAn (a1:Int) (a2:Int):Option Int:= some (w64 (Int.tdiv (w64 ((w64 (a1*(w64 (1000+a2))))+999)) 1000))
def KI (a1:qK) (x9:Bool):Option (Int×Int):= bif x9 then some (0,0) else (qAn a1.Thick a1.Allow).bind λv11=> (qAn a1.Width a1.Allow).bind λv13=> some (v11,v13)
def PI (a1:qK):Option (Int×Int):= (HA a1.Thick).bind λv2=> bif !v2 then KI a1 true else (HA a1.Width).bind λv5=> bif !v5 then KI a1 true else bif decide (a1.Allow<0) then KI a1 true else KI a1 (decide (a1.Allow>200))
def PC (x18:Int) (R:Int->Option (Int⊕Unit)) (x26:Bool):Option (Int⊕Unit):= bif x26 then some (Sum.inl 11) else R (w64 (x18+1))
def PB (a1:qK) (x18:Int) (R:Int->Option (Int⊕Unit)) (x22:Bool):Option (Int⊕Unit):= bif x22 then some (Sum.inl 9) else bif decide (x18>0) then bif inb (w64 (x18-1)) a1.Lengths.length then PC x18 R (decide ((a1.Lengths.getD x18.toNat dd)<=(a1.Lengths.getD (w64 (x18-1)).toNat dd))) else none else PC x18 R false
def jJ (a1:qK):Nat->Int->Option (Int⊕Unit)
 |0,_=>none
 |n+1,x18=> bif decide (x18<(a1.Lengths.length:Int)) then bif inb x18 a1.Lengths.length then bif decide ((a1.Lengths.getD x18.toNat dd)<100) then PB a1 x18 (jJ a1 n) true else PB a1 x18 (jJ a1 n) (decide ((a1.Lengths.getD x18.toNat dd)>20000)) else none else some (Sum.inr ())
def PA (x32:Int) (R:Int->Option (Int⊕Unit)) (x36:Bool):Option (Int⊕Unit):= bif x36 then some (Sum.inl 9) else R (w64 (x32+1))
def QH (a1:qK):Nat->Int->Option (Int⊕Unit)
 |0,_=>none
 |n+1,x32=> bif decide (x32<(a1.Prices.length:Int)) then bif inb x32 a1.Prices.length then bif decide ((a1.Prices.getD x32.toNat dd)<0) then PA x32 (QH a1 n) true else PA x32 (QH a1 n) (decide ((a1.Prices.getD x32.toNat dd)>1000000)) else none else some (Sum.inr ())
def QG (a1:qK) (x10:Bool):Option Int:= bif x10 then some 9 else (PI a1).bind λv12=> bif decide (v12.2>600) then some 9 else bif (a1.Lengths.length:Int)==0 then some 3 else bif decide ((a1.Lengths.length:Int)>8) then some 4 else bif (a1.Prices.length:Int) !=(a1.Lengths.length:Int) then some 19 else (jJ a1 FUEL 0).bind λu30=>Sum.elim (λv31=>some v31) (λo28=> (QH a1 FUEL 0).bind λu40=>Sum.elim (λv41=>some v41) (λo38=> some 0) u40) u30
def QF (a1:qK) (x5:Bool):Option Int:= bif x5 then some 9 else bif decide (a1.Allow<0) then QG a1 true else bif decide (a1.Allow>200) then QG a1 true else bif decide (a1.Wane<0) then QG a1 true else QG a1 (decide (a1.Wane>1000))
def VL (a1:qK):Option Int:= bif decide (a1.Thick<5) then QF a1 true else bif decide (a1.Thick>300) then QF a1 true else bif decide (a1.Width<a1.Thick) then QF a1 true else QF a1 (decide (a1.Width>600))
def OW (a1:List qK):Nat->Int->Option (Int⊕Unit)
 |0,_=>none
 |n+1,x3=> bif decide (x3<(a1.length:Int)) then bif inb x3 a1.length then (qFO ((a1.getD x3.toNat dd).Name)).bind λv6=> bif !v6 then some (Sum.inl 6) else bif slOk 0 x3 a1.length then (qFy (a1.take x3.toNat) ((a1.getD x3.toNat dd).Name)).bind λv10=> bif v10.2 then some (Sum.inl 7) else (VL (a1.getD x3.toNat dd)).bind λv13=> bif v13 !=0 then some (Sum.inl v13) else (OW a1 n) (w64 (x3+1)) else none else none else some (Sum.inr ())
def YS (a1:List qK):Option Int:= bif decide ((a1.length:Int)>16) then some 4 else (OW a1 FUEL 0).bind λu18=>Sum.elim (λv19=>some v19) (λo16=> some 0) u18
def qA5 (x3:Bool):Option Bool:= some x3
def qBg (a1:Int):Option Bool:= bif decide (a1≥1) then qA5 (decide (a1<=20000)) else qA5 false
def qAk (x3:Bool):Option Bool:= some x3
def qAj (a1:Int):Option Bool:= bif decide (a1≥0) then qAk (decide (a1<=1000000)) else qAk false
def KF (x20:Bool):Option Int:= bif x20 then some 9 else some 0
def MM (a2:Rates) (x12:Bool):Option Int:= bif x12 then some 9 else bif decide (a2.Chip<0) then KF true else bif decide (a2.Chip>1000) then KF true else bif decide (a2.Dust<0) then KF true else bif decide (a2.Dust>1000) then KF true else (qAj a2.Fine).bind λv18=> KF (!v18)
def TZ (a1:Saw) (a2:Rates) (x6:Bool):Option Int:= bif x6 then some 9 else bif decide (a1.Pitch<1) then MM a2 true else bif decide (a1.Pitch>2000) then MM a2 true else (qBg a1.Step).bind λv10=> MM a2 (!v10)
def qCL (a1:Saw) (a2:Rates):Option Int:= bif decide (a1.Kerf<0) then TZ a1 a2 true else bif decide (a1.Kerf>20) then TZ a1 a2 true else bif decide (a1.Trim<0) then TZ a1 a2 true else TZ a1 a2 (decide (a1.Trim>20))
def FE (x5:Int) (R:Int->Option (Int⊕Unit)) (x9:Bool):Option (Int⊕Unit):= bif x9 then some (Sum.inl 9) else R (w64 (x5+1))
def JR (a1:Rect):Nat->Int->Option (Int⊕Unit)
 |0,_=>none
 |n+1,x5=> bif decide (x5<4) then bif inb x5 4 then bif decide ((([a1.X.A,a1.X.B,a1.Y.A,a1.Y.B]:List Int).getD x5.toNat 0)<(-600)) then FE x5 (JR a1 n) true else FE x5 (JR a1 n) (decide ((([a1.X.A,a1.X.B,a1.Y.A,a1.Y.B]:List Int).getD x5.toNat 0)>600)) else none else some (Sum.inr ())
def NQ (a1:Rect) (x3:Bool):Option Int:= bif x3 then some 19 else (JR a1 FUEL 0).bind λu13=>Sum.elim (λv14=>some v14) (λo11=> some 0) u13
def qBc (a1:Rect):Option Int:= bif decide (a1.X.A≥a1.X.B) then NQ a1 true else NQ a1 (decide (a1.Y.A≥a1.Y.B))
def MQ (a1:List qM) (a2:List qH) (a3:List qK) (a4:Rect) (a5:Saw) (a6:Rates):Option Int:= (DU a1).bind λv7=> bif v7 !=0 then some v7 else (ZY a2).bind λv10=> bif v10 !=0 then some v10 else (YS a3).bind λv13=> bif v13 !=0 then some v13 else (qCL a5 a6).bind λv16=> bif v16 !=0 then some v16 else (qBc a4).bind λv19=> some v19
def OV (a1:List Int):Option (List Int):= bif Nat.blt a1.length 4611686018427387904 then some (WR (λx y=>decide (x<=y)) a1) else none
def RY (x12:Int) (R:(List Int)->Int->Int->Option ((List Int)×Int)) (l19:List Int) (x20:Int):Option ((List Int)×Int):= R l19 x20 (w64 (x12+1))
def QR (l3:List Int) (x4:Int):Nat->(List Int)->Int->Int->Option ((List Int)×Int)
 |0,_,_,_=>none
 |n+1,l10,x11,x12=> bif decide (x12<(((l3.length-x4.toNat):Nat):Int)) then bif inb x12 (l3.length-x4.toNat) then bif Nat.ble (x4.toNat+(l3.length-x4.toNat)) l10.length then bif inb (w64 (x12-1)) (l3.length-x4.toNat) then bif (l10.getD (x4.toNat+x12.toNat) dd) !=(l10.getD (x4.toNat+((w64 (x12-1)).toNat)) dd) then bif inb x11 l10.length then RY x12 (QR l3 x4 n) (l10.set x11.toNat (l10.getD (x4.toNat+x12.toNat) dd)) (w64 (x11+1)) else none else RY x12 (QR l3 x4 n) l10 x11 else none else none else none else some (l10,x11)
def TF :Nat->(List Int)->Int->Option (((List Int)×(List Int))⊕(List Int))
 |0,_,_=>none
 |n+1,l3,x4=> bif decide (x4<(l3.length:Int)) then bif inb x4 l3.length then bif inb (w64 (x4-1)) l3.length then bif (l3.getD x4.toNat dd)==(l3.getD ((w64 (x4-1)).toNat) dd) then bif slOk x4 (l3.length:Int) l3.length then (QR l3 x4 FUEL l3 x4 1).bind λo23=> bif slOk o23.2 (o23.1.length:Int) o23.1.length then bif slOk 0 o23.2 o23.1.length then some (Sum.inl ((o23.1.take o23.2.toNat),(o23.1.take o23.2.toNat))) else none else none else none else (TF n) l3 (w64 (x4+1)) else none else none else some (Sum.inr l3)
def BL (a1:List Int):Option ((List Int)×(List Int)):= bif decide ((a1.length:Int)<2) then some (a1,a1) else (TF FUEL a1 1).bind λu30=>Sum.elim (λv31=>some v31) (λo28=> some (o28,o28)) u30
def qBl (a1:List qK):Nat->(List Int)->Int->Option (List Int)
 |0,_,_=>none
 |n+1,l5,x6=> bif decide (x6<(a1.length:Int)) then bif inb x6 a1.length then (PI (a1.getD x6.toNat dd)).bind λv9=> bif room (l5.length+2) 8 then (qBl a1 n) (l5++[v9.1,v9.2]) (w64 (x6+1)) else none else none else some l5
def qBt (a1:List qK):Option (List Int):= (YS a1).bind λv2=> bif v2 !=0 then some ([]:List Int) else (qBl a1 FUEL [] 0).bind λo13=> (OV o13).bind λv15=> bif v15.length==o13.length then (BL v15).bind λv18=> some v18.2 else none
def HM (a1:Rect) (a2:Int) (a3:Int):Option Rect:= some (Rect.mk a1.X (Span.mk (w64 (a1.Y.A+a2)) (w64 (a1.Y.A+a3))))
def qD3 (x22:Int) (R:Int->Option (Int⊕Unit)) (x26:Bool):Option (Int⊕Unit):= bif x26 then some (Sum.inl 9) else R (w64 (x22+1))
def GZ (a4:Rect):Nat->Int->Option (Int⊕Unit)
 |0,_=>none
 |n+1,x22=> bif decide (x22<4) then bif inb x22 4 then bif decide ((([a4.X.A,a4.X.B,a4.Y.A,a4.Y.B]:List Int).getD x22.toNat 0)<(-600)) then qD3 x22 (GZ a4 n) true else qD3 x22 (GZ a4 n) (decide ((([a4.X.A,a4.X.B,a4.Y.A,a4.Y.B]:List Int).getD x22.toNat 0)>600)) else none else some (Sum.inr ())
def qD7 (a4:Rect) (x20:Bool):Option Int:= bif x20 then some 19 else (GZ a4 FUEL 0).bind λu30=>Sum.elim (λv31=>some v31) (λo28=> some 0) u30
def qJD (a1:List qM) (a2:List qH) (a3:List qK) (a4:Rect) (a5:Saw) (a6:Rates):Option Int:= (DU a1).bind λv7=> bif v7 !=0 then some v7 else (ZY a2).bind λv10=> bif v10 !=0 then some v10 else (YS a3).bind λv13=> bif v13 !=0 then some v13 else (qCL a5 a6).bind λv16=> bif v16 !=0 then some v16 else bif decide (a4.X.A≥a4.X.B) then qD7 a4 true else qD7 a4 (decide (a4.Y.A≥a4.Y.B))
def qDL (x8:Int) (R:(List Int)->(List Int)->Int->Option ((List Int)×(List Int))) (l19:List Int) (l20:List Int):Option ((List Int)×(List Int)):= R l19 l20 (w64 (x8+1))
def qDG (l7:List Int) (x8:Int) (R:(List Int)->(List Int)->Int->Option ((List Int)×(List Int))) (l17:List Int):Option ((List Int)×(List Int)):= bif room (l7.length+1) 8 then qDL x8 R l17 (l7++[x8]) else none
def YZ (a1:List qK) (a2:Int):Nat->(List Int)->(List Int)->Int->Option ((List Int)×(List Int))
 |0,_,_,_=>none
 |n+1,l6,l7,x8=> bif decide (x8<(a1.length:Int)) then bif inb x8 a1.length then (PI (a1.getD x8.toNat dd)).bind λv11=> bif a2==v11.1 then bif room (l6.length+1) 8 then qDG l7 x8 (YZ a1 a2 n) (l6++[v11.2]) else none else bif a2==v11.2 then bif room (l6.length+1) 8 then qDG l7 x8 (YZ a1 a2 n) (l6++[v11.1]) else none else qDL x8 (YZ a1 a2 n) l6 l7 else none else some (l6,l7)
def qAd (a1:List qK) (a2:Int):Option ((List Int)×(List Int)):= (YS a1).bind λv3=> bif v3 !=0 then some ([],[]) else (YZ a1 a2 FUEL [] [] 0).bind λo23=> some (o23.1,o23.2)
def qC8 (a1:Rect) (a2:Int) (a3:Int):Option Rect:= some (Rect.mk (Span.mk (w64 (a1.X.A+a2)) (w64 (a1.X.A+a3))) a1.Y)
def BY (x2:Int) (R:Int->Option (Bool⊕Unit)) (x7:Bool):Option (Bool⊕Unit):= bif x7 then some (Sum.inl false) else R (w64 (x2+1))
def JY (a1:Rect):Nat->Int->Option (Bool⊕Unit)
 |0,_=>none
 |n+1,x2=> bif decide (x2<2) then bif inb x2 2 then bif decide ((([a1.X.A,a1.X.B,a1.Y.A,a1.Y.B]:List Int).getD (x2.toNat*2+0) 0)<(-600)) then BY x2 (JY a1 n) true else bif decide ((([a1.X.A,a1.X.B,a1.Y.A,a1.Y.B]:List Int).getD (x2.toNat*2+1) 0)>600) then BY x2 (JY a1 n) true else BY x2 (JY a1 n) (decide ((([a1.X.A,a1.X.B,a1.Y.A,a1.Y.B]:List Int).getD (x2.toNat*2+0) 0)≥(([a1.X.A,a1.X.B,a1.Y.A,a1.Y.B]:List Int).getD (x2.toNat*2+1) 0))) else none else some (Sum.inr ())
def qFz (a1:Rect):Option Bool:= (JY a1 FUEL 0).bind λu11=>Sum.elim (λv12=>some v12) (λo9=> some true) u11
def qAp (v2:(List qM)):Nat->Int->Int->Option Int
 |0,_,_=>none
 |n+1,x4,x5=> bif decide (x5<(v2.length:Int)) then bif inb x5 v2.length then (qAp v2 n) (w64 (x4+((v2.getD x5.toNat dd).Len))) (w64 (x5+1)) else none else some x4
def UP (a1:List qM):Option Int:= (DX a1).bind λv2=> (qAp v2 FUEL 0 0).bind λo9=> some o9
def qLr (a1:Span):Option Int:= bif decide (a1.A≥a1.B) then some 0 else some (IntKind.u64.wrap ((IntKind.u64.wrap (a1.B))-(IntKind.u64.wrap (a1.A))))
def qFU (a1:Int):Option Int:= some (w64 (imin a1 9223372036854775807))
def qBY (a1:Span):Option Int:= (qLr a1).bind λv2=> (qFU v2).bind λv4=> some v4
def HZ (a2:Rect) (v3:qG):Nat->Int->Int->Option Int
 |0,_,_=>none
 |n+1,x5,x6=> bif decide (x6<(v3.Rows.length:Int)) then bif inb x6 v3.Rows.length then (JX (w64 (v3.Low+x6)) (w64 ((w64 (v3.Low+x6))+1))).bind λv9=> (JQ (v3.Rows.getD x6.toNat dd) a2.X).bind λv11=> (qBY v11).bind λv13=> (JQ v9 a2.Y).bind λv15=> (qBY v15).bind λv17=> (HZ a2 v3 n) (w64 (x5+(w64 (v13*v17)))) (w64 (x6+1)) else none else some x5
def HJ (a1:qG) (a2:Rect):Option Int:= (ZA a1).bind λv3=> (HZ a2 v3 FUEL 0 0).bind λo20=> some o20
def qBC (a1:List qM) (a2:Rect):Nat->(List zC)->Int->Int->Option (List zC)
 |0,_,_,_=>none
 |n+1,l3,x4,x5=> bif decide (x5<(a1.length:Int)) then bif inb x5 a1.length then (HJ ((a1.getD x5.toNat dd).Sec) a2).bind λv8=> bif nz (w64 ((w64 (a2.X.B-a2.X.A))*(w64 (a2.Y.B-a2.Y.A)))) then bif room (l3.length+1) 24 then (qBC a1 a2 n) (l3++[(zC.mk (Span.mk x4 (w64 (x4+((a1.getD x5.toNat dd).Len)))) (w64 (Int.tdiv (w64 ((w64 ((w64 (1000*(w64 ((w64 ((w64 (a2.X.B-a2.X.A))*(w64 (a2.Y.B-a2.Y.A))))-v8))))+(w64 ((w64 (a2.X.B-a2.X.A))*(w64 (a2.Y.B-a2.Y.A))))))-1)) (w64 ((w64 (a2.X.B-a2.X.A))*(w64 (a2.Y.B-a2.Y.A)))))))]) (w64 (x4+((a1.getD x5.toNat dd).Len))) (w64 (x5+1)) else none else none else none else some l3
def qHU (a1:List qM) (a2:Rect):Option (List zC):= (qBC a1 a2 FUEL [] 0 0).bind λo13=> some o13
def HK (a1:zP) (a2:Span):Option Box:= some (Box.mk a1.rect.X a1.rect.Y a2)
def LV (v3:Span) (v5:Span) (v7:Span) (x17:Bool):Option (Box×Bool):= bif x17 then some ((Box.mk (Span.mk 0 0) (Span.mk 0 0) (Span.mk 0 0)),false) else some ((Box.mk v3 v5 v7),true)
def qH3 (a1:Box) (a2:Box):Option (Box×Bool):= (JQ a1.X a2.X).bind λv3=> (JQ a1.Y a2.Y).bind λv5=> (JQ a1.Z a2.Z).bind λv7=> (QA v3).bind λv9=> bif v9 then LV v3 v5 v7 true else (QA v5).bind λv12=> bif v12 then LV v3 v5 v7 true else (QA v7).bind λv15=> LV v3 v5 v7 v15
def MJ (a1:qH) (a2:Box):Option Bool:= (qH3 a1.Box a2).bind λv3=> some v3.2
def qDK (x29:Int) (R:Int->(List qH)->Option (List qH)) (l37:List qH):Option (List qH):= R (w64 (x29+1)) l37
def GQ (a2:List qH) (v27:Box):Nat->Int->(List qH)->Option (List qH)
 |0,_,_=>none
 |n+1,x29,l30=> bif decide (x29<(a2.length:Int)) then bif inb x29 a2.length then (MJ (a2.getD x29.toNat dd) v27).bind λv33=> bif v33 then bif room (l30.length+1) 56 then qDK x29 (GQ a2 v27 n) (l30++[(a2.getD x29.toNat dd)]) else none else qDK x29 (GQ a2 v27 n) l30 else none else some l30
def qD0 (a1:List qM) (a2:List qH) (a3:qK) (a4:Rect) (x21:Bool):Option (zP×Bool):= bif x21 then some ((zP.mk (qK.mk (ByteArray.mk #[]) 0 0 0 0 [] []) (Rect.mk (Span.mk 0 0) (Span.mk 0 0)) 0 [] []),false) else (UP a1).bind λv23=> (qHU a1 a4).bind λv25=> (HK (zP.mk a3 a4 v23 v25 []) (Span.mk 0 v23)).bind λv27=> (GQ a2 v27 FUEL 0 []).bind λo39=> some ((zP.mk a3 a4 v23 v25 o39),true)
def DB (a1:List qM) (a2:List qH) (a3:qK) (a4:Rect) (x16:Bool):Option (zP×Bool):= bif x16 then some ((zP.mk (qK.mk (ByteArray.mk #[]) 0 0 0 0 [] []) (Rect.mk (Span.mk 0 0) (Span.mk 0 0)) 0 [] []),false) else (PI a3).bind λv18=> bif !(((w64 (a4.X.B-a4.X.A))==v18.1)&&(((w64 (a4.Y.B-a4.Y.A))==v18.2)&&true)) then qD0 a1 a2 a3 a4 (!(((w64 (a4.X.B-a4.X.A))==v18.2)&&(((w64 (a4.Y.B-a4.Y.A))==v18.1)&&true))) else qD0 a1 a2 a3 a4 false
def qJR (a1:List qM) (a2:List qH) (a3:qK) (a4:Rect):Option (zP×Bool):= (DU a1).bind λv5=> bif v5 !=0 then DB a1 a2 a3 a4 true else (ZY a2).bind λv8=> bif v8 !=0 then DB a1 a2 a3 a4 true else (YS [a3]).bind λv11=> bif v11 !=0 then DB a1 a2 a3 a4 true else (qFz a4).bind λv14=> DB a1 a2 a3 a4 (!v14)
def TK (x5:Bool):Option Bool:= some x5
def qCd (a1:Span) (a2:Int):Option Bool:= bif decide (a1.A≥0) then bif decide (a1.A<a1.B) then TK (decide (a1.B<=a2)) else TK false else TK false
def OH (a1:qK) (a2:Int):Nat->Int->Option ((Int×Bool)⊕Unit)
 |0,_=>none
 |n+1,x3=> bif decide (x3<(a1.Lengths.length:Int)) then bif inb x3 a1.Lengths.length then bif (a1.Lengths.getD x3.toNat dd) !=a2 then (OH a1 a2 n) (w64 (x3+1)) else bif decide (x3≥(a1.Prices.length:Int)) then some (Sum.inl (0,false)) else bif inb x3 a1.Prices.length then some (Sum.inl ((a1.Prices.getD x3.toNat dd),true)) else none else none else some (Sum.inr ())
def qDF (a1:qK) (a2:Int):Option (Int×Bool):= (OH a1 a2 FUEL 0).bind λu11=>Sum.elim (λv12=>some v12) (λo9=> some (0,false)) u11
def qCb (x4:Int) (R:Int->Int->Option Int) (x10:Int):Option Int:= R x10 (w64 (x4+1))
def qBA (a1:List zC) (x3:Int) (x4:Int) (R:Int->Int->Option Int) (x8:Bool):Option Int:= bif x8 then qCb x4 R (imax x3 ((a1.getD x4.toNat dd).lack)) else qCb x4 R x3
def XW (a1:List zC) (a2:Span):Nat->Int->Int->Option Int
 |0,_,_=>none
 |n+1,x3,x4=> bif decide (x4<(a1.length:Int)) then bif inb x4 a1.length then bif decide ((((a1.getD x4.toNat dd).z).A)<a2.B) then qBA a1 x3 x4 (XW a1 a2 n) (decide (a2.A<(((a1.getD x4.toNat dd).z).B))) else qBA a1 x3 x4 (XW a1 a2 n) false else none else some x3
def qIa (a1:List zC) (a2:Span):Option Int:= (XW a1 a2 FUEL 0 0).bind λo12=> some o12
def BE (x17:Int) (R:Int->Int->Option ((Int×Bool)⊕Int)) (x24:Int):Option ((Int×Bool)⊕Int):= R x24 (w64 (x17+1))
def WV (a1:zP) (a3:Int) (v14:Box):Nat->Int->Int->Option ((Int×Bool)⊕Int)
 |0,_,_=>none
 |n+1,x16,x17=> bif decide (x17<(a1.defects.length:Int)) then bif inb x17 a1.defects.length then (MJ (a1.defects.getD x17.toNat dd) v14).bind λv20=> bif !v20 then BE x17 (WV a1 a3 v14 n) x16 else bif ((a1.defects.getD x17.toNat dd).Kind)==3 then some (Sum.inl (0,false)) else BE x17 (WV a1 a3 v14 n) (w64 (x16-a3)) else none else some (Sum.inr x16)
def BH (a1:zP) (a2:Span) (a3:Int) (v7:Int×Bool) (x12:Bool):Option (Int×Bool):= bif x12 then some (0,false) else (HK a1 a2).bind λv14=> (WV a1 a3 v14 FUEL v7.1 0).bind λu28=>Sum.elim (λv29=>some v29) (λo26=> some (imax o26 0,true)) u28
def OS (a1:zP) (a2:Span) (a3:Int):Option (Int×Bool):= (qCd a2 a1.length).bind λv4=> bif !v4 then some (0,false) else (qDF a1.product (w64 (a2.B-a2.A))).bind λv7=> bif !v7.2 then BH a1 a2 a3 v7 true else (qIa a1.zones a2).bind λv10=> BH a1 a2 a3 v7 (decide (v10>a1.product.Wane))
def qDI (x24:Int) (R:Int->Bool->Int->Span->Option (Int×Bool×Span)) (x34:Int) (x35:Bool) (x36:Span):Option (Int×Bool×Span):= R x34 x35 (w64 (x24+1)) x36
def AU (a3:qK) (x19:Int) (x22:Int) (x23:Bool) (x24:Int) (x25:Span) (R:Int->Bool->Int->Span->Option (Int×Bool×Span)) (v28:Int×Bool) (x32:Bool):Option (Int×Bool×Span):= bif x32 then qDI x24 R v28.1 true (Span.mk x19 (w64 (x19+(a3.Lengths.getD x24.toNat dd)))) else qDI x24 R x22 x23 x25
def YQ (a3:qK) (a6:Int) (v14:zP×Bool) (x19:Int):Nat->Int->Bool->Int->Span->Option (Int×Bool×Span)
 |0,_,_,_,_=>none
 |n+1,x22,x23,x24,x25=> bif decide (x24<(a3.Lengths.length:Int)) then bif inb x24 a3.Lengths.length then (OS (zP.mk v14.1.product v14.1.rect v14.1.length v14.1.zones v14.1.defects) (Span.mk x19 (w64 (x19+(a3.Lengths.getD x24.toNat dd)))) a6).bind λv28=> bif v28.2 then bif !x23 then AU a3 x19 x22 x23 x24 x25 (YQ a3 a6 v14 x19 n) v28 true else AU a3 x19 x22 x23 x24 x25 (YQ a3 a6 v14 x19 n) v28 (decide (v28.1>x22)) else AU a3 x19 x22 x23 x24 x25 (YQ a3 a6 v14 x19 n) v28 false else none else some (x22,x23,x25)
def qDN (a3:qK) (a5:Int) (a6:Int) (v14:zP×Bool):Nat->Int->Bool->Int->Span->Option (Int×Bool×Span)
 |0,_,_,_,_=>none
 |n+1,x17,x18,x19,x20=> bif decide (x19<v14.1.length) then (YQ a3 a6 v14 x19 FUEL x17 x18 0 x20).bind λo40=> (qDN a3 a5 a6 v14 n) o40.1 o40.2.1 (w64 (x19+a5)) o40.2.2 else some (x17,x18,x20)
def qDY (a1:List qM) (a2:List qH) (a3:qK) (a4:Rect) (a5:Int) (a6:Int) (x12:Bool):Option (Span×Int×Bool):= bif x12 then some ((Span.mk 0 0),0,false) else (qJR a1 a2 a3 a4).bind λv14=> bif !v14.2 then some ((Span.mk 0 0),0,false) else (qDN a3 a5 a6 v14 FUEL 0 false 0 (Span.mk 0 0)).bind λo45=> some (o45.2.2,o45.1,o45.2.1)
def qJ8 (a1:List qM) (a2:List qH) (a3:qK) (a4:Rect) (a5:Int) (a6:Int):Option (Span×Int×Bool):= (qBg a5).bind λv7=> bif !v7 then qDY a1 a2 a3 a4 a5 a6 true else (qAj a6).bind λv10=> qDY a1 a2 a3 a4 a5 a6 (!v10)
def OG (a1:List qM):Nat->(List Span)->Int->Int->Option (List Span)
 |0,_,_,_=>none
 |n+1,l3,x4,x5=> bif decide (x5<(a1.length:Int)) then bif inb x5 a1.length then bif inb x5 l3.length then (OG a1 n) (l3.set x5.toNat (Span.mk x4 (w64 (x4+((a1.getD x5.toNat dd).Len))))) (w64 (x4+((a1.getD x5.toNat dd).Len))) (w64 (x5+1)) else none else none else some l3
def qDJ (a1:List qM):Option (List Span):= bif mkOk (a1.length:Int) 16 then (OG a1 FUEL (List.replicate ((a1.length:Int).toNat) (Span.mk 0 0)) 0 0).bind λo10=> some o10 else none
def CZ (x8:Int) (R:Int->Int->Option Int) (x19:Int):Option Int:= R x19 (w64 (x8+1))
def RR (a2:Box) (v3:(List qM)) (v5:(List Span)):Nat->Int->Int->Option Int
 |0,_,_=>none
 |n+1,x7,x8=> bif decide (x8<(v5.length:Int)) then bif inb x8 v5.length then (JQ (v5.getD x8.toNat dd) a2.Z).bind λv11=> (qBY v11).bind λv13=> bif decide (v13>0) then bif inb x8 v3.length then (HJ ((v3.getD x8.toNat dd).Sec) (Rect.mk a2.X a2.Y)).bind λv17=> CZ x8 (RR a2 v3 v5 n) (w64 (x7+(w64 (v13*v17)))) else none else CZ x8 (RR a2 v3 v5 n) x7 else none else some x7
def qAI (a1:List qM) (a2:Box):Option Int:= (DX a1).bind λv3=> (qDJ v3).bind λv5=> (RR a2 v3 v5 FUEL 0 0).bind λo21=> some o21
def TG (a1:List qM) (a2:Rect) (a3:Span):Option Int:= (qAI a1 (Box.mk a2.X a2.Y a3)).bind λv4=> some v4
def qMv (a1:List qM) (a2:List qH) (a3:qK) (a4:Rect) (a5:Saw) (a6:Rates):Option Int:= (qJ8 a1 a2 a3 a4 a5.Step a6.Fine).bind λv7=> bif !v7.2.2 then some (-1) else (UP a1).bind λv10=> (TG a1 a4 (Span.mk 0 v10)).bind λv12=> (TG a1 a4 v7.1).bind λv14=> (TG a1 a4 (Span.mk (imax 0 (w64 (v7.1.A-a5.Trim))) v7.1.A)).bind λv16=> (TG a1 a4 (Span.mk v7.1.B (imin (w64 (v7.1.B+a5.Trim)) v10))).bind λv18=> some (w64 ((w64 ((w64 (1000000*v7.2.1))+(w64 (a6.Dust*(w64 (v16+v18))))))+(w64 (a6.Chip*(w64 ((w64 (v12-v14))-(w64 (v16+v18))))))))
def qF7 (l16:List Int) (x17:Int) (R:(List Int)->Int->Option (List Int)) (x27:Int):Option (List Int):= bif room (l16.length+1) 8 then R (l16++[x27]) (w64 (x17+1)) else none
def FC (a1:List qM) (a2:List qH) (a3:List qK) (a4:Rect) (a5:Saw) (a6:Rates) (v10:(List Int)×(List Int)) (x12:Int):Nat->(List Int)->Int->Option (List Int)
 |0,_,_=>none
 |n+1,l16,x17=> bif decide ((w64 (x17+(v10.1.getD x12.toNat dd)))<=(w64 (a4.X.B-a4.X.A))) then bif nz a5.Pitch then bif (Int.tmod x17 a5.Pitch)==0 then bif inb x12 v10.2.length then bif inb (v10.2.getD x12.toNat dd) a3.length then (qC8 a4 x17 (w64 (x17+(v10.1.getD x12.toNat dd)))).bind λv23=> (qMv a1 a2 (a3.getD (v10.2.getD x12.toNat dd).toNat dd) v23 a5 a6).bind λv25=> qF7 l16 x17 (FC a1 a2 a3 a4 a5 a6 v10 x12 n) v25 else none else none else qF7 l16 x17 (FC a1 a2 a3 a4 a5 a6 v10 x12 n) (-1) else none else some l16
def qFC (a1:List qM) (a2:List qH) (a3:List qK) (a4:Rect) (a5:Saw) (a6:Rates) (v10:(List Int)×(List Int)):Nat->Int->(List (List Int))->Option (List (List Int))
 |0,_,_=>none
 |n+1,x12,l13=> bif decide (x12<(v10.1.length:Int)) then bif inb x12 v10.1.length then (FC a1 a2 a3 a4 a5 a6 v10 x12 FUEL [] 0).bind λo30=> bif room (l13.length+1) 24 then (qFC a1 a2 a3 a4 a5 a6 v10 n) (w64 (x12+1)) (l13++[o30]) else none else none else some l13
def qGi (a1:List qM) (a4:Rect) (a6:Rates) (v36:Int):Nat->Int->(List Int)->(List Int)->Option ((List Int)×(List Int))
 |0,_,_,_=>none
 |n+1,x38,l39,l40=> bif decide (x38<(w64 (a4.X.B-a4.X.A))) then (qC8 a4 x38 (w64 (x38+1))).bind λv42=> (TG a1 v42 (Span.mk 0 v36)).bind λv44=> bif room (l39.length+1) 8 then bif room (l40.length+1) 8 then (qGi a1 a4 a6 v36 n) (w64 (x38+1)) (l39++[w64 (a6.Chip*v44)]) (l40++[w64 (a6.Dust*v44)]) else none else none else some (l39,l40)
def qHt (a1:List qM) (a2:List qH) (a3:List qK) (a4:Rect) (a5:Saw) (a6:Rates):Option (Line×Int):= (qJD a1 a2 a3 a4 a5 a6).bind λv7=> bif v7 !=0 then some ((Line.mk 0 0 0 [] [] [] []),v7) else (qAd a3 (w64 (a4.Y.B-a4.Y.A))).bind λv10=> (qFC a1 a2 a3 a4 a5 a6 v10 FUEL 0 []).bind λo34=> (UP a1).bind λv36=> (qGi a1 a4 a6 v36 FUEL 0 [] []).bind λo50=> some ((Line.mk (w64 (a4.X.B-a4.X.A)) a5.Kerf 1 v10.1 o34 o50.1 o50.2),0)
def BJ (x10:Int) (R:Int->Option (Int⊕Unit)) (x14:Bool):Option (Int⊕Unit):= bif x14 then some (Sum.inl 9) else R (w64 (x10+1))
def WW (a1:Line):Nat->Int->Option (Int⊕Unit)
 |0,_=>none
 |n+1,x10=> bif decide (x10<(a1.Sizes.length:Int)) then bif inb x10 a1.Sizes.length then bif decide ((a1.Sizes.getD x10.toNat dd)<1) then BJ x10 (WW a1 n) true else BJ x10 (WW a1 n) (decide ((a1.Sizes.getD x10.toNat dd)>2000)) else none else some (Sum.inr ())
def jZ (a1:Line) (x7:Bool):Option Int:= bif x7 then some 9 else bif decide ((a1.Sizes.length:Int)>32) then some 4 else (WW a1 FUEL 0).bind λu18=>Sum.elim (λv19=>some v19) (λo16=> some 0) u18
def OY (a1:Line):Option Int:= bif decide (a1.Len<0) then jZ a1 true else bif decide (a1.Len>2000) then jZ a1 true else bif decide (a1.Kerf<0) then jZ a1 true else bif decide (a1.Kerf>20) then jZ a1 true else bif decide (a1.Pitch<1) then jZ a1 true else jZ a1 (decide (a1.Pitch>2000))
def qBG (a1:Line) (a2:Int):Option Int:= some (imax 0 (w64 ((w64 (a1.Len-a2))+1)))
def OR (x5:Int) (R:Int->Option (Bool⊕Unit)) (x9:Bool):Option (Bool⊕Unit):= bif x9 then some (Sum.inl false) else R (w64 (x5+1))
def KL (a1:List (List Int)) (x2:Int):Nat->Int->Option (Bool⊕Unit)
 |0,_=>none
 |n+1,x5=> bif decide (x5<((a1.getD x2.toNat dd).length:Int)) then bif inb x5 ((a1.getD x2.toNat dd).length) then bif decide (((a1.getD x2.toNat dd).getD x5.toNat dd)<(-1125899906842624)) then OR x5 (KL a1 x2 n) true else OR x5 (KL a1 x2 n) (decide (((a1.getD x2.toNat dd).getD x5.toNat dd)>1125899906842624)) else none else some (Sum.inr ())
def IY (a1:List (List Int)):Nat->Int->Option (Bool⊕Unit)
 |0,_=>none
 |n+1,x2=> bif decide (x2<(a1.length:Int)) then bif inb x2 a1.length then (KL a1 x2 FUEL 0).bind λu13=>Sum.elim (λv14=>some (Sum.inl v14)) (λo11=> (IY a1 n) (w64 (x2+1))) u13 else none else some (Sum.inr ())
def AI (a1:List (List Int)):Option Bool:= (IY a1 FUEL 0).bind λu17=>Sum.elim (λv18=>some v18) (λo15=> some true) u17
def IJ (a1:Line):Nat->Int->Option (Int⊕Unit)
 |0,_=>none
 |n+1,x9=> bif decide (x9<(a1.Gain.length:Int)) then bif inb x9 a1.Gain.length then bif inb x9 a1.Sizes.length then (qBG a1 (a1.Sizes.getD x9.toNat dd)).bind λv13=> bif ((a1.Gain.getD x9.toNat dd).length:Int) !=v13 then some (Sum.inl 19) else (IJ a1 n) (w64 (x9+1)) else none else none else some (Sum.inr ())
def OB (x25:Bool):Option Int:= bif x25 then some 9 else some 0
def GA (a1:Line) (x7:Bool):Option Int:= bif x7 then some 19 else (IJ a1 FUEL 0).bind λu18=>Sum.elim (λv19=>some v19) (λo16=> (AI a1.Gain).bind λv20=> bif !v20 then OB true else (AI [a1.Chip,a1.Dust]).bind λv23=> OB (!v23)) u18
def qDz (a1:Line):Option Int:= (OY a1).bind λv2=> bif v2 !=0 then some v2 else bif (a1.Gain.length:Int) !=(a1.Sizes.length:Int) then GA a1 true else bif (a1.Chip.length:Int) !=a1.Len then GA a1 true else GA a1 ((a1.Dust.length:Int) !=a1.Len)
def qA6 (a1:List Int):Nat->(List Int)->Int->Option (List Int)
 |0,_,_=>none
 |n+1,l3,x4=> bif decide (x4<(a1.length:Int)) then bif inb x4 a1.length then bif inb x4 l3.length then bif inb (w64 (x4+1)) l3.length then (qA6 a1 n) (l3.set ((w64 (x4+1)).toNat) (w64 ((l3.getD x4.toNat dd)+(a1.getD x4.toNat dd)))) (w64 (x4+1)) else none else none else none else some l3
def qAh (a1:List Int):Option (List Int):= bif mkOk (w64 ((a1.length:Int)+1)) 8 then (qA6 a1 FUEL (List.replicate ((w64 ((a1.length:Int)+1)).toNat) 0) 0).bind λo10=> some o10 else none
def MP (a1:Line) (a2:Int):Option Int:= bif a2==a1.Len then some (-1) else some (imin (w64 (a2+a1.Kerf)) a1.Len)
def GI (x5:Int) (R:Int->qD->Option qD) (x26:qD):Option qD:= R (w64 (x5+1)) x26
def IR (x5:Int) (x6:qD) (R:Int->qD->Option qD) (x22:qD) (x24:Bool):Option qD:= bif x24 then GI x5 R x22 else GI x5 R x6
def ON (x5:Int) (x6:qD) (R:Int->qD->Option qD) (x22:qD):Option qD:= bif ((x6.piece.Size==(-1))&&((x6.piece.At==(-1))&&true)) then IR x5 x6 R x22 true else IR x5 x6 R x22 (decide (x22.value>x6.value))
def IH (a1:Line) (a2:Int) (a3:List Int) (a4:List qD) (x5:Int) (x6:qD) (R:Int->qD->Option qD) (x12:Bool):Option qD:= bif x12 then GI x5 R x6 else bif inb x5 a1.Gain.length then bif inb a2 ((a1.Gain.getD x5.toNat dd).length) then (MP a1 (w64 (a2+(a1.Sizes.getD x5.toNat dd)))).bind λv16=> bif decide (v16≥0) then bif inb v16 a3.length then bif inb (w64 (a2+(a1.Sizes.getD x5.toNat dd))) a3.length then bif inb v16 a4.length then ON x5 x6 R (qD.mk (zX.mk x5 a2) (w64 (((a1.Gain.getD x5.toNat dd).getD a2.toNat dd)+(w64 ((w64 ((a3.getD v16.toNat dd)-(a3.getD (w64 (a2+(a1.Sizes.getD x5.toNat dd))).toNat dd)))+((a4.getD v16.toNat dd).value)))))) else none else none else none else ON x5 x6 R (qD.mk (zX.mk x5 a2) ((a1.Gain.getD x5.toNat dd).getD a2.toNat dd))
 else none else none
def yO (a1:Line) (a2:Int) (a3:List Int) (a4:List qD):Nat->Int->qD->Option qD
 |0,_,_=>none
 |n+1,x5,x6=> bif decide (x5<(a1.Sizes.length:Int)) then bif inb x5 a1.Sizes.length then bif decide ((w64 (a2+(a1.Sizes.getD x5.toNat dd)))>a1.Len) then IH a1 a2 a3 a4 x5 x6 (yO a1 a2 a3 a4 n) true else bif inb x5 a1.Gain.length then bif inb a2 ((a1.Gain.getD x5.toNat dd).length) then IH a1 a2 a3 a4 x5 x6 (yO a1 a2 a3 a4 n) (decide (((a1.Gain.getD x5.toNat dd).getD a2.toNat dd)<0)) else none else none else none else some x6
def qDD (a1:Line) (a2:Int) (a3:List Int) (a4:List qD):Option qD:= (yO a1 a2 a3 a4 FUEL 0 (qD.mk (zX.mk (-1) (-1)) 0)).bind λo28=> some o28
def LR (a1:Line) (x20:Int) (R:Int->qD->Option qD) (x31:qD):Option qD:= R (w64 (x20+a1.Pitch)) x31
def FK (a1:Line) (v2:(List Int)) (v4:(List Int)) (l8:List qD) (x9:Int) (v11:qD) (x20:Int) (x21:qD) (R:Int->qD->Option qD) (x29:Bool):Option qD:= bif x29 then LR a1 x20 R (qD.mk (((l8.set x9.toNat v11).getD x20.toNat dd).piece) (w64 ((((l8.set x9.toNat v11).getD x20.toNat dd).value)+(w64 ((w64 ((w64 ((v2.getD ((w64 (x20-a1.Kerf)).toNat) dd)-(v2.getD x9.toNat dd)))+(v4.getD x20.toNat dd)))-(v4.getD ((w64 (x20-a1.Kerf)).toNat) dd)))))) else LR a1 x20 R x21
def ZL (a1:Line) (v2:(List Int)) (v4:(List Int)) (l8:List qD) (x9:Int) (v11:qD):Nat->Int->qD->Option qD
 |0,_,_=>none
 |n+1,x20,x21=> bif decide (x20<=a1.Len) then bif inb x20 l8.length then bif inb (w64 (x20-a1.Kerf)) v2.length then bif inb x9 v2.length then bif inb x20 v4.length then bif inb (w64 (x20-a1.Kerf)) v4.length then bif !((((((l8.set x9.toNat v11).getD x20.toNat dd).piece).Size)==(-1))&&((((((l8.set x9.toNat v11).getD x20.toNat dd).piece).At)==(-1))&&true)) then FK a1 v2 v4 l8 x9 v11 x20 x21 (ZL a1 v2 v4 l8 x9 v11 n) (decide ((w64 ((((l8.set x9.toNat v11).getD x20.toNat dd).value)+(w64 ((w64 ((w64 ((v2.getD ((w64 (x20-a1.Kerf)).toNat) dd)-(v2.getD x9.toNat dd)))+(v4.getD x20.toNat dd)))-(v4.getD ((w64 (x20-a1.Kerf)).toNat) dd)))))>x21.value)) else FK a1 v2 v4 l8 x9 v11 x20 x21 (ZL a1 v2 v4 l8 x9 v11 n) false
 else none else none else none else none else none else some x21
def FB (a1:Line) (v2:(List Int)) (v4:(List Int)) (l7:List qD) (l8:List qD) (x9:Int) (R:(List qD)->(List qD)->Int->Option (List qD)) (v11:qD) (x19:qD):Option (List qD):= (ZL a1 v2 v4 l8 x9 v11 FUEL (w64 ((w64 (x9+a1.Pitch))+a1.Kerf)) x19).bind λo33=> bif inb x9 l7.length then R (l7.set x9.toNat o33) (l8.set x9.toNat v11) (w64 (x9-1)) else none
def NP (a1:Line) (v2:(List Int)) (v4:(List Int)) (l7:List qD) (l8:List qD) (x9:Int) (R:(List qD)->(List qD)->Int->Option (List qD)) (v11:qD) (x17:Bool):Option (List qD):= bif x17 then FB a1 v2 v4 l7 l8 x9 R v11 ((l8.set x9.toNat v11).getD x9.toNat dd) else FB a1 v2 v4 l7 l8 x9 R v11 (qD.mk (zX.mk (-1) (-1)) (w64 ((v2.getD a1.Len.toNat dd)-(v2.getD x9.toNat dd))))
def ZK (a1:Line) (v2:(List Int)) (v4:(List Int)):Nat->(List qD)->(List qD)->Int->Option (List qD)
 |0,_,_,_=>none
 |n+1,l7,l8,x9=> bif decide (x9≥0) then (qDD a1 x9 v4 l7).bind λv11=> bif inb x9 l8.length then bif inb a1.Len v2.length then bif inb x9 v2.length then bif !((((((l8.set x9.toNat v11).getD x9.toNat dd).piece).Size)==(-1))&&((((((l8.set x9.toNat v11).getD x9.toNat dd).piece).At)==(-1))&&true)) then NP a1 v2 v4 l7 l8 x9 (ZK a1 v2 v4 n) v11 (decide ((((l8.set x9.toNat v11).getD x9.toNat dd).value)>(w64 ((v2.getD a1.Len.toNat dd)-(v2.getD x9.toNat dd))))) else NP a1 v2 v4 l7 l8 x9 (ZK a1 v2 v4 n) v11 false else none else none else none else some l7
def qAM (a1:Line):Option (List qD):= (qAh a1.Chip).bind λv2=> (qAh a1.Dust).bind λv4=> bif mkOk (w64 (a1.Len+1)) 24 then (ZK a1 v2 v4 FUEL (List.replicate ((w64 (a1.Len+1)).toNat) (qD.mk (zX.mk 0 0) 0)) (List.replicate ((w64 (a1.Len+1)).toNat) (qD.mk (zX.mk 0 0) 0)) a1.Len).bind λo37=> some o37 else none
def qAG (a1:Line) (v5:(List qD)):Nat->(List zX)->Int->Option (List zX)
 |0,_,_=>none
 |n+1,l7,x8=> bif decide (x8≥0) then bif inb x8 v5.length then bif (((((v5.getD x8.toNat dd).piece).Size)==(-1))&&(((((v5.getD x8.toNat dd).piece).At)==(-1))&&true)) then some l7 else bif room (l7.length+1) 16 then bif inb (((v5.getD x8.toNat dd).piece).Size) a1.Sizes.length then (MP a1 (w64 ((((v5.getD x8.toNat dd).piece).At)+(a1.Sizes.getD (((v5.getD x8.toNat dd).piece).Size).toNat dd)))).bind λv14=> (qAG a1 v5 n) (l7++[(v5.getD x8.toNat dd).piece]) v14 else none else none else none else some l7
def yT (a1:Line):Option ((List zX)×Int×Int):= (qDz a1).bind λv2=> bif v2 !=0 then some ([],0,v2) else (qAM a1).bind λv5=> (qAG a1 v5 FUEL [] 0).bind λo17=> bif inb 0 v5.length then some (o17,(v5.getD ((0:Int).toNat) dd).value,0) else none
def FD (a1:List Node):Option (List Node):= bif room a1.length 16 then some a1 else none
def qAs (a1:List (List Node)) (a2:List Node):Option ((List (List Node))×(List (List Node))):= (FD a2).bind λv3=> bif room (a1.length+1) 24 then some ((a1++[v3]),(a1++[v3])) else none
def IW (x3:Bool):Option Bool:= some x3
def qDB (a1:Int):Option Bool:= bif a1==2 then IW true else IW (a1==3)
def RA (x2:Int) (R:Int->Option (Bool⊕Unit)) (x7:Bool):Option (Bool⊕Unit):= bif x7 then some (Sum.inl false) else R (w64 (x2+1))
def ZF (a1:Rect):Nat->Int->Option (Bool⊕Unit)
 |0,_=>none
 |n+1,x2=> bif decide (x2<2) then bif inb x2 2 then bif decide ((([a1.X.A,a1.X.B,a1.Y.A,a1.Y.B]:List Int).getD (x2.toNat*2+0) 0)<(-600)) then RA x2 (ZF a1 n) true else bif decide ((([a1.X.A,a1.X.B,a1.Y.A,a1.Y.B]:List Int).getD (x2.toNat*2+1) 0)>600) then RA x2 (ZF a1 n) true else RA x2 (ZF a1 n) (decide ((([a1.X.A,a1.X.B,a1.Y.A,a1.Y.B]:List Int).getD (x2.toNat*2+0) 0)≥(([a1.X.A,a1.X.B,a1.Y.A,a1.Y.B]:List Int).getD (x2.toNat*2+1) 0))) else none else some (Sum.inr ())
def CL (a1:Rect):Option Bool:= (ZF a1 FUEL 0).bind λu11=>Sum.elim (λv12=>some v12) (λo9=> some true) u11
def qDO (a1:Rect) (a2:Int):Option Span:= bif a2==2 then some a1.X else some a1.Y
def JF (a1:List Node) (a2:Int) (a3:List Node):Option (Int×(List Node)):= bif decide ((w64 (a2+(a1.length:Int)))<=127) then bif room (a3.length+a1.length) 16 then some (w64 (a2+(a1.length:Int)),(a3++a1)) else none else some (w64 (a2+(a1.length:Int)),a3)
def qBP (a5:List (List Node)) (x21:Int) (R:Int->Bool->Int->(List Node)->Int->Option (((List Node)×Int)⊕(Bool×(List Node)×Int))) (x40:Int) (x41:Bool) (l42:List Node) (x43:Int):Option (((List Node)×Int)⊕(Bool×(List Node)×Int)):= bif inb x21 a5.length then (JF (a5.getD x21.toNat dd) x43 l42).bind λv45=> R x40 x41 (w64 (x21+1)) v45.2 v45.1 else none
def qCo (a2:Int) (a3:Int) (a4:List Span) (a5:List (List Node)) (v17:Span) (x19:Int) (x20:Bool) (x21:Int) (R:Int->Bool->Int->(List Node)->Int->Option (((List Node)×Int)⊕(Bool×(List Node)×Int))) (l35:List Node) (x36:Int):Option (((List Node)×Int)⊕(Bool×(List Node)×Int)):= bif decide (((a4.getD x21.toNat dd).B)<v17.B) then (JF [(Node.mk a2 ((a4.getD x21.toNat dd).B))] x36 l35).bind λv38=> qBP a5 x21 R (imin (w64 (((a4.getD x21.toNat dd).B)+a3)) v17.B) x20 v38.2 v38.1 else qBP a5 x21 R x19 true l35 x36
def ML (a2:Int) (a3:Int) (a4:List Span) (a5:List (List Node)) (v17:Span) (x19:Int) (x20:Bool) (x21:Int) (l22:List Node) (x23:Int) (R:Int->Bool->Int->(List Node)->Int->Option (((List Node)×Int)⊕(Bool×(List Node)×Int))) (x29:Bool):Option (((List Node)×Int)⊕(Bool×(List Node)×Int)):= bif x29 then some (Sum.inl ([],11)) else bif decide (((a4.getD x21.toNat dd).B)>v17.B) then some (Sum.inl ([],20)) else bif decide (((a4.getD x21.toNat dd).A)>x19) then (JF [(Node.mk a2 (w64 (((a4.getD x21.toNat dd).A)-a3))),(Node.mk 0 0)] x23 l22).bind λv33=> qCo a2 a3 a4 a5 v17 x19 x20 x21 R v33.2 v33.1 else qCo a2 a3 a4 a5 v17 x19 x20 x21 R l22 x23
def ZG (a2:Int) (a3:Int) (a4:List Span) (a5:List (List Node)) (v17:Span):Nat->Int->Bool->Int->(List Node)->Int->Option (((List Node)×Int)⊕(Bool×(List Node)×Int))
 |0,_,_,_,_,_=>none
 |n+1,x19,x20,x21,l22,x23=> bif decide (x21<(a4.length:Int)) then bif inb x21 a4.length then bif decide (((a4.getD x21.toNat dd).A)≥((a4.getD x21.toNat dd).B)) then some (Sum.inl ([],19)) else bif x20 then ML a2 a3 a4 a5 v17 x19 x20 x21 l22 x23 (ZG a2 a3 a4 a5 v17 n) true else bif ((a4.getD x21.toNat dd).A) !=x19 then ML a2 a3 a4 a5 v17 x19 x20 x21 l22 x23 (ZG a2 a3 a4 a5 v17 n) (decide (((a4.getD x21.toNat dd).A)<(w64 ((w64 (x19+a3))+1)))) else ML a2 a3 a4 a5 v17 x19 x20 x21 l22 x23 (ZG a2 a3 a4 a5 v17 n) false else none else some (Sum.inr (x20,l22,x23))
def qBK (x57:Int) (l58:List Node):Option ((List Node)×Int):= bif decide (x57>127) then some ([],4) else some (l58,0)
def qCr (a1:Rect) (a2:Int) (a3:Int) (a4:List Span) (a5:List (List Node)) (x15:Bool):Option ((List Node)×Int):= bif x15 then some ([],9) else (qDO a1 a2).bind λv17=> (ZG a2 a3 a4 a5 v17 FUEL v17.A false 0 [] 0).bind λu52=>Sum.elim (λv53=>some v53) (λo50=> bif !o50.1 then (JF [(Node.mk 0 0)] o50.2.2 o50.2.1).bind λv55=> qBK v55.1 v55.2 else qBK o50.2.2 o50.2.1) u52
def qB0 (a1:Rect) (a2:Int) (a3:Int) (a4:List Span) (a5:List (List Node)) (x12:Bool):Option ((List Node)×Int):= bif x12 then some ([],19) else bif decide (a3<0) then qCr a1 a2 a3 a4 a5 true else qCr a1 a2 a3 a4 a5 (decide (a3>20))
def XS (a1:Rect) (a2:Int) (a3:Int) (a4:List Span) (a5:List (List Node)):Option ((List Node)×Int):= (qDB a2).bind λv6=> bif !v6 then some ([],10) else (CL a1).bind λv9=> bif !v9 then qB0 a1 a2 a3 a4 a5 true else qB0 a1 a2 a3 a4 a5 ((a4.length:Int) !=(a5.length:Int))
def qA1 (a4:Rect) (v10:(List zX)×Int×Int) (v13:(List Int)×(List Int)):Nat->(List Span)->(List (List Node))->Int->Option ((List Span)×(List (List Node)))
 |0,_,_,_=>none
 |n+1,l15,l16,x17=> bif decide (x17<(v10.1.length:Int)) then bif inb x17 v10.1.length then bif inb ((v10.1.getD x17.toNat dd).Size) v13.1.length then (qC8 a4 ((v10.1.getD x17.toNat dd).At) (w64 (((v10.1.getD x17.toNat dd).At)+(v13.1.getD (((v10.1.getD x17.toNat dd).Size).toNat) dd)))).bind λv21=> bif room (l15.length+1) 16 then bif inb ((v10.1.getD x17.toNat dd).Size) v13.2.length then (qAs l16 [(Node.mk 1 (v13.2.getD (((v10.1.getD x17.toNat dd).Size).toNat) dd))]).bind λv25=> (qA1 a4 v10 v13 n) (l15++[v21.X]) v25.2 (w64 (x17+1)) else none else none else none else none else some (l15,l16)
def wV (a1:List qM) (a2:List qH) (a3:List qK) (a4:Rect) (a5:Saw) (a6:Rates):Option ((List Node)×Int×Int):= (qHt a1 a2 a3 a4 a5 a6).bind λv7=> bif v7.2 !=0 then some ([],0,v7.2) else (yT (Line.mk v7.1.Len v7.1.Kerf v7.1.Pitch v7.1.Sizes v7.1.Gain v7.1.Chip v7.1.Dust)).bind λv10=> bif v10.2.2 !=0 then some ([],0,v10.2.2) else (qAd a3 (w64 (a4.Y.B-a4.Y.A))).bind λv13=> (qA1 a4 v10 v13 FUEL [] [] 0).bind λo29=> (XS a4 2 a5.Kerf o29.1 o29.2).bind λv31=> bif v31.2 !=0 then some ([],0,v31.2) else some (v31.1,v10.2.1,0)
def qAV (a1:Node):Option Bool:= some (a1.Kind==1)
def XN (a1:List Node):Nat->Int->Option (Int⊕Unit)
 |0,_=>none
 |n+1,x2=> bif decide (x2<(a1.length:Int)) then bif inb x2 a1.length then (qAV (a1.getD x2.toNat dd)).bind λv5=> bif v5 then some (Sum.inl x2) else (XN a1 n) (w64 (x2+1)) else none else some (Sum.inr ())
def TD (a1:List Node):Option Int:= (XN a1 FUEL 0).bind λu10=>Sum.elim (λv11=>some v11) (λo8=> some (-1)) u10
def XO (a1:List Node):Option Bool:= (TD a1).bind λv2=> some (decide (v2≥0))
def AM (a1:List Node):Option Bool:= (XO a1).bind λv2=> some v2
def TE (a1:List qM) (a2:Rect):Option Int:= (UP a1).bind λv3=> (qAI a1 (Box.mk a2.X a2.Y (Span.mk 0 v3))).bind λv5=> some v5
def UH (l14:List Int) (l15:List (List Node)) (x16:Int) (R:(List Int)->(List (List Node))->Int->Option ((List Int)×(List (List Node)))) (x30:Int) (l31:List Node):Option ((List Int)×(List (List Node))):= bif room (l14.length+1) 8 then bif room (l15.length+1) 24 then R (l14++[x30]) (l15++[l31]) (w64 (x16+1)) else none else none
def qAN (l14:List Int) (l15:List (List Node)) (x16:Int) (R:(List Int)->(List (List Node))->Int->Option ((List Int)×(List (List Node)))) (v22:(List Node)×Int×Int) (x27:Bool):Option ((List Int)×(List (List Node))):= bif x27 then UH l14 l15 x16 R v22.2.1 v22.1 else UH l14 l15 x16 R (-1) ([]:List Node)
def wA (a1:List qM) (a2:List qH) (a3:List qK) (a4:Rect) (a5:Saw) (a6:Rates) (v7:(List Int)) (x10:Int):Nat->(List Int)->(List (List Node))->Int->Option ((List Int)×(List (List Node)))
 |0,_,_,_=>none
 |n+1,l14,l15,x16=> bif decide ((w64 (x16+(v7.getD x10.toNat dd)))<=(w64 (a4.Y.B-a4.Y.A))) then bif nz a5.Pitch then bif (Int.tmod x16 a5.Pitch)==0 then (HM a4 x16 (w64 (x16+(v7.getD x10.toNat dd)))).bind λv20=> (wV a1 a2 a3 v20 a5 a6).bind λv22=> bif v22.2.2==0 then (AM v22.1).bind λv25=> qAN l14 l15 x16 (wA a1 a2 a3 a4 a5 a6 v7 x10 n) v22 v25 else qAN l14 l15 x16 (wA a1 a2 a3 a4 a5 a6 v7 x10 n) v22 false else UH l14 l15 x16 (wA a1 a2 a3 a4 a5 a6 v7 x10 n) (-1) ([]:List Node) else none else some (l14,l15)
def ZT (a1:List qM) (a2:List qH) (a3:List qK) (a4:Rect) (a5:Saw) (a6:Rates) (v7:(List Int)):Nat->(List (List (List Node)))->Int->(List (List Int))->Option ((List (List (List Node)))×(List (List Int)))
 |0,_,_,_=>none
 |n+1,l9,x10,l11=> bif decide (x10<(v7.length:Int)) then bif inb x10 v7.length then (wA a1 a2 a3 a4 a5 a6 v7 x10 FUEL [] [] 0).bind λo36=> bif room (l11.length+1) 24 then bif room (l9.length+1) 24 then (ZT a1 a2 a3 a4 a5 a6 v7 n) (l9++[o36.2]) (w64 (x10+1)) (l11++[o36.1]) else none else none else none else some (l9,l11)
def qBm (a1:List qM) (a4:Rect) (a6:Rates):Nat->Int->(List Int)->(List Int)->Option ((List Int)×(List Int))
 |0,_,_,_=>none
 |n+1,x44,l45,l46=> bif decide (x44<(w64 (a4.Y.B-a4.Y.A))) then (HM a4 x44 (w64 (x44+1))).bind λv48=> (TE a1 v48).bind λv50=> bif room (l45.length+1) 8 then bif room (l46.length+1) 8 then (qBm a1 a4 a6 n) (w64 (x44+1)) (l45++[w64 (a6.Chip*v50)]) (l46++[w64 (a6.Dust*v50)]) else none else none else some (l45,l46)
def VE (a1:List qM) (a2:List qH) (a3:List qK) (a4:Rect) (a5:Saw) (a6:Rates):Option (Line×(List (List (List Node)))):= (qBt a3).bind λv7=> (ZT a1 a2 a3 a4 a5 a6 v7 FUEL [] 0 []).bind λo42=> (qBm a1 a4 a6 FUEL 0 [] []).bind λo56=> some ((Line.mk (w64 (a4.Y.B-a4.Y.A)) a5.Kerf 1 v7 o42.2 o56.1 o56.2),o42.1)
def CO (a1:List Node) (a2:List (List Node)):Option ((List (List Node))×(List (List Node))):= bif room (a2.length+1) 24 then some ((a2++[a1]),(a2++[a1])) else none
def qA8 (v2:qG):Nat->Int->Int->Option Int
 |0,_,_=>none
 |n+1,x4,x5=> bif decide (x5<(v2.Rows.length:Int)) then bif inb x5 v2.Rows.length then (qBY (v2.Rows.getD x5.toNat dd)).bind λv8=> (qA8 v2 n) (w64 (x4+v8)) (w64 (x5+1)) else none else some x4
def qFR (a1:qG):Option Int:= (ZA a1).bind λv2=> (qA8 v2 FUEL 0 0).bind λo11=> some (w64 (10*o11))
def qAQ (v2:(List qM)):Nat->Int->Int->Option Int
 |0,_,_=>none
 |n+1,x4,x5=> bif decide (x5<(v2.length:Int)) then bif inb x5 v2.length then (qFR ((v2.getD x5.toNat dd).Sec)).bind λv8=> (qAQ v2 n) (w64 (x4+(w64 (((v2.getD x5.toNat dd).Len)*v8)))) (w64 (x5+1)) else none else some x4
def TY (a1:List qM):Option Int:= (DX a1).bind λv2=> (qAQ v2 FUEL 0 0).bind λo11=> some o11
def UX (a4:Rect) (v10:Line×(List (List (List Node)))) (v12:(List zX)×Int×Int):Nat->(List Span)->(List (List Node))->Int->Option ((List Span)×(List (List Node)))
 |0,_,_,_=>none
 |n+1,l15,l16,x17=> bif decide (x17<(v12.1.length:Int)) then bif inb x17 v12.1.length then bif inb ((v12.1.getD x17.toNat dd).Size) v10.1.Sizes.length then (HM a4 ((v12.1.getD x17.toNat dd).At) (w64 (((v12.1.getD x17.toNat dd).At)+(v10.1.Sizes.getD (((v12.1.getD x17.toNat dd).Size).toNat) dd)))).bind λv21=> bif room (l15.length+1) 16 then bif inb ((v12.1.getD x17.toNat dd).Size) v10.2.length then bif inb ((v12.1.getD x17.toNat dd).At) ((v10.2.getD (((v12.1.getD x17.toNat dd).Size).toNat) dd).length) then (CO ((v10.2.getD (((v12.1.getD x17.toNat dd).Size).toNat) dd).getD ((v12.1.getD x17.toNat dd).At).toNat dd) l16).bind λv26=> (UX a4 v10 v12 n) (l15++[v21.Y]) v26.2 (w64 (x17+1)) else none else none
 else none else none else none else some (l15,l16)
def VF (a1:List qM) (a2:List qH) (a3:List qK) (a4:Rect) (a5:Saw) (a6:Rates):Option (Pattern×Int×Int):= (MQ a1 a2 a3 a4 a5 a6).bind λv7=> bif v7 !=0 then some ((Pattern.mk (Rect.mk (Span.mk 0 0) (Span.mk 0 0)) []),0,v7) else (VE a1 a2 a3 a4 a5 a6).bind λv10=> (yT (Line.mk v10.1.Len v10.1.Kerf v10.1.Pitch v10.1.Sizes v10.1.Gain v10.1.Chip v10.1.Dust)).bind λv12=> bif v12.2.2 !=0 then some ((Pattern.mk (Rect.mk (Span.mk 0 0) (Span.mk 0 0)) []),0,v12.2.2) else (UX a4 v10 v12 FUEL [] [] 0).bind λo30=> (XS a4 3 a5.Kerf o30.1 o30.2).bind λv32=> bif v32.2 !=0 then some ((Pattern.mk (Rect.mk (Span.mk 0 0) (Span.mk 0 0)) []),0,13) else (TY a1).bind λv35=> (TE a1 a4).bind λv37=> some ((Pattern.mk a4 v32.1),w64 (v12.2.1+(w64 (a6.Chip*(w64 (v35-v37))))),0)
def JN (a1:Scan) (a2:List qK) (a3:Saw) (a4:Rates) (a5:Int) (a6:Int):Nat->(List qP)->Int->Option (((List qP)×Int)⊕(List qP))
 |0,_,_=>none
 |n+1,l7,x8=> bif decide (x8<4) then (jT a1 x8 a5 a6).bind λv10=> bif v10.2.2 !=0 then some (Sum.inl ([],v10.2.2)) else (HQ v10.1).bind λv13=> (VF v10.1 v10.2.1 a2 v13 a3 a4).bind λv15=> bif v15.2.2 !=0 then some (Sum.inl ([],v15.2.2)) else bif room (l7.length+1) 72 then (JN a1 a2 a3 a4 a5 a6 n) (l7++[(qP.mk x8 v15.1 v15.2.1)]) (w64 (x8+1)) else none else some (Sum.inr l7)
def VC (a1:Scan) (a2:List qK) (a3:Saw) (a4:Rates) (a5:Int) (a6:Int):Option ((List qP)×Int):= (JN a1 a2 a3 a4 a5 a6 FUEL [] 0).bind λu22=>Sum.elim (λv23=>some v23) (λo20=> some (o20,0)) u22
def qDP (x12:Int) (R:Int->qP->Option (Int×Int×Int×Int×Int×(List Node)×Int)) (x18:Int) (x19:Int) (x20:Int) (x21:Int) (x22:Int) (l23:List Node) (x24:Int):Option (Int×Int×Int×Int×Int×(List Node)×Int):= R (w64 (x12+1)) (qP.mk x18 (Pattern.mk (Rect.mk (Span.mk x19 x20) (Span.mk x21 x22)) l23) x24)
def GY (v7:(List qP)×Int):Nat->Int->qP->Option (Int×Int×Int×Int×Int×(List Node)×Int)
 |0,_,_=>none
 |n+1,x12,x13=> bif decide (x12<(((v7.1.length-(1:Int).toNat):Nat):Int)) then bif inb x12 (v7.1.length-(1:Int).toNat) then bif Nat.ble (((1:Int).toNat)+(v7.1.length-(1:Int).toNat)) v7.1.length then bif decide (((v7.1.getD (((1:Int).toNat)+x12.toNat) dd).Value)>x13.Value) then qDP x12 (GY v7 n) ((v7.1.getD (((1:Int).toNat)+x12.toNat) dd).Quarters) (((((v7.1.getD (((1:Int).toNat)+x12.toNat) dd).Pattern).Frame).X).A) (((((v7.1.getD (((1:Int).toNat)+x12.toNat) dd).Pattern).Frame).X).B) (((((v7.1.getD (((1:Int).toNat)+x12.toNat) dd).Pattern).Frame).Y).A) (((((v7.1.getD (((1:Int).toNat)+x12.toNat) dd).Pattern).Frame).Y).B) (((v7.1.getD (((1:Int).toNat)+x12.toNat) dd).Pattern).Nodes) ((v7.1.getD (((1:Int).toNat)+x12.toNat) dd).Value)
 else qDP x12 (GY v7 n) x13.Quarters x13.Pattern.Frame.X.A x13.Pattern.Frame.X.B x13.Pattern.Frame.Y.A x13.Pattern.Frame.Y.B x13.Pattern.Nodes x13.Value else none else none else some (x13.Quarters,x13.Pattern.Frame.X.A,x13.Pattern.Frame.X.B,x13.Pattern.Frame.Y.A,x13.Pattern.Frame.Y.B,x13.Pattern.Nodes,x13.Value)
def RD (a1:Scan) (a2:List qK) (a3:Saw) (a4:Rates) (a5:Int) (a6:Int):Option (qP×Int):= (VC a1 a2 a3 a4 a5 a6).bind λv7=> bif v7.2 !=0 then some ((qP.mk 0 (Pattern.mk (Rect.mk (Span.mk 0 0) (Span.mk 0 0)) []) 0),v7.2) else bif inb 0 v7.1.length then bif slOk 1 (v7.1.length:Int) v7.1.length then (GY v7 FUEL 0 (v7.1.getD ((0:Int).toNat) dd)).bind λo32=> some ((qP.mk o32.1 (Pattern.mk (Rect.mk (Span.mk o32.2.1 o32.2.2.1) (Span.mk o32.2.2.2.1 o32.2.2.2.2.1)) o32.2.2.2.2.2.1) o32.2.2.2.2.2.2),0) else none else none
def qB2 (x24:Int) (R:Int->Option (Bool⊕Unit)) (x28:Bool):Option (Bool⊕Unit):= bif x28 then some (Sum.inl false) else R (w64 (x24+1))
def US (v11:(List qP)×Int):Nat->Int->Option (Bool⊕Unit)
 |0,_=>none
 |n+1,x24=> bif decide (x24<(v11.1.length:Int)) then bif inb x24 v11.1.length then bif ((v11.1.getD x24.toNat dd).Quarters) !=x24 then qB2 x24 (US v11 n) true else qB2 x24 (US v11 n) (((v11.1.getD x24.toNat dd).Value) !=80000000) else none else some (Sum.inr ())
def wS (x46:Bool):Option Bool:= some x46
def WY (v3:(List qM)×(List qH)×Int) (v11:(List qP)×Int) (v17:qP×Int) (v19:qP×Int) (x22:Bool):Option Bool:= bif x22 then some false else (US v11 FUEL 0).bind λu32=>Sum.elim (λv33=>some v33) (λo30=> bif v3.2.2==0 then bif (v3.2.1.length:Int)==0 then bif inb 0 v3.1.length then bif ((v3.1.getD (0:Int).toNat dd).Len)==3000 then bif (((v3.1.getD (0:Int).toNat dd).Sec).Low)==(-6) then bif (((((v3.1.getD (0:Int).toNat dd).Sec).Rows).length:Nat):Int)==12 then bif inb 0 ((((v3.1.getD (0:Int).toNat dd).Sec).Rows).length) then bif (((((((v3.1.getD (0:Int).toNat dd).Sec).Rows).getD (0:Int).toNat dd).A)==(-30))&&(((((((v3.1.getD (0:Int).toNat dd).Sec).Rows).getD (0:Int).toNat dd).B)==30)&&true)) then bif v11.2==0 then
 bif v17.2==0 then bif v17.1.Quarters==0 then bif v17.1.Value==80000000 then wS (v19.2==3) else wS false else wS false else wS false else wS false else wS false else none else wS false else wS false else wS false else none else wS false else wS false) u32
def TB :Option Bool:= (GK).bind λv1=> (jT v1 1 200 2).bind λv3=> (GK).bind λv9=> (VC v9 ([(qK.mk (ByteArray.mk #[112,108,97,110,107]) 50 100 0 0 [3000] [80])]:List qK) (Saw.mk 4 0 10 1000) (Rates.mk 0 0 0) 200 2).bind λv11=> (GK).bind λv15=> (RD v15 ([(qK.mk (ByteArray.mk #[112,108,97,110,107]) 50 100 0 0 [3000] [80])]:List qK) (Saw.mk 4 0 10 1000) (Rates.mk 0 0 0) 200 2).bind λv17=> (RD (Scan.mk [] []) ([(qK.mk (ByteArray.mk #[112,108,97,110,107]) 50 100 0 0 [3000] [80])]:List qK) (Saw.mk 4 0 10 1000) (Rates.mk 0 0 0) 200 2).bind λv19=> bif (v3.1.length:Int) !=1 then WY v3 v11 v17 v19 true else WY v3 v11 v17 v19 ((v11.1.length:Int) !=4)
def WC (x2:Int) (R:Int->Option (Bool⊕Unit)) (x8:Bool):Option (Bool⊕Unit):= bif x8 then some (Sum.inl false) else R (w64 (x2+1))
def wM (a1:List qA):Nat->Int->Option (Bool⊕Unit)
 |0,_=>none
 |n+1,x2=> bif decide (x2<(a1.length:Int)) then bif inb x2 a1.length then bif decide (((a1.getD x2.toNat dd).X)<(-600)) then WC x2 (wM a1 n) true else bif decide (((a1.getD x2.toNat dd).X)>600) then WC x2 (wM a1 n) true else bif decide (((a1.getD x2.toNat dd).Y)<(-600)) then WC x2 (wM a1 n) true else WC x2 (wM a1 n) (decide (((a1.getD x2.toNat dd).Y)>600)) else none else some (Sum.inr ())
def QQ (a1:List qA):Option Bool:= (wM a1 FUEL 0).bind λu12=>Sum.elim (λv13=>some v13) (λo10=> some true) u12
def MY (x7:Int) (R:Int->Option (Int⊕Unit)) (x16:Bool):Option (Int⊕Unit):= bif x16 then some (Sum.inl 19) else R (w64 (x7+1))
def MW (a1:Ring) (x7:Int) (R:Int->Option (Int⊕Unit)) (x13:Bool):Option (Int⊕Unit):= bif x13 then some (Sum.inl 9) else bif !((a1.Read.getD x7.toNat dd).Ok) then MY x7 R (!(((((a1.Read.getD x7.toNat dd).P).X)==0)&&(((((a1.Read.getD x7.toNat dd).P).Y)==0)&&true))) else MY x7 R false
def yY (a1:Ring):Nat->Int->Option (Int⊕Unit)
 |0,_=>none
 |n+1,x7=> bif decide (x7<(a1.Read.length:Int)) then bif inb x7 a1.Read.length then bif (a1.Read.getD x7.toNat dd).Ok then (QQ [(a1.Read.getD x7.toNat dd).P]).bind λv11=> MW a1 x7 (yY a1 n) (!v11) else MW a1 x7 (yY a1 n) false else none else some (Sum.inr ())
def MH (a1:Ring) (x5:Bool):Option Int:= bif x5 then some 9 else (yY a1 FUEL 0).bind λu20=>Sum.elim (λv21=>some v21) (λo18=> some 0) u20
def XR (a1:Ring):Option Int:= bif decide ((a1.Read.length:Int)<8) then some 3 else bif decide ((a1.Read.length:Int)>32) then some 4 else bif decide (a1.Z<0) then MH a1 true else MH a1 (decide (a1.Z>20000))
def UF (x4:Bool):Option Bool:= some x4
def AB (a1:Box):Option Bool:= bif decide (a1.X.A≥a1.X.B) then UF true else bif decide (a1.Y.A≥a1.Y.B) then UF true else UF (decide (a1.Z.A≥a1.Z.B))
def qCN (x5:Bool):Option Bool:= some x5
def OM (a1:Span) (a2:Int) (a3:Int):Option Bool:= bif decide (a2<=a1.A) then qCN (decide (a1.B<=a3)) else qCN false
def PV (x10:Bool):Option Bool:= some x10
def NM (a1:Box):Option Bool:= (OM a1.X (-600) 600).bind λv2=> bif v2 then (OM a1.Y (-600) 600).bind λv5=> bif v5 then (OM a1.Z 0 20000).bind λv8=> PV v8 else PV false else PV false
def MB (a1:List qH) (x3:Int) (R:Int->Option (Int⊕Unit)) (x7:Bool):Option (Int⊕Unit):= bif x7 then some (Sum.inl 10) else bif inb x3 a1.length then (AB ((a1.getD x3.toNat dd).Box)).bind λv10=> bif v10 then some (Sum.inl 19) else (NM ((a1.getD x3.toNat dd).Box)).bind λv13=> bif !v13 then some (Sum.inl 9) else R (w64 (x3+1)) else none
def yW (a1:List qH):Nat->Int->Option (Int⊕Unit)
 |0,_=>none
 |n+1,x3=> bif decide (x3<(a1.length:Int)) then bif inb x3 a1.length then bif decide (((a1.getD x3.toNat dd).Kind)<1) then MB a1 x3 (yW a1 n) true else MB a1 x3 (yW a1 n) (decide (((a1.getD x3.toNat dd).Kind)>6)) else none else some (Sum.inr ())
def DR (a1:List qH):Option Int:= bif decide ((a1.length:Int)>64) then some 4 else (yW a1 FUEL 0).bind λu18=>Sum.elim (λv19=>some v19) (λo16=> some 0) u18
def JH (a1:Scan) (x5:Int) (R:Int->Int->Option (Int⊕Int)) (x15:Bool):Option (Int⊕Int):= bif x15 then some (Sum.inl 11) else bif inb 0 a1.Rings.length then bif ((((a1.Rings.getD x5.toNat dd).Read).length:Nat):Int) !=((((a1.Rings.getD (0:Int).toNat dd).Read).length:Nat):Int) then some (Sum.inl 19) else R ((a1.Rings.getD x5.toNat dd).Z) (w64 (x5+1)) else none
def wH (a1:Scan):Nat->Int->Int->Option (Int⊕Int)
 |0,_,_=>none
 |n+1,x4,x5=> bif decide (x5<(a1.Rings.length:Int)) then bif inb x5 a1.Rings.length then (XR (a1.Rings.getD x5.toNat dd)).bind λv8=> bif v8 !=0 then some (Sum.inl v8) else bif x5==0 then bif ((a1.Rings.getD x5.toNat dd).Z) !=0 then JH a1 x5 (wH a1 n) true else bif decide (x5>0) then JH a1 x5 (wH a1 n) (decide (((a1.Rings.getD x5.toNat dd).Z)<=x4)) else JH a1 x5 (wH a1 n) false else bif decide (x5>0) then JH a1 x5 (wH a1 n) (decide (((a1.Rings.getD x5.toNat dd).Z)<=x4)) else JH a1 x5 (wH a1 n) false else none else some (Sum.inr x4)
def KA (a1:Scan) (o20:Int):Nat->Int->Option (Int⊕Unit)
 |0,_=>none
 |n+1,x27=> bif decide (x27<(a1.Defects.length:Int)) then bif inb x27 a1.Defects.length then bif decide (((((a1.Defects.getD x27.toNat dd).Box).Z).B)>o20) then some (Sum.inl 9) else (KA a1 o20 n) (w64 (x27+1)) else none else some (Sum.inr ())
def DV (a1:Scan):Option Int:= bif decide ((a1.Rings.length:Int)<2) then some 3 else bif decide ((a1.Rings.length:Int)>24) then some 4 else (wH a1 FUEL 0 0).bind λu22=>Sum.elim (λv23=>some v23) (λo20=> (DR a1.Defects).bind λv24=> bif v24 !=0 then some v24 else (KA a1 o20 FUEL 0).bind λu33=>Sum.elim (λv34=>some v34) (λo31=> some 0) u33) u22
def TN (a1:Ring):Option Ring:= bif room (0+a1.Read.length) 24 then some (Ring.mk a1.Z (([]:List qL)++a1.Read)) else none
def JI (a1:Int):Option Int:= some (Int.tmod (w64 ((Int.tmod a1 4)+4)) 4)
def QP (a2:Int):Nat->Int->qA->Option qA
 |0,_,_=>none
 |n+1,x3,x4=> bif decide (x3<a2) then (QP a2 n) (w64 (x3+1)) (qA.mk (w64 (0-x4.Y)) x4.X) else some x4
def NW (a1:qA) (a2:Int):Option qA:= (QP a2 FUEL 0 a1).bind λo7=> some o7
def AV (x8:Int) (R:Int->(List qL)->Option (List qL)) (l17:List qL):Option (List qL):= R (w64 (x8+1)) l17
def WM (a2:Int):Nat->Int->(List qL)->Option (List qL)
 |0,_,_=>none
 |n+1,x8,l9=> bif decide (x8<(l9.length:Int)) then bif inb x8 l9.length then bif (l9.getD x8.toNat dd).Ok then (JI a2).bind λv13=> (NW ((l9.getD x8.toNat dd).P) v13).bind λv15=> AV x8 (WM a2 n) (l9.set x8.toNat (qL.mk v15 ((l9.getD x8.toNat dd).Ok))) else AV x8 (WM a2 n) l9 else none else some l9
def XJ (a1:Ring) (a2:Int):Option Ring:= (TN a1).bind λv3=> (XR a1).bind λv5=> bif v5 !=0 then some (Ring.mk v3.Z v3.Read) else (WM a2 FUEL 0 v3.Read).bind λo19=> some (Ring.mk v3.Z o19)
def qDV (a1:Box):Option Box:= some (Box.mk (Span.mk (w64 (0-a1.Y.B)) (w64 (0-a1.Y.A))) a1.X a1.Z)
def QZ (a1:List qH) (a2:Int) (x7:Int):Nat->Int->Int->Int->Int->Int->Int->Int->Option qH
 |0,_,_,_,_,_,_,_=>none
 |n+1,x10,x11,x12,x13,x14,x15,x16=> (JI a2).bind λv17=> bif decide (x10<v17) then (qDV (Box.mk (Span.mk x11 x12) (Span.mk x13 x14) (Span.mk x15 x16))).bind λv20=> (QZ a1 a2 x7 n) (w64 (x10+1)) v20.X.A v20.X.B v20.Y.A v20.Y.B v20.Z.A v20.Z.B else some (qH.mk ((a1.getD x7.toNat dd).Kind) (Box.mk (Span.mk x11 x12) (Span.mk x13 x14) (Span.mk x15 x16)))
def WJ (a1:List qH) (a2:Int):Nat->(List qH)->Int->Option (List qH)
 |0,_,_=>none
 |n+1,l6,x7=> bif decide (x7<(a1.length:Int)) then bif inb x7 a1.length then (QZ a1 a2 x7 FUEL 0 ((((a1.getD x7.toNat dd).Box).X).A) ((((a1.getD x7.toNat dd).Box).X).B) ((((a1.getD x7.toNat dd).Box).Y).A) ((((a1.getD x7.toNat dd).Box).Y).B) ((((a1.getD x7.toNat dd).Box).Z).A) ((((a1.getD x7.toNat dd).Box).Z).B)).bind λo23=> bif room (l6.length+1) 56 then (WJ a1 a2 n) (l6++[o23]) (w64 (x7+1)) else none else none else some l6
def CX (a1:List qH) (a2:Int):Option (List qH):= (DR a1).bind λv3=> bif v3 !=0 then some ([]:List qH) else (WJ a1 a2 FUEL [] 0).bind λo27=> some o27
def WI (a1:Scan) (a2:Int):Nat->Int->(List Ring)->Option (List Ring)
 |0,_,_=>none
 |n+1,x6,l7=> bif decide (x6<(a1.Rings.length:Int)) then bif inb x6 a1.Rings.length then (XJ (a1.Rings.getD x6.toNat dd) a2).bind λv13=> bif room (l7.length+1) 32 then (WI a1 a2 n) (w64 (x6+1)) (l7++[v13]) else none else none else some l7
def LZ (a1:Scan) (a2:Int):Option Scan:= (DV a1).bind λv3=> bif v3 !=0 then some a1 else (WI a1 a2 FUEL 0 []).bind λo17=> (CX a1.Defects a2).bind λv19=> some (Scan.mk o17 v19)
def AH (x8:Int) (R:Int->Option Int) (x12:Bool):Option Int:= bif x12 then R (w64 (x8+1)) else some x8
def jA (a1:Ring) (x4:Int):Nat->Int->Option Int
 |0,_=>none
 |n+1,x8=> bif decide (x8<(a1.Read.length:Int)) then bif nz (a1.Read.length:Int) then bif inb (Int.tmod (w64 (x4+x8)) (a1.Read.length:Int)) a1.Read.length then AH x8 (jA a1 x4 n) (!((a1.Read.getD (Int.tmod (w64 (x4+x8)) (a1.Read.length:Int)).toNat dd).Ok)) else none else none else AH x8 (jA a1 x4 n) false
def AL (x4:Int) (R:Int->Int->Int->Option (Int×Int)) (x17:Int) (x18:Int):Option (Int×Int):= R x17 x18 (w64 (x4+1))
def WL (a1:Ring):Nat->Int->Int->Int->Option (Int×Int)
 |0,_,_,_=>none
 |n+1,x2,x3,x4=> bif decide (x4<(a1.Read.length:Int)) then bif inb x4 a1.Read.length then bif (a1.Read.getD x4.toNat dd).Ok then AL x4 (WL a1 n) x2 x3 else (jA a1 x4 FUEL 0).bind λo15=> AL x4 (WL a1 n) (w64 (x2+1)) (imax x3 o15) else none else some (x2,x3)
def VR (a1:Ring):Option (Int×Int):= (WL a1 FUEL 0 0 0).bind λo21=> some (o21.1,o21.2)
def YO (a1:List qL) (a3:Int):Nat->Int->Option Int
 |0,_=>none
 |n+1,x5=> bif inb x5 a1.length then bif !((a1.getD x5.toNat dd).Ok) then bif nz (a1.length:Int) then (YO a1 a3 n) (Int.tmod (w64 ((w64 (x5+a3))+(a1.length:Int))) (a1.length:Int)) else none else some x5 else none
def QY (a1:List qL) (a2:Int) (a3:Int):Option Int:= bif nz (a1.length:Int) then (YO a1 a3 FUEL (Int.tmod (w64 ((w64 (a2+a3))+(a1.length:Int))) (a1.length:Int))).bind λo10=> some o10 else none
def XZ (x7:Bool):Option Bool:= some x7
def BC (a1:qA) (a2:qA) (a3:Int):Option Bool:= bif decide ((w64 (a1.X-a2.X))>a3) then XZ true else bif decide ((w64 (a2.X-a1.X))>a3) then XZ true else bif decide ((w64 (a1.Y-a2.Y))>a3) then XZ true else XZ (decide ((w64 (a2.Y-a1.Y))>a3))
def UW (x13:Int) (R:Int->(List qL)->Option (List qL)) (l32:List qL):Option (List qL):= R (w64 (x13+1)) l32
def MR (x13:Int) (l14:List qL) (R:Int->(List qL)->Option (List qL)) (x29:Bool):Option (List qL):= bif x29 then bif inb x13 l14.length then UW x13 R (l14.set x13.toNat (qL.mk (qA.mk 0 0) false)) else none else UW x13 R l14
def jR (a1:Ring) (a2:Int):Nat->Int->(List qL)->Option (List qL)
 |0,_,_=>none
 |n+1,x13,l14=> bif decide (x13<(a1.Read.length:Int)) then bif inb x13 a1.Read.length then bif !((a1.Read.getD x13.toNat dd).Ok) then UW x13 (jR a1 a2 n) l14 else (QY a1.Read x13 (-1)).bind λv18=> bif inb v18 a1.Read.length then (QY a1.Read x13 1).bind λv21=> bif inb v21 a1.Read.length then (BC ((a1.Read.getD x13.toNat dd).P) ((a1.Read.getD v18.toNat dd).P) a2).bind λv24=> bif v24 then (BC ((a1.Read.getD x13.toNat dd).P) ((a1.Read.getD v21.toNat dd).P) a2).bind λv27=> MR x13 l14 (jR a1 a2 n) v27 else MR x13 l14 (jR a1 a2 n) false else none else none else none else some l14
def UR (a1:Ring) (a2:Int) (v5:Ring) (x11:Bool):Option Ring:= bif x11 then some (Ring.mk v5.Z v5.Read) else (jR a1 a2 FUEL 0 v5.Read).bind λo34=> some (Ring.mk v5.Z o34)
def EG (a1:Ring) (a2:Int):Option Ring:= (VR a1).bind λv3=> (TN a1).bind λv5=> bif decide (a2<0) then UR a1 a2 v5 true else bif decide ((w64 ((a1.Read.length:Int)-v3.1))<2) then UR a1 a2 v5 true else (XR a1).bind λv9=> UR a1 a2 v5 (v9 !=0)
def MS (x5:Int):Option Int:= some x5
def DY (a1:Int) (a2:Int):Option Int:= bif nz a2 then bif decide ((w64 ((w64 (Int.tdiv a1 a2))*a2))>a1) then MS (w64 ((w64 (Int.tdiv a1 a2))-1)) else MS (w64 (Int.tdiv a1 a2)) else none
def BM (x13:Int) (R:(List qA)->Int->Option (List qA)) (l30:List qA):Option (List qA):= R l30 (w64 (x13+1))
def yA (a1:Ring):Nat->(List qA)->Int->Option (List qA)
 |0,_,_=>none
 |n+1,l12,x13=> bif decide (x13<(a1.Read.length:Int)) then bif inb x13 a1.Read.length then bif (a1.Read.getD x13.toNat dd).Ok then bif room (l12.length+1) 16 then BM x13 (yA a1 n) (l12++[(a1.Read.getD x13.toNat dd).P]) else none else (QY a1.Read x13 (-1)).bind λv18=> (QY a1.Read x13 1).bind λv20=> bif nz (a1.Read.length:Int) then bif inb v18 a1.Read.length then bif inb v20 a1.Read.length then (DY (w64 ((w64 ((((a1.Read.getD v20.toNat dd).P).X)-(((a1.Read.getD v18.toNat dd).P).X)))*(Int.tmod (w64 ((w64 (x13-v18))+(a1.Read.length:Int))) (a1.Read.length:Int)))) (Int.tmod (w64 ((w64 (v20-v18))+(a1.Read.length:Int))) (a1.Read.length:Int))).bind λv25=> (DY (w64 ((w64 ((((a1.Read.getD v20.toNat dd).P).Y)-(((a1.Read.getD v18.toNat dd).P).Y)))*(Int.tmod (w64 ((w64 (x13-v18))+(a1.Read.length:Int))) (a1.Read.length:Int)))) (Int.tmod (w64 ((w64 (v20-v18))+(a1.Read.length:Int))) (a1.Read.length:Int))).bind λv27=>
 bif room (l12.length+1) 16 then BM x13 (yA a1 n) (l12++[(qA.mk (w64 ((((a1.Read.getD v18.toNat dd).P).X)+v25)) (w64 ((((a1.Read.getD v18.toNat dd).P).Y)+v27)))]) else none else none else none else none else none else some l12
def PM (a1:Ring) (x10:Bool):Option ((List qA)×Int):= bif x10 then some ([],30) else (yA a1 FUEL [] 0).bind λo32=> some (o32,0)
def NJ (a1:Ring) (a2:Int):Option ((List qA)×Int):= (XR a1).bind λv3=> bif v3 !=0 then some ([],v3) else (VR a1).bind λv6=> bif decide ((w64 ((a1.Read.length:Int)-v6.1))<3) then PM a1 true else bif decide (v6.1>0) then PM a1 (decide (v6.2>a2)) else PM a1 false
def KD (a1:List qA):Nat->Int->Int->Option Int
 |0,_,_=>none
 |n+1,x7,x8=> bif decide (x8<(a1.length:Int)) then bif nz (a1.length:Int) then bif inb (Int.tmod (w64 (x8+1)) (a1.length:Int)) a1.length then bif inb x8 a1.length then (KD a1 n) (w64 ((w64 (x7+(w64 (((a1.getD x8.toNat dd).X)*((a1.getD (Int.tmod (w64 (x8+1)) (a1.length:Int)).toNat dd).Y)))))-(w64 (((a1.getD (Int.tmod (w64 (x8+1)) (a1.length:Int)).toNat dd).X)*((a1.getD x8.toNat dd).Y))))) (w64 (x8+1)) else none else none else none else some x7
def HD (a1:List qA) (x5:Bool):Option Int:= bif x5 then some 0 else (KD a1 FUEL 0 0).bind λo14=> some o14
def EI (a1:List qA):Option Int:= bif decide ((a1.length:Int)>32) then HD a1 true else (QQ a1).bind λv3=> HD a1 (!v3)
def EF (a1:List qA):Option Int:= bif decide ((a1.length:Int)<3) then some 3 else bif decide ((a1.length:Int)>32) then some 4 else (QQ a1).bind λv4=> bif !v4 then some 9 else (EI a1).bind λv7=> bif v7==0 then some 19 else some 0
def RH (x5:Bool):Option Bool:= some x5
def FF (a1:qA) (a2:qA):Option Bool:= bif decide (a1.X<a2.X) then RH true else bif a1.X==a2.X then RH (decide (a1.Y<a2.Y)) else RH false
def BX (x5:Int) (R:Int->Option Int) (x11:Bool):Option Int:= bif x11 then R (w64 (x5+1)) else some x5
def WB (a1:List qA) (l2:List qA) (x3:Int):Nat->Int->Option Int
 |0,_=>none
 |n+1,x5=> bif decide (x5<(l2.length:Int)) then bif inb x5 l2.length then bif inb x3 a1.length then (FF (l2.getD x5.toNat dd) (a1.getD x3.toNat dd)).bind λv9=> BX x5 (WB a1 l2 x3 n) v9 else none else none else BX x5 (WB a1 l2 x3 n) false
def NF (x3:Int) (R:(List qA)->Int->Option (List qA)) (l27:List qA):Option (List qA):= R l27 (w64 (x3+1))
def NG (a1:List qA) (l2:List qA) (x3:Int) (R:(List qA)->Int->Option (List qA)) (o14:Int) (x19:Bool):Option (List qA):= bif x19 then NF x3 R l2 else bif slOk 0 o14 l2.length then bif room (0+o14.toNat) 16 then bif inb x3 a1.length then bif room ((0+o14.toNat)+1) 16 then bif slOk o14 (l2.length:Int) l2.length then bif room (((0+o14.toNat)+1)+(l2.length-o14.toNat)) 16 then NF x3 R (((([]:List qA)++(l2.take o14.toNat))++[(a1.getD x3.toNat dd)])++((l2.drop o14.toNat).take (l2.length-o14.toNat))) else none else none else none else none else none else none
def yE (a1:List qA):Nat->(List qA)->Int->Option (List qA)
 |0,_,_=>none
 |n+1,l2,x3=> bif decide (x3<(a1.length:Int)) then (WB a1 l2 x3 FUEL 0).bind λo14=> bif decide (o14<(l2.length:Int)) then bif inb o14 l2.length then bif inb x3 a1.length then NG a1 l2 x3 (yE a1 n) o14 ((((l2.getD o14.toNat dd).X)==((a1.getD x3.toNat dd).X))&&((((l2.getD o14.toNat dd).Y)==((a1.getD x3.toNat dd).Y))&&true)) else none else none else NG a1 l2 x3 (yE a1 n) o14 false else some l2
def FP (a1:List qA):Option (List qA):= (yE a1 FUEL [] 0).bind λo29=> some o29
def EO (a1:qA) (a2:qA) (a3:qA):Option Int:= some (w64 ((w64 ((w64 (a2.X-a1.X))*(w64 (a3.Y-a1.Y))))-(w64 ((w64 (a2.Y-a1.Y))*(w64 (a3.X-a1.X))))))
def LU (l5:List qA) (R:(List qA)->Option (List qA)) (x12:Bool):Option (List qA):= bif x12 then bif slOk 0 (w64 ((l5.length:Int)-1)) l5.length then R (l5.take ((w64 ((l5.length:Int)-1)).toNat)) else none else some l5
def WZ (a1:List qA) (x3:Int):Nat->(List qA)->Option (List qA)
 |0,_=>none
 |n+1,l5=> bif decide ((l5.length:Int)>1) then bif inb (w64 ((l5.length:Int)-2)) l5.length then bif inb (w64 ((l5.length:Int)-1)) l5.length then bif inb x3 a1.length then (EO (l5.getD ((w64 ((l5.length:Int)-2)).toNat) dd) (l5.getD ((w64 ((l5.length:Int)-1)).toNat) dd) (a1.getD x3.toNat dd)).bind λv10=> LU l5 (WZ a1 x3 n) (decide (v10<=0)) else none else none else none else LU l5 (WZ a1 x3 n) false
def TS (a1:List qA):Nat->(List qA)->Int->Option (List qA)
 |0,_,_=>none
 |n+1,l2,x3=> bif decide (x3<(a1.length:Int)) then (WZ a1 x3 FUEL l2).bind λo16=> bif inb x3 a1.length then bif room (o16.length+1) 16 then (TS a1 n) (o16++[(a1.getD x3.toNat dd)]) (w64 (x3+1)) else none else none else some l2
def BD (a1:List qA):Option (List qA):= (TS a1 FUEL [] 0).bind λo21=> some o21
def YM (v7:(List qA)):Nat->(List qA)->Int->Option (List qA)
 |0,_,_=>none
 |n+1,l9,x10=> bif decide (x10≥0) then bif inb x10 v7.length then bif room (l9.length+1) 16 then (YM v7 n) (l9++[(v7.getD x10.toNat dd)]) (w64 (x10-1)) else none else none else some l9
def AJ (a1:List qA) (x5:Bool):Option (List qA):= bif x5 then some ([]:List qA) else (FP a1).bind λv7=> (YM v7 FUEL [] (w64 ((v7.length:Int)-1))).bind λo15=> (BD v7).bind λv17=> (BD o15).bind λv19=> bif decide ((w64 ((v17.length:Int)+(v19.length:Int)))<5) then some ([]:List qA) else bif slOk 0 (w64 ((v17.length:Int)-1)) v17.length then bif room (0+(w64 ((v17.length:Int)-1)).toNat) 16 then bif slOk 0 (w64 ((v19.length:Int)-1)) v19.length then bif room ((0+(w64 ((v17.length:Int)-1)).toNat)+(w64 ((v19.length:Int)-1)).toNat) 16 then some ((([]:List qA)++(v17.take ((w64 ((v17.length:Int)-1)).toNat)))++(v19.take ((w64 ((v19.length:Int)-1)).toNat))) else none else none else none else none
def qAx (a1:List qA):Option (List qA):= bif decide ((a1.length:Int)>32) then AJ a1 true else (QQ a1).bind λv3=> AJ a1 (!v3)
def MX (x5:Int):Option Int:= some x5
def DP (a1:Int) (a2:Int):Option Int:= bif nz a2 then bif decide ((w64 ((w64 (Int.tdiv a1 a2))*a2))>a1) then MX (w64 ((w64 (Int.tdiv a1 a2))-1)) else MX (w64 (Int.tdiv a1 a2)) else none
def PP (x5:Int) (R:Int->Int->Int->Option ((Int×Int)⊕(Int×Int))) (x17:Int) (x18:Int):Option ((Int×Int)⊕(Int×Int)):= R x17 x18 (w64 (x5+1))
def yB (a1:List qA) (a2:Int):Nat->Int->Int->Int->Option ((Int×Int)⊕(Int×Int))
 |0,_,_,_=>none
 |n+1,x3,x4,x5=> bif decide (x5<(a1.length:Int)) then bif inb x5 a1.length then bif nz (a1.length:Int) then bif inb (Int.tmod (w64 (x5+1)) (a1.length:Int)) a1.length then bif decide ((w64 (((a1.getD (Int.tmod (w64 (x5+1)) (a1.length:Int)).toNat dd).Y)-((a1.getD x5.toNat dd).Y)))>0) then (DP (w64 ((w64 (((a1.getD (Int.tmod (w64 (x5+1)) (a1.length:Int)).toNat dd).X)-((a1.getD x5.toNat dd).X)))*(w64 (a2-((a1.getD x5.toNat dd).Y))))) (w64 (((a1.getD (Int.tmod (w64 (x5+1)) (a1.length:Int)).toNat dd).Y)-((a1.getD x5.toNat dd).Y)))).bind λv11=> PP x5 (yB a1 a2 n) x3 (imin x4 (w64 (((a1.getD x5.toNat dd).X)+v11))) else bif decide ((w64 (((a1.getD (Int.tmod (w64 (x5+1)) (a1.length:Int)).toNat dd).Y)-((a1.getD x5.toNat dd).Y)))<0) then
 (DP (w64 ((w64 (((a1.getD (Int.tmod (w64 (x5+1)) (a1.length:Int)).toNat dd).X)-((a1.getD x5.toNat dd).X)))*(w64 (a2-((a1.getD x5.toNat dd).Y))))) (w64 (0-(w64 (((a1.getD (Int.tmod (w64 (x5+1)) (a1.length:Int)).toNat dd).Y)-((a1.getD x5.toNat dd).Y)))))).bind λv14=> PP x5 (yB a1 a2 n) (imax x3 (w64 (((a1.getD x5.toNat dd).X)-v14))) x4 else bif decide ((w64 ((w64 (((a1.getD (Int.tmod (w64 (x5+1)) (a1.length:Int)).toNat dd).X)-((a1.getD x5.toNat dd).X)))*(w64 (a2-((a1.getD x5.toNat dd).Y)))))<0) then some (Sum.inl (1,0)) else PP x5 (yB a1 a2 n) x3 x4 else none else none else none else some (Sum.inr (x3,x4))
def KR (a1:List qA) (a2:Int):Option (Int×Int):= (yB a1 a2 FUEL (-600) 600 0).bind λu23=>Sum.elim (λv24=>some v24) (λo21=> some (o21.1,o21.2)) u23
def UN (v11:Int×Int) (v13:Int×Int) (x17:Bool):Option Span:= bif x17 then some (Span.mk 0 0) else some (Span.mk (imax v11.1 v13.1) (imin v11.2 v13.2))
def XV (a2:Int) (a3:Int) (v4:(List qA)) (x9:Bool):Option Span:= bif x9 then some (Span.mk 0 0) else (KR v4 a2).bind λv11=> (KR v4 a3).bind λv13=> bif decide (v11.1>v11.2) then UN v11 v13 true else bif decide (v13.1>v13.2) then UN v11 v13 true else UN v11 v13 (decide ((imax v11.1 v13.1)≥(imin v11.2 v13.2)))
def EQ (a1:List qA) (a2:Int) (a3:Int):Option Span:= (qAx a1).bind λv4=> bif (v4.length:Int)==0 then XV a2 a3 v4 true else bif decide (a2≥a3) then XV a2 a3 v4 true else bif decide (a2<(-600)) then XV a2 a3 v4 true else XV a2 a3 v4 (decide (a3>600))
def JM (a1:Span):Option Bool:= some (decide (a1.A≥a1.B))
def GC (x3:Int) (R:Int->Option Int) (x8:Bool):Option Int:= bif x8 then R (w64 (x3+1)) else some x3
def yP (a2:List Span):Nat->Int->Option Int
 |0,_=>none
 |n+1,x3=> bif decide (x3<(a2.length:Int)) then bif inb x3 a2.length then (JM (a2.getD x3.toNat dd)).bind λv6=> GC x3 (yP a2 n) v6 else none else GC x3 (yP a2 n) false
def GJ (x13:Int) (R:Int->Option Int) (x18:Bool):Option Int:= bif x18 then R (w64 (x13-1)) else some x13
def ZB (a2:List Span) (o11:Int):Nat->Int->Option Int
 |0,_=>none
 |n+1,x13=> bif decide (x13>o11) then bif inb (w64 (x13-1)) a2.length then (JM (a2.getD (w64 (x13-1)).toNat dd)).bind λv16=> GJ x13 (ZB a2 o11 n) v16 else none else GJ x13 (ZB a2 o11 n) false
def JJ (x24:Int) (l25:List Span) (R:Int->(List Span)->Option (List Span)) (x31:Span):Option (List Span):= bif room (l25.length+1) 16 then R (w64 (x24+1)) (l25++[x31]) else none
def wW (a2:List Span) (o21:Int):Nat->Int->(List Span)->Option (List Span)
 |0,_,_=>none
 |n+1,x24,l25=> bif decide (x24<o21) then bif inb x24 a2.length then (JM (a2.getD x24.toNat dd)).bind λv28=> bif v28 then JJ x24 l25 (wW a2 o21 n) (Span.mk 0 0) else JJ x24 l25 (wW a2 o21 n) (a2.getD x24.toNat dd) else none else some l25
def WK (a1:Int) (a2:List Span):Option qG:= (yP a2 FUEL 0).bind λo11=> (ZB a2 o11 FUEL (a2.length:Int)).bind λo21=> bif o11==o21 then some (qG.mk 0 []) else (wW a2 o21 FUEL o11 []).bind λo34=> some (qG.mk (w64 (a1+o11)) o34)
def RZ (a1:List qA):Nat->Int->Int->Int->Option (Int×Int)
 |0,_,_,_=>none
 |n+1,x6,x7,x8=> bif decide (x8<(a1.length:Int)) then bif inb x8 a1.length then (RZ a1 n) (imin x6 ((a1.getD x8.toNat dd).Y)) (imax x7 ((a1.getD x8.toNat dd).Y)) (w64 (x8+1)) else none else some (x6,x7)
def EW (l15:List Span) (x16:Int) (R:(List Span)->Int->Option (List Span)) (x23:Span):Option (List Span):= bif room (l15.length+1) 16 then R (l15++[x23]) (w64 (x16+1)) else none
def qCD (a1:List qA) (l15:List Span) (x16:Int) (R:(List Span)->Int->Option (List Span)) (x19:Bool):Option (List Span):= bif x19 then (EQ a1 (w64 (10*x16)) (w64 (10*(w64 (x16+1))))).bind λv21=> EW l15 x16 R v21 else EW l15 x16 R (Span.mk 0 0)
def jU (a1:List qA) (o13:Int×Int):Nat->(List Span)->Int->Option (List Span)
 |0,_,_=>none
 |n+1,l15,x16=> bif decide (x16<60) then bif decide ((w64 (10*x16))≥o13.1) then qCD a1 l15 x16 (jU a1 o13 n) (decide ((w64 (10*(w64 (x16+1))))<=o13.2)) else qCD a1 l15 x16 (jU a1 o13 n) false else some l15
def qFF (a1:List qA):Option (qG×Int):= (EF a1).bind λv2=> bif v2 !=0 then some ((qG.mk 0 []),v2) else bif inb 0 a1.length then (RZ a1 FUEL ((a1.getD (0:Int).toNat dd).Y) ((a1.getD (0:Int).toNat dd).Y) 0).bind λo13=> (jU a1 o13 FUEL [] (-60)).bind λo26=> (WK (-60) o26).bind λv28=> bif (v28.Rows.length:Int)==0 then some ((qG.mk 0 []),18) else some ((qG.mk v28.Low v28.Rows),0) else none
def GP (a1:Ring) (a2:Int) (a3:Int):Option (qG×Bool):= (EG a1 a2).bind λv4=> (NJ (Ring.mk v4.Z v4.Read) a3).bind λv6=> bif v6.2 !=0 then some ((qG.mk 0 []),false) else (qFF v6.1).bind λv9=> some ((qG.mk v9.1.Low v9.1.Rows),v9.2==0)
def NE (x3:Bool):Option Bool:= some x3
def UO (a1:Int):Option Bool:= bif decide (a1<(-600)) then NE true else NE (decide (a1>600))
def HS (x6:Int) (R:Int->Option (Int⊕Unit)) (x14:Bool):Option (Int⊕Unit):= bif x14 then some (Sum.inl 9) else R (w64 (x6+1))
def QD (a1:qG):Nat->Int->Option (Int⊕Unit)
 |0,_=>none
 |n+1,x6=> bif decide (x6<(a1.Rows.length:Int)) then bif inb x6 a1.Rows.length then (UO ((a1.Rows.getD x6.toNat dd).A)).bind λv9=> bif v9 then HS x6 (QD a1 n) true else (UO ((a1.Rows.getD x6.toNat dd).B)).bind λv12=> HS x6 (QD a1 n) v12 else none else some (Sum.inr ())
def HP (x31:Int) (R:Int->Option (Int⊕Unit)) (x37:Bool):Option (Int⊕Unit):= bif x37 then some (Sum.inl 19) else R (w64 (x31+1))
def QE (a1:qG):Nat->Int->Option (Int⊕Unit)
 |0,_=>none
 |n+1,x31=> bif decide (x31<(a1.Rows.length:Int)) then bif inb x31 a1.Rows.length then (JM (a1.Rows.getD x31.toNat dd)).bind λv34=> bif v34 then HP x31 (QE a1 n) (!((((a1.Rows.getD x31.toNat dd).A)==0)&&((((a1.Rows.getD x31.toNat dd).B)==0)&&true))) else HP x31 (QE a1 n) false else none else some (Sum.inr ())
def HR (a1:qG) (x29:Bool):Option Int:= bif x29 then some 19 else (QE a1 FUEL 0).bind λu41=>Sum.elim (λv42=>some v42) (λo39=> some 0) u41
def HI (a1:qG) (x4:Bool):Option Int:= bif x4 then some 9 else (QD a1 FUEL 0).bind λu18=>Sum.elim (λv19=>some v19) (λo16=> bif (a1.Rows.length:Int)==0 then bif a1.Low !=0 then some 19 else some 0 else bif inb 0 a1.Rows.length then (JM (a1.Rows.getD (0:Int).toNat dd)).bind λv23=> bif v23 then HR a1 true else bif inb (w64 ((a1.Rows.length:Int)-1)) a1.Rows.length then (JM (a1.Rows.getD (w64 ((a1.Rows.length:Int)-1)).toNat dd)).bind λv27=> HR a1 v27 else none else none) u18
def EV (a1:qG):Option Int:= bif decide ((a1.Rows.length:Int)>120) then some 4 else bif decide (a1.Low<(-60)) then HI a1 true else HI a1 (decide (a1.Low>(w64 (60-(a1.Rows.length:Int)))))
def DS (a1:qG):Option qG:= (EV a1).bind λv2=> bif v2 !=0 then some (qG.mk 0 []) else some a1
def qAw (a1:qG) (a2:Int) (x4:Bool):Option Span:= bif x4 then some (Span.mk 0 0) else bif inb (w64 (a2-a1.Low)) a1.Rows.length then some (a1.Rows.getD (w64 (a2-a1.Low)).toNat dd) else none
def CF (a1:qG) (a2:Int):Option Span:= bif decide (a2<a1.Low) then qAw a1 a2 true else qAw a1 a2 (decide (a2≥(w64 (a1.Low+(a1.Rows.length:Int)))))
def YU (v3:qG) (v5:qG):Nat->(List Span)->Int->Option (List Span)
 |0,_,_=>none
 |n+1,l7,x8=> bif decide (x8<60) then (CF v3 x8).bind λv10=> (CF v5 x8).bind λv12=> bif room (l7.length+1) 16 then (YU v3 v5 n) (l7++[(Span.mk (imax v10.A v12.A) (imin v10.B v12.B))]) (w64 (x8+1)) else none else some l7
def RV (a1:qG) (a2:qG):Option qG:= (DS a1).bind λv3=> (DS a2).bind λv5=> (YU v3 v5 FUEL [] (-60)).bind λo16=> (WK (-60) o16).bind λv18=> some (qG.mk v18.Low v18.Rows)
def MT (x8:Int) (R:(List qM)->Int->Int->(List Span)->Option (((List qM)×Int)⊕(List qM))) (v13:qG×Bool) (l23:List qM):Option (((List qM)×Int)⊕(List qM)):= R l23 (w64 (x8+1)) v13.1.Low v13.1.Rows
def wR (a1:Scan) (a2:Int) (a3:Int):Nat->(List qM)->Int->Int->(List Span)->Option (((List qM)×Int)⊕(List qM))
 |0,_,_,_,_=>none
 |n+1,l7,x8,x9,l10=> bif decide (x8<(a1.Rings.length:Int)) then bif inb x8 a1.Rings.length then (GP (a1.Rings.getD x8.toNat dd) a2 a3).bind λv13=> bif !v13.2 then some (Sum.inl ([],30)) else bif decide (x8>0) then (RV (qG.mk x9 l10) (qG.mk v13.1.Low v13.1.Rows)).bind λv17=> bif (v17.Rows.length:Int)==0 then some (Sum.inl ([],30)) else bif inb (w64 (x8-1)) a1.Rings.length then bif room (l7.length+1) 40 then MT x8 (wR a1 a2 a3 n) v13 (l7++[(qM.mk (w64 (((a1.Rings.getD x8.toNat dd).Z)-((a1.Rings.getD (w64 (x8-1)).toNat dd).Z))) v17)]) else none else none else MT x8 (wR a1 a2 a3 n) v13 l7 else none else some (Sum.inr l7)
def EN (a1:Scan) (a2:Int) (a3:Int):Option ((List qM)×Int):= (DV a1).bind λv4=> bif v4 !=0 then some ([],v4) else (wR a1 a2 a3 FUEL [] 0 0 []).bind λu27=>Sum.elim (λv28=>some v28) (λo25=> some (o25,0)) u27
def EU (a1:Scan) (a2:Int) (a3:Int) (a4:Int):Option ((List qM)×(List qH)×Int):= (LZ a1 a2).bind λv5=> (EN v5 a3 a4).bind λv7=> bif v7.2 !=0 then some ([],[],v7.2) else some (v7.1,v5.Defects,0)
def YT (a1:List qH) (a2:List qH):Nat->Int->Option (Bool⊕Unit)
 |0,_=>none
 |n+1,x4=> bif decide (x4<(a1.length:Int)) then bif inb x4 a1.length then bif inb x4 a2.length then bif !((((a1.getD x4.toNat dd).Kind)==((a2.getD x4.toNat dd).Kind))&&((((((((a1.getD x4.toNat dd).Box).X).A)==((((a2.getD x4.toNat dd).Box).X).A))&&((((((a1.getD x4.toNat dd).Box).X).B)==((((a2.getD x4.toNat dd).Box).X).B))&&true))&&(((((((a1.getD x4.toNat dd).Box).Y).A)==((((a2.getD x4.toNat dd).Box).Y).A))&&((((((a1.getD x4.toNat dd).Box).Y).B)==((((a2.getD x4.toNat dd).Box).Y).B))&&true))&&(((((((a1.getD x4.toNat dd).Box).Z).A)==((((a2.getD x4.toNat dd).Box).Z).A))&&((((((a1.getD x4.toNat dd).Box).Z).B)==((((a2.getD x4.toNat dd).Box).Z).B))&&true))&&true)))&&true)) then some (Sum.inl false) else
 (YT a1 a2 n) (w64 (x4+1)) else none else none else some (Sum.inr ())
def VP (a1:List qH) (a2:List qH):Option Bool:= bif (a1.length:Int) !=(a2.length:Int) then some false else (YT a1 a2 FUEL 0).bind λu11=>Sum.elim (λv12=>some v12) (λo9=> some true) u11
def YN (a1:List Span) (a2:List Span):Nat->Int->Option (Bool⊕Unit)
 |0,_=>none
 |n+1,x4=> bif decide (x4<(a1.length:Int)) then bif inb x4 a1.length then bif inb x4 a2.length then bif !((((a1.getD x4.toNat dd).A)==((a2.getD x4.toNat dd).A))&&((((a1.getD x4.toNat dd).B)==((a2.getD x4.toNat dd).B))&&true)) then some (Sum.inl false) else (YN a1 a2 n) (w64 (x4+1)) else none else none else some (Sum.inr ())
def MZ (a1:List Span) (a2:List Span):Option Bool:= bif (a1.length:Int) !=(a2.length:Int) then some false else (YN a1 a2 FUEL 0).bind λu11=>Sum.elim (λv12=>some v12) (λo9=> some true) u11
def JO (x13:Int) (R:Int->Option (Bool⊕Unit)) (x23:Bool):Option (Bool⊕Unit):= bif x23 then some (Sum.inl false) else R (w64 (x13+1))
def wL (a1:List zA) (a2:List zA) (x4:Int):Nat->Int->Option (Bool⊕Unit)
 |0,_=>none
 |n+1,x13=> bif inb x4 a1.length then bif decide (x13<((((a1.getD x4.toNat dd).Solid).length:Nat):Int)) then bif inb x13 (((a1.getD x4.toNat dd).Solid).length) then bif inb x4 a2.length then bif inb x13 (((a2.getD x4.toNat dd).Solid).length) then bif ((((a1.getD x4.toNat dd).Solid).getD x13.toNat dd).Len) !=((((a2.getD x4.toNat dd).Solid).getD x13.toNat dd).Len) then JO x13 (wL a1 a2 x4 n) true else bif (((((a1.getD x4.toNat dd).Solid).getD x13.toNat dd).Sec).Low) !=(((((a2.getD x4.toNat dd).Solid).getD x13.toNat dd).Sec).Low) then JO x13 (wL a1 a2 x4 n) true else (MZ (((((a1.getD x4.toNat dd).Solid).getD x13.toNat dd).Sec).Rows) (((((a2.getD x4.toNat dd).Solid).getD x13.toNat dd).Sec).Rows)).bind λv21=>
 JO x13 (wL a1 a2 x4 n) (!v21) else none else none else none else some (Sum.inr ()) else none
def ZI (a1:List zA) (a2:List zA) (x4:Int) (R:Int->Option (Bool⊕Unit)) (x11:Bool):Option (Bool⊕Unit):= bif x11 then some (Sum.inl false) else (wL a1 a2 x4 FUEL 0).bind λu27=>Sum.elim (λv28=>some (Sum.inl v28)) (λo25=> R (w64 (x4+1))) u27
def jH (a1:List zA) (a2:List zA):Nat->Int->Option (Bool⊕Unit)
 |0,_=>none
 |n+1,x4=> bif decide (x4<(a1.length:Int)) then bif inb x4 a1.length then bif inb x4 a2.length then (VP ((a1.getD x4.toNat dd).Defects) ((a2.getD x4.toNat dd).Defects)).bind λv8=> bif !v8 then ZI a1 a2 x4 (jH a1 a2 n) true else ZI a1 a2 x4 (jH a1 a2 n) (((((a1.getD x4.toNat dd).Solid).length:Nat):Int) !=((((a2.getD x4.toNat dd).Solid).length:Nat):Int)) else none else none else some (Sum.inr ())
def NA (a1:List zA) (a2:List zA):Option Bool:= bif (a1.length:Int) !=(a2.length:Int) then some false else (jH a1 a2 FUEL 0).bind λu31=>Sum.elim (λv32=>some v32) (λo29=> some true) u31
def RG (a1:List qM) (a2:List qM):Option Bool:= (NA ([(zA.mk a1 [])]:List zA) ([(zA.mk a2 [])]:List zA)).bind λv3=> some v3
def yX (x21:Bool):Option Bool:= some x21
def XG (a1:XT) (a2:Int):Option Bool:= (qDj a1.Scan).bind λv3=> bif !v3 then (TB).bind λv6=> some v6 else (jT a1.Scan a2 a1.Limit a1.Most).bind λv8=> (EU a1.Scan a2 a1.Limit a1.Most).bind λv10=> (RG v8.1 v10.1).bind λv12=> bif v12 then (VP v8.2.1 v10.2.1).bind λv15=> bif v15 then bif v8.2.2==v10.2.2 then (TB).bind λv19=> yX v19 else yX false else yX false else yX false
end Saw
end Go.SL

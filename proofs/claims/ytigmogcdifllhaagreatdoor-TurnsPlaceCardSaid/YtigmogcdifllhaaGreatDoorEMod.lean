import Derived.Test.YtigmogcdifllhaaGreatDoorYa6
set_option linter.unusedVariables false
set_option linter.unusedSimpArgs false
namespace Go.SL
namespace Saw
structure zU where
 Size:Int
 At:Int
instance : Inhabited zU:=⟨⟨0,0⟩⟩
def jU (r:zU):List C:=[ci r.Size,ci r.At]
structure qA where
 X:Int
 Y:Int
instance : Inhabited qA:=⟨⟨0,0⟩⟩
def qE (r:qA):List C:=[ci r.X,ci r.Y]
structure qP where
 P:qA
 Ok:Bool
instance : Inhabited qP:=⟨⟨dd,false⟩⟩
def qV (r:qP):List C:=[ci r.P.X,ci r.P.Y,cb r.Ok]
structure Ring where
 Z:Int
 Read:List qP
instance : Inhabited Ring:=⟨⟨0,[]⟩⟩
def qX (r:Ring):List C:=[ci r.Z,tl qV dd r.Read]
structure Span where
 A:Int
 B:Int
instance : Inhabited Span:=⟨⟨0,0⟩⟩
def qH (r:Span):List C:=[ci r.A,ci r.B]
structure Box where
 X:Span
 Y:Span
 Z:Span
instance : Inhabited Box:=⟨⟨dd,dd,dd⟩⟩
def yW (r:Box):List C:=[ci r.X.A,ci r.X.B,ci r.Y.A,ci r.Y.B,ci r.Z.A,ci r.Z.B]
structure qF where
 Kind:Int
 Box:Box
instance : Inhabited qF:=⟨⟨0,dd⟩⟩
def qI (r:qF):List C:=[ci r.Kind,ci r.Box.X.A,ci r.Box.X.B,ci r.Box.Y.A,ci r.Box.Y.B,ci r.Box.Z.A,ci r.Box.Z.B]
structure Scan where
 Rings:List Ring
 Defects:List qF
instance : Inhabited Scan:=⟨⟨[],[]⟩⟩
def zZ (r:Scan):List C:=[tl qX dd r.Rings,tl qI dd r.Defects]
structure ZQ where
 Scan:Scan
 Limit:Int
 Most:Int
instance : Inhabited ZQ:=⟨⟨dd,0,0⟩⟩
def MN (r:ZQ):List C:=[tl qX dd r.Scan.Rings,tl qI dd r.Scan.Defects,ci r.Limit,ci r.Most]
structure qK where
 Name:ByteArray
 Thick:Int
 Width:Int
 Allow:Int
 Wane:Int
 Lengths:List Int
 Prices:List Int
instance : Inhabited qK:=⟨⟨⟨#[]⟩,0,0,0,0,[],[]⟩⟩
def qR (r:qK):List C:=[cs r.Name,ci r.Thick,ci r.Width,ci r.Allow,ci r.Wane,tl qD dd r.Lengths,tl qD dd r.Prices]
structure qG where
 Low:Int
 Rows:List Span
instance : Inhabited qG:=⟨⟨0,[]⟩⟩
def qY (r:qG):List C:=[ci r.Low,tl qH dd r.Rows]
structure Rect where
 X:Span
 Y:Span
instance : Inhabited Rect:=⟨⟨dd,dd⟩⟩
def qT (r:Rect):List C:=[ci r.X.A,ci r.X.B,ci r.Y.A,ci r.Y.B]
structure qO where
 Len:Int
 Sec:qG
instance : Inhabited qO:=⟨⟨0,dd⟩⟩
def qM (r:qO):List C:=[ci r.Len,ci r.Sec.Low,tl qH dd r.Sec.Rows]
structure Saw where
 Kerf:Int
 Trim:Int
 Pitch:Int
 Step:Int
instance : Inhabited Saw:=⟨⟨0,0,0,0⟩⟩
def jX (r:Saw):List C:=[ci r.Kerf,ci r.Trim,ci r.Pitch,ci r.Step]
structure Rates where
 Chip:Int
 Dust:Int
 Fine:Int
instance : Inhabited Rates:=⟨⟨0,0,0⟩⟩
def wF (r:Rates):List C:=[ci r.Chip,ci r.Dust,ci r.Fine]
structure zB where
 z:Span
 lack:Int
instance : Inhabited zB:=⟨⟨dd,0⟩⟩
def zH (r:zB):List C:=[ci r.z.A,ci r.z.B,ci r.lack]
structure zL where
 product:qK
 rect:Rect
 length:Int
 zones:List zB
 defects:List qF
instance : Inhabited zL:=⟨⟨dd,dd,0,[],[]⟩⟩
def BZ (r:zL):List C:=[cs r.product.Name,ci r.product.Thick,ci r.product.Width,ci r.product.Allow,ci r.product.Wane,tl qD dd r.product.Lengths,tl qD dd r.product.Prices,ci r.rect.X.A,ci r.rect.X.B,ci r.rect.Y.A,ci r.rect.Y.B,ci r.length,tl zH dd r.zones,tl qI dd r.defects]
structure Line where
 Len:Int
 Kerf:Int
 Pitch:Int
 Sizes:List Int
 Gain:List (List Int)
 Chip:List Int
 Dust:List Int
instance : Inhabited Line:=⟨⟨0,0,0,[],[],[],[]⟩⟩
def jY (r:Line):List C:=[ci r.Len,ci r.Kerf,ci r.Pitch,tl qD dd r.Sizes,tl (qU qD) dd r.Gain,tl qD dd r.Chip,tl qD dd r.Dust]
structure qC where
 piece:zU
 value:Int
instance : Inhabited qC:=⟨⟨dd,0⟩⟩
def qQ (r:qC):List C:=[ci r.piece.Size,ci r.piece.At,ci r.value]
structure Node where
 Kind:Int
 At:Int
instance : Inhabited Node:=⟨⟨0,0⟩⟩
def qL (r:Node):List C:=[ci r.Kind,ci r.At]
structure Pattern where
 Frame:Rect
 Nodes:List Node
instance : Inhabited Pattern:=⟨⟨dd,[]⟩⟩
structure qN where
 Quarters:Int
 Pattern:Pattern
 Value:Int
instance : Inhabited qN:=⟨⟨0,dd,0⟩⟩
def zN (r:qN):List C:=[ci r.Quarters,ci r.Pattern.Frame.X.A,ci r.Pattern.Frame.X.B,ci r.Pattern.Frame.Y.A,ci r.Pattern.Frame.Y.B,tl qL dd r.Pattern.Nodes,ci r.Value]
structure qZ where
 Solid:List qO
 Defects:List qF
instance : Inhabited qZ:=⟨⟨[],[]⟩⟩
def ZA (r:qZ):List C:=[tl qM dd r.Solid,tl qI dd r.Defects]
structure qWL where
 Products:List qK
 Saw:Saw
 Rates:Rates
instance : Inhabited qWL:=⟨⟨[],dd,dd⟩⟩
structure qWD where
 value:Int
 piece:zU
instance : Inhabited qWD:=⟨⟨0,dd⟩⟩
structure qTU where
 Quarters:Int
 Pattern:Pattern
 Value:Int
instance : Inhabited qTU:=⟨⟨0,dd,0⟩⟩
structure qRS where
 rect:Rect
 level:Int
instance : Inhabited qRS:=⟨⟨dd,0⟩⟩
def qMo :zU:=(zU.mk (-1) (-1))
def zK :List qA:=[(qA.mk 1 0),(qA.mk 0 1),(qA.mk (-1) 0),(qA.mk 0 (-1))]
def qGH :List Int:=[(-1),1]
def globs :List (Nat×C):=[(0,.lptr (jU qMo)),(1,.aptr 4 2 (rf qE zK)),(2,.aptr 2 1 (rf qD qGH))]
def XM (a1:Scan):Nat->Int->Option (Bool⊕Unit)
 |0,_=>none
 |n+1,x2=> bif decide (x2<(a1.Rings.length:Int)) then bif inb x2 a1.Rings.length then bif decide (((((a1.Rings.getD x2.toNat dd).Read).length:Nat):Int)>100) then some (Sum.inl false) else (XM a1 n) (w64 (x2+1)) else none else some (Sum.inr ())
def qEv (x11:Bool):Option Bool:= some x11
def qCd (a1:Scan):Option Bool:= (XM a1 FUEL 0).bind λu8=>Sum.elim (λv9=>some v9) (λo6=> bif decide ((a1.Rings.length:Int)<=60) then qEv (decide ((a1.Defects.length:Int)<=70)) else qEv false) u8
def qCp :Nat->Int->(List qP)->Option (List qP)
 |0,_,_=>none
 |n+1,x4,l5=> bif decide (x4<((8:Nat):Int)) then bif inb x4 8 then bif room (l5.length+1) 24 then (qCp n) (w64 (x4+1)) (l5++([(qP.mk (([(qA.mk 60 30),(qA.mk 0 30),(qA.mk (-60) 30),(qA.mk (-60) 0),(qA.mk (-60) (-30)),(qA.mk 0 (-30)),(qA.mk 60 (-30)),(qA.mk 60 0)]:List qA).getD x4.toNat dd) true)]:List qP)) else none else none else some l5
def qCB :Nat->Int->(List Ring)->Option (List Ring)
 |0,_,_=>none
 |n+1,x1,l2=> bif decide (x1<2) then (qCp FUEL 0 []).bind λo10=> bif room (l2.length+1) 32 then (qCB n) (w64 (x1+1)) (l2++[(Ring.mk (w64 (3000*x1)) o10)]) else none else some l2
def UL :Option Scan:= (qCB FUEL 0 []).bind λo14=> some (Scan.mk o14 [])
def FK (x3:Bool):Option Bool:= some x3
def GB (a1:Int):Option Bool:= bif decide (a1≥(-600)) then FK (decide (a1<=600)) else FK false
def HC (x7:Int) (R:Int->Option (Int⊕Unit)) (x19:Bool):Option (Int⊕Unit):= bif x19 then some (Sum.inl 19) else R (w64 (x7+1))
def VM (a1:Ring) (x7:Int) (R:Int->Option (Int⊕Unit)) (x16:Bool):Option (Int⊕Unit):= bif x16 then some (Sum.inl 9) else bif !((a1.Read.getD x7.toNat dd).Ok) then HC x7 R (!(((((a1.Read.getD x7.toNat dd).P).X)==0)&&(((((a1.Read.getD x7.toNat dd).P).Y)==0)&&true))) else HC x7 R false
def yI (a1:Ring):Nat->Int->Option (Int⊕Unit)
 |0,_=>none
 |n+1,x7=> bif decide (x7<(a1.Read.length:Int)) then bif inb x7 a1.Read.length then bif (a1.Read.getD x7.toNat dd).Ok then (GB (((a1.Read.getD x7.toNat dd).P).X)).bind λv11=> bif !v11 then VM a1 x7 (yI a1 n) true else (GB (((a1.Read.getD x7.toNat dd).P).Y)).bind λv14=> VM a1 x7 (yI a1 n) (!v14) else VM a1 x7 (yI a1 n) false else none else some (Sum.inr ())
def HB (a1:Ring) (x5:Bool):Option Int:= bif x5 then some 9 else (yI a1 FUEL 0).bind λu23=>Sum.elim (λv24=>some v24) (λo21=> some 0) u23
def PI (a1:Ring):Option Int:= bif decide ((a1.Read.length:Int)<8) then some 3 else bif decide ((a1.Read.length:Int)>32) then some 4 else bif decide (a1.Z<0) then HB a1 true else HB a1 (decide (a1.Z>20000))
def yM (a1:Span):Option Bool:= some (decide (a1.A≥a1.B))
def UH (x5:Bool):Option Bool:= some x5
def YD (a1:Span) (a2:Int) (a3:Int):Option Bool:= bif decide ((imin a1.A a1.B)≥a2) then UH (decide ((imax a1.A a1.B)<=a3)) else UH false
def PL (x23:Bool):Option Int:= bif x23 then some 9 else some 0
def PH (a1:qF) (x13:Bool):Option Int:= bif x13 then some 19 else (YD a1.Box.X (-600) 600).bind λv15=> bif !v15 then PL true else (YD a1.Box.Y (-600) 600).bind λv18=> bif !v18 then PL true else (YD a1.Box.Z 0 20000).bind λv21=> PL (!v21)
def DC (a1:qF) (x3:Bool):Option Int:= bif x3 then some 10 else (yM a1.Box.X).bind λv5=> bif v5 then PH a1 true else (yM a1.Box.Y).bind λv8=> bif v8 then PH a1 true else (yM a1.Box.Z).bind λv11=> PH a1 v11
def BN (a1:qF):Option Int:= bif decide (a1.Kind<1) then DC a1 true else DC a1 (decide (a1.Kind>6))
def ZD (a1:List qF):Nat->Int->Option (Int⊕Unit)
 |0,_=>none
 |n+1,x3=> bif decide (x3<(a1.length:Int)) then bif inb x3 a1.length then (BN (a1.getD x3.toNat dd)).bind λv6=> bif v6 !=0 then some (Sum.inl v6) else (ZD a1 n) (w64 (x3+1)) else none else some (Sum.inr ())
def ZB (a1:List qF):Option Int:= bif decide ((a1.length:Int)>64) then some 4 else (ZD a1 FUEL 0).bind λu11=>Sum.elim (λv12=>some v12) (λo9=> some 0) u11
def JU (a1:Scan) (x4:Int) (R:Int->Option (Int⊕Unit)) (x16:Bool):Option (Int⊕Unit):= bif x16 then some (Sum.inl 11) else bif inb 0 a1.Rings.length then bif ((((a1.Rings.getD x4.toNat dd).Read).length:Nat):Int) !=((((a1.Rings.getD (0:Int).toNat dd).Read).length:Nat):Int) then some (Sum.inl 19) else R (w64 (x4+1)) else none
def wZ (a1:Scan):Nat->Int->Option (Int⊕Unit)
 |0,_=>none
 |n+1,x4=> bif decide (x4<(a1.Rings.length:Int)) then bif inb x4 a1.Rings.length then (PI (a1.Rings.getD x4.toNat dd)).bind λv7=> bif v7 !=0 then some (Sum.inl v7) else bif x4==0 then bif ((a1.Rings.getD x4.toNat dd).Z) !=0 then JU a1 x4 (wZ a1 n) true else bif decide (x4>0) then bif inb (w64 (x4-1)) a1.Rings.length then JU a1 x4 (wZ a1 n) (decide (((a1.Rings.getD x4.toNat dd).Z)<=((a1.Rings.getD (w64 (x4-1)).toNat dd).Z))) else none else JU a1 x4 (wZ a1 n) false else bif decide (x4>0) then bif inb (w64 (x4-1)) a1.Rings.length then JU a1 x4 (wZ a1 n) (decide (((a1.Rings.getD x4.toNat dd).Z)<=((a1.Rings.getD (w64 (x4-1)).toNat dd).Z))) else none else JU a1 x4 (wZ a1 n) false else none else some (Sum.inr ())
def KL (a1:Scan):Nat->Int->Option (Int⊕Unit)
 |0,_=>none
 |n+1,x28=> bif decide (x28<(a1.Defects.length:Int)) then bif inb x28 a1.Defects.length then bif decide (((((a1.Defects.getD x28.toNat dd).Box).Z).B)>((a1.Rings.getD (w64 ((a1.Rings.length:Int)-1)).toNat dd).Z)) then some (Sum.inl 9) else (KL a1 n) (w64 (x28+1)) else none else some (Sum.inr ())
def NY (a1:Scan):Option Int:= bif decide ((a1.Rings.length:Int)<2) then some 3 else bif decide ((a1.Rings.length:Int)>24) then some 4 else (wZ a1 FUEL 0).bind λu22=>Sum.elim (λv23=>some v23) (λo20=> (ZB a1.Defects).bind λv24=> bif v24 !=0 then some v24 else bif inb (w64 ((a1.Rings.length:Int)-1)) a1.Rings.length then (KL a1 FUEL 0).bind λu34=>Sum.elim (λv35=>some v35) (λo32=> some 0) u34 else none) u22
def DQ (a1:List Ring):Option (List Ring):= bif room a1.length 32 then some a1 else none
def yN (a1:List qF):Option (List qF):= bif room a1.length 56 then some a1 else none
def QT (a1:List qP):Option (List qP):= bif room a1.length 24 then some a1 else none
def qCC (v2:List Ring):Nat->Int->(List Ring)->Option (List Ring)
 |0,_,_=>none
 |n+1,x6,l7=> bif decide (x6<(v2.length:Int)) then bif inb x6 l7.length then (QT ((l7.getD x6.toNat dd).Read)).bind λv13=> (qCC v2 n) (w64 (x6+1)) (l7.set x6.toNat (Ring.mk ((l7.getD x6.toNat dd).Z) v13)) else none else some l7
def qH4 (a1:Scan):Option Scan:= (DQ a1.Rings).bind λv2=> (yN a1.Defects).bind λv4=> (qCC v2 FUEL 0 v2).bind λo16=> some (Scan.mk o16 v4)
def yP (a1:List qF) (a2:Int) (x8:Int):Nat->Int->Int->Int->Int->Int->Option qF
 |0,_,_,_,_,_=>none
 |n+1,x11,x12,x13,x14,x15=> bif decide (x11<(Int.tmod (w64 ((Int.tmod a2 4)+4)) 4)) then (yP a1 a2 x8 n) (w64 (x11+1)) (w64 (0-x15)) (w64 (0-x14)) x12 x13 else some (qF.mk ((a1.getD x8.toNat dd).Kind) (Box.mk (Span.mk x12 x13) (Span.mk x14 x15) (((a1.getD x8.toNat dd).Box).Z)))
def QR (a1:List qF) (a2:Int):Nat->(List qF)->Int->Option (List qF)
 |0,_,_=>none
 |n+1,l7,x8=> bif decide (x8<(a1.length:Int)) then bif inb x8 a1.length then (yP a1 a2 x8 FUEL 0 ((((a1.getD x8.toNat dd).Box).X).A) ((((a1.getD x8.toNat dd).Box).X).B) ((((a1.getD x8.toNat dd).Box).Y).A) ((((a1.getD x8.toNat dd).Box).Y).B)).bind λo18=> bif inb x8 l7.length then (QR a1 a2 n) (l7.set x8.toNat o18) (w64 (x8+1)) else none else none else some l7
def MO (a1:List qF) (a2:Int):Option (List qF):= (ZB a1).bind λv3=> bif v3 !=0 then some ([]:List qF) else bif mkOk (a1.length:Int) 56 then (QR a1 a2 FUEL (List.replicate ((a1.length:Int).toNat) (qF.mk 0 (Box.mk (Span.mk 0 0) (Span.mk 0 0) (Span.mk 0 0)))) 0).bind λo22=> some o22 else none
def FX (a1:Ring):Option Ring:= (QT a1.Read).bind λv2=> some (Ring.mk a1.Z v2)
def GV (x2:Int) (R:Int->Option (Bool⊕Unit)) (x6:Bool):Option (Bool⊕Unit):= bif x6 then some (Sum.inl false) else R (w64 (x2+1))
def yV (a1:List qA):Nat->Int->Option (Bool⊕Unit)
 |0,_=>none
 |n+1,x2=> bif decide (x2<(a1.length:Int)) then bif inb x2 a1.length then bif ((a1.getD x2.toNat dd).X)==(-9223372036854775808) then GV x2 (yV a1 n) true else GV x2 (yV a1 n) (((a1.getD x2.toNat dd).Y)==(-9223372036854775808)) else none else some (Sum.inr ())
def BL (a1:List qA):Option Bool:= (yV a1 FUEL 0).bind λu10=>Sum.elim (λv11=>some v11) (λo8=> some true) u10
def RT (a1:List qA) (a2:Int):Nat->(List qA)->Int->Option (List qA)
 |0,_,_=>none
 |n+1,l8,x9=> bif decide (x9<(a1.length:Int)) then bif inb x9 a1.length then bif inb x9 l8.length then (RT a1 a2 n) (l8.set x9.toNat (qA.mk (w64 ((w64 (((zK.getD (Int.tmod (w64 ((Int.tmod a2 4)+4)) 4).toNat dd).X)*((a1.getD x9.toNat dd).X)))-(w64 (((zK.getD (Int.tmod (w64 ((Int.tmod a2 4)+4)) 4).toNat dd).Y)*((a1.getD x9.toNat dd).Y))))) (w64 ((w64 (((zK.getD (Int.tmod (w64 ((Int.tmod a2 4)+4)) 4).toNat dd).Y)*((a1.getD x9.toNat dd).X)))+(w64 (((zK.getD (Int.tmod (w64 ((Int.tmod a2 4)+4)) 4).toNat dd).X)*((a1.getD x9.toNat dd).Y))))))) (w64 (x9+1)) else none else none else some l8
def qBP (a1:List qA) (a2:Int):Option (List qA):= (BL a1).bind λv3=> bif !v3 then some ([]:List qA) else bif inb (Int.tmod (w64 ((Int.tmod a2 4)+4)) 4) 4 then bif mkOk (a1.length:Int) 16 then (RT a1 a2 FUEL (List.replicate ((a1.length:Int).toNat) (qA.mk 0 0)) 0).bind λo14=> some o14 else none else none
def RQ (a1:Ring):Nat->(List qA)->Int->Option (List qA)
 |0,_,_=>none
 |n+1,l9,x10=> bif decide (x10<(a1.Read.length:Int)) then bif inb x10 a1.Read.length then bif inb x10 l9.length then (RQ a1 n) (l9.set x10.toNat ((a1.Read.getD x10.toNat dd).P)) (w64 (x10+1)) else none else none else some l9
def RJ (v17:(List qA)):Nat->Int->(List qP)->Option (List qP)
 |0,_,_=>none
 |n+1,x19,l20=> bif decide (x19<(v17.length:Int)) then bif inb x19 v17.length then bif inb x19 l20.length then (RJ v17 n) (w64 (x19+1)) (l20.set x19.toNat (qP.mk (v17.getD x19.toNat dd) ((l20.getD x19.toNat dd).Ok))) else none else none else some l20
def qBF (a1:Ring) (a2:Int):Option Ring:= (FX a1).bind λv3=> (PI a1).bind λv5=> bif v5 !=0 then some (Ring.mk v3.Z v3.Read) else bif mkOk (a1.Read.length:Int) 16 then (RQ a1 FUEL (List.replicate ((a1.Read.length:Int).toNat) (qA.mk 0 0)) 0).bind λo15=> (qBP o15 a2).bind λv17=> (RJ v17 FUEL 0 v3.Read).bind λo25=> some (Ring.mk v3.Z o25) else none
def WV (a1:Scan) (a2:Int):Nat->Int->(List Ring)->Option (List Ring)
 |0,_,_=>none
 |n+1,x11,l12=> bif decide (x11<(a1.Rings.length:Int)) then bif inb x11 a1.Rings.length then (qBF (a1.Rings.getD x11.toNat dd) a2).bind λv19=> bif inb x11 l12.length then (WV a1 a2 n) (w64 (x11+1)) (l12.set x11.toNat v19) else none else none else some l12
def QS (a1:Scan) (a2:Int):Option Scan:= (NY a1).bind λv3=> bif v3 !=0 then (qH4 a1).bind λv6=> some (Scan.mk v6.Rings v6.Defects) else bif mkOk (a1.Rings.length:Int) 32 then (MO a1.Defects a2).bind λv9=> (WV a1 a2 FUEL 0 (List.replicate ((a1.Rings.length:Int).toNat) (Ring.mk 0 []))).bind λo23=> some (Scan.mk o23 v9) else none
def UU (x3:Int) (R:(List Int)->Int->Option (List Int)) (l8:List Int):Option (List Int):= R l8 (w64 (x3+1))
def yB (a1:Ring):Nat->(List Int)->Int->Option (List Int)
 |0,_,_=>none
 |n+1,l2,x3=> bif decide (x3<(a1.Read.length:Int)) then bif inb x3 a1.Read.length then bif (a1.Read.getD x3.toNat dd).Ok then bif room (l2.length+1) 8 then UU x3 (yB a1 n) (l2++[x3]) else none else UU x3 (yB a1 n) l2 else none else some l2
def YA (a1:Ring):Option (List Int):= (yB a1 FUEL [] 0).bind λo10=> some o10
def qBw (x5:Bool):Option Bool:= some x5
def qEz (a1:qA) (a2:qA) (a3:Int):Option Bool:= bif decide ((imax (w64 (a1.X-a2.X)) (w64 (a2.X-a1.X)))>a3) then qBw true else qBw (decide ((imax (w64 (a1.Y-a2.Y)) (w64 (a2.Y-a1.Y)))>a3))
def HJ (x18:Int) (R:Bool->Int->Option Bool) (x28:Bool):Option Bool:= R x28 (w64 (x18+1))
def jK (a1:Ring) (a2:Int) (v5:(List Int)) (x13:Int):Nat->Bool->Int->Option Bool
 |0,_,_=>none
 |n+1,x17,x18=> bif decide (x18<2) then bif inb x18 2 then bif nz (v5.length:Int) then bif inb (Int.tmod (w64 ((w64 (x13+(v5.length:Int)))+(([(-1),1]:List Int).getD x18.toNat 0))) (v5.length:Int)) v5.length then bif inb (v5.getD ((Int.tmod (w64 ((w64 (x13+(v5.length:Int)))+(([(-1),1]:List Int).getD x18.toNat 0))) (v5.length:Int)).toNat) dd) a1.Read.length then bif x17 then bif inb (v5.getD x13.toNat dd) a1.Read.length then (qEz ((a1.Read.getD (v5.getD x13.toNat dd).toNat dd).P) ((a1.Read.getD (v5.getD ((Int.tmod (w64 ((w64 (x13+(v5.length:Int)))+(([(-1),1]:List Int).getD x18.toNat 0))) (v5.length:Int)).toNat) dd).toNat dd).P) a2).bind λv26=> HJ x18 (jK a1 a2 v5 x13 n) v26 else none else HJ x18 (jK a1 a2 v5 x13 n) false
 else none else none else none else none else some x17
def HD (x13:Int) (R:Int->(List qP)->Option (List qP)) (l34:List qP):Option (List qP):= R (w64 (x13+1)) l34
def ZS (a1:Ring) (a2:Int) (v5:(List Int)):Nat->Int->(List qP)->Option (List qP)
 |0,_,_=>none
 |n+1,x13,l14=> bif decide (x13<(v5.length:Int)) then bif inb x13 v5.length then (jK a1 a2 v5 x13 FUEL true 0).bind λo30=> bif o30 then bif inb (v5.getD x13.toNat dd) l14.length then HD x13 (ZS a1 a2 v5 n) (l14.set ((v5.getD x13.toNat dd).toNat) (qP.mk (qA.mk 0 0) false)) else none else HD x13 (ZS a1 a2 v5 n) l14 else none else some l14
def VY (a1:Ring) (a2:Int) (v3:Ring) (v5:(List Int)) (x11:Bool):Option Ring:= bif x11 then some (Ring.mk v3.Z v3.Read) else (ZS a1 a2 v5 FUEL 0 v3.Read).bind λo36=> some (Ring.mk v3.Z o36)
def AG (a1:Ring) (a2:Int):Option Ring:= (FX a1).bind λv3=> (YA a1).bind λv5=> bif decide (a2<0) then VY a1 a2 v3 v5 true else bif decide ((v5.length:Int)<2) then VY a1 a2 v3 v5 true else (PI a1).bind λv9=> VY a1 a2 v3 v5 (v9 !=0)
def GE (a1:Ring) (a2:List Int) (a3:Int):Option Int:= bif decide ((w64 (a3+1))<(a2.length:Int)) then bif inb (w64 (a3+1)) a2.length then bif inb a3 a2.length then some (w64 ((w64 ((a2.getD (w64 (a3+1)).toNat dd)-(a2.getD a3.toNat dd)))-1)) else none else none else bif inb 0 a2.length then bif inb a3 a2.length then some (w64 ((w64 ((w64 ((a2.getD (0:Int).toNat dd)+(a1.Read.length:Int)))-(a2.getD a3.toNat dd)))-1)) else none else none
def TK (a1:Ring) (v2:(List Int)):Nat->Int->Int->Option Int
 |0,_,_=>none
 |n+1,x5,x6=> bif decide (x6<(v2.length:Int)) then (GE a1 v2 x6).bind λv8=> (TK a1 v2 n) (imax x5 v8) (w64 (x6+1)) else some x5
def EY (a1:Ring):Option (Int×Int):= (YA a1).bind λv2=> bif (v2.length:Int)==0 then some (w64 ((a1.Read.length:Int)-(v2.length:Int)),w64 ((a1.Read.length:Int)-(v2.length:Int))) else (TK a1 v2 FUEL 0 0).bind λo11=> some (w64 ((a1.Read.length:Int)-(v2.length:Int)),o11)
def HF (x5:Int):Option Int:= some x5
def FC (a1:Int) (a2:Int):Option Int:= bif nz a2 then bif decide ((Int.tmod a1 a2)<0) then HF (w64 ((w64 (Int.tdiv a1 a2))-1)) else HF (w64 (Int.tdiv a1 a2)) else none
def XB (a1:Ring) (v6:(List Int)) (x16:Int) (v24:Int):Nat->(List qA)->Int->Option (List qA)
 |0,_,_=>none
 |n+1,l26,x27=> bif decide (x27<=v24) then bif nz (l26.length:Int) then (FC (w64 ((w64 ((((a1.Read.getD (v6.getD ((Int.tmod (w64 (x16+1)) (v6.length:Int)).toNat) dd).toNat dd).P).X)-(((a1.Read.getD (v6.getD x16.toNat dd).toNat dd).P).X)))*x27)) (w64 (v24+1))).bind λv30=> (FC (w64 ((w64 ((((a1.Read.getD (v6.getD ((Int.tmod (w64 (x16+1)) (v6.length:Int)).toNat) dd).toNat dd).P).Y)-(((a1.Read.getD (v6.getD x16.toNat dd).toNat dd).P).Y)))*x27)) (w64 (v24+1))).bind λv32=> bif inb (Int.tmod (w64 ((v6.getD x16.toNat dd)+x27)) (l26.length:Int)) l26.length then (XB a1 v6 x16 v24 n) (l26.set ((Int.tmod (w64 ((v6.getD x16.toNat dd)+x27)) (l26.length:Int)).toNat) (qA.mk (w64 ((((a1.Read.getD (v6.getD x16.toNat dd).toNat dd).P).X)+v30)) (w64 ((((a1.Read.getD (v6.getD x16.toNat dd).toNat dd).P).Y)+v32)))) (w64 (x27+1))
 else none else none else some l26
def WN (a1:Ring) (v6:(List Int)):Nat->(List qA)->Int->Option (List qA)
 |0,_,_=>none
 |n+1,l15,x16=> bif decide (x16<(v6.length:Int)) then bif inb x16 v6.length then bif inb (v6.getD x16.toNat dd) a1.Read.length then bif nz (v6.length:Int) then bif inb (Int.tmod (w64 (x16+1)) (v6.length:Int)) v6.length then bif inb (v6.getD ((Int.tmod (w64 (x16+1)) (v6.length:Int)).toNat) dd) a1.Read.length then bif inb (v6.getD x16.toNat dd) l15.length then (GE a1 v6 x16).bind λv24=> (XB a1 v6 x16 v24 FUEL (l15.set ((v6.getD x16.toNat dd).toNat) ((a1.Read.getD (v6.getD x16.toNat dd).toNat dd).P)) 1).bind λo36=> (WN a1 v6 n) o36 (w64 (x16+1)) else none else none else none else none else none else none else some l15
def RR (a1:Ring) (v6:(List Int)) (x12:Bool):Option ((List qA)×Int):= bif x12 then some ([],30) else bif mkOk (a1.Read.length:Int) 16 then (WN a1 v6 FUEL (List.replicate ((a1.Read.length:Int).toNat) (qA.mk 0 0)) 0).bind λo39=> some (o39,0) else none
def MR (a1:Ring) (a2:Int):Option ((List qA)×Int):= (PI a1).bind λv3=> bif v3 !=0 then some ([],v3) else (YA a1).bind λv6=> (EY a1).bind λv8=> bif decide ((v6.length:Int)<3) then RR a1 v6 true else bif decide (v8.1>0) then RR a1 v6 (decide (v8.2>a2)) else RR a1 v6 false
def FQ (x3:Bool):Option Bool:= some x3
def GI (a1:Int):Option Bool:= bif decide (a1≥(-600)) then FQ (decide (a1<=600)) else FQ false
def GU (x2:Int) (R:Int->Option (Bool⊕Unit)) (x10:Bool):Option (Bool⊕Unit):= bif x10 then some (Sum.inl false) else R (w64 (x2+1))
def ZK (a1:List qA):Nat->Int->Option (Bool⊕Unit)
 |0,_=>none
 |n+1,x2=> bif decide (x2<(a1.length:Int)) then bif inb x2 a1.length then (GI ((a1.getD x2.toNat dd).X)).bind λv5=> bif !v5 then GU x2 (ZK a1 n) true else (GI ((a1.getD x2.toNat dd).Y)).bind λv8=> GU x2 (ZK a1 n) (!v8) else none else some (Sum.inr ())
def XJ (a1:List qA):Option Bool:= (ZK a1 FUEL 0).bind λu14=>Sum.elim (λv15=>some v15) (λo12=> some true) u14
def KO (a1:List qA):Nat->Int->Int->Option Int
 |0,_,_=>none
 |n+1,x7,x8=> bif decide (x8<(a1.length:Int)) then bif inb x8 a1.length then bif nz (a1.length:Int) then bif inb (Int.tmod (w64 (x8+1)) (a1.length:Int)) a1.length then (KO a1 n) (w64 (x7+(w64 ((w64 (((a1.getD x8.toNat dd).X)*((a1.getD (Int.tmod (w64 (x8+1)) (a1.length:Int)).toNat dd).Y)))-(w64 (((a1.getD (Int.tmod (w64 (x8+1)) (a1.length:Int)).toNat dd).X)*((a1.getD x8.toNat dd).Y))))))) (w64 (x8+1)) else none else none else none else some x7
def HR (a1:List qA) (x5:Bool):Option Int:= bif x5 then some 0 else (KO a1 FUEL 0 0).bind λo14=> some o14
def AP (a1:List qA):Option Int:= bif decide ((a1.length:Int)>32) then HR a1 true else (XJ a1).bind λv3=> HR a1 (!v3)
def AQ (a1:List qA):Option Int:= bif decide ((a1.length:Int)<3) then some 3 else bif decide ((a1.length:Int)>32) then some 4 else (XJ a1).bind λv4=> bif !v4 then some 9 else (AP a1).bind λv7=> bif v7==0 then some 19 else some 0
def JG (a1:Int) (a2:Int):Option Span:= some (Span.mk (w64 (10*a1)) (w64 (10*a2)))
def ZZ (a1:List qA):Option (List qA):= bif room a1.length 16 then some a1 else none
def VU (a1:Int):Option Bool:= some (a1 !=a1)
def JJ (a1:Int) (a2:Int):Option Int:= (VU a1).bind λv3=> (VU a2).bind λv5=> bif v3 then bif v5 then some 0 else some (-1) else bif v5 then some 1 else bif decide (a1<a2) then some (-1) else bif decide (a1>a2) then some 1 else some 0
def YV (a1:List Int):Nat->Int->Option (Int⊕Unit)
 |0,_=>none
 |n+1,x2=> bif decide (x2<(a1.length:Int)) then bif inb x2 a1.length then bif (a1.getD x2.toNat dd) !=0 then some (Sum.inl (a1.getD x2.toNat dd)) else (YV a1 n) (w64 (x2+1)) else none else some (Sum.inr ())
def MS (a1:List Int):Option Int:= (YV a1 FUEL 0).bind λu8=>Sum.elim (λv9=>some v9) (λo6=> some 0) u8
def poly_Hull_1 (a1:qA) (a2:qA):Option Int:= (JJ a1.X a2.X).bind λv3=> (JJ a1.Y a2.Y).bind λv5=> (MS [v3,v5]).bind λv7=> some v7
def QD (a1:List qA):Option (List qA):= bif qKp a1.length then some (VN poly_Hull_1 a1) else none
def ZF (x12:Int) (R:(List qA)->Int->Int->Option ((List qA)×Int)) (l19:List qA) (x20:Int):Option ((List qA)×Int):= R l19 x20 (w64 (x12+1))
def wN (l3:List qA) (x4:Int):Nat->(List qA)->Int->Int->Option ((List qA)×Int)
 |0,_,_,_=>none
 |n+1,l10,x11,x12=> bif decide (x12<(((l3.length-x4.toNat):Nat):Int)) then bif inb x12 (l3.length-x4.toNat) then bif Nat.ble (x4.toNat+(l3.length-x4.toNat)) l10.length then bif inb (w64 (x12-1)) (l3.length-x4.toNat) then bif !((((l10.getD (x4.toNat+x12.toNat) dd).X)==((l10.getD (x4.toNat+((w64 (x12-1)).toNat)) dd).X))&&((((l10.getD (x4.toNat+x12.toNat) dd).Y)==((l10.getD (x4.toNat+((w64 (x12-1)).toNat)) dd).Y))&&true)) then bif inb x11 l10.length then ZF x12 (wN l3 x4 n) (l10.set x11.toNat (l10.getD (x4.toNat+x12.toNat) dd)) (w64 (x11+1)) else none else ZF x12 (wN l3 x4 n) l10 x11 else none else none else none else some (l10,x11)
def jB :Nat->(List qA)->Int->Option (((List qA)×(List qA))⊕(List qA))
 |0,_,_=>none
 |n+1,l3,x4=> bif decide (x4<(l3.length:Int)) then bif inb x4 l3.length then bif inb (w64 (x4-1)) l3.length then bif ((((l3.getD x4.toNat dd).X)==((l3.getD ((w64 (x4-1)).toNat) dd).X))&&((((l3.getD x4.toNat dd).Y)==((l3.getD ((w64 (x4-1)).toNat) dd).Y))&&true)) then bif slOk x4 (l3.length:Int) l3.length then (wN l3 x4 FUEL l3 x4 1).bind λo23=> bif slOk o23.2 (o23.1.length:Int) o23.1.length then bif slOk 0 o23.2 o23.1.length then some (Sum.inl ((o23.1.take o23.2.toNat),(o23.1.take o23.2.toNat))) else none else none else none else (jB n) l3 (w64 (x4+1)) else none else none else some (Sum.inr l3)
def jS (a1:List qA):Option ((List qA)×(List qA)):= bif decide ((a1.length:Int)<2) then some (a1,a1) else (jB FUEL a1 1).bind λu30=>Sum.elim (λv31=>some v31) (λo28=> some (o28,o28)) u30
def OL (a1:qA) (a2:qA) (a3:qA):Option Int:= some (w64 ((w64 ((w64 (a2.X-a1.X))*(w64 (a3.Y-a1.Y))))-(w64 ((w64 (a3.X-a1.X))*(w64 (a2.Y-a1.Y))))))
def MY (l6:List qA) (R:(List qA)->Option (List qA)) (x12:Bool):Option (List qA):= bif x12 then bif slOk 0 (w64 ((l6.length:Int)-1)) l6.length then R (l6.take ((w64 ((l6.length:Int)-1)).toNat)) else none else some l6
def JY (a1:List qA) (x3:Int):Nat->(List qA)->Option (List qA)
 |0,_=>none
 |n+1,l6=> bif decide ((l6.length:Int)≥2) then bif inb (w64 ((l6.length:Int)-2)) l6.length then bif inb (w64 ((l6.length:Int)-1)) l6.length then (OL (l6.getD ((w64 ((l6.length:Int)-2)).toNat) dd) (l6.getD ((w64 ((l6.length:Int)-1)).toNat) dd) (a1.getD x3.toNat dd)).bind λv10=> MY l6 (JY a1 x3 n) (decide (v10<=0)) else none else none else MY l6 (JY a1 x3 n) false
def VG (a1:List qA):Nat->(List qA)->Int->Option (List qA)
 |0,_,_=>none
 |n+1,l2,x3=> bif decide (x3<(a1.length:Int)) then bif inb x3 a1.length then (JY a1 x3 FUEL l2).bind λo16=> bif room (o16.length+1) 16 then (VG a1 n) (o16++[(a1.getD x3.toNat dd)]) (w64 (x3+1)) else none else none else some l2
def FA (a1:List qA):Option (List qA):= (VG a1 FUEL [] 0).bind λo20=> bif slOk 0 (w64 ((o20.length:Int)-1)) o20.length then some (o20.take ((w64 ((o20.length:Int)-1)).toNat)) else none
def jZ :Nat->(List qA)->Int->Int->Option (List qA)
 |0,_,_,_=>none
 |n+1,l2,x3,x4=> bif decide (x3<x4) then bif inb x4 l2.length then bif inb x3 l2.length then (jZ n) ((l2.set x3.toNat (l2.getD x4.toNat dd)).set x4.toNat (l2.getD x3.toNat dd)) (w64 (x3+1)) (w64 (x4-1)) else none else none else some l2
def QQ (a1:List qA):Option (List qA):= (jZ FUEL a1 0 (w64 ((a1.length:Int)-1))).bind λo9=> some o9
def BM (a1:List qA) (x6:Bool):Option (List qA):= bif x6 then some ([]:List qA) else (ZZ a1).bind λv8=> (QD v8).bind λv10=> bif v10.length==v8.length then (jS v10).bind λv13=> (FA v13.2).bind λv15=> (QQ v13.2).bind λv17=> bif v17.length==v13.2.length then (FA v17).bind λv20=> bif room (v15.length+v20.length) 16 then bif decide ((((v15.length+v20.length):Nat):Int)<3) then some ([]:List qA) else some (v15++v20) else none else none else none
def qCa (a1:List qA):Option (List qA):= bif decide ((a1.length:Int)<3) then BM a1 true else bif decide ((a1.length:Int)>32) then BM a1 true else (XJ a1).bind λv4=> BM a1 (!v4)
def TP (a1:List qA):Nat->Int->Rect->Option Rect
 |0,_,_=>none
 |n+1,x4,x5=> bif decide (x4<(a1.length:Int)) then bif inb x4 a1.length then (TP a1 n) (w64 (x4+1)) (Rect.mk (Span.mk (imin x5.X.A ((a1.getD x4.toNat dd).X)) (imax x5.X.B ((a1.getD x4.toNat dd).X))) (Span.mk (imin x5.Y.A ((a1.getD x4.toNat dd).Y)) (imax x5.Y.B ((a1.getD x4.toNat dd).Y)))) else none else some x5
def MH (a1:List qA):Option Rect:= bif (a1.length:Int)==0 then some (Rect.mk (Span.mk 0 0) (Span.mk 0 0)) else bif inb 0 a1.length then (TP a1 FUEL 0 (Rect.mk (Span.mk ((a1.getD (0:Int).toNat dd).X) ((a1.getD (0:Int).toNat dd).X)) (Span.mk ((a1.getD (0:Int).toNat dd).Y) ((a1.getD (0:Int).toNat dd).Y)))).bind λo9=> some o9 else none
def HU (x5:Int):Option Int:= some x5
def FE (a1:Int) (a2:Int):Option Int:= bif nz a2 then bif decide ((Int.tmod a1 a2)<0) then HU (w64 ((w64 (Int.tdiv a1 a2))-1)) else HU (w64 (Int.tdiv a1 a2)) else none
def PD (x6:Int) (R:Int->Int->Int->Option (Int×Int)) (x23:Int) (x24:Int):Option (Int×Int):= R x23 x24 (w64 (x6+1))
def PE (a1:Int) (a3:List qA) (x4:Int) (x5:Int) (x6:Int) (R:Int->Int->Int->Option (Int×Int)) (x19:Bool):Option (Int×Int):= bif x19 then (FE (w64 ((w64 (((a3.getD ((Int.tmod (w64 (x6+1)) (a3.length:Int)).toNat) dd).X)-((a3.getD x6.toNat dd).X)))*(w64 (a1-((a3.getD ((Int.tmod (w64 (x6+1)) (a3.length:Int)).toNat) dd).Y))))) (w64 (((a3.getD x6.toNat dd).Y)-((a3.getD ((Int.tmod (w64 (x6+1)) (a3.length:Int)).toNat) dd).Y)))).bind λv21=> PD x6 R (w64 (((a3.getD ((Int.tmod (w64 (x6+1)) (a3.length:Int)).toNat) dd).X)-v21)) x5 else PD x6 R x4 x5
def PP (a1:Int) (a3:List qA) (x4:Int) (x5:Int) (x6:Int) (R:Int->Int->Int->Option (Int×Int)) (x13:Bool):Option (Int×Int):= bif x13 then (FE (w64 ((w64 (((a3.getD ((Int.tmod (w64 (x6+1)) (a3.length:Int)).toNat) dd).X)-((a3.getD x6.toNat dd).X)))*(w64 (a1-((a3.getD x6.toNat dd).Y))))) (w64 (((a3.getD ((Int.tmod (w64 (x6+1)) (a3.length:Int)).toNat) dd).Y)-((a3.getD x6.toNat dd).Y)))).bind λv15=> PD x6 R x4 (w64 (((a3.getD x6.toNat dd).X)+v15)) else bif decide (((a3.getD x6.toNat dd).Y)>((a3.getD ((Int.tmod (w64 (x6+1)) (a3.length:Int)).toNat) dd).Y)) then bif decide (((a3.getD ((Int.tmod (w64 (x6+1)) (a3.length:Int)).toNat) dd).Y)<=a1) then PE a1 a3 x4 x5 x6 R (decide (a1<=((a3.getD x6.toNat dd).Y)))
 else PE a1 a3 x4 x5 x6 R false else PE a1 a3 x4 x5 x6 R false
def wS (a1:Int) (a3:List qA):Nat->Int->Int->Int->Option (Int×Int)
 |0,_,_,_=>none
 |n+1,x4,x5,x6=> bif decide (x6<(a3.length:Int)) then bif inb x6 a3.length then bif nz (a3.length:Int) then bif inb (Int.tmod (w64 (x6+1)) (a3.length:Int)) a3.length then bif decide (((a3.getD x6.toNat dd).Y)<((a3.getD ((Int.tmod (w64 (x6+1)) (a3.length:Int)).toNat) dd).Y)) then bif decide (((a3.getD x6.toNat dd).Y)<=a1) then PP a1 a3 x4 x5 x6 (wS a1 a3 n) (decide (a1<=((a3.getD ((Int.tmod (w64 (x6+1)) (a3.length:Int)).toNat) dd).Y))) else PP a1 a3 x4 x5 x6 (wS a1 a3 n) false else PP a1 a3 x4 x5 x6 (wS a1 a3 n) false else none else none else none else some (x4,x5)
def TB (a1:Int) (a2:Rect) (a3:List qA):Option (Int×Int):= (wS a1 a3 FUEL a2.X.A a2.X.B 0).bind λo27=> some (o27.1,o27.2)
def KJ (a2:Int) (a3:Int) (v4:(List qA)) (v6:Rect) (x11:Bool):Option Span:= bif x11 then some (Span.mk 0 0) else (TB a2 v6 v4).bind λv13=> (TB a3 v6 v4).bind λv15=> bif decide ((imax v13.1 v15.1)≥(imin v13.2 v15.2)) then some (Span.mk 0 0) else some (Span.mk (imax v13.1 v15.1) (imin v13.2 v15.2))
def OT (a1:List qA) (a2:Int) (a3:Int):Option Span:= (qCa a1).bind λv4=> (MH v4).bind λv6=> bif (v4.length:Int)==0 then KJ a2 a3 v4 v6 true else bif decide (a2≥a3) then KJ a2 a3 v4 v6 true else bif decide (a2<v6.Y.A) then KJ a2 a3 v4 v6 true else KJ a2 a3 v4 v6 (decide (a3>v6.Y.B))
def NK (a1:Int) (a2:List qA):Option Span:= (JG a1 (w64 (a1+1))).bind λv3=> (OT a2 v3.A v3.B).bind λv5=> some v5
def jQ (a1:Span):Option Bool:= some (decide (a1.A≥a1.B))
def XO (x3:Int) (R:Int->Int->Int->(List Span)->Option (Int×Int×(List Span))) (x17:Int) (x18:Int) (l19:List Span):Option (Int×Int×(List Span)):= R x17 (w64 (x3+1)) x18 l19
def UE (x3:Int) (l5:List Span) (R:Int->Int->Int->(List Span)->Option (Int×Int×(List Span))) (v7:Span) (x13:Int):Option (Int×Int×(List Span)):= bif room (l5.length+1) 16 then XO x3 R (((l5.length+1):Nat):Int) x13 (l5++[v7]) else none
def wO (a1:List qA):Nat->Int->Int->Int->(List Span)->Option (Int×Int×(List Span))
 |0,_,_,_,_=>none
 |n+1,x2,x3,x4,l5=> bif decide (x3<60) then (NK x3 a1).bind λv7=> (jQ v7).bind λv9=> bif !v9 then bif x2==0 then UE x3 l5 (wO a1 n) v7 x3 else UE x3 l5 (wO a1 n) v7 x4 else bif decide (x2>0) then bif room (l5.length+1) 16 then XO x3 (wO a1 n) x2 x4 (l5++[(Span.mk 0 0)]) else none else XO x3 (wO a1 n) x2 x4 l5 else some (x2,x4,l5)
def VR (a1:List qA):Option qG:= (wO a1 FUEL 0 (-60) 0 []).bind λo23=> bif slOk 0 o23.1 o23.2.2.length then some (qG.mk o23.2.1 (o23.2.2.take o23.1.toNat)) else none
def ID (a1:List qA):Option (qG×Int):= (AQ a1).bind λv2=> bif v2 !=0 then some ((qG.mk 0 []),v2) else (VR a1).bind λv5=> bif (v5.Rows.length:Int)==0 then some ((qG.mk 0 []),18) else some ((qG.mk v5.Low v5.Rows),0)
def RV (a1:Ring) (a2:Int) (a3:Int):Option (qG×Int):= (AG a1 a2).bind λv4=> (MR (Ring.mk v4.Z v4.Read) a3).bind λv6=> bif v6.2 !=0 then some ((qG.mk 0 []),v6.2) else (ID v6.1).bind λv9=> some ((qG.mk v9.1.Low v9.1.Rows),v9.2)
def PG (x3:Bool):Option Bool:= some x3
def PQ (a1:Span):Option Bool:= bif decide ((imin a1.A a1.B)≥(-600)) then PG (decide ((imax a1.A a1.B)<=600)) else PG false
def QL (a1:qG):Nat->Int->Option (Int⊕Unit)
 |0,_=>none
 |n+1,x6=> bif decide (x6<(a1.Rows.length:Int)) then bif inb x6 a1.Rows.length then (PQ (a1.Rows.getD x6.toNat dd)).bind λv9=> bif !v9 then some (Sum.inl 9) else (QL a1 n) (w64 (x6+1)) else none else some (Sum.inr ())
def UR (x27:Int) (R:Int->Option (Int⊕Unit)) (x33:Bool):Option (Int⊕Unit):= bif x33 then some (Sum.inl 19) else R (w64 (x27+1))
def jH (a1:qG):Nat->Int->Option (Int⊕Unit)
 |0,_=>none
 |n+1,x27=> bif decide (x27<(a1.Rows.length:Int)) then bif inb x27 a1.Rows.length then (jQ (a1.Rows.getD x27.toNat dd)).bind λv30=> bif v30 then UR x27 (jH a1 n) (!((((a1.Rows.getD x27.toNat dd).A)==0)&&((((a1.Rows.getD x27.toNat dd).B)==0)&&true))) else UR x27 (jH a1 n) false else none else some (Sum.inr ())
def UK (a1:qG) (x25:Bool):Option Int:= bif x25 then some 19 else (jH a1 FUEL 0).bind λu37=>Sum.elim (λv38=>some v38) (λo35=> some 0) u37
def UO (a1:qG) (x4:Bool):Option Int:= bif x4 then some 9 else (QL a1 FUEL 0).bind λu14=>Sum.elim (λv15=>some v15) (λo12=> bif (a1.Rows.length:Int)==0 then bif a1.Low !=0 then some 19 else some 0 else bif inb 0 a1.Rows.length then (jQ (a1.Rows.getD (0:Int).toNat dd)).bind λv19=> bif v19 then UK a1 true else bif inb (w64 ((a1.Rows.length:Int)-1)) a1.Rows.length then (jQ (a1.Rows.getD (w64 ((a1.Rows.length:Int)-1)).toNat dd)).bind λv23=> UK a1 v23 else none else none) u14
def KN (a1:qG):Option Int:= bif decide ((a1.Rows.length:Int)>120) then some 4 else bif decide (a1.Low<(-60)) then UO a1 true else UO a1 (decide (a1.Low>(w64 (60-(a1.Rows.length:Int)))))
def QI (a1:qG):Option qG:= (KN a1).bind λv2=> bif v2 !=0 then some (qG.mk 0 []) else some a1
def HY (a1:qG) (a2:Int) (x4:Bool):Option Span:= bif x4 then some (Span.mk 0 0) else bif inb (w64 (a2-a1.Low)) a1.Rows.length then some (a1.Rows.getD (w64 (a2-a1.Low)).toNat dd) else none
def NP (a1:qG) (a2:Int):Option Span:= bif decide (a2<a1.Low) then HY a1 a2 true else HY a1 a2 (decide (a2≥(w64 (a1.Low+(a1.Rows.length:Int)))))
def JA (a1:Span) (a2:Span):Option Span:= bif decide ((imax a1.A a2.A)≥(imin a1.B a2.B)) then some (Span.mk 0 0) else some (Span.mk (imax a1.A a2.A) (imin a1.B a2.B))
def RS (a1:Int) (a2:qG) (a3:qG):Option Span:= (NP a2 a1).bind λv4=> (NP a3 a1).bind λv6=> (JA v4 v6).bind λv8=> some v8
def ZY (x4:Int) (R:Int->Int->Int->(List Span)->Option (Int×Int×(List Span))) (x18:Int) (x19:Int) (l20:List Span):Option (Int×Int×(List Span)):= R x18 (w64 (x4+1)) x19 l20
def XY (x4:Int) (l6:List Span) (R:Int->Int->Int->(List Span)->Option (Int×Int×(List Span))) (v8:Span) (x14:Int):Option (Int×Int×(List Span)):= bif room (l6.length+1) 16 then ZY x4 R (((l6.length+1):Nat):Int) x14 (l6++[v8]) else none
def wC (a1:qG) (a2:qG):Nat->Int->Int->Int->(List Span)->Option (Int×Int×(List Span))
 |0,_,_,_,_=>none
 |n+1,x3,x4,x5,l6=> bif decide (x4<60) then (RS x4 a1 a2).bind λv8=> (jQ v8).bind λv10=> bif !v10 then bif x3==0 then XY x4 l6 (wC a1 a2 n) v8 x4 else XY x4 l6 (wC a1 a2 n) v8 x5 else bif decide (x3>0) then bif room (l6.length+1) 16 then ZY x4 (wC a1 a2 n) x3 x5 (l6++[(Span.mk 0 0)]) else none else ZY x4 (wC a1 a2 n) x3 x5 l6 else some (x3,x5,l6)
def XE (a1:qG) (a2:qG):Option qG:= (wC a1 a2 FUEL 0 (-60) 0 []).bind λo24=> bif slOk 0 o24.1 o24.2.2.length then some (qG.mk o24.2.1 (o24.2.2.take o24.1.toNat)) else none
def TT (a1:qG) (a2:qG):Option qG:= (QI a1).bind λv3=> (QI a2).bind λv5=> (XE v3 v5).bind λv7=> some (qG.mk v7.Low v7.Rows)
def KM (a1:Scan) (a2:Int) (a3:Int):Nat->(List qG)->Int->Option (((List qO)×Int)⊕(List qG))
 |0,_,_=>none
 |n+1,l8,x9=> bif decide (x9<(a1.Rings.length:Int)) then bif inb x9 a1.Rings.length then (RV (a1.Rings.getD x9.toNat dd) a2 a3).bind λv12=> bif v12.2 !=0 then some (Sum.inl ([],30)) else bif inb x9 l8.length then (KM a1 a2 a3 n) (l8.set x9.toNat v12.1) (w64 (x9+1)) else none else none else some (Sum.inr l8)
def KI (a1:Scan) (o17:(List qG)):Nat->(List qO)->Int->Option (((List qO)×Int)⊕(List qO))
 |0,_,_=>none
 |n+1,l22,x23=> bif decide (x23<(((w64 ((a1.Rings.length:Int)-1)).toNat:Nat):Int)) then bif inb x23 o17.length then bif inb (w64 (x23+1)) o17.length then (TT (o17.getD x23.toNat dd) (o17.getD ((w64 (x23+1)).toNat) dd)).bind λv27=> bif (v27.Rows.length:Int)==0 then some (Sum.inl ([],30)) else bif inb (w64 (x23+1)) a1.Rings.length then bif inb x23 a1.Rings.length then bif inb x23 l22.length then (KI a1 o17 n) (l22.set x23.toNat (qO.mk (w64 (((a1.Rings.getD (w64 (x23+1)).toNat dd).Z)-((a1.Rings.getD x23.toNat dd).Z))) v27)) (w64 (x23+1)) else none else none else none else none else none else some (Sum.inr l22)
def NZ (a1:Scan) (a2:Int) (a3:Int):Option ((List qO)×Int):= (NY a1).bind λv4=> bif v4 !=0 then some ([],v4) else bif mkOk (a1.Rings.length:Int) 32 then (KM a1 a2 a3 FUEL (List.replicate ((a1.Rings.length:Int).toNat) (qG.mk 0 [])) 0).bind λu19=>Sum.elim (λv20=>some v20) (λo17=> bif mkOk (w64 ((a1.Rings.length:Int)-1)) 40 then (KI a1 o17 FUEL (List.replicate ((w64 ((a1.Rings.length:Int)-1)).toNat) (qO.mk 0 (qG.mk 0 []))) 0).bind λu39=>Sum.elim (λv40=>some v40) (λo37=> some (o37,0)) u39 else none) u19 else none
def wV (a1:Scan) (a2 a3 a4:Int):Option ((List qO)×(List qF)×Int):= (QS a1 a2).bind λv1=> (NZ v1 a3 a4).bind λv2=> (yN v1.Defects).bind λv3=> bif v2.2 !=0 then some ([],[],v2.2) else some (v2.1,v3,v2.2)
def qAt (a1:List qO) (x4:Int) (x5:Int) (R:Int->Int->Option (Int⊕Unit)) (x13:Bool):Option (Int⊕Unit):= bif x13 then some (Sum.inl 9) else R (w64 (x4+((a1.getD x5.toNat dd).Len))) (w64 (x5+1))
def RO (a1:List qO):Nat->Int->Int->Option (Int⊕Unit)
 |0,_,_=>none
 |n+1,x4,x5=> bif decide (x5<(a1.length:Int)) then bif inb x5 a1.length then (KN ((a1.getD x5.toNat dd).Sec)).bind λv8=> bif v8 !=0 then some (Sum.inl v8) else bif (((((a1.getD x5.toNat dd).Sec).Rows).length:Nat):Int)==0 then some (Sum.inl 18) else bif decide (((a1.getD x5.toNat dd).Len)<1) then qAt a1 x4 x5 (RO a1 n) true else qAt a1 x4 x5 (RO a1 n) (decide (((a1.getD x5.toNat dd).Len)>(w64 (20000-x4)))) else none else some (Sum.inr ())
def VZ (a1:List qO):Option Int:= bif (a1.length:Int)==0 then some 3 else bif decide ((a1.length:Int)>24) then some 4 else (RO a1 FUEL 0 0).bind λu17=>Sum.elim (λv18=>some v18) (λo15=> some 0) u17
def GF (a1:List qO):Option (List qO):= (VZ a1).bind λv2=> bif v2 !=0 then some ([]:List qO) else some a1
def LL (x6:Int) (R:Int->Span->Option Span) (x13:Span):Option Span:= R (w64 (x6+1)) x13
def YE (v2:qG):Nat->Int->Span->Option Span
 |0,_,_=>none
 |n+1,x6,x7=> bif decide (x6<(v2.Rows.length:Int)) then bif inb x6 v2.Rows.length then (jQ (v2.Rows.getD x6.toNat dd)).bind λv10=> bif !v10 then LL x6 (YE v2 n) (Span.mk (imin x7.A ((v2.Rows.getD x6.toNat dd).A)) (imax x7.B ((v2.Rows.getD x6.toNat dd).B))) else LL x6 (YE v2 n) x7 else none else some x7
def qAH (a1:qG):Option Rect:= (QI a1).bind λv2=> bif (v2.Rows.length:Int)==0 then some (Rect.mk (Span.mk 0 0) (Span.mk 0 0)) else bif inb 0 v2.Rows.length then (YE v2 FUEL 0 (v2.Rows.getD (0:Int).toNat dd)).bind λo15=> (JG v2.Low (w64 (v2.Low+(v2.Rows.length:Int)))).bind λv17=> some (Rect.mk o15 v17) else none
def AN (x4:Int) (R:Int->Rect->Option Rect) (v8:Rect) (x11:Rect):Option Rect:= R (w64 (x4+1)) (Rect.mk (Span.mk (imin x11.X.A v8.X.A) (imax x11.X.B v8.X.B)) (Span.mk (imin x11.Y.A v8.Y.A) (imax x11.Y.B v8.Y.B)))
def PN (v2:(List qO)):Nat->Int->Rect->Option Rect
 |0,_,_=>none
 |n+1,x4,x5=> bif decide (x4<(v2.length:Int)) then bif inb x4 v2.length then (qAH ((v2.getD x4.toNat dd).Sec)).bind λv8=> bif x4==0 then AN x4 (PN v2 n) v8 v8 else AN x4 (PN v2 n) v8 x5 else none else some x5
def qDK (a1:List qO):Option Rect:= (GF a1).bind λv2=> (PN v2 FUEL 0 (Rect.mk (Span.mk 0 0) (Span.mk 0 0))).bind λo13=> some o13
def NS (a1:List qO):Option Rect:= (qDK a1).bind λv2=> some v2
def SD (x3:Bool):Option Bool:= some x3
def HS (a1:Int):Option Bool:= bif decide (97<=a1) then SD (decide (a1<=122)) else SD false
def SG (x3:Bool):Option Bool:= some x3
def qCs (a1:Int):Option Bool:= bif decide (48<=a1) then SG (decide (a1<=57)) else SG false
def DH (x9:Int) (R:Int->Option (Bool⊕Unit)) (x18:Bool):Option (Bool⊕Unit):= bif x18 then some (Sum.inl false) else R (w64 (x9+1))
def JI (a1:ByteArray):Nat->Int->Option (Bool⊕Unit)
 |0,_=>none
 |n+1,x9=> bif decide (x9<(a1.size:Int)) then bif inb x9 a1.size then (HS (XW a1 x9.toNat)).bind λv12=> bif !v12 then (qCs (XW a1 x9.toNat)).bind λv15=> bif !v15 then DH x9 (JI a1 n) ((XW a1 x9.toNat) !=95) else DH x9 (JI a1 n) false else DH x9 (JI a1 n) false else none else some (Sum.inr ())
def DG (a1:ByteArray) (x7:Bool):Option Bool:= bif x7 then some false else (JI a1 FUEL 1).bind λu22=>Sum.elim (λv23=>some v23) (λo20=> some true) u22
def qEf (a1:ByteArray):Option Bool:= bif decide ((a1.size:Int)<1) then DG a1 true else bif decide ((a1.size:Int)>16) then DG a1 true else bif inb 0 a1.size then (HS (XW a1 ((0:Int).toNat))).bind λv5=> DG a1 (!v5) else none
def CA (a1:List qK) (a2:ByteArray):Nat->Int->Option ((Int×Bool)⊕Unit)
 |0,_=>none
 |n+1,x3=> bif decide (x3<(a1.length:Int)) then bif inb x3 a1.length then bif qKL ((a1.getD x3.toNat dd).Name) a2 then some (Sum.inl (x3,true)) else (CA a1 a2 n) (w64 (x3+1)) else none else some (Sum.inr ())
def qD0 (a1:List qK) (a2:ByteArray):Option (Int×Bool):= (CA a1 a2 FUEL 0).bind λu9=>Sum.elim (λv10=>some v10) (λo7=> some (0,false)) u9
def ME (x3:Bool):Option Bool:= some x3
def FV (a1:Int):Option Bool:= bif decide (a1≥1) then ME (decide (a1<=600)) else ME false
def CJ (a1:Int) (a2:Int):Option Int:= some (w64 (Int.tdiv (w64 ((w64 (a1*(w64 (1000+a2))))+999)) 1000))
def XL (a1:qK) (x9:Bool):Option (Int×Int):= bif x9 then some (0,0) else (CJ a1.Thick a1.Allow).bind λv11=> (CJ a1.Width a1.Allow).bind λv13=> some (v11,v13)
def KP (a1:qK):Option (Int×Int):= (FV a1.Thick).bind λv2=> bif !v2 then XL a1 true else (FV a1.Width).bind λv5=> bif !v5 then XL a1 true else bif decide (a1.Allow<0) then XL a1 true else XL a1 (decide (a1.Allow>200))
def KD (x18:Int) (R:Int->Option (Int⊕Unit)) (x26:Bool):Option (Int⊕Unit):= bif x26 then some (Sum.inl 11) else R (w64 (x18+1))
def KC (a1:qK) (x18:Int) (R:Int->Option (Int⊕Unit)) (x22:Bool):Option (Int⊕Unit):= bif x22 then some (Sum.inl 9) else bif decide (x18>0) then bif inb (w64 (x18-1)) a1.Lengths.length then KD x18 R (decide ((a1.Lengths.getD x18.toNat dd)<=(a1.Lengths.getD (w64 (x18-1)).toNat dd))) else none else KD x18 R false
def jG (a1:qK):Nat->Int->Option (Int⊕Unit)
 |0,_=>none
 |n+1,x18=> bif decide (x18<(a1.Lengths.length:Int)) then bif inb x18 a1.Lengths.length then bif decide ((a1.Lengths.getD x18.toNat dd)<100) then KC a1 x18 (jG a1 n) true else KC a1 x18 (jG a1 n) (decide ((a1.Lengths.getD x18.toNat dd)>20000)) else none else some (Sum.inr ())
def KB (x32:Int) (R:Int->Option (Int⊕Unit)) (x36:Bool):Option (Int⊕Unit):= bif x36 then some (Sum.inl 9) else R (w64 (x32+1))
def yR (a1:qK):Nat->Int->Option (Int⊕Unit)
 |0,_=>none
 |n+1,x32=> bif decide (x32<(a1.Prices.length:Int)) then bif inb x32 a1.Prices.length then bif decide ((a1.Prices.getD x32.toNat dd)<0) then KB x32 (yR a1 n) true else KB x32 (yR a1 n) (decide ((a1.Prices.getD x32.toNat dd)>1000000)) else none else some (Sum.inr ())
def yQ (a1:qK) (x10:Bool):Option Int:= bif x10 then some 9 else (KP a1).bind λv12=> bif decide (v12.2>600) then some 9 else bif (a1.Lengths.length:Int)==0 then some 3 else bif decide ((a1.Lengths.length:Int)>8) then some 4 else bif (a1.Prices.length:Int) !=(a1.Lengths.length:Int) then some 19 else (jG a1 FUEL 0).bind λu30=>Sum.elim (λv31=>some v31) (λo28=> (yR a1 FUEL 0).bind λu40=>Sum.elim (λv41=>some v41) (λo38=> some 0) u40) u30
def yS (a1:qK) (x5:Bool):Option Int:= bif x5 then some 9 else bif decide (a1.Allow<0) then yQ a1 true else bif decide (a1.Allow>200) then yQ a1 true else bif decide (a1.Wane<0) then yQ a1 true else yQ a1 (decide (a1.Wane>1000))
def UB (a1:qK):Option Int:= bif decide (a1.Thick<5) then yS a1 true else bif decide (a1.Thick>300) then yS a1 true else bif decide (a1.Width<a1.Thick) then yS a1 true else yS a1 (decide (a1.Width>600))
def EI (a1:List qK):Nat->Int->Option (Int⊕Unit)
 |0,_=>none
 |n+1,x3=> bif decide (x3<(a1.length:Int)) then bif inb x3 a1.length then (qEf ((a1.getD x3.toNat dd).Name)).bind λv6=> bif !v6 then some (Sum.inl 6) else bif slOk 0 x3 a1.length then (qD0 (a1.take x3.toNat) ((a1.getD x3.toNat dd).Name)).bind λv10=> bif v10.2 then some (Sum.inl 7) else (UB (a1.getD x3.toNat dd)).bind λv13=> bif v13 !=0 then some (Sum.inl v13) else (EI a1 n) (w64 (x3+1)) else none else none else some (Sum.inr ())
def JQ (a1:List qK):Option Int:= bif decide ((a1.length:Int)>16) then some 4 else (EI a1 FUEL 0).bind λu18=>Sum.elim (λv19=>some v19) (λo16=> some 0) u18
def OU (x3:Bool):Option Bool:= some x3
def IN (a1:Int):Option Bool:= bif decide (a1≥1) then OU (decide (a1<=20000)) else OU false
def IL (x3:Bool):Option Bool:= some x3
def OD (a1:Int):Option Bool:= bif decide (a1≥0) then IL (decide (a1<=1000000)) else IL false
def YT (x20:Bool):Option Int:= bif x20 then some 9 else some 0
def FO (a2:Rates) (x12:Bool):Option Int:= bif x12 then some 9 else bif decide (a2.Chip<0) then YT true else bif decide (a2.Chip>1000) then YT true else bif decide (a2.Dust<0) then YT true else bif decide (a2.Dust>1000) then YT true else (OD a2.Fine).bind λv18=> YT (!v18)
def TI (a1:Saw) (a2:Rates) (x6:Bool):Option Int:= bif x6 then some 9 else bif decide (a1.Pitch<1) then FO a2 true else bif decide (a1.Pitch>2000) then FO a2 true else (IN a1.Step).bind λv10=> FO a2 (!v10)
def qBh (a1:Saw) (a2:Rates):Option Int:= bif decide (a1.Kerf<0) then TI a1 a2 true else bif decide (a1.Kerf>20) then TI a1 a2 true else bif decide (a1.Trim<0) then TI a1 a2 true else TI a1 a2 (decide (a1.Trim>20))
def ND (x5:Int) (R:Int->Option (Int⊕Unit)) (x9:Bool):Option (Int⊕Unit):= bif x9 then some (Sum.inl 9) else R (w64 (x5+1))
def WW (a1:Rect):Nat->Int->Option (Int⊕Unit)
 |0,_=>none
 |n+1,x5=> bif decide (x5<4) then bif inb x5 4 then bif decide ((([a1.X.A,a1.X.B,a1.Y.A,a1.Y.B]:List Int).getD x5.toNat 0)<(-600)) then ND x5 (WW a1 n) true else ND x5 (WW a1 n) (decide ((([a1.X.A,a1.X.B,a1.Y.A,a1.Y.B]:List Int).getD x5.toNat 0)>600)) else none else some (Sum.inr ())
def BR (a1:Rect) (x3:Bool):Option Int:= bif x3 then some 19 else (WW a1 FUEL 0).bind λu13=>Sum.elim (λv14=>some v14) (λo11=> some 0) u13
def OY (a1:Rect):Option Int:= bif decide (a1.X.A≥a1.X.B) then BR a1 true else BR a1 (decide (a1.Y.A≥a1.Y.B))
def FN (a1:List qO) (a2:List qF) (a3:List qK) (a4:Rect) (a5:Saw) (a6:Rates):Option Int:= (VZ a1).bind λv7=> bif v7 !=0 then some v7 else (ZB a2).bind λv10=> bif v10 !=0 then some v10 else (JQ a3).bind λv13=> bif v13 !=0 then some v13 else (qBh a5 a6).bind λv16=> bif v16 !=0 then some v16 else (OY a4).bind λv19=> some v19
def EB (a1:List Int):Option (List Int):= bif Nat.blt a1.length 4611686018427387904 then some (ZV (λx y=>decide (x<=y)) a1) else none
def RC (x12:Int) (R:(List Int)->Int->Int->Option ((List Int)×Int)) (l19:List Int) (x20:Int):Option ((List Int)×Int):= R l19 x20 (w64 (x12+1))
def QC (l3:List Int) (x4:Int):Nat->(List Int)->Int->Int->Option ((List Int)×Int)
 |0,_,_,_=>none
 |n+1,l10,x11,x12=> bif decide (x12<(((l3.length-x4.toNat):Nat):Int)) then bif inb x12 (l3.length-x4.toNat) then bif Nat.ble (x4.toNat+(l3.length-x4.toNat)) l10.length then bif inb (w64 (x12-1)) (l3.length-x4.toNat) then bif (l10.getD (x4.toNat+x12.toNat) dd) !=(l10.getD (x4.toNat+((w64 (x12-1)).toNat)) dd) then bif inb x11 l10.length then RC x12 (QC l3 x4 n) (l10.set x11.toNat (l10.getD (x4.toNat+x12.toNat) dd)) (w64 (x11+1)) else none else RC x12 (QC l3 x4 n) l10 x11 else none else none else none else some (l10,x11)
def PV :Nat->(List Int)->Int->Option (((List Int)×(List Int))⊕(List Int))
 |0,_,_=>none
 |n+1,l3,x4=> bif decide (x4<(l3.length:Int)) then bif inb x4 l3.length then bif inb (w64 (x4-1)) l3.length then bif (l3.getD x4.toNat dd)==(l3.getD ((w64 (x4-1)).toNat) dd) then bif slOk x4 (l3.length:Int) l3.length then (QC l3 x4 FUEL l3 x4 1).bind λo23=> bif slOk o23.2 (o23.1.length:Int) o23.1.length then bif slOk 0 o23.2 o23.1.length then some (Sum.inl ((o23.1.take o23.2.toNat),(o23.1.take o23.2.toNat))) else none else none else none else (PV n) l3 (w64 (x4+1)) else none else none else some (Sum.inr l3)
def GM (a1:List Int):Option ((List Int)×(List Int)):= bif decide ((a1.length:Int)<2) then some (a1,a1) else (PV FUEL a1 1).bind λu30=>Sum.elim (λv31=>some v31) (λo28=> some (o28,o28)) u30
def IU (a1:List qK):Nat->(List Int)->Int->Option (List Int)
 |0,_,_=>none
 |n+1,l5,x6=> bif decide (x6<(a1.length:Int)) then bif inb x6 a1.length then (KP (a1.getD x6.toNat dd)).bind λv9=> bif room (l5.length+2) 8 then (IU a1 n) (l5++[v9.1,v9.2]) (w64 (x6+1)) else none else none else some l5
def AO (a1:List qK):Option (List Int):= (JQ a1).bind λv2=> bif v2 !=0 then some ([]:List Int) else (IU a1 FUEL [] 0).bind λo13=> (EB o13).bind λv15=> bif v15.length==o13.length then (GM v15).bind λv18=> some v18.2 else none
def NO (a1:Rect) (a2:Int) (a3:Int):Option Rect:= some (Rect.mk a1.X (Span.mk (w64 (a1.Y.A+a2)) (w64 (a1.Y.A+a3))))
def qCF (x22:Int) (R:Int->Option (Int⊕Unit)) (x26:Bool):Option (Int⊕Unit):= bif x26 then some (Sum.inl 9) else R (w64 (x22+1))
def VI (a4:Rect):Nat->Int->Option (Int⊕Unit)
 |0,_=>none
 |n+1,x22=> bif decide (x22<4) then bif inb x22 4 then bif decide ((([a4.X.A,a4.X.B,a4.Y.A,a4.Y.B]:List Int).getD x22.toNat 0)<(-600)) then qCF x22 (VI a4 n) true else qCF x22 (VI a4 n) (decide ((([a4.X.A,a4.X.B,a4.Y.A,a4.Y.B]:List Int).getD x22.toNat 0)>600)) else none else some (Sum.inr ())
def qCr (a4:Rect) (x20:Bool):Option Int:= bif x20 then some 19 else (VI a4 FUEL 0).bind λu30=>Sum.elim (λv31=>some v31) (λo28=> some 0) u30
def qHS (a1:List qO) (a2:List qF) (a3:List qK) (a4:Rect) (a5:Saw) (a6:Rates):Option Int:= (VZ a1).bind λv7=> bif v7 !=0 then some v7 else (ZB a2).bind λv10=> bif v10 !=0 then some v10 else (JQ a3).bind λv13=> bif v13 !=0 then some v13 else (qBh a5 a6).bind λv16=> bif v16 !=0 then some v16 else bif decide (a4.X.A≥a4.X.B) then qCr a4 true else qCr a4 (decide (a4.Y.A≥a4.Y.B))
def qCo (x8:Int) (R:(List Int)->(List Int)->Int->Option ((List Int)×(List Int))) (l19:List Int) (l20:List Int):Option ((List Int)×(List Int)):= R l19 l20 (w64 (x8+1))
def qCQ (l7:List Int) (x8:Int) (R:(List Int)->(List Int)->Int->Option ((List Int)×(List Int))) (l17:List Int):Option ((List Int)×(List Int)):= bif room (l7.length+1) 8 then qCo x8 R l17 (l7++[x8]) else none
def JR (a1:List qK) (a2:Int):Nat->(List Int)->(List Int)->Int->Option ((List Int)×(List Int))
 |0,_,_,_=>none
 |n+1,l6,l7,x8=> bif decide (x8<(a1.length:Int)) then bif inb x8 a1.length then (KP (a1.getD x8.toNat dd)).bind λv11=> bif a2==v11.1 then bif room (l6.length+1) 8 then qCQ l7 x8 (JR a1 a2 n) (l6++[v11.2]) else none else bif a2==v11.2 then bif room (l6.length+1) 8 then qCQ l7 x8 (JR a1 a2 n) (l6++[v11.1]) else none else qCo x8 (JR a1 a2 n) l6 l7 else none else some (l6,l7)
def IW (a1:List qK) (a2:Int):Option ((List Int)×(List Int)):= (JQ a1).bind λv3=> bif v3 !=0 then some ([],[]) else (JR a1 a2 FUEL [] [] 0).bind λo23=> some (o23.1,o23.2)
def qB9 (a1:Rect) (a2:Int) (a3:Int):Option Rect:= some (Rect.mk (Span.mk (w64 (a1.X.A+a2)) (w64 (a1.X.A+a3))) a1.Y)
def GQ (x2:Int) (R:Int->Option (Bool⊕Unit)) (x7:Bool):Option (Bool⊕Unit):= bif x7 then some (Sum.inl false) else R (w64 (x2+1))
def JF (a1:Rect):Nat->Int->Option (Bool⊕Unit)
 |0,_=>none
 |n+1,x2=> bif decide (x2<2) then bif inb x2 2 then bif decide ((([a1.X.A,a1.X.B,a1.Y.A,a1.Y.B]:List Int).getD (x2.toNat*2+0) 0)<(-600)) then GQ x2 (JF a1 n) true else bif decide ((([a1.X.A,a1.X.B,a1.Y.A,a1.Y.B]:List Int).getD (x2.toNat*2+1) 0)>600) then GQ x2 (JF a1 n) true else GQ x2 (JF a1 n) (decide ((([a1.X.A,a1.X.B,a1.Y.A,a1.Y.B]:List Int).getD (x2.toNat*2+0) 0)≥(([a1.X.A,a1.X.B,a1.Y.A,a1.Y.B]:List Int).getD (x2.toNat*2+1) 0))) else none else some (Sum.inr ())
def qEk (a1:Rect):Option Bool:= (JF a1 FUEL 0).bind λu11=>Sum.elim (λv12=>some v12) (λo9=> some true) u11
def CN (v2:(List qO)):Nat->Int->Int->Option Int
 |0,_,_=>none
 |n+1,x4,x5=> bif decide (x5<(v2.length:Int)) then bif inb x5 v2.length then (CN v2 n) (w64 (x4+((v2.getD x5.toNat dd).Len))) (w64 (x5+1)) else none else some x4
def TO (a1:List qO):Option Int:= (GF a1).bind λv2=> (CN v2 FUEL 0 0).bind λo9=> some o9
def qJ3 (a1:Span):Option Int:= bif decide (a1.A≥a1.B) then some 0 else some (IntKind.u64.wrap ((IntKind.u64.wrap (a1.B))-(IntKind.u64.wrap (a1.A))))
def qED (a1:Int):Option Int:= some (w64 (imin a1 9223372036854775807))
def qAv (a1:Span):Option Int:= (qJ3 a1).bind λv2=> (qED v2).bind λv4=> some v4
def MC (a2:Rect) (v3:qG):Nat->Int->Int->Option Int
 |0,_,_=>none
 |n+1,x5,x6=> bif decide (x6<(v3.Rows.length:Int)) then bif inb x6 v3.Rows.length then (JG (w64 (v3.Low+x6)) (w64 ((w64 (v3.Low+x6))+1))).bind λv9=> (JA (v3.Rows.getD x6.toNat dd) a2.X).bind λv11=> (qAv v11).bind λv13=> (JA v9 a2.Y).bind λv15=> (qAv v15).bind λv17=> (MC a2 v3 n) (w64 (x5+(w64 (v13*v17)))) (w64 (x6+1)) else none else some x5
def FL (a1:qG) (a2:Rect):Option Int:= (QI a1).bind λv3=> (MC a2 v3 FUEL 0 0).bind λo20=> some o20
def qAm (a1:List qO) (a2:Rect):Nat->(List zB)->Int->Int->Option (List zB)
 |0,_,_,_=>none
 |n+1,l3,x4,x5=> bif decide (x5<(a1.length:Int)) then bif inb x5 a1.length then (FL ((a1.getD x5.toNat dd).Sec) a2).bind λv8=> bif nz (w64 ((w64 (a2.X.B-a2.X.A))*(w64 (a2.Y.B-a2.Y.A)))) then bif room (l3.length+1) 24 then (qAm a1 a2 n) (l3++[(zB.mk (Span.mk x4 (w64 (x4+((a1.getD x5.toNat dd).Len)))) (w64 (Int.tdiv (w64 ((w64 ((w64 (1000*(w64 ((w64 ((w64 (a2.X.B-a2.X.A))*(w64 (a2.Y.B-a2.Y.A))))-v8))))+(w64 ((w64 (a2.X.B-a2.X.A))*(w64 (a2.Y.B-a2.Y.A))))))-1)) (w64 ((w64 (a2.X.B-a2.X.A))*(w64 (a2.Y.B-a2.Y.A)))))))]) (w64 (x4+((a1.getD x5.toNat dd).Len))) (w64 (x5+1)) else none else none else none else some l3
def qGp (a1:List qO) (a2:Rect):Option (List zB):= (qAm a1 a2 FUEL [] 0 0).bind λo13=> some o13
def NU (a1:zL) (a2:Span):Option Box:= some (Box.mk a1.rect.X a1.rect.Y a2)
def FB (v3:Span) (v5:Span) (v7:Span) (x17:Bool):Option (Box×Bool):= bif x17 then some ((Box.mk (Span.mk 0 0) (Span.mk 0 0) (Span.mk 0 0)),false) else some ((Box.mk v3 v5 v7),true)
def qGk (a1:Box) (a2:Box):Option (Box×Bool):= (JA a1.X a2.X).bind λv3=> (JA a1.Y a2.Y).bind λv5=> (JA a1.Z a2.Z).bind λv7=> (yM v3).bind λv9=> bif v9 then FB v3 v5 v7 true else (yM v5).bind λv12=> bif v12 then FB v3 v5 v7 true else (yM v7).bind λv15=> FB v3 v5 v7 v15
def FT (a1:qF) (a2:Box):Option Bool:= (qGk a1.Box a2).bind λv3=> some v3.2
def qCh (x29:Int) (R:Int->(List qF)->Option (List qF)) (l37:List qF):Option (List qF):= R (w64 (x29+1)) l37
def VK (a2:List qF) (v27:Box):Nat->Int->(List qF)->Option (List qF)
 |0,_,_=>none
 |n+1,x29,l30=> bif decide (x29<(a2.length:Int)) then bif inb x29 a2.length then (FT (a2.getD x29.toNat dd) v27).bind λv33=> bif v33 then bif room (l30.length+1) 56 then qCh x29 (VK a2 v27 n) (l30++[(a2.getD x29.toNat dd)]) else none else qCh x29 (VK a2 v27 n) l30 else none else some l30
def qCj (a1:List qO) (a2:List qF) (a3:qK) (a4:Rect) (x21:Bool):Option (zL×Bool):= bif x21 then some ((zL.mk (qK.mk (ByteArray.mk #[]) 0 0 0 0 [] []) (Rect.mk (Span.mk 0 0) (Span.mk 0 0)) 0 [] []),false) else (TO a1).bind λv23=> (qGp a1 a4).bind λv25=> (NU (zL.mk a3 a4 v23 v25 []) (Span.mk 0 v23)).bind λv27=> (VK a2 v27 FUEL 0 []).bind λo39=> some ((zL.mk a3 a4 v23 v25 o39),true)
def VT (a1:List qO) (a2:List qF) (a3:qK) (a4:Rect) (x16:Bool):Option (zL×Bool):= bif x16 then some ((zL.mk (qK.mk (ByteArray.mk #[]) 0 0 0 0 [] []) (Rect.mk (Span.mk 0 0) (Span.mk 0 0)) 0 [] []),false) else (KP a3).bind λv18=> bif !(((w64 (a4.X.B-a4.X.A))==v18.1)&&(((w64 (a4.Y.B-a4.Y.A))==v18.2)&&true)) then qCj a1 a2 a3 a4 (!(((w64 (a4.X.B-a4.X.A))==v18.2)&&(((w64 (a4.Y.B-a4.Y.A))==v18.1)&&true))) else qCj a1 a2 a3 a4 false
def qHy (a1:List qO) (a2:List qF) (a3:qK) (a4:Rect):Option (zL×Bool):= (VZ a1).bind λv5=> bif v5 !=0 then VT a1 a2 a3 a4 true else (ZB a2).bind λv8=> bif v8 !=0 then VT a1 a2 a3 a4 true else (JQ [a3]).bind λv11=> bif v11 !=0 then VT a1 a2 a3 a4 true else (qEk a4).bind λv14=> VT a1 a2 a3 a4 (!v14)
def RF (x5:Bool):Option Bool:= some x5
def qAK (a1:Span) (a2:Int):Option Bool:= bif decide (a1.A≥0) then bif decide (a1.A<a1.B) then RF (decide (a1.B<=a2)) else RF false else RF false
def SV (a1:qK) (a2:Int):Nat->Int->Option ((Int×Bool)⊕Unit)
 |0,_=>none
 |n+1,x3=> bif decide (x3<(a1.Lengths.length:Int)) then bif inb x3 a1.Lengths.length then bif (a1.Lengths.getD x3.toNat dd) !=a2 then (SV a1 a2 n) (w64 (x3+1)) else bif decide (x3≥(a1.Prices.length:Int)) then some (Sum.inl (0,false)) else bif inb x3 a1.Prices.length then some (Sum.inl ((a1.Prices.getD x3.toNat dd),true)) else none else none else some (Sum.inr ())
def qCE (a1:qK) (a2:Int):Option (Int×Bool):= (SV a1 a2 FUEL 0).bind λu11=>Sum.elim (λv12=>some v12) (λo9=> some (0,false)) u11
def qAJ (x4:Int) (R:Int->Int->Option Int) (x10:Int):Option Int:= R x10 (w64 (x4+1))
def qAp (a1:List zB) (x3:Int) (x4:Int) (R:Int->Int->Option Int) (x8:Bool):Option Int:= bif x8 then qAJ x4 R (imax x3 ((a1.getD x4.toNat dd).lack)) else qAJ x4 R x3
def YY (a1:List zB) (a2:Span):Nat->Int->Int->Option Int
 |0,_,_=>none
 |n+1,x3,x4=> bif decide (x4<(a1.length:Int)) then bif inb x4 a1.length then bif decide ((((a1.getD x4.toNat dd).z).A)<a2.B) then qAp a1 x3 x4 (YY a1 a2 n) (decide (a2.A<(((a1.getD x4.toNat dd).z).B))) else qAp a1 x3 x4 (YY a1 a2 n) false else none else some x3
def qGo (a1:List zB) (a2:Span):Option Int:= (YY a1 a2 FUEL 0 0).bind λo12=> some o12
def GO (x17:Int) (R:Int->Int->Option ((Int×Bool)⊕Int)) (x24:Int):Option ((Int×Bool)⊕Int):= R x24 (w64 (x17+1))
def WB (a1:zL) (a3:Int) (v14:Box):Nat->Int->Int->Option ((Int×Bool)⊕Int)
 |0,_,_=>none
 |n+1,x16,x17=> bif decide (x17<(a1.defects.length:Int)) then bif inb x17 a1.defects.length then (FT (a1.defects.getD x17.toNat dd) v14).bind λv20=> bif !v20 then GO x17 (WB a1 a3 v14 n) x16 else bif ((a1.defects.getD x17.toNat dd).Kind)==3 then some (Sum.inl (0,false)) else GO x17 (WB a1 a3 v14 n) (w64 (x16-a3)) else none else some (Sum.inr x16)
def GN (a1:zL) (a2:Span) (a3:Int) (v7:Int×Bool) (x12:Bool):Option (Int×Bool):= bif x12 then some (0,false) else (NU a1 a2).bind λv14=> (WB a1 a3 v14 FUEL v7.1 0).bind λu28=>Sum.elim (λv29=>some v29) (λo26=> some (imax o26 0,true)) u28
def SR (a1:zL) (a2:Span) (a3:Int):Option (Int×Bool):= (qAK a2 a1.length).bind λv4=> bif !v4 then some (0,false) else (qCE a1.product (w64 (a2.B-a2.A))).bind λv7=> bif !v7.2 then GN a1 a2 a3 v7 true else (qGo a1.zones a2).bind λv10=> GN a1 a2 a3 v7 (decide (v10>a1.product.Wane))
def qCA (x24:Int) (R:Int->Bool->Int->Span->Option (Int×Bool×Span)) (x34:Int) (x35:Bool) (x36:Span):Option (Int×Bool×Span):= R x34 x35 (w64 (x24+1)) x36
def HE (a3:qK) (x19:Int) (x22:Int) (x23:Bool) (x24:Int) (x25:Span) (R:Int->Bool->Int->Span->Option (Int×Bool×Span)) (v28:Int×Bool) (x32:Bool):Option (Int×Bool×Span):= bif x32 then qCA x24 R v28.1 true (Span.mk x19 (w64 (x19+(a3.Lengths.getD x24.toNat dd)))) else qCA x24 R x22 x23 x25
def JX (a3:qK) (a6:Int) (v14:zL×Bool) (x19:Int):Nat->Int->Bool->Int->Span->Option (Int×Bool×Span)
 |0,_,_,_,_=>none
 |n+1,x22,x23,x24,x25=> bif decide (x24<(a3.Lengths.length:Int)) then bif inb x24 a3.Lengths.length then (SR (zL.mk v14.1.product v14.1.rect v14.1.length v14.1.zones v14.1.defects) (Span.mk x19 (w64 (x19+(a3.Lengths.getD x24.toNat dd)))) a6).bind λv28=> bif v28.2 then bif !x23 then HE a3 x19 x22 x23 x24 x25 (JX a3 a6 v14 x19 n) v28 true else HE a3 x19 x22 x23 x24 x25 (JX a3 a6 v14 x19 n) v28 (decide (v28.1>x22)) else HE a3 x19 x22 x23 x24 x25 (JX a3 a6 v14 x19 n) v28 false else none else some (x22,x23,x25)
def qCl (a3:qK) (a5:Int) (a6:Int) (v14:zL×Bool):Nat->Int->Bool->Int->Span->Option (Int×Bool×Span)
 |0,_,_,_,_=>none
 |n+1,x17,x18,x19,x20=> bif decide (x19<v14.1.length) then (JX a3 a6 v14 x19 FUEL x17 x18 0 x20).bind λo40=> (qCl a3 a5 a6 v14 n) o40.1 o40.2.1 (w64 (x19+a5)) o40.2.2 else some (x17,x18,x20)
def qCP (a1:List qO) (a2:List qF) (a3:qK) (a4:Rect) (a5:Int) (a6:Int) (x12:Bool):Option (Span×Int×Bool):= bif x12 then some ((Span.mk 0 0),0,false) else (qHy a1 a2 a3 a4).bind λv14=> bif !v14.2 then some ((Span.mk 0 0),0,false) else (qCl a3 a5 a6 v14 FUEL 0 false 0 (Span.mk 0 0)).bind λo45=> some (o45.2.2,o45.1,o45.2.1)
def qH5 (a1:List qO) (a2:List qF) (a3:qK) (a4:Rect) (a5:Int) (a6:Int):Option (Span×Int×Bool):= (IN a5).bind λv7=> bif !v7 then qCP a1 a2 a3 a4 a5 a6 true else (OD a6).bind λv10=> qCP a1 a2 a3 a4 a5 a6 (!v10)
def SA (a1:List qO):Nat->(List Span)->Int->Int->Option (List Span)
 |0,_,_,_=>none
 |n+1,l3,x4,x5=> bif decide (x5<(a1.length:Int)) then bif inb x5 a1.length then bif inb x5 l3.length then (SA a1 n) (l3.set x5.toNat (Span.mk x4 (w64 (x4+((a1.getD x5.toNat dd).Len))))) (w64 (x4+((a1.getD x5.toNat dd).Len))) (w64 (x5+1)) else none else none else some l3
def qCg (a1:List qO):Option (List Span):= bif mkOk (a1.length:Int) 16 then (SA a1 FUEL (List.replicate ((a1.length:Int).toNat) (Span.mk 0 0)) 0 0).bind λo10=> some o10 else none
def AT (x8:Int) (R:Int->Int->Option Int) (x19:Int):Option Int:= R x19 (w64 (x8+1))
def PK (a2:Box) (v3:(List qO)) (v5:(List Span)):Nat->Int->Int->Option Int
 |0,_,_=>none
 |n+1,x7,x8=> bif decide (x8<(v5.length:Int)) then bif inb x8 v5.length then (JA (v5.getD x8.toNat dd) a2.Z).bind λv11=> (qAv v11).bind λv13=> bif decide (v13>0) then bif inb x8 v3.length then (FL ((v3.getD x8.toNat dd).Sec) (Rect.mk a2.X a2.Y)).bind λv17=> AT x8 (PK a2 v3 v5 n) (w64 (x7+(w64 (v13*v17)))) else none else AT x8 (PK a2 v3 v5 n) x7 else none else some x7
def CM (a1:List qO) (a2:Box):Option Int:= (GF a1).bind λv3=> (qCg v3).bind λv5=> (PK a2 v3 v5 FUEL 0 0).bind λo21=> some o21
def RE (a1:List qO) (a2:Rect) (a3:Span):Option Int:= (CM a1 (Box.mk a2.X a2.Y a3)).bind λv4=> some v4
def qKw (a1:List qO) (a2:List qF) (a3:qK) (a4:Rect) (a5:Saw) (a6:Rates):Option Int:= (qH5 a1 a2 a3 a4 a5.Step a6.Fine).bind λv7=> bif !v7.2.2 then some (-1) else (TO a1).bind λv10=> (RE a1 a4 (Span.mk 0 v10)).bind λv12=> (RE a1 a4 v7.1).bind λv14=> (RE a1 a4 (Span.mk (imax 0 (w64 (v7.1.A-a5.Trim))) v7.1.A)).bind λv16=> (RE a1 a4 (Span.mk v7.1.B (imin (w64 (v7.1.B+a5.Trim)) v10))).bind λv18=> some (w64 ((w64 ((w64 (1000000*v7.2.1))+(w64 (a6.Dust*(w64 (v16+v18))))))+(w64 (a6.Chip*(w64 ((w64 (v12-v14))-(w64 (v16+v18))))))))
def qEF (l16:List Int) (x17:Int) (R:(List Int)->Int->Option (List Int)) (x27:Int):Option (List Int):= bif room (l16.length+1) 8 then R (l16++[x27]) (w64 (x17+1)) else none
def DP (a1:List qO) (a2:List qF) (a3:List qK) (a4:Rect) (a5:Saw) (a6:Rates) (v10:(List Int)×(List Int)) (x12:Int):Nat->(List Int)->Int->Option (List Int)
 |0,_,_=>none
 |n+1,l16,x17=> bif decide ((w64 (x17+(v10.1.getD x12.toNat dd)))<=(w64 (a4.X.B-a4.X.A))) then bif nz a5.Pitch then bif (Int.tmod x17 a5.Pitch)==0 then bif inb x12 v10.2.length then bif inb (v10.2.getD x12.toNat dd) a3.length then (qB9 a4 x17 (w64 (x17+(v10.1.getD x12.toNat dd)))).bind λv23=> (qKw a1 a2 (a3.getD (v10.2.getD x12.toNat dd).toNat dd) v23 a5 a6).bind λv25=> qEF l16 x17 (DP a1 a2 a3 a4 a5 a6 v10 x12 n) v25 else none else none else qEF l16 x17 (DP a1 a2 a3 a4 a5 a6 v10 x12 n) (-1) else none else some l16
def qEi (a1:List qO) (a2:List qF) (a3:List qK) (a4:Rect) (a5:Saw) (a6:Rates) (v10:(List Int)×(List Int)):Nat->Int->(List (List Int))->Option (List (List Int))
 |0,_,_=>none
 |n+1,x12,l13=> bif decide (x12<(v10.1.length:Int)) then bif inb x12 v10.1.length then (DP a1 a2 a3 a4 a5 a6 v10 x12 FUEL [] 0).bind λo30=> bif room (l13.length+1) 24 then (qEi a1 a2 a3 a4 a5 a6 v10 n) (w64 (x12+1)) (l13++[o30]) else none else none else some l13
def qEp (a1:List qO) (a4:Rect) (a6:Rates) (v36:Int):Nat->Int->(List Int)->(List Int)->Option ((List Int)×(List Int))
 |0,_,_,_=>none
 |n+1,x38,l39,l40=> bif decide (x38<(w64 (a4.X.B-a4.X.A))) then (qB9 a4 x38 (w64 (x38+1))).bind λv42=> (RE a1 v42 (Span.mk 0 v36)).bind λv44=> bif room (l39.length+1) 8 then bif room (l40.length+1) 8 then (qEp a1 a4 a6 v36 n) (w64 (x38+1)) (l39++[w64 (a6.Chip*v44)]) (l40++[w64 (a6.Dust*v44)]) else none else none else some (l39,l40)
def qE2 (a1:List qO) (a2:List qF) (a3:List qK) (a4:Rect) (a5:Saw) (a6:Rates):Option (Line×Int):= (qHS a1 a2 a3 a4 a5 a6).bind λv7=> bif v7 !=0 then some ((Line.mk 0 0 0 [] [] [] []),v7) else (IW a3 (w64 (a4.Y.B-a4.Y.A))).bind λv10=> (qEi a1 a2 a3 a4 a5 a6 v10 FUEL 0 []).bind λo34=> (TO a1).bind λv36=> (qEp a1 a4 a6 v36 FUEL 0 [] []).bind λo50=> some ((Line.mk (w64 (a4.X.B-a4.X.A)) a5.Kerf 1 v10.1 o34 o50.1 o50.2),0)
def GL (x10:Int) (R:Int->Option (Int⊕Unit)) (x14:Bool):Option (Int⊕Unit):= bif x14 then some (Sum.inl 9) else R (w64 (x10+1))
def WC (a1:Line):Nat->Int->Option (Int⊕Unit)
 |0,_=>none
 |n+1,x10=> bif decide (x10<(a1.Sizes.length:Int)) then bif inb x10 a1.Sizes.length then bif decide ((a1.Sizes.getD x10.toNat dd)<1) then GL x10 (WC a1 n) true else GL x10 (WC a1 n) (decide ((a1.Sizes.getD x10.toNat dd)>2000)) else none else some (Sum.inr ())
def jP (a1:Line) (x7:Bool):Option Int:= bif x7 then some 9 else bif decide ((a1.Sizes.length:Int)>32) then some 4 else (WC a1 FUEL 0).bind λu18=>Sum.elim (λv19=>some v19) (λo16=> some 0) u18
def SQ (a1:Line):Option Int:= bif decide (a1.Len<0) then jP a1 true else bif decide (a1.Len>2000) then jP a1 true else bif decide (a1.Kerf<0) then jP a1 true else bif decide (a1.Kerf>20) then jP a1 true else bif decide (a1.Pitch<1) then jP a1 true else jP a1 (decide (a1.Pitch>2000))
def qAI (a1:Line) (a2:Int):Option Int:= some (imax 0 (w64 ((w64 (a1.Len-a2))+1)))
def EK (x5:Int) (R:Int->Option (Bool⊕Unit)) (x9:Bool):Option (Bool⊕Unit):= bif x9 then some (Sum.inl false) else R (w64 (x5+1))
def XH (a1:List (List Int)) (x2:Int):Nat->Int->Option (Bool⊕Unit)
 |0,_=>none
 |n+1,x5=> bif decide (x5<((a1.getD x2.toNat dd).length:Int)) then bif inb x5 ((a1.getD x2.toNat dd).length) then bif decide (((a1.getD x2.toNat dd).getD x5.toNat dd)<(-1125899906842624)) then EK x5 (XH a1 x2 n) true else EK x5 (XH a1 x2 n) (decide (((a1.getD x2.toNat dd).getD x5.toNat dd)>1125899906842624)) else none else some (Sum.inr ())
def ST (a1:List (List Int)):Nat->Int->Option (Bool⊕Unit)
 |0,_=>none
 |n+1,x2=> bif decide (x2<(a1.length:Int)) then bif inb x2 a1.length then (XH a1 x2 FUEL 0).bind λu13=>Sum.elim (λv14=>some (Sum.inl v14)) (λo11=> (ST a1 n) (w64 (x2+1))) u13 else none else some (Sum.inr ())
def MZ (a1:List (List Int)):Option Bool:= (ST a1 FUEL 0).bind λu17=>Sum.elim (λv18=>some v18) (λo15=> some true) u17
def SZ (a1:Line):Nat->Int->Option (Int⊕Unit)
 |0,_=>none
 |n+1,x9=> bif decide (x9<(a1.Gain.length:Int)) then bif inb x9 a1.Gain.length then bif inb x9 a1.Sizes.length then (qAI a1 (a1.Sizes.getD x9.toNat dd)).bind λv13=> bif ((a1.Gain.getD x9.toNat dd).length:Int) !=v13 then some (Sum.inl 19) else (SZ a1 n) (w64 (x9+1)) else none else none else some (Sum.inr ())
def EN (x25:Bool):Option Int:= bif x25 then some 9 else some 0
def UF (a1:Line) (x7:Bool):Option Int:= bif x7 then some 19 else (SZ a1 FUEL 0).bind λu18=>Sum.elim (λv19=>some v19) (λo16=> (MZ a1.Gain).bind λv20=> bif !v20 then EN true else (MZ [a1.Chip,a1.Dust]).bind λv23=> EN (!v23)) u18
def qCO (a1:Line):Option Int:= (SQ a1).bind λv2=> bif v2 !=0 then some v2 else bif (a1.Gain.length:Int) !=(a1.Sizes.length:Int) then UF a1 true else bif (a1.Chip.length:Int) !=a1.Len then UF a1 true else UF a1 ((a1.Dust.length:Int) !=a1.Len)
def OC (a1:List Int):Nat->(List Int)->Int->Option (List Int)
 |0,_,_=>none
 |n+1,l3,x4=> bif decide (x4<(a1.length:Int)) then bif inb x4 a1.length then bif inb x4 l3.length then bif inb (w64 (x4+1)) l3.length then (OC a1 n) (l3.set ((w64 (x4+1)).toNat) (w64 ((l3.getD x4.toNat dd)+(a1.getD x4.toNat dd)))) (w64 (x4+1)) else none else none else none else some l3
def CK (a1:List Int):Option (List Int):= bif mkOk (w64 ((a1.length:Int)+1)) 8 then (OC a1 FUEL (List.replicate ((w64 ((a1.length:Int)+1)).toNat) 0) 0).bind λo10=> some o10 else none
def FR (a1:Line) (a2:Int):Option Int:= bif a2==a1.Len then some (-1) else some (imin (w64 (a2+a1.Kerf)) a1.Len)
def UN (x5:Int) (R:Int->qC->Option qC) (x26:qC):Option qC:= R (w64 (x5+1)) x26
def EE (x5:Int) (x6:qC) (R:Int->qC->Option qC) (x22:qC) (x24:Bool):Option qC:= bif x24 then UN x5 R x22 else UN x5 R x6
def SI (x5:Int) (x6:qC) (R:Int->qC->Option qC) (x22:qC):Option qC:= bif ((x6.piece.Size==(-1))&&((x6.piece.At==(-1))&&true)) then EE x5 x6 R x22 true else EE x5 x6 R x22 (decide (x22.value>x6.value))
def SE (a1:Line) (a2:Int) (a3:List Int) (a4:List qC) (x5:Int) (x6:qC) (R:Int->qC->Option qC) (x12:Bool):Option qC:= bif x12 then UN x5 R x6 else bif inb x5 a1.Gain.length then bif inb a2 ((a1.Gain.getD x5.toNat dd).length) then (FR a1 (w64 (a2+(a1.Sizes.getD x5.toNat dd)))).bind λv16=> bif decide (v16≥0) then bif inb v16 a3.length then bif inb (w64 (a2+(a1.Sizes.getD x5.toNat dd))) a3.length then bif inb v16 a4.length then SI x5 x6 R (qC.mk (zU.mk x5 a2) (w64 (((a1.Gain.getD x5.toNat dd).getD a2.toNat dd)+(w64 ((w64 ((a3.getD v16.toNat dd)-(a3.getD (w64 (a2+(a1.Sizes.getD x5.toNat dd))).toNat dd)))+((a4.getD v16.toNat dd).value)))))) else none else none else none else SI x5 x6 R (qC.mk (zU.mk x5 a2) ((a1.Gain.getD x5.toNat dd).getD a2.toNat dd))
 else none else none
def yA (a1:Line) (a2:Int) (a3:List Int) (a4:List qC):Nat->Int->qC->Option qC
 |0,_,_=>none
 |n+1,x5,x6=> bif decide (x5<(a1.Sizes.length:Int)) then bif inb x5 a1.Sizes.length then bif decide ((w64 (a2+(a1.Sizes.getD x5.toNat dd)))>a1.Len) then SE a1 a2 a3 a4 x5 x6 (yA a1 a2 a3 a4 n) true else bif inb x5 a1.Gain.length then bif inb a2 ((a1.Gain.getD x5.toNat dd).length) then SE a1 a2 a3 a4 x5 x6 (yA a1 a2 a3 a4 n) (decide (((a1.Gain.getD x5.toNat dd).getD a2.toNat dd)<0)) else none else none else none else some x6
def qCI (a1:Line) (a2:Int) (a3:List Int) (a4:List qC):Option qC:= (yA a1 a2 a3 a4 FUEL 0 (qC.mk (zU.mk (-1) (-1)) 0)).bind λo28=> some o28
def BX (a1:Line) (x20:Int) (R:Int->qC->Option qC) (x31:qC):Option qC:= R (w64 (x20+a1.Pitch)) x31
def DT (a1:Line) (v2:(List Int)) (v4:(List Int)) (l8:List qC) (x9:Int) (v11:qC) (x20:Int) (x21:qC) (R:Int->qC->Option qC) (x29:Bool):Option qC:= bif x29 then BX a1 x20 R (qC.mk (((l8.set x9.toNat v11).getD x20.toNat dd).piece) (w64 ((((l8.set x9.toNat v11).getD x20.toNat dd).value)+(w64 ((w64 ((w64 ((v2.getD ((w64 (x20-a1.Kerf)).toNat) dd)-(v2.getD x9.toNat dd)))+(v4.getD x20.toNat dd)))-(v4.getD ((w64 (x20-a1.Kerf)).toNat) dd)))))) else BX a1 x20 R x21
def QO (a1:Line) (v2:(List Int)) (v4:(List Int)) (l8:List qC) (x9:Int) (v11:qC):Nat->Int->qC->Option qC
 |0,_,_=>none
 |n+1,x20,x21=> bif decide (x20<=a1.Len) then bif inb x20 l8.length then bif inb (w64 (x20-a1.Kerf)) v2.length then bif inb x9 v2.length then bif inb x20 v4.length then bif inb (w64 (x20-a1.Kerf)) v4.length then bif !((((((l8.set x9.toNat v11).getD x20.toNat dd).piece).Size)==(-1))&&((((((l8.set x9.toNat v11).getD x20.toNat dd).piece).At)==(-1))&&true)) then DT a1 v2 v4 l8 x9 v11 x20 x21 (QO a1 v2 v4 l8 x9 v11 n) (decide ((w64 ((((l8.set x9.toNat v11).getD x20.toNat dd).value)+(w64 ((w64 ((w64 ((v2.getD ((w64 (x20-a1.Kerf)).toNat) dd)-(v2.getD x9.toNat dd)))+(v4.getD x20.toNat dd)))-(v4.getD ((w64 (x20-a1.Kerf)).toNat) dd)))))>x21.value)) else DT a1 v2 v4 l8 x9 v11 x20 x21 (QO a1 v2 v4 l8 x9 v11 n) false
 else none else none else none else none else none else some x21
def NG (a1:Line) (v2:(List Int)) (v4:(List Int)) (l7:List qC) (l8:List qC) (x9:Int) (R:(List qC)->(List qC)->Int->Option (List qC)) (v11:qC) (x19:qC):Option (List qC):= (QO a1 v2 v4 l8 x9 v11 FUEL (w64 ((w64 (x9+a1.Pitch))+a1.Kerf)) x19).bind λo33=> bif inb x9 l7.length then R (l7.set x9.toNat o33) (l8.set x9.toNat v11) (w64 (x9-1)) else none
def DJ (a1:Line) (v2:(List Int)) (v4:(List Int)) (l7:List qC) (l8:List qC) (x9:Int) (R:(List qC)->(List qC)->Int->Option (List qC)) (v11:qC) (x17:Bool):Option (List qC):= bif x17 then NG a1 v2 v4 l7 l8 x9 R v11 ((l8.set x9.toNat v11).getD x9.toNat dd) else NG a1 v2 v4 l7 l8 x9 R v11 (qC.mk (zU.mk (-1) (-1)) (w64 ((v2.getD a1.Len.toNat dd)-(v2.getD x9.toNat dd))))
def QU (a1:Line) (v2:(List Int)) (v4:(List Int)):Nat->(List qC)->(List qC)->Int->Option (List qC)
 |0,_,_,_=>none
 |n+1,l7,l8,x9=> bif decide (x9≥0) then (qCI a1 x9 v4 l7).bind λv11=> bif inb x9 l8.length then bif inb a1.Len v2.length then bif inb x9 v2.length then bif !((((((l8.set x9.toNat v11).getD x9.toNat dd).piece).Size)==(-1))&&((((((l8.set x9.toNat v11).getD x9.toNat dd).piece).At)==(-1))&&true)) then DJ a1 v2 v4 l7 l8 x9 (QU a1 v2 v4 n) v11 (decide ((((l8.set x9.toNat v11).getD x9.toNat dd).value)>(w64 ((v2.getD a1.Len.toNat dd)-(v2.getD x9.toNat dd))))) else DJ a1 v2 v4 l7 l8 x9 (QU a1 v2 v4 n) v11 false else none else none else none else some l7
def OW (a1:Line):Option (List qC):= (CK a1.Chip).bind λv2=> (CK a1.Dust).bind λv4=> bif mkOk (w64 (a1.Len+1)) 24 then (QU a1 v2 v4 FUEL (List.replicate ((w64 (a1.Len+1)).toNat) (qC.mk (zU.mk 0 0) 0)) (List.replicate ((w64 (a1.Len+1)).toNat) (qC.mk (zU.mk 0 0) 0)) a1.Len).bind λo37=> some o37 else none
def OI (a1:Line) (v5:(List qC)):Nat->(List zU)->Int->Option (List zU)
 |0,_,_=>none
 |n+1,l7,x8=> bif decide (x8≥0) then bif inb x8 v5.length then bif (((((v5.getD x8.toNat dd).piece).Size)==(-1))&&(((((v5.getD x8.toNat dd).piece).At)==(-1))&&true)) then some l7 else bif room (l7.length+1) 16 then bif inb (((v5.getD x8.toNat dd).piece).Size) a1.Sizes.length then (FR a1 (w64 ((((v5.getD x8.toNat dd).piece).At)+(a1.Sizes.getD (((v5.getD x8.toNat dd).piece).Size).toNat dd)))).bind λv14=> (OI a1 v5 n) (l7++[(v5.getD x8.toNat dd).piece]) v14 else none else none else none else some l7
def yG (a1:Line):Option ((List zU)×Int×Int):= (qCO a1).bind λv2=> bif v2 !=0 then some ([],0,v2) else (OW a1).bind λv5=> (OI a1 v5 FUEL [] 0).bind λo17=> bif inb 0 v5.length then some (o17,(v5.getD ((0:Int).toNat) dd).value,0) else none
def BB (a1:List Node):Option (List Node):= bif room a1.length 16 then some a1 else none
def IG (a1:List (List Node)) (a2:List Node):Option ((List (List Node))×(List (List Node))):= (BB a2).bind λv3=> bif room (a1.length+1) 24 then some ((a1++[v3]),(a1++[v3])) else none
def SU (x3:Bool):Option Bool:= some x3
def qCv (a1:Int):Option Bool:= bif a1==2 then SU true else SU (a1==3)
def KT (x2:Int) (R:Int->Option (Bool⊕Unit)) (x7:Bool):Option (Bool⊕Unit):= bif x7 then some (Sum.inl false) else R (w64 (x2+1))
def QM (a1:Rect):Nat->Int->Option (Bool⊕Unit)
 |0,_=>none
 |n+1,x2=> bif decide (x2<2) then bif inb x2 2 then bif decide ((([a1.X.A,a1.X.B,a1.Y.A,a1.Y.B]:List Int).getD (x2.toNat*2+0) 0)<(-600)) then KT x2 (QM a1 n) true else bif decide ((([a1.X.A,a1.X.B,a1.Y.A,a1.Y.B]:List Int).getD (x2.toNat*2+1) 0)>600) then KT x2 (QM a1 n) true else KT x2 (QM a1 n) (decide ((([a1.X.A,a1.X.B,a1.Y.A,a1.Y.B]:List Int).getD (x2.toNat*2+0) 0)≥(([a1.X.A,a1.X.B,a1.Y.A,a1.Y.B]:List Int).getD (x2.toNat*2+1) 0))) else none else some (Sum.inr ())
def AZ (a1:Rect):Option Bool:= (QM a1 FUEL 0).bind λu11=>Sum.elim (λv12=>some v12) (λo9=> some true) u11
def qCi (a1:Rect) (a2:Int):Option Span:= bif a2==2 then some a1.X else some a1.Y
def WM (a1:List Node) (a2:Int) (a3:List Node):Option (Int×(List Node)):= bif decide ((w64 (a2+(a1.length:Int)))<=127) then bif room (a3.length+a1.length) 16 then some (w64 (a2+(a1.length:Int)),(a3++a1)) else none else some (w64 (a2+(a1.length:Int)),a3)
def qAh (a5:List (List Node)) (x21:Int) (R:Int->Bool->Int->(List Node)->Int->Option (((List Node)×Int)⊕(Bool×(List Node)×Int))) (x40:Int) (x41:Bool) (l42:List Node) (x43:Int):Option (((List Node)×Int)⊕(Bool×(List Node)×Int)):= bif inb x21 a5.length then (WM (a5.getD x21.toNat dd) x43 l42).bind λv45=> R x40 x41 (w64 (x21+1)) v45.2 v45.1 else none
def qAj (a2:Int) (a3:Int) (a4:List Span) (a5:List (List Node)) (v17:Span) (x19:Int) (x20:Bool) (x21:Int) (R:Int->Bool->Int->(List Node)->Int->Option (((List Node)×Int)⊕(Bool×(List Node)×Int))) (l35:List Node) (x36:Int):Option (((List Node)×Int)⊕(Bool×(List Node)×Int)):= bif decide (((a4.getD x21.toNat dd).B)<v17.B) then (WM [(Node.mk a2 ((a4.getD x21.toNat dd).B))] x36 l35).bind λv38=> qAh a5 x21 R (imin (w64 (((a4.getD x21.toNat dd).B)+a3)) v17.B) x20 v38.2 v38.1 else qAh a5 x21 R x19 true l35 x36
def FY (a2:Int) (a3:Int) (a4:List Span) (a5:List (List Node)) (v17:Span) (x19:Int) (x20:Bool) (x21:Int) (l22:List Node) (x23:Int) (R:Int->Bool->Int->(List Node)->Int->Option (((List Node)×Int)⊕(Bool×(List Node)×Int))) (x29:Bool):Option (((List Node)×Int)⊕(Bool×(List Node)×Int)):= bif x29 then some (Sum.inl ([],11)) else bif decide (((a4.getD x21.toNat dd).B)>v17.B) then some (Sum.inl ([],20)) else bif decide (((a4.getD x21.toNat dd).A)>x19) then (WM [(Node.mk a2 (w64 (((a4.getD x21.toNat dd).A)-a3))),(Node.mk 0 0)] x23 l22).bind λv33=> qAj a2 a3 a4 a5 v17 x19 x20 x21 R v33.2 v33.1 else qAj a2 a3 a4 a5 v17 x19 x20 x21 R l22 x23
def QN (a2:Int) (a3:Int) (a4:List Span) (a5:List (List Node)) (v17:Span):Nat->Int->Bool->Int->(List Node)->Int->Option (((List Node)×Int)⊕(Bool×(List Node)×Int))
 |0,_,_,_,_,_=>none
 |n+1,x19,x20,x21,l22,x23=> bif decide (x21<(a4.length:Int)) then bif inb x21 a4.length then bif decide (((a4.getD x21.toNat dd).A)≥((a4.getD x21.toNat dd).B)) then some (Sum.inl ([],19)) else bif x20 then FY a2 a3 a4 a5 v17 x19 x20 x21 l22 x23 (QN a2 a3 a4 a5 v17 n) true else bif ((a4.getD x21.toNat dd).A) !=x19 then FY a2 a3 a4 a5 v17 x19 x20 x21 l22 x23 (QN a2 a3 a4 a5 v17 n) (decide (((a4.getD x21.toNat dd).A)<(w64 ((w64 (x19+a3))+1)))) else FY a2 a3 a4 a5 v17 x19 x20 x21 l22 x23 (QN a2 a3 a4 a5 v17 n) false else none else some (Sum.inr (x20,l22,x23))
def qA0 (x57:Int) (l58:List Node):Option ((List Node)×Int):= bif decide (x57>127) then some ([],4) else some (l58,0)
def qA1 (a1:Rect) (a2:Int) (a3:Int) (a4:List Span) (a5:List (List Node)) (x15:Bool):Option ((List Node)×Int):= bif x15 then some ([],9) else (qCi a1 a2).bind λv17=> (QN a2 a3 a4 a5 v17 FUEL v17.A false 0 [] 0).bind λu52=>Sum.elim (λv53=>some v53) (λo50=> bif !o50.1 then (WM [(Node.mk 0 0)] o50.2.2 o50.2.1).bind λv55=> qA0 v55.1 v55.2 else qA0 o50.2.2 o50.2.1) u52
def qAD (a1:Rect) (a2:Int) (a3:Int) (a4:List Span) (a5:List (List Node)) (x12:Bool):Option ((List Node)×Int):= bif x12 then some ([],19) else bif decide (a3<0) then qA1 a1 a2 a3 a4 a5 true else qA1 a1 a2 a3 a4 a5 (decide (a3>20))
def YS (a1:Rect) (a2:Int) (a3:Int) (a4:List Span) (a5:List (List Node)):Option ((List Node)×Int):= (qCv a2).bind λv6=> bif !v6 then some ([],10) else (AZ a1).bind λv9=> bif !v9 then qAD a1 a2 a3 a4 a5 true else qAD a1 a2 a3 a4 a5 ((a4.length:Int) !=(a5.length:Int))
def CC (a4:Rect) (v10:(List zU)×Int×Int) (v13:(List Int)×(List Int)):Nat->(List Span)->(List (List Node))->Int->Option ((List Span)×(List (List Node)))
 |0,_,_,_=>none
 |n+1,l15,l16,x17=> bif decide (x17<(v10.1.length:Int)) then bif inb x17 v10.1.length then bif inb ((v10.1.getD x17.toNat dd).Size) v13.1.length then (qB9 a4 ((v10.1.getD x17.toNat dd).At) (w64 (((v10.1.getD x17.toNat dd).At)+(v13.1.getD (((v10.1.getD x17.toNat dd).Size).toNat) dd)))).bind λv21=> bif room (l15.length+1) 16 then bif inb ((v10.1.getD x17.toNat dd).Size) v13.2.length then (IG l16 [(Node.mk 1 (v13.2.getD (((v10.1.getD x17.toNat dd).Size).toNat) dd))]).bind λv25=> (CC a4 v10 v13 n) (l15++[v21.X]) v25.2 (w64 (x17+1)) else none else none else none else none else some (l15,l16)
def wT (a1:List qO) (a2:List qF) (a3:List qK) (a4:Rect) (a5:Saw) (a6:Rates):Option ((List Node)×Int×Int):= (qE2 a1 a2 a3 a4 a5 a6).bind λv7=> bif v7.2 !=0 then some ([],0,v7.2) else (yG (Line.mk v7.1.Len v7.1.Kerf v7.1.Pitch v7.1.Sizes v7.1.Gain v7.1.Chip v7.1.Dust)).bind λv10=> bif v10.2.2 !=0 then some ([],0,v10.2.2) else (IW a3 (w64 (a4.Y.B-a4.Y.A))).bind λv13=> (CC a4 v10 v13 FUEL [] [] 0).bind λo29=> (YS a4 2 a5.Kerf o29.1 o29.2).bind λv31=> bif v31.2 !=0 then some ([],0,v31.2) else some (v31.1,v10.2.1,0)
def IS (a1:Node):Option Bool:= some (a1.Kind==1)
def YN (a1:List Node):Nat->Int->Option (Int⊕Unit)
 |0,_=>none
 |n+1,x2=> bif decide (x2<(a1.length:Int)) then bif inb x2 a1.length then (IS (a1.getD x2.toNat dd)).bind λv5=> bif v5 then some (Sum.inl x2) else (YN a1 n) (w64 (x2+1)) else none else some (Sum.inr ())
def RB (a1:List Node):Option Int:= (YN a1 FUEL 0).bind λu10=>Sum.elim (λv11=>some v11) (λo8=> some (-1)) u10
def YL (a1:List Node):Option Bool:= (RB a1).bind λv2=> some (decide (v2≥0))
def HT (a1:List Node):Option Bool:= (YL a1).bind λv2=> some v2
def RD (a1:List qO) (a2:Rect):Option Int:= (TO a1).bind λv3=> (CM a1 (Box.mk a2.X a2.Y (Span.mk 0 v3))).bind λv5=> some v5
def TL (l14:List Int) (l15:List (List Node)) (x16:Int) (R:(List Int)->(List (List Node))->Int->Option ((List Int)×(List (List Node)))) (x30:Int) (l31:List Node):Option ((List Int)×(List (List Node))):= bif room (l14.length+1) 8 then bif room (l15.length+1) 24 then R (l14++[x30]) (l15++[l31]) (w64 (x16+1)) else none else none
def AM (l14:List Int) (l15:List (List Node)) (x16:Int) (R:(List Int)->(List (List Node))->Int->Option ((List Int)×(List (List Node)))) (v22:(List Node)×Int×Int) (x27:Bool):Option ((List Int)×(List (List Node))):= bif x27 then TL l14 l15 x16 R v22.2.1 v22.1 else TL l14 l15 x16 R (-1) ([]:List Node)
def zY (a1:List qO) (a2:List qF) (a3:List qK) (a4:Rect) (a5:Saw) (a6:Rates) (v7:(List Int)) (x10:Int):Nat->(List Int)->(List (List Node))->Int->Option ((List Int)×(List (List Node)))
 |0,_,_,_=>none
 |n+1,l14,l15,x16=> bif decide ((w64 (x16+(v7.getD x10.toNat dd)))<=(w64 (a4.Y.B-a4.Y.A))) then bif nz a5.Pitch then bif (Int.tmod x16 a5.Pitch)==0 then (NO a4 x16 (w64 (x16+(v7.getD x10.toNat dd)))).bind λv20=> (wT a1 a2 a3 v20 a5 a6).bind λv22=> bif v22.2.2==0 then (HT v22.1).bind λv25=> AM l14 l15 x16 (zY a1 a2 a3 a4 a5 a6 v7 x10 n) v22 v25 else AM l14 l15 x16 (zY a1 a2 a3 a4 a5 a6 v7 x10 n) v22 false else TL l14 l15 x16 (zY a1 a2 a3 a4 a5 a6 v7 x10 n) (-1) ([]:List Node) else none else some (l14,l15)
def ZI (a1:List qO) (a2:List qF) (a3:List qK) (a4:Rect) (a5:Saw) (a6:Rates) (v7:(List Int)):Nat->(List (List (List Node)))->Int->(List (List Int))->Option ((List (List (List Node)))×(List (List Int)))
 |0,_,_,_=>none
 |n+1,l9,x10,l11=> bif decide (x10<(v7.length:Int)) then bif inb x10 v7.length then (zY a1 a2 a3 a4 a5 a6 v7 x10 FUEL [] [] 0).bind λo36=> bif room (l11.length+1) 24 then bif room (l9.length+1) 24 then (ZI a1 a2 a3 a4 a5 a6 v7 n) (l9++[o36.2]) (w64 (x10+1)) (l11++[o36.1]) else none else none else none else some (l9,l11)
def AS (a1:List qO) (a4:Rect) (a6:Rates):Nat->Int->(List Int)->(List Int)->Option ((List Int)×(List Int))
 |0,_,_,_=>none
 |n+1,x44,l45,l46=> bif decide (x44<(w64 (a4.Y.B-a4.Y.A))) then (NO a4 x44 (w64 (x44+1))).bind λv48=> (RD a1 v48).bind λv50=> bif room (l45.length+1) 8 then bif room (l46.length+1) 8 then (AS a1 a4 a6 n) (w64 (x44+1)) (l45++[w64 (a6.Chip*v50)]) (l46++[w64 (a6.Dust*v50)]) else none else none else some (l45,l46)
def TY (a1:List qO) (a2:List qF) (a3:List qK) (a4:Rect) (a5:Saw) (a6:Rates):Option (Line×(List (List (List Node)))):= (AO a3).bind λv7=> (ZI a1 a2 a3 a4 a5 a6 v7 FUEL [] 0 []).bind λo42=> (AS a1 a4 a6 FUEL 0 [] []).bind λo56=> some ((Line.mk (w64 (a4.Y.B-a4.Y.A)) a5.Kerf 1 v7 o42.2 o56.1 o56.2),o42.1)
def AK (a1:List Node) (a2:List (List Node)):Option ((List (List Node))×(List (List Node))):= bif room (a2.length+1) 24 then some ((a2++[a1]),(a2++[a1])) else none
def IC (v2:qG):Nat->Int->Int->Option Int
 |0,_,_=>none
 |n+1,x4,x5=> bif decide (x5<(v2.Rows.length:Int)) then bif inb x5 v2.Rows.length then (qAv (v2.Rows.getD x5.toNat dd)).bind λv8=> (IC v2 n) (w64 (x4+v8)) (w64 (x5+1)) else none else some x4
def qDX (a1:qG):Option Int:= (QI a1).bind λv2=> (IC v2 FUEL 0 0).bind λo11=> some (w64 (10*o11))
def IQ (v2:(List qO)):Nat->Int->Int->Option Int
 |0,_,_=>none
 |n+1,x4,x5=> bif decide (x5<(v2.length:Int)) then bif inb x5 v2.length then (qDX ((v2.getD x5.toNat dd).Sec)).bind λv8=> (IQ v2 n) (w64 (x4+(w64 (((v2.getD x5.toNat dd).Len)*v8)))) (w64 (x5+1)) else none else some x4
def RU (a1:List qO):Option Int:= (GF a1).bind λv2=> (IQ v2 FUEL 0 0).bind λo11=> some o11
def TF (a4:Rect) (v10:Line×(List (List (List Node)))) (v12:(List zU)×Int×Int):Nat->(List Span)->(List (List Node))->Int->Option ((List Span)×(List (List Node)))
 |0,_,_,_=>none
 |n+1,l15,l16,x17=> bif decide (x17<(v12.1.length:Int)) then bif inb x17 v12.1.length then bif inb ((v12.1.getD x17.toNat dd).Size) v10.1.Sizes.length then (NO a4 ((v12.1.getD x17.toNat dd).At) (w64 (((v12.1.getD x17.toNat dd).At)+(v10.1.Sizes.getD (((v12.1.getD x17.toNat dd).Size).toNat) dd)))).bind λv21=> bif room (l15.length+1) 16 then bif inb ((v12.1.getD x17.toNat dd).Size) v10.2.length then bif inb ((v12.1.getD x17.toNat dd).At) ((v10.2.getD (((v12.1.getD x17.toNat dd).Size).toNat) dd).length) then (AK ((v10.2.getD (((v12.1.getD x17.toNat dd).Size).toNat) dd).getD ((v12.1.getD x17.toNat dd).At).toNat dd) l16).bind λv26=> (TF a4 v10 v12 n) (l15++[v21.Y]) v26.2 (w64 (x17+1)) else none else none
 else none else none else none else some (l15,l16)
def TW (a1:List qO) (a2:List qF) (a3:List qK) (a4:Rect) (a5:Saw) (a6:Rates):Option (Pattern×Int×Int):= (FN a1 a2 a3 a4 a5 a6).bind λv7=> bif v7 !=0 then some ((Pattern.mk (Rect.mk (Span.mk 0 0) (Span.mk 0 0)) []),0,v7) else (TY a1 a2 a3 a4 a5 a6).bind λv10=> (yG (Line.mk v10.1.Len v10.1.Kerf v10.1.Pitch v10.1.Sizes v10.1.Gain v10.1.Chip v10.1.Dust)).bind λv12=> bif v12.2.2 !=0 then some ((Pattern.mk (Rect.mk (Span.mk 0 0) (Span.mk 0 0)) []),0,v12.2.2) else (TF a4 v10 v12 FUEL [] [] 0).bind λo30=> (YS a4 3 a5.Kerf o30.1 o30.2).bind λv32=> bif v32.2 !=0 then some ((Pattern.mk (Rect.mk (Span.mk 0 0) (Span.mk 0 0)) []),0,13) else (RU a1).bind λv35=> (RD a1 a4).bind λv37=> some ((Pattern.mk a4 v32.1),w64 (v12.2.1+(w64 (a6.Chip*(w64 (v35-v37))))),0)
def WU (a1:Scan) (a2:List qK) (a3:Saw) (a4:Rates) (a5:Int) (a6:Int):Nat->(List qN)->Int->Option (((List qN)×Int)⊕(List qN))
 |0,_,_=>none
 |n+1,l7,x8=> bif decide (x8<4) then (wV a1 x8 a5 a6).bind λv10=> bif v10.2.2 !=0 then some (Sum.inl ([],v10.2.2)) else (NS v10.1).bind λv13=> (TW v10.1 v10.2.1 a2 v13 a3 a4).bind λv15=> bif v15.2.2 !=0 then some (Sum.inl ([],v15.2.2)) else bif room (l7.length+1) 72 then (WU a1 a2 a3 a4 a5 a6 n) (l7++[(qN.mk x8 v15.1 v15.2.1)]) (w64 (x8+1)) else none else some (Sum.inr l7)
def TZ (a1:Scan) (a2:List qK) (a3:Saw) (a4:Rates) (a5:Int) (a6:Int):Option ((List qN)×Int):= (WU a1 a2 a3 a4 a5 a6 FUEL [] 0).bind λu22=>Sum.elim (λv23=>some v23) (λo20=> some (o20,0)) u22
def qCq (x12:Int) (R:Int->qN->Option (Int×Int×Int×Int×Int×(List Node)×Int)) (x18:Int) (x19:Int) (x20:Int) (x21:Int) (x22:Int) (l23:List Node) (x24:Int):Option (Int×Int×Int×Int×Int×(List Node)×Int):= R (w64 (x12+1)) (qN.mk x18 (Pattern.mk (Rect.mk (Span.mk x19 x20) (Span.mk x21 x22)) l23) x24)
def VW (v7:(List qN)×Int):Nat->Int->qN->Option (Int×Int×Int×Int×Int×(List Node)×Int)
 |0,_,_=>none
 |n+1,x12,x13=> bif decide (x12<(((v7.1.length-(1:Int).toNat):Nat):Int)) then bif inb x12 (v7.1.length-(1:Int).toNat) then bif Nat.ble (((1:Int).toNat)+(v7.1.length-(1:Int).toNat)) v7.1.length then bif decide (((v7.1.getD (((1:Int).toNat)+x12.toNat) dd).Value)>x13.Value) then qCq x12 (VW v7 n) ((v7.1.getD (((1:Int).toNat)+x12.toNat) dd).Quarters) (((((v7.1.getD (((1:Int).toNat)+x12.toNat) dd).Pattern).Frame).X).A) (((((v7.1.getD (((1:Int).toNat)+x12.toNat) dd).Pattern).Frame).X).B) (((((v7.1.getD (((1:Int).toNat)+x12.toNat) dd).Pattern).Frame).Y).A) (((((v7.1.getD (((1:Int).toNat)+x12.toNat) dd).Pattern).Frame).Y).B) (((v7.1.getD (((1:Int).toNat)+x12.toNat) dd).Pattern).Nodes) ((v7.1.getD (((1:Int).toNat)+x12.toNat) dd).Value)
 else qCq x12 (VW v7 n) x13.Quarters x13.Pattern.Frame.X.A x13.Pattern.Frame.X.B x13.Pattern.Frame.Y.A x13.Pattern.Frame.Y.B x13.Pattern.Nodes x13.Value else none else none else some (x13.Quarters,x13.Pattern.Frame.X.A,x13.Pattern.Frame.X.B,x13.Pattern.Frame.Y.A,x13.Pattern.Frame.Y.B,x13.Pattern.Nodes,x13.Value)
def PB (a1:Scan) (a2:List qK) (a3:Saw) (a4:Rates) (a5:Int) (a6:Int):Option (qN×Int):= (TZ a1 a2 a3 a4 a5 a6).bind λv7=> bif v7.2 !=0 then some ((qN.mk 0 (Pattern.mk (Rect.mk (Span.mk 0 0) (Span.mk 0 0)) []) 0),v7.2) else bif inb 0 v7.1.length then bif slOk 1 (v7.1.length:Int) v7.1.length then (VW v7 FUEL 0 (v7.1.getD ((0:Int).toNat) dd)).bind λo32=> some ((qN.mk o32.1 (Pattern.mk (Rect.mk (Span.mk o32.2.1 o32.2.2.1) (Span.mk o32.2.2.2.1 o32.2.2.2.2.1)) o32.2.2.2.2.2.1) o32.2.2.2.2.2.2),0) else none else none
def qAU (x24:Int) (R:Int->Option (Bool⊕Unit)) (x28:Bool):Option (Bool⊕Unit):= bif x28 then some (Sum.inl false) else R (w64 (x24+1))
def RZ (v11:(List qN)×Int):Nat->Int->Option (Bool⊕Unit)
 |0,_=>none
 |n+1,x24=> bif decide (x24<(v11.1.length:Int)) then bif inb x24 v11.1.length then bif ((v11.1.getD x24.toNat dd).Quarters) !=x24 then qAU x24 (RZ v11 n) true else qAU x24 (RZ v11 n) (((v11.1.getD x24.toNat dd).Value) !=80000000) else none else some (Sum.inr ())
def wR (x46:Bool):Option Bool:= some x46
def WE (v3:(List qO)×(List qF)×Int) (v11:(List qN)×Int) (v17:qN×Int) (v19:qN×Int) (x22:Bool):Option Bool:= bif x22 then some false else (RZ v11 FUEL 0).bind λu32=>Sum.elim (λv33=>some v33) (λo30=> bif v3.2.2==0 then bif (v3.2.1.length:Int)==0 then bif inb 0 v3.1.length then bif ((v3.1.getD (0:Int).toNat dd).Len)==3000 then bif (((v3.1.getD (0:Int).toNat dd).Sec).Low)==(-6) then bif (((((v3.1.getD (0:Int).toNat dd).Sec).Rows).length:Nat):Int)==12 then bif inb 0 ((((v3.1.getD (0:Int).toNat dd).Sec).Rows).length) then bif (((((((v3.1.getD (0:Int).toNat dd).Sec).Rows).getD (0:Int).toNat dd).A)==(-30))&&(((((((v3.1.getD (0:Int).toNat dd).Sec).Rows).getD (0:Int).toNat dd).B)==30)&&true)) then bif v11.2==0 then
 bif v17.2==0 then bif v17.1.Quarters==0 then bif v17.1.Value==80000000 then wR (v19.2==3) else wR false else wR false else wR false else wR false else wR false else none else wR false else wR false else wR false else none else wR false else wR false) u32
def PZ :Option Bool:= (UL).bind λv1=> (wV v1 1 200 2).bind λv3=> (UL).bind λv9=> (TZ v9 ([(qK.mk (ByteArray.mk #[112,108,97,110,107]) 50 100 0 0 [3000] [80])]:List qK) (Saw.mk 4 0 10 1000) (Rates.mk 0 0 0) 200 2).bind λv11=> (UL).bind λv15=> (PB v15 ([(qK.mk (ByteArray.mk #[112,108,97,110,107]) 50 100 0 0 [3000] [80])]:List qK) (Saw.mk 4 0 10 1000) (Rates.mk 0 0 0) 200 2).bind λv17=> (PB (Scan.mk [] []) ([(qK.mk (ByteArray.mk #[112,108,97,110,107]) 50 100 0 0 [3000] [80])]:List qK) (Saw.mk 4 0 10 1000) (Rates.mk 0 0 0) 200 2).bind λv19=> bif (v3.1.length:Int) !=1 then WE v3 v11 v17 v19 true else WE v3 v11 v17 v19 ((v11.1.length:Int) !=4)
def ZG (x2:Int) (R:Int->Option (Bool⊕Unit)) (x8:Bool):Option (Bool⊕Unit):= bif x8 then some (Sum.inl false) else R (w64 (x2+1))
def wM (a1:List qA):Nat->Int->Option (Bool⊕Unit)
 |0,_=>none
 |n+1,x2=> bif decide (x2<(a1.length:Int)) then bif inb x2 a1.length then bif decide (((a1.getD x2.toNat dd).X)<(-600)) then ZG x2 (wM a1 n) true else bif decide (((a1.getD x2.toNat dd).X)>600) then ZG x2 (wM a1 n) true else bif decide (((a1.getD x2.toNat dd).Y)<(-600)) then ZG x2 (wM a1 n) true else ZG x2 (wM a1 n) (decide (((a1.getD x2.toNat dd).Y)>600)) else none else some (Sum.inr ())
def QF (a1:List qA):Option Bool:= (wM a1 FUEL 0).bind λu12=>Sum.elim (λv13=>some v13) (λo10=> some true) u12
def NN (x7:Int) (R:Int->Option (Int⊕Unit)) (x16:Bool):Option (Int⊕Unit):= bif x16 then some (Sum.inl 19) else R (w64 (x7+1))
def NT (a1:Ring) (x7:Int) (R:Int->Option (Int⊕Unit)) (x13:Bool):Option (Int⊕Unit):= bif x13 then some (Sum.inl 9) else bif !((a1.Read.getD x7.toNat dd).Ok) then NN x7 R (!(((((a1.Read.getD x7.toNat dd).P).X)==0)&&(((((a1.Read.getD x7.toNat dd).P).Y)==0)&&true))) else NN x7 R false
def yK (a1:Ring):Nat->Int->Option (Int⊕Unit)
 |0,_=>none
 |n+1,x7=> bif decide (x7<(a1.Read.length:Int)) then bif inb x7 a1.Read.length then bif (a1.Read.getD x7.toNat dd).Ok then (QF [(a1.Read.getD x7.toNat dd).P]).bind λv11=> NT a1 x7 (yK a1 n) (!v11) else NT a1 x7 (yK a1 n) false else none else some (Sum.inr ())
def FG (a1:Ring) (x5:Bool):Option Int:= bif x5 then some 9 else (yK a1 FUEL 0).bind λu20=>Sum.elim (λv21=>some v21) (λo18=> some 0) u20
def RA (a1:Ring):Option Int:= bif decide ((a1.Read.length:Int)<8) then some 3 else bif decide ((a1.Read.length:Int)>32) then some 4 else bif decide (a1.Z<0) then FG a1 true else FG a1 (decide (a1.Z>20000))
def RN (x4:Bool):Option Bool:= some x4
def MT (a1:Box):Option Bool:= bif decide (a1.X.A≥a1.X.B) then RN true else bif decide (a1.Y.A≥a1.Y.B) then RN true else RN (decide (a1.Z.A≥a1.Z.B))
def qBz (x5:Bool):Option Bool:= some x5
def EM (a1:Span) (a2:Int) (a3:Int):Option Bool:= bif decide (a2<=a1.A) then qBz (decide (a1.B<=a3)) else qBz false
def PR (x10:Bool):Option Bool:= some x10
def DN (a1:Box):Option Bool:= (EM a1.X (-600) 600).bind λv2=> bif v2 then (EM a1.Y (-600) 600).bind λv5=> bif v5 then (EM a1.Z 0 20000).bind λv8=> PR v8 else PR false else PR false
def NM (a1:List qF) (x3:Int) (R:Int->Option (Int⊕Unit)) (x7:Bool):Option (Int⊕Unit):= bif x7 then some (Sum.inl 10) else bif inb x3 a1.length then (MT ((a1.getD x3.toNat dd).Box)).bind λv10=> bif v10 then some (Sum.inl 19) else (DN ((a1.getD x3.toNat dd).Box)).bind λv13=> bif !v13 then some (Sum.inl 9) else R (w64 (x3+1)) else none
def yO (a1:List qF):Nat->Int->Option (Int⊕Unit)
 |0,_=>none
 |n+1,x3=> bif decide (x3<(a1.length:Int)) then bif inb x3 a1.length then bif decide (((a1.getD x3.toNat dd).Kind)<1) then NM a1 x3 (yO a1 n) true else NM a1 x3 (yO a1 n) (decide (((a1.getD x3.toNat dd).Kind)>6)) else none else some (Sum.inr ())
def GG (a1:List qF):Option Int:= bif decide ((a1.length:Int)>64) then some 4 else (yO a1 FUEL 0).bind λu18=>Sum.elim (λv19=>some v19) (λo16=> some 0) u18
def WQ (a1:Scan) (x5:Int) (R:Int->Int->Option (Int⊕Int)) (x15:Bool):Option (Int⊕Int):= bif x15 then some (Sum.inl 11) else bif inb 0 a1.Rings.length then bif ((((a1.Rings.getD x5.toNat dd).Read).length:Nat):Int) !=((((a1.Rings.getD (0:Int).toNat dd).Read).length:Nat):Int) then some (Sum.inl 19) else R ((a1.Rings.getD x5.toNat dd).Z) (w64 (x5+1)) else none
def wE (a1:Scan):Nat->Int->Int->Option (Int⊕Int)
 |0,_,_=>none
 |n+1,x4,x5=> bif decide (x5<(a1.Rings.length:Int)) then bif inb x5 a1.Rings.length then (RA (a1.Rings.getD x5.toNat dd)).bind λv8=> bif v8 !=0 then some (Sum.inl v8) else bif x5==0 then bif ((a1.Rings.getD x5.toNat dd).Z) !=0 then WQ a1 x5 (wE a1 n) true else bif decide (x5>0) then WQ a1 x5 (wE a1 n) (decide (((a1.Rings.getD x5.toNat dd).Z)<=x4)) else WQ a1 x5 (wE a1 n) false else bif decide (x5>0) then WQ a1 x5 (wE a1 n) (decide (((a1.Rings.getD x5.toNat dd).Z)<=x4)) else WQ a1 x5 (wE a1 n) false else none else some (Sum.inr x4)
def YU (a1:Scan) (o20:Int):Nat->Int->Option (Int⊕Unit)
 |0,_=>none
 |n+1,x27=> bif decide (x27<(a1.Defects.length:Int)) then bif inb x27 a1.Defects.length then bif decide (((((a1.Defects.getD x27.toNat dd).Box).Z).B)>o20) then some (Sum.inl 9) else (YU a1 o20 n) (w64 (x27+1)) else none else some (Sum.inr ())
def ML (a1:Scan):Option Int:= bif decide ((a1.Rings.length:Int)<2) then some 3 else bif decide ((a1.Rings.length:Int)>24) then some 4 else (wE a1 FUEL 0 0).bind λu22=>Sum.elim (λv23=>some v23) (λo20=> (GG a1.Defects).bind λv24=> bif v24 !=0 then some v24 else (YU a1 o20 FUEL 0).bind λu33=>Sum.elim (λv34=>some v34) (λo31=> some 0) u33) u22
def qD1 (a1:Ring):Option Ring:= bif room (0+a1.Read.length) 24 then some (Ring.mk a1.Z (([]:List qP)++a1.Read)) else none
def qAd (a1:Int):Option Int:= some (Int.tmod (w64 ((Int.tmod a1 4)+4)) 4)
def qRJ (a1:Box):Option Box:= some (Box.mk (Span.mk (w64 (0-a1.Y.B)) (w64 (0-a1.Y.A))) a1.X a1.Z)
def ZT (a1:List qF) (a2:Int) (x7:Int):Nat->Int->Int->Int->Int->Int->Int->Int->Option qF
 |0,_,_,_,_,_,_,_=>none
 |n+1,x10,x11,x12,x13,x14,x15,x16=> (qAd a2).bind λv17=> bif decide (x10<v17) then (qRJ (Box.mk (Span.mk x11 x12) (Span.mk x13 x14) (Span.mk x15 x16))).bind λv20=> (ZT a1 a2 x7 n) (w64 (x10+1)) v20.X.A v20.X.B v20.Y.A v20.Y.B v20.Z.A v20.Z.B else some (qF.mk ((a1.getD x7.toNat dd).Kind) (Box.mk (Span.mk x11 x12) (Span.mk x13 x14) (Span.mk x15 x16)))
def JP (a1:List qF) (a2:Int):Nat->(List qF)->Int->Option (List qF)
 |0,_,_=>none
 |n+1,l6,x7=> bif decide (x7<(a1.length:Int)) then bif inb x7 a1.length then (ZT a1 a2 x7 FUEL 0 ((((a1.getD x7.toNat dd).Box).X).A) ((((a1.getD x7.toNat dd).Box).X).B) ((((a1.getD x7.toNat dd).Box).Y).A) ((((a1.getD x7.toNat dd).Box).Y).B) ((((a1.getD x7.toNat dd).Box).Z).A) ((((a1.getD x7.toNat dd).Box).Z).B)).bind λo23=> bif room (l6.length+1) 56 then (JP a1 a2 n) (l6++[o23]) (w64 (x7+1)) else none else none else some l6
def qOu (a1:List qF) (a2:Int):Option (List qF):= (GG a1).bind λv3=> bif v3 !=0 then some ([]:List qF) else (JP a1 a2 FUEL [] 0).bind λo27=> some o27
def qCf (x8:Int) (R:Int->Option Int) (x12:Bool):Option Int:= bif x12 then R (w64 (x8+1)) else some x8
def yH (a1:Ring) (x4:Int):Nat->Int->Option Int
 |0,_=>none
 |n+1,x8=> bif decide (x8<(a1.Read.length:Int)) then bif nz (a1.Read.length:Int) then bif inb (Int.tmod (w64 (x4+x8)) (a1.Read.length:Int)) a1.Read.length then qCf x8 (yH a1 x4 n) (!((a1.Read.getD (Int.tmod (w64 (x4+x8)) (a1.Read.length:Int)).toNat dd).Ok)) else none else none else qCf x8 (yH a1 x4 n) false
def qCw (x4:Int) (R:Int->Int->Int->Option (Int×Int)) (x17:Int) (x18:Int):Option (Int×Int):= R x17 x18 (w64 (x4+1))
def KK (a1:Ring):Nat->Int->Int->Int->Option (Int×Int)
 |0,_,_,_=>none
 |n+1,x2,x3,x4=> bif decide (x4<(a1.Read.length:Int)) then bif inb x4 a1.Read.length then bif (a1.Read.getD x4.toNat dd).Ok then qCw x4 (KK a1 n) x2 x3 else (yH a1 x4 FUEL 0).bind λo15=> qCw x4 (KK a1 n) (w64 (x2+1)) (imax x3 o15) else none else some (x2,x3)
def AI (a1:Ring):Option (Int×Int):= (KK a1 FUEL 0 0 0).bind λo21=> some (o21.1,o21.2)
def KS (a1:List qP) (a3:Int):Nat->Int->Option Int
 |0,_=>none
 |n+1,x5=> bif inb x5 a1.length then bif !((a1.getD x5.toNat dd).Ok) then bif nz (a1.length:Int) then (KS a1 a3 n) (Int.tmod (w64 ((w64 (x5+a3))+(a1.length:Int))) (a1.length:Int)) else none else some x5 else none
def WR (a1:List qP) (a2:Int) (a3:Int):Option Int:= bif nz (a1.length:Int) then (KS a1 a3 FUEL (Int.tmod (w64 ((w64 (a2+a3))+(a1.length:Int))) (a1.length:Int))).bind λo10=> some o10 else none
def TJ (x7:Bool):Option Bool:= some x7
def qBm (a1:qA) (a2:qA) (a3:Int):Option Bool:= bif decide ((w64 (a1.X-a2.X))>a3) then TJ true else bif decide ((w64 (a2.X-a1.X))>a3) then TJ true else bif decide ((w64 (a1.Y-a2.Y))>a3) then TJ true else TJ (decide ((w64 (a2.Y-a1.Y))>a3))
def NR (x13:Int) (R:Int->(List qP)->Option (List qP)) (l32:List qP):Option (List qP):= R (w64 (x13+1)) l32
def qAR (x13:Int) (l14:List qP) (R:Int->(List qP)->Option (List qP)) (x29:Bool):Option (List qP):= bif x29 then bif inb x13 l14.length then NR x13 R (l14.set x13.toNat (qP.mk (qA.mk 0 0) false)) else none else NR x13 R l14
def WH (a1:Ring) (a2:Int):Nat->Int->(List qP)->Option (List qP)
 |0,_,_=>none
 |n+1,x13,l14=> bif decide (x13<(a1.Read.length:Int)) then bif inb x13 a1.Read.length then bif !((a1.Read.getD x13.toNat dd).Ok) then NR x13 (WH a1 a2 n) l14 else (WR a1.Read x13 (-1)).bind λv18=> bif inb v18 a1.Read.length then (WR a1.Read x13 1).bind λv21=> bif inb v21 a1.Read.length then (qBm ((a1.Read.getD x13.toNat dd).P) ((a1.Read.getD v18.toNat dd).P) a2).bind λv24=> bif v24 then (qBm ((a1.Read.getD x13.toNat dd).P) ((a1.Read.getD v21.toNat dd).P) a2).bind λv27=> qAR x13 l14 (WH a1 a2 n) v27 else qAR x13 l14 (WH a1 a2 n) false else none else none else none else some l14
def FP (a1:Ring) (a2:Int) (v5:Ring) (x11:Bool):Option Ring:= bif x11 then some (Ring.mk v5.Z v5.Read) else (WH a1 a2 FUEL 0 v5.Read).bind λo34=> some (Ring.mk v5.Z o34)
def qGq (a1:Ring) (a2:Int):Option Ring:= (AI a1).bind λv3=> (qD1 a1).bind λv5=> bif decide (a2<0) then FP a1 a2 v5 true else bif decide ((w64 ((a1.Read.length:Int)-v3.1))<2) then FP a1 a2 v5 true else (RA a1).bind λv9=> FP a1 a2 v5 (v9 !=0)
def qAa (x5:Int):Option Int:= some x5
def qBt (a1:Int) (a2:Int):Option Int:= bif nz a2 then bif decide ((w64 ((w64 (Int.tdiv a1 a2))*a2))>a1) then qAa (w64 ((w64 (Int.tdiv a1 a2))-1)) else qAa (w64 (Int.tdiv a1 a2)) else none
def IY (x13:Int) (R:(List qA)->Int->Option (List qA)) (l30:List qA):Option (List qA):= R l30 (w64 (x13+1))
def ZN (a1:Ring):Nat->(List qA)->Int->Option (List qA)
 |0,_,_=>none
 |n+1,l12,x13=> bif decide (x13<(a1.Read.length:Int)) then bif inb x13 a1.Read.length then bif (a1.Read.getD x13.toNat dd).Ok then bif room (l12.length+1) 16 then IY x13 (ZN a1 n) (l12++[(a1.Read.getD x13.toNat dd).P]) else none else (WR a1.Read x13 (-1)).bind λv18=> (WR a1.Read x13 1).bind λv20=> bif nz (a1.Read.length:Int) then bif inb v18 a1.Read.length then bif inb v20 a1.Read.length then (qBt (w64 ((w64 ((((a1.Read.getD v20.toNat dd).P).X)-(((a1.Read.getD v18.toNat dd).P).X)))*(Int.tmod (w64 ((w64 (x13-v18))+(a1.Read.length:Int))) (a1.Read.length:Int)))) (Int.tmod (w64 ((w64 (v20-v18))+(a1.Read.length:Int))) (a1.Read.length:Int))).bind λv25=> (qBt (w64 ((w64 ((((a1.Read.getD v20.toNat dd).P).Y)-(((a1.Read.getD v18.toNat dd).P).Y)))*(Int.tmod (w64 ((w64 (x13-v18))+(a1.Read.length:Int))) (a1.Read.length:Int)))) (Int.tmod (w64 ((w64 (v20-v18))+(a1.Read.length:Int))) (a1.Read.length:Int))).bind λv27=>
 bif room (l12.length+1) 16 then IY x13 (ZN a1 n) (l12++[(qA.mk (w64 ((((a1.Read.getD v18.toNat dd).P).X)+v25)) (w64 ((((a1.Read.getD v18.toNat dd).P).Y)+v27)))]) else none else none else none else none else none else some l12
def DB (a1:Ring) (x10:Bool):Option ((List qA)×Int):= bif x10 then some ([],30) else (ZN a1 FUEL [] 0).bind λo32=> some (o32,0)
def qEI (a1:Ring) (a2:Int):Option ((List qA)×Int):= (RA a1).bind λv3=> bif v3 !=0 then some ([],v3) else (AI a1).bind λv6=> bif decide ((w64 ((a1.Read.length:Int)-v6.1))<3) then DB a1 true else bif decide (v6.1>0) then DB a1 (decide (v6.2>a2)) else DB a1 false
def RP (a1:List qA):Nat->Int->Int->Option Int
 |0,_,_=>none
 |n+1,x7,x8=> bif decide (x8<(a1.length:Int)) then bif nz (a1.length:Int) then bif inb (Int.tmod (w64 (x8+1)) (a1.length:Int)) a1.length then bif inb x8 a1.length then (RP a1 n) (w64 ((w64 (x7+(w64 (((a1.getD x8.toNat dd).X)*((a1.getD (Int.tmod (w64 (x8+1)) (a1.length:Int)).toNat dd).Y)))))-(w64 (((a1.getD (Int.tmod (w64 (x8+1)) (a1.length:Int)).toNat dd).X)*((a1.getD x8.toNat dd).Y))))) (w64 (x8+1)) else none else none else none else some x7
def qA7 (a1:List qA) (x5:Bool):Option Int:= bif x5 then some 0 else (RP a1 FUEL 0 0).bind λo14=> some o14
def qGr (a1:List qA):Option Int:= bif decide ((a1.length:Int)>32) then qA7 a1 true else (QF a1).bind λv3=> qA7 a1 (!v3)
def qF4 (a1:List qA):Option Int:= bif decide ((a1.length:Int)<3) then some 3 else bif decide ((a1.length:Int)>32) then some 4 else (QF a1).bind λv4=> bif !v4 then some 9 else (qGr a1).bind λv7=> bif v7==0 then some 19 else some 0
def DA (x5:Bool):Option Bool:= some x5
def qEE (a1:qA) (a2:qA):Option Bool:= bif decide (a1.X<a2.X) then DA true else bif a1.X==a2.X then DA (decide (a1.Y<a2.Y)) else DA false
def OV (x5:Int) (R:Int->Option Int) (x11:Bool):Option Int:= bif x11 then R (w64 (x5+1)) else some x5
def PM (a1:List qA) (l2:List qA) (x3:Int):Nat->Int->Option Int
 |0,_=>none
 |n+1,x5=> bif decide (x5<(l2.length:Int)) then bif inb x5 l2.length then bif inb x3 a1.length then (qEE (l2.getD x5.toNat dd) (a1.getD x3.toNat dd)).bind λv9=> OV x5 (PM a1 l2 x3 n) v9 else none else none else OV x5 (PM a1 l2 x3 n) false
def CS (x3:Int) (R:(List qA)->Int->Option (List qA)) (l27:List qA):Option (List qA):= R l27 (w64 (x3+1))
def IJ (a1:List qA) (l2:List qA) (x3:Int) (R:(List qA)->Int->Option (List qA)) (o14:Int) (x19:Bool):Option (List qA):= bif x19 then CS x3 R l2 else bif slOk 0 o14 l2.length then bif room (0+o14.toNat) 16 then bif inb x3 a1.length then bif room ((0+o14.toNat)+1) 16 then bif slOk o14 (l2.length:Int) l2.length then bif room (((0+o14.toNat)+1)+(l2.length-o14.toNat)) 16 then CS x3 R (((([]:List qA)++(l2.take o14.toNat))++[(a1.getD x3.toNat dd)])++((l2.drop o14.toNat).take (l2.length-o14.toNat))) else none else none else none else none else none else none
def JD (a1:List qA):Nat->(List qA)->Int->Option (List qA)
 |0,_,_=>none
 |n+1,l2,x3=> bif decide (x3<(a1.length:Int)) then (PM a1 l2 x3 FUEL 0).bind λo14=> bif decide (o14<(l2.length:Int)) then bif inb o14 l2.length then bif inb x3 a1.length then IJ a1 l2 x3 (JD a1 n) o14 ((((l2.getD o14.toNat dd).X)==((a1.getD x3.toNat dd).X))&&((((l2.getD o14.toNat dd).Y)==((a1.getD x3.toNat dd).Y))&&true)) else none else none else IJ a1 l2 x3 (JD a1 n) o14 false else some l2
def qDS (a1:List qA):Option (List qA):= (JD a1 FUEL [] 0).bind λo29=> some o29
def qGm (a1:qA) (a2:qA) (a3:qA):Option Int:= some (w64 ((w64 ((w64 (a2.X-a1.X))*(w64 (a3.Y-a1.Y))))-(w64 ((w64 (a2.Y-a1.Y))*(w64 (a3.X-a1.X))))))
def CW (l5:List qA) (R:(List qA)->Option (List qA)) (x12:Bool):Option (List qA):= bif x12 then bif slOk 0 (w64 ((l5.length:Int)-1)) l5.length then R (l5.take ((w64 ((l5.length:Int)-1)).toNat)) else none else some l5
def TN (a1:List qA) (x3:Int):Nat->(List qA)->Option (List qA)
 |0,_=>none
 |n+1,l5=> bif decide ((l5.length:Int)>1) then bif inb (w64 ((l5.length:Int)-2)) l5.length then bif inb (w64 ((l5.length:Int)-1)) l5.length then bif inb x3 a1.length then (qGm (l5.getD ((w64 ((l5.length:Int)-2)).toNat) dd) (l5.getD ((w64 ((l5.length:Int)-1)).toNat) dd) (a1.getD x3.toNat dd)).bind λv10=> CW l5 (TN a1 x3 n) (decide (v10<=0)) else none else none else none else CW l5 (TN a1 x3 n) false
def NX (a1:List qA):Nat->(List qA)->Int->Option (List qA)
 |0,_,_=>none
 |n+1,l2,x3=> bif decide (x3<(a1.length:Int)) then (TN a1 x3 FUEL l2).bind λo16=> bif inb x3 a1.length then bif room (o16.length+1) 16 then (NX a1 n) (o16++[(a1.getD x3.toNat dd)]) (w64 (x3+1)) else none else none else some l2
def qBn (a1:List qA):Option (List qA):= (NX a1 FUEL [] 0).bind λo21=> some o21
def KG (v7:(List qA)):Nat->(List qA)->Int->Option (List qA)
 |0,_,_=>none
 |n+1,l9,x10=> bif decide (x10≥0) then bif inb x10 v7.length then bif room (l9.length+1) 16 then (KG v7 n) (l9++[(v7.getD x10.toNat dd)]) (w64 (x10-1)) else none else none else some l9
def qCJ (a1:List qA) (x5:Bool):Option (List qA):= bif x5 then some ([]:List qA) else (qDS a1).bind λv7=> (KG v7 FUEL [] (w64 ((v7.length:Int)-1))).bind λo15=> (qBn v7).bind λv17=> (qBn o15).bind λv19=> bif decide ((w64 ((v17.length:Int)+(v19.length:Int)))<5) then some ([]:List qA) else bif slOk 0 (w64 ((v17.length:Int)-1)) v17.length then bif room (0+(w64 ((v17.length:Int)-1)).toNat) 16 then bif slOk 0 (w64 ((v19.length:Int)-1)) v19.length then bif room ((0+(w64 ((v17.length:Int)-1)).toNat)+(w64 ((v19.length:Int)-1)).toNat) 16 then some ((([]:List qA)++(v17.take ((w64 ((v17.length:Int)-1)).toNat)))++(v19.take ((w64 ((v19.length:Int)-1)).toNat))) else none else none else none else none
def qIj (a1:List qA):Option (List qA):= bif decide ((a1.length:Int)>32) then qCJ a1 true else (QF a1).bind λv3=> qCJ a1 (!v3)
def CZ (x5:Int):Option Int:= some x5
def qBf (a1:Int) (a2:Int):Option Int:= bif nz a2 then bif decide ((w64 ((w64 (Int.tdiv a1 a2))*a2))>a1) then CZ (w64 ((w64 (Int.tdiv a1 a2))-1)) else CZ (w64 (Int.tdiv a1 a2)) else none
def GT (x5:Int) (R:Int->Int->Int->Option ((Int×Int)⊕(Int×Int))) (x17:Int) (x18:Int):Option ((Int×Int)⊕(Int×Int)):= R x17 x18 (w64 (x5+1))
def ZH (a1:List qA) (a2:Int):Nat->Int->Int->Int->Option ((Int×Int)⊕(Int×Int))
 |0,_,_,_=>none
 |n+1,x3,x4,x5=> bif decide (x5<(a1.length:Int)) then bif inb x5 a1.length then bif nz (a1.length:Int) then bif inb (Int.tmod (w64 (x5+1)) (a1.length:Int)) a1.length then bif decide ((w64 (((a1.getD (Int.tmod (w64 (x5+1)) (a1.length:Int)).toNat dd).Y)-((a1.getD x5.toNat dd).Y)))>0) then (qBf (w64 ((w64 (((a1.getD (Int.tmod (w64 (x5+1)) (a1.length:Int)).toNat dd).X)-((a1.getD x5.toNat dd).X)))*(w64 (a2-((a1.getD x5.toNat dd).Y))))) (w64 (((a1.getD (Int.tmod (w64 (x5+1)) (a1.length:Int)).toNat dd).Y)-((a1.getD x5.toNat dd).Y)))).bind λv11=> GT x5 (ZH a1 a2 n) x3 (imin x4 (w64 (((a1.getD x5.toNat dd).X)+v11))) else bif decide ((w64 (((a1.getD (Int.tmod (w64 (x5+1)) (a1.length:Int)).toNat dd).Y)-((a1.getD x5.toNat dd).Y)))<0) then
 (qBf (w64 ((w64 (((a1.getD (Int.tmod (w64 (x5+1)) (a1.length:Int)).toNat dd).X)-((a1.getD x5.toNat dd).X)))*(w64 (a2-((a1.getD x5.toNat dd).Y))))) (w64 (0-(w64 (((a1.getD (Int.tmod (w64 (x5+1)) (a1.length:Int)).toNat dd).Y)-((a1.getD x5.toNat dd).Y)))))).bind λv14=> GT x5 (ZH a1 a2 n) (imax x3 (w64 (((a1.getD x5.toNat dd).X)-v14))) x4 else bif decide ((w64 ((w64 (((a1.getD (Int.tmod (w64 (x5+1)) (a1.length:Int)).toNat dd).X)-((a1.getD x5.toNat dd).X)))*(w64 (a2-((a1.getD x5.toNat dd).Y)))))<0) then some (Sum.inl (1,0)) else GT x5 (ZH a1 a2 n) x3 x4 else none else none else none else some (Sum.inr (x3,x4))
def BG (a1:List qA) (a2:Int):Option (Int×Int):= (ZH a1 a2 FUEL (-600) 600 0).bind λu23=>Sum.elim (λv24=>some v24) (λo21=> some (o21.1,o21.2)) u23
def NV (v11:Int×Int) (v13:Int×Int) (x17:Bool):Option Span:= bif x17 then some (Span.mk 0 0) else some (Span.mk (imax v11.1 v13.1) (imin v11.2 v13.2))
def TM (a2:Int) (a3:Int) (v4:(List qA)) (x9:Bool):Option Span:= bif x9 then some (Span.mk 0 0) else (BG v4 a2).bind λv11=> (BG v4 a3).bind λv13=> bif decide (v11.1>v11.2) then NV v11 v13 true else bif decide (v13.1>v13.2) then NV v11 v13 true else NV v11 v13 (decide ((imax v11.1 v13.1)≥(imin v11.2 v13.2)))
def qF1 (a1:List qA) (a2:Int) (a3:Int):Option Span:= (qIj a1).bind λv4=> bif (v4.length:Int)==0 then TM a2 a3 v4 true else bif decide (a2≥a3) then TM a2 a3 v4 true else bif decide (a2<(-600)) then TM a2 a3 v4 true else TM a2 a3 v4 (decide (a3>600))
def PY (a1:Span):Option Bool:= some (decide (a1.A≥a1.B))
def EA (x3:Int) (R:Int->Option Int) (x8:Bool):Option Int:= bif x8 then R (w64 (x3+1)) else some x3
def WG (a2:List Span):Nat->Int->Option Int
 |0,_=>none
 |n+1,x3=> bif decide (x3<(a2.length:Int)) then bif inb x3 a2.length then (PY (a2.getD x3.toNat dd)).bind λv6=> EA x3 (WG a2 n) v6 else none else EA x3 (WG a2 n) false
def SW (x13:Int) (R:Int->Option Int) (x18:Bool):Option Int:= bif x18 then R (w64 (x13-1)) else some x13
def XS (a2:List Span) (o11:Int):Nat->Int->Option Int
 |0,_=>none
 |n+1,x13=> bif decide (x13>o11) then bif inb (w64 (x13-1)) a2.length then (PY (a2.getD (w64 (x13-1)).toNat dd)).bind λv16=> SW x13 (XS a2 o11 n) v16 else none else SW x13 (XS a2 o11 n) false
def XF (x24:Int) (l25:List Span) (R:Int->(List Span)->Option (List Span)) (x31:Span):Option (List Span):= bif room (l25.length+1) 16 then R (w64 (x24+1)) (l25++[x31]) else none
def yF (a2:List Span) (o21:Int):Nat->Int->(List Span)->Option (List Span)
 |0,_,_=>none
 |n+1,x24,l25=> bif decide (x24<o21) then bif inb x24 a2.length then (PY (a2.getD x24.toNat dd)).bind λv28=> bif v28 then XF x24 l25 (yF a2 o21 n) (Span.mk 0 0) else XF x24 l25 (yF a2 o21 n) (a2.getD x24.toNat dd) else none else some l25
def KQ (a1:Int) (a2:List Span):Option qG:= (WG a2 FUEL 0).bind λo11=> (XS a2 o11 FUEL (a2.length:Int)).bind λo21=> bif o11==o21 then some (qG.mk 0 []) else (yF a2 o21 FUEL o11 []).bind λo34=> some (qG.mk (w64 (a1+o11)) o34)
def GD (a1:List qA):Nat->Int->Int->Int->Option (Int×Int)
 |0,_,_,_=>none
 |n+1,x6,x7,x8=> bif decide (x8<(a1.length:Int)) then bif inb x8 a1.length then (GD a1 n) (imin x6 ((a1.getD x8.toNat dd).Y)) (imax x7 ((a1.getD x8.toNat dd).Y)) (w64 (x8+1)) else none else some (x6,x7)
def qBl (l15:List Span) (x16:Int) (R:(List Span)->Int->Option (List Span)) (x23:Span):Option (List Span):= bif room (l15.length+1) 16 then R (l15++[x23]) (w64 (x16+1)) else none
def qGj (a1:List qA) (l15:List Span) (x16:Int) (R:(List Span)->Int->Option (List Span)) (x19:Bool):Option (List Span):= bif x19 then (qF1 a1 (w64 (10*x16)) (w64 (10*(w64 (x16+1))))).bind λv21=> qBl l15 x16 R v21 else qBl l15 x16 R (Span.mk 0 0)
def QZ (a1:List qA) (o13:Int×Int):Nat->(List Span)->Int->Option (List Span)
 |0,_,_=>none
 |n+1,l15,x16=> bif decide (x16<60) then bif decide ((w64 (10*x16))≥o13.1) then qGj a1 l15 x16 (QZ a1 o13 n) (decide ((w64 (10*(w64 (x16+1))))<=o13.2)) else qGj a1 l15 x16 (QZ a1 o13 n) false else some l15
def qM9 (a1:List qA):Option (qG×Int):= (qF4 a1).bind λv2=> bif v2 !=0 then some ((qG.mk 0 []),v2) else bif inb 0 a1.length then (GD a1 FUEL ((a1.getD (0:Int).toNat dd).Y) ((a1.getD (0:Int).toNat dd).Y) 0).bind λo13=> (QZ a1 o13 FUEL [] (-60)).bind λo26=> (KQ (-60) o26).bind λv28=> bif (v28.Rows.length:Int)==0 then some ((qG.mk 0 []),18) else some ((qG.mk v28.Low v28.Rows),0) else none
def qIu (a1:Ring) (a2:Int) (a3:Int):Option (qG×Bool):= (qGq a1 a2).bind λv4=> (qEI (Ring.mk v4.Z v4.Read) a3).bind λv6=> bif v6.2 !=0 then some ((qG.mk 0 []),false) else (qM9 v6.1).bind λv9=> some ((qG.mk v9.1.Low v9.1.Rows),v9.2==0)
def AR (x3:Bool):Option Bool:= some x3
def AW (a1:Int):Option Bool:= bif decide (a1<(-600)) then AR true else AR (decide (a1>600))
def qA2 (x6:Int) (R:Int->Option (Int⊕Unit)) (x14:Bool):Option (Int⊕Unit):= bif x14 then some (Sum.inl 9) else R (w64 (x6+1))
def WJ (a1:qG):Nat->Int->Option (Int⊕Unit)
 |0,_=>none
 |n+1,x6=> bif decide (x6<(a1.Rows.length:Int)) then bif inb x6 a1.Rows.length then (AW ((a1.Rows.getD x6.toNat dd).A)).bind λv9=> bif v9 then qA2 x6 (WJ a1 n) true else (AW ((a1.Rows.getD x6.toNat dd).B)).bind λv12=> qA2 x6 (WJ a1 n) v12 else none else some (Sum.inr ())
def qA6 (x31:Int) (R:Int->Option (Int⊕Unit)) (x37:Bool):Option (Int⊕Unit):= bif x37 then some (Sum.inl 19) else R (w64 (x31+1))
def WP (a1:qG):Nat->Int->Option (Int⊕Unit)
 |0,_=>none
 |n+1,x31=> bif decide (x31<(a1.Rows.length:Int)) then bif inb x31 a1.Rows.length then (PY (a1.Rows.getD x31.toNat dd)).bind λv34=> bif v34 then qA6 x31 (WP a1 n) (!((((a1.Rows.getD x31.toNat dd).A)==0)&&((((a1.Rows.getD x31.toNat dd).B)==0)&&true))) else qA6 x31 (WP a1 n) false else none else some (Sum.inr ())
def qAs (a1:qG) (x29:Bool):Option Int:= bif x29 then some 19 else (WP a1 FUEL 0).bind λu41=>Sum.elim (λv42=>some v42) (λo39=> some 0) u41
def qAo (a1:qG) (x4:Bool):Option Int:= bif x4 then some 9 else (WJ a1 FUEL 0).bind λu18=>Sum.elim (λv19=>some v19) (λo16=> bif (a1.Rows.length:Int)==0 then bif a1.Low !=0 then some 19 else some 0 else bif inb 0 a1.Rows.length then (PY (a1.Rows.getD (0:Int).toNat dd)).bind λv23=> bif v23 then qAs a1 true else bif inb (w64 ((a1.Rows.length:Int)-1)) a1.Rows.length then (PY (a1.Rows.getD (w64 ((a1.Rows.length:Int)-1)).toNat dd)).bind λv27=> qAs a1 v27 else none else none) u18
def qGh (a1:qG):Option Int:= bif decide ((a1.Rows.length:Int)>120) then some 4 else bif decide (a1.Low<(-60)) then qAo a1 true else qAo a1 (decide (a1.Low>(w64 (60-(a1.Rows.length:Int)))))
def qBb (a1:qG):Option qG:= (qGh a1).bind λv2=> bif v2 !=0 then some (qG.mk 0 []) else some a1
def qEC (a1:qG) (a2:Int) (x4:Bool):Option Span:= bif x4 then some (Span.mk 0 0) else bif inb (w64 (a2-a1.Low)) a1.Rows.length then some (a1.Rows.getD (w64 (a2-a1.Low)).toNat dd) else none
def qFv (a1:qG) (a2:Int):Option Span:= bif decide (a2<a1.Low) then qEC a1 a2 true else qEC a1 a2 (decide (a2≥(w64 (a1.Low+(a1.Rows.length:Int)))))
def KH (v3:qG) (v5:qG):Nat->(List Span)->Int->Option (List Span)
 |0,_,_=>none
 |n+1,l7,x8=> bif decide (x8<60) then (qFv v3 x8).bind λv10=> (qFv v5 x8).bind λv12=> bif room (l7.length+1) 16 then (KH v3 v5 n) (l7++[(Span.mk (imax v10.A v12.A) (imin v10.B v12.B))]) (w64 (x8+1)) else none else some l7
def qH8 (a1:qG) (a2:qG):Option qG:= (qBb a1).bind λv3=> (qBb a2).bind λv5=> (KH v3 v5 FUEL [] (-60)).bind λo16=> (KQ (-60) o16).bind λv18=> some (qG.mk v18.Low v18.Rows)
def JO (a1:List qF) (a2:List qF):Nat->Int->Option (Bool⊕Unit)
 |0,_=>none
 |n+1,x4=> bif decide (x4<(a1.length:Int)) then bif inb x4 a1.length then bif inb x4 a2.length then bif !((((a1.getD x4.toNat dd).Kind)==((a2.getD x4.toNat dd).Kind))&&((((((((a1.getD x4.toNat dd).Box).X).A)==((((a2.getD x4.toNat dd).Box).X).A))&&((((((a1.getD x4.toNat dd).Box).X).B)==((((a2.getD x4.toNat dd).Box).X).B))&&true))&&(((((((a1.getD x4.toNat dd).Box).Y).A)==((((a2.getD x4.toNat dd).Box).Y).A))&&((((((a1.getD x4.toNat dd).Box).Y).B)==((((a2.getD x4.toNat dd).Box).Y).B))&&true))&&(((((((a1.getD x4.toNat dd).Box).Z).A)==((((a2.getD x4.toNat dd).Box).Z).A))&&((((((a1.getD x4.toNat dd).Box).Z).B)==((((a2.getD x4.toNat dd).Box).Z).B))&&true))&&true)))&&true)) then some (Sum.inl false) else
 (JO a1 a2 n) (w64 (x4+1)) else none else none else some (Sum.inr ())
def PT (a1:List qF) (a2:List qF):Option Bool:= bif (a1.length:Int) !=(a2.length:Int) then some false else (JO a1 a2 FUEL 0).bind λu11=>Sum.elim (λv12=>some v12) (λo9=> some true) u11
def JT (a1:List Span) (a2:List Span):Nat->Int->Option (Bool⊕Unit)
 |0,_=>none
 |n+1,x4=> bif decide (x4<(a1.length:Int)) then bif inb x4 a1.length then bif inb x4 a2.length then bif !((((a1.getD x4.toNat dd).A)==((a2.getD x4.toNat dd).A))&&((((a1.getD x4.toNat dd).B)==((a2.getD x4.toNat dd).B))&&true)) then some (Sum.inl false) else (JT a1 a2 n) (w64 (x4+1)) else none else none else some (Sum.inr ())
def zaQ (a1:List Span) (a2:List Span):Option Bool:= bif (a1.length:Int) !=(a2.length:Int) then some false else (JT a1 a2 FUEL 0).bind λu11=>Sum.elim (λv12=>some v12) (λo9=> some true) u11
def WY (x13:Int) (R:Int->Option (Bool⊕Unit)) (x23:Bool):Option (Bool⊕Unit):= bif x23 then some (Sum.inl false) else R (w64 (x13+1))
def wK (a1:List qZ) (a2:List qZ) (x4:Int):Nat->Int->Option (Bool⊕Unit)
 |0,_=>none
 |n+1,x13=> bif inb x4 a1.length then bif decide (x13<((((a1.getD x4.toNat dd).Solid).length:Nat):Int)) then bif inb x13 (((a1.getD x4.toNat dd).Solid).length) then bif inb x4 a2.length then bif inb x13 (((a2.getD x4.toNat dd).Solid).length) then bif ((((a1.getD x4.toNat dd).Solid).getD x13.toNat dd).Len) !=((((a2.getD x4.toNat dd).Solid).getD x13.toNat dd).Len) then WY x13 (wK a1 a2 x4 n) true else bif (((((a1.getD x4.toNat dd).Solid).getD x13.toNat dd).Sec).Low) !=(((((a2.getD x4.toNat dd).Solid).getD x13.toNat dd).Sec).Low) then WY x13 (wK a1 a2 x4 n) true else (zaQ (((((a1.getD x4.toNat dd).Solid).getD x13.toNat dd).Sec).Rows) (((((a2.getD x4.toNat dd).Solid).getD x13.toNat dd).Sec).Rows)).bind λv21=>
 WY x13 (wK a1 a2 x4 n) (!v21) else none else none else none else some (Sum.inr ()) else none
def QP (a1:List qZ) (a2:List qZ) (x4:Int) (R:Int->Option (Bool⊕Unit)) (x11:Bool):Option (Bool⊕Unit):= bif x11 then some (Sum.inl false) else (wK a1 a2 x4 FUEL 0).bind λu27=>Sum.elim (λv28=>some (Sum.inl v28)) (λo25=> R (w64 (x4+1))) u27
def jF (a1:List qZ) (a2:List qZ):Nat->Int->Option (Bool⊕Unit)
 |0,_=>none
 |n+1,x4=> bif decide (x4<(a1.length:Int)) then bif inb x4 a1.length then bif inb x4 a2.length then (PT ((a1.getD x4.toNat dd).Defects) ((a2.getD x4.toNat dd).Defects)).bind λv8=> bif !v8 then QP a1 a2 x4 (jF a1 a2 n) true else QP a1 a2 x4 (jF a1 a2 n) (((((a1.getD x4.toNat dd).Solid).length:Nat):Int) !=((((a2.getD x4.toNat dd).Solid).length:Nat):Int)) else none else none else some (Sum.inr ())
def DF (a1:List qZ) (a2:List qZ):Option Bool:= bif (a1.length:Int) !=(a2.length:Int) then some false else (jF a1 a2 FUEL 0).bind λu31=>Sum.elim (λv32=>some v32) (λo29=> some true) u31
def JN (a1:List qO) (a2:List qO):Option Bool:= (DF ([(qZ.mk a1 [])]:List qZ) ([(qZ.mk a2 [])]:List qZ)).bind λv3=> some v3
def wP (x37:Bool):Option Bool:= some x37
def yZ (a1:ZQ) (a2:Int) (a3:Int) (x9:Bool):Option Bool:= bif x9 then (PZ).bind λv11=> some v11 else (QS a1.Scan (w64 (a2))).bind λv13=> (wV v13 (w64 (a3)) a1.Limit a1.Most).bind λv15=> (wV a1.Scan (w64 ((w64 (a2))+(w64 (a3)))) a1.Limit a1.Most).bind λv17=> (wV a1.Scan (w64 ((w64 ((w64 (a2))+(w64 (a3))))+4)) a1.Limit a1.Most).bind λv19=> bif v15.2.2==v17.2.2 then (JN v15.1 v17.1).bind λv22=> bif v22 then (PT v15.2.1 v17.2.1).bind λv25=> bif v25 then bif v19.2.2==v17.2.2 then (JN v19.1 v17.1).bind λv29=> bif v29 then (PT v19.2.1 v17.2.1).bind λv32=> bif v32 then (PZ).bind λv35=> wP v35 else wP false else wP false else wP false else wP false else wP false else wP false
def XV (a1:ZQ) (a2:Int) (a3:Int):Option Bool:= (qCd a1.Scan).bind λv4=> bif !v4 then yZ a1 a2 a3 true else (ML a1.Scan).bind λv7=> yZ a1 a2 a3 (v7 !=0)
end Saw
end Go.SL

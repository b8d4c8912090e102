import Derived.Test.YtigmogcdifllhaaGreatDoorYa7
set_option linter.unusedVariables false
set_option linter.unusedSimpArgs false
namespace Go.SL
namespace Saw
structure zR where
 Size:Int
 At:Int
instance : Inhabited zR:=⟨⟨0,0⟩⟩
def XR (r:zR):List C:=[ci r.Size,ci r.At]
structure qA where
 X:Int
 Y:Int
instance : Inhabited qA:=⟨⟨0,0⟩⟩
def qE (r:qA):List C:=[ci r.X,ci r.Y]
structure qO where
 P:qA
 Ok:Bool
instance : Inhabited qO:=⟨⟨daa,false⟩⟩
def qW (r:qO):List C:=[ci r.P.X,ci r.P.Y,cb r.Ok]
structure Ring where
 Z:Int
 Read:List qO
instance : Inhabited Ring:=⟨⟨0,[]⟩⟩
def zI (r:Ring):List C:=[ci r.Z,tl qW daa r.Read]
structure Span where
 A:Int
 B:Int
instance : Inhabited Span:=⟨⟨0,0⟩⟩
def qL (r:Span):List C:=[ci r.A,ci r.B]
structure Box where
 X:Span
 Y:Span
 Z:Span
instance : Inhabited Box:=⟨⟨daa,daa,daa⟩⟩
def RA (r:Box):List C:=[ci r.X.A,ci r.X.B,ci r.Y.A,ci r.Y.B,ci r.Z.A,ci r.Z.B]
structure qC where
 Kind:Int
 Box:Box
instance : Inhabited qC:=⟨⟨0,daa⟩⟩
def qP (r:qC):List C:=[ci r.Kind,ci r.Box.X.A,ci r.Box.X.B,ci r.Box.Y.A,ci r.Box.Y.B,ci r.Box.Z.A,ci r.Box.Z.B]
structure Scan where
 Rings:List Ring
 Defects:List qC
instance : Inhabited Scan:=⟨⟨[],[]⟩⟩
def PA (r:Scan):List C:=[tl zI daa r.Rings,tl qP daa r.Defects]
structure jY where
 Scan:Scan
 Limit:Int
 Most:Int
instance : Inhabited jY:=⟨⟨daa,0,0⟩⟩
def qC7 (r:jY):List C:=[tl zI daa r.Scan.Rings,tl qP daa r.Scan.Defects,ci r.Limit,ci r.Most]
structure Product where
 Name:ByteArray
 Thick:Int
 Width:Int
 Allow:Int
 Wane:Int
 Lengths:List Int
 Prices:List Int
instance : Inhabited Product:=⟨⟨⟨#[]⟩,0,0,0,0,[],[]⟩⟩
def qY (r:Product):List C:=[cs r.Name,ci r.Thick,ci r.Width,ci r.Allow,ci r.Wane,tl qG daa r.Lengths,tl qG daa r.Prices]
structure qF where
 Low:Int
 Rows:List Span
instance : Inhabited qF:=⟨⟨0,[]⟩⟩
def zP (r:qF):List C:=[ci r.Low,tl qL daa r.Rows]
structure Rect where
 X:Span
 Y:Span
instance : Inhabited Rect:=⟨⟨daa,daa⟩⟩
def zL (r:Rect):List C:=[ci r.X.A,ci r.X.B,ci r.Y.A,ci r.Y.B]
structure qB where
 Len:Int
 Sec:qF
instance : Inhabited qB:=⟨⟨0,daa⟩⟩
def qS (r:qB):List C:=[ci r.Len,ci r.Sec.Low,tl qL daa r.Sec.Rows]
structure Saw where
 Kerf:Int
 Trim:Int
 Pitch:Int
 Step:Int
instance : Inhabited Saw:=⟨⟨0,0,0,0⟩⟩
def PV (r:Saw):List C:=[ci r.Kerf,ci r.Trim,ci r.Pitch,ci r.Step]
structure Rates where
 Chip:Int
 Dust:Int
 Fine:Int
instance : Inhabited Rates:=⟨⟨0,0,0⟩⟩
def QL (r:Rates):List C:=[ci r.Chip,ci r.Dust,ci r.Fine]
structure jE where
 z:Span
 lack:Int
instance : Inhabited jE:=⟨⟨daa,0⟩⟩
def ZY (r:jE):List C:=[ci r.z.A,ci r.z.B,ci r.lack]
structure zO where
 product:Product
 rect:Rect
 length:Int
 zones:List jE
 defects:List qC
instance : Inhabited zO:=⟨⟨daa,daa,0,[],[]⟩⟩
def qJA (r:zO):List C:=[cs r.product.Name,ci r.product.Thick,ci r.product.Width,ci r.product.Allow,ci r.product.Wane,tl qG daa r.product.Lengths,tl qG daa r.product.Prices,ci r.rect.X.A,ci r.rect.X.B,ci r.rect.Y.A,ci r.rect.Y.B,ci r.length,tl ZY daa r.zones,tl qP daa r.defects]
structure Line where
 Len:Int
 Kerf:Int
 Pitch:Int
 Sizes:List Int
 Gain:List (List Int)
 Chip:List Int
 Dust:List Int
instance : Inhabited Line:=⟨⟨0,0,0,[],[],[],[]⟩⟩
def AD (r:Line):List C:=[ci r.Len,ci r.Kerf,ci r.Pitch,tl qG daa r.Sizes,tl (qX qG) daa r.Gain,tl qG daa r.Chip,tl qG daa r.Dust]
structure qH where
 piece:zR
 value:Int
instance : Inhabited qH:=⟨⟨daa,0⟩⟩
def zD (r:qH):List C:=[ci r.piece.Size,ci r.piece.At,ci r.value]
structure Node where
 Kind:Int
 At:Int
instance : Inhabited Node:=⟨⟨0,0⟩⟩
def qK (r:Node):List C:=[ci r.Kind,ci r.At]
structure Pattern where
 Frame:Rect
 Nodes:List Node
instance : Inhabited Pattern:=⟨⟨daa,[]⟩⟩
def qPv (r:Pattern):List C:=[ci r.Frame.X.A,ci r.Frame.X.B,ci r.Frame.Y.A,ci r.Frame.Y.B,tl qK daa r.Nodes]
structure qQ where
 Quarters:Int
 Pattern:Pattern
 Value:Int
instance : Inhabited qQ:=⟨⟨0,daa,0⟩⟩
def jU (r:qQ):List C:=[ci r.Quarters,ci r.Pattern.Frame.X.A,ci r.Pattern.Frame.X.B,ci r.Pattern.Frame.Y.A,ci r.Pattern.Frame.Y.B,tl qK daa r.Pattern.Nodes,ci r.Value]
structure qU4 where
 Solid:List qB
 Defects:List qC
instance : Inhabited qU4:=⟨⟨[],[]⟩⟩
structure yP where
 Products:List Product
 Saw:Saw
 Rates:Rates
instance : Inhabited yP:=⟨⟨[],daa,daa⟩⟩
def qBu (r:yP):List C:=[tl qY daa r.Products,ci r.Saw.Kerf,ci r.Saw.Trim,ci r.Saw.Pitch,ci r.Saw.Step,ci r.Rates.Chip,ci r.Rates.Dust,ci r.Rates.Fine]
structure zG where
 value:Int
 piece:zR
instance : Inhabited zG:=⟨⟨0,daa⟩⟩
def wT (r:zG):List C:=[ci r.value,ci r.piece.Size,ci r.piece.At]
structure zN where
 Quarters:Int
 Pattern:Pattern
 Value:Int
instance : Inhabited zN:=⟨⟨0,daa,0⟩⟩
def yY (r:zN):List C:=[ci r.Quarters,ci r.Pattern.Frame.X.A,ci r.Pattern.Frame.X.B,ci r.Pattern.Frame.Y.A,ci r.Pattern.Frame.Y.B,tl qK daa r.Pattern.Nodes,ci r.Value]
def qLJ :zR:=(zR.mk (-1) (-1))
def wE :List qA:=[(qA.mk 1 0),(qA.mk 0 1),(qA.mk (-1) 0),(qA.mk 0 (-1))]
def qHa :List Int:=[(-1),1]
def globs :List (Nat×C):=[(0,.lptr (XR qLJ)),(1,.aptr 4 2 (rf qE wE)),(2,.aptr 2 1 (rf qG qHa))]
def qDA :Nat->Int->(List qO)->Option (List qO)
 |0,_,_=>none
 |n+1,x4,l5=> bif decide (x4<((8:Nat):Int)) then bif inb x4 8 then bif room (l5.length+1) 24 then (qDA n) (w64 (x4+1)) (l5++([(qO.mk (([(qA.mk 60 30),(qA.mk 0 30),(qA.mk (-60) 30),(qA.mk (-60) 0),(qA.mk (-60) (-30)),(qA.mk 0 (-30)),(qA.mk 60 (-30)),(qA.mk 60 0)]:List qA).getD x4.toNat daa) true)]:List qO)) else none else none else some l5
def qDJ :Nat->Int->(List Ring)->Option (List Ring)
 |0,_,_=>none
 |n+1,x1,l2=> bif decide (x1<2) then (qDA FUEL 0 []).bind λo10=> bif room (l2.length+1) 32 then (qDJ n) (w64 (x1+1)) (l2++[(Ring.mk (w64 (3000*x1)) o10)]) else none else some l2
def AL :Option Scan:= (qDJ FUEL 0 []).bind λo14=> some (Scan.mk o14 [])
def AV (x3:Bool):Option Bool:= some x3
def CN (a1:Int):Option Bool:= bif decide (a1≥(-600)) then AV (decide (a1<=600)) else AV false
def qAy (x7:Int) (R:Int->Option (Int⊕Unit)) (x19:Bool):Option (Int⊕Unit):= bif x19 then some (Sum.inl 19) else R (w64 (x7+1))
def MH (a1:Ring) (x7:Int) (R:Int->Option (Int⊕Unit)) (x16:Bool):Option (Int⊕Unit):= bif x16 then some (Sum.inl 9) else bif !((a1.Read.getD x7.toNat daa).Ok) then qAy x7 R (!(((((a1.Read.getD x7.toNat daa).P).X)==0)&&(((((a1.Read.getD x7.toNat daa).P).Y)==0)&&true))) else qAy x7 R false
def XA (a1:Ring):Nat->Int->Option (Int⊕Unit)
 |0,_=>none
 |n+1,x7=> bif decide (x7<(a1.Read.length:Int)) then bif inb x7 a1.Read.length then bif (a1.Read.getD x7.toNat daa).Ok then (CN (((a1.Read.getD x7.toNat daa).P).X)).bind λv11=> bif !v11 then MH a1 x7 (XA a1 n) true else (CN (((a1.Read.getD x7.toNat daa).P).Y)).bind λv14=> MH a1 x7 (XA a1 n) (!v14) else MH a1 x7 (XA a1 n) false else none else some (Sum.inr ())
def qAq (a1:Ring) (x5:Bool):Option Int:= bif x5 then some 9 else (XA a1 FUEL 0).bind λu23=>Sum.elim (λv24=>some v24) (λo21=> some 0) u23
def LL (a1:Ring):Option Int:= bif decide ((a1.Read.length:Int)<8) then some 3 else bif decide ((a1.Read.length:Int)>32) then some 4 else bif decide (a1.Z<0) then qAq a1 true else qAq a1 (decide (a1.Z>20000))
def JM (a1:Span):Option Bool:= some (decide (a1.A≥a1.B))
def LB (x5:Bool):Option Bool:= some x5
def GF (a1:Span) (a2:Int) (a3:Int):Option Bool:= bif decide ((imin a1.A a1.B)≥a2) then LB (decide ((imax a1.A a1.B)<=a3)) else LB false
def GZ (x23:Bool):Option Int:= bif x23 then some 9 else some 0
def DU (a1:qC) (x13:Bool):Option Int:= bif x13 then some 19 else (GF a1.Box.X (-600) 600).bind λv15=> bif !v15 then GZ true else (GF a1.Box.Y (-600) 600).bind λv18=> bif !v18 then GZ true else (GF a1.Box.Z 0 20000).bind λv21=> GZ (!v21)
def HO (a1:qC) (x3:Bool):Option Int:= bif x3 then some 10 else (JM a1.Box.X).bind λv5=> bif v5 then DU a1 true else (JM a1.Box.Y).bind λv8=> bif v8 then DU a1 true else (JM a1.Box.Z).bind λv11=> DU a1 v11
def qBo (a1:qC):Option Int:= bif decide (a1.Kind<1) then HO a1 true else HO a1 (decide (a1.Kind>6))
def YJ (a1:List qC):Nat->Int->Option (Int⊕Unit)
 |0,_=>none
 |n+1,x3=> bif decide (x3<(a1.length:Int)) then bif inb x3 a1.length then (qBo (a1.getD x3.toNat daa)).bind λv6=> bif v6 !=0 then some (Sum.inl v6) else (YJ a1 n) (w64 (x3+1)) else none else some (Sum.inr ())
def KX (a1:List qC):Option Int:= bif decide ((a1.length:Int)>64) then some 4 else (YJ a1 FUEL 0).bind λu11=>Sum.elim (λv12=>some v12) (λo9=> some 0) u11
def RH (a1:Scan) (x4:Int) (R:Int->Option (Int⊕Unit)) (x16:Bool):Option (Int⊕Unit):= bif x16 then some (Sum.inl 11) else bif inb 0 a1.Rings.length then bif ((((a1.Rings.getD x4.toNat daa).Read).length:Nat):Int) !=((((a1.Rings.getD (0:Int).toNat daa).Read).length:Nat):Int) then some (Sum.inl 19) else R (w64 (x4+1)) else none
def yS (a1:Scan):Nat->Int->Option (Int⊕Unit)
 |0,_=>none
 |n+1,x4=> bif decide (x4<(a1.Rings.length:Int)) then bif inb x4 a1.Rings.length then (LL (a1.Rings.getD x4.toNat daa)).bind λv7=> bif v7 !=0 then some (Sum.inl v7) else bif x4==0 then bif ((a1.Rings.getD x4.toNat daa).Z) !=0 then RH a1 x4 (yS a1 n) true else bif decide (x4>0) then bif inb (w64 (x4-1)) a1.Rings.length then RH a1 x4 (yS a1 n) (decide (((a1.Rings.getD x4.toNat daa).Z)<=((a1.Rings.getD (w64 (x4-1)).toNat daa).Z))) else none else RH a1 x4 (yS a1 n) false else bif decide (x4>0) then bif inb (w64 (x4-1)) a1.Rings.length then RH a1 x4 (yS a1 n) (decide (((a1.Rings.getD x4.toNat daa).Z)<=((a1.Rings.getD (w64 (x4-1)).toNat daa).Z))) else none else RH a1 x4 (yS a1 n) false else none else
 some (Sum.inr ())
def GC (a1:Scan):Nat->Int->Option (Int⊕Unit)
 |0,_=>none
 |n+1,x28=> bif decide (x28<(a1.Defects.length:Int)) then bif inb x28 a1.Defects.length then bif decide (((((a1.Defects.getD x28.toNat daa).Box).Z).B)>((a1.Rings.getD (w64 ((a1.Rings.length:Int)-1)).toNat daa).Z)) then some (Sum.inl 9) else (GC a1 n) (w64 (x28+1)) else none else some (Sum.inr ())
def qBB (a1:Scan):Option Int:= bif decide ((a1.Rings.length:Int)<2) then some 3 else bif decide ((a1.Rings.length:Int)>24) then some 4 else (yS a1 FUEL 0).bind λu22=>Sum.elim (λv23=>some v23) (λo20=> (KX a1.Defects).bind λv24=> bif v24 !=0 then some v24 else bif inb (w64 ((a1.Rings.length:Int)-1)) a1.Rings.length then (GC a1 FUEL 0).bind λu34=>Sum.elim (λv35=>some v35) (λo32=> some 0) u34 else none) u22
def DO (a1:List Ring):Option (List Ring):= bif room a1.length 32 then some a1 else none
def yR (a1:List qC):Option (List qC):= bif room a1.length 56 then some a1 else none
def QN (a1:List qO):Option (List qO):= bif room a1.length 24 then some a1 else none
def WE (v2:List Ring):Nat->Int->(List Ring)->Option (List Ring)
 |0,_,_=>none
 |n+1,x6,l7=> bif decide (x6<(v2.length:Int)) then bif inb x6 l7.length then (QN ((l7.getD x6.toNat daa).Read)).bind λv13=> (WE v2 n) (w64 (x6+1)) (l7.set x6.toNat (Ring.mk ((l7.getD x6.toNat daa).Z) v13)) else none else some l7
def qEs (a1:Scan):Option Scan:= (DO a1.Rings).bind λv2=> (yR a1.Defects).bind λv4=> (WE v2 FUEL 0 v2).bind λo16=> some (Scan.mk o16 v4)
def QY (a1:List qC) (a2:Int) (x8:Int):Nat->Int->Int->Int->Int->Int->Option qC
 |0,_,_,_,_,_=>none
 |n+1,x11,x12,x13,x14,x15=> bif decide (x11<(Int.tmod (w64 ((Int.tmod a2 4)+4)) 4)) then (QY a1 a2 x8 n) (w64 (x11+1)) (w64 (0-x15)) (w64 (0-x14)) x12 x13 else some (qC.mk ((a1.getD x8.toNat daa).Kind) (Box.mk (Span.mk x12 x13) (Span.mk x14 x15) (((a1.getD x8.toNat daa).Box).Z)))
def JR (a1:List qC) (a2:Int):Nat->(List qC)->Int->Option (List qC)
 |0,_,_=>none
 |n+1,l7,x8=> bif decide (x8<(a1.length:Int)) then bif inb x8 a1.length then (QY a1 a2 x8 FUEL 0 ((((a1.getD x8.toNat daa).Box).X).A) ((((a1.getD x8.toNat daa).Box).X).B) ((((a1.getD x8.toNat daa).Box).Y).A) ((((a1.getD x8.toNat daa).Box).Y).B)).bind λo18=> bif inb x8 l7.length then (JR a1 a2 n) (l7.set x8.toNat o18) (w64 (x8+1)) else none else none else some l7
def qCG (a1:List qC) (a2:Int):Option (List qC):= (KX a1).bind λv3=> bif v3 !=0 then some ([]:List qC) else bif mkOk (a1.length:Int) 56 then (JR a1 a2 FUEL (List.replicate ((a1.length:Int).toNat) (qC.mk 0 (Box.mk (Span.mk 0 0) (Span.mk 0 0) (Span.mk 0 0)))) 0).bind λo22=> some o22 else none
def qBZ (a1:Ring):Option Ring:= (QN a1.Read).bind λv2=> some (Ring.mk a1.Z v2)
def SB (x2:Int) (R:Int->Option (Bool⊕Unit)) (x6:Bool):Option (Bool⊕Unit):= bif x6 then some (Sum.inl false) else R (w64 (x2+1))
def YG (a1:List qA):Nat->Int->Option (Bool⊕Unit)
 |0,_=>none
 |n+1,x2=> bif decide (x2<(a1.length:Int)) then bif inb x2 a1.length then bif ((a1.getD x2.toNat daa).X)==(-9223372036854775808) then SB x2 (YG a1 n) true else SB x2 (YG a1 n) (((a1.getD x2.toNat daa).Y)==(-9223372036854775808)) else none else some (Sum.inr ())
def qB5 (a1:List qA):Option Bool:= (YG a1 FUEL 0).bind λu10=>Sum.elim (λv11=>some v11) (λo8=> some true) u10
def NP (a1:List qA) (a2:Int):Nat->(List qA)->Int->Option (List qA)
 |0,_,_=>none
 |n+1,l8,x9=> bif decide (x9<(a1.length:Int)) then bif inb x9 a1.length then bif inb x9 l8.length then (NP a1 a2 n) (l8.set x9.toNat (qA.mk (w64 ((w64 (((wE.getD (Int.tmod (w64 ((Int.tmod a2 4)+4)) 4).toNat daa).X)*((a1.getD x9.toNat daa).X)))-(w64 (((wE.getD (Int.tmod (w64 ((Int.tmod a2 4)+4)) 4).toNat daa).Y)*((a1.getD x9.toNat daa).Y))))) (w64 ((w64 (((wE.getD (Int.tmod (w64 ((Int.tmod a2 4)+4)) 4).toNat daa).Y)*((a1.getD x9.toNat daa).X)))+(w64 (((wE.getD (Int.tmod (w64 ((Int.tmod a2 4)+4)) 4).toNat daa).X)*((a1.getD x9.toNat daa).Y))))))) (w64 (x9+1)) else none else none else some l8
def qGe (a1:List qA) (a2:Int):Option (List qA):= (qB5 a1).bind λv3=> bif !v3 then some ([]:List qA) else bif inb (Int.tmod (w64 ((Int.tmod a2 4)+4)) 4) 4 then bif mkOk (a1.length:Int) 16 then (NP a1 a2 FUEL (List.replicate ((a1.length:Int).toNat) (qA.mk 0 0)) 0).bind λo14=> some o14 else none else none
def NR (a1:Ring):Nat->(List qA)->Int->Option (List qA)
 |0,_,_=>none
 |n+1,l9,x10=> bif decide (x10<(a1.Read.length:Int)) then bif inb x10 a1.Read.length then bif inb x10 l9.length then (NR a1 n) (l9.set x10.toNat ((a1.Read.getD x10.toNat daa).P)) (w64 (x10+1)) else none else none else some l9
def FA (v17:(List qA)):Nat->Int->(List qO)->Option (List qO)
 |0,_,_=>none
 |n+1,x19,l20=> bif decide (x19<(v17.length:Int)) then bif inb x19 v17.length then bif inb x19 l20.length then (FA v17 n) (w64 (x19+1)) (l20.set x19.toNat (qO.mk (v17.getD x19.toNat daa) ((l20.getD x19.toNat daa).Ok))) else none else none else some l20
def QR (a1:Ring) (a2:Int):Option Ring:= (qBZ a1).bind λv3=> (LL a1).bind λv5=> bif v5 !=0 then some (Ring.mk v3.Z v3.Read) else bif mkOk (a1.Read.length:Int) 16 then (NR a1 FUEL (List.replicate ((a1.Read.length:Int).toNat) (qA.mk 0 0)) 0).bind λo15=> (qGe o15 a2).bind λv17=> (FA v17 FUEL 0 v3.Read).bind λo25=> some (Ring.mk v3.Z o25) else none
def KW (a1:Scan) (a2:Int):Nat->Int->(List Ring)->Option (List Ring)
 |0,_,_=>none
 |n+1,x11,l12=> bif decide (x11<(a1.Rings.length:Int)) then bif inb x11 a1.Rings.length then (QR (a1.Rings.getD x11.toNat daa) a2).bind λv19=> bif inb x11 l12.length then (KW a1 a2 n) (w64 (x11+1)) (l12.set x11.toNat v19) else none else none else some l12
def qA2 (a1:Scan) (a2:Int):Option Scan:= (qBB a1).bind λv3=> bif v3 !=0 then (qEs a1).bind λv6=> some (Scan.mk v6.Rings v6.Defects) else bif mkOk (a1.Rings.length:Int) 32 then (qCG a1.Defects a2).bind λv9=> (KW a1 a2 FUEL 0 (List.replicate ((a1.Rings.length:Int).toNat) (Ring.mk 0 []))).bind λo23=> some (Scan.mk o23 v9) else none
def LM (x3:Int) (R:(List Int)->Int->Option (List Int)) (l8:List Int):Option (List Int):= R l8 (w64 (x3+1))
def WT (a1:Ring):Nat->(List Int)->Int->Option (List Int)
 |0,_,_=>none
 |n+1,l2,x3=> bif decide (x3<(a1.Read.length:Int)) then bif inb x3 a1.Read.length then bif (a1.Read.getD x3.toNat daa).Ok then bif room (l2.length+1) 8 then LM x3 (WT a1 n) (l2++[x3]) else none else LM x3 (WT a1 n) l2 else none else some l2
def GD (a1:Ring):Option (List Int):= (WT a1 FUEL [] 0).bind λo10=> some o10
def qC5 (x5:Bool):Option Bool:= some x5
def qIk (a1:qA) (a2:qA) (a3:Int):Option Bool:= bif decide ((imax (w64 (a1.X-a2.X)) (w64 (a2.X-a1.X)))>a3) then qC5 true else qC5 (decide ((imax (w64 (a1.Y-a2.Y)) (w64 (a2.Y-a1.Y)))>a3))
def qAl (x18:Int) (R:Bool->Int->Option Bool) (x28:Bool):Option Bool:= R x28 (w64 (x18+1))
def QX (a1:Ring) (a2:Int) (v5:(List Int)) (x13:Int):Nat->Bool->Int->Option Bool
 |0,_,_=>none
 |n+1,x17,x18=> bif decide (x18<2) then bif inb x18 2 then bif nz (v5.length:Int) then bif inb (Int.tmod (w64 ((w64 (x13+(v5.length:Int)))+(([(-1),1]:List Int).getD x18.toNat 0))) (v5.length:Int)) v5.length then bif inb (v5.getD ((Int.tmod (w64 ((w64 (x13+(v5.length:Int)))+(([(-1),1]:List Int).getD x18.toNat 0))) (v5.length:Int)).toNat) daa) a1.Read.length then bif x17 then bif inb (v5.getD x13.toNat daa) a1.Read.length then (qIk ((a1.Read.getD (v5.getD x13.toNat daa).toNat daa).P) ((a1.Read.getD (v5.getD ((Int.tmod (w64 ((w64 (x13+(v5.length:Int)))+(([(-1),1]:List Int).getD x18.toNat 0))) (v5.length:Int)).toNat) daa).toNat daa).P) a2).bind λv26=> qAl x18 (QX a1 a2 v5 x13 n) v26 else none else
 qAl x18 (QX a1 a2 v5 x13 n) false else none else none else none else none else some x17
def qAP (x13:Int) (R:Int->(List qO)->Option (List qO)) (l34:List qO):Option (List qO):= R (w64 (x13+1)) l34
def RP (a1:Ring) (a2:Int) (v5:(List Int)):Nat->Int->(List qO)->Option (List qO)
 |0,_,_=>none
 |n+1,x13,l14=> bif decide (x13<(v5.length:Int)) then bif inb x13 v5.length then (QX a1 a2 v5 x13 FUEL true 0).bind λo30=> bif o30 then bif inb (v5.getD x13.toNat daa) l14.length then qAP x13 (RP a1 a2 v5 n) (l14.set ((v5.getD x13.toNat daa).toNat) (qO.mk (qA.mk 0 0) false)) else none else qAP x13 (RP a1 a2 v5 n) l14 else none else some l14
def MF (a1:Ring) (a2:Int) (v3:Ring) (v5:(List Int)) (x11:Bool):Option Ring:= bif x11 then some (Ring.mk v3.Z v3.Read) else (RP a1 a2 v5 FUEL 0 v3.Read).bind λo36=> some (Ring.mk v3.Z o36)
def qEh (a1:Ring) (a2:Int):Option Ring:= (qBZ a1).bind λv3=> (GD a1).bind λv5=> bif decide (a2<0) then MF a1 a2 v3 v5 true else bif decide ((v5.length:Int)<2) then MF a1 a2 v3 v5 true else (LL a1).bind λv9=> MF a1 a2 v3 v5 (v9 !=0)
def CX (a1:Ring) (a2:List Int) (a3:Int):Option Int:= bif decide ((w64 (a3+1))<(a2.length:Int)) then bif inb (w64 (a3+1)) a2.length then bif inb a3 a2.length then some (w64 ((w64 ((a2.getD (w64 (a3+1)).toNat daa)-(a2.getD a3.toNat daa)))-1)) else none else none else bif inb 0 a2.length then bif inb a3 a2.length then some (w64 ((w64 ((w64 ((a2.getD (0:Int).toNat daa)+(a1.Read.length:Int)))-(a2.getD a3.toNat daa)))-1)) else none else none
def BW (a1:Ring) (v2:(List Int)):Nat->Int->Int->Option Int
 |0,_,_=>none
 |n+1,x5,x6=> bif decide (x6<(v2.length:Int)) then (CX a1 v2 x6).bind λv8=> (BW a1 v2 n) (imax x5 v8) (w64 (x6+1)) else some x5
def qDw (a1:Ring):Option (Int×Int):= (GD a1).bind λv2=> bif (v2.length:Int)==0 then some (w64 ((a1.Read.length:Int)-(v2.length:Int)),w64 ((a1.Read.length:Int)-(v2.length:Int))) else (BW a1 v2 FUEL 0 0).bind λo11=> some (w64 ((a1.Read.length:Int)-(v2.length:Int)),o11)
def qAz (x5:Int):Option Int:= some x5
def qBh (a1:Int) (a2:Int):Option Int:= bif nz a2 then bif decide ((Int.tmod a1 a2)<0) then qAz (w64 ((w64 (Int.tdiv a1 a2))-1)) else qAz (w64 (Int.tdiv a1 a2)) else none
def UE (a1:Ring) (v6:(List Int)) (x16:Int) (v24:Int):Nat->(List qA)->Int->Option (List qA)
 |0,_,_=>none
 |n+1,l26,x27=> bif decide (x27<=v24) then bif nz (l26.length:Int) then (qBh (w64 ((w64 ((((a1.Read.getD (v6.getD ((Int.tmod (w64 (x16+1)) (v6.length:Int)).toNat) daa).toNat daa).P).X)-(((a1.Read.getD (v6.getD x16.toNat daa).toNat daa).P).X)))*x27)) (w64 (v24+1))).bind λv30=> (qBh (w64 ((w64 ((((a1.Read.getD (v6.getD ((Int.tmod (w64 (x16+1)) (v6.length:Int)).toNat) daa).toNat daa).P).Y)-(((a1.Read.getD (v6.getD x16.toNat daa).toNat daa).P).Y)))*x27)) (w64 (v24+1))).bind λv32=> bif inb (Int.tmod (w64 ((v6.getD x16.toNat daa)+x27)) (l26.length:Int)) l26.length then (UE a1 v6 x16 v24 n) (l26.set ((Int.tmod (w64 ((v6.getD x16.toNat daa)+x27)) (l26.length:Int)).toNat) (qA.mk (w64 ((((a1.Read.getD (v6.getD x16.toNat daa).toNat daa).P).X)+v30)) (w64 ((((a1.Read.getD (v6.getD x16.toNat daa).toNat daa).P).Y)+v32)))) (w64 (x27+1))
 else none else none else some l26
def XV (a1:Ring) (v6:(List Int)):Nat->(List qA)->Int->Option (List qA)
 |0,_,_=>none
 |n+1,l15,x16=> bif decide (x16<(v6.length:Int)) then bif inb x16 v6.length then bif inb (v6.getD x16.toNat daa) a1.Read.length then bif nz (v6.length:Int) then bif inb (Int.tmod (w64 (x16+1)) (v6.length:Int)) v6.length then bif inb (v6.getD ((Int.tmod (w64 (x16+1)) (v6.length:Int)).toNat) daa) a1.Read.length then bif inb (v6.getD x16.toNat daa) l15.length then (CX a1 v6 x16).bind λv24=> (UE a1 v6 x16 v24 FUEL (l15.set ((v6.getD x16.toNat daa).toNat) ((a1.Read.getD (v6.getD x16.toNat daa).toNat daa).P)) 1).bind λo36=> (XV a1 v6 n) o36 (w64 (x16+1)) else none else none else none else none else none else none else some l15
def BZ (a1:Ring) (v6:(List Int)) (x12:Bool):Option ((List qA)×Int):= bif x12 then some ([],30) else bif mkOk (a1.Read.length:Int) 16 then (XV a1 v6 FUEL (List.replicate ((a1.Read.length:Int).toNat) (qA.mk 0 0)) 0).bind λo39=> some (o39,0) else none
def qCE (a1:Ring) (a2:Int):Option ((List qA)×Int):= (LL a1).bind λv3=> bif v3 !=0 then some ([],v3) else (GD a1).bind λv6=> (qDw a1).bind λv8=> bif decide ((v6.length:Int)<3) then BZ a1 v6 true else bif decide (v8.1>0) then BZ a1 v6 (decide (v8.2>a2)) else BZ a1 v6 false
def OQ (x3:Bool):Option Bool:= some x3
def OZ (a1:Int):Option Bool:= bif decide (a1≥(-600)) then OQ (decide (a1<=600)) else OQ false
def HP (x2:Int) (R:Int->Option (Bool⊕Unit)) (x10:Bool):Option (Bool⊕Unit):= bif x10 then some (Sum.inl false) else R (w64 (x2+1))
def PP (a1:List qA):Nat->Int->Option (Bool⊕Unit)
 |0,_=>none
 |n+1,x2=> bif decide (x2<(a1.length:Int)) then bif inb x2 a1.length then (OZ ((a1.getD x2.toNat daa).X)).bind λv5=> bif !v5 then HP x2 (PP a1 n) true else (OZ ((a1.getD x2.toNat daa).Y)).bind λv8=> HP x2 (PP a1 n) (!v8) else none else some (Sum.inr ())
def FG (a1:List qA):Option Bool:= (PP a1 FUEL 0).bind λu14=>Sum.elim (λv15=>some v15) (λo12=> some true) u14
def GG (a1:List qA):Nat->Int->Int->Option Int
 |0,_,_=>none
 |n+1,x7,x8=> bif decide (x8<(a1.length:Int)) then bif inb x8 a1.length then bif nz (a1.length:Int) then bif inb (Int.tmod (w64 (x8+1)) (a1.length:Int)) a1.length then (GG a1 n) (w64 (x7+(w64 ((w64 (((a1.getD x8.toNat daa).X)*((a1.getD (Int.tmod (w64 (x8+1)) (a1.length:Int)).toNat daa).Y)))-(w64 (((a1.getD (Int.tmod (w64 (x8+1)) (a1.length:Int)).toNat daa).X)*((a1.getD x8.toNat daa).Y))))))) (w64 (x8+1)) else none else none else none else some x7
def qAM (a1:List qA) (x5:Bool):Option Int:= bif x5 then some 0 else (GG a1 FUEL 0 0).bind λo14=> some o14
def qEq (a1:List qA):Option Int:= bif decide ((a1.length:Int)>32) then qAM a1 true else (FG a1).bind λv3=> qAM a1 (!v3)
def qEn (a1:List qA):Option Int:= bif decide ((a1.length:Int)<3) then some 3 else bif decide ((a1.length:Int)>32) then some 4 else (FG a1).bind λv4=> bif !v4 then some 9 else (qEq a1).bind λv7=> bif v7==0 then some 19 else some 0
def ZS (a1:Int) (a2:Int):Option Span:= some (Span.mk (w64 (10*a1)) (w64 (10*a2)))
def XN (a1:List qA):Option (List qA):= bif room a1.length 16 then some a1 else none
def qAe (a1:Int):Option Bool:= some (a1 !=a1)
def DM (a1:Int) (a2:Int):Option Int:= (qAe a1).bind λv3=> (qAe a2).bind λv5=> bif v3 then bif v5 then some 0 else some (-1) else bif v5 then some 1 else bif decide (a1<a2) then some (-1) else bif decide (a1>a2) then some 1 else some 0
def TU (a1:List Int):Nat->Int->Option (Int⊕Unit)
 |0,_=>none
 |n+1,x2=> bif decide (x2<(a1.length:Int)) then bif inb x2 a1.length then bif (a1.getD x2.toNat daa) !=0 then some (Sum.inl (a1.getD x2.toNat daa)) else (TU a1 n) (w64 (x2+1)) else none else some (Sum.inr ())
def qCK (a1:List Int):Option Int:= (TU a1 FUEL 0).bind λu8=>Sum.elim (λv9=>some v9) (λo6=> some 0) u8
def poly_Hull_1 (a1:qA) (a2:qA):Option Int:= (DM a1.X a2.X).bind λv3=> (DM a1.Y a2.Y).bind λv5=> (qCK [v3,v5]).bind λv7=> some v7
def ZW (a1:List qA):Option (List qA):= bif qIU a1.length then some (MD poly_Hull_1 a1) else none
def YA (x12:Int) (R:(List qA)->Int->Int->Option ((List qA)×Int)) (l19:List qA) (x20:Int):Option ((List qA)×Int):= R l19 x20 (w64 (x12+1))
def jP (l3:List qA) (x4:Int):Nat->(List qA)->Int->Int->Option ((List qA)×Int)
 |0,_,_,_=>none
 |n+1,l10,x11,x12=> bif decide (x12<(((l3.length-x4.toNat):Nat):Int)) then bif inb x12 (l3.length-x4.toNat) then bif Nat.ble (x4.toNat+(l3.length-x4.toNat)) l10.length then bif inb (w64 (x12-1)) (l3.length-x4.toNat) then bif !((((l10.getD (x4.toNat+x12.toNat) daa).X)==((l10.getD (x4.toNat+((w64 (x12-1)).toNat)) daa).X))&&((((l10.getD (x4.toNat+x12.toNat) daa).Y)==((l10.getD (x4.toNat+((w64 (x12-1)).toNat)) daa).Y))&&true)) then bif inb x11 l10.length then YA x12 (jP l3 x4 n) (l10.set x11.toNat (l10.getD (x4.toNat+x12.toNat) daa)) (w64 (x11+1)) else none else YA x12 (jP l3 x4 n) l10 x11 else none else none else none else some (l10,x11)
def jM :Nat->(List qA)->Int->Option (((List qA)×(List qA))⊕(List qA))
 |0,_,_=>none
 |n+1,l3,x4=> bif decide (x4<(l3.length:Int)) then bif inb x4 l3.length then bif inb (w64 (x4-1)) l3.length then bif ((((l3.getD x4.toNat daa).X)==((l3.getD ((w64 (x4-1)).toNat) daa).X))&&((((l3.getD x4.toNat daa).Y)==((l3.getD ((w64 (x4-1)).toNat) daa).Y))&&true)) then bif slOk x4 (l3.length:Int) l3.length then (jP l3 x4 FUEL l3 x4 1).bind λo23=> bif slOk o23.2 (o23.1.length:Int) o23.1.length then bif slOk 0 o23.2 o23.1.length then some (Sum.inl ((o23.1.take o23.2.toNat),(o23.1.take o23.2.toNat))) else none else none else none else (jM n) l3 (w64 (x4+1)) else none else none else some (Sum.inr l3)
def JB (a1:List qA):Option ((List qA)×(List qA)):= bif decide ((a1.length:Int)<2) then some (a1,a1) else (jM FUEL a1 1).bind λu30=>Sum.elim (λv31=>some v31) (λo28=> some (o28,o28)) u30
def qDZ (a1:qA) (a2:qA) (a3:qA):Option Int:= some (w64 ((w64 ((w64 (a2.X-a1.X))*(w64 (a3.Y-a1.Y))))-(w64 ((w64 (a3.X-a1.X))*(w64 (a2.Y-a1.Y))))))
def qAH (l6:List qA) (R:(List qA)->Option (List qA)) (x12:Bool):Option (List qA):= bif x12 then bif slOk 0 (w64 ((l6.length:Int)-1)) l6.length then R (l6.take ((w64 ((l6.length:Int)-1)).toNat)) else none else some l6
def VQ (a1:List qA) (x3:Int):Nat->(List qA)->Option (List qA)
 |0,_=>none
 |n+1,l6=> bif decide ((l6.length:Int)≥2) then bif inb (w64 ((l6.length:Int)-2)) l6.length then bif inb (w64 ((l6.length:Int)-1)) l6.length then (qDZ (l6.getD ((w64 ((l6.length:Int)-2)).toNat) daa) (l6.getD ((w64 ((l6.length:Int)-1)).toNat) daa) (a1.getD x3.toNat daa)).bind λv10=> qAH l6 (VQ a1 x3 n) (decide (v10<=0)) else none else none else qAH l6 (VQ a1 x3 n) false
def MS (a1:List qA):Nat->(List qA)->Int->Option (List qA)
 |0,_,_=>none
 |n+1,l2,x3=> bif decide (x3<(a1.length:Int)) then bif inb x3 a1.length then (VQ a1 x3 FUEL l2).bind λo16=> bif room (o16.length+1) 16 then (MS a1 n) (o16++[(a1.getD x3.toNat daa)]) (w64 (x3+1)) else none else none else some l2
def qBj (a1:List qA):Option (List qA):= (MS a1 FUEL [] 0).bind λo20=> bif slOk 0 (w64 ((o20.length:Int)-1)) o20.length then some (o20.take ((w64 ((o20.length:Int)-1)).toNat)) else none
def QU :Nat->(List qA)->Int->Int->Option (List qA)
 |0,_,_,_=>none
 |n+1,l2,x3,x4=> bif decide (x3<x4) then bif inb x4 l2.length then bif inb x3 l2.length then (QU n) ((l2.set x3.toNat (l2.getD x4.toNat daa)).set x4.toNat (l2.getD x3.toNat daa)) (w64 (x3+1)) (w64 (x4-1)) else none else none else some l2
def PS (a1:List qA):Option (List qA):= (QU FUEL a1 0 (w64 ((a1.length:Int)-1))).bind λo9=> some o9
def AG (a1:List qA) (x6:Bool):Option (List qA):= bif x6 then some ([]:List qA) else (XN a1).bind λv8=> (ZW v8).bind λv10=> bif v10.length==v8.length then (JB v10).bind λv13=> (qBj v13.2).bind λv15=> (PS v13.2).bind λv20=> bif v20.length==v13.2.length then (qBj v20).bind λv23=> bif room (v15.length+v23.length) 16 then bif decide ((((v15.length+v23.length):Nat):Int)<3) then some ([]:List qA) else some (v15++v23) else none else none else none
def qF2 (a1:List qA):Option (List qA):= bif decide ((a1.length:Int)<3) then AG a1 true else bif decide ((a1.length:Int)>32) then AG a1 true else (FG a1).bind λv4=> AG a1 (!v4)
def NE (a1:List qA):Nat->Int->Rect->Option Rect
 |0,_,_=>none
 |n+1,x4,x5=> bif decide (x4<(a1.length:Int)) then bif inb x4 a1.length then (NE a1 n) (w64 (x4+1)) (Rect.mk (Span.mk (imin x5.X.A ((a1.getD x4.toNat daa).X)) (imax x5.X.B ((a1.getD x4.toNat daa).X))) (Span.mk (imin x5.Y.A ((a1.getD x4.toNat daa).Y)) (imax x5.Y.B ((a1.getD x4.toNat daa).Y)))) else none else some x5
def qDa (a1:List qA):Option Rect:= bif (a1.length:Int)==0 then some (Rect.mk (Span.mk 0 0) (Span.mk 0 0)) else bif inb 0 a1.length then (NE a1 FUEL 0 (Rect.mk (Span.mk ((a1.getD (0:Int).toNat daa).X) ((a1.getD (0:Int).toNat daa).X)) (Span.mk ((a1.getD (0:Int).toNat daa).Y) ((a1.getD (0:Int).toNat daa).Y)))).bind λo9=> some o9 else none
def qAh (x5:Int):Option Int:= some x5
def qBL (a1:Int) (a2:Int):Option Int:= bif nz a2 then bif decide ((Int.tmod a1 a2)<0) then qAh (w64 ((w64 (Int.tdiv a1 a2))-1)) else qAh (w64 (Int.tdiv a1 a2)) else none
def DR (x6:Int) (R:Int->Int->Int->Option (Int×Int)) (x23:Int) (x24:Int):Option (Int×Int):= R x23 x24 (w64 (x6+1))
def DG (a1:Int) (a3:List qA) (x4:Int) (x5:Int) (x6:Int) (R:Int->Int->Int->Option (Int×Int)) (x19:Bool):Option (Int×Int):= bif x19 then (qBL (w64 ((w64 (((a3.getD ((Int.tmod (w64 (x6+1)) (a3.length:Int)).toNat) daa).X)-((a3.getD x6.toNat daa).X)))*(w64 (a1-((a3.getD ((Int.tmod (w64 (x6+1)) (a3.length:Int)).toNat) daa).Y))))) (w64 (((a3.getD x6.toNat daa).Y)-((a3.getD ((Int.tmod (w64 (x6+1)) (a3.length:Int)).toNat) daa).Y)))).bind λv21=> DR x6 R (w64 (((a3.getD ((Int.tmod (w64 (x6+1)) (a3.length:Int)).toNat) daa).X)-v21)) x5 else DR x6 R x4 x5
def DW (a1:Int) (a3:List qA) (x4:Int) (x5:Int) (x6:Int) (R:Int->Int->Int->Option (Int×Int)) (x13:Bool):Option (Int×Int):= bif x13 then (qBL (w64 ((w64 (((a3.getD ((Int.tmod (w64 (x6+1)) (a3.length:Int)).toNat) daa).X)-((a3.getD x6.toNat daa).X)))*(w64 (a1-((a3.getD x6.toNat daa).Y))))) (w64 (((a3.getD ((Int.tmod (w64 (x6+1)) (a3.length:Int)).toNat) daa).Y)-((a3.getD x6.toNat daa).Y)))).bind λv15=> DR x6 R x4 (w64 (((a3.getD x6.toNat daa).X)+v15)) else bif decide (((a3.getD x6.toNat daa).Y)>((a3.getD ((Int.tmod (w64 (x6+1)) (a3.length:Int)).toNat) daa).Y)) then bif decide (((a3.getD ((Int.tmod (w64 (x6+1)) (a3.length:Int)).toNat) daa).Y)<=a1) then DG a1 a3 x4 x5 x6 R (decide (a1<=((a3.getD x6.toNat daa).Y)))
 else DG a1 a3 x4 x5 x6 R false else DG a1 a3 x4 x5 x6 R false
def ZO (a1:Int) (a3:List qA):Nat->Int->Int->Int->Option (Int×Int)
 |0,_,_,_=>none
 |n+1,x4,x5,x6=> bif decide (x6<(a3.length:Int)) then bif inb x6 a3.length then bif nz (a3.length:Int) then bif inb (Int.tmod (w64 (x6+1)) (a3.length:Int)) a3.length then bif decide (((a3.getD x6.toNat daa).Y)<((a3.getD ((Int.tmod (w64 (x6+1)) (a3.length:Int)).toNat) daa).Y)) then bif decide (((a3.getD x6.toNat daa).Y)<=a1) then DW a1 a3 x4 x5 x6 (ZO a1 a3 n) (decide (a1<=((a3.getD ((Int.tmod (w64 (x6+1)) (a3.length:Int)).toNat) daa).Y))) else DW a1 a3 x4 x5 x6 (ZO a1 a3 n) false else DW a1 a3 x4 x5 x6 (ZO a1 a3 n) false else none else none else none else some (x4,x5)
def SU (a1:Int) (a2:Rect) (a3:List qA):Option (Int×Int):= (ZO a1 a3 FUEL a2.X.A a2.X.B 0).bind λo27=> some (o27.1,o27.2)
def VX (a2:Int) (a3:Int) (v4:(List qA)) (v6:Rect) (x11:Bool):Option Span:= bif x11 then some (Span.mk 0 0) else (SU a2 v6 v4).bind λv13=> (SU a3 v6 v4).bind λv15=> bif decide ((imax v13.1 v15.1)≥(imin v13.2 v15.2)) then some (Span.mk 0 0) else some (Span.mk (imax v13.1 v15.1) (imin v13.2 v15.2))
def qEg (a1:List qA) (a2:Int) (a3:Int):Option Span:= (qF2 a1).bind λv4=> (qDa v4).bind λv6=> bif (v4.length:Int)==0 then VX a2 a3 v4 v6 true else bif decide (a2≥a3) then VX a2 a3 v4 v6 true else bif decide (a2<v6.Y.A) then VX a2 a3 v4 v6 true else VX a2 a3 v4 v6 (decide (a3>v6.Y.B))
def qBm (a1:Int) (a2:List qA):Option Span:= (ZS a1 (w64 (a1+1))).bind λv3=> (qEg a2 v3.A v3.B).bind λv5=> some v5
def ZN (a1:Span):Option Bool:= some (decide (a1.A≥a1.B))
def UH (x3:Int) (R:Int->Int->Int->(List Span)->Option (Int×Int×(List Span))) (x17:Int) (x18:Int) (l19:List Span):Option (Int×Int×(List Span)):= R x17 (w64 (x3+1)) x18 l19
def FX (x3:Int) (l5:List Span) (R:Int->Int->Int->(List Span)->Option (Int×Int×(List Span))) (v7:Span) (x13:Int):Option (Int×Int×(List Span)):= bif room (l5.length+1) 16 then UH x3 R (((l5.length+1):Nat):Int) x13 (l5++[v7]) else none
def yJ (a1:List qA):Nat->Int->Int->Int->(List Span)->Option (Int×Int×(List Span))
 |0,_,_,_,_=>none
 |n+1,x2,x3,x4,l5=> bif decide (x3<60) then (qBm x3 a1).bind λv7=> (ZN v7).bind λv9=> bif !v9 then bif x2==0 then FX x3 l5 (yJ a1 n) v7 x3 else FX x3 l5 (yJ a1 n) v7 x4 else bif decide (x2>0) then bif room (l5.length+1) 16 then UH x3 (yJ a1 n) x2 x4 (l5++[(Span.mk 0 0)]) else none else UH x3 (yJ a1 n) x2 x4 l5 else some (x2,x4,l5)
def qAC (a1:List qA):Option qF:= (yJ a1 FUEL 0 (-60) 0 []).bind λo23=> bif slOk 0 o23.1 o23.2.2.length then some (qF.mk o23.2.1 (o23.2.2.take o23.1.toNat)) else none
def qEp (a1:List qA):Option (qF×Int):= (qEn a1).bind λv2=> bif v2 !=0 then some ((qF.mk 0 []),v2) else (qAC a1).bind λv5=> bif (v5.Rows.length:Int)==0 then some ((qF.mk 0 []),18) else some ((qF.mk v5.Low v5.Rows),0)
def OA (a1:Ring) (a2:Int) (a3:Int):Option (qF×Int):= (qEh a1 a2).bind λv4=> (qCE (Ring.mk v4.Z v4.Read) a3).bind λv6=> bif v6.2 !=0 then some ((qF.mk 0 []),v6.2) else (qEp v6.1).bind λv9=> some ((qF.mk v9.1.Low v9.1.Rows),v9.2)
def DC (x3:Bool):Option Bool:= some x3
def SG (a1:Span):Option Bool:= bif decide ((imin a1.A a1.B)≥(-600)) then DC (decide ((imax a1.A a1.B)<=600)) else DC false
def WP (a1:qF):Nat->Int->Option (Int⊕Unit)
 |0,_=>none
 |n+1,x6=> bif decide (x6<(a1.Rows.length:Int)) then bif inb x6 a1.Rows.length then (SG (a1.Rows.getD x6.toNat daa)).bind λv9=> bif !v9 then some (Sum.inl 9) else (WP a1 n) (w64 (x6+1)) else none else some (Sum.inr ())
def LJ (x27:Int) (R:Int->Option (Int⊕Unit)) (x33:Bool):Option (Int⊕Unit):= bif x33 then some (Sum.inl 19) else R (w64 (x27+1))
def QQ (a1:qF):Nat->Int->Option (Int⊕Unit)
 |0,_=>none
 |n+1,x27=> bif decide (x27<(a1.Rows.length:Int)) then bif inb x27 a1.Rows.length then (ZN (a1.Rows.getD x27.toNat daa)).bind λv30=> bif v30 then LJ x27 (QQ a1 n) (!((((a1.Rows.getD x27.toNat daa).A)==0)&&((((a1.Rows.getD x27.toNat daa).B)==0)&&true))) else LJ x27 (QQ a1 n) false else none else some (Sum.inr ())
def LT (a1:qF) (x25:Bool):Option Int:= bif x25 then some 19 else (QQ a1 FUEL 0).bind λu37=>Sum.elim (λv38=>some v38) (λo35=> some 0) u37
def LN (a1:qF) (x4:Bool):Option Int:= bif x4 then some 9 else (WP a1 FUEL 0).bind λu14=>Sum.elim (λv15=>some v15) (λo12=> bif (a1.Rows.length:Int)==0 then bif a1.Low !=0 then some 19 else some 0 else bif inb 0 a1.Rows.length then (ZN (a1.Rows.getD (0:Int).toNat daa)).bind λv19=> bif v19 then LT a1 true else bif inb (w64 ((a1.Rows.length:Int)-1)) a1.Rows.length then (ZN (a1.Rows.getD (w64 ((a1.Rows.length:Int)-1)).toNat daa)).bind λv23=> LT a1 v23 else none else none) u14
def MR (a1:qF):Option Int:= bif decide ((a1.Rows.length:Int)>120) then some 4 else bif decide (a1.Low<(-60)) then LN a1 true else LN a1 (decide (a1.Low>(w64 (60-(a1.Rows.length:Int)))))
def QV (a1:qF):Option qF:= (MR a1).bind λv2=> bif v2 !=0 then some (qF.mk 0 []) else some a1
def qAo (a1:qF) (a2:Int) (x4:Bool):Option Span:= bif x4 then some (Span.mk 0 0) else bif inb (w64 (a2-a1.Low)) a1.Rows.length then some (a1.Rows.getD (w64 (a2-a1.Low)).toNat daa) else none
def qBH (a1:qF) (a2:Int):Option Span:= bif decide (a2<a1.Low) then qAo a1 a2 true else qAo a1 a2 (decide (a2≥(w64 (a1.Low+(a1.Rows.length:Int)))))
def TF (a1:Span) (a2:Span):Option Span:= bif decide ((imax a1.A a2.A)≥(imin a1.B a2.B)) then some (Span.mk 0 0) else some (Span.mk (imax a1.A a2.A) (imin a1.B a2.B))
def OI (a1:Int) (a2:qF) (a3:qF):Option Span:= (qBH a2 a1).bind λv4=> (qBH a3 a1).bind λv6=> (TF v4 v6).bind λv8=> some v8
def XK (x4:Int) (R:Int->Int->Int->(List Span)->Option (Int×Int×(List Span))) (x18:Int) (x19:Int) (l20:List Span):Option (Int×Int×(List Span)):= R x18 (w64 (x4+1)) x19 l20
def VI (x4:Int) (l6:List Span) (R:Int->Int->Int->(List Span)->Option (Int×Int×(List Span))) (v8:Span) (x14:Int):Option (Int×Int×(List Span)):= bif room (l6.length+1) 16 then XK x4 R (((l6.length+1):Nat):Int) x14 (l6++[v8]) else none
def wU (a1:qF) (a2:qF):Nat->Int->Int->Int->(List Span)->Option (Int×Int×(List Span))
 |0,_,_,_,_=>none
 |n+1,x3,x4,x5,l6=> bif decide (x4<60) then (OI x4 a1 a2).bind λv8=> (ZN v8).bind λv10=> bif !v10 then bif x3==0 then VI x4 l6 (wU a1 a2 n) v8 x4 else VI x4 l6 (wU a1 a2 n) v8 x5 else bif decide (x3>0) then bif room (l6.length+1) 16 then XK x4 (wU a1 a2 n) x3 x5 (l6++[(Span.mk 0 0)]) else none else XK x4 (wU a1 a2 n) x3 x5 l6 else some (x3,x5,l6)
def LU (a1:qF) (a2:qF):Option qF:= (wU a1 a2 FUEL 0 (-60) 0 []).bind λo24=> bif slOk 0 o24.1 o24.2.2.length then some (qF.mk o24.2.1 (o24.2.2.take o24.1.toNat)) else none
def EF (a1:qF) (a2:qF):Option qF:= (QV a1).bind λv3=> (QV a2).bind λv5=> (LU v3 v5).bind λv7=> some (qF.mk v7.Low v7.Rows)
def GB (a1:Scan) (a2:Int) (a3:Int):Nat->(List qF)->Int->Option (((List qB)×Int)⊕(List qF))
 |0,_,_=>none
 |n+1,l8,x9=> bif decide (x9<(a1.Rings.length:Int)) then bif inb x9 a1.Rings.length then (OA (a1.Rings.getD x9.toNat daa) a2 a3).bind λv12=> bif v12.2 !=0 then some (Sum.inl ([],30)) else bif inb x9 l8.length then (GB a1 a2 a3 n) (l8.set x9.toNat v12.1) (w64 (x9+1)) else none else none else some (Sum.inr l8)
def GE (a1:Scan) (o17:(List qF)):Nat->(List qB)->Int->Option (((List qB)×Int)⊕(List qB))
 |0,_,_=>none
 |n+1,l22,x23=> bif decide (x23<(((w64 ((a1.Rings.length:Int)-1)).toNat:Nat):Int)) then bif inb x23 o17.length then bif inb (w64 (x23+1)) o17.length then (EF (o17.getD x23.toNat daa) (o17.getD ((w64 (x23+1)).toNat) daa)).bind λv27=> bif (v27.Rows.length:Int)==0 then some (Sum.inl ([],30)) else bif inb (w64 (x23+1)) a1.Rings.length then bif inb x23 a1.Rings.length then bif inb x23 l22.length then (GE a1 o17 n) (l22.set x23.toNat (qB.mk (w64 (((a1.Rings.getD (w64 (x23+1)).toNat daa).Z)-((a1.Rings.getD x23.toNat daa).Z))) v27)) (w64 (x23+1)) else none else none else none else none else none else some (Sum.inr l22)
def qBx (a1:Scan) (a2:Int) (a3:Int):Option ((List qB)×Int):= (qBB a1).bind λv4=> bif v4 !=0 then some ([],v4) else bif mkOk (a1.Rings.length:Int) 32 then (GB a1 a2 a3 FUEL (List.replicate ((a1.Rings.length:Int).toNat) (qF.mk 0 [])) 0).bind λu19=>Sum.elim (λv20=>some v20) (λo17=> bif mkOk (w64 ((a1.Rings.length:Int)-1)) 40 then (GE a1 o17 FUEL (List.replicate ((w64 ((a1.Rings.length:Int)-1)).toNat) (qB.mk 0 (qF.mk 0 []))) 0).bind λu39=>Sum.elim (λv40=>some v40) (λo37=> some (o37,0)) u39 else none) u19 else none
def QW (a1:Scan) (a2 a3 a4:Int):Option ((List qB)×(List qC)×Int):= (qA2 a1 a2).bind λv1=> (qBx v1 a3 a4).bind λv2=> (yR v1.Defects).bind λv3=> bif v2.2 !=0 then some ([],[],v2.2) else some (v2.1,v3,v2.2)
def IK (a1:List qB) (x4:Int) (x5:Int) (R:Int->Int->Option (Int⊕Unit)) (x13:Bool):Option (Int⊕Unit):= bif x13 then some (Sum.inl 9) else R (w64 (x4+((a1.getD x5.toNat daa).Len))) (w64 (x5+1))
def JO (a1:List qB):Nat->Int->Int->Option (Int⊕Unit)
 |0,_,_=>none
 |n+1,x4,x5=> bif decide (x5<(a1.length:Int)) then bif inb x5 a1.length then (MR ((a1.getD x5.toNat daa).Sec)).bind λv8=> bif v8 !=0 then some (Sum.inl v8) else bif (((((a1.getD x5.toNat daa).Sec).Rows).length:Nat):Int)==0 then some (Sum.inl 18) else bif decide (((a1.getD x5.toNat daa).Len)<1) then IK a1 x4 x5 (JO a1 n) true else IK a1 x4 x5 (JO a1 n) (decide (((a1.getD x5.toNat daa).Len)>(w64 (20000-x4)))) else none else some (Sum.inr ())
def BD (a1:List qB):Option Int:= bif (a1.length:Int)==0 then some 3 else bif decide ((a1.length:Int)>24) then some 4 else (JO a1 FUEL 0 0).bind λu17=>Sum.elim (λv18=>some v18) (λo15=> some 0) u17
def BC (a1:List qB):Option (List qB):= (BD a1).bind λv2=> bif v2 !=0 then some ([]:List qB) else some a1
def BP (x6:Int) (R:Int->Span->Option Span) (x13:Span):Option Span:= R (w64 (x6+1)) x13
def ZG (v2:qF):Nat->Int->Span->Option Span
 |0,_,_=>none
 |n+1,x6,x7=> bif decide (x6<(v2.Rows.length:Int)) then bif inb x6 v2.Rows.length then (ZN (v2.Rows.getD x6.toNat daa)).bind λv10=> bif !v10 then BP x6 (ZG v2 n) (Span.mk (imin x7.A ((v2.Rows.getD x6.toNat daa).A)) (imax x7.B ((v2.Rows.getD x6.toNat daa).B))) else BP x6 (ZG v2 n) x7 else none else some x7
def IW (a1:qF):Option Rect:= (QV a1).bind λv2=> bif (v2.Rows.length:Int)==0 then some (Rect.mk (Span.mk 0 0) (Span.mk 0 0)) else bif inb 0 v2.Rows.length then (ZG v2 FUEL 0 (v2.Rows.getD (0:Int).toNat daa)).bind λo15=> (ZS v2.Low (w64 (v2.Low+(v2.Rows.length:Int)))).bind λv17=> some (Rect.mk o15 v17) else none
def HF (x4:Int) (R:Int->Rect->Option Rect) (v8:Rect) (x11:Rect):Option Rect:= R (w64 (x4+1)) (Rect.mk (Span.mk (imin x11.X.A v8.X.A) (imax x11.X.B v8.X.B)) (Span.mk (imin x11.Y.A v8.Y.A) (imax x11.Y.B v8.Y.B)))
def ZM (v2:(List qB)):Nat->Int->Rect->Option Rect
 |0,_,_=>none
 |n+1,x4,x5=> bif decide (x4<(v2.length:Int)) then bif inb x4 v2.length then (IW ((v2.getD x4.toNat daa).Sec)).bind λv8=> bif x4==0 then HF x4 (ZM v2 n) v8 v8 else HF x4 (ZM v2 n) v8 x5 else none else some x5
def qER (a1:List qB):Option Rect:= (BC a1).bind λv2=> (ZM v2 FUEL 0 (Rect.mk (Span.mk 0 0) (Span.mk 0 0))).bind λo13=> some o13
def LK (a1:List qB):Option Rect:= (qER a1).bind λv2=> some v2
def LD (x3:Bool):Option Bool:= some x3
def MN (a1:Int):Option Bool:= bif decide (97<=a1) then LD (decide (a1<=122)) else LD false
def FW (x3:Bool):Option Bool:= some x3
def qAc (a1:Int):Option Bool:= bif decide (48<=a1) then FW (decide (a1<=57)) else FW false
def GN (x9:Int) (R:Int->Option (Bool⊕Unit)) (x18:Bool):Option (Bool⊕Unit):= bif x18 then some (Sum.inl false) else R (w64 (x9+1))
def QF (a1:ByteArray):Nat->Int->Option (Bool⊕Unit)
 |0,_=>none
 |n+1,x9=> bif decide (x9<(a1.size:Int)) then bif inb x9 a1.size then (MN (strAt a1 x9.toNat)).bind λv12=> bif !v12 then (qAc (strAt a1 x9.toNat)).bind λv15=> bif !v15 then GN x9 (QF a1 n) ((strAt a1 x9.toNat) !=95) else GN x9 (QF a1 n) false else GN x9 (QF a1 n) false else none else some (Sum.inr ())
def DY (a1:ByteArray) (x7:Bool):Option Bool:= bif x7 then some false else (QF a1 FUEL 1).bind λu22=>Sum.elim (λv23=>some v23) (λo20=> some true) u22
def qB8 (a1:ByteArray):Option Bool:= bif decide ((a1.size:Int)<1) then DY a1 true else bif decide ((a1.size:Int)>16) then DY a1 true else bif inb 0 a1.size then (MN (strAt a1 ((0:Int).toNat))).bind λv5=> DY a1 (!v5) else none
def YD (a1:List Product) (a2:ByteArray):Nat->Int->Option ((Int×Bool)⊕Unit)
 |0,_=>none
 |n+1,x3=> bif decide (x3<(a1.length:Int)) then bif inb x3 a1.length then bif strEq ((a1.getD x3.toNat daa).Name) a2 then some (Sum.inl (x3,true)) else (YD a1 a2 n) (w64 (x3+1)) else none else some (Sum.inr ())
def qBi (a1:List Product) (a2:ByteArray):Option (Int×Bool):= (YD a1 a2 FUEL 0).bind λu9=>Sum.elim (λv10=>some v10) (λo7=> some (0,false)) u9
def BO (x3:Bool):Option Bool:= some x3
def NL (a1:Int):Option Bool:= bif decide (a1≥1) then BO (decide (a1<=600)) else BO false
def qBk (a1:Int) (a2:Int):Option Int:= some (w64 (Int.tdiv (w64 ((w64 (a1*(w64 (1000+a2))))+999)) 1000))
def KA (a1:Product) (x9:Bool):Option (Int×Int):= bif x9 then some (0,0) else (qBk a1.Thick a1.Allow).bind λv11=> (qBk a1.Width a1.Allow).bind λv13=> some (v11,v13)
def RO (a1:Product):Option (Int×Int):= (NL a1.Thick).bind λv2=> bif !v2 then KA a1 true else (NL a1.Width).bind λv5=> bif !v5 then KA a1 true else bif decide (a1.Allow<0) then KA a1 true else KA a1 (decide (a1.Allow>200))
def XJ (x18:Int) (R:Int->Option (Int⊕Unit)) (x26:Bool):Option (Int⊕Unit):= bif x26 then some (Sum.inl 11) else R (w64 (x18+1))
def XH (a1:Product) (x18:Int) (R:Int->Option (Int⊕Unit)) (x22:Bool):Option (Int⊕Unit):= bif x22 then some (Sum.inl 9) else bif decide (x18>0) then bif inb (w64 (x18-1)) a1.Lengths.length then XJ x18 R (decide ((a1.Lengths.getD x18.toNat daa)<=(a1.Lengths.getD (w64 (x18-1)).toNat daa))) else none else XJ x18 R false
def wQ (a1:Product):Nat->Int->Option (Int⊕Unit)
 |0,_=>none
 |n+1,x18=> bif decide (x18<(a1.Lengths.length:Int)) then bif inb x18 a1.Lengths.length then bif decide ((a1.Lengths.getD x18.toNat daa)<100) then XH a1 x18 (wQ a1 n) true else XH a1 x18 (wQ a1 n) (decide ((a1.Lengths.getD x18.toNat daa)>20000)) else none else some (Sum.inr ())
def XI (x32:Int) (R:Int->Option (Int⊕Unit)) (x36:Bool):Option (Int⊕Unit):= bif x36 then some (Sum.inl 9) else R (w64 (x32+1))
def wP (a1:Product):Nat->Int->Option (Int⊕Unit)
 |0,_=>none
 |n+1,x32=> bif decide (x32<(a1.Prices.length:Int)) then bif inb x32 a1.Prices.length then bif decide ((a1.Prices.getD x32.toNat daa)<0) then XI x32 (wP a1 n) true else XI x32 (wP a1 n) (decide ((a1.Prices.getD x32.toNat daa)>1000000)) else none else some (Sum.inr ())
def yG (a1:Product) (x10:Bool):Option Int:= bif x10 then some 9 else (RO a1).bind λv12=> bif decide (v12.2>600) then some 9 else bif (a1.Lengths.length:Int)==0 then some 3 else bif decide ((a1.Lengths.length:Int)>8) then some 4 else bif (a1.Prices.length:Int) !=(a1.Lengths.length:Int) then some 19 else (wQ a1 FUEL 0).bind λu30=>Sum.elim (λv31=>some v31) (λo28=> (wP a1 FUEL 0).bind λu40=>Sum.elim (λv41=>some v41) (λo38=> some 0) u40) u30
def yF (a1:Product) (x5:Bool):Option Int:= bif x5 then some 9 else bif decide (a1.Allow<0) then yG a1 true else bif decide (a1.Allow>200) then yG a1 true else bif decide (a1.Wane<0) then yG a1 true else yG a1 (decide (a1.Wane>1000))
def TB (a1:Product):Option Int:= bif decide (a1.Thick<5) then yF a1 true else bif decide (a1.Thick>300) then yF a1 true else bif decide (a1.Width<a1.Thick) then yF a1 true else yF a1 (decide (a1.Width>600))
def WZ (a1:List Product):Nat->Int->Option (Int⊕Unit)
 |0,_=>none
 |n+1,x3=> bif decide (x3<(a1.length:Int)) then bif inb x3 a1.length then (qB8 ((a1.getD x3.toNat daa).Name)).bind λv6=> bif !v6 then some (Sum.inl 6) else bif slOk 0 x3 a1.length then (qBi (a1.take x3.toNat) ((a1.getD x3.toNat daa).Name)).bind λv10=> bif v10.2 then some (Sum.inl 7) else (TB (a1.getD x3.toNat daa)).bind λv13=> bif v13 !=0 then some (Sum.inl v13) else (WZ a1 n) (w64 (x3+1)) else none else none else some (Sum.inr ())
def XF (a1:List Product):Option Int:= bif decide ((a1.length:Int)>16) then some 4 else (WZ a1 FUEL 0).bind λu18=>Sum.elim (λv19=>some v19) (λo16=> some 0) u18
def SC (x3:Bool):Option Bool:= some x3
def SI (a1:Int):Option Bool:= bif decide (a1≥1) then SC (decide (a1<=20000)) else SC false
def HA (x3:Bool):Option Bool:= some x3
def ES (a1:Int):Option Bool:= bif decide (a1≥0) then HA (decide (a1<=1000000)) else HA false
def KG (x20:Bool):Option Int:= bif x20 then some 9 else some 0
def NY (a2:Rates) (x12:Bool):Option Int:= bif x12 then some 9 else bif decide (a2.Chip<0) then KG true else bif decide (a2.Chip>1000) then KG true else bif decide (a2.Dust<0) then KG true else bif decide (a2.Dust>1000) then KG true else (ES a2.Fine).bind λv18=> KG (!v18)
def TW (a1:Saw) (a2:Rates) (x6:Bool):Option Int:= bif x6 then some 9 else bif decide (a1.Pitch<1) then NY a2 true else bif decide (a1.Pitch>2000) then NY a2 true else (SI a1.Step).bind λv10=> NY a2 (!v10)
def CV (a1:Saw) (a2:Rates):Option Int:= bif decide (a1.Kerf<0) then TW a1 a2 true else bif decide (a1.Kerf>20) then TW a1 a2 true else bif decide (a1.Trim<0) then TW a1 a2 true else TW a1 a2 (decide (a1.Trim>20))
def EN (x5:Int) (R:Int->Option (Int⊕Unit)) (x9:Bool):Option (Int⊕Unit):= bif x9 then some (Sum.inl 9) else R (w64 (x5+1))
def wC (a1:Rect):Nat->Int->Option (Int⊕Unit)
 |0,_=>none
 |n+1,x5=> bif decide (x5<4) then bif inb x5 4 then bif decide ((([a1.X.A,a1.X.B,a1.Y.A,a1.Y.B]:List Int).getD x5.toNat 0)<(-600)) then EN x5 (wC a1 n) true else EN x5 (wC a1 n) (decide ((([a1.X.A,a1.X.B,a1.Y.A,a1.Y.B]:List Int).getD x5.toNat 0)>600)) else none else some (Sum.inr ())
def DQ (a1:Rect) (x3:Bool):Option Int:= bif x3 then some 19 else (wC a1 FUEL 0).bind λu13=>Sum.elim (λv14=>some v14) (λo11=> some 0) u13
def HM (a1:Rect):Option Int:= bif decide (a1.X.A≥a1.X.B) then DQ a1 true else DQ a1 (decide (a1.Y.A≥a1.Y.B))
def LO (a1:List qB) (a2:List qC) (a3:List Product) (a4:Rect) (a5:Saw) (a6:Rates):Option Int:= (BD a1).bind λv7=> bif v7 !=0 then some v7 else (KX a2).bind λv10=> bif v10 !=0 then some v10 else (XF a3).bind λv13=> bif v13 !=0 then some v13 else (CV a5 a6).bind λv16=> bif v16 !=0 then some v16 else (HM a4).bind λv19=> some v19
def LI (a1:List Int):Option (List Int):= bif Nat.blt a1.length 4611686018427387904 then some (WJ (λx y=>decide (x<=y)) a1) else none
def KO (x12:Int) (R:(List Int)->Int->Int->Option ((List Int)×Int)) (l19:List Int) (x20:Int):Option ((List Int)×Int):= R l19 x20 (w64 (x12+1))
def jF (l3:List Int) (x4:Int):Nat->(List Int)->Int->Int->Option ((List Int)×Int)
 |0,_,_,_=>none
 |n+1,l10,x11,x12=> bif decide (x12<(((l3.length-x4.toNat):Nat):Int)) then bif inb x12 (l3.length-x4.toNat) then bif Nat.ble (x4.toNat+(l3.length-x4.toNat)) l10.length then bif inb (w64 (x12-1)) (l3.length-x4.toNat) then bif (l10.getD (x4.toNat+x12.toNat) daa) !=(l10.getD (x4.toNat+((w64 (x12-1)).toNat)) daa) then bif inb x11 l10.length then KO x12 (jF l3 x4 n) (l10.set x11.toNat (l10.getD (x4.toNat+x12.toNat) daa)) (w64 (x11+1)) else none else KO x12 (jF l3 x4 n) l10 x11 else none else none else none else some (l10,x11)
def QA :Nat->(List Int)->Int->Option (((List Int)×(List Int))⊕(List Int))
 |0,_,_=>none
 |n+1,l3,x4=> bif decide (x4<(l3.length:Int)) then bif inb x4 l3.length then bif inb (w64 (x4-1)) l3.length then bif (l3.getD x4.toNat daa)==(l3.getD ((w64 (x4-1)).toNat) daa) then bif slOk x4 (l3.length:Int) l3.length then (jF l3 x4 FUEL l3 x4 1).bind λo23=> bif slOk o23.2 (o23.1.length:Int) o23.1.length then bif slOk 0 o23.2 o23.1.length then some (Sum.inl ((o23.1.take o23.2.toNat),(o23.1.take o23.2.toNat))) else none else none else none else (QA n) l3 (w64 (x4+1)) else none else none else some (Sum.inr l3)
def VA (a1:List Int):Option ((List Int)×(List Int)):= bif decide ((a1.length:Int)<2) then some (a1,a1) else (QA FUEL a1 1).bind λu30=>Sum.elim (λv31=>some v31) (λo28=> some (o28,o28)) u30
def PM (a1:List Product):Nat->(List Int)->Int->Option (List Int)
 |0,_,_=>none
 |n+1,l5,x6=> bif decide (x6<(a1.length:Int)) then bif inb x6 a1.length then (RO (a1.getD x6.toNat daa)).bind λv9=> bif room (l5.length+2) 8 then (PM a1 n) (l5++[v9.1,v9.2]) (w64 (x6+1)) else none else none else some l5
def EA (a1:List Product):Option (List Int):= (XF a1).bind λv2=> bif v2 !=0 then some ([]:List Int) else (PM a1 FUEL [] 0).bind λo13=> (LI o13).bind λv15=> bif v15.length==o13.length then (VA v15).bind λv18=> some v18.2 else none
def LV (a1:Rect) (a2:Int) (a3:Int):Option Rect:= some (Rect.mk a1.X (Span.mk (w64 (a1.Y.A+a2)) (w64 (a1.Y.A+a3))))
def qAO (x22:Int) (R:Int->Option (Int⊕Unit)) (x26:Bool):Option (Int⊕Unit):= bif x26 then some (Sum.inl 9) else R (w64 (x22+1))
def YY (a4:Rect):Nat->Int->Option (Int⊕Unit)
 |0,_=>none
 |n+1,x22=> bif decide (x22<4) then bif inb x22 4 then bif decide ((([a4.X.A,a4.X.B,a4.Y.A,a4.Y.B]:List Int).getD x22.toNat 0)<(-600)) then qAO x22 (YY a4 n) true else qAO x22 (YY a4 n) (decide ((([a4.X.A,a4.X.B,a4.Y.A,a4.Y.B]:List Int).getD x22.toNat 0)>600)) else none else some (Sum.inr ())
def qAr (a4:Rect) (x20:Bool):Option Int:= bif x20 then some 19 else (YY a4 FUEL 0).bind λu30=>Sum.elim (λv31=>some v31) (λo28=> some 0) u30
def qEv (a1:List qB) (a2:List qC) (a3:List Product) (a4:Rect) (a5:Saw) (a6:Rates):Option Int:= (BD a1).bind λv7=> bif v7 !=0 then some v7 else (KX a2).bind λv10=> bif v10 !=0 then some v10 else (XF a3).bind λv13=> bif v13 !=0 then some v13 else (CV a5 a6).bind λv16=> bif v16 !=0 then some v16 else bif decide (a4.X.A≥a4.X.B) then qAr a4 true else qAr a4 (decide (a4.Y.A≥a4.Y.B))
def qAD (x8:Int) (R:(List Int)->(List Int)->Int->Option ((List Int)×(List Int))) (l19:List Int) (l20:List Int):Option ((List Int)×(List Int)):= R l19 l20 (w64 (x8+1))
def qAx (l7:List Int) (x8:Int) (R:(List Int)->(List Int)->Int->Option ((List Int)×(List Int))) (l17:List Int):Option ((List Int)×(List Int)):= bif room (l7.length+1) 8 then qAD x8 R l17 (l7++[x8]) else none
def WI (a1:List Product) (a2:Int):Nat->(List Int)->(List Int)->Int->Option ((List Int)×(List Int))
 |0,_,_,_=>none
 |n+1,l6,l7,x8=> bif decide (x8<(a1.length:Int)) then bif inb x8 a1.length then (RO (a1.getD x8.toNat daa)).bind λv11=> bif a2==v11.1 then bif room (l6.length+1) 8 then qAx l7 x8 (WI a1 a2 n) (l6++[v11.2]) else none else bif a2==v11.2 then bif room (l6.length+1) 8 then qAx l7 x8 (WI a1 a2 n) (l6++[v11.1]) else none else qAD x8 (WI a1 a2 n) l6 l7 else none else some (l6,l7)
def IQ (a1:List Product) (a2:Int):Option ((List Int)×(List Int)):= (XF a1).bind λv3=> bif v3 !=0 then some ([],[]) else (WI a1 a2 FUEL [] [] 0).bind λo23=> some (o23.1,o23.2)
def qA5 (a1:Rect) (a2:Int) (a3:Int):Option Rect:= some (Rect.mk (Span.mk (w64 (a1.X.A+a2)) (w64 (a1.X.A+a3))) a1.Y)
def ZU (x2:Int) (R:Int->Option (Bool⊕Unit)) (x7:Bool):Option (Bool⊕Unit):= bif x7 then some (Sum.inl false) else R (w64 (x2+1))
def jB (a1:Rect):Nat->Int->Option (Bool⊕Unit)
 |0,_=>none
 |n+1,x2=> bif decide (x2<2) then bif inb x2 2 then bif decide ((([a1.X.A,a1.X.B,a1.Y.A,a1.Y.B]:List Int).getD (x2.toNat*2+0) 0)<(-600)) then ZU x2 (jB a1 n) true else bif decide ((([a1.X.A,a1.X.B,a1.Y.A,a1.Y.B]:List Int).getD (x2.toNat*2+1) 0)>600) then ZU x2 (jB a1 n) true else ZU x2 (jB a1 n) (decide ((([a1.X.A,a1.X.B,a1.Y.A,a1.Y.B]:List Int).getD (x2.toNat*2+0) 0)≥(([a1.X.A,a1.X.B,a1.Y.A,a1.Y.B]:List Int).getD (x2.toNat*2+1) 0))) else none else some (Sum.inr ())
def qBV (a1:Rect):Option Bool:= (jB a1 FUEL 0).bind λu11=>Sum.elim (λv12=>some v12) (λo9=> some true) u11
def YE (v2:(List qB)):Nat->Int->Int->Option Int
 |0,_,_=>none
 |n+1,x4,x5=> bif decide (x5<(v2.length:Int)) then bif inb x5 v2.length then (YE v2 n) (w64 (x4+((v2.getD x5.toNat daa).Len))) (w64 (x5+1)) else none else some x4
def UL (a1:List qB):Option Int:= (BC a1).bind λv2=> (YE v2 FUEL 0 0).bind λo9=> some o9
def qJ0 (a1:Span):Option Int:= bif decide (a1.A≥a1.B) then some 0 else some (IntKind.u64.wrap ((IntKind.u64.wrap (a1.B))-(IntKind.u64.wrap (a1.A))))
def qFe (a1:Int):Option Int:= some (w64 (imin a1 9223372036854775807))
def LH (a1:Span):Option Int:= (qJ0 a1).bind λv2=> (qFe v2).bind λv4=> some v4
def YT (a2:Rect) (v3:qF):Nat->Int->Int->Option Int
 |0,_,_=>none
 |n+1,x5,x6=> bif decide (x6<(v3.Rows.length:Int)) then bif inb x6 v3.Rows.length then (ZS (w64 (v3.Low+x6)) (w64 ((w64 (v3.Low+x6))+1))).bind λv9=> (TF (v3.Rows.getD x6.toNat daa) a2.X).bind λv11=> (LH v11).bind λv13=> (TF v9 a2.Y).bind λv15=> (LH v15).bind λv17=> (YT a2 v3 n) (w64 (x5+(w64 (v13*v17)))) (w64 (x6+1)) else none else some x5
def ND (a1:qF) (a2:Rect):Option Int:= (QV a1).bind λv3=> (YT a2 v3 FUEL 0 0).bind λo20=> some o20
def TR (a1:List qB) (a2:Rect):Nat->(List jE)->Int->Int->Option (List jE)
 |0,_,_,_=>none
 |n+1,l3,x4,x5=> bif decide (x5<(a1.length:Int)) then bif inb x5 a1.length then (ND ((a1.getD x5.toNat daa).Sec) a2).bind λv8=> bif nz (w64 ((w64 (a2.X.B-a2.X.A))*(w64 (a2.Y.B-a2.Y.A)))) then bif room (l3.length+1) 24 then (TR a1 a2 n) (l3++[(jE.mk (Span.mk x4 (w64 (x4+((a1.getD x5.toNat daa).Len)))) (w64 (Int.tdiv (w64 ((w64 ((w64 (1000*(w64 ((w64 ((w64 (a2.X.B-a2.X.A))*(w64 (a2.Y.B-a2.Y.A))))-v8))))+(w64 ((w64 (a2.X.B-a2.X.A))*(w64 (a2.Y.B-a2.Y.A))))))-1)) (w64 ((w64 (a2.X.B-a2.X.A))*(w64 (a2.Y.B-a2.Y.A)))))))]) (w64 (x4+((a1.getD x5.toNat daa).Len))) (w64 (x5+1)) else none else none else none else some l3
def qCI (a1:List qB) (a2:Rect):Option (List jE):= (TR a1 a2 FUEL [] 0 0).bind λo13=> some o13
def NV (a1:zO) (a2:Span):Option Box:= some (Box.mk a1.rect.X a1.rect.Y a2)
def FE (v3:Span) (v5:Span) (v7:Span) (x17:Bool):Option (Box×Bool):= bif x17 then some ((Box.mk (Span.mk 0 0) (Span.mk 0 0) (Span.mk 0 0)),false) else some ((Box.mk v3 v5 v7),true)
def qGB (a1:Box) (a2:Box):Option (Box×Bool):= (TF a1.X a2.X).bind λv3=> (TF a1.Y a2.Y).bind λv5=> (TF a1.Z a2.Z).bind λv7=> (JM v3).bind λv9=> bif v9 then FE v3 v5 v7 true else (JM v5).bind λv12=> bif v12 then FE v3 v5 v7 true else (JM v7).bind λv15=> FE v3 v5 v7 v15
def NS (a1:qC) (a2:Box):Option Bool:= (qGB a1.Box a2).bind λv3=> some v3.2
def qAm (x29:Int) (R:Int->(List qC)->Option (List qC)) (l37:List qC):Option (List qC):= R (w64 (x29+1)) l37
def RR (a2:List qC) (v27:Box):Nat->Int->(List qC)->Option (List qC)
 |0,_,_=>none
 |n+1,x29,l30=> bif decide (x29<(a2.length:Int)) then bif inb x29 a2.length then (NS (a2.getD x29.toNat daa) v27).bind λv33=> bif v33 then bif room (l30.length+1) 56 then qAm x29 (RR a2 v27 n) (l30++[(a2.getD x29.toNat daa)]) else none else qAm x29 (RR a2 v27 n) l30 else none else some l30
def MK (a1:List qB) (a2:List qC) (a3:Product) (a4:Rect) (x21:Bool):Option (zO×Bool):= bif x21 then some ((zO.mk (Product.mk (ByteArray.mk #[]) 0 0 0 0 [] []) (Rect.mk (Span.mk 0 0) (Span.mk 0 0)) 0 [] []),false) else (UL a1).bind λv23=> (qCI a1 a4).bind λv25=> (NV (zO.mk a3 a4 v23 v25 []) (Span.mk 0 v23)).bind λv27=> (RR a2 v27 FUEL 0 []).bind λo39=> some ((zO.mk a3 a4 v23 v25 o39),true)
def VN (a1:List qB) (a2:List qC) (a3:Product) (a4:Rect) (x16:Bool):Option (zO×Bool):= bif x16 then some ((zO.mk (Product.mk (ByteArray.mk #[]) 0 0 0 0 [] []) (Rect.mk (Span.mk 0 0) (Span.mk 0 0)) 0 [] []),false) else (RO a3).bind λv18=> bif !(((w64 (a4.X.B-a4.X.A))==v18.1)&&(((w64 (a4.Y.B-a4.Y.A))==v18.2)&&true)) then MK a1 a2 a3 a4 (!(((w64 (a4.X.B-a4.X.A))==v18.2)&&(((w64 (a4.Y.B-a4.Y.A))==v18.1)&&true))) else MK a1 a2 a3 a4 false
def qEb (a1:List qB) (a2:List qC) (a3:Product) (a4:Rect):Option (zO×Bool):= (BD a1).bind λv5=> bif v5 !=0 then VN a1 a2 a3 a4 true else (KX a2).bind λv8=> bif v8 !=0 then VN a1 a2 a3 a4 true else (XF [a3]).bind λv11=> bif v11 !=0 then VN a1 a2 a3 a4 true else (qBV a4).bind λv14=> VN a1 a2 a3 a4 (!v14)
def RZ (x5:Bool):Option Bool:= some x5
def qCw (a1:Span) (a2:Int):Option Bool:= bif decide (a1.A≥0) then bif decide (a1.A<a1.B) then RZ (decide (a1.B<=a2)) else RZ false else RZ false
def WV (a1:Product) (a2:Int):Nat->Int->Option ((Int×Bool)⊕Unit)
 |0,_=>none
 |n+1,x3=> bif decide (x3<(a1.Lengths.length:Int)) then bif inb x3 a1.Lengths.length then bif (a1.Lengths.getD x3.toNat daa) !=a2 then (WV a1 a2 n) (w64 (x3+1)) else bif decide (x3≥(a1.Prices.length:Int)) then some (Sum.inl (0,false)) else bif inb x3 a1.Prices.length then some (Sum.inl ((a1.Prices.getD x3.toNat daa),true)) else none else none else some (Sum.inr ())
def qAJ (a1:Product) (a2:Int):Option (Int×Bool):= (WV a1 a2 FUEL 0).bind λu11=>Sum.elim (λv12=>some v12) (λo9=> some (0,false)) u11
def IE (x4:Int) (R:Int->Int->Option Int) (x10:Int):Option Int:= R x10 (w64 (x4+1))
def OK (a1:List jE) (x3:Int) (x4:Int) (R:Int->Int->Option Int) (x8:Bool):Option Int:= bif x8 then IE x4 R (imax x3 ((a1.getD x4.toNat daa).lack)) else IE x4 R x3
def XU (a1:List jE) (a2:Span):Nat->Int->Int->Option Int
 |0,_,_=>none
 |n+1,x3,x4=> bif decide (x4<(a1.length:Int)) then bif inb x4 a1.length then bif decide ((((a1.getD x4.toNat daa).z).A)<a2.B) then OK a1 x3 x4 (XU a1 a2 n) (decide (a2.A<(((a1.getD x4.toNat daa).z).B))) else OK a1 x3 x4 (XU a1 a2 n) false else none else some x3
def qC1 (a1:List jE) (a2:Span):Option Int:= (XU a1 a2 FUEL 0 0).bind λo12=> some o12
def VC (x17:Int) (R:Int->Int->Option ((Int×Bool)⊕Int)) (x24:Int):Option ((Int×Bool)⊕Int):= R x24 (w64 (x17+1))
def wH (a1:zO) (a3:Int) (v14:Box):Nat->Int->Int->Option ((Int×Bool)⊕Int)
 |0,_,_=>none
 |n+1,x16,x17=> bif decide (x17<(a1.defects.length:Int)) then bif inb x17 a1.defects.length then (NS (a1.defects.getD x17.toNat daa) v14).bind λv20=> bif !v20 then VC x17 (wH a1 a3 v14 n) x16 else bif ((a1.defects.getD x17.toNat daa).Kind)==3 then some (Sum.inl (0,false)) else VC x17 (wH a1 a3 v14 n) (w64 (x16-a3)) else none else some (Sum.inr x16)
def VG (a1:zO) (a2:Span) (a3:Int) (v7:Int×Bool) (x12:Bool):Option (Int×Bool):= bif x12 then some (0,false) else (NV a1 a2).bind λv14=> (wH a1 a3 v14 FUEL v7.1 0).bind λu28=>Sum.elim (λv29=>some v29) (λo26=> some (imax o26 0,true)) u28
def UJ (a1:zO) (a2:Span) (a3:Int):Option (Int×Bool):= (qCw a2 a1.length).bind λv4=> bif !v4 then some (0,false) else (qAJ a1.product (w64 (a2.B-a2.A))).bind λv7=> bif !v7.2 then VG a1 a2 a3 v7 true else (qC1 a1.zones a2).bind λv10=> VG a1 a2 a3 v7 (decide (v10>a1.product.Wane))
def qAG (x24:Int) (R:Int->Bool->Int->Span->Option (Int×Bool×Span)) (x34:Int) (x35:Bool) (x36:Span):Option (Int×Bool×Span):= R x34 x35 (w64 (x24+1)) x36
def MM (a3:Product) (x19:Int) (x22:Int) (x23:Bool) (x24:Int) (x25:Span) (R:Int->Bool->Int->Span->Option (Int×Bool×Span)) (v28:Int×Bool) (x32:Bool):Option (Int×Bool×Span):= bif x32 then qAG x24 R v28.1 true (Span.mk x19 (w64 (x19+(a3.Lengths.getD x24.toNat daa)))) else qAG x24 R x22 x23 x25
def WF (a3:Product) (a6:Int) (v14:zO×Bool) (x19:Int):Nat->Int->Bool->Int->Span->Option (Int×Bool×Span)
 |0,_,_,_,_=>none
 |n+1,x22,x23,x24,x25=> bif decide (x24<(a3.Lengths.length:Int)) then bif inb x24 a3.Lengths.length then (UJ (zO.mk v14.1.product v14.1.rect v14.1.length v14.1.zones v14.1.defects) (Span.mk x19 (w64 (x19+(a3.Lengths.getD x24.toNat daa)))) a6).bind λv28=> bif v28.2 then bif !x23 then MM a3 x19 x22 x23 x24 x25 (WF a3 a6 v14 x19 n) v28 true else MM a3 x19 x22 x23 x24 x25 (WF a3 a6 v14 x19 n) v28 (decide (v28.1>x22)) else MM a3 x19 x22 x23 x24 x25 (WF a3 a6 v14 x19 n) v28 false else none else some (x22,x23,x25)
def RT (a3:Product) (a5:Int) (a6:Int) (v14:zO×Bool):Nat->Int->Bool->Int->Span->Option (Int×Bool×Span)
 |0,_,_,_,_=>none
 |n+1,x17,x18,x19,x20=> bif decide (x19<v14.1.length) then (WF a3 a6 v14 x19 FUEL x17 x18 0 x20).bind λo40=> (RT a3 a5 a6 v14 n) o40.1 o40.2.1 (w64 (x19+a5)) o40.2.2 else some (x17,x18,x20)
def qAp (a1:List qB) (a2:List qC) (a3:Product) (a4:Rect) (a5:Int) (a6:Int) (x12:Bool):Option (Span×Int×Bool):= bif x12 then some ((Span.mk 0 0),0,false) else (qEb a1 a2 a3 a4).bind λv14=> bif !v14.2 then some ((Span.mk 0 0),0,false) else (RT a3 a5 a6 v14 FUEL 0 false 0 (Span.mk 0 0)).bind λo45=> some (o45.2.2,o45.1,o45.2.1)
def qDU (a1:List qB) (a2:List qC) (a3:Product) (a4:Rect) (a5:Int) (a6:Int):Option (Span×Int×Bool):= (SI a5).bind λv7=> bif !v7 then qAp a1 a2 a3 a4 a5 a6 true else (ES a6).bind λv10=> qAp a1 a2 a3 a4 a5 a6 (!v10)
def XY (a1:List qB):Nat->(List Span)->Int->Int->Option (List Span)
 |0,_,_,_=>none
 |n+1,l3,x4,x5=> bif decide (x5<(a1.length:Int)) then bif inb x5 a1.length then bif inb x5 l3.length then (XY a1 n) (l3.set x5.toNat (Span.mk x4 (w64 (x4+((a1.getD x5.toNat daa).Len))))) (w64 (x4+((a1.getD x5.toNat daa).Len))) (w64 (x5+1)) else none else none else some l3
def qAK (a1:List qB):Option (List Span):= bif mkOk (a1.length:Int) 16 then (XY a1 FUEL (List.replicate ((a1.length:Int).toNat) (Span.mk 0 0)) 0 0).bind λo10=> some o10 else none
def HU (x8:Int) (R:Int->Int->Option Int) (x19:Int):Option Int:= R x19 (w64 (x8+1))
def YL (a2:Box) (v3:(List qB)) (v5:(List Span)):Nat->Int->Int->Option Int
 |0,_,_=>none
 |n+1,x7,x8=> bif decide (x8<(v5.length:Int)) then bif inb x8 v5.length then (TF (v5.getD x8.toNat daa) a2.Z).bind λv11=> (LH v11).bind λv13=> bif decide (v13>0) then bif inb x8 v3.length then (ND ((v3.getD x8.toNat daa).Sec) (Rect.mk a2.X a2.Y)).bind λv17=> HU x8 (YL a2 v3 v5 n) (w64 (x7+(w64 (v13*v17)))) else none else HU x8 (YL a2 v3 v5 n) x7 else none else some x7
def AH (a1:List qB) (a2:Box):Option Int:= (BC a1).bind λv3=> (qAK v3).bind λv5=> (YL a2 v3 v5 FUEL 0 0).bind λo21=> some o21
def TN (a1:List qB) (a2:Rect) (a3:Span):Option Int:= (AH a1 (Box.mk a2.X a2.Y a3)).bind λv4=> some v4
def qFJ (a1:List qB) (a2:List qC) (a3:Product) (a4:Rect) (a5:Saw) (a6:Rates):Option Int:= (qDU a1 a2 a3 a4 a5.Step a6.Fine).bind λv7=> bif !v7.2.2 then some (-1) else (UL a1).bind λv10=> (TN a1 a4 (Span.mk 0 v10)).bind λv12=> (TN a1 a4 v7.1).bind λv14=> (TN a1 a4 (Span.mk (imax 0 (w64 (v7.1.A-a5.Trim))) v7.1.A)).bind λv16=> (TN a1 a4 (Span.mk v7.1.B (imin (w64 (v7.1.B+a5.Trim)) v10))).bind λv18=> some (w64 ((w64 ((w64 (1000000*v7.2.1))+(w64 (a6.Dust*(w64 (v16+v18))))))+(w64 (a6.Chip*(w64 ((w64 (v12-v14))-(w64 (v16+v18))))))))
def qBU (l16:List Int) (x17:Int) (R:(List Int)->Int->Option (List Int)) (x27:Int):Option (List Int):= bif room (l16.length+1) 8 then R (l16++[x27]) (w64 (x17+1)) else none
def KV (a1:List qB) (a2:List qC) (a3:List Product) (a4:Rect) (a5:Saw) (a6:Rates) (v10:(List Int)×(List Int)) (x12:Int):Nat->(List Int)->Int->Option (List Int)
 |0,_,_=>none
 |n+1,l16,x17=> bif decide ((w64 (x17+(v10.1.getD x12.toNat daa)))<=(w64 (a4.X.B-a4.X.A))) then bif nz a5.Pitch then bif (Int.tmod x17 a5.Pitch)==0 then bif inb x12 v10.2.length then bif inb (v10.2.getD x12.toNat daa) a3.length then (qA5 a4 x17 (w64 (x17+(v10.1.getD x12.toNat daa)))).bind λv23=> (qFJ a1 a2 (a3.getD (v10.2.getD x12.toNat daa).toNat daa) v23 a5 a6).bind λv25=> qBU l16 x17 (KV a1 a2 a3 a4 a5 a6 v10 x12 n) v25 else none else none else qBU l16 x17 (KV a1 a2 a3 a4 a5 a6 v10 x12 n) (-1) else none else some l16
def US (a1:List qB) (a2:List qC) (a3:List Product) (a4:Rect) (a5:Saw) (a6:Rates) (v10:(List Int)×(List Int)):Nat->Int->(List (List Int))->Option (List (List Int))
 |0,_,_=>none
 |n+1,x12,l13=> bif decide (x12<(v10.1.length:Int)) then bif inb x12 v10.1.length then (KV a1 a2 a3 a4 a5 a6 v10 x12 FUEL [] 0).bind λo30=> bif room (l13.length+1) 24 then (US a1 a2 a3 a4 a5 a6 v10 n) (w64 (x12+1)) (l13++[o30]) else none else none else some l13
def UT (a1:List qB) (a4:Rect) (a6:Rates) (v36:Int):Nat->Int->(List Int)->(List Int)->Option ((List Int)×(List Int))
 |0,_,_,_=>none
 |n+1,x38,l39,l40=> bif decide (x38<(w64 (a4.X.B-a4.X.A))) then (qA5 a4 x38 (w64 (x38+1))).bind λv42=> (TN a1 v42 (Span.mk 0 v36)).bind λv44=> bif room (l39.length+1) 8 then bif room (l40.length+1) 8 then (UT a1 a4 a6 v36 n) (w64 (x38+1)) (l39++[w64 (a6.Chip*v44)]) (l40++[w64 (a6.Dust*v44)]) else none else none else some (l39,l40)
def qDp (a1:List qB) (a2:List qC) (a3:List Product) (a4:Rect) (a5:Saw) (a6:Rates):Option (Line×Int):= (qEv a1 a2 a3 a4 a5 a6).bind λv7=> bif v7 !=0 then some ((Line.mk 0 0 0 [] [] [] []),v7) else (IQ a3 (w64 (a4.Y.B-a4.Y.A))).bind λv10=> (US a1 a2 a3 a4 a5 a6 v10 FUEL 0 []).bind λo34=> (UL a1).bind λv36=> (UT a1 a4 a6 v36 FUEL 0 [] []).bind λo50=> some ((Line.mk (w64 (a4.X.B-a4.X.A)) a5.Kerf 1 v10.1 o34 o50.1 o50.2),0)
def VH (x10:Int) (R:Int->Option (Int⊕Unit)) (x14:Bool):Option (Int⊕Unit):= bif x14 then some (Sum.inl 9) else R (w64 (x10+1))
def QC (a1:Line):Nat->Int->Option (Int⊕Unit)
 |0,_=>none
 |n+1,x10=> bif decide (x10<(a1.Sizes.length:Int)) then bif inb x10 a1.Sizes.length then bif decide ((a1.Sizes.getD x10.toNat daa)<1) then VH x10 (QC a1 n) true else VH x10 (QC a1 n) (decide ((a1.Sizes.getD x10.toNat daa)>2000)) else none else some (Sum.inr ())
def jK (a1:Line) (x7:Bool):Option Int:= bif x7 then some 9 else bif decide ((a1.Sizes.length:Int)>32) then some 4 else (QC a1 FUEL 0).bind λu18=>Sum.elim (λv19=>some v19) (λo16=> some 0) u18
def FT (a1:Line):Option Int:= bif decide (a1.Len<0) then jK a1 true else bif decide (a1.Len>2000) then jK a1 true else bif decide (a1.Kerf<0) then jK a1 true else bif decide (a1.Kerf>20) then jK a1 true else bif decide (a1.Pitch<1) then jK a1 true else jK a1 (decide (a1.Pitch>2000))
def qCu (a1:Line) (a2:Int):Option Int:= some (imax 0 (w64 ((w64 (a1.Len-a2))+1)))
def FP (x5:Int) (R:Int->Option (Bool⊕Unit)) (x9:Bool):Option (Bool⊕Unit):= bif x9 then some (Sum.inl false) else R (w64 (x5+1))
def WQ (a1:List (List Int)) (x2:Int):Nat->Int->Option (Bool⊕Unit)
 |0,_=>none
 |n+1,x5=> bif decide (x5<((a1.getD x2.toNat daa).length:Int)) then bif inb x5 ((a1.getD x2.toNat daa).length) then bif decide (((a1.getD x2.toNat daa).getD x5.toNat daa)<(-1125899906842624)) then FP x5 (WQ a1 x2 n) true else FP x5 (WQ a1 x2 n) (decide (((a1.getD x2.toNat daa).getD x5.toNat daa)>1125899906842624)) else none else some (Sum.inr ())
def XX (a1:List (List Int)):Nat->Int->Option (Bool⊕Unit)
 |0,_=>none
 |n+1,x2=> bif decide (x2<(a1.length:Int)) then bif inb x2 a1.length then (WQ a1 x2 FUEL 0).bind λu13=>Sum.elim (λv14=>some (Sum.inl v14)) (λo11=> (XX a1 n) (w64 (x2+1))) u13 else none else some (Sum.inr ())
def MI (a1:List (List Int)):Option Bool:= (XX a1 FUEL 0).bind λu17=>Sum.elim (λv18=>some v18) (λo15=> some true) u17
def XZ (a1:Line):Nat->Int->Option (Int⊕Unit)
 |0,_=>none
 |n+1,x9=> bif decide (x9<(a1.Gain.length:Int)) then bif inb x9 a1.Gain.length then bif inb x9 a1.Sizes.length then (qCu a1 (a1.Sizes.getD x9.toNat daa)).bind λv13=> bif ((a1.Gain.getD x9.toNat daa).length:Int) !=v13 then some (Sum.inl 19) else (XZ a1 n) (w64 (x9+1)) else none else none else some (Sum.inr ())
def FY (x25:Bool):Option Int:= bif x25 then some 9 else some 0
def UM (a1:Line) (x7:Bool):Option Int:= bif x7 then some 19 else (XZ a1 FUEL 0).bind λu18=>Sum.elim (λv19=>some v19) (λo16=> (MI a1.Gain).bind λv20=> bif !v20 then FY true else (MI [a1.Chip,a1.Dust]).bind λv23=> FY (!v23)) u18
def qAw (a1:Line):Option Int:= (FT a1).bind λv2=> bif v2 !=0 then some v2 else bif (a1.Gain.length:Int) !=(a1.Sizes.length:Int) then UM a1 true else bif (a1.Chip.length:Int) !=a1.Len then UM a1 true else UM a1 ((a1.Dust.length:Int) !=a1.Len)
def PX (a1:List Int):Nat->(List Int)->Int->Option (List Int)
 |0,_,_=>none
 |n+1,l3,x4=> bif decide (x4<(a1.length:Int)) then bif inb x4 a1.length then bif inb x4 l3.length then bif inb (w64 (x4+1)) l3.length then (PX a1 n) (l3.set ((w64 (x4+1)).toNat) (w64 ((l3.getD x4.toNat daa)+(a1.getD x4.toNat daa)))) (w64 (x4+1)) else none else none else none else some l3
def SV (a1:List Int):Option (List Int):= bif mkOk (w64 ((a1.length:Int)+1)) 8 then (PX a1 FUEL (List.replicate ((w64 ((a1.length:Int)+1)).toNat) 0) 0).bind λo10=> some o10 else none
def NA (a1:Line) (a2:Int):Option Int:= bif a2==a1.Len then some (-1) else some (imin (w64 (a2+a1.Kerf)) a1.Len)
def UO (x5:Int) (R:Int->qH->Option qH) (x26:qH):Option qH:= R (w64 (x5+1)) x26
def LZ (x5:Int) (x6:qH) (R:Int->qH->Option qH) (x22:qH) (x24:Bool):Option qH:= bif x24 then UO x5 R x22 else UO x5 R x6
def FR (x5:Int) (x6:qH) (R:Int->qH->Option qH) (x22:qH):Option qH:= bif ((x6.piece.Size==(-1))&&((x6.piece.At==(-1))&&true)) then LZ x5 x6 R x22 true else LZ x5 x6 R x22 (decide (x22.value>x6.value))
def LX (a1:Line) (a2:Int) (a3:List Int) (a4:List qH) (x5:Int) (x6:qH) (R:Int->qH->Option qH) (x12:Bool):Option qH:= bif x12 then UO x5 R x6 else bif inb x5 a1.Gain.length then bif inb a2 ((a1.Gain.getD x5.toNat daa).length) then (NA a1 (w64 (a2+(a1.Sizes.getD x5.toNat daa)))).bind λv16=> bif decide (v16≥0) then bif inb v16 a3.length then bif inb (w64 (a2+(a1.Sizes.getD x5.toNat daa))) a3.length then bif inb v16 a4.length then FR x5 x6 R (qH.mk (zR.mk x5 a2) (w64 (((a1.Gain.getD x5.toNat daa).getD a2.toNat daa)+(w64 ((w64 ((a3.getD v16.toNat daa)-(a3.getD (w64 (a2+(a1.Sizes.getD x5.toNat daa))).toNat daa)))+((a4.getD v16.toNat daa).value)))))) else none else none else none else FR x5 x6 R (qH.mk (zR.mk x5 a2) ((a1.Gain.getD x5.toNat daa).getD a2.toNat daa))
 else none else none
def WX (a1:Line) (a2:Int) (a3:List Int) (a4:List qH):Nat->Int->qH->Option qH
 |0,_,_=>none
 |n+1,x5,x6=> bif decide (x5<(a1.Sizes.length:Int)) then bif inb x5 a1.Sizes.length then bif decide ((w64 (a2+(a1.Sizes.getD x5.toNat daa)))>a1.Len) then LX a1 a2 a3 a4 x5 x6 (WX a1 a2 a3 a4 n) true else bif inb x5 a1.Gain.length then bif inb a2 ((a1.Gain.getD x5.toNat daa).length) then LX a1 a2 a3 a4 x5 x6 (WX a1 a2 a3 a4 n) (decide (((a1.Gain.getD x5.toNat daa).getD a2.toNat daa)<0)) else none else none else none else some x6
def qAd (a1:Line) (a2:Int) (a3:List Int) (a4:List qH):Option qH:= (WX a1 a2 a3 a4 FUEL 0 (qH.mk (zR.mk (-1) (-1)) 0)).bind λo28=> some o28
def DK (a1:Line) (x20:Int) (R:Int->qH->Option qH) (x31:qH):Option qH:= R (w64 (x20+a1.Pitch)) x31
def DB (a1:Line) (v2:(List Int)) (v4:(List Int)) (l8:List qH) (x9:Int) (v11:qH) (x20:Int) (x21:qH) (R:Int->qH->Option qH) (x29:Bool):Option qH:= bif x29 then DK a1 x20 R (qH.mk (((l8.set x9.toNat v11).getD x20.toNat daa).piece) (w64 ((((l8.set x9.toNat v11).getD x20.toNat daa).value)+(w64 ((w64 ((w64 ((v2.getD ((w64 (x20-a1.Kerf)).toNat) daa)-(v2.getD x9.toNat daa)))+(v4.getD x20.toNat daa)))-(v4.getD ((w64 (x20-a1.Kerf)).toNat) daa)))))) else DK a1 x20 R x21
def yE (a1:Line) (v2:(List Int)) (v4:(List Int)) (l8:List qH) (x9:Int) (v11:qH):Nat->Int->qH->Option qH
 |0,_,_=>none
 |n+1,x20,x21=> bif decide (x20<=a1.Len) then bif inb x20 l8.length then bif inb (w64 (x20-a1.Kerf)) v2.length then bif inb x9 v2.length then bif inb x20 v4.length then bif inb (w64 (x20-a1.Kerf)) v4.length then bif !((((((l8.set x9.toNat v11).getD x20.toNat daa).piece).Size)==(-1))&&((((((l8.set x9.toNat v11).getD x20.toNat daa).piece).At)==(-1))&&true)) then DB a1 v2 v4 l8 x9 v11 x20 x21 (yE a1 v2 v4 l8 x9 v11 n) (decide ((w64 ((((l8.set x9.toNat v11).getD x20.toNat daa).value)+(w64 ((w64 ((w64 ((v2.getD ((w64 (x20-a1.Kerf)).toNat) daa)-(v2.getD x9.toNat daa)))+(v4.getD x20.toNat daa)))-(v4.getD ((w64 (x20-a1.Kerf)).toNat) daa)))))>x21.value)) else DB a1 v2 v4 l8 x9 v11 x20 x21 (yE a1 v2 v4 l8 x9 v11 n) false
 else none else none else none else none else none else some x21
def GM (a1:Line) (v2:(List Int)) (v4:(List Int)) (l7:List qH) (l8:List qH) (x9:Int) (R:(List qH)->(List qH)->Int->Option (List qH)) (v11:qH) (x19:qH):Option (List qH):= (yE a1 v2 v4 l8 x9 v11 FUEL (w64 ((w64 (x9+a1.Pitch))+a1.Kerf)) x19).bind λo33=> bif inb x9 l7.length then R (l7.set x9.toNat o33) (l8.set x9.toNat v11) (w64 (x9-1)) else none
def GV (a1:Line) (v2:(List Int)) (v4:(List Int)) (l7:List qH) (l8:List qH) (x9:Int) (R:(List qH)->(List qH)->Int->Option (List qH)) (v11:qH) (x17:Bool):Option (List qH):= bif x17 then GM a1 v2 v4 l7 l8 x9 R v11 ((l8.set x9.toNat v11).getD x9.toNat daa) else GM a1 v2 v4 l7 l8 x9 R v11 (qH.mk (zR.mk (-1) (-1)) (w64 ((v2.getD a1.Len.toNat daa)-(v2.getD x9.toNat daa))))
def QT (a1:Line) (v2:(List Int)) (v4:(List Int)):Nat->(List qH)->(List qH)->Int->Option (List qH)
 |0,_,_,_=>none
 |n+1,l7,l8,x9=> bif decide (x9≥0) then (qAd a1 x9 v4 l7).bind λv11=> bif inb x9 l8.length then bif inb a1.Len v2.length then bif inb x9 v2.length then bif !((((((l8.set x9.toNat v11).getD x9.toNat daa).piece).Size)==(-1))&&((((((l8.set x9.toNat v11).getD x9.toNat daa).piece).At)==(-1))&&true)) then GV a1 v2 v4 l7 l8 x9 (QT a1 v2 v4 n) v11 (decide ((((l8.set x9.toNat v11).getD x9.toNat daa).value)>(w64 ((v2.getD a1.Len.toNat daa)-(v2.getD x9.toNat daa))))) else GV a1 v2 v4 l7 l8 x9 (QT a1 v2 v4 n) v11 false else none else none else none else some l7
def HE (a1:Line):Option (List qH):= (SV a1.Chip).bind λv2=> (SV a1.Dust).bind λv4=> bif mkOk (w64 (a1.Len+1)) 24 then (QT a1 v2 v4 FUEL (List.replicate ((w64 (a1.Len+1)).toNat) (qH.mk (zR.mk 0 0) 0)) (List.replicate ((w64 (a1.Len+1)).toNat) (qH.mk (zR.mk 0 0) 0)) a1.Len).bind λo37=> some o37 else none
def PZ (a1:Line) (v5:(List qH)):Nat->(List zR)->Int->Option (List zR)
 |0,_,_=>none
 |n+1,l7,x8=> bif decide (x8≥0) then bif inb x8 v5.length then bif (((((v5.getD x8.toNat daa).piece).Size)==(-1))&&(((((v5.getD x8.toNat daa).piece).At)==(-1))&&true)) then some l7 else bif room (l7.length+1) 16 then bif inb (((v5.getD x8.toNat daa).piece).Size) a1.Sizes.length then (NA a1 (w64 ((((v5.getD x8.toNat daa).piece).At)+(a1.Sizes.getD (((v5.getD x8.toNat daa).piece).Size).toNat daa)))).bind λv14=> (PZ a1 v5 n) (l7++[(v5.getD x8.toNat daa).piece]) v14 else none else none else none else some l7
def yV (a1:Line):Option ((List zR)×Int×Int):= (qAw a1).bind λv2=> bif v2 !=0 then some ([],0,v2) else (HE a1).bind λv5=> (PZ a1 v5 FUEL [] 0).bind λo17=> bif inb 0 v5.length then some (o17,(v5.getD ((0:Int).toNat) daa).value,0) else none
def PD (a1:List Node):Option (List Node):= bif room a1.length 16 then some a1 else none
def qB2 (a1:List (List Node)) (a2:List Node):Option ((List (List Node))×(List (List Node))):= (PD a2).bind λv3=> bif room (a1.length+1) 24 then some ((a1++[v3]),(a1++[v3])) else none
def qAY (x3:Bool):Option Bool:= some x3
def qDI (a1:Int):Option Bool:= bif a1==2 then qAY true else qAY (a1==3)
def PB (x2:Int) (R:Int->Option (Bool⊕Unit)) (x7:Bool):Option (Bool⊕Unit):= bif x7 then some (Sum.inl false) else R (w64 (x2+1))
def yA (a1:Rect):Nat->Int->Option (Bool⊕Unit)
 |0,_=>none
 |n+1,x2=> bif decide (x2<2) then bif inb x2 2 then bif decide ((([a1.X.A,a1.X.B,a1.Y.A,a1.Y.B]:List Int).getD (x2.toNat*2+0) 0)<(-600)) then PB x2 (yA a1 n) true else bif decide ((([a1.X.A,a1.X.B,a1.Y.A,a1.Y.B]:List Int).getD (x2.toNat*2+1) 0)>600) then PB x2 (yA a1 n) true else PB x2 (yA a1 n) (decide ((([a1.X.A,a1.X.B,a1.Y.A,a1.Y.B]:List Int).getD (x2.toNat*2+0) 0)≥(([a1.X.A,a1.X.B,a1.Y.A,a1.Y.B]:List Int).getD (x2.toNat*2+1) 0))) else none else some (Sum.inr ())
def HH (a1:Rect):Option Bool:= (yA a1 FUEL 0).bind λu11=>Sum.elim (λv12=>some v12) (λo9=> some true) u11
def qDK (a1:Rect) (a2:Int):Option Span:= bif a2==2 then some a1.X else some a1.Y
def WO (a1:List Node) (a2:Int) (a3:List Node):Option (Int×(List Node)):= bif decide ((w64 (a2+(a1.length:Int)))<=127) then bif room (a3.length+a1.length) 16 then some (w64 (a2+(a1.length:Int)),(a3++a1)) else none else some (w64 (a2+(a1.length:Int)),a3)
def AT (a5:List (List Node)) (x21:Int) (R:Int->Bool->Int->(List Node)->Int->Option (((List Node)×Int)⊕(Bool×(List Node)×Int))) (x40:Int) (x41:Bool) (l42:List Node) (x43:Int):Option (((List Node)×Int)⊕(Bool×(List Node)×Int)):= bif inb x21 a5.length then (WO (a5.getD x21.toNat daa) x43 l42).bind λv45=> R x40 x41 (w64 (x21+1)) v45.2 v45.1 else none
def FB (a2:Int) (a3:Int) (a4:List Span) (a5:List (List Node)) (v17:Span) (x19:Int) (x20:Bool) (x21:Int) (R:Int->Bool->Int->(List Node)->Int->Option (((List Node)×Int)⊕(Bool×(List Node)×Int))) (l35:List Node) (x36:Int):Option (((List Node)×Int)⊕(Bool×(List Node)×Int)):= bif decide (((a4.getD x21.toNat daa).B)<v17.B) then (WO [(Node.mk a2 ((a4.getD x21.toNat daa).B))] x36 l35).bind λv38=> AT a5 x21 R (imin (w64 (((a4.getD x21.toNat daa).B)+a3)) v17.B) x20 v38.2 v38.1 else AT a5 x21 R x19 true l35 x36
def FD (a2:Int) (a3:Int) (a4:List Span) (a5:List (List Node)) (v17:Span) (x19:Int) (x20:Bool) (x21:Int) (l22:List Node) (x23:Int) (R:Int->Bool->Int->(List Node)->Int->Option (((List Node)×Int)⊕(Bool×(List Node)×Int))) (x29:Bool):Option (((List Node)×Int)⊕(Bool×(List Node)×Int)):= bif x29 then some (Sum.inl ([],11)) else bif decide (((a4.getD x21.toNat daa).B)>v17.B) then some (Sum.inl ([],20)) else bif decide (((a4.getD x21.toNat daa).A)>x19) then (WO [(Node.mk a2 (w64 (((a4.getD x21.toNat daa).A)-a3))),(Node.mk 0 0)] x23 l22).bind λv33=> FB a2 a3 a4 a5 v17 x19 x20 x21 R v33.2 v33.1 else FB a2 a3 a4 a5 v17 x19 x20 x21 R l22 x23
def yZ (a2:Int) (a3:Int) (a4:List Span) (a5:List (List Node)) (v17:Span):Nat->Int->Bool->Int->(List Node)->Int->Option (((List Node)×Int)⊕(Bool×(List Node)×Int))
 |0,_,_,_,_,_=>none
 |n+1,x19,x20,x21,l22,x23=> bif decide (x21<(a4.length:Int)) then bif inb x21 a4.length then bif decide (((a4.getD x21.toNat daa).A)≥((a4.getD x21.toNat daa).B)) then some (Sum.inl ([],19)) else bif x20 then FD a2 a3 a4 a5 v17 x19 x20 x21 l22 x23 (yZ a2 a3 a4 a5 v17 n) true else bif ((a4.getD x21.toNat daa).A) !=x19 then FD a2 a3 a4 a5 v17 x19 x20 x21 l22 x23 (yZ a2 a3 a4 a5 v17 n) (decide (((a4.getD x21.toNat daa).A)<(w64 ((w64 (x19+a3))+1)))) else FD a2 a3 a4 a5 v17 x19 x20 x21 l22 x23 (yZ a2 a3 a4 a5 v17 n) false else none else some (Sum.inr (x20,l22,x23))
def NW (x57:Int) (l58:List Node):Option ((List Node)×Int):= bif decide (x57>127) then some ([],4) else some (l58,0)
def AY (a1:Rect) (a2:Int) (a3:Int) (a4:List Span) (a5:List (List Node)) (x15:Bool):Option ((List Node)×Int):= bif x15 then some ([],9) else (qDK a1 a2).bind λv17=> (yZ a2 a3 a4 a5 v17 FUEL v17.A false 0 [] 0).bind λu52=>Sum.elim (λv53=>some v53) (λo50=> bif !o50.1 then (WO [(Node.mk 0 0)] o50.2.2 o50.2.1).bind λv55=> NW v55.1 v55.2 else NW o50.2.2 o50.2.1) u52
def IF (a1:Rect) (a2:Int) (a3:Int) (a4:List Span) (a5:List (List Node)) (x12:Bool):Option ((List Node)×Int):= bif x12 then some ([],19) else bif decide (a3<0) then AY a1 a2 a3 a4 a5 true else AY a1 a2 a3 a4 a5 (decide (a3>20))
def WD (a1:Rect) (a2:Int) (a3:Int) (a4:List Span) (a5:List (List Node)):Option ((List Node)×Int):= (qDI a2).bind λv6=> bif !v6 then some ([],10) else (HH a1).bind λv9=> bif !v9 then IF a1 a2 a3 a4 a5 true else IF a1 a2 a3 a4 a5 ((a4.length:Int) !=(a5.length:Int))
def UR (a4:Rect) (v10:(List zR)×Int×Int) (v13:(List Int)×(List Int)):Nat->(List Span)->(List (List Node))->Int->Option ((List Span)×(List (List Node)))
 |0,_,_,_=>none
 |n+1,l15,l16,x17=> bif decide (x17<(v10.1.length:Int)) then bif inb x17 v10.1.length then bif inb ((v10.1.getD x17.toNat daa).Size) v13.1.length then (qA5 a4 ((v10.1.getD x17.toNat daa).At) (w64 (((v10.1.getD x17.toNat daa).At)+(v13.1.getD (((v10.1.getD x17.toNat daa).Size).toNat) daa)))).bind λv21=> bif room (l15.length+1) 16 then bif inb ((v10.1.getD x17.toNat daa).Size) v13.2.length then (qB2 l16 [(Node.mk 1 (v13.2.getD (((v10.1.getD x17.toNat daa).Size).toNat) daa))]).bind λv25=> (UR a4 v10 v13 n) (l15++[v21.X]) v25.2 (w64 (x17+1)) else none else none else none else none else some (l15,l16)
def wW (a1:List qB) (a2:List qC) (a3:List Product) (a4:Rect) (a5:Saw) (a6:Rates):Option ((List Node)×Int×Int):= (qDp a1 a2 a3 a4 a5 a6).bind λv7=> bif v7.2 !=0 then some ([],0,v7.2) else (yV (Line.mk v7.1.Len v7.1.Kerf v7.1.Pitch v7.1.Sizes v7.1.Gain v7.1.Chip v7.1.Dust)).bind λv10=> bif v10.2.2 !=0 then some ([],0,v10.2.2) else (IQ a3 (w64 (a4.Y.B-a4.Y.A))).bind λv13=> (UR a4 v10 v13 FUEL [] [] 0).bind λo29=> (WD a4 2 a5.Kerf o29.1 o29.2).bind λv31=> bif v31.2 !=0 then some ([],0,v31.2) else some (v31.1,v10.2.1,0)
def qBW (a1:Node):Option Bool:= some (a1.Kind==1)
def jH (a1:List Node):Nat->Int->Option (Int⊕Unit)
 |0,_=>none
 |n+1,x2=> bif decide (x2<(a1.length:Int)) then bif inb x2 a1.length then (qBW (a1.getD x2.toNat daa)).bind λv5=> bif v5 then some (Sum.inl x2) else (jH a1 n) (w64 (x2+1)) else none else some (Sum.inr ())
def BA (a1:List Node):Option Int:= (jH a1 FUEL 0).bind λu10=>Sum.elim (λv11=>some v11) (λo8=> some (-1)) u10
def TD (a1:List Node):Option Bool:= (BA a1).bind λv2=> some (decide (v2≥0))
def MJ (a1:List Node):Option Bool:= (TD a1).bind λv2=> some v2
def TJ (a1:List qB) (a2:Rect):Option Int:= (UL a1).bind λv3=> (AH a1 (Box.mk a2.X a2.Y (Span.mk 0 v3))).bind λv5=> some v5
def UZ (l14:List Int) (l15:List (List Node)) (x16:Int) (R:(List Int)->(List (List Node))->Int->Option ((List Int)×(List (List Node)))) (x30:Int) (l31:List Node):Option ((List Int)×(List (List Node))):= bif room (l14.length+1) 8 then bif room (l15.length+1) 24 then R (l14++[x30]) (l15++[l31]) (w64 (x16+1)) else none else none
def EV (l14:List Int) (l15:List (List Node)) (x16:Int) (R:(List Int)->(List (List Node))->Int->Option ((List Int)×(List (List Node)))) (v22:(List Node)×Int×Int) (x27:Bool):Option ((List Int)×(List (List Node))):= bif x27 then UZ l14 l15 x16 R v22.2.1 v22.1 else UZ l14 l15 x16 R (-1) ([]:List Node)
def zU (a1:List qB) (a2:List qC) (a3:List Product) (a4:Rect) (a5:Saw) (a6:Rates) (v7:(List Int)) (x10:Int):Nat->(List Int)->(List (List Node))->Int->Option ((List Int)×(List (List Node)))
 |0,_,_,_=>none
 |n+1,l14,l15,x16=> bif decide ((w64 (x16+(v7.getD x10.toNat daa)))<=(w64 (a4.Y.B-a4.Y.A))) then bif nz a5.Pitch then bif (Int.tmod x16 a5.Pitch)==0 then (LV a4 x16 (w64 (x16+(v7.getD x10.toNat daa)))).bind λv20=> (wW a1 a2 a3 v20 a5 a6).bind λv22=> bif v22.2.2==0 then (MJ v22.1).bind λv25=> EV l14 l15 x16 (zU a1 a2 a3 a4 a5 a6 v7 x10 n) v22 v25 else EV l14 l15 x16 (zU a1 a2 a3 a4 a5 a6 v7 x10 n) v22 false else UZ l14 l15 x16 (zU a1 a2 a3 a4 a5 a6 v7 x10 n) (-1) ([]:List Node) else none else some (l14,l15)
def yU (a1:List qB) (a2:List qC) (a3:List Product) (a4:Rect) (a5:Saw) (a6:Rates) (v7:(List Int)):Nat->(List (List (List Node)))->Int->(List (List Int))->Option ((List (List (List Node)))×(List (List Int)))
 |0,_,_,_=>none
 |n+1,l9,x10,l11=> bif decide (x10<(v7.length:Int)) then bif inb x10 v7.length then (zU a1 a2 a3 a4 a5 a6 v7 x10 FUEL [] [] 0).bind λo36=> bif room (l11.length+1) 24 then bif room (l9.length+1) 24 then (yU a1 a2 a3 a4 a5 a6 v7 n) (l9++[o36.2]) (w64 (x10+1)) (l11++[o36.1]) else none else none else none else some (l9,l11)
def UI (a1:List qB) (a4:Rect) (a6:Rates):Nat->Int->(List Int)->(List Int)->Option ((List Int)×(List Int))
 |0,_,_,_=>none
 |n+1,x44,l45,l46=> bif decide (x44<(w64 (a4.Y.B-a4.Y.A))) then (LV a4 x44 (w64 (x44+1))).bind λv48=> (TJ a1 v48).bind λv50=> bif room (l45.length+1) 8 then bif room (l46.length+1) 8 then (UI a1 a4 a6 n) (w64 (x44+1)) (l45++[w64 (a6.Chip*v50)]) (l46++[w64 (a6.Dust*v50)]) else none else none else some (l45,l46)
def GQ (a1:List qB) (a2:List qC) (a3:List Product) (a4:Rect) (a5:Saw) (a6:Rates):Option (Line×(List (List (List Node)))):= (EA a3).bind λv7=> (yU a1 a2 a3 a4 a5 a6 v7 FUEL [] 0 []).bind λo42=> (UI a1 a4 a6 FUEL 0 [] []).bind λo56=> some ((Line.mk (w64 (a4.Y.B-a4.Y.A)) a5.Kerf 1 v7 o42.2 o56.1 o56.2),o42.1)
def qBE (a1:List Node) (a2:List (List Node)):Option ((List (List Node))×(List (List Node))):= bif room (a2.length+1) 24 then some ((a2++[a1]),(a2++[a1])) else none
def RD (v2:qF):Nat->Int->Int->Option Int
 |0,_,_=>none
 |n+1,x4,x5=> bif decide (x5<(v2.Rows.length:Int)) then bif inb x5 v2.Rows.length then (LH (v2.Rows.getD x5.toNat daa)).bind λv8=> (RD v2 n) (w64 (x4+v8)) (w64 (x5+1)) else none else some x4
def qBt (a1:qF):Option Int:= (QV a1).bind λv2=> (RD v2 FUEL 0 0).bind λo11=> some (w64 (10*o11))
def PY (v2:(List qB)):Nat->Int->Int->Option Int
 |0,_,_=>none
 |n+1,x4,x5=> bif decide (x5<(v2.length:Int)) then bif inb x5 v2.length then (qBt ((v2.getD x5.toNat daa).Sec)).bind λv8=> (PY v2 n) (w64 (x4+(w64 (((v2.getD x5.toNat daa).Len)*v8)))) (w64 (x5+1)) else none else some x4
def UU (a1:List qB):Option Int:= (BC a1).bind λv2=> (PY v2 FUEL 0 0).bind λo11=> some o11
def YM (a4:Rect) (v10:Line×(List (List (List Node)))) (v12:(List zR)×Int×Int):Nat->(List Span)->(List (List Node))->Int->Option ((List Span)×(List (List Node)))
 |0,_,_,_=>none
 |n+1,l15,l16,x17=> bif decide (x17<(v12.1.length:Int)) then bif inb x17 v12.1.length then bif inb ((v12.1.getD x17.toNat daa).Size) v10.1.Sizes.length then (LV a4 ((v12.1.getD x17.toNat daa).At) (w64 (((v12.1.getD x17.toNat daa).At)+(v10.1.Sizes.getD (((v12.1.getD x17.toNat daa).Size).toNat) daa)))).bind λv21=> bif room (l15.length+1) 16 then bif inb ((v12.1.getD x17.toNat daa).Size) v10.2.length then bif inb ((v12.1.getD x17.toNat daa).At) ((v10.2.getD (((v12.1.getD x17.toNat daa).Size).toNat) daa).length) then (qBE ((v10.2.getD (((v12.1.getD x17.toNat daa).Size).toNat) daa).getD ((v12.1.getD x17.toNat daa).At).toNat daa) l16).bind λv26=> (YM a4 v10 v12 n) (l15++[v21.Y]) v26.2 (w64 (x17+1))
 else none else none else none else none else none else some (l15,l16)
def DL (a1:List qB) (a2:List qC) (a3:List Product) (a4:Rect) (a5:Saw) (a6:Rates):Option (Pattern×Int×Int):= (LO a1 a2 a3 a4 a5 a6).bind λv7=> bif v7 !=0 then some ((Pattern.mk (Rect.mk (Span.mk 0 0) (Span.mk 0 0)) []),0,v7) else (GQ a1 a2 a3 a4 a5 a6).bind λv10=> (yV (Line.mk v10.1.Len v10.1.Kerf v10.1.Pitch v10.1.Sizes v10.1.Gain v10.1.Chip v10.1.Dust)).bind λv12=> bif v12.2.2 !=0 then some ((Pattern.mk (Rect.mk (Span.mk 0 0) (Span.mk 0 0)) []),0,v12.2.2) else (YM a4 v10 v12 FUEL [] [] 0).bind λo30=> (WD a4 3 a5.Kerf o30.1 o30.2).bind λv32=> bif v32.2 !=0 then some ((Pattern.mk (Rect.mk (Span.mk 0 0) (Span.mk 0 0)) []),0,13) else (UU a1).bind λv35=> (TJ a1 a4).bind λv37=> some ((Pattern.mk a4 v32.1),w64 (v12.2.1+(w64 (a6.Chip*(w64 (v35-v37))))),0)
def jR (a1:Scan) (a2:List Product) (a3:Saw) (a4:Rates) (a5:Int) (a6:Int):Nat->(List qQ)->Int->Option (((List qQ)×Int)⊕(List qQ))
 |0,_,_=>none
 |n+1,l7,x8=> bif decide (x8<4) then (QW a1 x8 a5 a6).bind λv10=> bif v10.2.2 !=0 then some (Sum.inl ([],v10.2.2)) else (LK v10.1).bind λv13=> (DL v10.1 v10.2.1 a2 v13 a3 a4).bind λv15=> bif v15.2.2 !=0 then some (Sum.inl ([],v15.2.2)) else bif room (l7.length+1) 72 then (jR a1 a2 a3 a4 a5 a6 n) (l7++[(qQ.mk x8 v15.1 v15.2.1)]) (w64 (x8+1)) else none else some (Sum.inr l7)
def TM (a1:Scan) (a2:List Product) (a3:Saw) (a4:Rates) (a5:Int) (a6:Int):Option ((List qQ)×Int):= (jR a1 a2 a3 a4 a5 a6 FUEL [] 0).bind λu22=>Sum.elim (λv23=>some v23) (λo20=> some (o20,0)) u22
def qDE (x12:Int) (R:Int->qQ->Option (Int×Int×Int×Int×Int×(List Node)×Int)) (x18:Int) (x19:Int) (x20:Int) (x21:Int) (x22:Int) (l23:List Node) (x24:Int):Option (Int×Int×Int×Int×Int×(List Node)×Int):= R (w64 (x12+1)) (qQ.mk x18 (Pattern.mk (Rect.mk (Span.mk x19 x20) (Span.mk x21 x22)) l23) x24)
def MP (v7:(List qQ)×Int):Nat->Int->qQ->Option (Int×Int×Int×Int×Int×(List Node)×Int)
 |0,_,_=>none
 |n+1,x12,x13=> bif decide (x12<(((v7.1.length-(1:Int).toNat):Nat):Int)) then bif inb x12 (v7.1.length-(1:Int).toNat) then bif Nat.ble (((1:Int).toNat)+(v7.1.length-(1:Int).toNat)) v7.1.length then bif decide (((v7.1.getD (((1:Int).toNat)+x12.toNat) daa).Value)>x13.Value) then qDE x12 (MP v7 n) ((v7.1.getD (((1:Int).toNat)+x12.toNat) daa).Quarters) (((((v7.1.getD (((1:Int).toNat)+x12.toNat) daa).Pattern).Frame).X).A) (((((v7.1.getD (((1:Int).toNat)+x12.toNat) daa).Pattern).Frame).X).B) (((((v7.1.getD (((1:Int).toNat)+x12.toNat) daa).Pattern).Frame).Y).A) (((((v7.1.getD (((1:Int).toNat)+x12.toNat) daa).Pattern).Frame).Y).B) (((v7.1.getD (((1:Int).toNat)+x12.toNat) daa).Pattern).Nodes) ((v7.1.getD (((1:Int).toNat)+x12.toNat) daa).Value)
 else qDE x12 (MP v7 n) x13.Quarters x13.Pattern.Frame.X.A x13.Pattern.Frame.X.B x13.Pattern.Frame.Y.A x13.Pattern.Frame.Y.B x13.Pattern.Nodes x13.Value else none else none else some (x13.Quarters,x13.Pattern.Frame.X.A,x13.Pattern.Frame.X.B,x13.Pattern.Frame.Y.A,x13.Pattern.Frame.Y.B,x13.Pattern.Nodes,x13.Value)
def FN (a1:Scan) (a2:List Product) (a3:Saw) (a4:Rates) (a5:Int) (a6:Int):Option (qQ×Int):= (TM a1 a2 a3 a4 a5 a6).bind λv7=> bif v7.2 !=0 then some ((qQ.mk 0 (Pattern.mk (Rect.mk (Span.mk 0 0) (Span.mk 0 0)) []) 0),v7.2) else bif inb 0 v7.1.length then bif slOk 1 (v7.1.length:Int) v7.1.length then (MP v7 FUEL 0 (v7.1.getD ((0:Int).toNat) daa)).bind λo32=> some ((qQ.mk o32.1 (Pattern.mk (Rect.mk (Span.mk o32.2.1 o32.2.2.1) (Span.mk o32.2.2.2.1 o32.2.2.2.2.1)) o32.2.2.2.2.2.1) o32.2.2.2.2.2.2),0) else none else none
def qCb (x24:Int) (R:Int->Option (Bool⊕Unit)) (x28:Bool):Option (Bool⊕Unit):= bif x28 then some (Sum.inl false) else R (w64 (x24+1))
def IM (v11:(List qQ)×Int):Nat->Int->Option (Bool⊕Unit)
 |0,_=>none
 |n+1,x24=> bif decide (x24<(v11.1.length:Int)) then bif inb x24 v11.1.length then bif ((v11.1.getD x24.toNat daa).Quarters) !=x24 then qCb x24 (IM v11 n) true else qCb x24 (IM v11 n) (((v11.1.getD x24.toNat daa).Value) !=80000000) else none else some (Sum.inr ())
def jA (x46:Bool):Option Bool:= some x46
def XT (v3:(List qB)×(List qC)×Int) (v11:(List qQ)×Int) (v17:qQ×Int) (v19:qQ×Int) (x22:Bool):Option Bool:= bif x22 then some false else (IM v11 FUEL 0).bind λu32=>Sum.elim (λv33=>some v33) (λo30=> bif v3.2.2==0 then bif (v3.2.1.length:Int)==0 then bif inb 0 v3.1.length then bif ((v3.1.getD (0:Int).toNat daa).Len)==3000 then bif (((v3.1.getD (0:Int).toNat daa).Sec).Low)==(-6) then bif (((((v3.1.getD (0:Int).toNat daa).Sec).Rows).length:Nat):Int)==12 then bif inb 0 ((((v3.1.getD (0:Int).toNat daa).Sec).Rows).length) then bif (((((((v3.1.getD (0:Int).toNat daa).Sec).Rows).getD (0:Int).toNat daa).A)==(-30))&&(((((((v3.1.getD (0:Int).toNat daa).Sec).Rows).getD (0:Int).toNat daa).B)==30)&&true)) then
 bif v11.2==0 then bif v17.2==0 then bif v17.1.Quarters==0 then bif v17.1.Value==80000000 then jA (v19.2==3) else jA false else jA false else jA false else jA false else jA false else none else jA false else jA false else jA false else none else jA false else jA false) u32
def MZ :Option Bool:= (AL).bind λv1=> (QW v1 1 200 2).bind λv3=> (AL).bind λv9=> (TM v9 ([(Product.mk (ByteArray.mk #[112,108,97,110,107]) 50 100 0 0 [3000] [80])]:List Product) (Saw.mk 4 0 10 1000) (Rates.mk 0 0 0) 200 2).bind λv11=> (AL).bind λv15=> (FN v15 ([(Product.mk (ByteArray.mk #[112,108,97,110,107]) 50 100 0 0 [3000] [80])]:List Product) (Saw.mk 4 0 10 1000) (Rates.mk 0 0 0) 200 2).bind λv17=> (FN (Scan.mk [] []) ([(Product.mk (ByteArray.mk #[112,108,97,110,107]) 50 100 0 0 [3000] [80])]:List Product) (Saw.mk 4 0 10 1000) (Rates.mk 0 0 0) 200 2).bind λv19=> bif (v3.1.length:Int) !=1 then XT v3 v11 v17 v19 true else XT v3 v11 v17 v19 ((v11.1.length:Int) !=4)
def YP (x2:Int) (R:Int->Option (Bool⊕Unit)) (x8:Bool):Option (Bool⊕Unit):= bif x8 then some (Sum.inl false) else R (w64 (x2+1))
def jD (a1:List qA):Nat->Int->Option (Bool⊕Unit)
 |0,_=>none
 |n+1,x2=> bif decide (x2<(a1.length:Int)) then bif inb x2 a1.length then bif decide (((a1.getD x2.toNat daa).X)<(-600)) then YP x2 (jD a1 n) true else bif decide (((a1.getD x2.toNat daa).X)>600) then YP x2 (jD a1 n) true else bif decide (((a1.getD x2.toNat daa).Y)<(-600)) then YP x2 (jD a1 n) true else YP x2 (jD a1 n) (decide (((a1.getD x2.toNat daa).Y)>600)) else none else some (Sum.inr ())
def JY (a1:List qA):Option Bool:= (jD a1 FUEL 0).bind λu12=>Sum.elim (λv13=>some v13) (λo10=> some true) u12
def AM (x7:Int) (R:Int->Option (Int⊕Unit)) (x16:Bool):Option (Int⊕Unit):= bif x16 then some (Sum.inl 19) else R (w64 (x7+1))
def IZ (a1:Ring) (x7:Int) (R:Int->Option (Int⊕Unit)) (x13:Bool):Option (Int⊕Unit):= bif x13 then some (Sum.inl 9) else bif !((a1.Read.getD x7.toNat daa).Ok) then AM x7 R (!(((((a1.Read.getD x7.toNat daa).P).X)==0)&&(((((a1.Read.getD x7.toNat daa).P).Y)==0)&&true))) else AM x7 R false
def KL (a1:Ring):Nat->Int->Option (Int⊕Unit)
 |0,_=>none
 |n+1,x7=> bif decide (x7<(a1.Read.length:Int)) then bif inb x7 a1.Read.length then bif (a1.Read.getD x7.toNat daa).Ok then (JY [(a1.Read.getD x7.toNat daa).P]).bind λv11=> IZ a1 x7 (KL a1 n) (!v11) else IZ a1 x7 (KL a1 n) false else none else some (Sum.inr ())
def IS (a1:Ring) (x5:Bool):Option Int:= bif x5 then some 9 else (KL a1 FUEL 0).bind λu20=>Sum.elim (λv21=>some v21) (λo18=> some 0) u20
def DZ (a1:Ring):Option Int:= bif decide ((a1.Read.length:Int)<8) then some 3 else bif decide ((a1.Read.length:Int)>32) then some 4 else bif decide (a1.Z<0) then IS a1 true else IS a1 (decide (a1.Z>20000))
def FH (x4:Bool):Option Bool:= some x4
def CW (a1:Box):Option Bool:= bif decide (a1.X.A≥a1.X.B) then FH true else bif decide (a1.Y.A≥a1.Y.B) then FH true else FH (decide (a1.Z.A≥a1.Z.B))
def qC2 (x5:Bool):Option Bool:= some x5
def qCt (a1:Span) (a2:Int) (a3:Int):Option Bool:= bif decide (a2<=a1.A) then qC2 (decide (a1.B<=a3)) else qC2 false
def DE (x10:Bool):Option Bool:= some x10
def qBn (a1:Box):Option Bool:= (qCt a1.X (-600) 600).bind λv2=> bif v2 then (qCt a1.Y (-600) 600).bind λv5=> bif v5 then (qCt a1.Z 0 20000).bind λv8=> DE v8 else DE false else DE false
def ID (a1:List qC) (x3:Int) (R:Int->Option (Int⊕Unit)) (x7:Bool):Option (Int⊕Unit):= bif x7 then some (Sum.inl 10) else bif inb x3 a1.length then (CW ((a1.getD x3.toNat daa).Box)).bind λv10=> bif v10 then some (Sum.inl 19) else (qBn ((a1.getD x3.toNat daa).Box)).bind λv13=> bif !v13 then some (Sum.inl 9) else R (w64 (x3+1)) else none
def JD (a1:List qC):Nat->Int->Option (Int⊕Unit)
 |0,_=>none
 |n+1,x3=> bif decide (x3<(a1.length:Int)) then bif inb x3 a1.length then bif decide (((a1.getD x3.toNat daa).Kind)<1) then ID a1 x3 (JD a1 n) true else ID a1 x3 (JD a1 n) (decide (((a1.getD x3.toNat daa).Kind)>6)) else none else some (Sum.inr ())
def TL (a1:List qC):Option Int:= bif decide ((a1.length:Int)>64) then some 4 else (JD a1 FUEL 0).bind λu18=>Sum.elim (λv19=>some v19) (λo16=> some 0) u18
def KJ (a1:Scan) (x5:Int) (R:Int->Int->Option (Int⊕Int)) (x15:Bool):Option (Int⊕Int):= bif x15 then some (Sum.inl 11) else bif inb 0 a1.Rings.length then bif ((((a1.Rings.getD x5.toNat daa).Read).length:Nat):Int) !=((((a1.Rings.getD (0:Int).toNat daa).Read).length:Nat):Int) then some (Sum.inl 19) else R ((a1.Rings.getD x5.toNat daa).Z) (w64 (x5+1)) else none
def wL (a1:Scan):Nat->Int->Int->Option (Int⊕Int)
 |0,_,_=>none
 |n+1,x4,x5=> bif decide (x5<(a1.Rings.length:Int)) then bif inb x5 a1.Rings.length then (DZ (a1.Rings.getD x5.toNat daa)).bind λv8=> bif v8 !=0 then some (Sum.inl v8) else bif x5==0 then bif ((a1.Rings.getD x5.toNat daa).Z) !=0 then KJ a1 x5 (wL a1 n) true else bif decide (x5>0) then KJ a1 x5 (wL a1 n) (decide (((a1.Rings.getD x5.toNat daa).Z)<=x4)) else KJ a1 x5 (wL a1 n) false else bif decide (x5>0) then KJ a1 x5 (wL a1 n) (decide (((a1.Rings.getD x5.toNat daa).Z)<=x4)) else KJ a1 x5 (wL a1 n) false else none else some (Sum.inr x4)
def TS (a1:Scan) (o20:Int):Nat->Int->Option (Int⊕Unit)
 |0,_=>none
 |n+1,x27=> bif decide (x27<(a1.Defects.length:Int)) then bif inb x27 a1.Defects.length then bif decide (((((a1.Defects.getD x27.toNat daa).Box).Z).B)>o20) then some (Sum.inl 9) else (TS a1 o20 n) (w64 (x27+1)) else none else some (Sum.inr ())
def CR (a1:Scan):Option Int:= bif decide ((a1.Rings.length:Int)<2) then some 3 else bif decide ((a1.Rings.length:Int)>24) then some 4 else (wL a1 FUEL 0 0).bind λu22=>Sum.elim (λv23=>some v23) (λo20=> (TL a1.Defects).bind λv24=> bif v24 !=0 then some v24 else (TS a1 o20 FUEL 0).bind λu33=>Sum.elim (λv34=>some v34) (λo31=> some 0) u33) u22
def SH (a1:Ring):Option Ring:= bif room (0+a1.Read.length) 24 then some (Ring.mk a1.Z (([]:List qO)++a1.Read)) else none
def UB (a1:Int):Option Int:= some (Int.tmod (w64 ((Int.tmod a1 4)+4)) 4)
def ZL (a2:Int):Nat->Int->qA->Option qA
 |0,_,_=>none
 |n+1,x3,x4=> bif decide (x3<a2) then (ZL a2 n) (w64 (x3+1)) (qA.mk (w64 (0-x4.Y)) x4.X) else some x4
def qB7 (a1:qA) (a2:Int):Option qA:= (ZL a2 FUEL 0 a1).bind λo7=> some o7
def qAa (x8:Int) (R:Int->(List qO)->Option (List qO)) (l17:List qO):Option (List qO):= R (w64 (x8+1)) l17
def RG (a2:Int):Nat->Int->(List qO)->Option (List qO)
 |0,_,_=>none
 |n+1,x8,l9=> bif decide (x8<(l9.length:Int)) then bif inb x8 l9.length then bif (l9.getD x8.toNat daa).Ok then (UB a2).bind λv13=> (qB7 ((l9.getD x8.toNat daa).P) v13).bind λv15=> qAa x8 (RG a2 n) (l9.set x8.toNat (qO.mk v15 ((l9.getD x8.toNat daa).Ok))) else qAa x8 (RG a2 n) l9 else none else some l9
def DX (a1:Ring) (a2:Int):Option Ring:= (SH a1).bind λv3=> (DZ a1).bind λv5=> bif v5 !=0 then some (Ring.mk v3.Z v3.Read) else (RG a2 FUEL 0 v3.Read).bind λo19=> some (Ring.mk v3.Z o19)
def qIH (a1:Box):Option Box:= some (Box.mk (Span.mk (w64 (0-a1.Y.B)) (w64 (0-a1.Y.A))) a1.X a1.Z)
def WG (a1:List qC) (a2:Int) (x7:Int):Nat->Int->Int->Int->Int->Int->Int->Int->Option qC
 |0,_,_,_,_,_,_,_=>none
 |n+1,x10,x11,x12,x13,x14,x15,x16=> (UB a2).bind λv17=> bif decide (x10<v17) then (qIH (Box.mk (Span.mk x11 x12) (Span.mk x13 x14) (Span.mk x15 x16))).bind λv20=> (WG a1 a2 x7 n) (w64 (x10+1)) v20.X.A v20.X.B v20.Y.A v20.Y.B v20.Z.A v20.Z.B else some (qC.mk ((a1.getD x7.toNat daa).Kind) (Box.mk (Span.mk x11 x12) (Span.mk x13 x14) (Span.mk x15 x16)))
def YX (a1:List qC) (a2:Int):Nat->(List qC)->Int->Option (List qC)
 |0,_,_=>none
 |n+1,l6,x7=> bif decide (x7<(a1.length:Int)) then bif inb x7 a1.length then (WG a1 a2 x7 FUEL 0 ((((a1.getD x7.toNat daa).Box).X).A) ((((a1.getD x7.toNat daa).Box).X).B) ((((a1.getD x7.toNat daa).Box).Y).A) ((((a1.getD x7.toNat daa).Box).Y).B) ((((a1.getD x7.toNat daa).Box).Z).A) ((((a1.getD x7.toNat daa).Box).Z).B)).bind λo23=> bif room (l6.length+1) 56 then (YX a1 a2 n) (l6++[o23]) (w64 (x7+1)) else none else none else some l6
def qDT (a1:List qC) (a2:Int):Option (List qC):= (TL a1).bind λv3=> bif v3 !=0 then some ([]:List qC) else (YX a1 a2 FUEL [] 0).bind λo27=> some o27
def YV (a1:Scan) (a2:Int):Nat->Int->(List Ring)->Option (List Ring)
 |0,_,_=>none
 |n+1,x6,l7=> bif decide (x6<(a1.Rings.length:Int)) then bif inb x6 a1.Rings.length then (DX (a1.Rings.getD x6.toNat daa) a2).bind λv13=> bif room (l7.length+1) 32 then (YV a1 a2 n) (w64 (x6+1)) (l7++[v13]) else none else none else some l7
def qBs (a1:Scan) (a2:Int):Option Scan:= (CR a1).bind λv3=> bif v3 !=0 then some a1 else (YV a1 a2 FUEL 0 []).bind λo17=> (qDT a1.Defects a2).bind λv19=> some (Scan.mk o17 v19)
def qAL (x8:Int) (R:Int->Option Int) (x12:Bool):Option Int:= bif x12 then R (w64 (x8+1)) else some x8
def yT (a1:Ring) (x4:Int):Nat->Int->Option Int
 |0,_=>none
 |n+1,x8=> bif decide (x8<(a1.Read.length:Int)) then bif nz (a1.Read.length:Int) then bif inb (Int.tmod (w64 (x4+x8)) (a1.Read.length:Int)) a1.Read.length then qAL x8 (yT a1 x4 n) (!((a1.Read.getD (Int.tmod (w64 (x4+x8)) (a1.Read.length:Int)).toNat daa).Ok)) else none else none else qAL x8 (yT a1 x4 n) false
def qAu (x4:Int) (R:Int->Int->Int->Option (Int×Int)) (x17:Int) (x18:Int):Option (Int×Int):= R x17 x18 (w64 (x4+1))
def RW (a1:Ring):Nat->Int->Int->Int->Option (Int×Int)
 |0,_,_,_=>none
 |n+1,x2,x3,x4=> bif decide (x4<(a1.Read.length:Int)) then bif inb x4 a1.Read.length then bif (a1.Read.getD x4.toNat daa).Ok then qAu x4 (RW a1 n) x2 x3 else (yT a1 x4 FUEL 0).bind λo15=> qAu x4 (RW a1 n) (w64 (x2+1)) (imax x3 o15) else none else some (x2,x3)
def OF (a1:Ring):Option (Int×Int):= (RW a1 FUEL 0 0 0).bind λo21=> some (o21.1,o21.2)
def RS (a1:List qO) (a3:Int):Nat->Int->Option Int
 |0,_=>none
 |n+1,x5=> bif inb x5 a1.length then bif !((a1.getD x5.toNat daa).Ok) then bif nz (a1.length:Int) then (RS a1 a3 n) (Int.tmod (w64 ((w64 (x5+a3))+(a1.length:Int))) (a1.length:Int)) else none else some x5 else none
def YN (a1:List qO) (a2:Int) (a3:Int):Option Int:= bif nz (a1.length:Int) then (RS a1 a3 FUEL (Int.tmod (w64 ((w64 (a2+a3))+(a1.length:Int))) (a1.length:Int))).bind λo10=> some o10 else none
def TQ (x7:Bool):Option Bool:= some x7
def CC (a1:qA) (a2:qA) (a3:Int):Option Bool:= bif decide ((w64 (a1.X-a2.X))>a3) then TQ true else bif decide ((w64 (a2.X-a1.X))>a3) then TQ true else bif decide ((w64 (a1.Y-a2.Y))>a3) then TQ true else TQ (decide ((w64 (a2.Y-a1.Y))>a3))
def NT (x13:Int) (R:Int->(List qO)->Option (List qO)) (l32:List qO):Option (List qO):= R (w64 (x13+1)) l32
def OJ (x13:Int) (l14:List qO) (R:Int->(List qO)->Option (List qO)) (x29:Bool):Option (List qO):= bif x29 then bif inb x13 l14.length then NT x13 R (l14.set x13.toNat (qO.mk (qA.mk 0 0) false)) else none else NT x13 R l14
def JF (a1:Ring) (a2:Int):Nat->Int->(List qO)->Option (List qO)
 |0,_,_=>none
 |n+1,x13,l14=> bif decide (x13<(a1.Read.length:Int)) then bif inb x13 a1.Read.length then bif !((a1.Read.getD x13.toNat daa).Ok) then NT x13 (JF a1 a2 n) l14 else (YN a1.Read x13 (-1)).bind λv18=> bif inb v18 a1.Read.length then (YN a1.Read x13 1).bind λv21=> bif inb v21 a1.Read.length then (CC ((a1.Read.getD x13.toNat daa).P) ((a1.Read.getD v18.toNat daa).P) a2).bind λv24=> bif v24 then (CC ((a1.Read.getD x13.toNat daa).P) ((a1.Read.getD v21.toNat daa).P) a2).bind λv27=> OJ x13 l14 (JF a1 a2 n) v27 else OJ x13 l14 (JF a1 a2 n) false else none else none else none else some l14
def BT (a1:Ring) (a2:Int) (v5:Ring) (x11:Bool):Option Ring:= bif x11 then some (Ring.mk v5.Z v5.Read) else (JF a1 a2 FUEL 0 v5.Read).bind λo34=> some (Ring.mk v5.Z o34)
def qCC (a1:Ring) (a2:Int):Option Ring:= (OF a1).bind λv3=> (SH a1).bind λv5=> bif decide (a2<0) then BT a1 a2 v5 true else bif decide ((w64 ((a1.Read.length:Int)-v3.1))<2) then BT a1 a2 v5 true else (DZ a1).bind λv9=> BT a1 a2 v5 (v9 !=0)
def AU (x5:Int):Option Int:= some x5
def CB (a1:Int) (a2:Int):Option Int:= bif nz a2 then bif decide ((w64 ((w64 (Int.tdiv a1 a2))*a2))>a1) then AU (w64 ((w64 (Int.tdiv a1 a2))-1)) else AU (w64 (Int.tdiv a1 a2)) else none
def HI (x13:Int) (R:(List qA)->Int->Option (List qA)) (l30:List qA):Option (List qA):= R l30 (w64 (x13+1))
def ZQ (a1:Ring):Nat->(List qA)->Int->Option (List qA)
 |0,_,_=>none
 |n+1,l12,x13=> bif decide (x13<(a1.Read.length:Int)) then bif inb x13 a1.Read.length then bif (a1.Read.getD x13.toNat daa).Ok then bif room (l12.length+1) 16 then HI x13 (ZQ a1 n) (l12++[(a1.Read.getD x13.toNat daa).P]) else none else (YN a1.Read x13 (-1)).bind λv18=> (YN a1.Read x13 1).bind λv20=> bif nz (a1.Read.length:Int) then bif inb v18 a1.Read.length then bif inb v20 a1.Read.length then (CB (w64 ((w64 ((((a1.Read.getD v20.toNat daa).P).X)-(((a1.Read.getD v18.toNat daa).P).X)))*(Int.tmod (w64 ((w64 (x13-v18))+(a1.Read.length:Int))) (a1.Read.length:Int)))) (Int.tmod (w64 ((w64 (v20-v18))+(a1.Read.length:Int))) (a1.Read.length:Int))).bind λv25=> (CB (w64 ((w64 ((((a1.Read.getD v20.toNat daa).P).Y)-(((a1.Read.getD v18.toNat daa).P).Y)))*(Int.tmod (w64 ((w64 (x13-v18))+(a1.Read.length:Int))) (a1.Read.length:Int)))) (Int.tmod (w64 ((w64 (v20-v18))+(a1.Read.length:Int))) (a1.Read.length:Int))).bind λv27=>
 bif room (l12.length+1) 16 then HI x13 (ZQ a1 n) (l12++[(qA.mk (w64 ((((a1.Read.getD v18.toNat daa).P).X)+v25)) (w64 ((((a1.Read.getD v18.toNat daa).P).Y)+v27)))]) else none else none else none else none else none else some l12
def GY (a1:Ring) (x10:Bool):Option ((List qA)×Int):= bif x10 then some ([],30) else (ZQ a1 FUEL [] 0).bind λo32=> some (o32,0)
def qBr (a1:Ring) (a2:Int):Option ((List qA)×Int):= (DZ a1).bind λv3=> bif v3 !=0 then some ([],v3) else (OF a1).bind λv6=> bif decide ((w64 ((a1.Read.length:Int)-v6.1))<3) then GY a1 true else bif decide (v6.1>0) then GY a1 (decide (v6.2>a2)) else GY a1 false
def TT (a1:List qA):Nat->Int->Int->Option Int
 |0,_,_=>none
 |n+1,x7,x8=> bif decide (x8<(a1.length:Int)) then bif nz (a1.length:Int) then bif inb (Int.tmod (w64 (x8+1)) (a1.length:Int)) a1.length then bif inb x8 a1.length then (TT a1 n) (w64 ((w64 (x7+(w64 (((a1.getD x8.toNat daa).X)*((a1.getD (Int.tmod (w64 (x8+1)) (a1.length:Int)).toNat daa).Y)))))-(w64 (((a1.getD (Int.tmod (w64 (x8+1)) (a1.length:Int)).toNat daa).X)*((a1.getD x8.toNat daa).Y))))) (w64 (x8+1)) else none else none else none else some x7
def IV (a1:List qA) (x5:Bool):Option Int:= bif x5 then some 0 else (TT a1 FUEL 0 0).bind λo14=> some o14
def qC3 (a1:List qA):Option Int:= bif decide ((a1.length:Int)>32) then IV a1 true else (JY a1).bind λv3=> IV a1 (!v3)
def qCB (a1:List qA):Option Int:= bif decide ((a1.length:Int)<3) then some 3 else bif decide ((a1.length:Int)>32) then some 4 else (JY a1).bind λv4=> bif !v4 then some 9 else (qC3 a1).bind λv7=> bif v7==0 then some 19 else some 0
def DJ (x5:Bool):Option Bool:= some x5
def qB6 (a1:qA) (a2:qA):Option Bool:= bif decide (a1.X<a2.X) then DJ true else bif a1.X==a2.X then DJ (decide (a1.Y<a2.Y)) else DJ false
def HT (x5:Int) (R:Int->Option Int) (x11:Bool):Option Int:= bif x11 then R (w64 (x5+1)) else some x5
def PK (a1:List qA) (l2:List qA) (x3:Int):Nat->Int->Option Int
 |0,_=>none
 |n+1,x5=> bif decide (x5<(l2.length:Int)) then bif inb x5 l2.length then bif inb x3 a1.length then (qB6 (l2.getD x5.toNat daa) (a1.getD x3.toNat daa)).bind λv9=> HT x5 (PK a1 l2 x3 n) v9 else none else none else HT x5 (PK a1 l2 x3 n) false
def HK (x3:Int) (R:(List qA)->Int->Option (List qA)) (l27:List qA):Option (List qA):= R l27 (w64 (x3+1))
def HJ (a1:List qA) (l2:List qA) (x3:Int) (R:(List qA)->Int->Option (List qA)) (o14:Int) (x19:Bool):Option (List qA):= bif x19 then HK x3 R l2 else bif slOk 0 o14 l2.length then bif room (0+o14.toNat) 16 then bif inb x3 a1.length then bif room ((0+o14.toNat)+1) 16 then bif slOk o14 (l2.length:Int) l2.length then bif room (((0+o14.toNat)+1)+(l2.length-o14.toNat)) 16 then HK x3 R (((([]:List qA)++(l2.take o14.toNat))++[(a1.getD x3.toNat daa)])++((l2.drop o14.toNat).take (l2.length-o14.toNat))) else none else none else none else none else none else none
def YO (a1:List qA):Nat->(List qA)->Int->Option (List qA)
 |0,_,_=>none
 |n+1,l2,x3=> bif decide (x3<(a1.length:Int)) then (PK a1 l2 x3 FUEL 0).bind λo14=> bif decide (o14<(l2.length:Int)) then bif inb o14 l2.length then bif inb x3 a1.length then HJ a1 l2 x3 (YO a1 n) o14 ((((l2.getD o14.toNat daa).X)==((a1.getD x3.toNat daa).X))&&((((l2.getD o14.toNat daa).Y)==((a1.getD x3.toNat daa).Y))&&true)) else none else none else HJ a1 l2 x3 (YO a1 n) o14 false else some l2
def qBe (a1:List qA):Option (List qA):= (YO a1 FUEL [] 0).bind λo29=> some o29
def qCN (a1:qA) (a2:qA) (a3:qA):Option Int:= some (w64 ((w64 ((w64 (a2.X-a1.X))*(w64 (a3.Y-a1.Y))))-(w64 ((w64 (a2.Y-a1.Y))*(w64 (a3.X-a1.X))))))
def IL (l5:List qA) (R:(List qA)->Option (List qA)) (x12:Bool):Option (List qA):= bif x12 then bif slOk 0 (w64 ((l5.length:Int)-1)) l5.length then R (l5.take ((w64 ((l5.length:Int)-1)).toNat)) else none else some l5
def TZ (a1:List qA) (x3:Int):Nat->(List qA)->Option (List qA)
 |0,_=>none
 |n+1,l5=> bif decide ((l5.length:Int)>1) then bif inb (w64 ((l5.length:Int)-2)) l5.length then bif inb (w64 ((l5.length:Int)-1)) l5.length then bif inb x3 a1.length then (qCN (l5.getD ((w64 ((l5.length:Int)-2)).toNat) daa) (l5.getD ((w64 ((l5.length:Int)-1)).toNat) daa) (a1.getD x3.toNat daa)).bind λv10=> IL l5 (TZ a1 x3 n) (decide (v10<=0)) else none else none else none else IL l5 (TZ a1 x3 n) false
def FC (a1:List qA):Nat->(List qA)->Int->Option (List qA)
 |0,_,_=>none
 |n+1,l2,x3=> bif decide (x3<(a1.length:Int)) then (TZ a1 x3 FUEL l2).bind λo16=> bif inb x3 a1.length then bif room (o16.length+1) 16 then (FC a1 n) (o16++[(a1.getD x3.toNat daa)]) (w64 (x3+1)) else none else none else some l2
def CS (a1:List qA):Option (List qA):= (FC a1 FUEL [] 0).bind λo21=> some o21
def RK (v7:(List qA)):Nat->(List qA)->Int->Option (List qA)
 |0,_,_=>none
 |n+1,l9,x10=> bif decide (x10≥0) then bif inb x10 v7.length then bif room (l9.length+1) 16 then (RK v7 n) (l9++[(v7.getD x10.toNat daa)]) (w64 (x10-1)) else none else none else some l9
def qAs (a1:List qA) (x5:Bool):Option (List qA):= bif x5 then some ([]:List qA) else (qBe a1).bind λv7=> (RK v7 FUEL [] (w64 ((v7.length:Int)-1))).bind λo15=> (CS v7).bind λv17=> (CS o15).bind λv19=> bif decide ((w64 ((v17.length:Int)+(v19.length:Int)))<5) then some ([]:List qA) else bif slOk 0 (w64 ((v17.length:Int)-1)) v17.length then bif room (0+(w64 ((v17.length:Int)-1)).toNat) 16 then bif slOk 0 (w64 ((v19.length:Int)-1)) v19.length then bif room ((0+(w64 ((v17.length:Int)-1)).toNat)+(w64 ((v19.length:Int)-1)).toNat) 16 then some ((([]:List qA)++(v17.take ((w64 ((v17.length:Int)-1)).toNat)))++(v19.take ((w64 ((v19.length:Int)-1)).toNat))) else none else none else none else none
def qD6 (a1:List qA):Option (List qA):= bif decide ((a1.length:Int)>32) then qAs a1 true else (JY a1).bind λv3=> qAs a1 (!v3)
def OB (x5:Int):Option Int:= some x5
def OX (a1:Int) (a2:Int):Option Int:= bif nz a2 then bif decide ((w64 ((w64 (Int.tdiv a1 a2))*a2))>a1) then OB (w64 ((w64 (Int.tdiv a1 a2))-1)) else OB (w64 (Int.tdiv a1 a2)) else none
def GS (x5:Int) (R:Int->Int->Int->Option ((Int×Int)⊕(Int×Int))) (x17:Int) (x18:Int):Option ((Int×Int)⊕(Int×Int)):= R x17 x18 (w64 (x5+1))
def ZP (a1:List qA) (a2:Int):Nat->Int->Int->Int->Option ((Int×Int)⊕(Int×Int))
 |0,_,_,_=>none
 |n+1,x3,x4,x5=> bif decide (x5<(a1.length:Int)) then bif inb x5 a1.length then bif nz (a1.length:Int) then bif inb (Int.tmod (w64 (x5+1)) (a1.length:Int)) a1.length then bif decide ((w64 (((a1.getD (Int.tmod (w64 (x5+1)) (a1.length:Int)).toNat daa).Y)-((a1.getD x5.toNat daa).Y)))>0) then (OX (w64 ((w64 (((a1.getD (Int.tmod (w64 (x5+1)) (a1.length:Int)).toNat daa).X)-((a1.getD x5.toNat daa).X)))*(w64 (a2-((a1.getD x5.toNat daa).Y))))) (w64 (((a1.getD (Int.tmod (w64 (x5+1)) (a1.length:Int)).toNat daa).Y)-((a1.getD x5.toNat daa).Y)))).bind λv11=> GS x5 (ZP a1 a2 n) x3 (imin x4 (w64 (((a1.getD x5.toNat daa).X)+v11))) else bif decide ((w64 (((a1.getD (Int.tmod (w64 (x5+1)) (a1.length:Int)).toNat daa).Y)-((a1.getD x5.toNat daa).Y)))<0) then
 (OX (w64 ((w64 (((a1.getD (Int.tmod (w64 (x5+1)) (a1.length:Int)).toNat daa).X)-((a1.getD x5.toNat daa).X)))*(w64 (a2-((a1.getD x5.toNat daa).Y))))) (w64 (0-(w64 (((a1.getD (Int.tmod (w64 (x5+1)) (a1.length:Int)).toNat daa).Y)-((a1.getD x5.toNat daa).Y)))))).bind λv14=> GS x5 (ZP a1 a2 n) (imax x3 (w64 (((a1.getD x5.toNat daa).X)-v14))) x4 else bif decide ((w64 ((w64 (((a1.getD (Int.tmod (w64 (x5+1)) (a1.length:Int)).toNat daa).X)-((a1.getD x5.toNat daa).X)))*(w64 (a2-((a1.getD x5.toNat daa).Y)))))<0) then some (Sum.inl (1,0)) else GS x5 (ZP a1 a2 n) x3 x4 else none else none else none else some (Sum.inr (x3,x4))
def NU (a1:List qA) (a2:Int):Option (Int×Int):= (ZP a1 a2 FUEL (-600) 600 0).bind λu23=>Sum.elim (λv24=>some v24) (λo21=> some (o21.1,o21.2)) u23
def NI (v11:Int×Int) (v13:Int×Int) (x17:Bool):Option Span:= bif x17 then some (Span.mk 0 0) else some (Span.mk (imax v11.1 v13.1) (imin v11.2 v13.2))
def UA (a2:Int) (a3:Int) (v4:(List qA)) (x9:Bool):Option Span:= bif x9 then some (Span.mk 0 0) else (NU v4 a2).bind λv11=> (NU v4 a3).bind λv13=> bif decide (v11.1>v11.2) then NI v11 v13 true else bif decide (v13.1>v13.2) then NI v11 v13 true else NI v11 v13 (decide ((imax v11.1 v13.1)≥(imin v11.2 v13.2)))
def qCZ (a1:List qA) (a2:Int) (a3:Int):Option Span:= (qD6 a1).bind λv4=> bif (v4.length:Int)==0 then UA a2 a3 v4 true else bif decide (a2≥a3) then UA a2 a3 v4 true else bif decide (a2<(-600)) then UA a2 a3 v4 true else UA a2 a3 v4 (decide (a3>600))
def ZX (a1:Span):Option Bool:= some (decide (a1.A≥a1.B))
def FQ (x3:Int) (R:Int->Option Int) (x8:Bool):Option Int:= bif x8 then R (w64 (x3+1)) else some x3
def WW (a2:List Span):Nat->Int->Option Int
 |0,_=>none
 |n+1,x3=> bif decide (x3<(a2.length:Int)) then bif inb x3 a2.length then (ZX (a2.getD x3.toNat daa)).bind λv6=> FQ x3 (WW a2 n) v6 else none else FQ x3 (WW a2 n) false
def LR (x13:Int) (R:Int->Option Int) (x18:Bool):Option Int:= bif x18 then R (w64 (x13-1)) else some x13
def KC (a2:List Span) (o11:Int):Nat->Int->Option Int
 |0,_=>none
 |n+1,x13=> bif decide (x13>o11) then bif inb (w64 (x13-1)) a2.length then (ZX (a2.getD (w64 (x13-1)).toNat daa)).bind λv16=> LR x13 (KC a2 o11 n) v16 else none else LR x13 (KC a2 o11 n) false
def XP (x24:Int) (l25:List Span) (R:Int->(List Span)->Option (List Span)) (x31:Span):Option (List Span):= bif room (l25.length+1) 16 then R (w64 (x24+1)) (l25++[x31]) else none
def yM (a2:List Span) (o21:Int):Nat->Int->(List Span)->Option (List Span)
 |0,_,_=>none
 |n+1,x24,l25=> bif decide (x24<o21) then bif inb x24 a2.length then (ZX (a2.getD x24.toNat daa)).bind λv28=> bif v28 then XP x24 l25 (yM a2 o21 n) (Span.mk 0 0) else XP x24 l25 (yM a2 o21 n) (a2.getD x24.toNat daa) else none else some l25
def RM (a1:Int) (a2:List Span):Option qF:= (WW a2 FUEL 0).bind λo11=> (KC a2 o11 FUEL (a2.length:Int)).bind λo21=> bif o11==o21 then some (qF.mk 0 []) else (yM a2 o21 FUEL o11 []).bind λo34=> some (qF.mk (w64 (a1+o11)) o34)
def BH (a1:List qA):Nat->Int->Int->Int->Option (Int×Int)
 |0,_,_,_=>none
 |n+1,x6,x7,x8=> bif decide (x8<(a1.length:Int)) then bif inb x8 a1.length then (BH a1 n) (imin x6 ((a1.getD x8.toNat daa).Y)) (imax x7 ((a1.getD x8.toNat daa).Y)) (w64 (x8+1)) else none else some (x6,x7)
def CL (l15:List Span) (x16:Int) (R:(List Span)->Int->Option (List Span)) (x23:Span):Option (List Span):= bif room (l15.length+1) 16 then R (l15++[x23]) (w64 (x16+1)) else none
def qDc (a1:List qA) (l15:List Span) (x16:Int) (R:(List Span)->Int->Option (List Span)) (x19:Bool):Option (List Span):= bif x19 then (qCZ a1 (w64 (10*x16)) (w64 (10*(w64 (x16+1))))).bind λv21=> CL l15 x16 R v21 else CL l15 x16 R (Span.mk 0 0)
def WB (a1:List qA) (o13:Int×Int):Nat->(List Span)->Int->Option (List Span)
 |0,_,_=>none
 |n+1,l15,x16=> bif decide (x16<60) then bif decide ((w64 (10*x16))≥o13.1) then qDc a1 l15 x16 (WB a1 o13 n) (decide ((w64 (10*(w64 (x16+1))))<=o13.2)) else qDc a1 l15 x16 (WB a1 o13 n) false else some l15
def qHx (a1:List qA):Option (qF×Int):= (qCB a1).bind λv2=> bif v2 !=0 then some ((qF.mk 0 []),v2) else bif inb 0 a1.length then (BH a1 FUEL ((a1.getD (0:Int).toNat daa).Y) ((a1.getD (0:Int).toNat daa).Y) 0).bind λo13=> (WB a1 o13 FUEL [] (-60)).bind λo26=> (RM (-60) o26).bind λv28=> bif (v28.Rows.length:Int)==0 then some ((qF.mk 0 []),18) else some ((qF.mk v28.Low v28.Rows),0) else none
def qAt (a1:Ring) (a2:Int) (a3:Int):Option (qF×Bool):= (qCC a1 a2).bind λv4=> (qBr (Ring.mk v4.Z v4.Read) a3).bind λv6=> bif v6.2 !=0 then some ((qF.mk 0 []),false) else (qHx v6.1).bind λv9=> some ((qF.mk v9.1.Low v9.1.Rows),v9.2==0)
def HS (x3:Bool):Option Bool:= some x3
def AF (a1:Int):Option Bool:= bif decide (a1<(-600)) then HS true else HS (decide (a1>600))
def AN (x6:Int) (R:Int->Option (Int⊕Unit)) (x14:Bool):Option (Int⊕Unit):= bif x14 then some (Sum.inl 9) else R (w64 (x6+1))
def JN (a1:qF):Nat->Int->Option (Int⊕Unit)
 |0,_=>none
 |n+1,x6=> bif decide (x6<(a1.Rows.length:Int)) then bif inb x6 a1.Rows.length then (AF ((a1.Rows.getD x6.toNat daa).A)).bind λv9=> bif v9 then AN x6 (JN a1 n) true else (AF ((a1.Rows.getD x6.toNat daa).B)).bind λv12=> AN x6 (JN a1 n) v12 else none else some (Sum.inr ())
def AO (x31:Int) (R:Int->Option (Int⊕Unit)) (x37:Bool):Option (Int⊕Unit):= bif x37 then some (Sum.inl 19) else R (w64 (x31+1))
def JJ (a1:qF):Nat->Int->Option (Int⊕Unit)
 |0,_=>none
 |n+1,x31=> bif decide (x31<(a1.Rows.length:Int)) then bif inb x31 a1.Rows.length then (ZX (a1.Rows.getD x31.toNat daa)).bind λv34=> bif v34 then AO x31 (JJ a1 n) (!((((a1.Rows.getD x31.toNat daa).A)==0)&&((((a1.Rows.getD x31.toNat daa).B)==0)&&true))) else AO x31 (JJ a1 n) false else none else some (Sum.inr ())
def OO (a1:qF) (x29:Bool):Option Int:= bif x29 then some 19 else (JJ a1 FUEL 0).bind λu41=>Sum.elim (λv42=>some v42) (λo39=> some 0) u41
def OG (a1:qF) (x4:Bool):Option Int:= bif x4 then some 9 else (JN a1 FUEL 0).bind λu18=>Sum.elim (λv19=>some v19) (λo16=> bif (a1.Rows.length:Int)==0 then bif a1.Low !=0 then some 19 else some 0 else bif inb 0 a1.Rows.length then (ZX (a1.Rows.getD (0:Int).toNat daa)).bind λv23=> bif v23 then OO a1 true else bif inb (w64 ((a1.Rows.length:Int)-1)) a1.Rows.length then (ZX (a1.Rows.getD (w64 ((a1.Rows.length:Int)-1)).toNat daa)).bind λv27=> OO a1 v27 else none else none) u18
def CD (a1:qF):Option Int:= bif decide ((a1.Rows.length:Int)>120) then some 4 else bif decide (a1.Low<(-60)) then OG a1 true else OG a1 (decide (a1.Low>(w64 (60-(a1.Rows.length:Int)))))
def JV (a1:qF):Option qF:= (CD a1).bind λv2=> bif v2 !=0 then some (qF.mk 0 []) else some a1
def qBJ (a1:qF) (a2:Int) (x4:Bool):Option Span:= bif x4 then some (Span.mk 0 0) else bif inb (w64 (a2-a1.Low)) a1.Rows.length then some (a1.Rows.getD (w64 (a2-a1.Low)).toNat daa) else none
def qDr (a1:qF) (a2:Int):Option Span:= bif decide (a2<a1.Low) then qBJ a1 a2 true else qBJ a1 a2 (decide (a2≥(w64 (a1.Low+(a1.Rows.length:Int)))))
def RL (v3:qF) (v5:qF):Nat->(List Span)->Int->Option (List Span)
 |0,_,_=>none
 |n+1,l7,x8=> bif decide (x8<60) then (qDr v3 x8).bind λv10=> (qDr v5 x8).bind λv12=> bif room (l7.length+1) 16 then (RL v3 v5 n) (l7++[(Span.mk (imax v10.A v12.A) (imin v10.B v12.B))]) (w64 (x8+1)) else none else some l7
def FV (a1:qF) (a2:qF):Option qF:= (JV a1).bind λv3=> (JV a2).bind λv5=> (RL v3 v5 FUEL [] (-60)).bind λo16=> (RM (-60) o16).bind λv18=> some (qF.mk v18.Low v18.Rows)
def IB (x8:Int) (R:(List qB)->Int->Int->(List Span)->Option (((List qB)×Int)⊕(List qB))) (v13:qF×Bool) (l23:List qB):Option (((List qB)×Int)⊕(List qB)):= R l23 (w64 (x8+1)) v13.1.Low v13.1.Rows
def jT (a1:Scan) (a2:Int) (a3:Int):Nat->(List qB)->Int->Int->(List Span)->Option (((List qB)×Int)⊕(List qB))
 |0,_,_,_,_=>none
 |n+1,l7,x8,x9,l10=> bif decide (x8<(a1.Rings.length:Int)) then bif inb x8 a1.Rings.length then (qAt (a1.Rings.getD x8.toNat daa) a2 a3).bind λv13=> bif !v13.2 then some (Sum.inl ([],30)) else bif decide (x8>0) then (FV (qF.mk x9 l10) (qF.mk v13.1.Low v13.1.Rows)).bind λv17=> bif (v17.Rows.length:Int)==0 then some (Sum.inl ([],30)) else bif inb (w64 (x8-1)) a1.Rings.length then bif room (l7.length+1) 40 then IB x8 (jT a1 a2 a3 n) v13 (l7++[(qB.mk (w64 (((a1.Rings.getD x8.toNat daa).Z)-((a1.Rings.getD (w64 (x8-1)).toNat daa).Z))) v17)]) else none else none else IB x8 (jT a1 a2 a3 n) v13 l7 else none else some (Sum.inr l7)
def qCY (a1:Scan) (a2:Int) (a3:Int):Option ((List qB)×Int):= (CR a1).bind λv4=> bif v4 !=0 then some ([],v4) else (jT a1 a2 a3 FUEL [] 0 0 []).bind λu27=>Sum.elim (λv28=>some v28) (λo25=> some (o25,0)) u27
def qCV (a1:Scan) (a2:Int) (a3:Int) (a4:Int):Option ((List qB)×(List qC)×Int):= (qBs a1 a2).bind λv5=> (qCY v5 a3 a4).bind λv7=> bif v7.2 !=0 then some ([],[],v7.2) else some (v7.1,v5.Defects,0)
def qAk (x5:Bool):Option Bool:= some x5
def QE (a1:Int) (a2:Int) (a3:Int):Option Bool:= bif decide (a1≥a2) then qAk (decide (a1<=a3)) else qAk false
def TV (x24:Bool):Option Int:= bif x24 then some 9 else some 0
def XO (a2:Rates) (x14:Bool):Option Int:= bif x14 then some 9 else (QE a2.Chip 0 1000).bind λv16=> bif !v16 then TV true else (QE a2.Dust 0 1000).bind λv19=> bif !v19 then TV true else (QE a2.Fine 0 1000000).bind λv22=> TV (!v22)
def TK (a1:Saw) (a2:Rates):Option Int:= (QE a1.Kerf 0 20).bind λv3=> bif !v3 then XO a2 true else (QE a1.Trim 0 20).bind λv6=> bif !v6 then XO a2 true else (QE a1.Pitch 1 2000).bind λv9=> bif !v9 then XO a2 true else (QE a1.Step 1 20000).bind λv12=> XO a2 (!v12)
def NM (x13:Int) (R:Int->Option (Bool⊕Unit)) (x20:Bool):Option (Bool⊕Unit):= bif x20 then some (Sum.inl false) else R (w64 (x13+1))
def ZE (a1:jY) (x7:Int):Nat->Int->Option (Bool⊕Unit)
 |0,_=>none
 |n+1,x13=> bif inb x7 a1.Scan.Rings.length then bif decide (x13<((((a1.Scan.Rings.getD x7.toNat daa).Read).length:Nat):Int)) then bif inb x13 (((a1.Scan.Rings.getD x7.toNat daa).Read).length) then bif decide ((((((a1.Scan.Rings.getD x7.toNat daa).Read).getD x13.toNat daa).P).X)<(-110)) then NM x13 (ZE a1 x7 n) true else bif decide ((((((a1.Scan.Rings.getD x7.toNat daa).Read).getD x13.toNat daa).P).X)>110) then NM x13 (ZE a1 x7 n) true else bif decide ((((((a1.Scan.Rings.getD x7.toNat daa).Read).getD x13.toNat daa).P).Y)<(-110)) then NM x13 (ZE a1 x7 n) true else NM x13 (ZE a1 x7 n) (decide ((((((a1.Scan.Rings.getD x7.toNat daa).Read).getD x13.toNat daa).P).Y)>110)) else none else some (Sum.inr ())
 else none
def IG (a1:jY) (x7:Int) (R:Int->Option (Bool⊕Unit)) (x11:Bool):Option (Bool⊕Unit):= bif x11 then some (Sum.inl false) else (ZE a1 x7 FUEL 0).bind λu24=>Sum.elim (λv25=>some (Sum.inl v25)) (λo22=> R (w64 (x7+1))) u24
def KK (a1:jY):Nat->Int->Option (Bool⊕Unit)
 |0,_=>none
 |n+1,x7=> bif decide (x7<(a1.Scan.Rings.length:Int)) then bif inb x7 a1.Scan.Rings.length then bif decide (((((a1.Scan.Rings.getD x7.toNat daa).Read).length:Nat):Int)>40) then IG a1 x7 (KK a1 n) true else IG a1 x7 (KK a1 n) (decide (((a1.Scan.Rings.getD x7.toNat daa).Z)>3000)) else none else some (Sum.inr ())
def OP (x30:Int) (R:Int->Option (Bool⊕Unit)) (x35:Bool):Option (Bool⊕Unit):= bif x35 then some (Sum.inl false) else R (w64 (x30+1))
def JG (a2:yP):Nat->Int->Option (Bool⊕Unit)
 |0,_=>none
 |n+1,x30=> bif decide (x30<(a2.Products.length:Int)) then bif inb x30 a2.Products.length then bif decide (((((a2.Products.getD x30.toNat daa).Lengths).length:Nat):Int)>2) then OP x30 (JG a2 n) true else bif decide (((((a2.Products.getD x30.toNat daa).Prices).length:Nat):Int)>2) then OP x30 (JG a2 n) true else OP x30 (JG a2 n) (decide (((((a2.Products.getD x30.toNat daa).Name).size:Nat):Int)>100)) else none else some (Sum.inr ())
def OL (x45:Bool):Option Bool:= some x45
def NC (a1:jY) (a2:yP) (x5:Bool):Option Bool:= bif x5 then some false else (KK a1 FUEL 0).bind λu28=>Sum.elim (λv29=>some v29) (λo26=> (JG a2 FUEL 0).bind λu39=>Sum.elim (λv40=>some v40) (λo37=> (TK a2.Saw a2.Rates).bind λv41=> bif v41 !=0 then OL true else bif decide (a2.Saw.Pitch≥20) then OL (decide (a2.Saw.Step≥500)) else OL false) u39) u28
def qC0 (a1:jY) (a2:yP):Option Bool:= bif decide ((a1.Scan.Rings.length:Int)>4) then NC a1 a2 true else bif decide ((a1.Scan.Defects.length:Int)>4) then NC a1 a2 true else NC a1 a2 (decide ((a2.Products.length:Int)>2))
def OC (a1:List qB) (x4:Int) (x5:Int) (R:Int->Int->Option (Int⊕Unit)) (x13:Bool):Option (Int⊕Unit):= bif x13 then some (Sum.inl 9) else R (w64 (x4+((a1.getD x5.toNat daa).Len))) (w64 (x5+1))
def JK (a1:List qB):Nat->Int->Int->Option (Int⊕Unit)
 |0,_,_=>none
 |n+1,x4,x5=> bif decide (x5<(a1.length:Int)) then bif inb x5 a1.length then (CD ((a1.getD x5.toNat daa).Sec)).bind λv8=> bif v8 !=0 then some (Sum.inl v8) else bif (((((a1.getD x5.toNat daa).Sec).Rows).length:Nat):Int)==0 then some (Sum.inl 18) else bif decide (((a1.getD x5.toNat daa).Len)<1) then OC a1 x4 x5 (JK a1 n) true else OC a1 x4 x5 (JK a1 n) (decide (((a1.getD x5.toNat daa).Len)>(w64 (20000-x4)))) else none else some (Sum.inr ())
def WA (a1:List qB):Option Int:= bif (a1.length:Int)==0 then some 3 else bif decide ((a1.length:Int)>24) then some 4 else (JK a1 FUEL 0 0).bind λu17=>Sum.elim (λv18=>some v18) (λo15=> some 0) u17
def HN (x6:Int) (R:Int->Span->Option Span) (x13:Span):Option Span:= R (w64 (x6+1)) x13
def YI (v2:qF):Nat->Int->Span->Option Span
 |0,_,_=>none
 |n+1,x6,x7=> bif decide (x6<(v2.Rows.length:Int)) then bif inb x6 v2.Rows.length then (ZX (v2.Rows.getD x6.toNat daa)).bind λv10=> bif !v10 then HN x6 (YI v2 n) (Span.mk (imin x7.A ((v2.Rows.getD x6.toNat daa).A)) (imax x7.B ((v2.Rows.getD x6.toNat daa).B))) else HN x6 (YI v2 n) x7 else none else some x7
def EB (a1:qF):Option Rect:= (JV a1).bind λv2=> bif (v2.Rows.length:Int)==0 then some (Rect.mk (Span.mk 0 0) (Span.mk 0 0)) else bif inb 0 v2.Rows.length then (YI v2 FUEL 0 (v2.Rows.getD (0:Int).toNat daa)).bind λo15=> some (Rect.mk o15 (Span.mk (w64 (10*v2.Low)) (w64 (10*(w64 (v2.Low+(v2.Rows.length:Int))))))) else none
def RE (a1:List qB):Nat->Int->Rect->Option Rect
 |0,_,_=>none
 |n+1,x8,x9=> bif decide (x8<(a1.length:Int)) then bif inb x8 a1.length then (EB ((a1.getD x8.toNat daa).Sec)).bind λv12=> (RE a1 n) (w64 (x8+1)) (Rect.mk (Span.mk (imin x9.X.A v12.X.A) (imax x9.X.B v12.X.B)) (Span.mk (imin x9.Y.A v12.Y.A) (imax x9.Y.B v12.Y.B))) else none else some x9
def qEZ (a1:List qB):Option Rect:= (WA a1).bind λv2=> bif v2 !=0 then some (Rect.mk (Span.mk 0 0) (Span.mk 0 0)) else bif inb 0 a1.length then (EB ((a1.getD (0:Int).toNat daa).Sec)).bind λv6=> (RE a1 FUEL 1 v6).bind λo15=> some o15 else none
def qCP (a1:List qB):Option Rect:= (qEZ a1).bind λv2=> some v2
def OE (x3:Bool):Option Bool:= some x3
def qC4 (a1:Int):Option Bool:= bif decide (a1≥48) then OE (decide (a1<=57)) else OE false
def PO (x5:Int) (R:Int->Option (Bool⊕Unit)) (x16:Bool):Option (Bool⊕Unit):= bif x16 then some (Sum.inl false) else R (w64 (x5+1))
def HY (a1:ByteArray) (x5:Int) (R:Int->Option (Bool⊕Unit)) (x9:Bool):Option (Bool⊕Unit):= bif !x9 then bif x5==0 then PO x5 R true else bif inb x5 a1.size then bif (strAt a1 x5.toNat) !=95 then (qC4 (strAt a1 x5.toNat)).bind λv14=> PO x5 R (!v14) else PO x5 R false else none else PO x5 R false
def ZR (a1:ByteArray):Nat->Int->Option (Bool⊕Unit)
 |0,_=>none
 |n+1,x5=> bif decide (x5<(a1.size:Int)) then bif inb x5 a1.size then bif decide ((strAt a1 x5.toNat)≥97) then HY a1 x5 (ZR a1 n) (decide ((strAt a1 x5.toNat)<=122)) else HY a1 x5 (ZR a1 n) false else none else some (Sum.inr ())
def HB (a1:ByteArray) (x3:Bool):Option Bool:= bif x3 then some false else (ZR a1 FUEL 0).bind λu20=>Sum.elim (λv21=>some v21) (λo18=> some true) u20
def qBK (a1:ByteArray):Option Bool:= bif decide ((a1.size:Int)<1) then HB a1 true else HB a1 (decide ((a1.size:Int)>16))
def UD (x5:Bool):Option Bool:= some x5
def qGy (a1:Product):Option Bool:= bif decide (a1.Thick≥1) then bif decide (a1.Thick<=600) then bif decide (a1.Width≥1) then UD (decide (a1.Width<=600)) else UD false else UD false else UD false
def NX (a1:Product) (x6:Bool):Option (Int×Int):= bif x6 then some (0,0) else some (w64 (Int.tdiv (w64 ((w64 (a1.Thick*(w64 (1000+a1.Allow))))+999)) 1000),w64 (Int.tdiv (w64 ((w64 (a1.Width*(w64 (1000+a1.Allow))))+999)) 1000))
def BE (a1:Product):Option (Int×Int):= (qGy a1).bind λv2=> bif !v2 then NX a1 true else bif decide (a1.Allow<0) then NX a1 true else NX a1 (decide (a1.Allow>200))
def PJ (x5:Int) (R:Int->Option (Int⊕Unit)) (x14:Bool):Option (Int⊕Unit):= bif x14 then some (Sum.inl 11) else R (w64 (x5+1))
def PG (a1:Product) (x5:Int) (R:Int->Option (Int⊕Unit)) (x9:Bool):Option (Int⊕Unit):= bif x9 then some (Sum.inl 9) else bif decide (x5>0) then bif inb x5 a1.Lengths.length then bif inb (w64 (x5-1)) a1.Lengths.length then PJ x5 R (decide ((a1.Lengths.getD x5.toNat daa)<=(a1.Lengths.getD (w64 (x5-1)).toNat daa))) else none else none else PJ x5 R false
def wV (a1:Product):Nat->Int->Option (Int⊕Unit)
 |0,_=>none
 |n+1,x5=> bif decide (x5<(a1.Lengths.length:Int)) then bif inb x5 a1.Lengths.length then bif decide ((a1.Lengths.getD x5.toNat daa)<100) then PG a1 x5 (wV a1 n) true else PG a1 x5 (wV a1 n) (decide ((a1.Lengths.getD x5.toNat daa)>20000)) else none else some (Sum.inr ())
def PH (x20:Int) (R:Int->Option (Int⊕Unit)) (x24:Bool):Option (Int⊕Unit):= bif x24 then some (Sum.inl 9) else R (w64 (x20+1))
def wX (a1:Product):Nat->Int->Option (Int⊕Unit)
 |0,_=>none
 |n+1,x20=> bif decide (x20<(a1.Prices.length:Int)) then bif inb x20 a1.Prices.length then bif decide ((a1.Prices.getD x20.toNat daa)<0) then PH x20 (wX a1 n) true else PH x20 (wX a1 n) (decide ((a1.Prices.getD x20.toNat daa)>1000000)) else none else some (Sum.inr ())
def DI (a1:Product):Option Int:= bif (a1.Lengths.length:Int)==0 then some 3 else bif decide ((a1.Lengths.length:Int)>8) then some 4 else bif (a1.Prices.length:Int) !=(a1.Lengths.length:Int) then some 19 else (wV a1 FUEL 0).bind λu18=>Sum.elim (λv19=>some v19) (λo16=> (wX a1 FUEL 0).bind λu28=>Sum.elim (λv29=>some v29) (λo26=> some 0) u28) u18
def KM (a1:List Product) (x3:Int):Nat->Int->Option (Int⊕Unit)
 |0,_=>none
 |n+1,x9=> bif decide (x9<x3) then bif inb x9 a1.length then bif strEq ((a1.getD x9.toNat daa).Name) ((a1.getD x3.toNat daa).Name) then some (Sum.inl 7) else (KM a1 x3 n) (w64 (x9+1)) else none else some (Sum.inr ())
def yX (a1:List Product) (x3:Int) (R:Int->Option (Int⊕Unit)) (x24:Bool):Option (Int⊕Unit):= bif x24 then some (Sum.inl 9) else (BE (a1.getD x3.toNat daa)).bind λv26=> bif decide (v26.2>600) then some (Sum.inl 9) else (DI (a1.getD x3.toNat daa)).bind λv29=> bif v29 !=0 then some (Sum.inl v29) else R (w64 (x3+1))
def wN (a1:List Product):Nat->Int->Option (Int⊕Unit)
 |0,_=>none
 |n+1,x3=> bif decide (x3<(a1.length:Int)) then bif inb x3 a1.length then (qBK ((a1.getD x3.toNat daa).Name)).bind λv6=> bif !v6 then some (Sum.inl 6) else (KM a1 x3 FUEL 0).bind λu15=>Sum.elim (λv16=>some (Sum.inl v16)) (λo13=> bif decide (((a1.getD x3.toNat daa).Thick)<5) then yX a1 x3 (wN a1 n) true else bif decide (((a1.getD x3.toNat daa).Thick)>300) then yX a1 x3 (wN a1 n) true else bif decide (((a1.getD x3.toNat daa).Width)<((a1.getD x3.toNat daa).Thick)) then yX a1 x3 (wN a1 n) true else bif decide (((a1.getD x3.toNat daa).Width)>600) then yX a1 x3 (wN a1 n) true else bif decide (((a1.getD x3.toNat daa).Allow)<0) then yX a1 x3 (wN a1 n) true else bif decide (((a1.getD x3.toNat daa).Allow)>200) then
 yX a1 x3 (wN a1 n) true else bif decide (((a1.getD x3.toNat daa).Wane)<0) then yX a1 x3 (wN a1 n) true else yX a1 x3 (wN a1 n) (decide (((a1.getD x3.toNat daa).Wane)>1000))) u15 else none else some (Sum.inr ())
def TE (a1:List Product):Option Int:= bif decide ((a1.length:Int)>16) then some 4 else (wN a1 FUEL 0).bind λu34=>Sum.elim (λv35=>some v35) (λo32=> some 0) u34
def UX (x5:Bool):Option Bool:= some x5
def qDF (a1:Span):Option Bool:= bif decide (a1.A<(-600)) then UX true else bif decide (a1.A>600) then UX true else bif decide (a1.B<(-600)) then UX true else UX (decide (a1.B>600))
def qCk (x27:Bool):Option Int:= bif x27 then some 9 else some 0
def qCp (a4:Rect) (x20:Bool):Option Int:= bif x20 then some 19 else (qDF a4.X).bind λv22=> bif v22 then qCk true else (qDF a4.Y).bind λv25=> qCk v25
def qGA (a1:List qB) (a2:List qC) (a3:List Product) (a4:Rect) (a5:Saw) (a6:Rates):Option Int:= (WA a1).bind λv7=> bif v7 !=0 then some v7 else (TL a2).bind λv10=> bif v10 !=0 then some v10 else (TE a3).bind λv13=> bif v13 !=0 then some v13 else (TK a5 a6).bind λv16=> bif v16 !=0 then some v16 else bif decide (a4.X.A≥a4.X.B) then qCp a4 true else qCp a4 (decide (a4.Y.A≥a4.Y.B))
def EG (a1:List Int) (x5:Int) (R:(List Int)->Bool->Int->Option ((List Int)×Bool)) (l15:List Int) (x16:Bool):Option ((List Int)×Bool):= bif inb x5 a1.length then bif room (l15.length+1) 8 then R (l15++[(a1.getD x5.toNat daa)]) x16 (w64 (x5+1)) else none else none
def qBA (a1:List Int) (x5:Int) (R:(List Int)->Bool->Int->Option ((List Int)×Bool)) (l14:List Int):Option ((List Int)×Bool):= EG a1 x5 R l14 true
def EH (a1:List Int) (a2:Int) (l3:List Int) (x4:Bool) (x5:Int) (R:(List Int)->Bool->Int->Option ((List Int)×Bool)) (x9:Bool):Option ((List Int)×Bool):= bif x9 then bif inb x5 a1.length then bif decide ((a1.getD x5.toNat daa)>a2) then bif room (l3.length+1) 8 then qBA a1 x5 R (l3++[a2]) else none else qBA a1 x5 R l3 else none else EG a1 x5 R l3 x4
def UN (a1:List Int) (a2:Int):Nat->(List Int)->Bool->Int->Option ((List Int)×Bool)
 |0,_,_,_=>none
 |n+1,l3,x4,x5=> bif decide (x5<(a1.length:Int)) then bif !x4 then bif inb x5 a1.length then EH a1 a2 l3 x4 x5 (UN a1 a2 n) (decide ((a1.getD x5.toNat daa)≥a2)) else none else EH a1 a2 l3 x4 x5 (UN a1 a2 n) false else some (l3,x4)
def qBq (l25:List Int):Option (List Int):= some l25
def qDs (a1:List Int) (a2:Int):Option (List Int):= (UN a1 a2 FUEL [] false 0).bind λo21=> bif !o21.2 then bif room (o21.1.length+1) 8 then qBq (o21.1++[a2]) else none else qBq o21.1
def XS (a1:List Product):Nat->(List Int)->Int->Option (List Int)
 |0,_,_=>none
 |n+1,l5,x6=> bif decide (x6<(a1.length:Int)) then bif inb x6 a1.length then (BE (a1.getD x6.toNat daa)).bind λv9=> (qDs l5 v9.1).bind λv11=> (qDs v11 v9.2).bind λv13=> (XS a1 n) v13 (w64 (x6+1)) else none else some l5
def qAj (a1:List Product):Option (List Int):= (TE a1).bind λv2=> bif v2 !=0 then some ([]:List Int) else (XS a1 FUEL [] 0).bind λo16=> some o16
def MU (a1:Rect) (a2:Int) (a3:Int):Option Rect:= some (Rect.mk a1.X (Span.mk (w64 (a1.Y.A+a2)) (w64 (a1.Y.A+a3))))
def PE (x5:Bool):Option Bool:= some x5
def SS (a1:Span):Option Bool:= bif decide (a1.A<(-600)) then PE true else bif decide (a1.A>600) then PE true else bif decide (a1.B<(-600)) then PE true else PE (decide (a1.B>600))
def IC (x27:Bool):Option Int:= bif x27 then some 9 else some 0
def AQ (a4:Rect) (x20:Bool):Option Int:= bif x20 then some 19 else (SS a4.X).bind λv22=> bif v22 then IC true else (SS a4.Y).bind λv25=> IC v25
def qC9 (a1:List qB) (a2:List qC) (a3:List Product) (a4:Rect) (a5:Saw) (a6:Rates):Option Int:= (WA a1).bind λv7=> bif v7 !=0 then some v7 else (TL a2).bind λv10=> bif v10 !=0 then some v10 else (TE a3).bind λv13=> bif v13 !=0 then some v13 else (TK a5 a6).bind λv16=> bif v16 !=0 then some v16 else bif decide (a4.X.A≥a4.X.B) then AQ a4 true else AQ a4 (decide (a4.Y.A≥a4.Y.B))
def NO (x8:Int) (R:(List Int)->(List Int)->Int->Option ((List Int)×(List Int))) (l19:List Int) (l20:List Int):Option ((List Int)×(List Int)):= R l19 l20 (w64 (x8+1))
def QZ (a1:List Product) (a2:Int):Nat->(List Int)->(List Int)->Int->Option ((List Int)×(List Int))
 |0,_,_,_=>none
 |n+1,l6,l7,x8=> bif decide (x8<(a1.length:Int)) then bif inb x8 a1.length then (BE (a1.getD x8.toNat daa)).bind λv11=> bif v11.1==a2 then bif room (l6.length+1) 8 then bif room (l7.length+1) 8 then NO x8 (QZ a1 a2 n) (l6++[v11.2]) (l7++[x8]) else none else none else bif v11.2==a2 then bif room (l6.length+1) 8 then bif room (l7.length+1) 8 then NO x8 (QZ a1 a2 n) (l6++[v11.1]) (l7++[x8]) else none else none else NO x8 (QZ a1 a2 n) l6 l7 else none else some (l6,l7)
def CZ (a1:List Product) (a2:Int):Option ((List Int)×(List Int)):= (TE a1).bind λv3=> bif v3 !=0 then some ([],[]) else (QZ a1 a2 FUEL [] [] 0).bind λo23=> some (o23.1,o23.2)
def AW (a1:Rect) (a2:Int) (a3:Int):Option Rect:= some (Rect.mk (Span.mk (w64 (a1.X.A+a2)) (w64 (a1.X.A+a3))) a1.Y)
def NB (x12:Bool):Option Bool:= some x12
def qGt (a1:List qB) (a2:List qC) (a3:Product):Option Bool:= (WA a1).bind λv4=> bif v4==0 then (TL a2).bind λv7=> bif v7==0 then (TE [a3]).bind λv10=> NB (v10==0) else NB false else NB false
def JW (a1:List qB):Nat->Int->Int->Option Int
 |0,_,_=>none
 |n+1,x5,x6=> bif decide (x6<(a1.length:Int)) then bif inb x6 a1.length then (JW a1 n) (w64 (x5+((a1.getD x6.toNat daa).Len))) (w64 (x6+1)) else none else some x5
def KU (a1:List qB):Option Int:= (WA a1).bind λv2=> bif v2 !=0 then some 0 else (JW a1 FUEL 0 0).bind λo10=> some o10
def DS (x4:Bool):Option Bool:= some x4
def EY (a1:Span):Option Bool:= bif decide (a1.A≥(-600)) then bif decide (a1.A<a1.B) then DS (decide (a1.B<=600)) else DS false else DS false
def YK (x13:Bool):Option Bool:= some x13
def qBI (a1:List qB) (a2:Box):Option Bool:= (EY a2.X).bind λv3=> bif v3 then (EY a2.Y).bind λv6=> bif v6 then bif decide (a2.Z.A≥0) then bif decide (a2.Z.A<a2.Z.B) then (KU a1).bind λv11=> YK (decide (a2.Z.B<=v11)) else YK false else YK false else YK false else YK false
def XW (a1:Product) (a2:Int):Nat->Int->Option ((Int×Bool)⊕Unit)
 |0,_=>none
 |n+1,x3=> bif decide (x3<(a1.Lengths.length:Int)) then bif inb x3 a1.Lengths.length then bif (a1.Lengths.getD x3.toNat daa)==a2 then bif decide (x3≥(a1.Prices.length:Int)) then some (Sum.inl (0,false)) else bif inb x3 a1.Prices.length then some (Sum.inl ((a1.Prices.getD x3.toNat daa),true)) else none else (XW a1 a2 n) (w64 (x3+1)) else none else some (Sum.inr ())
def CG (a1:Product) (a2:Int):Option (Int×Bool):= (XW a1 a2 FUEL 0).bind λu11=>Sum.elim (λv12=>some v12) (λo9=> some (0,false)) u11
def AR (a1:Span) (a2:Span):Option Span:= bif decide ((imax a1.A a2.A)≥(imin a1.B a2.B)) then some (Span.mk 0 0) else some (Span.mk (imax a1.A a2.A) (imin a1.B a2.B))
def qHA (a1:Box) (a2:Box):Option Box:= (AR a1.X a2.X).bind λv3=> (AR a1.Y a2.Y).bind λv5=> (AR a1.Z a2.Z).bind λv7=> some (Box.mk v3 v5 v7)
def ME (a1:qC) (a2:Box):Option Bool:= (qHA a1.Box a2).bind λv3=> (CW v3).bind λv5=> some (!v5)
def qBR (a1:Span) (a2:Int) (a3:Int):Option Int:= bif decide ((imax a1.A a2)≥(imin a1.B (w64 (a2+a3)))) then some 0 else some (w64 ((imin a1.B (w64 (a2+a3)))-(imax a1.A a2)))
def qBp (a1:List qB) (x7:Int) (x8:Int) (R:(List qB)->Int->Int->Option (List qB)) (l15:List qB):Option (List qB):= R l15 (w64 (x7+((a1.getD x8.toNat daa).Len))) (w64 (x8+1))
def UG (a1:List qB) (a2:Span):Nat->(List qB)->Int->Int->Option (List qB)
 |0,_,_,_=>none
 |n+1,l6,x7,x8=> bif decide (x8<(a1.length:Int)) then bif inb x8 a1.length then (qBR (Span.mk (imax a2.A 0) (imin a2.B 20000)) x7 ((a1.getD x8.toNat daa).Len)).bind λv11=> bif decide (v11>0) then bif room (l6.length+1) 40 then qBp a1 x7 x8 (UG a1 a2 n) (l6++[(qB.mk v11 ((a1.getD x8.toNat daa).Sec))]) else none else qBp a1 x7 x8 (UG a1 a2 n) l6 else none else some l6
def qGg (a1:List qB) (a2:Span):Option (List qB):= (WA a1).bind λv3=> bif v3 !=0 then some ([]:List qB) else (UG a1 a2 FUEL [] 0 0).bind λo17=> some o17
def HV (a1:Span) (a2:Span) (x6:Bool):Option Int:= bif x6 then some 0 else some (w64 ((imin a1.B a2.B)-(imax a1.A a2.A)))
def AK (a1:Span) (a2:Span):Option Int:= (ZX a2).bind λv3=> bif v3 then HV a1 a2 true else HV a1 a2 (decide ((imax a1.A a2.A)≥(imin a1.B a2.B)))
def qAn (a1:Int):Option Span:= some (Span.mk (w64 (10*a1)) (w64 (10*(w64 (a1+1)))))
def PT (a2:Rect) (v3:qF):Nat->Int->Int->Option Int
 |0,_,_=>none
 |n+1,x5,x6=> bif decide (x6<(v3.Rows.length:Int)) then bif inb x6 v3.Rows.length then (AK (v3.Rows.getD x6.toNat daa) a2.X).bind λv9=> (qAn (w64 (v3.Low+x6))).bind λv11=> (AK v11 a2.Y).bind λv13=> (PT a2 v3 n) (w64 (x5+(w64 (v9*v13)))) (w64 (x6+1)) else none else some x5
def SQ (a1:qF) (a2:Rect):Option Int:= (JV a1).bind λv3=> (PT a2 v3 FUEL 0 0).bind λo16=> some o16
def GK (a2:Box) (v3:(List qB)):Nat->Int->Int->Option Int
 |0,_,_=>none
 |n+1,x5,x6=> bif decide (x6<(v3.length:Int)) then bif inb x6 v3.length then (SQ ((v3.getD x6.toNat daa).Sec) (Rect.mk a2.X a2.Y)).bind λv9=> bif nz (w64 ((w64 (a2.X.B-a2.X.A))*(w64 (a2.Y.B-a2.Y.A)))) then (GK a2 v3 n) (imax x5 (w64 (Int.tdiv (w64 ((w64 ((w64 (1000*(w64 ((w64 ((w64 (a2.X.B-a2.X.A))*(w64 (a2.Y.B-a2.Y.A))))-v9))))+(w64 ((w64 (a2.X.B-a2.X.A))*(w64 (a2.Y.B-a2.Y.A))))))-1)) (w64 ((w64 (a2.X.B-a2.X.A))*(w64 (a2.Y.B-a2.Y.A))))))) (w64 (x6+1)) else none else none else some x5
def qEx (a1:List qB) (a2:Box):Option Int:= (qGg a1 a2.Z).bind λv3=> (GK a2 v3 FUEL 0 0).bind λo13=> some o13
def HZ (x19:Int) (R:Int->Option (Bool⊕Unit)) (x25:Bool):Option (Bool⊕Unit):= bif x25 then some (Sum.inl false) else R (w64 (x19+1))
def ZV (a2:List qC) (a4:Box):Nat->Int->Option (Bool⊕Unit)
 |0,_=>none
 |n+1,x19=> bif decide (x19<(a2.length:Int)) then bif inb x19 a2.length then bif ((a2.getD x19.toNat daa).Kind)==3 then (ME (a2.getD x19.toNat daa) a4).bind λv23=> HZ x19 (ZV a2 a4 n) v23 else HZ x19 (ZV a2 a4 n) false else none else some (Sum.inr ())
def jC (a1:List qB) (a2:List qC) (a3:Product) (a4:Box) (x17:Bool):Option Bool:= bif x17 then some false else (ZV a2 a4 FUEL 0).bind λu29=>Sum.elim (λv30=>some v30) (λo27=> (qEx a1 a4).bind λv31=> some (decide (v31<=a3.Wane))) u29
def qB0 (a1:List qB) (a2:List qC) (a3:Product) (a4:Box):Option Bool:= (qBI a1 a4).bind λv5=> bif !v5 then some false else (BE a3).bind λv8=> (CG a3 (w64 (a4.Z.B-a4.Z.A))).bind λv10=> bif !v10.2 then jC a1 a2 a3 a4 true else bif (w64 (a4.X.B-a4.X.A))==v8.1 then bif !((w64 (a4.Y.B-a4.Y.A))==v8.2) then bif (w64 (a4.X.B-a4.X.A))==v8.2 then jC a1 a2 a3 a4 (!((w64 (a4.Y.B-a4.Y.A))==v8.1)) else jC a1 a2 a3 a4 true else jC a1 a2 a3 a4 false else bif (w64 (a4.X.B-a4.X.A))==v8.2 then jC a1 a2 a3 a4 (!((w64 (a4.Y.B-a4.Y.A))==v8.1)) else jC a1 a2 a3 a4 true
def OS (x8:Int) (R:Int->Int->Option Int) (x14:Int):Option Int:= R x14 (w64 (x8+1))
def KE (a1:List qC) (a3:Box) (a4:Int):Nat->Int->Int->Option Int
 |0,_,_=>none
 |n+1,x7,x8=> bif decide (x8<(a1.length:Int)) then bif inb x8 a1.length then (ME (a1.getD x8.toNat daa) a3).bind λv11=> bif v11 then OS x8 (KE a1 a3 a4 n) (w64 (x7-a4)) else OS x8 (KE a1 a3 a4 n) x7 else none else some x7
def qCJ (a1:List qC) (a2:Product) (a3:Box) (a4:Int):Option Int:= (CG a2 (w64 (a3.Z.B-a3.Z.A))).bind λv5=> (KE a1 a3 a4 FUEL v5.1 0).bind λo16=> some (imax 0 o16)
def RF (x26:Int) (R:Int->Bool->Int->Span->Option (Int×Bool×Span)) (x38:Int) (x39:Bool) (x40:Span):Option (Int×Bool×Span):= R x38 x39 (w64 (x26+1)) x40
def qAi (a3:Product) (x19:Int) (x24:Int) (x25:Bool) (x26:Int) (x27:Span) (R:Int->Bool->Int->Span->Option (Int×Bool×Span)) (v33:Int) (x36:Bool):Option (Int×Bool×Span):= bif x36 then RF x26 R v33 true (Span.mk x19 (w64 (x19+(a3.Lengths.getD x26.toNat daa)))) else RF x26 R x24 x25 x27
def WM (a1:List qB) (a2:List qC) (a3:Product) (a4:Rect) (a6:Int) (x19:Int):Nat->Int->Bool->Int->Span->Option (Int×Bool×Span)
 |0,_,_,_,_=>none
 |n+1,x24,x25,x26,x27=> bif decide (x26<(a3.Lengths.length:Int)) then bif inb x26 a3.Lengths.length then (qB0 a1 a2 a3 (Box.mk a4.X a4.Y (Span.mk x19 (w64 (x19+(a3.Lengths.getD x26.toNat daa)))))).bind λv30=> bif !v30 then RF x26 (WM a1 a2 a3 a4 a6 x19 n) x24 x25 x27 else (qCJ a2 a3 (Box.mk a4.X a4.Y (Span.mk x19 (w64 (x19+(a3.Lengths.getD x26.toNat daa))))) a6).bind λv33=> bif !x25 then qAi a3 x19 x24 x25 x26 x27 (WM a1 a2 a3 a4 a6 x19 n) v33 true else qAi a3 x19 x24 x25 x26 x27 (WM a1 a2 a3 a4 a6 x19 n) v33 (decide (v33>x24)) else none else some (x24,x25,x27)
def VT (a1:List qB) (a2:List qC) (a3:Product) (a4:Rect) (a5:Int) (a6:Int):Nat->Int->Bool->Int->Span->Option (Int×Bool×Span)
 |0,_,_,_,_=>none
 |n+1,x17,x18,x19,x20=> (KU a1).bind λv21=> bif decide (x19<v21) then (WM a1 a2 a3 a4 a6 x19 FUEL x17 x18 0 x20).bind λo44=> (VT a1 a2 a3 a4 a5 a6 n) o44.1 o44.2.1 (w64 (x19+a5)) o44.2.2 else some (x17,x18,x20)
def ML (a1:List qB) (a2:List qC) (a3:Product) (a4:Rect) (a5:Int) (a6:Int) (x15:Bool):Option (Span×Int×Bool):= bif x15 then some ((Span.mk 0 0),0,false) else (VT a1 a2 a3 a4 a5 a6 FUEL 0 false 0 (Span.mk 0 0)).bind λo49=> some (o49.2.2,o49.1,o49.2.1)
def qEe (a1:List qB) (a2:List qC) (a3:Product) (a4:Rect) (a5:Int) (a6:Int):Option (Span×Int×Bool):= (QE a5 1 20000).bind λv7=> bif !v7 then ML a1 a2 a3 a4 a5 a6 true else (QE a6 0 1000000).bind λv10=> bif !v10 then ML a1 a2 a3 a4 a5 a6 true else (qGt a1 a2 a3).bind λv13=> ML a1 a2 a3 a4 a5 a6 (!v13)
def HC (a1:List qB) (x11:Int) (x12:Int) (R:Int->Int->Int->Option Int) (x20:Int):Option Int:= R x20 (w64 (x11+((a1.getD x12.toNat daa).Len))) (w64 (x12+1))
def YF (a1:List qB) (a2:Box):Nat->Int->Int->Int->Option Int
 |0,_,_,_=>none
 |n+1,x10,x11,x12=> bif decide (x12<(a1.length:Int)) then bif inb x12 a1.length then (qBR (Span.mk (imax a2.Z.A 0) (imin a2.Z.B 20000)) x11 ((a1.getD x12.toNat daa).Len)).bind λv15=> bif decide (v15>0) then (SQ ((a1.getD x12.toNat daa).Sec) (Rect.mk a2.X a2.Y)).bind λv18=> HC a1 x11 x12 (YF a1 a2 n) (w64 (x10+(w64 (v15*v18)))) else HC a1 x11 x12 (YF a1 a2 n) x10 else none else some x10
def YQ (a1:List qB) (a2:Box) (x8:Bool):Option Int:= bif x8 then some 0 else (YF a1 a2 FUEL 0 0 0).bind λo22=> some o22
def SO (a1:List qB) (a2:Box):Option Int:= (WA a1).bind λv3=> bif v3 !=0 then YQ a1 a2 true else bif decide (a2.X.A≥a2.X.B) then YQ a1 a2 true else bif decide (a2.Y.A≥a2.Y.B) then YQ a1 a2 true else YQ a1 a2 (decide (a2.Z.A≥a2.Z.B))
def BJ (a1:List qB) (a2:Rect) (a3:Span):Option Int:= (SO a1 (Box.mk a2.X a2.Y a3)).bind λv4=> some v4
def ET (a1:List qB) (a2:Rect):Option Int:= (KU a1).bind λv3=> (BJ a1 a2 (Span.mk 0 v3)).bind λv5=> some v5
def qEi (a1:List qB) (a2:List qC) (a3:Product) (a4:Rect) (a5:Saw) (a6:Rates):Option Int:= (qEe a1 a2 a3 a4 a5.Step a6.Fine).bind λv7=> bif !v7.2.2 then some (-1) else (BJ a1 a4 (Span.mk (imax 0 (w64 (v7.1.A-a5.Trim))) v7.1.A)).bind λv10=> (KU a1).bind λv12=> (BJ a1 a4 (Span.mk v7.1.B (imin (w64 (v7.1.B+a5.Trim)) v12))).bind λv14=> (ET a1 a4).bind λv16=> (BJ a1 a4 v7.1).bind λv18=> some (w64 ((w64 ((w64 (1000000*v7.2.1))+(w64 (a6.Dust*(w64 (v10+v14))))))+(w64 (a6.Chip*(w64 ((w64 (v16-v18))-(w64 (v10+v14))))))))
def qAI (l15:List Int) (x16:Int) (R:(List Int)->Int->Option (List Int)) (x27:Int):Option (List Int):= bif room (l15.length+1) 8 then R (l15++[x27]) (w64 (x16+1)) else none
def XD (a1:List qB) (a2:List qC) (a3:List Product) (a4:Rect) (a5:Saw) (a6:Rates) (v10:(List Int)×(List Int)) (x12:Int):Nat->(List Int)->Int->Option (List Int)
 |0,_,_=>none
 |n+1,l15,x16=> bif inb x12 v10.1.length then bif decide ((w64 (x16+(v10.1.getD x12.toNat daa)))<=(w64 (a4.X.B-a4.X.A))) then bif nz a5.Pitch then bif (Int.tmod x16 a5.Pitch)==0 then bif inb x12 v10.2.length then bif inb (v10.2.getD x12.toNat daa) a3.length then (AW a4 x16 (w64 (x16+(v10.1.getD x12.toNat daa)))).bind λv23=> (qEi a1 a2 (a3.getD (v10.2.getD x12.toNat daa).toNat daa) v23 a5 a6).bind λv25=> qAI l15 x16 (XD a1 a2 a3 a4 a5 a6 v10 x12 n) v25 else none else none else qAI l15 x16 (XD a1 a2 a3 a4 a5 a6 v10 x12 n) (-1) else none else some l15 else none
def RU (a1:List qB) (a2:List qC) (a3:List Product) (a4:Rect) (a5:Saw) (a6:Rates) (v10:(List Int)×(List Int)):Nat->Int->(List (List Int))->Option (List (List Int))
 |0,_,_=>none
 |n+1,x12,l13=> bif decide (x12<(v10.1.length:Int)) then (XD a1 a2 a3 a4 a5 a6 v10 x12 FUEL [] 0).bind λo30=> bif room (l13.length+1) 24 then (RU a1 a2 a3 a4 a5 a6 v10 n) (w64 (x12+1)) (l13++[o30]) else none else some l13
def RX (a1:List qB) (a4:Rect) (a6:Rates):Nat->Int->(List Int)->(List Int)->Option ((List Int)×(List Int))
 |0,_,_,_=>none
 |n+1,x36,l37,l38=> bif decide (x36<(w64 (a4.X.B-a4.X.A))) then (AW a4 x36 (w64 (x36+1))).bind λv40=> (ET a1 v40).bind λv42=> bif room (l37.length+1) 8 then bif room (l38.length+1) 8 then (RX a1 a4 a6 n) (w64 (x36+1)) (l37++[w64 (a6.Chip*v42)]) (l38++[w64 (a6.Dust*v42)]) else none else none else some (l37,l38)
def qD5 (a1:List qB) (a2:List qC) (a3:List Product) (a4:Rect) (a5:Saw) (a6:Rates):Option (Line×Int):= (qC9 a1 a2 a3 a4 a5 a6).bind λv7=> bif v7 !=0 then some ((Line.mk 0 0 0 [] [] [] []),v7) else (CZ a3 (w64 (a4.Y.B-a4.Y.A))).bind λv10=> (RU a1 a2 a3 a4 a5 a6 v10 FUEL 0 []).bind λo34=> (RX a1 a4 a6 FUEL 0 [] []).bind λo48=> some ((Line.mk (w64 (a4.X.B-a4.X.A)) a5.Kerf 1 v10.1 o34 o48.1 o48.2),0)
def OM (x2:Int) (R:Int->Option (Bool⊕Unit)) (x6:Bool):Option (Bool⊕Unit):= bif x6 then some (Sum.inl false) else R (w64 (x2+1))
def XQ (a1:List Int):Nat->Int->Option (Bool⊕Unit)
 |0,_=>none
 |n+1,x2=> bif decide (x2<(a1.length:Int)) then bif inb x2 a1.length then bif decide ((a1.getD x2.toNat daa)<(-1125899906842624)) then OM x2 (XQ a1 n) true else OM x2 (XQ a1 n) (decide ((a1.getD x2.toNat daa)>1125899906842624)) else none else some (Sum.inr ())
def MW (a1:List Int):Option Bool:= (XQ a1 FUEL 0).bind λu10=>Sum.elim (λv11=>some v11) (λo8=> some true) u10
def II (x10:Int) (R:Int->Option (Int⊕Unit)) (x14:Bool):Option (Int⊕Unit):= bif x14 then some (Sum.inl 9) else R (w64 (x10+1))
def KH (a1:Line):Nat->Int->Option (Int⊕Unit)
 |0,_=>none
 |n+1,x10=> bif decide (x10<(a1.Sizes.length:Int)) then bif inb x10 a1.Sizes.length then bif decide ((a1.Sizes.getD x10.toNat daa)<1) then II x10 (KH a1 n) true else II x10 (KH a1 n) (decide ((a1.Sizes.getD x10.toNat daa)>2000)) else none else some (Sum.inr ())
def TX (a1:Line):Nat->Int->Option (Int⊕Unit)
 |0,_=>none
 |n+1,x24=> bif decide (x24<(a1.Gain.length:Int)) then bif inb x24 a1.Gain.length then bif inb x24 a1.Sizes.length then bif ((a1.Gain.getD x24.toNat daa).length:Int) !=(imax 0 (w64 ((w64 (a1.Len-(a1.Sizes.getD x24.toNat daa)))+1))) then some (Sum.inl 19) else (TX a1 n) (w64 (x24+1)) else none else none else some (Sum.inr ())
def IU (x40:Int) (R:Bool->Int->Option Bool) (x46:Bool):Option Bool:= R x46 (w64 (x40+1))
def KD (a1:Line):Nat->Bool->Int->Option Bool
 |0,_,_=>none
 |n+1,x39,x40=> bif decide (x40<(a1.Gain.length:Int)) then bif x39 then bif inb x40 a1.Gain.length then (MW (a1.Gain.getD x40.toNat daa)).bind λv44=> IU x40 (KD a1 n) v44 else none else IU x40 (KD a1 n) false else some x39
def ON (a1:Line) (x38:Bool):Option Int:= (KD a1 FUEL x38 0).bind λo48=> bif !o48 then some 9 else some 0
def BY (a1:Line) (x22:Bool):Option Int:= bif x22 then some 19 else (TX a1 FUEL 0).bind λu31=>Sum.elim (λv32=>some v32) (λo29=> (MW a1.Chip).bind λv33=> bif v33 then (MW a1.Dust).bind λv36=> ON a1 v36 else ON a1 false) u31
def JP (a1:Line) (x7:Bool):Option Int:= bif x7 then some 9 else bif decide ((a1.Sizes.length:Int)>32) then some 4 else (KH a1 FUEL 0).bind λu18=>Sum.elim (λv19=>some v19) (λo16=> bif (a1.Gain.length:Int) !=(a1.Sizes.length:Int) then BY a1 true else bif (a1.Chip.length:Int) !=a1.Len then BY a1 true else BY a1 ((a1.Dust.length:Int) !=a1.Len)) u18
def qDb (a1:Line):Option Int:= bif decide (a1.Len<0) then JP a1 true else bif decide (a1.Len>2000) then JP a1 true else bif decide (a1.Kerf<0) then JP a1 true else bif decide (a1.Kerf>20) then JP a1 true else bif decide (a1.Pitch<1) then JP a1 true else JP a1 (decide (a1.Pitch>2000))
def PF (a1:List Int):Nat->(List Int)->Int->Option (List Int)
 |0,_,_=>none
 |n+1,l2,x3=> bif decide (x3<(a1.length:Int)) then bif inb x3 l2.length then bif inb x3 a1.length then bif room (l2.length+1) 8 then (PF a1 n) (l2++[w64 ((l2.getD x3.toNat daa)+(a1.getD x3.toNat daa))]) (w64 (x3+1)) else none else none else none else some l2
def EE (a1:List Int):Option (List Int):= (PF a1 FUEL [0] 0).bind λo9=> some o9
def qCO (a1:Line) (a2:zR) (a3:List Int) (a4:List zG):Option Int:= bif inb a2.Size a1.Gain.length then bif inb a2.At ((a1.Gain.getD a2.Size.toNat daa).length) then bif inb a2.Size a1.Sizes.length then bif (w64 (a2.At+(a1.Sizes.getD a2.Size.toNat daa)))==a1.Len then some ((a1.Gain.getD a2.Size.toNat daa).getD a2.At.toNat daa) else bif inb (imin (w64 ((w64 (a2.At+(a1.Sizes.getD a2.Size.toNat daa)))+a1.Kerf)) a1.Len) a3.length then bif inb (w64 (a2.At+(a1.Sizes.getD a2.Size.toNat daa))) a3.length then bif inb (imin (w64 ((w64 (a2.At+(a1.Sizes.getD a2.Size.toNat daa)))+a1.Kerf)) a1.Len) a4.length then some (w64 ((w64 ((w64 (((a1.Gain.getD a2.Size.toNat daa).getD a2.At.toNat daa)+(a3.getD (imin (w64 ((w64 (a2.At+(a1.Sizes.getD a2.Size.toNat daa)))+a1.Kerf)) a1.Len).toNat daa)))-(a3.getD (w64 (a2.At+(a1.Sizes.getD a2.Size.toNat daa))).toNat daa)))+((a4.getD (imin (w64 ((w64 (a2.At+(a1.Sizes.getD a2.Size.toNat daa)))+a1.Kerf)) a1.Len).toNat daa).value)))
 else none else none else none else none else none else none
def MA (x19:Int) (R:Int->zG->Option zG) (x31:zG):Option zG:= R (w64 (x19+1)) x31
def qAf (a1:Line) (a4:List Int) (a5:List zG) (x17:Int) (x18:Int) (x19:Int) (x20:zG) (R:Int->zG->Option zG) (x26:Bool):Option zG:= bif x26 then MA x19 R x20 else (qCO a1 (zR.mk x19 x17) a4 a5).bind λv28=> bif decide ((w64 (x18+v28))>x20.value) then MA x19 R (zG.mk (w64 (x18+v28)) (zR.mk x19 x17)) else MA x19 R x20
def XE (a1:Line) (a4:List Int) (a5:List zG) (x17:Int) (x18:Int):Nat->Int->zG->Option zG
 |0,_,_=>none
 |n+1,x19,x20=> bif decide (x19<(a1.Sizes.length:Int)) then bif inb x19 a1.Sizes.length then bif decide (x17>(w64 (a1.Len-(a1.Sizes.getD x19.toNat daa)))) then qAf a1 a4 a5 x17 x18 x19 x20 (XE a1 a4 a5 x17 x18 n) true else bif inb x19 a1.Gain.length then bif inb x17 ((a1.Gain.getD x19.toNat daa).length) then qAf a1 a4 a5 x17 x18 x19 x20 (XE a1 a4 a5 x17 x18 n) (decide (((a1.Gain.getD x19.toNat daa).getD x17.toNat daa)<0)) else none else none else none else some x20
def MT (a1:Line) (a4:List Int) (a5:List zG) (x8:Int) (x9:zG) (R:Int->zG->Option zG) (x17:Int) (x18:Int):Option zG:= (XE a1 a4 a5 x17 x18 FUEL 0 x9).bind λo33=> R (w64 (x8+a1.Pitch)) o33
def WL (a1:Line) (a2:Int) (a3:List Int) (a4:List Int) (a5:List zG):Nat->Int->zG->Option zG
 |0,_,_=>none
 |n+1,x8,x9=> bif decide ((w64 (a2+x8))<=a1.Len) then bif decide (x8>0) then bif decide ((w64 ((w64 (a2+x8))+a1.Kerf))>a1.Len) then some x9 else bif inb (w64 (a2+x8)) a3.length then bif inb a2 a3.length then bif inb (w64 ((w64 (a2+x8))+a1.Kerf)) a4.length then bif inb (w64 (a2+x8)) a4.length then MT a1 a4 a5 x8 x9 (WL a1 a2 a3 a4 a5 n) (w64 ((w64 (a2+x8))+a1.Kerf)) (w64 ((w64 ((w64 ((a3.getD (w64 (a2+x8)).toNat daa)-(a3.getD a2.toNat daa)))+(a4.getD (w64 ((w64 (a2+x8))+a1.Kerf)).toNat daa)))-(a4.getD (w64 (a2+x8)).toNat daa))) else none else none else none else none else MT a1 a4 a5 x8 x9 (WL a1 a2 a3 a4 a5 n) a2 0 else some x9
def qEf (a1:Line) (a2:Int) (a3:List Int) (a4:List Int) (a5:List zG):Option zG:= bif inb a1.Len a3.length then bif inb a2 a3.length then (WL a1 a2 a3 a4 a5 FUEL 0 (zG.mk (w64 ((a3.getD a1.Len.toNat daa)-(a3.getD a2.toNat daa))) (zR.mk (-1) 0))).bind λo36=> some o36 else none else none
def GA (a1:Line) (v5:(List Int)) (v7:(List Int)):Nat->(List zG)->Int->Option (List zG)
 |0,_,_=>none
 |n+1,l10,x11=> bif decide (x11≥0) then (qEf a1 x11 v5 v7 l10).bind λv13=> bif inb x11 l10.length then (GA a1 v5 v7 n) (l10.set x11.toNat v13) (w64 (x11-1)) else none else some l10
def MO (a1:Line) (o17:(List zG)):Nat->(List zR)->Int->Option (List zR)
 |0,_,_=>none
 |n+1,l19,x20=> bif inb x20 o17.length then bif decide ((((o17.getD x20.toNat daa).piece).Size)≥0) then bif room (l19.length+1) 16 then bif inb (((o17.getD x20.toNat daa).piece).Size) a1.Sizes.length then bif (w64 ((((o17.getD x20.toNat daa).piece).At)+(a1.Sizes.getD (((o17.getD x20.toNat daa).piece).Size).toNat daa)))==a1.Len then some (l19++[(o17.getD x20.toNat daa).piece]) else (MO a1 o17 n) (l19++[(o17.getD x20.toNat daa).piece]) (imin (w64 ((w64 ((((o17.getD x20.toNat daa).piece).At)+(a1.Sizes.getD (((o17.getD x20.toNat daa).piece).Size).toNat daa)))+a1.Kerf)) a1.Len) else none else none else some l19 else none
def qBM (a1:Line):Option ((List zR)×Int×Int):= (qDb a1).bind λv2=> bif v2 !=0 then some ([],0,v2) else (EE a1.Chip).bind λv5=> (EE a1.Dust).bind λv7=> bif mkOk (w64 (a1.Len+1)) 24 then (GA a1 v5 v7 FUEL (List.replicate ((w64 (a1.Len+1)).toNat) (zG.mk 0 (zR.mk 0 0))) a1.Len).bind λo17=> (MO a1 o17 FUEL [] 0).bind λo27=> bif inb 0 o17.length then some (o27,(o17.getD ((0:Int).toNat) daa).value,0) else none else none
def JX (x7:Bool):Option Bool:= some x7
def qBl (a1:Rect):Option Bool:= bif decide (a1.X.A<a1.X.B) then bif decide (a1.Y.A<a1.Y.B) then bif decide (a1.X.A≥(-600)) then bif decide (a1.X.B<=600) then bif decide (a1.Y.A≥(-600)) then JX (decide (a1.Y.B<=600)) else JX false else JX false else JX false else JX false else JX false
def qBg (a3:Int) (a4:List Span) (a5:List (List Node)) (x18:Span) (x22:Int) (R:(List Node)->Int->Bool->Int->Option (((List Node)×Int)⊕((List Node)×Bool))) (l36:List Node):Option (((List Node)×Int)⊕((List Node)×Bool)):= bif inb x22 a5.length then bif room (l36.length+(a5.getD x22.toNat daa).length) 16 then R (l36++(a5.getD x22.toNat daa)) (imin (w64 (((a4.getD x22.toNat daa).B)+a3)) x18.B) (((a4.getD x22.toNat daa).B)==x18.B) (w64 (x22+1)) else none else none
def EK (a2:Int) (a3:Int) (a4:List Span) (a5:List (List Node)) (x18:Span) (x22:Int) (R:(List Node)->Int->Bool->Int->Option (((List Node)×Int)⊕((List Node)×Bool))) (l33:List Node):Option (((List Node)×Int)⊕((List Node)×Bool)):= bif !(((a4.getD x22.toNat daa).B)==x18.B) then bif room (l33.length+1) 16 then qBg a3 a4 a5 x18 x22 R (l33++[(Node.mk a2 ((a4.getD x22.toNat daa).B))]) else none else qBg a3 a4 a5 x18 x22 R l33
def EU (a2:Int) (a3:Int) (a4:List Span) (a5:List (List Node)) (x18:Span) (l19:List Node) (x20:Int) (x22:Int) (R:(List Node)->Int->Bool->Int->Option (((List Node)×Int)⊕((List Node)×Bool))) (x28:Bool):Option (((List Node)×Int)⊕((List Node)×Bool)):= bif x28 then some (Sum.inl ([],11)) else bif decide (((a4.getD x22.toNat daa).B)>x18.B) then some (Sum.inl ([],20)) else bif ((a4.getD x22.toNat daa).A) !=x20 then bif room (l19.length+2) 16 then EK a2 a3 a4 a5 x18 x22 R (l19++[(Node.mk a2 (w64 (((a4.getD x22.toNat daa).A)-a3))),(Node.mk 0 0)]) else none else EK a2 a3 a4 a5 x18 x22 R l19
def WC (a2:Int) (a3:Int) (a4:List Span) (a5:List (List Node)) (x18:Span):Nat->(List Node)->Int->Bool->Int->Option (((List Node)×Int)⊕((List Node)×Bool))
 |0,_,_,_,_=>none
 |n+1,l19,x20,x21,x22=> bif decide (x22<(a4.length:Int)) then bif inb x22 a4.length then bif decide (((a4.getD x22.toNat daa).A)≥((a4.getD x22.toNat daa).B)) then some (Sum.inl ([],19)) else bif x21 then EU a2 a3 a4 a5 x18 l19 x20 x22 (WC a2 a3 a4 a5 x18 n) true else bif ((a4.getD x22.toNat daa).A) !=x20 then EU a2 a3 a4 a5 x18 l19 x20 x22 (WC a2 a3 a4 a5 x18 n) (decide (((a4.getD x22.toNat daa).A)<(w64 ((w64 (x20+a3))+1)))) else EU a2 a3 a4 a5 x18 l19 x20 x22 (WC a2 a3 a4 a5 x18 n) false else none else some (Sum.inr (l19,x21))
def AA (l47:List Node):Option ((List Node)×Int):= bif decide ((l47.length:Int)>127) then some ([],4) else some (l47,0)
def AJ (a2:Int) (a3:Int) (a4:List Span) (a5:List (List Node)) (x18:Span):Option ((List Node)×Int):= (WC a2 a3 a4 a5 x18 FUEL [] x18.A false 0).bind λu43=>Sum.elim (λv44=>some v44) (λo41=> bif !o41.2 then bif room (o41.1.length+1) 16 then AA (o41.1++[(Node.mk 0 0)]) else none else AA o41.1) u43
def qBN (a1:Rect) (a2:Int) (a3:Int) (a4:List Span) (a5:List (List Node)) (x15:Bool):Option ((List Node)×Int):= bif x15 then some ([],9) else bif a2==3 then AJ a2 a3 a4 a5 a1.Y else AJ a2 a3 a4 a5 a1.X
def qBy (a1:Rect) (a2:Int) (a3:Int) (a4:List Span) (a5:List (List Node)) (x12:Bool):Option ((List Node)×Int):= bif x12 then some ([],19) else bif decide (a3<0) then qBN a1 a2 a3 a4 a5 true else qBN a1 a2 a3 a4 a5 (decide (a3>20))
def qBT (a1:Rect) (a2:Int) (a3:Int) (a4:List Span) (a5:List (List Node)) (x7:Bool):Option ((List Node)×Int):= bif x7 then some ([],10) else (qBl a1).bind λv9=> bif !v9 then qBy a1 a2 a3 a4 a5 true else qBy a1 a2 a3 a4 a5 ((a4.length:Int) !=(a5.length:Int))
def FL (a1:Rect) (a2:Int) (a3:Int) (a4:List Span) (a5:List (List Node)):Option ((List Node)×Int):= bif a2 !=2 then qBT a1 a2 a3 a4 a5 (a2 !=3) else qBT a1 a2 a3 a4 a5 false
def GJ (a4:Rect) (v7:Line×Int) (v10:(List Int)×(List Int)) (v12:(List zR)×Int×Int):Nat->(List Span)->(List (List Node))->Int->Option ((List Span)×(List (List Node)))
 |0,_,_,_=>none
 |n+1,l15,l16,x17=> bif decide (x17<(v12.1.length:Int)) then bif inb x17 v12.1.length then bif inb ((v12.1.getD x17.toNat daa).Size) v7.1.Sizes.length then (AW a4 ((v12.1.getD x17.toNat daa).At) (w64 (((v12.1.getD x17.toNat daa).At)+(v7.1.Sizes.getD (((v12.1.getD x17.toNat daa).Size).toNat) daa)))).bind λv21=> bif room (l15.length+1) 16 then bif inb ((v12.1.getD x17.toNat daa).Size) v10.2.length then bif room (l16.length+1) 24 then (GJ a4 v7 v10 v12 n) (l15++[v21.X]) (l16++([([(Node.mk 1 (v10.2.getD (((v12.1.getD x17.toNat daa).Size).toNat) daa))]:List Node)]:List (List Node))) (w64 (x17+1)) else none else none else none else none else none else some (l15,l16)
def qBw (a1:List qB) (a2:List qC) (a3:List Product) (a4:Rect) (a5:Saw) (a6:Rates):Option ((List Node)×Int×Int):= (qD5 a1 a2 a3 a4 a5 a6).bind λv7=> bif v7.2 !=0 then some ([],0,v7.2) else (CZ a3 (w64 (a4.Y.B-a4.Y.A))).bind λv10=> (qBM (Line.mk v7.1.Len v7.1.Kerf v7.1.Pitch v7.1.Sizes v7.1.Gain v7.1.Chip v7.1.Dust)).bind λv12=> bif v12.2.2 !=0 then some ([],0,v12.2.2) else (GJ a4 v7 v10 v12 FUEL [] [] 0).bind λo28=> (FL a4 2 a5.Kerf o28.1 o28.2).bind λv30=> bif v30.2 !=0 then some ([],0,v30.2) else some (v30.1,v12.2.1,0)
def PI (a1:List Node):Nat->Int->Option (Bool⊕Unit)
 |0,_=>none
 |n+1,x2=> bif decide (x2<(a1.length:Int)) then bif inb x2 a1.length then bif ((a1.getD x2.toNat daa).Kind)==1 then some (Sum.inl true) else (PI a1 n) (w64 (x2+1)) else none else some (Sum.inr ())
def qBC (a1:List Node):Option Bool:= (PI a1 FUEL 0).bind λu8=>Sum.elim (λv9=>some v9) (λo6=> some false) u8
def EP (a1:List qB) (a2:Rect):Option Int:= (KU a1).bind λv3=> (SO a1 (Box.mk a2.X a2.Y (Span.mk 0 v3))).bind λv5=> some v5
def MB (l12:List Int) (x13:Int) (R:(List Int)->Int->Option (List Int)) (x27:Int):Option (List Int):= bif room (l12.length+1) 8 then R (l12++[x27]) (w64 (x13+1)) else none
def qAA (l12:List Int) (x13:Int) (R:(List Int)->Int->Option (List Int)) (v20:(List Node)×Int×Int) (x25:Bool):Option (List Int):= bif x25 then MB l12 x13 R v20.2.1 else MB l12 x13 R (-1)
def WN (a1:List qB) (a2:List qC) (a3:List Product) (a4:Rect) (a5:Saw) (a6:Rates) (v7:(List Int)) (x9:Int):Nat->(List Int)->Int->Option (List Int)
 |0,_,_=>none
 |n+1,l12,x13=> bif inb x9 v7.length then bif decide ((w64 (x13+(v7.getD x9.toNat daa)))<=(w64 (a4.Y.B-a4.Y.A))) then bif nz a5.Pitch then bif (Int.tmod x13 a5.Pitch)==0 then (MU a4 x13 (w64 (x13+(v7.getD x9.toNat daa)))).bind λv18=> (qBw a1 a2 a3 v18 a5 a6).bind λv20=> bif v20.2.2==0 then (qBC v20.1).bind λv23=> qAA l12 x13 (WN a1 a2 a3 a4 a5 a6 v7 x9 n) v20 v23 else qAA l12 x13 (WN a1 a2 a3 a4 a5 a6 v7 x9 n) v20 false else MB l12 x13 (WN a1 a2 a3 a4 a5 a6 v7 x9 n) (-1) else none else some l12 else none
def GI (a1:List qB) (a2:List qC) (a3:List Product) (a4:Rect) (a5:Saw) (a6:Rates) (v7:(List Int)):Nat->Int->(List (List Int))->Option (List (List Int))
 |0,_,_=>none
 |n+1,x9,l10=> bif decide (x9<(v7.length:Int)) then (WN a1 a2 a3 a4 a5 a6 v7 x9 FUEL [] 0).bind λo30=> bif room (l10.length+1) 24 then (GI a1 a2 a3 a4 a5 a6 v7 n) (w64 (x9+1)) (l10++[o30]) else none else some l10
def VM (a1:List qB) (a4:Rect) (a6:Rates):Nat->Int->(List Int)->(List Int)->Option ((List Int)×(List Int))
 |0,_,_,_=>none
 |n+1,x36,l37,l38=> bif decide (x36<(w64 (a4.Y.B-a4.Y.A))) then (MU a4 x36 (w64 (x36+1))).bind λv40=> (EP a1 v40).bind λv42=> bif room (l37.length+1) 8 then bif room (l38.length+1) 8 then (VM a1 a4 a6 n) (w64 (x36+1)) (l37++[w64 (a6.Chip*v42)]) (l38++[w64 (a6.Dust*v42)]) else none else none else some (l37,l38)
def qEc (a1:List qB) (a2:List qC) (a3:List Product) (a4:Rect) (a5:Saw) (a6:Rates):Option Line:= (qAj a3).bind λv7=> (GI a1 a2 a3 a4 a5 a6 v7 FUEL 0 []).bind λo34=> (VM a1 a4 a6 FUEL 0 [] []).bind λo48=> some (Line.mk (w64 (a4.Y.B-a4.Y.A)) a5.Kerf 1 v7 o34 o48.1 o48.2)
def GH (v2:qF):Nat->Int->Int->Option Int
 |0,_,_=>none
 |n+1,x4,x5=> bif decide (x5<(v2.Rows.length:Int)) then bif inb x5 v2.Rows.length then (GH v2 n) (w64 (x4+(w64 (10*(w64 (((v2.Rows.getD x5.toNat daa).B)-((v2.Rows.getD x5.toNat daa).A))))))) (w64 (x5+1)) else none else some x4
def qDV (a1:qF):Option Int:= (JV a1).bind λv2=> (GH v2 FUEL 0 0).bind λo9=> some o9
def PQ (a1:List qB):Nat->Int->Int->Option Int
 |0,_,_=>none
 |n+1,x5,x6=> bif decide (x6<(a1.length:Int)) then bif inb x6 a1.length then (qDV ((a1.getD x6.toNat daa).Sec)).bind λv9=> (PQ a1 n) (w64 (x5+(w64 (((a1.getD x6.toNat daa).Len)*v9)))) (w64 (x6+1)) else none else some x5
def qBv (a1:List qB):Option Int:= (WA a1).bind λv2=> bif v2 !=0 then some 0 else (PQ a1 FUEL 0 0).bind λo12=> some o12
def VK (a1:List qB) (a2:List qC) (a3:List Product) (a4:Rect) (a5:Saw) (a6:Rates) (v10:Line) (v12:(List zR)×Int×Int):Nat->(List Span)->(List (List Node))->Int->Option ((List Span)×(List (List Node)))
 |0,_,_,_=>none
 |n+1,l14,l15,x16=> bif decide (x16<(v12.1.length:Int)) then bif inb x16 v12.1.length then bif inb ((v12.1.getD x16.toNat daa).Size) v10.Sizes.length then (MU a4 ((v12.1.getD x16.toNat daa).At) (w64 (((v12.1.getD x16.toNat daa).At)+(v10.Sizes.getD (((v12.1.getD x16.toNat daa).Size).toNat) daa)))).bind λv20=> (qBw a1 a2 a3 v20 a5 a6).bind λv22=> bif room (l14.length+1) 16 then bif room (l15.length+1) 24 then (VK a1 a2 a3 a4 a5 a6 v10 v12 n) (l14++[v20.Y]) (l15++[v22.1]) (w64 (x16+1)) else none else none else none else none else some (l14,l15)
def qEm (a1:List qB) (a2:List qC) (a3:List Product) (a4:Rect) (a5:Saw) (a6:Rates):Option (Pattern×Int×Int):= (qGA a1 a2 a3 a4 a5 a6).bind λv7=> bif v7 !=0 then some ((Pattern.mk (Rect.mk (Span.mk 0 0) (Span.mk 0 0)) []),0,v7) else (qEc a1 a2 a3 a4 a5 a6).bind λv10=> (qBM (Line.mk v10.Len v10.Kerf v10.Pitch v10.Sizes v10.Gain v10.Chip v10.Dust)).bind λv12=> (VK a1 a2 a3 a4 a5 a6 v10 v12 FUEL [] [] 0).bind λo28=> (FL a4 3 a5.Kerf o28.1 o28.2).bind λv30=> bif v30.2 !=0 then some ((Pattern.mk (Rect.mk (Span.mk 0 0) (Span.mk 0 0)) []),0,13) else (qBv a1).bind λv33=> (EP a1 a4).bind λv35=> some ((Pattern.mk a4 v30.1),w64 (v12.2.1+(w64 (a6.Chip*(w64 (v33-v35))))),0)
def SP (a1:Scan) (a2:List Product) (a3:Saw) (a4:Rates) (a5:Int) (a6:Int):Nat->(List zN)->Int->Option (((List zN)×Int)⊕(List zN))
 |0,_,_=>none
 |n+1,l7,x8=> bif decide (x8<4) then (qCV a1 x8 a5 a6).bind λv10=> bif v10.2.2 !=0 then some (Sum.inl ([],v10.2.2)) else (qCP v10.1).bind λv13=> (qEm v10.1 v10.2.1 a2 v13 a3 a4).bind λv15=> bif v15.2.2 !=0 then some (Sum.inl ([],v15.2.2)) else bif room (l7.length+1) 72 then (SP a1 a2 a3 a4 a5 a6 n) (l7++[(zN.mk x8 v15.1 v15.2.1)]) (w64 (x8+1)) else none else some (Sum.inr l7)
def qFV (a1:Scan) (a2:List Product) (a3:Saw) (a4:Rates) (a5:Int) (a6:Int):Option ((List zN)×Int):= (SP a1 a2 a3 a4 a5 a6 FUEL [] 0).bind λu22=>Sum.elim (λv23=>some v23) (λo20=> some (o20,0)) u22
def VU (a1:Pattern) (a2:Pattern):Nat->Int->Option (Bool⊕Unit)
 |0,_=>none
 |n+1,x6=> bif decide (x6<(a1.Nodes.length:Int)) then bif inb x6 a1.Nodes.length then bif inb x6 a2.Nodes.length then bif !((((a1.Nodes.getD x6.toNat daa).Kind)==((a2.Nodes.getD x6.toNat daa).Kind))&&((((a1.Nodes.getD x6.toNat daa).At)==((a2.Nodes.getD x6.toNat daa).At))&&true)) then some (Sum.inl false) else (VU a1 a2 n) (w64 (x6+1)) else none else none else some (Sum.inr ())
def qAB (a1:Pattern) (a2:Pattern) (x4:Bool):Option Bool:= bif x4 then some false else (VU a1 a2 FUEL 0).bind λu13=>Sum.elim (λv14=>some v14) (λo11=> some true) u13
def qD1 (a1:Pattern) (a2:Pattern):Option Bool:= bif !(((a1.Frame.X.A==a2.Frame.X.A)&&((a1.Frame.X.B==a2.Frame.X.B)&&true))&&(((a1.Frame.Y.A==a2.Frame.Y.A)&&((a1.Frame.Y.B==a2.Frame.Y.B)&&true))&&true)) then qAB a1 a2 true else qAB a1 a2 ((a1.Nodes.length:Int) !=(a2.Nodes.length:Int))
def MG (x7:Bool):Option Bool:= some x7
def qHU (a1:zN) (a2:zN):Option Bool:= bif a1.Quarters==a2.Quarters then bif a1.Value==a2.Value then (qD1 a1.Pattern a2.Pattern).bind λv5=> MG v5 else MG false else MG false
def qEd (a1:qQ) (a2:zN):Option Bool:= (qHU (zN.mk a1.Quarters a1.Pattern a1.Value) a2).bind λv3=> some v3
def ZI (v8:(List qQ)×Int) (v10:(List zN)×Int):Nat->Int->Option (Bool⊕Unit)
 |0,_=>none
 |n+1,x15=> bif decide (x15<(v8.1.length:Int)) then bif inb x15 v8.1.length then bif inb x15 v10.1.length then (qEd (v8.1.getD x15.toNat daa) (v10.1.getD x15.toNat daa)).bind λv19=> bif !v19 then some (Sum.inl false) else (ZI v8 v10 n) (w64 (x15+1)) else none else none else some (Sum.inr ())
def BM (v8:(List qQ)×Int) (v10:(List zN)×Int) (x13:Bool):Option Bool:= bif x13 then some false else (ZI v8 v10 FUEL 0).bind λu24=>Sum.elim (λv25=>some v25) (λo22=> (MZ).bind λv26=> some v26) u24
def AZ (a1:jY) (a2:yP):Option Bool:= (qC0 a1 a2).bind λv3=> bif !v3 then (MZ).bind λv6=> some v6 else (TM a1.Scan a2.Products a2.Saw a2.Rates a1.Limit a1.Most).bind λv8=> (qFV a1.Scan a2.Products a2.Saw a2.Rates a1.Limit a1.Most).bind λv10=> bif v8.2 !=v10.2 then BM v8 v10 true else BM v8 v10 ((v8.1.length:Int) !=(v10.1.length:Int))
end Saw
end Go.SL

import Derived.Test.YthbamnkheinbgaaGreatDoorYa6
set_option linter.unusedVariables false
set_option linter.unusedSimpArgs false
namespace Go.SL
namespace Saw
structure qA where
 X:Int
 Y:Int
instance : Inhabited qA:=⟨⟨0,0⟩⟩
def qC (r:qA):List C:=[ci r.X,ci r.Y]
structure qB where
 P:qA
 Ok:Bool
instance : Inhabited qB:=⟨⟨dd,false⟩⟩
def qF (r:qB):List C:=[ci r.P.X,ci r.P.Y,cb r.Ok]
structure Ring where
 Z:Int
 Read:List qB
instance : Inhabited Ring:=⟨⟨0,[]⟩⟩
def qK (r:Ring):List C:=[ci r.Z,tl qF dd r.Read]
structure Span where
 A:Int
 B:Int
instance : Inhabited Span:=⟨⟨0,0⟩⟩
def qL (r:Span):List C:=[ci r.A,ci r.B]
structure Box where
 X:Span
 Y:Span
 Z:Span
instance : Inhabited Box:=⟨⟨dd,dd,dd⟩⟩
def qCg (r:Box):List C:=[ci r.X.A,ci r.X.B,ci r.Y.A,ci r.Y.B,ci r.Z.A,ci r.Z.B]
structure qD where
 Kind:Int
 Box:Box
instance : Inhabited qD:=⟨⟨0,dd⟩⟩
def qG (r:qD):List C:=[ci r.Kind,ci r.Box.X.A,ci r.Box.X.B,ci r.Box.Y.A,ci r.Box.Y.B,ci r.Box.Z.A,ci r.Box.Z.B]
structure Scan where
 Rings:List Ring
 Defects:List qD
instance : Inhabited Scan:=⟨⟨[],[]⟩⟩
def qU (r:Scan):List C:=[tl qK dd r.Rings,tl qG dd r.Defects]
structure qI where
 Low:Int
 Rows:List Span
instance : Inhabited qI:=⟨⟨0,[]⟩⟩
def qQ (r:qI):List C:=[ci r.Low,tl qL dd r.Rows]
structure Rect where
 X:Span
 Y:Span
instance : Inhabited Rect:=⟨⟨dd,dd⟩⟩
def ZQ (r:Rect):List C:=[ci r.X.A,ci r.X.B,ci r.Y.A,ci r.Y.B]
structure qV where
 Len:Int
 Sec:qI
instance : Inhabited qV:=⟨⟨0,dd⟩⟩
def qX (r:qV):List C:=[ci r.Len,ci r.Sec.Low,tl qL dd r.Sec.Rows]
structure qH where
 s:ByteArray
 at_:Int
 e:Int
instance : Inhabited qH:=⟨⟨⟨#[]⟩,0,0⟩⟩
def qN (r:qH):List C:=[cs r.s,ci r.at_,ci r.e]
structure qFT where
 S:ByteArray
 At:Int
 E:Int
instance : Inhabited qFT:=⟨⟨⟨#[]⟩,0,0⟩⟩
def ED :List Int:=[(-1),1]
def globs :List (Nat×C):=[(0,.aptr 2 1 (rf qO ED))]
def QM (a1:Scan):Nat->Int->Option (Bool⊕Unit)
 |0,_=>none
 |n+1,x5=> bif decide (x5<(a1.Rings.length:Int)) then bif inb x5 a1.Rings.length then bif decide (((((a1.Rings.getD x5.toNat dd).Read).length:Nat):Int)>60) then some (Sum.inl false) else (QM a1 n) (w64 (x5+1)) else none else some (Sum.inr ())
def VA (a1:Scan) (x3:Bool):Option Bool:= bif x3 then some false else (QM a1 FUEL 0).bind λu11=>Sum.elim (λv12=>some v12) (λo9=> some true) u11
def TF (a1:Scan):Option Bool:= bif decide ((a1.Rings.length:Int)>40) then VA a1 true else VA a1 (decide ((a1.Defects.length:Int)>100))
def YZ :Nat->Int->(List qB)->Option (List qB)
 |0,_,_=>none
 |n+1,x4,l5=> bif decide (x4<((8:Nat):Int)) then bif inb x4 8 then bif room (l5.length+1) 24 then (YZ n) (w64 (x4+1)) (l5++([(qB.mk (qA.mk (([(-50),0,50,50,50,0,(-50),(-50)]:List Int).getD x4.toNat dd) (([(-20),(-20),(-20),0,20,20,20,0]:List Int).getD x4.toNat dd)) true)]:List qB)) else none else none else some l5
def KK (x3:Bool):Option Bool:= some x3
def YO (a1:Int):Option Bool:= bif decide (a1≥(-600)) then KK (decide (a1<=600)) else KK false
def PS (x7:Int) (R:Int->Option (Int⊕Unit)) (x19:Bool):Option (Int⊕Unit):= bif x19 then some (Sum.inl 19) else R (w64 (x7+1))
def YH (a1:Ring) (x7:Int) (R:Int->Option (Int⊕Unit)) (x16:Bool):Option (Int⊕Unit):= bif x16 then some (Sum.inl 9) else bif !((a1.Read.getD x7.toNat dd).Ok) then PS x7 R (!(((((a1.Read.getD x7.toNat dd).P).X)==0)&&(((((a1.Read.getD x7.toNat dd).P).Y)==0)&&true))) else PS x7 R false
def wL (a1:Ring):Nat->Int->Option (Int⊕Unit)
 |0,_=>none
 |n+1,x7=> bif decide (x7<(a1.Read.length:Int)) then bif inb x7 a1.Read.length then bif (a1.Read.getD x7.toNat dd).Ok then (YO (((a1.Read.getD x7.toNat dd).P).X)).bind λv11=> bif !v11 then YH a1 x7 (wL a1 n) true else (YO (((a1.Read.getD x7.toNat dd).P).Y)).bind λv14=> YH a1 x7 (wL a1 n) (!v14) else YH a1 x7 (wL a1 n) false else none else some (Sum.inr ())
def PU (a1:Ring) (x5:Bool):Option Int:= bif x5 then some 9 else (wL a1 FUEL 0).bind λu23=>Sum.elim (λv24=>some v24) (λo21=> some 0) u23
def QA (a1:Ring):Option Int:= bif decide ((a1.Read.length:Int)<8) then some 3 else bif decide ((a1.Read.length:Int)>32) then some 4 else bif decide (a1.Z<0) then PU a1 true else PU a1 (decide (a1.Z>20000))
def QJ (a1:Span):Option Bool:= some (decide (a1.A≥a1.B))
def JH (x5:Bool):Option Bool:= some x5
def yS (a1:Span) (a2:Int) (a3:Int):Option Bool:= bif decide ((imin a1.A a1.B)≥a2) then JH (decide ((imax a1.A a1.B)<=a3)) else JH false
def ZS (x23:Bool):Option Int:= bif x23 then some 9 else some 0
def ZN (a1:qD) (x13:Bool):Option Int:= bif x13 then some 19 else (yS a1.Box.X (-600) 600).bind λv15=> bif !v15 then ZS true else (yS a1.Box.Y (-600) 600).bind λv18=> bif !v18 then ZS true else (yS a1.Box.Z 0 20000).bind λv21=> ZS (!v21)
def XD (a1:qD) (x3:Bool):Option Int:= bif x3 then some 10 else (QJ a1.Box.X).bind λv5=> bif v5 then ZN a1 true else (QJ a1.Box.Y).bind λv8=> bif v8 then ZN a1 true else (QJ a1.Box.Z).bind λv11=> ZN a1 v11
def XG (a1:qD):Option Int:= bif decide (a1.Kind<1) then XD a1 true else XD a1 (decide (a1.Kind>6))
def jO (a1:List qD):Nat->Int->Option (Int⊕Unit)
 |0,_=>none
 |n+1,x3=> bif decide (x3<(a1.length:Int)) then bif inb x3 a1.length then (XG (a1.getD x3.toNat dd)).bind λv6=> bif v6 !=0 then some (Sum.inl v6) else (jO a1 n) (w64 (x3+1)) else none else some (Sum.inr ())
def XT (a1:List qD):Option Int:= bif decide ((a1.length:Int)>64) then some 4 else (jO a1 FUEL 0).bind λu11=>Sum.elim (λv12=>some v12) (λo9=> some 0) u11
def yU (a1:Scan) (x4:Int) (R:Int->Option (Int⊕Unit)) (x16:Bool):Option (Int⊕Unit):= bif x16 then some (Sum.inl 11) else bif inb 0 a1.Rings.length then bif ((((a1.Rings.getD x4.toNat dd).Read).length:Nat):Int) !=((((a1.Rings.getD (0:Int).toNat dd).Read).length:Nat):Int) then some (Sum.inl 19) else R (w64 (x4+1)) else none
def zT (a1:Scan):Nat->Int->Option (Int⊕Unit)
 |0,_=>none
 |n+1,x4=> bif decide (x4<(a1.Rings.length:Int)) then bif inb x4 a1.Rings.length then (QA (a1.Rings.getD x4.toNat dd)).bind λv7=> bif v7 !=0 then some (Sum.inl v7) else bif x4==0 then bif ((a1.Rings.getD x4.toNat dd).Z) !=0 then yU a1 x4 (zT a1 n) true else bif decide (x4>0) then bif inb (w64 (x4-1)) a1.Rings.length then yU a1 x4 (zT a1 n) (decide (((a1.Rings.getD x4.toNat dd).Z)<=((a1.Rings.getD (w64 (x4-1)).toNat dd).Z))) else none else yU a1 x4 (zT a1 n) false else bif decide (x4>0) then bif inb (w64 (x4-1)) a1.Rings.length then yU a1 x4 (zT a1 n) (decide (((a1.Rings.getD x4.toNat dd).Z)<=((a1.Rings.getD (w64 (x4-1)).toNat dd).Z))) else none else yU a1 x4 (zT a1 n) false else none else some (Sum.inr ())
def ZK (a1:Scan):Nat->Int->Option (Int⊕Unit)
 |0,_=>none
 |n+1,x28=> bif decide (x28<(a1.Defects.length:Int)) then bif inb x28 a1.Defects.length then bif decide (((((a1.Defects.getD x28.toNat dd).Box).Z).B)>((a1.Rings.getD (w64 ((a1.Rings.length:Int)-1)).toNat dd).Z)) then some (Sum.inl 9) else (ZK a1 n) (w64 (x28+1)) else none else some (Sum.inr ())
def wP (a1:Scan):Option Int:= bif decide ((a1.Rings.length:Int)<2) then some 3 else bif decide ((a1.Rings.length:Int)>24) then some 4 else (zT a1 FUEL 0).bind λu22=>Sum.elim (λv23=>some v23) (λo20=> (XT a1.Defects).bind λv24=> bif v24 !=0 then some v24 else bif inb (w64 ((a1.Rings.length:Int)-1)) a1.Rings.length then (ZK a1 FUEL 0).bind λu34=>Sum.elim (λv35=>some v35) (λo32=> some 0) u34 else none) u22
def yO (a1:List qB):Option (List qB):= bif room a1.length 24 then some a1 else none
def KJ (a1:Ring):Option Ring:= (yO a1.Read).bind λv2=> some (Ring.mk a1.Z v2)
def JL (x3:Int) (R:(List Int)->Int->Option (List Int)) (l8:List Int):Option (List Int):= R l8 (w64 (x3+1))
def wG (a1:Ring):Nat->(List Int)->Int->Option (List Int)
 |0,_,_=>none
 |n+1,l2,x3=> bif decide (x3<(a1.Read.length:Int)) then bif inb x3 a1.Read.length then bif (a1.Read.getD x3.toNat dd).Ok then bif room (l2.length+1) 8 then JL x3 (wG a1 n) (l2++[x3]) else none else JL x3 (wG a1 n) l2 else none else some l2
def yR (a1:Ring):Option (List Int):= (wG a1 FUEL [] 0).bind λo10=> some o10
def SQ (x5:Bool):Option Bool:= some x5
def qBD (a1:qA) (a2:qA) (a3:Int):Option Bool:= bif decide ((imax (w64 (a1.X-a2.X)) (w64 (a2.X-a1.X)))>a3) then SQ true else SQ (decide ((imax (w64 (a1.Y-a2.Y)) (w64 (a2.Y-a1.Y)))>a3))
def BP (x18:Int) (R:Bool->Int->Option Bool) (x28:Bool):Option Bool:= R x28 (w64 (x18+1))
def YF (a1:Ring) (a2:Int) (v5:(List Int)) (x13:Int):Nat->Bool->Int->Option Bool
 |0,_,_=>none
 |n+1,x17,x18=> bif decide (x18<2) then bif inb x18 2 then bif nz (v5.length:Int) then bif inb (Int.tmod (w64 ((w64 (x13+(v5.length:Int)))+(([(-1),1]:List Int).getD x18.toNat 0))) (v5.length:Int)) v5.length then bif inb (v5.getD ((Int.tmod (w64 ((w64 (x13+(v5.length:Int)))+(([(-1),1]:List Int).getD x18.toNat 0))) (v5.length:Int)).toNat) dd) a1.Read.length then bif x17 then bif inb (v5.getD x13.toNat dd) a1.Read.length then (qBD ((a1.Read.getD (v5.getD x13.toNat dd).toNat dd).P) ((a1.Read.getD (v5.getD ((Int.tmod (w64 ((w64 (x13+(v5.length:Int)))+(([(-1),1]:List Int).getD x18.toNat 0))) (v5.length:Int)).toNat) dd).toNat dd).P) a2).bind λv26=> BP x18 (YF a1 a2 v5 x13 n) v26 else none else BP x18 (YF a1 a2 v5 x13 n) false
 else none else none else none else none else some x17
def BZ (x13:Int) (R:Int->(List qB)->Option (List qB)) (l34:List qB):Option (List qB):= R (w64 (x13+1)) l34
def YI (a1:Ring) (a2:Int) (v5:(List Int)):Nat->Int->(List qB)->Option (List qB)
 |0,_,_=>none
 |n+1,x13,l14=> bif decide (x13<(v5.length:Int)) then bif inb x13 v5.length then (YF a1 a2 v5 x13 FUEL true 0).bind λo30=> bif o30 then bif inb (v5.getD x13.toNat dd) l14.length then BZ x13 (YI a1 a2 v5 n) (l14.set ((v5.getD x13.toNat dd).toNat) (qB.mk (qA.mk 0 0) false)) else none else BZ x13 (YI a1 a2 v5 n) l14 else none else some l14
def RA (a1:Ring) (a2:Int) (v3:Ring) (v5:(List Int)) (x11:Bool):Option Ring:= bif x11 then some (Ring.mk v3.Z v3.Read) else (YI a1 a2 v5 FUEL 0 v3.Read).bind λo36=> some (Ring.mk v3.Z o36)
def AQ (a1:Ring) (a2:Int):Option Ring:= (KJ a1).bind λv3=> (yR a1).bind λv5=> bif decide (a2<0) then RA a1 a2 v3 v5 true else bif decide ((v5.length:Int)<2) then RA a1 a2 v3 v5 true else (QA a1).bind λv9=> RA a1 a2 v3 v5 (v9 !=0)
def YJ (a1:Ring) (a2:List Int) (a3:Int):Option Int:= bif decide ((w64 (a3+1))<(a2.length:Int)) then bif inb (w64 (a3+1)) a2.length then bif inb a3 a2.length then some (w64 ((w64 ((a2.getD (w64 (a3+1)).toNat dd)-(a2.getD a3.toNat dd)))-1)) else none else none else bif inb 0 a2.length then bif inb a3 a2.length then some (w64 ((w64 ((w64 ((a2.getD (0:Int).toNat dd)+(a1.Read.length:Int)))-(a2.getD a3.toNat dd)))-1)) else none else none
def yJ (a1:Ring) (v2:(List Int)):Nat->Int->Int->Option Int
 |0,_,_=>none
 |n+1,x5,x6=> bif decide (x6<(v2.length:Int)) then (YJ a1 v2 x6).bind λv8=> (yJ a1 v2 n) (imax x5 v8) (w64 (x6+1)) else some x5
def wA (a1:Ring):Option (Int×Int):= (yR a1).bind λv2=> bif (v2.length:Int)==0 then some (w64 ((a1.Read.length:Int)-(v2.length:Int)),w64 ((a1.Read.length:Int)-(v2.length:Int))) else (yJ a1 v2 FUEL 0 0).bind λo11=> some (w64 ((a1.Read.length:Int)-(v2.length:Int)),o11)
def BU (x5:Int):Option Int:= some x5
def NU (a1:Int) (a2:Int):Option Int:= bif nz a2 then bif decide ((Int.tmod a1 a2)<0) then BU (w64 ((w64 (Int.tdiv a1 a2))-1)) else BU (w64 (Int.tdiv a1 a2)) else none
def GE (a1:Ring) (v6:(List Int)) (x16:Int) (v24:Int):Nat->(List qA)->Int->Option (List qA)
 |0,_,_=>none
 |n+1,l26,x27=> bif decide (x27<=v24) then bif nz (l26.length:Int) then (NU (w64 ((w64 ((((a1.Read.getD (v6.getD ((Int.tmod (w64 (x16+1)) (v6.length:Int)).toNat) dd).toNat dd).P).X)-(((a1.Read.getD (v6.getD x16.toNat dd).toNat dd).P).X)))*x27)) (w64 (v24+1))).bind λv30=> (NU (w64 ((w64 ((((a1.Read.getD (v6.getD ((Int.tmod (w64 (x16+1)) (v6.length:Int)).toNat) dd).toNat dd).P).Y)-(((a1.Read.getD (v6.getD x16.toNat dd).toNat dd).P).Y)))*x27)) (w64 (v24+1))).bind λv32=> bif inb (Int.tmod (w64 ((v6.getD x16.toNat dd)+x27)) (l26.length:Int)) l26.length then (GE a1 v6 x16 v24 n) (l26.set ((Int.tmod (w64 ((v6.getD x16.toNat dd)+x27)) (l26.length:Int)).toNat) (qA.mk (w64 ((((a1.Read.getD (v6.getD x16.toNat dd).toNat dd).P).X)+v30)) (w64 ((((a1.Read.getD (v6.getD x16.toNat dd).toNat dd).P).Y)+v32)))) (w64 (x27+1))
 else none else none else some l26
def VJ (a1:Ring) (v6:(List Int)):Nat->(List qA)->Int->Option (List qA)
 |0,_,_=>none
 |n+1,l15,x16=> bif decide (x16<(v6.length:Int)) then bif inb x16 v6.length then bif inb (v6.getD x16.toNat dd) a1.Read.length then bif nz (v6.length:Int) then bif inb (Int.tmod (w64 (x16+1)) (v6.length:Int)) v6.length then bif inb (v6.getD ((Int.tmod (w64 (x16+1)) (v6.length:Int)).toNat) dd) a1.Read.length then bif inb (v6.getD x16.toNat dd) l15.length then (YJ a1 v6 x16).bind λv24=> (GE a1 v6 x16 v24 FUEL (l15.set ((v6.getD x16.toNat dd).toNat) ((a1.Read.getD (v6.getD x16.toNat dd).toNat dd).P)) 1).bind λo36=> (VJ a1 v6 n) o36 (w64 (x16+1)) else none else none else none else none else none else none else some l15
def KI (a1:Ring) (v6:(List Int)) (x12:Bool):Option ((List qA)×Int):= bif x12 then some ([],30) else bif mkOk (a1.Read.length:Int) 16 then (VJ a1 v6 FUEL (List.replicate ((a1.Read.length:Int).toNat) (qA.mk 0 0)) 0).bind λo39=> some (o39,0) else none
def SA (a1:Ring) (a2:Int):Option ((List qA)×Int):= (QA a1).bind λv3=> bif v3 !=0 then some ([],v3) else (yR a1).bind λv6=> (wA a1).bind λv8=> bif decide ((v6.length:Int)<3) then KI a1 v6 true else bif decide (v8.1>0) then KI a1 v6 (decide (v8.2>a2)) else KI a1 v6 false
def GH (x3:Bool):Option Bool:= some x3
def GU (a1:Int):Option Bool:= bif decide (a1≥(-600)) then GH (decide (a1<=600)) else GH false
def TT (x2:Int) (R:Int->Option (Bool⊕Unit)) (x10:Bool):Option (Bool⊕Unit):= bif x10 then some (Sum.inl false) else R (w64 (x2+1))
def ZP (a1:List qA):Nat->Int->Option (Bool⊕Unit)
 |0,_=>none
 |n+1,x2=> bif decide (x2<(a1.length:Int)) then bif inb x2 a1.length then (GU ((a1.getD x2.toNat dd).X)).bind λv5=> bif !v5 then TT x2 (ZP a1 n) true else (GU ((a1.getD x2.toNat dd).Y)).bind λv8=> TT x2 (ZP a1 n) (!v8) else none else some (Sum.inr ())
def XI (a1:List qA):Option Bool:= (ZP a1 FUEL 0).bind λu14=>Sum.elim (λv15=>some v15) (λo12=> some true) u14
def BS (a1:List qA):Nat->Int->Int->Option Int
 |0,_,_=>none
 |n+1,x7,x8=> bif decide (x8<(a1.length:Int)) then bif inb x8 a1.length then bif nz (a1.length:Int) then bif inb (Int.tmod (w64 (x8+1)) (a1.length:Int)) a1.length then (BS a1 n) (w64 (x7+(w64 ((w64 (((a1.getD x8.toNat dd).X)*((a1.getD (Int.tmod (w64 (x8+1)) (a1.length:Int)).toNat dd).Y)))-(w64 (((a1.getD (Int.tmod (w64 (x8+1)) (a1.length:Int)).toNat dd).X)*((a1.getD x8.toNat dd).Y))))))) (w64 (x8+1)) else none else none else none else some x7
def BO (a1:List qA) (x5:Bool):Option Int:= bif x5 then some 0 else (BS a1 FUEL 0 0).bind λo14=> some o14
def ID (a1:List qA):Option Int:= bif decide ((a1.length:Int)>32) then BO a1 true else (XI a1).bind λv3=> BO a1 (!v3)
def AU (a1:List qA):Option Int:= bif decide ((a1.length:Int)<3) then some 3 else bif decide ((a1.length:Int)>32) then some 4 else (XI a1).bind λv4=> bif !v4 then some 9 else (ID a1).bind λv7=> bif v7==0 then some 19 else some 0
def UZ (a1:Int) (a2:Int):Option Span:= some (Span.mk (w64 (10*a1)) (w64 (10*a2)))
def YU (a1:List qA):Option (List qA):= bif room a1.length 16 then some a1 else none
def YC (a1:Int):Option Bool:= some (a1 !=a1)
def yM (a1:Int) (a2:Int):Option Int:= (YC a1).bind λv3=> (YC a2).bind λv5=> bif v3 then bif v5 then some 0 else some (-1) else bif v5 then some 1 else bif decide (a1<a2) then some (-1) else bif decide (a1>a2) then some 1 else some 0
def QK (a1:List Int):Nat->Int->Option (Int⊕Unit)
 |0,_=>none
 |n+1,x2=> bif decide (x2<(a1.length:Int)) then bif inb x2 a1.length then bif (a1.getD x2.toNat dd) !=0 then some (Sum.inl (a1.getD x2.toNat dd)) else (QK a1 n) (w64 (x2+1)) else none else some (Sum.inr ())
def PO (a1:List Int):Option Int:= (QK a1 FUEL 0).bind λu8=>Sum.elim (λv9=>some v9) (λo6=> some 0) u8
def poly_Hull_1 (a1:qA) (a2:qA):Option Int:= (yM a1.X a2.X).bind λv3=> (yM a1.Y a2.Y).bind λv5=> (PO [v3,v5]).bind λv7=> some v7
def WC (a1:List qA):Option (List qA):= bif qFB a1.length then some (PM poly_Hull_1 a1) else none
def QU (x12:Int) (R:(List qA)->Int->Int->Option ((List qA)×Int)) (l19:List qA) (x20:Int):Option ((List qA)×Int):= R l19 x20 (w64 (x12+1))
def wD (l3:List qA) (x4:Int):Nat->(List qA)->Int->Int->Option ((List qA)×Int)
 |0,_,_,_=>none
 |n+1,l10,x11,x12=> bif decide (x12<(((l3.length-x4.toNat):Nat):Int)) then bif inb x12 (l3.length-x4.toNat) then bif Nat.ble (x4.toNat+(l3.length-x4.toNat)) l10.length then bif inb (w64 (x12-1)) (l3.length-x4.toNat) then bif !((((l10.getD (x4.toNat+x12.toNat) dd).X)==((l10.getD (x4.toNat+((w64 (x12-1)).toNat)) dd).X))&&((((l10.getD (x4.toNat+x12.toNat) dd).Y)==((l10.getD (x4.toNat+((w64 (x12-1)).toNat)) dd).Y))&&true)) then bif inb x11 l10.length then QU x12 (wD l3 x4 n) (l10.set x11.toNat (l10.getD (x4.toNat+x12.toNat) dd)) (w64 (x11+1)) else none else QU x12 (wD l3 x4 n) l10 x11 else none else none else none else some (l10,x11)
def QW :Nat->(List qA)->Int->Option (((List qA)×(List qA))⊕(List qA))
 |0,_,_=>none
 |n+1,l3,x4=> bif decide (x4<(l3.length:Int)) then bif inb x4 l3.length then bif inb (w64 (x4-1)) l3.length then bif ((((l3.getD x4.toNat dd).X)==((l3.getD ((w64 (x4-1)).toNat) dd).X))&&((((l3.getD x4.toNat dd).Y)==((l3.getD ((w64 (x4-1)).toNat) dd).Y))&&true)) then bif slOk x4 (l3.length:Int) l3.length then (wD l3 x4 FUEL l3 x4 1).bind λo23=> bif slOk o23.2 (o23.1.length:Int) o23.1.length then bif slOk 0 o23.2 o23.1.length then some (Sum.inl ((o23.1.take o23.2.toNat),(o23.1.take o23.2.toNat))) else none else none else none else (QW n) l3 (w64 (x4+1)) else none else none else some (Sum.inr l3)
def WZ (a1:List qA):Option ((List qA)×(List qA)):= bif decide ((a1.length:Int)<2) then some (a1,a1) else (QW FUEL a1 1).bind λu30=>Sum.elim (λv31=>some v31) (λo28=> some (o28,o28)) u30
def IG (a1:qA) (a2:qA) (a3:qA):Option Int:= some (w64 ((w64 ((w64 (a2.X-a1.X))*(w64 (a3.Y-a1.Y))))-(w64 ((w64 (a3.X-a1.X))*(w64 (a2.Y-a1.Y))))))
def BH (l6:List qA) (R:(List qA)->Option (List qA)) (x12:Bool):Option (List qA):= bif x12 then bif slOk 0 (w64 ((l6.length:Int)-1)) l6.length then R (l6.take ((w64 ((l6.length:Int)-1)).toNat)) else none else some l6
def JZ (a1:List qA) (x3:Int):Nat->(List qA)->Option (List qA)
 |0,_=>none
 |n+1,l6=> bif decide ((l6.length:Int)≥2) then bif inb (w64 ((l6.length:Int)-2)) l6.length then bif inb (w64 ((l6.length:Int)-1)) l6.length then (IG (l6.getD ((w64 ((l6.length:Int)-2)).toNat) dd) (l6.getD ((w64 ((l6.length:Int)-1)).toNat) dd) (a1.getD x3.toNat dd)).bind λv10=> BH l6 (JZ a1 x3 n) (decide (v10<=0)) else none else none else BH l6 (JZ a1 x3 n) false
def BG (a1:List qA):Nat->(List qA)->Int->Option (List qA)
 |0,_,_=>none
 |n+1,l2,x3=> bif decide (x3<(a1.length:Int)) then bif inb x3 a1.length then (JZ a1 x3 FUEL l2).bind λo16=> bif room (o16.length+1) 16 then (BG a1 n) (o16++[(a1.getD x3.toNat dd)]) (w64 (x3+1)) else none else none else some l2
def NN (a1:List qA):Option (List qA):= (BG a1 FUEL [] 0).bind λo20=> bif slOk 0 (w64 ((o20.length:Int)-1)) o20.length then some (o20.take ((w64 ((o20.length:Int)-1)).toNat)) else none
def QR :Nat->(List qA)->Int->Int->Option (List qA)
 |0,_,_,_=>none
 |n+1,l2,x3,x4=> bif decide (x3<x4) then bif inb x4 l2.length then bif inb x3 l2.length then (QR n) ((l2.set x3.toNat (l2.getD x4.toNat dd)).set x4.toNat (l2.getD x3.toNat dd)) (w64 (x3+1)) (w64 (x4-1)) else none else none else some l2
def WT (a1:List qA):Option (List qA):= (QR FUEL a1 0 (w64 ((a1.length:Int)-1))).bind λo9=> some o9
def TV (a1:List qA) (x6:Bool):Option (List qA):= bif x6 then some ([]:List qA) else (YU a1).bind λv8=> (WC v8).bind λv10=> bif v10.length==v8.length then (WZ v10).bind λv13=> (NN v13.2).bind λv15=> (WT v13.2).bind λv17=> bif v17.length==v13.2.length then (NN v17).bind λv20=> bif room (v15.length+v20.length) 16 then bif decide ((((v15.length+v20.length):Nat):Int)<3) then some ([]:List qA) else some (v15++v20) else none else none else none
def CA (a1:List qA):Option (List qA):= bif decide ((a1.length:Int)<3) then TV a1 true else bif decide ((a1.length:Int)>32) then TV a1 true else (XI a1).bind λv4=> TV a1 (!v4)
def VZ (a1:List qA):Nat->Int->Rect->Option Rect
 |0,_,_=>none
 |n+1,x4,x5=> bif decide (x4<(a1.length:Int)) then bif inb x4 a1.length then (VZ a1 n) (w64 (x4+1)) (Rect.mk (Span.mk (imin x5.X.A ((a1.getD x4.toNat dd).X)) (imax x5.X.B ((a1.getD x4.toNat dd).X))) (Span.mk (imin x5.Y.A ((a1.getD x4.toNat dd).Y)) (imax x5.Y.B ((a1.getD x4.toNat dd).Y)))) else none else some x5
def SB (a1:List qA):Option Rect:= bif (a1.length:Int)==0 then some (Rect.mk (Span.mk 0 0) (Span.mk 0 0)) else bif inb 0 a1.length then (VZ a1 FUEL 0 (Rect.mk (Span.mk ((a1.getD (0:Int).toNat dd).X) ((a1.getD (0:Int).toNat dd).X)) (Span.mk ((a1.getD (0:Int).toNat dd).Y) ((a1.getD (0:Int).toNat dd).Y)))).bind λo9=> some o9 else none
def BW (x5:Int):Option Int:= some x5
def NR (a1:Int) (a2:Int):Option Int:= bif nz a2 then bif decide ((Int.tmod a1 a2)<0) then BW (w64 ((w64 (Int.tdiv a1 a2))-1)) else BW (w64 (Int.tdiv a1 a2)) else none
def XC (x6:Int) (R:Int->Int->Int->Option (Int×Int)) (x23:Int) (x24:Int):Option (Int×Int):= R x23 x24 (w64 (x6+1))
def YX (a1:Int) (a3:List qA) (x4:Int) (x5:Int) (x6:Int) (R:Int->Int->Int->Option (Int×Int)) (x19:Bool):Option (Int×Int):= bif x19 then (NR (w64 ((w64 (((a3.getD ((Int.tmod (w64 (x6+1)) (a3.length:Int)).toNat) dd).X)-((a3.getD x6.toNat dd).X)))*(w64 (a1-((a3.getD ((Int.tmod (w64 (x6+1)) (a3.length:Int)).toNat) dd).Y))))) (w64 (((a3.getD x6.toNat dd).Y)-((a3.getD ((Int.tmod (w64 (x6+1)) (a3.length:Int)).toNat) dd).Y)))).bind λv21=> XC x6 R (w64 (((a3.getD ((Int.tmod (w64 (x6+1)) (a3.length:Int)).toNat) dd).X)-v21)) x5 else XC x6 R x4 x5
def XA (a1:Int) (a3:List qA) (x4:Int) (x5:Int) (x6:Int) (R:Int->Int->Int->Option (Int×Int)) (x13:Bool):Option (Int×Int):= bif x13 then (NR (w64 ((w64 (((a3.getD ((Int.tmod (w64 (x6+1)) (a3.length:Int)).toNat) dd).X)-((a3.getD x6.toNat dd).X)))*(w64 (a1-((a3.getD x6.toNat dd).Y))))) (w64 (((a3.getD ((Int.tmod (w64 (x6+1)) (a3.length:Int)).toNat) dd).Y)-((a3.getD x6.toNat dd).Y)))).bind λv15=> XC x6 R x4 (w64 (((a3.getD x6.toNat dd).X)+v15)) else bif decide (((a3.getD x6.toNat dd).Y)>((a3.getD ((Int.tmod (w64 (x6+1)) (a3.length:Int)).toNat) dd).Y)) then bif decide (((a3.getD ((Int.tmod (w64 (x6+1)) (a3.length:Int)).toNat) dd).Y)<=a1) then YX a1 a3 x4 x5 x6 R (decide (a1<=((a3.getD x6.toNat dd).Y)))
 else YX a1 a3 x4 x5 x6 R false else YX a1 a3 x4 x5 x6 R false
def wU (a1:Int) (a3:List qA):Nat->Int->Int->Int->Option (Int×Int)
 |0,_,_,_=>none
 |n+1,x4,x5,x6=> bif decide (x6<(a3.length:Int)) then bif inb x6 a3.length then bif nz (a3.length:Int) then bif inb (Int.tmod (w64 (x6+1)) (a3.length:Int)) a3.length then bif decide (((a3.getD x6.toNat dd).Y)<((a3.getD ((Int.tmod (w64 (x6+1)) (a3.length:Int)).toNat) dd).Y)) then bif decide (((a3.getD x6.toNat dd).Y)<=a1) then XA a1 a3 x4 x5 x6 (wU a1 a3 n) (decide (a1<=((a3.getD ((Int.tmod (w64 (x6+1)) (a3.length:Int)).toNat) dd).Y))) else XA a1 a3 x4 x5 x6 (wU a1 a3 n) false else XA a1 a3 x4 x5 x6 (wU a1 a3 n) false else none else none else none else some (x4,x5)
def VE (a1:Int) (a2:Rect) (a3:List qA):Option (Int×Int):= (wU a1 a3 FUEL a2.X.A a2.X.B 0).bind λo27=> some (o27.1,o27.2)
def YD (a2:Int) (a3:Int) (v4:(List qA)) (v6:Rect) (x11:Bool):Option Span:= bif x11 then some (Span.mk 0 0) else (VE a2 v6 v4).bind λv13=> (VE a3 v6 v4).bind λv15=> bif decide ((imax v13.1 v15.1)≥(imin v13.2 v15.2)) then some (Span.mk 0 0) else some (Span.mk (imax v13.1 v15.1) (imin v13.2 v15.2))
def IE (a1:List qA) (a2:Int) (a3:Int):Option Span:= (CA a1).bind λv4=> (SB v4).bind λv6=> bif (v4.length:Int)==0 then YD a2 a3 v4 v6 true else bif decide (a2≥a3) then YD a2 a3 v4 v6 true else bif decide (a2<v6.Y.A) then YD a2 a3 v4 v6 true else YD a2 a3 v4 v6 (decide (a3>v6.Y.B))
def FY (a1:Int) (a2:List qA):Option Span:= (UZ a1 (w64 (a1+1))).bind λv3=> (IE a2 v3.A v3.B).bind λv5=> some v5
def jL (a1:Span):Option Bool:= some (decide (a1.A≥a1.B))
def JI (x3:Int) (R:Int->Int->Int->(List Span)->Option (Int×Int×(List Span))) (x17:Int) (x18:Int) (l19:List Span):Option (Int×Int×(List Span)):= R x17 (w64 (x3+1)) x18 l19
def RT (x3:Int) (l5:List Span) (R:Int->Int->Int->(List Span)->Option (Int×Int×(List Span))) (v7:Span) (x13:Int):Option (Int×Int×(List Span)):= bif room (l5.length+1) 16 then JI x3 R (((l5.length+1):Nat):Int) x13 (l5++[v7]) else none
def wE (a1:List qA):Nat->Int->Int->Int->(List Span)->Option (Int×Int×(List Span))
 |0,_,_,_,_=>none
 |n+1,x2,x3,x4,l5=> bif decide (x3<60) then (FY x3 a1).bind λv7=> (jL v7).bind λv9=> bif !v9 then bif x2==0 then RT x3 l5 (wE a1 n) v7 x3 else RT x3 l5 (wE a1 n) v7 x4 else bif decide (x2>0) then bif room (l5.length+1) 16 then JI x3 (wE a1 n) x2 x4 (l5++[(Span.mk 0 0)]) else none else JI x3 (wE a1 n) x2 x4 l5 else some (x2,x4,l5)
def BD (a1:List qA):Option qI:= (wE a1 FUEL 0 (-60) 0 []).bind λo23=> bif slOk 0 o23.1 o23.2.2.length then some (qI.mk o23.2.1 (o23.2.2.take o23.1.toNat)) else none
def IL (a1:List qA):Option (qI×Int):= (AU a1).bind λv2=> bif v2 !=0 then some ((qI.mk 0 []),v2) else (BD a1).bind λv5=> bif (v5.Rows.length:Int)==0 then some ((qI.mk 0 []),18) else some ((qI.mk v5.Low v5.Rows),0)
def GJ (a1:Ring) (a2:Int) (a3:Int):Option (qI×Int):= (AQ a1 a2).bind λv4=> (SA (Ring.mk v4.Z v4.Read) a3).bind λv6=> bif v6.2 !=0 then some ((qI.mk 0 []),v6.2) else (IL v6.1).bind λv9=> some ((qI.mk v9.1.Low v9.1.Rows),v9.2)
def XM (x3:Bool):Option Bool:= some x3
def TU (a1:Span):Option Bool:= bif decide ((imin a1.A a1.B)≥(-600)) then XM (decide ((imax a1.A a1.B)<=600)) else XM false
def RN (a1:qI):Nat->Int->Option (Int⊕Unit)
 |0,_=>none
 |n+1,x6=> bif decide (x6<(a1.Rows.length:Int)) then bif inb x6 a1.Rows.length then (TU (a1.Rows.getD x6.toNat dd)).bind λv9=> bif !v9 then some (Sum.inl 9) else (RN a1 n) (w64 (x6+1)) else none else some (Sum.inr ())
def RU (x27:Int) (R:Int->Option (Int⊕Unit)) (x33:Bool):Option (Int⊕Unit):= bif x33 then some (Sum.inl 19) else R (w64 (x27+1))
def QN (a1:qI):Nat->Int->Option (Int⊕Unit)
 |0,_=>none
 |n+1,x27=> bif decide (x27<(a1.Rows.length:Int)) then bif inb x27 a1.Rows.length then (jL (a1.Rows.getD x27.toNat dd)).bind λv30=> bif v30 then RU x27 (QN a1 n) (!((((a1.Rows.getD x27.toNat dd).A)==0)&&((((a1.Rows.getD x27.toNat dd).B)==0)&&true))) else RU x27 (QN a1 n) false else none else some (Sum.inr ())
def RE (a1:qI) (x25:Bool):Option Int:= bif x25 then some 19 else (QN a1 FUEL 0).bind λu37=>Sum.elim (λv38=>some v38) (λo35=> some 0) u37
def RW (a1:qI) (x4:Bool):Option Int:= bif x4 then some 9 else (RN a1 FUEL 0).bind λu14=>Sum.elim (λv15=>some v15) (λo12=> bif (a1.Rows.length:Int)==0 then bif a1.Low !=0 then some 19 else some 0 else bif inb 0 a1.Rows.length then (jL (a1.Rows.getD (0:Int).toNat dd)).bind λv19=> bif v19 then RE a1 true else bif inb (w64 ((a1.Rows.length:Int)-1)) a1.Rows.length then (jL (a1.Rows.getD (w64 ((a1.Rows.length:Int)-1)).toNat dd)).bind λv23=> RE a1 v23 else none else none) u14
def PP (a1:qI):Option Int:= bif decide ((a1.Rows.length:Int)>120) then some 4 else bif decide (a1.Low<(-60)) then RW a1 true else RW a1 (decide (a1.Low>(w64 (60-(a1.Rows.length:Int)))))
def JV (a1:qI):Option qI:= (PP a1).bind λv2=> bif v2 !=0 then some (qI.mk 0 []) else some a1
def BQ (a1:qI) (a2:Int) (x4:Bool):Option Span:= bif x4 then some (Span.mk 0 0) else bif inb (w64 (a2-a1.Low)) a1.Rows.length then some (a1.Rows.getD (w64 (a2-a1.Low)).toNat dd) else none
def NL (a1:qI) (a2:Int):Option Span:= bif decide (a2<a1.Low) then BQ a1 a2 true else BQ a1 a2 (decide (a2≥(w64 (a1.Low+(a1.Rows.length:Int)))))
def CB (a1:Span) (a2:Span):Option Span:= bif decide ((imax a1.A a2.A)≥(imin a1.B a2.B)) then some (Span.mk 0 0) else some (Span.mk (imax a1.A a2.A) (imin a1.B a2.B))
def GR (a1:Int) (a2:qI) (a3:qI):Option Span:= (NL a2 a1).bind λv4=> (NL a3 a1).bind λv6=> (CB v4 v6).bind λv8=> some v8
def QZ (x4:Int) (R:Int->Int->Int->(List Span)->Option (Int×Int×(List Span))) (x18:Int) (x19:Int) (l20:List Span):Option (Int×Int×(List Span)):= R x18 (w64 (x4+1)) x19 l20
def YV (x4:Int) (l6:List Span) (R:Int->Int->Int->(List Span)->Option (Int×Int×(List Span))) (v8:Span) (x14:Int):Option (Int×Int×(List Span)):= bif room (l6.length+1) 16 then QZ x4 R (((l6.length+1):Nat):Int) x14 (l6++[v8]) else none
def zS (a1:qI) (a2:qI):Nat->Int->Int->Int->(List Span)->Option (Int×Int×(List Span))
 |0,_,_,_,_=>none
 |n+1,x3,x4,x5,l6=> bif decide (x4<60) then (GR x4 a1 a2).bind λv8=> (jL v8).bind λv10=> bif !v10 then bif x3==0 then YV x4 l6 (zS a1 a2 n) v8 x4 else YV x4 l6 (zS a1 a2 n) v8 x5 else bif decide (x3>0) then bif room (l6.length+1) 16 then QZ x4 (zS a1 a2 n) x3 x5 (l6++[(Span.mk 0 0)]) else none else QZ x4 (zS a1 a2 n) x3 x5 l6 else some (x3,x5,l6)
def RC (a1:qI) (a2:qI):Option qI:= (zS a1 a2 FUEL 0 (-60) 0 []).bind λo24=> bif slOk 0 o24.1 o24.2.2.length then some (qI.mk o24.2.1 (o24.2.2.take o24.1.toNat)) else none
def LU (a1:qI) (a2:qI):Option qI:= (JV a1).bind λv3=> (JV a2).bind λv5=> (RC v3 v5).bind λv7=> some (qI.mk v7.Low v7.Rows)
def BT (a1:Scan) (a2:Int) (a3:Int):Nat->(List qI)->Int->Option (((List qV)×Int)⊕(List qI))
 |0,_,_=>none
 |n+1,l8,x9=> bif decide (x9<(a1.Rings.length:Int)) then bif inb x9 a1.Rings.length then (GJ (a1.Rings.getD x9.toNat dd) a2 a3).bind λv12=> bif v12.2 !=0 then some (Sum.inl ([],30)) else bif inb x9 l8.length then (BT a1 a2 a3 n) (l8.set x9.toNat v12.1) (w64 (x9+1)) else none else none else some (Sum.inr l8)
def BE (a1:Scan) (o17:(List qI)):Nat->(List qV)->Int->Option (((List qV)×Int)⊕(List qV))
 |0,_,_=>none
 |n+1,l22,x23=> bif decide (x23<(((w64 ((a1.Rings.length:Int)-1)).toNat:Nat):Int)) then bif inb x23 o17.length then bif inb (w64 (x23+1)) o17.length then (LU (o17.getD x23.toNat dd) (o17.getD ((w64 (x23+1)).toNat) dd)).bind λv27=> bif (v27.Rows.length:Int)==0 then some (Sum.inl ([],30)) else bif inb (w64 (x23+1)) a1.Rings.length then bif inb x23 a1.Rings.length then bif inb x23 l22.length then (BE a1 o17 n) (l22.set x23.toNat (qV.mk (w64 (((a1.Rings.getD (w64 (x23+1)).toNat dd).Z)-((a1.Rings.getD x23.toNat dd).Z))) v27)) (w64 (x23+1)) else none else none else none else none else none else some (Sum.inr l22)
def JQ (a1:Scan) (a2:Int) (a3:Int):Option ((List qV)×Int):= (wP a1).bind λv4=> bif v4 !=0 then some ([],v4) else bif mkOk (a1.Rings.length:Int) 32 then (BT a1 a2 a3 FUEL (List.replicate ((a1.Rings.length:Int).toNat) (qI.mk 0 [])) 0).bind λu19=>Sum.elim (λv20=>some v20) (λo17=> bif mkOk (w64 ((a1.Rings.length:Int)-1)) 40 then (BE a1 o17 FUEL (List.replicate ((w64 ((a1.Rings.length:Int)-1)).toNat) (qV.mk 0 (qI.mk 0 []))) 0).bind λu39=>Sum.elim (λv40=>some v40) (λo37=> some (o37,0)) u39 else none) u19 else none
def JO (x3:Int) (R:(List Int)->Int->Option (List Int)) (l9:List Int):Option (List Int):= R l9 (w64 (x3+1))
def jM (a1:List qB):Nat->(List Int)->Int->Option (List Int)
 |0,_,_=>none
 |n+1,l2,x3=> bif decide (x3<(a1.length:Int)) then bif inb x3 a1.length then bif (a1.getD x3.toNat dd).Ok then bif room (l2.length+3) 8 then JO x3 (jM a1 n) (l2++[1,((a1.getD x3.toNat dd).P).X,((a1.getD x3.toNat dd).P).Y]) else none else bif room (l2.length+1) 8 then JO x3 (jM a1 n) (l2++[0]) else none else none else some l2
def KZ (a1:List qB):Option (List Int):= (jM a1 FUEL [] 0).bind λo11=> some o11
def FI :Nat->Int->(List Int)->Option (Int×(List Int))
 |0,_,_=>none
 |n+1,x2,l3=> bif decide (x2≥128) then bif room (l3.length+1) 1 then (FI n) (shrI .u64 x2 7) (l3++[orI .u8 (IntKind.u8.wrap (x2)) 128]) else none else some (x2,l3)
def TA (a1:Int):Option ByteArray:= (FI FUEL a1 []).bind λo8=> bif room (o8.2.length+1) 1 then some (strTk (o8.2.length+1) (o8.2++[IntKind.u8.wrap (o8.1)])) else none
def LI (a1:Int):Option ByteArray:= bif decide (a1<0) then (TA (orI .u64 (shlI .u64 (notI .u64 (IntKind.u64.wrap (a1))) 1) 1)).bind λv3=> some v3 else (TA (shlI .u64 (IntKind.u64.wrap (a1)) 1)).bind λv5=> some v5
def MN (a1:List Int):Option ByteArray:=intsM TA LI a1
def YP (a1:List qD):Nat->(List Int)->Int->Option (List Int)
 |0,_,_=>none
 |n+1,l2,x3=> bif decide (x3<(a1.length:Int)) then bif inb x3 a1.length then bif room (l2.length+7) 8 then (YP a1 n) (l2++[(a1.getD x3.toNat dd).Kind,(((a1.getD x3.toNat dd).Box).X).A,(((a1.getD x3.toNat dd).Box).X).B,(((a1.getD x3.toNat dd).Box).Y).A,(((a1.getD x3.toNat dd).Box).Y).B,(((a1.getD x3.toNat dd).Box).Z).A,(((a1.getD x3.toNat dd).Box).Z).B]) (w64 (x3+1)) else none else none else some l2
def RR (a1:List qD):Option (List Int):= (YP a1 FUEL [] 0).bind λo8=> some o8
def VX (a1:Scan):Nat->(List Int)->ByteArray->Int->Option ((List Int)×ByteArray)
 |0,_,_,_=>none
 |n+1,l5,x6,x7=> bif decide (x7<(a1.Rings.length:Int)) then bif inb x7 a1.Rings.length then bif room (l5.length+1) 8 then (KZ ((a1.Rings.getD x7.toNat dd).Read)).bind λv11=> (MN v11).bind λv13=> bif qAB x6 v13 then (VX a1 n) (l5++[(a1.Rings.getD x7.toNat dd).Z]) (x6++v13) (w64 (x7+1)) else none else none else none else some (l5,x6)
def YM (a1:Scan):Option (ByteArray×Int):= (wP a1).bind λv2=> bif v2 !=0 then some ((ByteArray.mk #[]),v2) else (VX a1 FUEL [] (ByteArray.mk #[]) 0).bind λo18=> (MN o18.1).bind λv20=> bif qAB v20 o18.2 then (RR a1.Defects).bind λv23=> (MN v23).bind λv25=> bif qAB (v20++o18.2) v25 then some ((v20++o18.2)++v25,0) else none else none
def VY (a1:ByteArray):Option qH:= some (qH.mk a1 0 0)
def YT (a1:qH):Option Bool:= some (a1.e !=0)
def WR (a1:Int) (a2:qH) (x3:Int) (x4:Int) (x13:Bool):Option ((Int×Int×Int)⊕Unit):= bif x13 then some (Sum.inl (0,0,5)) else some (Sum.inl (orI .u64 x3 (shlI .u64 (IntKind.u64.wrap (andI .u8 (ZB a2.s ((w64 (a1+x4)).toNat)) 127)) (w64 (7*x4))),w64 ((w64 (a1+x4))+1),0))
def WN (a1:Int) (a2:qH) (x3:Int) (x4:Int) (R:Int->Int->Option ((Int×Int×Int)⊕Unit)) (x8:Bool):Option ((Int×Int×Int)⊕Unit):= bif x8 then some (Sum.inl (0,0,5)) else bif nneg (w64 (7*x4)) then bif decide ((ZB a2.s ((w64 (a1+x4)).toNat))≥128) then R (orI .u64 x3 (shlI .u64 (IntKind.u64.wrap (andI .u8 (ZB a2.s ((w64 (a1+x4)).toNat)) 127)) (w64 (7*x4)))) (w64 (x4+1)) else bif (ZB a2.s ((w64 (a1+x4)).toNat))==0 then WR a1 a2 x3 x4 (decide (x4>0)) else WR a1 a2 x3 x4 false else none
def jD (a1:Int) (a2:qH):Nat->Int->Int->Option ((Int×Int×Int)⊕Unit)
 |0,_,_=>none
 |n+1,x3,x4=> bif decide ((w64 (a1+x4))≥(a2.s.size:Int)) then some (Sum.inl (0,0,3)) else bif inb (w64 (a1+x4)) a2.s.size then bif x4==9 then WN a1 a2 x3 x4 (jD a1 a2 n) (decide ((ZB a2.s ((w64 (a1+x4)).toNat))>1)) else WN a1 a2 x3 x4 (jD a1 a2 n) false else none
def ZR (a1:Int) (a2:qH):Option (Int×Int×Int):= (jD a1 a2 FUEL 0 0).bind λu17=>Sum.elim (λv18=>some v18) (λo15=> none) u17
def WB (v4:Int×Int×Int) (x8:Bool):Option (Int×Int×Int):= bif x8 then some (0,0,4) else some (v4.1,v4.2.1,0)
def YW (a1:Int) (a2:Int) (a3:qH):Option (Int×Int×Int):= (ZR a1 a3).bind λv4=> bif v4.2.2 !=0 then some (0,0,v4.2.2) else bif decide (a2<0) then WB v4 true else WB v4 (decide (v4.1>(IntKind.u64.wrap (a2))))
def WU (v5:Int×Int×Int) (x9:Int) (x11:Bool):Option (Int×Int×Int):= bif x11 then some (0,0,9) else some (x9,v5.2.1,0)
def WW (a2:Int) (a3:Int) (v5:Int×Int×Int) (x9:Int):Option (Int×Int×Int):= bif decide (x9<a2) then WU v5 x9 true else WU v5 x9 (decide (x9>a3))
def KC (a1:Int) (a2:Int) (a3:Int) (a4:qH):Option (Int×Int×Int):= (ZR a1 a4).bind λv5=> bif v5.2.2 !=0 then some (0,0,v5.2.2) else bif (andI .u64 v5.1 1)==1 then WW a2 a3 v5 (notI .i64 (w64 (shrI .u64 v5.1 1))) else WW a2 a3 v5 (w64 (shrI .u64 v5.1 1))
def RF (a1:Int) (a2:Int) (a3:qH):Option (Int×Int):= bif a2 !=0 then some (a3.at_,a2) else some (a1,a3.e)
def YQ (a2:Int) (a3:Int) (a4:qH) (x10:Int) (x11:Int) (l12:List Int) (x13:Int) (R:Int->Int->(List Int)->Int->Option (Int×Int×(List Int))) (x15:Bool):Option (Int×Int×(List Int)):= bif x15 then (KC x10 a2 a3 a4).bind λv17=> bif room (l12.length+1) 8 then R v17.2.1 v17.2.2 (l12++[v17.1]) (IntKind.u64.wrap (x13+1)) else none else some (x10,x11,l12)
def yE (a2:Int) (a3:Int) (a4:qH) (v8:Int×Int×Int):Nat->Int->Int->(List Int)->Int->Option (Int×Int×(List Int))
 |0,_,_,_,_=>none
 |n+1,x10,x11,l12,x13=> bif decide (x13<v8.1) then YQ a2 a3 a4 x10 x11 l12 x13 (yE a2 a3 a4 v8 n) (x11==0) else YQ a2 a3 a4 x10 x11 l12 x13 (yE a2 a3 a4 v8 n) false
def RY (a1:Int) (a2:Int) (a3:Int) (a4:qH):Option ((List Int)×Int×Int):= (YT a4).bind λv5=> bif v5 then some ([],a4.at_,a4.e) else (YW a4.at_ a1 a4).bind λv8=> (yE a2 a3 a4 v8 FUEL v8.2.1 v8.2.2 [] 0).bind λo23=> (RF o23.1 o23.2.1 a4).bind λv25=> bif o23.2.1 !=0 then some ([],v25.1,v25.2) else some (o23.2.2,v25.1,v25.2)
def XY (a1:Int) (a2:qH):Option ((List Int)×Int×Int):= (RY a1 (-1099511627776) 1099511627776 a2).bind λv3=> some (v3.1,v3.2.1,v3.2.2)
def XX (l2:List Int) (l3:List qB) (R:(List Int)->(List qB)->Option (((List qB)×Bool)⊕(List qB))) (x10:Bool):Option (((List qB)×Bool)⊕(List qB)):= bif x10 then bif inb 1 l2.length then bif inb 2 l2.length then bif room (l3.length+1) 24 then bif slOk 3 (l2.length:Int) l2.length then R (l2.drop ((3:Int).toNat)) (l3++[(qB.mk (qA.mk (l2.getD (1:Int).toNat dd) (l2.getD (2:Int).toNat dd)) true)]) else none else none else none else none else some (Sum.inl ([],false))
def jC :Nat->(List Int)->(List qB)->Option (((List qB)×Bool)⊕(List qB))
 |0,_,_=>none
 |n+1,l2,l3=> bif decide ((l2.length:Int)>0) then bif inb 0 l2.length then bif (l2.getD (0:Int).toNat dd)==0 then bif room (l3.length+1) 24 then bif slOk 1 (l2.length:Int) l2.length then (jC n) (l2.drop ((1:Int).toNat)) (l3++[(qB.mk (qA.mk 0 0) false)]) else none else none else bif (l2.getD (0:Int).toNat dd)==1 then XX l2 l3 (jC n) (decide ((l2.length:Int)≥3)) else XX l2 l3 (jC n) false else none else some (Sum.inr l3)
def UF (a1:List Int):Option ((List qB)×Bool):= (jC FUEL a1 []).bind λu19=>Sum.elim (λv20=>some v20) (λo17=> some (o17,true)) u19
def PA :Nat->(List Int)->(List qD)->Option (List qD)
 |0,_,_=>none
 |n+1,l3,l4=> bif decide ((l3.length:Int)>0) then bif inb 1 l3.length then bif inb 2 l3.length then bif inb 3 l3.length then bif inb 4 l3.length then bif inb 5 l3.length then bif inb 6 l3.length then bif inb 0 l3.length then bif room (l4.length+1) 56 then bif slOk 7 (l3.length:Int) l3.length then (PA n) (l3.drop ((7:Int).toNat)) (l4++[(qD.mk (l3.getD (0:Int).toNat dd) (Box.mk (Span.mk (l3.getD (1:Int).toNat dd) (l3.getD (2:Int).toNat dd)) (Span.mk (l3.getD (3:Int).toNat dd) (l3.getD (4:Int).toNat dd)) (Span.mk (l3.getD (5:Int).toNat dd) (l3.getD (6:Int).toNat dd))))]) else none else none else none else none else none else none else none else none else none else some l4
def GF (a1:List Int):Option ((List qD)×Bool):= bif (Int.tmod (a1.length:Int) 7) !=0 then some ([],false) else (PA FUEL a1 []).bind λo16=> some (o16,true)
def UK (a1:qH):Option Int:= some a1.e
def RK (a1:qH):Option Int:= some (w64 ((a1.s.size:Int)-a1.at_))
def UB (a1:qH):Option Int:= (UK a1).bind λv2=> bif v2 !=0 then some v2 else (RK a1).bind λv5=> bif decide (v5>0) then some 4 else some 0
def BX (v2:qH) (v4:(List Int)×Int×Int):Nat->Int->(List Ring)->Int->Int->Option ((Scan×Bool)⊕((List Ring)×qH))
 |0,_,_,_,_=>none
 |n+1,x6,l7,x8,x9=> bif decide (x6<(v4.1.length:Int)) then bif inb x6 v4.1.length then (XY 96 (qH.mk v2.s x8 x9)).bind λv12=> (UF v12.1).bind λv14=> bif !v14.2 then some (Sum.inl ((Scan.mk [] []),false)) else bif room (l7.length+1) 32 then (BX v2 v4 n) (w64 (x6+1)) (l7++[(Ring.mk (v4.1.getD x6.toNat dd) v14.1)]) v12.2.1 v12.2.2 else none else none else some (Sum.inr (l7,(qH.mk v2.s x8 x9)))
def BY (o20:(List Ring)×qH) (v26:(List qD)×Bool) (x31:Bool):Option (Scan×Bool):= bif x31 then some ((Scan.mk [] []),false) else some ((Scan.mk o20.1 v26.1),true)
def AP (a1:ByteArray):Option (Scan×Bool):= (VY a1).bind λv2=> (XY 24 v2).bind λv4=> (BX v2 v4 FUEL 0 [] v4.2.1 v4.2.2).bind λu22=>Sum.elim (λv23=>some v23) (λo20=> (XY 448 o20.2).bind λv24=> (GF v24.1).bind λv26=> bif !v26.2 then BY o20 v26 true else (UB (qH.mk o20.2.s v24.2.1 v24.2.2)).bind λv29=> BY o20 v26 (v29 !=0)) u22
def YL (a1:ByteArray):Option (Scan×Int):= (AP a1).bind λv2=> bif !v2.2 then some ((Scan.mk [] []),5) else (wP (Scan.mk v2.1.Rings v2.1.Defects)).bind λv5=> bif v5 !=0 then some ((Scan.mk [] []),v5) else some ((Scan.mk v2.1.Rings v2.1.Defects),0)
def zK (a1:List qB) (a2:List qB):Nat->Int->Option (Bool⊕Unit)
 |0,_=>none
 |n+1,x4=> bif decide (x4<(a1.length:Int)) then bif inb x4 a1.length then bif inb x4 a2.length then bif !((((((a1.getD x4.toNat dd).P).X)==(((a2.getD x4.toNat dd).P).X))&&(((((a1.getD x4.toNat dd).P).Y)==(((a2.getD x4.toNat dd).P).Y))&&true))&&((((a1.getD x4.toNat dd).Ok)==((a2.getD x4.toNat dd).Ok))&&true)) then some (Sum.inl false) else (zK a1 a2 n) (w64 (x4+1)) else none else none else some (Sum.inr ())
def jF (a1:List qB) (a2:List qB):Option Bool:= bif (a1.length:Int) !=(a2.length:Int) then some false else (zK a1 a2 FUEL 0).bind λu11=>Sum.elim (λv12=>some v12) (λo9=> some true) u11
def KF (x6:Bool):Option Bool:= some x6
def GZ (a1:Ring) (a2:Ring):Option Bool:= bif a1.Z==a2.Z then (jF a1.Read a2.Read).bind λv4=> KF v4 else KF false
def zJ (a1:List Ring) (a2:List Ring):Nat->Int->Option (Bool⊕Unit)
 |0,_=>none
 |n+1,x4=> bif decide (x4<(a1.length:Int)) then bif inb x4 a1.length then bif inb x4 a2.length then (GZ (a1.getD x4.toNat dd) (a2.getD x4.toNat dd)).bind λv8=> bif !v8 then some (Sum.inl false) else (zJ a1 a2 n) (w64 (x4+1)) else none else none else some (Sum.inr ())
def yI (a1:List Ring) (a2:List Ring):Option Bool:= bif (a1.length:Int) !=(a2.length:Int) then some false else (zJ a1 a2 FUEL 0).bind λu13=>Sum.elim (λv14=>some v14) (λo11=> some true) u13
def zP (a1:List qD) (a2:List qD):Nat->Int->Option (Bool⊕Unit)
 |0,_=>none
 |n+1,x4=> bif decide (x4<(a1.length:Int)) then bif inb x4 a1.length then bif inb x4 a2.length then bif !((((a1.getD x4.toNat dd).Kind)==((a2.getD x4.toNat dd).Kind))&&((((((((a1.getD x4.toNat dd).Box).X).A)==((((a2.getD x4.toNat dd).Box).X).A))&&((((((a1.getD x4.toNat dd).Box).X).B)==((((a2.getD x4.toNat dd).Box).X).B))&&true))&&(((((((a1.getD x4.toNat dd).Box).Y).A)==((((a2.getD x4.toNat dd).Box).Y).A))&&((((((a1.getD x4.toNat dd).Box).Y).B)==((((a2.getD x4.toNat dd).Box).Y).B))&&true))&&(((((((a1.getD x4.toNat dd).Box).Z).A)==((((a2.getD x4.toNat dd).Box).Z).A))&&((((((a1.getD x4.toNat dd).Box).Z).B)==((((a2.getD x4.toNat dd).Box).Z).B))&&true))&&true)))&&true)) then some (Sum.inl false) else
 (zP a1 a2 n) (w64 (x4+1)) else none else none else some (Sum.inr ())
def jK (a1:List qD) (a2:List qD):Option Bool:= bif (a1.length:Int) !=(a2.length:Int) then some false else (zP a1 a2 FUEL 0).bind λu11=>Sum.elim (λv12=>some v12) (λo9=> some true) u11
def UR (x8:Bool):Option Bool:= some x8
def JC (a1:Scan) (a2:Scan):Option Bool:= (yI a1.Rings a2.Rings).bind λv3=> bif v3 then (jK a1.Defects a2.Defects).bind λv6=> UR v6 else UR false
def GN (a1:List qV) (x4:Int) (x5:Int) (R:Int->Int->Option (Int⊕Unit)) (x13:Bool):Option (Int⊕Unit):= bif x13 then some (Sum.inl 9) else R (w64 (x4+((a1.getD x5.toNat dd).Len))) (w64 (x5+1))
def WP (a1:List qV):Nat->Int->Int->Option (Int⊕Unit)
 |0,_,_=>none
 |n+1,x4,x5=> bif decide (x5<(a1.length:Int)) then bif inb x5 a1.length then (PP ((a1.getD x5.toNat dd).Sec)).bind λv8=> bif v8 !=0 then some (Sum.inl v8) else bif (((((a1.getD x5.toNat dd).Sec).Rows).length:Nat):Int)==0 then some (Sum.inl 18) else bif decide (((a1.getD x5.toNat dd).Len)<1) then GN a1 x4 x5 (WP a1 n) true else GN a1 x4 x5 (WP a1 n) (decide (((a1.getD x5.toNat dd).Len)>(w64 (20000-x4)))) else none else some (Sum.inr ())
def SV (a1:List qV):Option Int:= bif (a1.length:Int)==0 then some 3 else bif decide ((a1.length:Int)>24) then some 4 else (WP a1 FUEL 0 0).bind λu17=>Sum.elim (λv18=>some v18) (λo15=> some 0) u17
def SC (a1:List qV):Option (List qV):= (SV a1).bind λv2=> bif v2 !=0 then some ([]:List qV) else some a1
def qAk (a1:Span):Option Int:= bif decide (a1.A≥a1.B) then some 0 else some (IntKind.u64.wrap ((IntKind.u64.wrap (a1.B))-(IntKind.u64.wrap (a1.A))))
def FC (a1:Int):Option Int:= some (w64 (imin a1 9223372036854775807))
def qBA (a1:Span):Option Int:= (qAk a1).bind λv2=> (FC v2).bind λv4=> some v4
def UQ (v2:qI):Nat->Int->Int->Option Int
 |0,_,_=>none
 |n+1,x4,x5=> bif decide (x5<(v2.Rows.length:Int)) then bif inb x5 v2.Rows.length then (qBA (v2.Rows.getD x5.toNat dd)).bind λv8=> (UQ v2 n) (w64 (x4+v8)) (w64 (x5+1)) else none else some x4
def FD (a1:qI):Option Int:= (JV a1).bind λv2=> (UQ v2 FUEL 0 0).bind λo11=> some (w64 (10*o11))
def UL (v2:(List qV)):Nat->Int->Int->Option Int
 |0,_,_=>none
 |n+1,x4,x5=> bif decide (x5<(v2.length:Int)) then bif inb x5 v2.length then (FD ((v2.getD x5.toNat dd).Sec)).bind λv8=> (UL v2 n) (w64 (x4+(w64 (((v2.getD x5.toNat dd).Len)*v8)))) (w64 (x5+1)) else none else some x4
def UE (a1:List qV):Option Int:= (SC a1).bind λv2=> (UL v2 FUEL 0 0).bind λo11=> some o11 @[irreducible] def law15_awake :Option Bool:=some true
def ZY (x2:Int) (R:Int->Option (Bool⊕Unit)) (x8:Bool):Option (Bool⊕Unit):= bif x8 then some (Sum.inl false) else R (w64 (x2+1))
def wS (a1:List qA):Nat->Int->Option (Bool⊕Unit)
 |0,_=>none
 |n+1,x2=> bif decide (x2<(a1.length:Int)) then bif inb x2 a1.length then bif decide (((a1.getD x2.toNat dd).X)<(-600)) then ZY x2 (wS a1 n) true else bif decide (((a1.getD x2.toNat dd).X)>600) then ZY x2 (wS a1 n) true else bif decide (((a1.getD x2.toNat dd).Y)<(-600)) then ZY x2 (wS a1 n) true else ZY x2 (wS a1 n) (decide (((a1.getD x2.toNat dd).Y)>600)) else none else some (Sum.inr ())
def FH (a1:List qA):Option Bool:= (wS a1 FUEL 0).bind λu12=>Sum.elim (λv13=>some v13) (λo10=> some true) u12
def VP (x7:Int) (R:Int->Option (Int⊕Unit)) (x16:Bool):Option (Int⊕Unit):= bif x16 then some (Sum.inl 19) else R (w64 (x7+1))
def GQ (a1:Ring) (x7:Int) (R:Int->Option (Int⊕Unit)) (x13:Bool):Option (Int⊕Unit):= bif x13 then some (Sum.inl 9) else bif !((a1.Read.getD x7.toNat dd).Ok) then VP x7 R (!(((((a1.Read.getD x7.toNat dd).P).X)==0)&&(((((a1.Read.getD x7.toNat dd).P).Y)==0)&&true))) else VP x7 R false
def QG (a1:Ring):Nat->Int->Option (Int⊕Unit)
 |0,_=>none
 |n+1,x7=> bif decide (x7<(a1.Read.length:Int)) then bif inb x7 a1.Read.length then bif (a1.Read.getD x7.toNat dd).Ok then (FH [(a1.Read.getD x7.toNat dd).P]).bind λv11=> GQ a1 x7 (QG a1 n) (!v11) else GQ a1 x7 (QG a1 n) false else none else some (Sum.inr ())
def VO (a1:Ring) (x5:Bool):Option Int:= bif x5 then some 9 else (QG a1 FUEL 0).bind λu20=>Sum.elim (λv21=>some v21) (λo18=> some 0) u20
def DB (a1:Ring):Option Int:= bif decide ((a1.Read.length:Int)<8) then some 3 else bif decide ((a1.Read.length:Int)>32) then some 4 else bif decide (a1.Z<0) then VO a1 true else VO a1 (decide (a1.Z>20000))
def BR (x8:Int) (R:Int->Option Int) (x12:Bool):Option Int:= bif x12 then R (w64 (x8+1)) else some x8
def wK (a1:Ring) (x4:Int):Nat->Int->Option Int
 |0,_=>none
 |n+1,x8=> bif decide (x8<(a1.Read.length:Int)) then bif nz (a1.Read.length:Int) then bif inb (Int.tmod (w64 (x4+x8)) (a1.Read.length:Int)) a1.Read.length then BR x8 (wK a1 x4 n) (!((a1.Read.getD (Int.tmod (w64 (x4+x8)) (a1.Read.length:Int)).toNat dd).Ok)) else none else none else BR x8 (wK a1 x4 n) false
def BK (x4:Int) (R:Int->Int->Int->Option (Int×Int)) (x17:Int) (x18:Int):Option (Int×Int):= R x17 x18 (w64 (x4+1))
def ZH (a1:Ring):Nat->Int->Int->Int->Option (Int×Int)
 |0,_,_,_=>none
 |n+1,x2,x3,x4=> bif decide (x4<(a1.Read.length:Int)) then bif inb x4 a1.Read.length then bif (a1.Read.getD x4.toNat dd).Ok then BK x4 (ZH a1 n) x2 x3 else (wK a1 x4 FUEL 0).bind λo15=> BK x4 (ZH a1 n) (w64 (x2+1)) (imax x3 o15) else none else some (x2,x3)
def AR (a1:Ring):Option (Int×Int):= (ZH a1 FUEL 0 0 0).bind λo21=> some (o21.1,o21.2)
def zaQ (a1:Ring):Option Ring:= bif room (0+a1.Read.length) 24 then some (Ring.mk a1.Z (([]:List qB)++a1.Read)) else none
def jQ (a1:List qD):Option (List qD):= bif room a1.length 56 then some a1 else none
def JY (x14:Int) (R:Int->(List qB)->Option (List qB)) (l21:List qB):Option (List qB):= R (w64 (x14+1)) l21
def zY (a1:Ring) (a2:Ring):Nat->Int->(List qB)->Option (List qB)
 |0,_,_=>none
 |n+1,x14,l15=> bif decide (x14<(a1.Read.length:Int)) then bif inb x14 a1.Read.length then bif !((a1.Read.getD x14.toNat dd).Ok) then bif inb x14 a2.Read.length then bif inb x14 l15.length then JY x14 (zY a1 a2 n) (l15.set x14.toNat (a2.Read.getD x14.toNat dd)) else none else none else JY x14 (zY a1 a2 n) l15 else none else some l15
def ZI (a1:Ring) (a2:Ring) (x10:Bool):Option (Ring×Int):= bif x10 then some ((Ring.mk 0 []),19) else (KJ a1).bind λv12=> (zY a1 a2 FUEL 0 v12.Read).bind λo23=> some ((Ring.mk v12.Z o23),0)
def yH (a1:Ring) (a2:Ring):Option (Ring×Int):= (QA a1).bind λv3=> bif v3 !=0 then some ((Ring.mk 0 []),v3) else (QA a2).bind λv6=> bif v6 !=0 then some ((Ring.mk 0 []),v6) else bif a1.Z !=a2.Z then ZI a1 a2 true else ZI a1 a2 ((a1.Read.length:Int) !=(a2.Read.length:Int))
def zI (a1:List qD) (a2:qD):Nat->Int->Option (Int⊕Unit)
 |0,_=>none
 |n+1,x3=> bif decide (x3<(a1.length:Int)) then bif inb x3 a1.length then bif ((a2.Kind==((a1.getD x3.toNat dd).Kind))&&((((a2.Box.X.A==((((a1.getD x3.toNat dd).Box).X).A))&&((a2.Box.X.B==((((a1.getD x3.toNat dd).Box).X).B))&&true))&&(((a2.Box.Y.A==((((a1.getD x3.toNat dd).Box).Y).A))&&((a2.Box.Y.B==((((a1.getD x3.toNat dd).Box).Y).B))&&true))&&(((a2.Box.Z.A==((((a1.getD x3.toNat dd).Box).Z).A))&&((a2.Box.Z.B==((((a1.getD x3.toNat dd).Box).Z).B))&&true))&&true)))&&true)) then some (Sum.inl x3) else (zI a1 a2 n) (w64 (x3+1)) else none else some (Sum.inr ())
def yZ (a1:List qD) (a2:qD):Option Int:= (zI a1 a2 FUEL 0).bind λu9=>Sum.elim (λv10=>some v10) (λo7=> some (-1)) u9
def wQ (a1:List qD) (a2:qD):Option Bool:= (yZ a1 a2).bind λv3=> some (decide (v3≥0))
def jY (a1:Scan) (a2:Scan):Nat->Int->(List Ring)->Option ((Scan×Int)⊕(List Ring))
 |0,_,_=>none
 |n+1,x13,l14=> bif decide (x13<(a1.Rings.length:Int)) then bif inb x13 a1.Rings.length then bif inb x13 a2.Rings.length then (yH (a1.Rings.getD x13.toNat dd) (a2.Rings.getD x13.toNat dd)).bind λv18=> bif v18.2 !=0 then some (Sum.inl ((Scan.mk [] []),v18.2)) else bif inb x13 l14.length then (jY a1 a2 n) (w64 (x13+1)) (l14.set x13.toNat v18.1) else none else none else none else some (Sum.inr l14)
def PX (x27:Int) (R:Int->(List qD)->Option (List qD)) (l35:List qD):Option (List qD):= R (w64 (x27+1)) l35
def wJ (a1:Scan) (a2:Scan):Nat->Int->(List qD)->Option (List qD)
 |0,_,_=>none
 |n+1,x27,l28=> bif decide (x27<(a2.Defects.length:Int)) then bif inb x27 a2.Defects.length then (wQ a1.Defects (a2.Defects.getD x27.toNat dd)).bind λv31=> bif !v31 then bif room (l28.length+1) 56 then PX x27 (wJ a1 a2 n) (l28++[(a2.Defects.getD x27.toNat dd)]) else none else PX x27 (wJ a1 a2 n) l28 else none else some l28
def KO (a1:Scan) (a2:Scan):Option (Scan×Int):= (wP a1).bind λv3=> bif v3 !=0 then some ((Scan.mk [] []),v3) else (wP a2).bind λv6=> bif v6 !=0 then some ((Scan.mk [] []),v6) else bif (a1.Rings.length:Int) !=(a2.Rings.length:Int) then some ((Scan.mk [] []),19) else bif mkOk (a1.Rings.length:Int) 32 then (jQ a1.Defects).bind λv11=> (jY a1 a2 FUEL 0 (List.replicate ((a1.Rings.length:Int).toNat) (Ring.mk 0 []))).bind λu25=>Sum.elim (λv26=>some v26) (λo23=> (wJ a1 a2 FUEL 0 v11).bind λo37=> bif decide ((o37.length:Int)>64) then some ((Scan.mk [] []),4) else some ((Scan.mk o23 o37),0)) u25 else none
def VN (x14:Int) (R:Int->(List qB)->Option (List qB)) (l20:List qB):Option (List qB):= R (w64 (x14+1)) l20
def QH (a2:Ring):Nat->Int->(List qB)->Option (List qB)
 |0,_,_=>none
 |n+1,x14,l15=> bif decide (x14<(l15.length:Int)) then bif inb x14 l15.length then bif !((l15.getD x14.toNat dd).Ok) then bif inb x14 a2.Read.length then VN x14 (QH a2 n) (l15.set x14.toNat (a2.Read.getD x14.toNat dd)) else none else VN x14 (QH a2 n) l15 else none else some l15
def VV (a1:Ring) (a2:Ring) (x10:Bool):Option (Ring×Int):= bif x10 then some ((Ring.mk 0 []),19) else (zaQ a1).bind λv12=> (QH a2 FUEL 0 v12.Read).bind λo22=> some ((Ring.mk v12.Z o22),0)
def SR (a1:Ring) (a2:Ring):Option (Ring×Int):= (DB a1).bind λv3=> bif v3 !=0 then some ((Ring.mk 0 []),v3) else (DB a2).bind λv6=> bif v6 !=0 then some ((Ring.mk 0 []),v6) else bif a1.Z !=a2.Z then VV a1 a2 true else VV a1 a2 ((a1.Read.length:Int) !=(a2.Read.length:Int))
def QV (a1:List qD) (a2:qD):Nat->Int->Option (Bool⊕Unit)
 |0,_=>none
 |n+1,x3=> bif decide (x3<(a1.length:Int)) then bif inb x3 a1.length then bif ((((a1.getD x3.toNat dd).Kind)==a2.Kind)&&((((((((a1.getD x3.toNat dd).Box).X).A)==a2.Box.X.A)&&((((((a1.getD x3.toNat dd).Box).X).B)==a2.Box.X.B)&&true))&&(((((((a1.getD x3.toNat dd).Box).Y).A)==a2.Box.Y.A)&&((((((a1.getD x3.toNat dd).Box).Y).B)==a2.Box.Y.B)&&true))&&(((((((a1.getD x3.toNat dd).Box).Z).A)==a2.Box.Z.A)&&((((((a1.getD x3.toNat dd).Box).Z).B)==a2.Box.Z.B)&&true))&&true)))&&true)) then some (Sum.inl true) else (QV a1 a2 n) (w64 (x3+1)) else none else some (Sum.inr ())
def qDM (a1:List qD) (a2:qD):Option Bool:= (QV a1 a2 FUEL 0).bind λu9=>Sum.elim (λv10=>some v10) (λo7=> some false) u9
def ZA (x28:Bool):Option Bool:= some x28
def wV (x35:Int) (R:Int->Option (Bool⊕Unit)) (x49:Bool):Option (Bool⊕Unit):= bif x49 then some (Sum.inl false) else R (w64 (x35+1))
def zH (a1:Scan) (a2:Scan) (v22:Scan×Int):Nat->Int->Option (Bool⊕Unit)
 |0,_=>none
 |n+1,x35=> bif decide (x35<(v22.1.Rings.length:Int)) then bif inb x35 v22.1.Rings.length then (wA (v22.1.Rings.getD x35.toNat dd)).bind λv38=> bif inb x35 a1.Rings.length then (wA (a1.Rings.getD x35.toNat dd)).bind λv41=> bif inb x35 a2.Rings.length then (wA (a2.Rings.getD x35.toNat dd)).bind λv44=> bif decide (v38.1>v41.1) then wV x35 (zH a1 a2 v22 n) true else bif decide (v38.1>v44.1) then wV x35 (zH a1 a2 v22 n) true else bif decide (v38.2>v41.2) then wV x35 (zH a1 a2 v22 n) true else wV x35 (zH a1 a2 v22 n) (decide (v38.2>v44.2)) else none else none else none else some (Sum.inr ())
def yD (a1:Scan) (a2:Scan) (v22:Scan×Int) (x33:Bool):Option Bool:= bif x33 then some false else (zH a1 a2 v22 FUEL 0).bind λu53=>Sum.elim (λv54=>some v54) (λo51=> (law15_awake).bind λv55=> some v55) u53
def wX (a1:Scan) (a2:Scan) (x20:Bool):Option Bool:= bif x20 then some false else (KO a1 a2).bind λv22=> bif v22.2 !=0 then bif (w64 ((v22.1.Rings.length:Int)+(v22.1.Defects.length:Int)))==0 then (law15_awake).bind λv26=> ZA v26 else ZA false else (wP (Scan.mk v22.1.Rings v22.1.Defects)).bind λv29=> bif v29 !=0 then yD a1 a2 v22 true else bif (v22.1.Rings.length:Int) !=(a1.Rings.length:Int) then yD a1 a2 v22 true else yD a1 a2 v22 ((v22.1.Rings.length:Int) !=(a2.Rings.length:Int))
def wW (a1:Scan) (a2:Scan) (x8:Bool):Option Bool:= bif x8 then (law15_awake).bind λv10=> some v10 else (KO a1 a1).bind λv12=> (wP a1).bind λv14=> bif v12.2 !=v14 then wX a1 a2 true else bif v14==0 then (JC (Scan.mk v12.1.Rings v12.1.Defects) a1).bind λv18=> wX a1 a2 (!v18) else wX a1 a2 false
def QL (a1:Scan) (a2:Scan):Option Bool:= (TF a1).bind λv3=> bif !v3 then wW a1 a2 true else (TF a2).bind λv6=> wW a1 a2 (!v6)
end Saw
end Go.SL

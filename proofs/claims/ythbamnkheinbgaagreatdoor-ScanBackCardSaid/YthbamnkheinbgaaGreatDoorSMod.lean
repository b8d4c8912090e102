import Derived.Test.YthbamnkheinbgaaGreatDoorYa6
set_option linter.unusedVariables false
set_option linter.unusedSimpArgs false
namespace Go.SL
namespace Saw
structure qA where
 X:Int
 Y:Int
instance : Inhabited qA:=⟨⟨0,0⟩⟩
def qB (r:qA):List C:=[ci r.X,ci r.Y]
structure qC where
 P:qA
 Ok:Bool
instance : Inhabited qC:=⟨⟨dd,false⟩⟩
def qF (r:qC):List C:=[ci r.P.X,ci r.P.Y,cb r.Ok]
structure Ring where
 Z:Int
 Read:List qC
instance : Inhabited Ring:=⟨⟨0,[]⟩⟩
def qO (r:Ring):List C:=[ci r.Z,tl qF dd r.Read]
structure Span where
 A:Int
 B:Int
instance : Inhabited Span:=⟨⟨0,0⟩⟩
def qH (r:Span):List C:=[ci r.A,ci r.B]
structure Box where
 X:Span
 Y:Span
 Z:Span
instance : Inhabited Box:=⟨⟨dd,dd,dd⟩⟩
def qCP (r:Box):List C:=[ci r.X.A,ci r.X.B,ci r.Y.A,ci r.Y.B,ci r.Z.A,ci r.Z.B]
structure qI where
 Kind:Int
 Box:Box
instance : Inhabited qI:=⟨⟨0,dd⟩⟩
def qM (r:qI):List C:=[ci r.Kind,ci r.Box.X.A,ci r.Box.X.B,ci r.Box.Y.A,ci r.Box.Y.B,ci r.Box.Z.A,ci r.Box.Z.B]
structure Scan where
 Rings:List Ring
 Defects:List qI
instance : Inhabited Scan:=⟨⟨[],[]⟩⟩
def zA (r:Scan):List C:=[tl qO dd r.Rings,tl qM dd r.Defects]
structure qG where
 Low:Int
 Rows:List Span
instance : Inhabited qG:=⟨⟨0,[]⟩⟩
def qQ (r:qG):List C:=[ci r.Low,tl qH dd r.Rows]
structure Rect where
 X:Span
 Y:Span
instance : Inhabited Rect:=⟨⟨dd,dd⟩⟩
def ZQ (r:Rect):List C:=[ci r.X.A,ci r.X.B,ci r.Y.A,ci r.Y.B]
structure qU where
 Len:Int
 Sec:qG
instance : Inhabited qU:=⟨⟨0,dd⟩⟩
def qW (r:qU):List C:=[ci r.Len,ci r.Sec.Low,tl qH dd r.Sec.Rows]
structure qD where
 s:ByteArray
 at_:Int
 e:Int
instance : Inhabited qD:=⟨⟨⟨#[]⟩,0,0⟩⟩
def qK (r:qD):List C:=[cs r.s,ci r.at_,ci r.e]
structure qR where
 S:ByteArray
 At:Int
 E:Int
instance : Inhabited qR:=⟨⟨⟨#[]⟩,0,0⟩⟩
def SP :List Int:=[(-1),1]
def globs :List (Nat×C):=[(0,.aptr 2 1 (rf qL SP))]
def ZD (a1:Scan):Nat->Int->Option (Bool⊕Unit)
 |0,_=>none
 |n+1,x5=> bif decide (x5<(a1.Rings.length:Int)) then bif inb x5 a1.Rings.length then bif decide (((((a1.Rings.getD x5.toNat dd).Read).length:Nat):Int)>60) then some (Sum.inl false) else (ZD a1 n) (w64 (x5+1)) else none else some (Sum.inr ())
def UJ (a1:Scan) (x3:Bool):Option Bool:= bif x3 then some false else (ZD a1 FUEL 0).bind λu11=>Sum.elim (λv12=>some v12) (λo9=> some true) u11
def GX (a1:Scan):Option Bool:= bif decide ((a1.Rings.length:Int)>40) then UJ a1 true else UJ a1 (decide ((a1.Defects.length:Int)>100))
def YW :Nat->Int->(List qC)->Option (List qC)
 |0,_,_=>none
 |n+1,x4,l5=> bif decide (x4<((8:Nat):Int)) then bif inb x4 8 then bif room (l5.length+1) 24 then (YW n) (w64 (x4+1)) (l5++([(qC.mk (qA.mk (([(-50),0,50,50,50,0,(-50),(-50)]:List Int).getD x4.toNat dd) (([(-20),(-20),(-20),0,20,20,20,0]:List Int).getD x4.toNat dd)) true)]:List qC)) else none else none else some l5
def KN (x3:Bool):Option Bool:= some x3
def YQ (a1:Int):Option Bool:= bif decide (a1≥(-600)) then KN (decide (a1<=600)) else KN false
def PP (x7:Int) (R:Int->Option (Int⊕Unit)) (x19:Bool):Option (Int⊕Unit):= bif x19 then some (Sum.inl 19) else R (w64 (x7+1))
def YC (a1:Ring) (x7:Int) (R:Int->Option (Int⊕Unit)) (x16:Bool):Option (Int⊕Unit):= bif x16 then some (Sum.inl 9) else bif !((a1.Read.getD x7.toNat dd).Ok) then PP x7 R (!(((((a1.Read.getD x7.toNat dd).P).X)==0)&&(((((a1.Read.getD x7.toNat dd).P).Y)==0)&&true))) else PP x7 R false
def wH (a1:Ring):Nat->Int->Option (Int⊕Unit)
 |0,_=>none
 |n+1,x7=> bif decide (x7<(a1.Read.length:Int)) then bif inb x7 a1.Read.length then bif (a1.Read.getD x7.toNat dd).Ok then (YQ (((a1.Read.getD x7.toNat dd).P).X)).bind λv11=> bif !v11 then YC a1 x7 (wH a1 n) true else (YQ (((a1.Read.getD x7.toNat dd).P).Y)).bind λv14=> YC a1 x7 (wH a1 n) (!v14) else YC a1 x7 (wH a1 n) false else none else some (Sum.inr ())
def PH (a1:Ring) (x5:Bool):Option Int:= bif x5 then some 9 else (wH a1 FUEL 0).bind λu23=>Sum.elim (λv24=>some v24) (λo21=> some 0) u23
def JP (a1:Ring):Option Int:= bif decide ((a1.Read.length:Int)<8) then some 3 else bif decide ((a1.Read.length:Int)>32) then some 4 else bif decide (a1.Z<0) then PH a1 true else PH a1 (decide (a1.Z>20000))
def QT (a1:Span):Option Bool:= some (decide (a1.A≥a1.B))
def JO (x5:Bool):Option Bool:= some x5
def QA (a1:Span) (a2:Int) (a3:Int):Option Bool:= bif decide ((imin a1.A a1.B)≥a2) then JO (decide ((imax a1.A a1.B)<=a3)) else JO false
def ZU (x23:Bool):Option Int:= bif x23 then some 9 else some 0
def ZT (a1:qI) (x13:Bool):Option Int:= bif x13 then some 19 else (QA a1.Box.X (-600) 600).bind λv15=> bif !v15 then ZU true else (QA a1.Box.Y (-600) 600).bind λv18=> bif !v18 then ZU true else (QA a1.Box.Z 0 20000).bind λv21=> ZU (!v21)
def YZ (a1:qI) (x3:Bool):Option Int:= bif x3 then some 10 else (QT a1.Box.X).bind λv5=> bif v5 then ZT a1 true else (QT a1.Box.Y).bind λv8=> bif v8 then ZT a1 true else (QT a1.Box.Z).bind λv11=> ZT a1 v11
def KA (a1:qI):Option Int:= bif decide (a1.Kind<1) then YZ a1 true else YZ a1 (decide (a1.Kind>6))
def jL (a1:List qI):Nat->Int->Option (Int⊕Unit)
 |0,_=>none
 |n+1,x3=> bif decide (x3<(a1.length:Int)) then bif inb x3 a1.length then (KA (a1.getD x3.toNat dd)).bind λv6=> bif v6 !=0 then some (Sum.inl v6) else (jL a1 n) (w64 (x3+1)) else none else some (Sum.inr ())
def XR (a1:List qI):Option Int:= bif decide ((a1.length:Int)>64) then some 4 else (jL a1 FUEL 0).bind λu11=>Sum.elim (λv12=>some v12) (λo9=> some 0) u11
def yY (a1:Scan) (x4:Int) (R:Int->Option (Int⊕Unit)) (x16:Bool):Option (Int⊕Unit):= bif x16 then some (Sum.inl 11) else bif inb 0 a1.Rings.length then bif ((((a1.Rings.getD x4.toNat dd).Read).length:Nat):Int) !=((((a1.Rings.getD (0:Int).toNat dd).Read).length:Nat):Int) then some (Sum.inl 19) else R (w64 (x4+1)) else none
def zS (a1:Scan):Nat->Int->Option (Int⊕Unit)
 |0,_=>none
 |n+1,x4=> bif decide (x4<(a1.Rings.length:Int)) then bif inb x4 a1.Rings.length then (JP (a1.Rings.getD x4.toNat dd)).bind λv7=> bif v7 !=0 then some (Sum.inl v7) else bif x4==0 then bif ((a1.Rings.getD x4.toNat dd).Z) !=0 then yY a1 x4 (zS a1 n) true else bif decide (x4>0) then bif inb (w64 (x4-1)) a1.Rings.length then yY a1 x4 (zS a1 n) (decide (((a1.Rings.getD x4.toNat dd).Z)<=((a1.Rings.getD (w64 (x4-1)).toNat dd).Z))) else none else yY a1 x4 (zS a1 n) false else bif decide (x4>0) then bif inb (w64 (x4-1)) a1.Rings.length then yY a1 x4 (zS a1 n) (decide (((a1.Rings.getD x4.toNat dd).Z)<=((a1.Rings.getD (w64 (x4-1)).toNat dd).Z))) else none else yY a1 x4 (zS a1 n) false else none else some (Sum.inr ())
def ZP (a1:Scan):Nat->Int->Option (Int⊕Unit)
 |0,_=>none
 |n+1,x28=> bif decide (x28<(a1.Defects.length:Int)) then bif inb x28 a1.Defects.length then bif decide (((((a1.Defects.getD x28.toNat dd).Box).Z).B)>((a1.Rings.getD (w64 ((a1.Rings.length:Int)-1)).toNat dd).Z)) then some (Sum.inl 9) else (ZP a1 n) (w64 (x28+1)) else none else some (Sum.inr ())
def yJ (a1:Scan):Option Int:= bif decide ((a1.Rings.length:Int)<2) then some 3 else bif decide ((a1.Rings.length:Int)>24) then some 4 else (zS a1 FUEL 0).bind λu22=>Sum.elim (λv23=>some v23) (λo20=> (XR a1.Defects).bind λv24=> bif v24 !=0 then some v24 else bif inb (w64 ((a1.Rings.length:Int)-1)) a1.Rings.length then (ZP a1 FUEL 0).bind λu34=>Sum.elim (λv35=>some v35) (λo32=> some 0) u34 else none) u22
def WZ (a1:List qC):Option (List qC):= bif room a1.length 24 then some a1 else none
def EI (a1:Ring):Option Ring:= (WZ a1.Read).bind λv2=> some (Ring.mk a1.Z v2)
def PY (x3:Int) (R:(List Int)->Int->Option (List Int)) (l8:List Int):Option (List Int):= R l8 (w64 (x3+1))
def QX (a1:Ring):Nat->(List Int)->Int->Option (List Int)
 |0,_,_=>none
 |n+1,l2,x3=> bif decide (x3<(a1.Read.length:Int)) then bif inb x3 a1.Read.length then bif (a1.Read.getD x3.toNat dd).Ok then bif room (l2.length+1) 8 then PY x3 (QX a1 n) (l2++[x3]) else none else PY x3 (QX a1 n) l2 else none else some l2
def YF (a1:Ring):Option (List Int):= (QX a1 FUEL [] 0).bind λo10=> some o10
def HN (x5:Bool):Option Bool:= some x5
def qBO (a1:qA) (a2:qA) (a3:Int):Option Bool:= bif decide ((imax (w64 (a1.X-a2.X)) (w64 (a2.X-a1.X)))>a3) then HN true else HN (decide ((imax (w64 (a1.Y-a2.Y)) (w64 (a2.Y-a1.Y)))>a3))
def BH (x18:Int) (R:Bool->Int->Option Bool) (x28:Bool):Option Bool:= R x28 (w64 (x18+1))
def YE (a1:Ring) (a2:Int) (v5:(List Int)) (x13:Int):Nat->Bool->Int->Option Bool
 |0,_,_=>none
 |n+1,x17,x18=> bif decide (x18<2) then bif inb x18 2 then bif nz (v5.length:Int) then bif inb (Int.tmod (w64 ((w64 (x13+(v5.length:Int)))+(([(-1),1]:List Int).getD x18.toNat 0))) (v5.length:Int)) v5.length then bif inb (v5.getD ((Int.tmod (w64 ((w64 (x13+(v5.length:Int)))+(([(-1),1]:List Int).getD x18.toNat 0))) (v5.length:Int)).toNat) dd) a1.Read.length then bif x17 then bif inb (v5.getD x13.toNat dd) a1.Read.length then (qBO ((a1.Read.getD (v5.getD x13.toNat dd).toNat dd).P) ((a1.Read.getD (v5.getD ((Int.tmod (w64 ((w64 (x13+(v5.length:Int)))+(([(-1),1]:List Int).getD x18.toNat 0))) (v5.length:Int)).toNat) dd).toNat dd).P) a2).bind λv26=> BH x18 (YE a1 a2 v5 x13 n) v26 else none else BH x18 (YE a1 a2 v5 x13 n) false
 else none else none else none else none else some x17
def BE (x13:Int) (R:Int->(List qC)->Option (List qC)) (l34:List qC):Option (List qC):= R (w64 (x13+1)) l34
def YD (a1:Ring) (a2:Int) (v5:(List Int)):Nat->Int->(List qC)->Option (List qC)
 |0,_,_=>none
 |n+1,x13,l14=> bif decide (x13<(v5.length:Int)) then bif inb x13 v5.length then (YE a1 a2 v5 x13 FUEL true 0).bind λo30=> bif o30 then bif inb (v5.getD x13.toNat dd) l14.length then BE x13 (YD a1 a2 v5 n) (l14.set ((v5.getD x13.toNat dd).toNat) (qC.mk (qA.mk 0 0) false)) else none else BE x13 (YD a1 a2 v5 n) l14 else none else some l14
def PK (a1:Ring) (a2:Int) (v3:Ring) (v5:(List Int)) (x11:Bool):Option Ring:= bif x11 then some (Ring.mk v3.Z v3.Read) else (YD a1 a2 v5 FUEL 0 v3.Read).bind λo36=> some (Ring.mk v3.Z o36)
def AK (a1:Ring) (a2:Int):Option Ring:= (EI a1).bind λv3=> (YF a1).bind λv5=> bif decide (a2<0) then PK a1 a2 v3 v5 true else bif decide ((v5.length:Int)<2) then PK a1 a2 v3 v5 true else (JP a1).bind λv9=> PK a1 a2 v3 v5 (v9 !=0)
def GK (a1:Ring) (a2:List Int) (a3:Int):Option Int:= bif decide ((w64 (a3+1))<(a2.length:Int)) then bif inb (w64 (a3+1)) a2.length then bif inb a3 a2.length then some (w64 ((w64 ((a2.getD (w64 (a3+1)).toNat dd)-(a2.getD a3.toNat dd)))-1)) else none else none else bif inb 0 a2.length then bif inb a3 a2.length then some (w64 ((w64 ((w64 ((a2.getD (0:Int).toNat dd)+(a1.Read.length:Int)))-(a2.getD a3.toNat dd)))-1)) else none else none
def NX (a1:Ring) (v2:(List Int)):Nat->Int->Int->Option Int
 |0,_,_=>none
 |n+1,x5,x6=> bif decide (x6<(v2.length:Int)) then (GK a1 v2 x6).bind λv8=> (NX a1 v2 n) (imax x5 v8) (w64 (x6+1)) else some x5
def CD (a1:Ring):Option (Int×Int):= (YF a1).bind λv2=> bif (v2.length:Int)==0 then some (w64 ((a1.Read.length:Int)-(v2.length:Int)),w64 ((a1.Read.length:Int)-(v2.length:Int))) else (NX a1 v2 FUEL 0 0).bind λo11=> some (w64 ((a1.Read.length:Int)-(v2.length:Int)),o11)
def BA (x5:Int):Option Int:= some x5
def NF (a1:Int) (a2:Int):Option Int:= bif nz a2 then bif decide ((Int.tmod a1 a2)<0) then BA (w64 ((w64 (Int.tdiv a1 a2))-1)) else BA (w64 (Int.tdiv a1 a2)) else none
def VC (a1:Ring) (v6:(List Int)) (x16:Int) (v24:Int):Nat->(List qA)->Int->Option (List qA)
 |0,_,_=>none
 |n+1,l26,x27=> bif decide (x27<=v24) then bif nz (l26.length:Int) then (NF (w64 ((w64 ((((a1.Read.getD (v6.getD ((Int.tmod (w64 (x16+1)) (v6.length:Int)).toNat) dd).toNat dd).P).X)-(((a1.Read.getD (v6.getD x16.toNat dd).toNat dd).P).X)))*x27)) (w64 (v24+1))).bind λv30=> (NF (w64 ((w64 ((((a1.Read.getD (v6.getD ((Int.tmod (w64 (x16+1)) (v6.length:Int)).toNat) dd).toNat dd).P).Y)-(((a1.Read.getD (v6.getD x16.toNat dd).toNat dd).P).Y)))*x27)) (w64 (v24+1))).bind λv32=> bif inb (Int.tmod (w64 ((v6.getD x16.toNat dd)+x27)) (l26.length:Int)) l26.length then (VC a1 v6 x16 v24 n) (l26.set ((Int.tmod (w64 ((v6.getD x16.toNat dd)+x27)) (l26.length:Int)).toNat) (qA.mk (w64 ((((a1.Read.getD (v6.getD x16.toNat dd).toNat dd).P).X)+v30)) (w64 ((((a1.Read.getD (v6.getD x16.toNat dd).toNat dd).P).Y)+v32)))) (w64 (x27+1))
 else none else none else some l26
def UW (a1:Ring) (v6:(List Int)):Nat->(List qA)->Int->Option (List qA)
 |0,_,_=>none
 |n+1,l15,x16=> bif decide (x16<(v6.length:Int)) then bif inb x16 v6.length then bif inb (v6.getD x16.toNat dd) a1.Read.length then bif nz (v6.length:Int) then bif inb (Int.tmod (w64 (x16+1)) (v6.length:Int)) v6.length then bif inb (v6.getD ((Int.tmod (w64 (x16+1)) (v6.length:Int)).toNat) dd) a1.Read.length then bif inb (v6.getD x16.toNat dd) l15.length then (GK a1 v6 x16).bind λv24=> (VC a1 v6 x16 v24 FUEL (l15.set ((v6.getD x16.toNat dd).toNat) ((a1.Read.getD (v6.getD x16.toNat dd).toNat dd).P)) 1).bind λo36=> (UW a1 v6 n) o36 (w64 (x16+1)) else none else none else none else none else none else none else some l15
def KB (a1:Ring) (v6:(List Int)) (x12:Bool):Option ((List qA)×Int):= bif x12 then some ([],30) else bif mkOk (a1.Read.length:Int) 16 then (UW a1 v6 FUEL (List.replicate ((a1.Read.length:Int).toNat) (qA.mk 0 0)) 0).bind λo39=> some (o39,0) else none
def MV (a1:Ring) (a2:Int):Option ((List qA)×Int):= (JP a1).bind λv3=> bif v3 !=0 then some ([],v3) else (YF a1).bind λv6=> (CD a1).bind λv8=> bif decide ((v6.length:Int)<3) then KB a1 v6 true else bif decide (v8.1>0) then KB a1 v6 (decide (v8.2>a2)) else KB a1 v6 false
def VN (x3:Bool):Option Bool:= some x3
def GS (a1:Int):Option Bool:= bif decide (a1≥(-600)) then VN (decide (a1<=600)) else VN false
def UA (x2:Int) (R:Int->Option (Bool⊕Unit)) (x10:Bool):Option (Bool⊕Unit):= bif x10 then some (Sum.inl false) else R (w64 (x2+1))
def ZY (a1:List qA):Nat->Int->Option (Bool⊕Unit)
 |0,_=>none
 |n+1,x2=> bif decide (x2<(a1.length:Int)) then bif inb x2 a1.length then (GS ((a1.getD x2.toNat dd).X)).bind λv5=> bif !v5 then UA x2 (ZY a1 n) true else (GS ((a1.getD x2.toNat dd).Y)).bind λv8=> UA x2 (ZY a1 n) (!v8) else none else some (Sum.inr ())
def XV (a1:List qA):Option Bool:= (ZY a1 FUEL 0).bind λu14=>Sum.elim (λv15=>some v15) (λo12=> some true) u14
def BJ (a1:List qA):Nat->Int->Int->Option Int
 |0,_,_=>none
 |n+1,x7,x8=> bif decide (x8<(a1.length:Int)) then bif inb x8 a1.length then bif nz (a1.length:Int) then bif inb (Int.tmod (w64 (x8+1)) (a1.length:Int)) a1.length then (BJ a1 n) (w64 (x7+(w64 ((w64 (((a1.getD x8.toNat dd).X)*((a1.getD (Int.tmod (w64 (x8+1)) (a1.length:Int)).toNat dd).Y)))-(w64 (((a1.getD (Int.tmod (w64 (x8+1)) (a1.length:Int)).toNat dd).X)*((a1.getD x8.toNat dd).Y))))))) (w64 (x8+1)) else none else none else none else some x7
def DV (a1:List qA) (x5:Bool):Option Int:= bif x5 then some 0 else (BJ a1 FUEL 0 0).bind λo14=> some o14
def EG (a1:List qA):Option Int:= bif decide ((a1.length:Int)>32) then DV a1 true else (XV a1).bind λv3=> DV a1 (!v3)
def AP (a1:List qA):Option Int:= bif decide ((a1.length:Int)<3) then some 3 else bif decide ((a1.length:Int)>32) then some 4 else (XV a1).bind λv4=> bif !v4 then some 9 else (EG a1).bind λv7=> bif v7==0 then some 19 else some 0
def UR (a1:Int) (a2:Int):Option Span:= some (Span.mk (w64 (10*a1)) (w64 (10*a2)))
def YT (a1:List qA):Option (List qA):= bif room a1.length 16 then some a1 else none
def YM (a1:Int):Option Bool:= some (a1 !=a1)
def yT (a1:Int) (a2:Int):Option Int:= (YM a1).bind λv3=> (YM a2).bind λv5=> bif v3 then bif v5 then some 0 else some (-1) else bif v5 then some 1 else bif decide (a1<a2) then some (-1) else bif decide (a1>a2) then some 1 else some 0
def QP (a1:List Int):Nat->Int->Option (Int⊕Unit)
 |0,_=>none
 |n+1,x2=> bif decide (x2<(a1.length:Int)) then bif inb x2 a1.length then bif (a1.getD x2.toNat dd) !=0 then some (Sum.inl (a1.getD x2.toNat dd)) else (QP a1 n) (w64 (x2+1)) else none else some (Sum.inr ())
def KZ (a1:List Int):Option Int:= (QP a1 FUEL 0).bind λu8=>Sum.elim (λv9=>some v9) (λo6=> some 0) u8
def poly_Hull_1 (a1:qA) (a2:qA):Option Int:= (yT a1.X a2.X).bind λv3=> (yT a1.Y a2.Y).bind λv5=> (KZ [v3,v5]).bind λv7=> some v7
def WD (a1:List qA):Option (List qA):= bif qFb a1.length then some (PD poly_Hull_1 a1) else none
def QW (x12:Int) (R:(List qA)->Int->Int->Option ((List qA)×Int)) (l19:List qA) (x20:Int):Option ((List qA)×Int):= R l19 x20 (w64 (x12+1))
def wC (l3:List qA) (x4:Int):Nat->(List qA)->Int->Int->Option ((List qA)×Int)
 |0,_,_,_=>none
 |n+1,l10,x11,x12=> bif decide (x12<(((l3.length-x4.toNat):Nat):Int)) then bif inb x12 (l3.length-x4.toNat) then bif Nat.ble (x4.toNat+(l3.length-x4.toNat)) l10.length then bif inb (w64 (x12-1)) (l3.length-x4.toNat) then bif !((((l10.getD (x4.toNat+x12.toNat) dd).X)==((l10.getD (x4.toNat+((w64 (x12-1)).toNat)) dd).X))&&((((l10.getD (x4.toNat+x12.toNat) dd).Y)==((l10.getD (x4.toNat+((w64 (x12-1)).toNat)) dd).Y))&&true)) then bif inb x11 l10.length then QW x12 (wC l3 x4 n) (l10.set x11.toNat (l10.getD (x4.toNat+x12.toNat) dd)) (w64 (x11+1)) else none else QW x12 (wC l3 x4 n) l10 x11 else none else none else none else some (l10,x11)
def QU :Nat->(List qA)->Int->Option (((List qA)×(List qA))⊕(List qA))
 |0,_,_=>none
 |n+1,l3,x4=> bif decide (x4<(l3.length:Int)) then bif inb x4 l3.length then bif inb (w64 (x4-1)) l3.length then bif ((((l3.getD x4.toNat dd).X)==((l3.getD ((w64 (x4-1)).toNat) dd).X))&&((((l3.getD x4.toNat dd).Y)==((l3.getD ((w64 (x4-1)).toNat) dd).Y))&&true)) then bif slOk x4 (l3.length:Int) l3.length then (wC l3 x4 FUEL l3 x4 1).bind λo23=> bif slOk o23.2 (o23.1.length:Int) o23.1.length then bif slOk 0 o23.2 o23.1.length then some (Sum.inl ((o23.1.take o23.2.toNat),(o23.1.take o23.2.toNat))) else none else none else none else (QU n) l3 (w64 (x4+1)) else none else none else some (Sum.inr l3)
def WN (a1:List qA):Option ((List qA)×(List qA)):= bif decide ((a1.length:Int)<2) then some (a1,a1) else (QU FUEL a1 1).bind λu30=>Sum.elim (λv31=>some v31) (λo28=> some (o28,o28)) u30
def IA (a1:qA) (a2:qA) (a3:qA):Option Int:= some (w64 ((w64 ((w64 (a2.X-a1.X))*(w64 (a3.Y-a1.Y))))-(w64 ((w64 (a3.X-a1.X))*(w64 (a2.Y-a1.Y))))))
def BL (l6:List qA) (R:(List qA)->Option (List qA)) (x12:Bool):Option (List qA):= bif x12 then bif slOk 0 (w64 ((l6.length:Int)-1)) l6.length then R (l6.take ((w64 ((l6.length:Int)-1)).toNat)) else none else some l6
def YH (a1:List qA) (x3:Int):Nat->(List qA)->Option (List qA)
 |0,_=>none
 |n+1,l6=> bif decide ((l6.length:Int)≥2) then bif inb (w64 ((l6.length:Int)-2)) l6.length then bif inb (w64 ((l6.length:Int)-1)) l6.length then (IA (l6.getD ((w64 ((l6.length:Int)-2)).toNat) dd) (l6.getD ((w64 ((l6.length:Int)-1)).toNat) dd) (a1.getD x3.toNat dd)).bind λv10=> BL l6 (YH a1 x3 n) (decide (v10<=0)) else none else none else BL l6 (YH a1 x3 n) false
def BB (a1:List qA):Nat->(List qA)->Int->Option (List qA)
 |0,_,_=>none
 |n+1,l2,x3=> bif decide (x3<(a1.length:Int)) then bif inb x3 a1.length then (YH a1 x3 FUEL l2).bind λo16=> bif room (o16.length+1) 16 then (BB a1 n) (o16++[(a1.getD x3.toNat dd)]) (w64 (x3+1)) else none else none else some l2
def NA (a1:List qA):Option (List qA):= (BB a1 FUEL [] 0).bind λo20=> bif slOk 0 (w64 ((o20.length:Int)-1)) o20.length then some (o20.take ((w64 ((o20.length:Int)-1)).toNat)) else none
def ZA :Nat->(List qA)->Int->Int->Option (List qA)
 |0,_,_,_=>none
 |n+1,l2,x3,x4=> bif decide (x3<x4) then bif inb x4 l2.length then bif inb x3 l2.length then (ZA n) ((l2.set x3.toNat (l2.getD x4.toNat dd)).set x4.toNat (l2.getD x3.toNat dd)) (w64 (x3+1)) (w64 (x4-1)) else none else none else some l2
def JB (a1:List qA):Option (List qA):= (ZA FUEL a1 0 (w64 ((a1.length:Int)-1))).bind λo9=> some o9
def TO (a1:List qA) (x6:Bool):Option (List qA):= bif x6 then some ([]:List qA) else (YT a1).bind λv8=> (WD v8).bind λv10=> bif v10.length==v8.length then (WN v10).bind λv13=> (NA v13.2).bind λv15=> (JB v13.2).bind λv17=> bif v17.length==v13.2.length then (NA v17).bind λv20=> bif room (v15.length+v20.length) 16 then bif decide ((((v15.length+v20.length):Nat):Int)<3) then some ([]:List qA) else some (v15++v20) else none else none else none
def OD (a1:List qA):Option (List qA):= bif decide ((a1.length:Int)<3) then TO a1 true else bif decide ((a1.length:Int)>32) then TO a1 true else (XV a1).bind λv4=> TO a1 (!v4)
def VV (a1:List qA):Nat->Int->Rect->Option Rect
 |0,_,_=>none
 |n+1,x4,x5=> bif decide (x4<(a1.length:Int)) then bif inb x4 a1.length then (VV a1 n) (w64 (x4+1)) (Rect.mk (Span.mk (imin x5.X.A ((a1.getD x4.toNat dd).X)) (imax x5.X.B ((a1.getD x4.toNat dd).X))) (Span.mk (imin x5.Y.A ((a1.getD x4.toNat dd).Y)) (imax x5.Y.B ((a1.getD x4.toNat dd).Y)))) else none else some x5
def MX (a1:List qA):Option Rect:= bif (a1.length:Int)==0 then some (Rect.mk (Span.mk 0 0) (Span.mk 0 0)) else bif inb 0 a1.length then (VV a1 FUEL 0 (Rect.mk (Span.mk ((a1.getD (0:Int).toNat dd).X) ((a1.getD (0:Int).toNat dd).X)) (Span.mk ((a1.getD (0:Int).toNat dd).Y) ((a1.getD (0:Int).toNat dd).Y)))).bind λo9=> some o9 else none
def DW (x5:Int):Option Int:= some x5
def NB (a1:Int) (a2:Int):Option Int:= bif nz a2 then bif decide ((Int.tmod a1 a2)<0) then DW (w64 ((w64 (Int.tdiv a1 a2))-1)) else DW (w64 (Int.tdiv a1 a2)) else none
def XB (x6:Int) (R:Int->Int->Int->Option (Int×Int)) (x23:Int) (x24:Int):Option (Int×Int):= R x23 x24 (w64 (x6+1))
def XE (a1:Int) (a3:List qA) (x4:Int) (x5:Int) (x6:Int) (R:Int->Int->Int->Option (Int×Int)) (x19:Bool):Option (Int×Int):= bif x19 then (NB (w64 ((w64 (((a3.getD ((Int.tmod (w64 (x6+1)) (a3.length:Int)).toNat) dd).X)-((a3.getD x6.toNat dd).X)))*(w64 (a1-((a3.getD ((Int.tmod (w64 (x6+1)) (a3.length:Int)).toNat) dd).Y))))) (w64 (((a3.getD x6.toNat dd).Y)-((a3.getD ((Int.tmod (w64 (x6+1)) (a3.length:Int)).toNat) dd).Y)))).bind λv21=> XB x6 R (w64 (((a3.getD ((Int.tmod (w64 (x6+1)) (a3.length:Int)).toNat) dd).X)-v21)) x5 else XB x6 R x4 x5
def XA (a1:Int) (a3:List qA) (x4:Int) (x5:Int) (x6:Int) (R:Int->Int->Int->Option (Int×Int)) (x13:Bool):Option (Int×Int):= bif x13 then (NB (w64 ((w64 (((a3.getD ((Int.tmod (w64 (x6+1)) (a3.length:Int)).toNat) dd).X)-((a3.getD x6.toNat dd).X)))*(w64 (a1-((a3.getD x6.toNat dd).Y))))) (w64 (((a3.getD ((Int.tmod (w64 (x6+1)) (a3.length:Int)).toNat) dd).Y)-((a3.getD x6.toNat dd).Y)))).bind λv15=> XB x6 R x4 (w64 (((a3.getD x6.toNat dd).X)+v15)) else bif decide (((a3.getD x6.toNat dd).Y)>((a3.getD ((Int.tmod (w64 (x6+1)) (a3.length:Int)).toNat) dd).Y)) then bif decide (((a3.getD ((Int.tmod (w64 (x6+1)) (a3.length:Int)).toNat) dd).Y)<=a1) then XE a1 a3 x4 x5 x6 R (decide (a1<=((a3.getD x6.toNat dd).Y)))
 else XE a1 a3 x4 x5 x6 R false else XE a1 a3 x4 x5 x6 R false
def wO (a1:Int) (a3:List qA):Nat->Int->Int->Int->Option (Int×Int)
 |0,_,_,_=>none
 |n+1,x4,x5,x6=> bif decide (x6<(a3.length:Int)) then bif inb x6 a3.length then bif nz (a3.length:Int) then bif inb (Int.tmod (w64 (x6+1)) (a3.length:Int)) a3.length then bif decide (((a3.getD x6.toNat dd).Y)<((a3.getD ((Int.tmod (w64 (x6+1)) (a3.length:Int)).toNat) dd).Y)) then bif decide (((a3.getD x6.toNat dd).Y)<=a1) then XA a1 a3 x4 x5 x6 (wO a1 a3 n) (decide (a1<=((a3.getD ((Int.tmod (w64 (x6+1)) (a3.length:Int)).toNat) dd).Y))) else XA a1 a3 x4 x5 x6 (wO a1 a3 n) false else XA a1 a3 x4 x5 x6 (wO a1 a3 n) false else none else none else none else some (x4,x5)
def TF (a1:Int) (a2:Rect) (a3:List qA):Option (Int×Int):= (wO a1 a3 FUEL a2.X.A a2.X.B 0).bind λo27=> some (o27.1,o27.2)
def YA (a2:Int) (a3:Int) (v4:(List qA)) (v6:Rect) (x11:Bool):Option Span:= bif x11 then some (Span.mk 0 0) else (TF a2 v6 v4).bind λv13=> (TF a3 v6 v4).bind λv15=> bif decide ((imax v13.1 v15.1)≥(imin v13.2 v15.2)) then some (Span.mk 0 0) else some (Span.mk (imax v13.1 v15.1) (imin v13.2 v15.2))
def EX (a1:List qA) (a2:Int) (a3:Int):Option Span:= (OD a1).bind λv4=> (MX v4).bind λv6=> bif (v4.length:Int)==0 then YA a2 a3 v4 v6 true else bif decide (a2≥a3) then YA a2 a3 v4 v6 true else bif decide (a2<v6.Y.A) then YA a2 a3 v4 v6 true else YA a2 a3 v4 v6 (decide (a3>v6.Y.B))
def NZ (a1:Int) (a2:List qA):Option Span:= (UR a1 (w64 (a1+1))).bind λv3=> (EX a2 v3.A v3.B).bind λv5=> some v5
def jI (a1:Span):Option Bool:= some (decide (a1.A≥a1.B))
def JR (x3:Int) (R:Int->Int->Int->(List Span)->Option (Int×Int×(List Span))) (x17:Int) (x18:Int) (l19:List Span):Option (Int×Int×(List Span)):= R x17 (w64 (x3+1)) x18 l19
def RJ (x3:Int) (l5:List Span) (R:Int->Int->Int->(List Span)->Option (Int×Int×(List Span))) (v7:Span) (x13:Int):Option (Int×Int×(List Span)):= bif room (l5.length+1) 16 then JR x3 R (((l5.length+1):Nat):Int) x13 (l5++[v7]) else none
def wE (a1:List qA):Nat->Int->Int->Int->(List Span)->Option (Int×Int×(List Span))
 |0,_,_,_,_=>none
 |n+1,x2,x3,x4,l5=> bif decide (x3<60) then (NZ x3 a1).bind λv7=> (jI v7).bind λv9=> bif !v9 then bif x2==0 then RJ x3 l5 (wE a1 n) v7 x3 else RJ x3 l5 (wE a1 n) v7 x4 else bif decide (x2>0) then bif room (l5.length+1) 16 then JR x3 (wE a1 n) x2 x4 (l5++[(Span.mk 0 0)]) else none else JR x3 (wE a1 n) x2 x4 l5 else some (x2,x4,l5)
def BD (a1:List qA):Option qG:= (wE a1 FUEL 0 (-60) 0 []).bind λo23=> bif slOk 0 o23.1 o23.2.2.length then some (qG.mk o23.2.1 (o23.2.2.take o23.1.toNat)) else none
def EP (a1:List qA):Option (qG×Int):= (AP a1).bind λv2=> bif v2 !=0 then some ((qG.mk 0 []),v2) else (BD a1).bind λv5=> bif (v5.Rows.length:Int)==0 then some ((qG.mk 0 []),18) else some ((qG.mk v5.Low v5.Rows),0)
def VR (a1:Ring) (a2:Int) (a3:Int):Option (qG×Int):= (AK a1 a2).bind λv4=> (MV (Ring.mk v4.Z v4.Read) a3).bind λv6=> bif v6.2 !=0 then some ((qG.mk 0 []),v6.2) else (EP v6.1).bind λv9=> some ((qG.mk v9.1.Low v9.1.Rows),v9.2)
def XN (x3:Bool):Option Bool:= some x3
def UM (a1:Span):Option Bool:= bif decide ((imin a1.A a1.B)≥(-600)) then XN (decide ((imax a1.A a1.B)<=600)) else XN false
def RC (a1:qG):Nat->Int->Option (Int⊕Unit)
 |0,_=>none
 |n+1,x6=> bif decide (x6<(a1.Rows.length:Int)) then bif inb x6 a1.Rows.length then (UM (a1.Rows.getD x6.toNat dd)).bind λv9=> bif !v9 then some (Sum.inl 9) else (RC a1 n) (w64 (x6+1)) else none else some (Sum.inr ())
def PS (x27:Int) (R:Int->Option (Int⊕Unit)) (x33:Bool):Option (Int⊕Unit):= bif x33 then some (Sum.inl 19) else R (w64 (x27+1))
def ZB (a1:qG):Nat->Int->Option (Int⊕Unit)
 |0,_=>none
 |n+1,x27=> bif decide (x27<(a1.Rows.length:Int)) then bif inb x27 a1.Rows.length then (jI (a1.Rows.getD x27.toNat dd)).bind λv30=> bif v30 then PS x27 (ZB a1 n) (!((((a1.Rows.getD x27.toNat dd).A)==0)&&((((a1.Rows.getD x27.toNat dd).B)==0)&&true))) else PS x27 (ZB a1 n) false else none else some (Sum.inr ())
def RE (a1:qG) (x25:Bool):Option Int:= bif x25 then some 19 else (ZB a1 FUEL 0).bind λu37=>Sum.elim (λv38=>some v38) (λo35=> some 0) u37
def RA (a1:qG) (x4:Bool):Option Int:= bif x4 then some 9 else (RC a1 FUEL 0).bind λu14=>Sum.elim (λv15=>some v15) (λo12=> bif (a1.Rows.length:Int)==0 then bif a1.Low !=0 then some 19 else some 0 else bif inb 0 a1.Rows.length then (jI (a1.Rows.getD (0:Int).toNat dd)).bind λv19=> bif v19 then RE a1 true else bif inb (w64 ((a1.Rows.length:Int)-1)) a1.Rows.length then (jI (a1.Rows.getD (w64 ((a1.Rows.length:Int)-1)).toNat dd)).bind λv23=> RE a1 v23 else none else none) u14
def PN (a1:qG):Option Int:= bif decide ((a1.Rows.length:Int)>120) then some 4 else bif decide (a1.Low<(-60)) then RA a1 true else RA a1 (decide (a1.Low>(w64 (60-(a1.Rows.length:Int)))))
def YN (a1:qG):Option qG:= (PN a1).bind λv2=> bif v2 !=0 then some (qG.mk 0 []) else some a1
def BN (a1:qG) (a2:Int) (x4:Bool):Option Span:= bif x4 then some (Span.mk 0 0) else bif inb (w64 (a2-a1.Low)) a1.Rows.length then some (a1.Rows.getD (w64 (a2-a1.Low)).toNat dd) else none
def NI (a1:qG) (a2:Int):Option Span:= bif decide (a2<a1.Low) then BN a1 a2 true else BN a1 a2 (decide (a2≥(w64 (a1.Low+(a1.Rows.length:Int)))))
def OI (a1:Span) (a2:Span):Option Span:= bif decide ((imax a1.A a2.A)≥(imin a1.B a2.B)) then some (Span.mk 0 0) else some (Span.mk (imax a1.A a2.A) (imin a1.B a2.B))
def VO (a1:Int) (a2:qG) (a3:qG):Option Span:= (NI a2 a1).bind λv4=> (NI a3 a1).bind λv6=> (OI v4 v6).bind λv8=> some v8
def ZG (x4:Int) (R:Int->Int->Int->(List Span)->Option (Int×Int×(List Span))) (x18:Int) (x19:Int) (l20:List Span):Option (Int×Int×(List Span)):= R x18 (w64 (x4+1)) x19 l20
def YU (x4:Int) (l6:List Span) (R:Int->Int->Int->(List Span)->Option (Int×Int×(List Span))) (v8:Span) (x14:Int):Option (Int×Int×(List Span)):= bif room (l6.length+1) 16 then ZG x4 R (((l6.length+1):Nat):Int) x14 (l6++[v8]) else none
def zR (a1:qG) (a2:qG):Nat->Int->Int->Int->(List Span)->Option (Int×Int×(List Span))
 |0,_,_,_,_=>none
 |n+1,x3,x4,x5,l6=> bif decide (x4<60) then (VO x4 a1 a2).bind λv8=> (jI v8).bind λv10=> bif !v10 then bif x3==0 then YU x4 l6 (zR a1 a2 n) v8 x4 else YU x4 l6 (zR a1 a2 n) v8 x5 else bif decide (x3>0) then bif room (l6.length+1) 16 then ZG x4 (zR a1 a2 n) x3 x5 (l6++[(Span.mk 0 0)]) else none else ZG x4 (zR a1 a2 n) x3 x5 l6 else some (x3,x5,l6)
def RM (a1:qG) (a2:qG):Option qG:= (zR a1 a2 FUEL 0 (-60) 0 []).bind λo24=> bif slOk 0 o24.1 o24.2.2.length then some (qG.mk o24.2.1 (o24.2.2.take o24.1.toNat)) else none
def FI (a1:qG) (a2:qG):Option qG:= (YN a1).bind λv3=> (YN a2).bind λv5=> (RM v3 v5).bind λv7=> some (qG.mk v7.Low v7.Rows)
def BK (a1:Scan) (a2:Int) (a3:Int):Nat->(List qG)->Int->Option (((List qU)×Int)⊕(List qG))
 |0,_,_=>none
 |n+1,l8,x9=> bif decide (x9<(a1.Rings.length:Int)) then bif inb x9 a1.Rings.length then (VR (a1.Rings.getD x9.toNat dd) a2 a3).bind λv12=> bif v12.2 !=0 then some (Sum.inl ([],30)) else bif inb x9 l8.length then (BK a1 a2 a3 n) (l8.set x9.toNat v12.1) (w64 (x9+1)) else none else none else some (Sum.inr l8)
def BC (a1:Scan) (o17:(List qG)):Nat->(List qU)->Int->Option (((List qU)×Int)⊕(List qU))
 |0,_,_=>none
 |n+1,l22,x23=> bif decide (x23<(((w64 ((a1.Rings.length:Int)-1)).toNat:Nat):Int)) then bif inb x23 o17.length then bif inb (w64 (x23+1)) o17.length then (FI (o17.getD x23.toNat dd) (o17.getD ((w64 (x23+1)).toNat) dd)).bind λv27=> bif (v27.Rows.length:Int)==0 then some (Sum.inl ([],30)) else bif inb (w64 (x23+1)) a1.Rings.length then bif inb x23 a1.Rings.length then bif inb x23 l22.length then (BC a1 o17 n) (l22.set x23.toNat (qU.mk (w64 (((a1.Rings.getD (w64 (x23+1)).toNat dd).Z)-((a1.Rings.getD x23.toNat dd).Z))) v27)) (w64 (x23+1)) else none else none else none else none else none else some (Sum.inr l22)
def JN (a1:Scan) (a2:Int) (a3:Int):Option ((List qU)×Int):= (yJ a1).bind λv4=> bif v4 !=0 then some ([],v4) else bif mkOk (a1.Rings.length:Int) 32 then (BK a1 a2 a3 FUEL (List.replicate ((a1.Rings.length:Int).toNat) (qG.mk 0 [])) 0).bind λu19=>Sum.elim (λv20=>some v20) (λo17=> bif mkOk (w64 ((a1.Rings.length:Int)-1)) 40 then (BC a1 o17 FUEL (List.replicate ((w64 ((a1.Rings.length:Int)-1)).toNat) (qU.mk 0 (qG.mk 0 []))) 0).bind λu39=>Sum.elim (λv40=>some v40) (λo37=> some (o37,0)) u39 else none) u19 else none
def QL (x3:Int) (R:(List Int)->Int->Option (List Int)) (l9:List Int):Option (List Int):= R l9 (w64 (x3+1))
def zP (a1:List qC):Nat->(List Int)->Int->Option (List Int)
 |0,_,_=>none
 |n+1,l2,x3=> bif decide (x3<(a1.length:Int)) then bif inb x3 a1.length then bif (a1.getD x3.toNat dd).Ok then bif room (l2.length+3) 8 then QL x3 (zP a1 n) (l2++[1,((a1.getD x3.toNat dd).P).X,((a1.getD x3.toNat dd).P).Y]) else none else bif room (l2.length+1) 8 then QL x3 (zP a1 n) (l2++[0]) else none else none else some l2
def QE (a1:List qC):Option (List Int):= (zP a1 FUEL [] 0).bind λo11=> some o11
def WW :Nat->Int->(List Int)->Option (Int×(List Int))
 |0,_,_=>none
 |n+1,x2,l3=> bif decide (x2≥128) then bif room (l3.length+1) 1 then (WW n) (shrI .u64 x2 7) (l3++[orI .u8 (IntKind.u8.wrap (x2)) 128]) else none else some (x2,l3)
def JE (a1:Int):Option ByteArray:= (WW FUEL a1 []).bind λo8=> bif room (o8.2.length+1) 1 then some (AM (o8.2.length+1) (o8.2++[IntKind.u8.wrap (o8.1)])) else none
def XO (a1:Int):Option ByteArray:= bif decide (a1<0) then (JE (orI .u64 (shlI .u64 (notI .u64 (IntKind.u64.wrap (a1))) 1) 1)).bind λv3=> some v3 else (JE (shlI .u64 (IntKind.u64.wrap (a1)) 1)).bind λv5=> some v5
def RP (a1:List Int):Option ByteArray:=intsM JE XO a1
def wP (a1:List qI):Nat->(List Int)->Int->Option (List Int)
 |0,_,_=>none
 |n+1,l2,x3=> bif decide (x3<(a1.length:Int)) then bif inb x3 a1.length then bif room (l2.length+7) 8 then (wP a1 n) (l2++[(a1.getD x3.toNat dd).Kind,(((a1.getD x3.toNat dd).Box).X).A,(((a1.getD x3.toNat dd).Box).X).B,(((a1.getD x3.toNat dd).Box).Y).A,(((a1.getD x3.toNat dd).Box).Y).B,(((a1.getD x3.toNat dd).Box).Z).A,(((a1.getD x3.toNat dd).Box).Z).B]) (w64 (x3+1)) else none else none else some l2
def ZC (a1:List qI):Option (List Int):= (wP a1 FUEL [] 0).bind λo8=> some o8
def wW (a1:Scan):Nat->(List Int)->ByteArray->Int->Option ((List Int)×ByteArray)
 |0,_,_,_=>none
 |n+1,l5,x6,x7=> bif decide (x7<(a1.Rings.length:Int)) then bif inb x7 a1.Rings.length then bif room (l5.length+1) 8 then (QE ((a1.Rings.getD x7.toNat dd).Read)).bind λv11=> (RP v11).bind λv13=> bif wA x6 v13 then (wW a1 n) (l5++[(a1.Rings.getD x7.toNat dd).Z]) (x6++v13) (w64 (x7+1)) else none else none else none else some (l5,x6)
def jH (a1:Scan):Option (ByteArray×Int):= (yJ a1).bind λv2=> bif v2 !=0 then some ((ByteArray.mk #[]),v2) else (wW a1 FUEL [] (ByteArray.mk #[]) 0).bind λo18=> (RP o18.1).bind λv20=> bif wA v20 o18.2 then (ZC a1.Defects).bind λv23=> (RP v23).bind λv25=> bif wA (v20++o18.2) v25 then some ((v20++o18.2)++v25,0) else none else none
def KC (a1:ByteArray):Option qD:= some (qD.mk a1 0 0)
def ZH (a1:qD):Option Bool:= some (a1.e !=0)
def yP (a1:Int) (a2:qD) (x3:Int) (x4:Int) (x13:Bool):Option ((Int×Int×Int)⊕Unit):= bif x13 then some (Sum.inl (0,0,5)) else some (Sum.inl (orI .u64 x3 (shlI .u64 (IntKind.u64.wrap (andI .u8 (wS a2.s ((w64 (a1+x4)).toNat)) 127)) (w64 (7*x4))),w64 ((w64 (a1+x4))+1),0))
def wZ (a1:Int) (a2:qD) (x3:Int) (x4:Int) (R:Int->Int->Option ((Int×Int×Int)⊕Unit)) (x8:Bool):Option ((Int×Int×Int)⊕Unit):= bif x8 then some (Sum.inl (0,0,5)) else bif nneg (w64 (7*x4)) then bif decide ((wS a2.s ((w64 (a1+x4)).toNat))≥128) then R (orI .u64 x3 (shlI .u64 (IntKind.u64.wrap (andI .u8 (wS a2.s ((w64 (a1+x4)).toNat)) 127)) (w64 (7*x4)))) (w64 (x4+1)) else bif (wS a2.s ((w64 (a1+x4)).toNat))==0 then yP a1 a2 x3 x4 (decide (x4>0)) else yP a1 a2 x3 x4 false else none
def zL (a1:Int) (a2:qD):Nat->Int->Int->Option ((Int×Int×Int)⊕Unit)
 |0,_,_=>none
 |n+1,x3,x4=> bif decide ((w64 (a1+x4))≥(a2.s.size:Int)) then some (Sum.inl (0,0,3)) else bif inb (w64 (a1+x4)) a2.s.size then bif x4==9 then wZ a1 a2 x3 x4 (zL a1 a2 n) (decide ((wS a2.s ((w64 (a1+x4)).toNat))>1)) else wZ a1 a2 x3 x4 (zL a1 a2 n) false else none
def jB (a1:Int) (a2:qD):Option (Int×Int×Int):= (zL a1 a2 FUEL 0 0).bind λu17=>Sum.elim (λv18=>some v18) (λo15=> none) u17
def yI (v4:Int×Int×Int) (x8:Bool):Option (Int×Int×Int):= bif x8 then some (0,0,4) else some (v4.1,v4.2.1,0)
def ZI (a1:Int) (a2:Int) (a3:qD):Option (Int×Int×Int):= (jB a1 a3).bind λv4=> bif v4.2.2 !=0 then some (0,0,v4.2.2) else bif decide (a2<0) then yI v4 true else yI v4 (decide (v4.1>(IntKind.u64.wrap (a2))))
def yW (v5:Int×Int×Int) (x9:Int) (x11:Bool):Option (Int×Int×Int):= bif x11 then some (0,0,9) else some (x9,v5.2.1,0)
def jD (a2:Int) (a3:Int) (v5:Int×Int×Int) (x9:Int):Option (Int×Int×Int):= bif decide (x9<a2) then yW v5 x9 true else yW v5 x9 (decide (x9>a3))
def yN (a1:Int) (a2:Int) (a3:Int) (a4:qD):Option (Int×Int×Int):= (jB a1 a4).bind λv5=> bif v5.2.2 !=0 then some (0,0,v5.2.2) else bif (andI .u64 v5.1 1)==1 then jD a2 a3 v5 (notI .i64 (w64 (shrI .u64 v5.1 1))) else jD a2 a3 v5 (w64 (shrI .u64 v5.1 1))
def yC (a1:Int) (a2:Int) (a3:qD):Option (Int×Int):= bif a2 !=0 then some (a3.at_,a2) else some (a1,a3.e)
def wQ (a2:Int) (a3:Int) (a4:qD) (x10:Int) (x11:Int) (l12:List Int) (x13:Int) (R:Int->Int->(List Int)->Int->Option (Int×Int×(List Int))) (x15:Bool):Option (Int×Int×(List Int)):= bif x15 then (yN x10 a2 a3 a4).bind λv17=> bif room (l12.length+1) 8 then R v17.2.1 v17.2.2 (l12++[v17.1]) (IntKind.u64.wrap (x13+1)) else none else some (x10,x11,l12)
def zB (a2:Int) (a3:Int) (a4:qD) (v8:Int×Int×Int):Nat->Int->Int->(List Int)->Int->Option (Int×Int×(List Int))
 |0,_,_,_,_=>none
 |n+1,x10,x11,l12,x13=> bif decide (x13<v8.1) then wQ a2 a3 a4 x10 x11 l12 x13 (zB a2 a3 a4 v8 n) (x11==0) else wQ a2 a3 a4 x10 x11 l12 x13 (zB a2 a3 a4 v8 n) false
def JI (a1:Int) (a2:Int) (a3:Int) (a4:qD):Option ((List Int)×Int×Int):= (ZH a4).bind λv5=> bif v5 then some ([],a4.at_,a4.e) else (ZI a4.at_ a1 a4).bind λv8=> (zB a2 a3 a4 v8 FUEL v8.2.1 v8.2.2 [] 0).bind λo23=> (yC o23.1 o23.2.1 a4).bind λv25=> bif o23.2.1 !=0 then some ([],v25.1,v25.2) else some (o23.2.2,v25.1,v25.2)
def QZ (a1:Int) (a2:qD):Option ((List Int)×Int×Int):= (JI a1 (-1099511627776) 1099511627776 a2).bind λv3=> some (v3.1,v3.2.1,v3.2.2)
def yM (l2:List Int) (l3:List qC) (R:(List Int)->(List qC)->Option (((List qC)×Bool)⊕(List qC))) (x10:Bool):Option (((List qC)×Bool)⊕(List qC)):= bif x10 then bif inb 1 l2.length then bif inb 2 l2.length then bif room (l3.length+1) 24 then bif slOk 3 (l2.length:Int) l2.length then R (l2.drop ((3:Int).toNat)) (l3++[(qC.mk (qA.mk (l2.getD (1:Int).toNat dd) (l2.getD (2:Int).toNat dd)) true)]) else none else none else none else none else some (Sum.inl ([],false))
def zO :Nat->(List Int)->(List qC)->Option (((List qC)×Bool)⊕(List qC))
 |0,_,_=>none
 |n+1,l2,l3=> bif decide ((l2.length:Int)>0) then bif inb 0 l2.length then bif (l2.getD (0:Int).toNat dd)==0 then bif room (l3.length+1) 24 then bif slOk 1 (l2.length:Int) l2.length then (zO n) (l2.drop ((1:Int).toNat)) (l3++[(qC.mk (qA.mk 0 0) false)]) else none else none else bif (l2.getD (0:Int).toNat dd)==1 then yM l2 l3 (zO n) (decide ((l2.length:Int)≥3)) else yM l2 l3 (zO n) false else none else some (Sum.inr l3)
def ZS (a1:List Int):Option ((List qC)×Bool):= (zO FUEL a1 []).bind λu19=>Sum.elim (λv20=>some v20) (λo17=> some (o17,true)) u19
def QH :Nat->(List Int)->(List qI)->Option (List qI)
 |0,_,_=>none
 |n+1,l3,l4=> bif decide ((l3.length:Int)>0) then bif inb 1 l3.length then bif inb 2 l3.length then bif inb 3 l3.length then bif inb 4 l3.length then bif inb 5 l3.length then bif inb 6 l3.length then bif inb 0 l3.length then bif room (l4.length+1) 56 then bif slOk 7 (l3.length:Int) l3.length then (QH n) (l3.drop ((7:Int).toNat)) (l4++[(qI.mk (l3.getD (0:Int).toNat dd) (Box.mk (Span.mk (l3.getD (1:Int).toNat dd) (l3.getD (2:Int).toNat dd)) (Span.mk (l3.getD (3:Int).toNat dd) (l3.getD (4:Int).toNat dd)) (Span.mk (l3.getD (5:Int).toNat dd) (l3.getD (6:Int).toNat dd))))]) else none else none else none else none else none else none else none else none else none else some l4
def WR (a1:List Int):Option ((List qI)×Bool):= bif (Int.tmod (a1.length:Int) 7) !=0 then some ([],false) else (QH FUEL a1 []).bind λo16=> some (o16,true)
def XH (a1:qD):Option Int:= some a1.e
def JQ (a1:qD):Option Int:= some (w64 ((a1.s.size:Int)-a1.at_))
def YX (a1:qD):Option Int:= (XH a1).bind λv2=> bif v2 !=0 then some v2 else (JQ a1).bind λv5=> bif decide (v5>0) then some 4 else some 0
def ZN (v2:qD) (v4:(List Int)×Int×Int):Nat->Int->(List Ring)->Int->Int->Option ((Scan×Bool)⊕((List Ring)×qD))
 |0,_,_,_,_=>none
 |n+1,x6,l7,x8,x9=> bif decide (x6<(v4.1.length:Int)) then bif inb x6 v4.1.length then (QZ 96 (qD.mk v2.s x8 x9)).bind λv12=> (ZS v12.1).bind λv14=> bif !v14.2 then some (Sum.inl ((Scan.mk [] []),false)) else bif room (l7.length+1) 32 then (ZN v2 v4 n) (w64 (x6+1)) (l7++[(Ring.mk (v4.1.getD x6.toNat dd) v14.1)]) v12.2.1 v12.2.2 else none else none else some (Sum.inr (l7,(qD.mk v2.s x8 x9)))
def DZ (o20:(List Ring)×qD) (v26:(List qI)×Bool) (x31:Bool):Option (Scan×Bool):= bif x31 then some ((Scan.mk [] []),false) else some ((Scan.mk o20.1 v26.1),true)
def UK (a1:ByteArray):Option (Scan×Bool):= (KC a1).bind λv2=> (QZ 24 v2).bind λv4=> (ZN v2 v4 FUEL 0 [] v4.2.1 v4.2.2).bind λu22=>Sum.elim (λv23=>some v23) (λo20=> (QZ 448 o20.2).bind λv24=> (WR v24.1).bind λv26=> bif !v26.2 then DZ o20 v26 true else (YX (qD.mk o20.2.s v24.2.1 v24.2.2)).bind λv29=> DZ o20 v26 (v29 !=0)) u22
def jG (a1:ByteArray):Option (Scan×Int):= (UK a1).bind λv2=> bif !v2.2 then some ((Scan.mk [] []),5) else (yJ (Scan.mk v2.1.Rings v2.1.Defects)).bind λv5=> bif v5 !=0 then some ((Scan.mk [] []),v5) else some ((Scan.mk v2.1.Rings v2.1.Defects),0)
def zK (a1:List qC) (a2:List qC):Nat->Int->Option (Bool⊕Unit)
 |0,_=>none
 |n+1,x4=> bif decide (x4<(a1.length:Int)) then bif inb x4 a1.length then bif inb x4 a2.length then bif !((((((a1.getD x4.toNat dd).P).X)==(((a2.getD x4.toNat dd).P).X))&&(((((a1.getD x4.toNat dd).P).Y)==(((a2.getD x4.toNat dd).P).Y))&&true))&&((((a1.getD x4.toNat dd).Ok)==((a2.getD x4.toNat dd).Ok))&&true)) then some (Sum.inl false) else (zK a1 a2 n) (w64 (x4+1)) else none else none else some (Sum.inr ())
def wX (a1:List qC) (a2:List qC):Option Bool:= bif (a1.length:Int) !=(a2.length:Int) then some false else (zK a1 a2 FUEL 0).bind λu11=>Sum.elim (λv12=>some v12) (λo9=> some true) u11
def KD (x6:Bool):Option Bool:= some x6
def GL (a1:Ring) (a2:Ring):Option Bool:= bif a1.Z==a2.Z then (wX a1.Read a2.Read).bind λv4=> KD v4 else KD false
def zH (a1:List Ring) (a2:List Ring):Nat->Int->Option (Bool⊕Unit)
 |0,_=>none
 |n+1,x4=> bif decide (x4<(a1.length:Int)) then bif inb x4 a1.length then bif inb x4 a2.length then (GL (a1.getD x4.toNat dd) (a2.getD x4.toNat dd)).bind λv8=> bif !v8 then some (Sum.inl false) else (zH a1 a2 n) (w64 (x4+1)) else none else none else some (Sum.inr ())
def yH (a1:List Ring) (a2:List Ring):Option Bool:= bif (a1.length:Int) !=(a2.length:Int) then some false else (zH a1 a2 FUEL 0).bind λu13=>Sum.elim (λv14=>some v14) (λo11=> some true) u13
def zN (a1:List qI) (a2:List qI):Nat->Int->Option (Bool⊕Unit)
 |0,_=>none
 |n+1,x4=> bif decide (x4<(a1.length:Int)) then bif inb x4 a1.length then bif inb x4 a2.length then bif !((((a1.getD x4.toNat dd).Kind)==((a2.getD x4.toNat dd).Kind))&&((((((((a1.getD x4.toNat dd).Box).X).A)==((((a2.getD x4.toNat dd).Box).X).A))&&((((((a1.getD x4.toNat dd).Box).X).B)==((((a2.getD x4.toNat dd).Box).X).B))&&true))&&(((((((a1.getD x4.toNat dd).Box).Y).A)==((((a2.getD x4.toNat dd).Box).Y).A))&&((((((a1.getD x4.toNat dd).Box).Y).B)==((((a2.getD x4.toNat dd).Box).Y).B))&&true))&&(((((((a1.getD x4.toNat dd).Box).Z).A)==((((a2.getD x4.toNat dd).Box).Z).A))&&((((((a1.getD x4.toNat dd).Box).Z).B)==((((a2.getD x4.toNat dd).Box).Z).B))&&true))&&true)))&&true)) then some (Sum.inl false) else
 (zN a1 a2 n) (w64 (x4+1)) else none else none else some (Sum.inr ())
def jJ (a1:List qI) (a2:List qI):Option Bool:= bif (a1.length:Int) !=(a2.length:Int) then some false else (zN a1 a2 FUEL 0).bind λu11=>Sum.elim (λv12=>some v12) (λo9=> some true) u11
def TG (x8:Bool):Option Bool:= some x8
def JF (a1:Scan) (a2:Scan):Option Bool:= (yH a1.Rings a2.Rings).bind λv3=> bif v3 then (jJ a1.Defects a2.Defects).bind λv6=> TG v6 else TG false
def VB (a1:List qU) (x4:Int) (x5:Int) (R:Int->Int->Option (Int⊕Unit)) (x13:Bool):Option (Int⊕Unit):= bif x13 then some (Sum.inl 9) else R (w64 (x4+((a1.getD x5.toNat dd).Len))) (w64 (x5+1))
def WL (a1:List qU):Nat->Int->Int->Option (Int⊕Unit)
 |0,_,_=>none
 |n+1,x4,x5=> bif decide (x5<(a1.length:Int)) then bif inb x5 a1.length then (PN ((a1.getD x5.toNat dd).Sec)).bind λv8=> bif v8 !=0 then some (Sum.inl v8) else bif (((((a1.getD x5.toNat dd).Sec).Rows).length:Nat):Int)==0 then some (Sum.inl 18) else bif decide (((a1.getD x5.toNat dd).Len)<1) then VB a1 x4 x5 (WL a1 n) true else VB a1 x4 x5 (WL a1 n) (decide (((a1.getD x5.toNat dd).Len)>(w64 (20000-x4)))) else none else some (Sum.inr ())
def HI (a1:List qU):Option Int:= bif (a1.length:Int)==0 then some 3 else bif decide ((a1.length:Int)>24) then some 4 else (WL a1 FUEL 0 0).bind λu17=>Sum.elim (λv18=>some v18) (λo15=> some 0) u17
def MW (a1:List qU):Option (List qU):= (HI a1).bind λv2=> bif v2 !=0 then some ([]:List qU) else some a1
def OG (a1:Span):Option Int:= bif decide (a1.A≥a1.B) then some 0 else some (IntKind.u64.wrap ((IntKind.u64.wrap (a1.B))-(IntKind.u64.wrap (a1.A))))
def NR (a1:Int):Option Int:= some (w64 (imin a1 9223372036854775807))
def qBR (a1:Span):Option Int:= (OG a1).bind λv2=> (NR v2).bind λv4=> some v4
def UP (v2:qG):Nat->Int->Int->Option Int
 |0,_,_=>none
 |n+1,x4,x5=> bif decide (x5<(v2.Rows.length:Int)) then bif inb x5 v2.Rows.length then (qBR (v2.Rows.getD x5.toNat dd)).bind λv8=> (UP v2 n) (w64 (x4+v8)) (w64 (x5+1)) else none else some x4
def NQ (a1:qG):Option Int:= (YN a1).bind λv2=> (UP v2 FUEL 0 0).bind λo11=> some (w64 (10*o11))
def TI (v2:(List qU)):Nat->Int->Int->Option Int
 |0,_,_=>none
 |n+1,x4,x5=> bif decide (x5<(v2.length:Int)) then bif inb x5 v2.length then (NQ ((v2.getD x5.toNat dd).Sec)).bind λv8=> (TI v2 n) (w64 (x4+(w64 (((v2.getD x5.toNat dd).Len)*v8)))) (w64 (x5+1)) else none else some x4
def UO (a1:List qU):Option Int:= (MW a1).bind λv2=> (TI v2 FUEL 0 0).bind λo11=> some o11 @[irreducible] def law15_awake :Option Bool:=some true
def WA (x2:Int) (R:Int->Option (Bool⊕Unit)) (x8:Bool):Option (Bool⊕Unit):= bif x8 then some (Sum.inl false) else R (w64 (x2+1))
def wN (a1:List qA):Nat->Int->Option (Bool⊕Unit)
 |0,_=>none
 |n+1,x2=> bif decide (x2<(a1.length:Int)) then bif inb x2 a1.length then bif decide (((a1.getD x2.toNat dd).X)<(-600)) then WA x2 (wN a1 n) true else bif decide (((a1.getD x2.toNat dd).X)>600) then WA x2 (wN a1 n) true else bif decide (((a1.getD x2.toNat dd).Y)<(-600)) then WA x2 (wN a1 n) true else WA x2 (wN a1 n) (decide (((a1.getD x2.toNat dd).Y)>600)) else none else some (Sum.inr ())
def NW (a1:List qA):Option Bool:= (wN a1 FUEL 0).bind λu12=>Sum.elim (λv13=>some v13) (λo10=> some true) u12
def UX (x7:Int) (R:Int->Option (Int⊕Unit)) (x16:Bool):Option (Int⊕Unit):= bif x16 then some (Sum.inl 19) else R (w64 (x7+1))
def GH (a1:Ring) (x7:Int) (R:Int->Option (Int⊕Unit)) (x13:Bool):Option (Int⊕Unit):= bif x13 then some (Sum.inl 9) else bif !((a1.Read.getD x7.toNat dd).Ok) then UX x7 R (!(((((a1.Read.getD x7.toNat dd).P).X)==0)&&(((((a1.Read.getD x7.toNat dd).P).Y)==0)&&true))) else UX x7 R false
def QR (a1:Ring):Nat->Int->Option (Int⊕Unit)
 |0,_=>none
 |n+1,x7=> bif decide (x7<(a1.Read.length:Int)) then bif inb x7 a1.Read.length then bif (a1.Read.getD x7.toNat dd).Ok then (NW [(a1.Read.getD x7.toNat dd).P]).bind λv11=> GH a1 x7 (QR a1 n) (!v11) else GH a1 x7 (QR a1 n) false else none else some (Sum.inr ())
def VF (a1:Ring) (x5:Bool):Option Int:= bif x5 then some 9 else (QR a1 FUEL 0).bind λu20=>Sum.elim (λv21=>some v21) (λo18=> some 0) u20
def MY (a1:Ring):Option Int:= bif decide ((a1.Read.length:Int)<8) then some 3 else bif decide ((a1.Read.length:Int)>32) then some 4 else bif decide (a1.Z<0) then VF a1 true else VF a1 (decide (a1.Z>20000))
def KM (x4:Bool):Option Bool:= some x4
def HA (a1:Box):Option Bool:= bif decide (a1.X.A≥a1.X.B) then KM true else bif decide (a1.Y.A≥a1.Y.B) then KM true else KM (decide (a1.Z.A≥a1.Z.B))
def HE (x5:Bool):Option Bool:= some x5
def NV (a1:Span) (a2:Int) (a3:Int):Option Bool:= bif decide (a2<=a1.A) then HE (decide (a1.B<=a3)) else HE false
def XC (x10:Bool):Option Bool:= some x10
def FF (a1:Box):Option Bool:= (NV a1.X (-600) 600).bind λv2=> bif v2 then (NV a1.Y (-600) 600).bind λv5=> bif v5 then (NV a1.Z 0 20000).bind λv8=> XC v8 else XC false else XC false
def VA (a1:List qI) (x3:Int) (R:Int->Option (Int⊕Unit)) (x7:Bool):Option (Int⊕Unit):= bif x7 then some (Sum.inl 10) else bif inb x3 a1.length then (HA ((a1.getD x3.toNat dd).Box)).bind λv10=> bif v10 then some (Sum.inl 19) else (FF ((a1.getD x3.toNat dd).Box)).bind λv13=> bif !v13 then some (Sum.inl 9) else R (w64 (x3+1)) else none
def yB (a1:List qI):Nat->Int->Option (Int⊕Unit)
 |0,_=>none
 |n+1,x3=> bif decide (x3<(a1.length:Int)) then bif inb x3 a1.length then bif decide (((a1.getD x3.toNat dd).Kind)<1) then VA a1 x3 (yB a1 n) true else VA a1 x3 (yB a1 n) (decide (((a1.getD x3.toNat dd).Kind)>6)) else none else some (Sum.inr ())
def HQ (a1:List qI):Option Int:= bif decide ((a1.length:Int)>64) then some 4 else (yB a1 FUEL 0).bind λu18=>Sum.elim (λv19=>some v19) (λo16=> some 0) u18
def QQ (a1:Scan) (x5:Int) (R:Int->Int->Option (Int⊕Int)) (x15:Bool):Option (Int⊕Int):= bif x15 then some (Sum.inl 11) else bif inb 0 a1.Rings.length then bif ((((a1.Rings.getD x5.toNat dd).Read).length:Nat):Int) !=((((a1.Rings.getD (0:Int).toNat dd).Read).length:Nat):Int) then some (Sum.inl 19) else R ((a1.Rings.getD x5.toNat dd).Z) (w64 (x5+1)) else none
def zI (a1:Scan):Nat->Int->Int->Option (Int⊕Int)
 |0,_,_=>none
 |n+1,x4,x5=> bif decide (x5<(a1.Rings.length:Int)) then bif inb x5 a1.Rings.length then (MY (a1.Rings.getD x5.toNat dd)).bind λv8=> bif v8 !=0 then some (Sum.inl v8) else bif x5==0 then bif ((a1.Rings.getD x5.toNat dd).Z) !=0 then QQ a1 x5 (zI a1 n) true else bif decide (x5>0) then QQ a1 x5 (zI a1 n) (decide (((a1.Rings.getD x5.toNat dd).Z)<=x4)) else QQ a1 x5 (zI a1 n) false else bif decide (x5>0) then QQ a1 x5 (zI a1 n) (decide (((a1.Rings.getD x5.toNat dd).Z)<=x4)) else QQ a1 x5 (zI a1 n) false else none else some (Sum.inr x4)
def WU (a1:Scan) (o20:Int):Nat->Int->Option (Int⊕Unit)
 |0,_=>none
 |n+1,x27=> bif decide (x27<(a1.Defects.length:Int)) then bif inb x27 a1.Defects.length then bif decide (((((a1.Defects.getD x27.toNat dd).Box).Z).B)>o20) then some (Sum.inl 9) else (WU a1 o20 n) (w64 (x27+1)) else none else some (Sum.inr ())
def GJ (a1:Scan):Option Int:= bif decide ((a1.Rings.length:Int)<2) then some 3 else bif decide ((a1.Rings.length:Int)>24) then some 4 else (zI a1 FUEL 0 0).bind λu22=>Sum.elim (λv23=>some v23) (λo20=> (HQ a1.Defects).bind λv24=> bif v24 !=0 then some v24 else (WU a1 o20 FUEL 0).bind λu33=>Sum.elim (λv34=>some v34) (λo31=> some 0) u33) u22
def RB (x3:Int) (R:(List Int)->Int->Option (List Int)) (l9:List Int):Option (List Int):= R l9 (w64 (x3+1))
def yG (a1:Ring):Nat->(List Int)->Int->Option (List Int)
 |0,_,_=>none
 |n+1,l2,x3=> bif decide (x3<(a1.Read.length:Int)) then bif inb x3 a1.Read.length then bif (a1.Read.getD x3.toNat dd).Ok then bif room (l2.length+3) 8 then RB x3 (yG a1 n) (l2++[1,((a1.Read.getD x3.toNat dd).P).X,((a1.Read.getD x3.toNat dd).P).Y]) else none else bif room (l2.length+1) 8 then RB x3 (yG a1 n) (l2++[0]) else none else none else some l2
def DY (a1:Ring):Option (List Int):= (yG a1 FUEL [] 0).bind λo11=> some o11
def YG :Nat->Int->Option ByteArray
 |0,_=>none
 |n+1,a1=> bif decide (a1<128) then some (AM 1 [IntKind.u8.wrap (a1)]) else ((YG n) (IntKind.u64.wrap (Int.tdiv a1 128))).bind λv3=> bif wA (AM 1 [IntKind.u8.wrap (IntKind.u64.wrap (128+(Int.tmod a1 128)))]) v3 then some ((AM 1 [IntKind.u8.wrap (IntKind.u64.wrap (128+(Int.tmod a1 128)))])++v3) else none
def AU (a1:Int):Option ByteArray:=YG FUEL a1
def qAb (a1:Int):Option Int:= bif decide (a1≥0) then some (IntKind.u64.wrap (2*(IntKind.u64.wrap (a1)))) else some (IntKind.u64.wrap ((IntKind.u64.wrap (2*(IntKind.u64.wrap (w64 (0-(w64 (a1+1)))))))+1))
def OQ (a1:Int):Option ByteArray:= (qAb a1).bind λv2=> (AU v2).bind λv4=> some v4
def jW (a1:List Int):Nat->ByteArray->Int->Option ByteArray
 |0,_,_=>none
 |n+1,x4,x5=> bif decide (x5<(a1.length:Int)) then bif inb x5 a1.length then (OQ (a1.getD x5.toNat dd)).bind λv8=> bif wA x4 v8 then (jW a1 n) (x4++v8) (w64 (x5+1)) else none else none else some x4
def TZ (a1:List Int):Option ByteArray:= (AU (IntKind.u64.wrap ((a1.length:Int)))).bind λv2=> (jW a1 FUEL v2 0).bind λo12=> some o12
def jK (a1:Scan):Nat->(List Int)->ByteArray->Int->Option ((List Int)×ByteArray)
 |0,_,_,_=>none
 |n+1,l5,x6,x7=> bif decide (x7<(a1.Rings.length:Int)) then bif inb x7 a1.Rings.length then bif room (l5.length+1) 8 then (DY (a1.Rings.getD x7.toNat dd)).bind λv11=> (TZ v11).bind λv13=> bif wA x6 v13 then (jK a1 n) (l5++[(a1.Rings.getD x7.toNat dd).Z]) (x6++v13) (w64 (x7+1)) else none else none else none else some (l5,x6)
def yQ (a1:Scan):Nat->(List Int)->Int->Option (List Int)
 |0,_,_=>none
 |n+1,l20,x21=> bif decide (x21<(a1.Defects.length:Int)) then bif inb x21 a1.Defects.length then bif room (l20.length+7) 8 then (yQ a1 n) (l20++[(a1.Defects.getD x21.toNat dd).Kind,(((a1.Defects.getD x21.toNat dd).Box).X).A,(((a1.Defects.getD x21.toNat dd).Box).X).B,(((a1.Defects.getD x21.toNat dd).Box).Y).A,(((a1.Defects.getD x21.toNat dd).Box).Y).B,(((a1.Defects.getD x21.toNat dd).Box).Z).A,(((a1.Defects.getD x21.toNat dd).Box).Z).B]) (w64 (x21+1)) else none else none else some l20
def OH (a1:Scan):Option (ByteArray×Int):= (GJ a1).bind λv2=> bif v2 !=0 then some ((ByteArray.mk #[]),v2) else (jK a1 FUEL [] (ByteArray.mk #[]) 0).bind λo18=> (yQ a1 FUEL [] 0).bind λo26=> (TZ o18.1).bind λv28=> bif wA v28 o18.2 then (TZ o26).bind λv31=> bif wA (v28++o18.2) v31 then some ((v28++o18.2)++v31,0) else none else none
def MC (a1:ByteArray):Option qR:= some (qR.mk a1 0 0)
def UD (a1:ByteArray) (a2:Int) (x3:Int) (x4:Int) (x5:Int) (x14:Bool):Option ((Int×Int×Int)⊕Unit):= bif x14 then some (Sum.inl (0,a2,5)) else some (Sum.inl (IntKind.u64.wrap (x3+(IntKind.u64.wrap ((Int.tmod (IntKind.u64.wrap (wS a1 ((w64 (a2+x5)).toNat))) 128)*x4))),w64 ((w64 (a2+x5))+1),0))
def XG (a1:ByteArray) (a2:Int) (x3:Int) (x4:Int) (x5:Int) (R:Int->Int->Int->Option ((Int×Int×Int)⊕Unit)) (x10:Bool):Option ((Int×Int×Int)⊕Unit):= bif x10 then some (Sum.inl (0,a2,5)) else bif decide ((IntKind.u64.wrap (wS a1 ((w64 (a2+x5)).toNat)))<128) then bif (IntKind.u64.wrap (wS a1 ((w64 (a2+x5)).toNat)))==0 then UD a1 a2 x3 x4 x5 (decide (x5>0)) else UD a1 a2 x3 x4 x5 false else R (IntKind.u64.wrap (x3+(IntKind.u64.wrap ((Int.tmod (IntKind.u64.wrap (wS a1 ((w64 (a2+x5)).toNat))) 128)*x4)))) (IntKind.u64.wrap (x4*128)) (w64 (x5+1))
def yV (a1:ByteArray) (a2:Int):Nat->Int->Int->Int->Option ((Int×Int×Int)⊕Unit)
 |0,_,_,_=>none
 |n+1,x3,x4,x5=> bif decide (x5<10) then bif decide ((w64 (a2+x5))≥(a1.size:Int)) then some (Sum.inl (0,a2,3)) else bif inb (w64 (a2+x5)) a1.size then bif x5==9 then XG a1 a2 x3 x4 x5 (yV a1 a2 n) (decide ((IntKind.u64.wrap (wS a1 ((w64 (a2+x5)).toNat)))>1)) else XG a1 a2 x3 x4 x5 (yV a1 a2 n) false else none else some (Sum.inr ())
def TX (a1:ByteArray) (a2:Int):Option (Int×Int×Int):= (yV a1 a2 FUEL 0 1 0).bind λu18=>Sum.elim (λv19=>some v19) (λo16=> some (0,a2,5)) u18
def UF (a1:qR) (a2:Int):Option qR:= some (qR.mk a1.S a1.At a2)
def TT (a2:Int) (v5:Int×Int×Int) (x9:Int) (x11:Bool):Option (Int×Int×Int):= bif x11 then some (0,a2,9) else some (x9,v5.2.1,0)
def YV (a2:Int) (a3:Int) (a4:Int) (v5:Int×Int×Int) (x9:Int):Option (Int×Int×Int):= bif decide (x9<a3) then TT a2 v5 x9 true else TT a2 v5 x9 (decide (x9>a4))
def NS (a1:ByteArray) (a2:Int) (a3:Int) (a4:Int):Option (Int×Int×Int):= (TX a1 a2).bind λv5=> bif v5.2.2 !=0 then some (0,a2,v5.2.2) else bif (Int.tmod v5.1 2)==1 then YV a2 a3 a4 v5 (w64 ((w64 (0-(w64 (IntKind.u64.wrap (Int.tdiv v5.1 2)))))-1)) else YV a2 a3 a4 v5 (w64 (IntKind.u64.wrap (Int.tdiv v5.1 2)))
def QG (a1:qR) (a3:Int) (a4:Int) (v6:Int×Int×Int):Nat->Int->(List Int)->qR->Option ((qR×(List Int))⊕(Int×(List Int)×qR))
 |0,_,_,_=>none
 |n+1,x16,l17,x18=> bif decide ((IntKind.u64.wrap ((l17.length:Int)))<v6.1) then (NS a1.S x16 a3 a4).bind λv20=> bif v20.2.2 !=0 then (UF a1 v20.2.2).bind λv23=> some (Sum.inl (v23,[])) else bif room (l17.length+1) 8 then (QG a1 a3 a4 v6 n) v20.2.1 (l17++[v20.1]) x18 else none else some (Sum.inr (x16,l17,x18))
def KY (a1:qR) (a3:Int) (a4:Int) (v6:Int×Int×Int) (x12:Bool):Option (qR×(List Int)):= bif x12 then (UF a1 4).bind λv14=> some (v14,[]) else (QG a1 a3 a4 v6 FUEL v6.2.1 [] (qR.mk (ByteArray.mk #[]) 0 0)).bind λu31=>Sum.elim (λv32=>some v32) (λo29=> some ((qR.mk a1.S o29.1 a1.E),o29.2.1)) u31
def WO (a1:qR) (a2:Int) (a3:Int) (a4:Int):Option (qR×(List Int)):= bif a1.E !=0 then some (a1,[]) else (TX a1.S a1.At).bind λv6=> bif v6.2.2 !=0 then (UF a1 v6.2.2).bind λv9=> some (v9,[]) else bif decide (a2<0) then KY a1 a3 a4 v6 true else KY a1 a3 a4 v6 (decide (v6.1>(IntKind.u64.wrap (a2))))
def WI (a1:List Int) (l2:List qC) (x3:Int) (R:(List qC)->Int->Option (((List qC)×Bool)⊕(List qC))) (x9:Bool):Option (((List qC)×Bool)⊕(List qC)):= bif x9 then some (Sum.inl ([],false)) else bif inb (w64 (x3+1)) a1.length then bif inb (w64 (x3+2)) a1.length then bif room (l2.length+1) 24 then R (l2++[(qC.mk (qA.mk (a1.getD (w64 (x3+1)).toNat dd) (a1.getD (w64 (x3+2)).toNat dd)) true)]) (w64 (x3+3)) else none else none else none
def jU (a1:List Int):Nat->(List qC)->Int->Option (((List qC)×Bool)⊕(List qC))
 |0,_,_=>none
 |n+1,l2,x3=> bif decide (x3<(a1.length:Int)) then bif inb x3 a1.length then bif (a1.getD x3.toNat dd)==0 then bif room (l2.length+1) 24 then (jU a1 n) (l2++[(qC.mk (qA.mk 0 0) false)]) (w64 (x3+1)) else none else bif (a1.getD x3.toNat dd) !=1 then WI a1 l2 x3 (jU a1 n) true else WI a1 l2 x3 (jU a1 n) (decide ((w64 (x3+2))≥(a1.length:Int))) else none else some (Sum.inr l2)
def VX (a1:List Int):Option ((List qC)×Bool):= (jU a1 FUEL [] 0).bind λu17=>Sum.elim (λv18=>some v18) (λo15=> some (o15,true)) u17
def qCr (a1:qR):Option Int:= some (w64 ((a1.S.size:Int)-a1.At))
def FX (a1:qR) (x5:Bool):Option Int:= bif x5 then some 4 else some a1.E
def qD0 (a1:qR):Option Int:= bif a1.E==0 then (qCr a1).bind λv3=> FX a1 (decide (v3>0)) else FX a1 false
def YL (v4:qR×(List Int)):Nat->Int->(List Ring)->qR->Option ((Scan×Bool)⊕(qR×(List Ring)))
 |0,_,_,_=>none
 |n+1,x6,l7,x8=> bif decide (x6<(v4.2.length:Int)) then (WO x8 96 (-1099511627776) 1099511627776).bind λv10=> (VX v10.2).bind λv12=> bif !v12.2 then some (Sum.inl ((Scan.mk [] []),false)) else bif inb x6 v4.2.length then bif room (l7.length+1) 32 then (YL v4 n) (w64 (x6+1)) (l7++[(Ring.mk (v4.2.getD x6.toNat dd) v12.1)]) v10.1 else none else none else some (Sum.inr (x8,l7))
def PM (v24:qR×(List Int)):Nat->Int->(List qI)->Option (List qI)
 |0,_,_=>none
 |n+1,x31,l32=> bif decide (x31<(v24.2.length:Int)) then bif inb (w64 (x31+1)) v24.2.length then bif inb (w64 (x31+2)) v24.2.length then bif inb (w64 (x31+3)) v24.2.length then bif inb (w64 (x31+4)) v24.2.length then bif inb (w64 (x31+5)) v24.2.length then bif inb (w64 (x31+6)) v24.2.length then bif inb x31 v24.2.length then bif room (l32.length+1) 56 then (PM v24 n) (w64 (x31+7)) (l32++[(qI.mk (v24.2.getD x31.toNat dd) (Box.mk (Span.mk (v24.2.getD ((w64 (x31+1)).toNat) dd) (v24.2.getD ((w64 (x31+2)).toNat) dd)) (Span.mk (v24.2.getD ((w64 (x31+3)).toNat) dd) (v24.2.getD ((w64 (x31+4)).toNat) dd)) (Span.mk (v24.2.getD ((w64 (x31+5)).toNat) dd) (v24.2.getD ((w64 (x31+6)).toNat) dd))))]) else none
 else none else none else none else none else none else none else none else some l32
def JZ (o20:qR×(List Ring)) (v24:qR×(List Int)) (x29:Bool):Option (Scan×Bool):= bif x29 then some ((Scan.mk [] []),false) else (PM v24 FUEL 0 []).bind λo43=> some ((Scan.mk o20.2 o43),true)
def AQ (a1:ByteArray):Option (Scan×Bool):= (MC a1).bind λv2=> (WO v2 24 (-1099511627776) 1099511627776).bind λv4=> (YL v4 FUEL 0 [] v4.1).bind λu22=>Sum.elim (λv23=>some v23) (λo20=> (WO o20.1 448 (-1099511627776) 1099511627776).bind λv24=> (qD0 v24.1).bind λv26=> bif v26 !=0 then JZ o20 v24 true else JZ o20 v24 ((Int.tmod (v24.2.length:Int) 7) !=0)) u22
def CZ (a1:ByteArray):Option (Scan×Int):= (AQ a1).bind λv2=> bif !v2.2 then some ((Scan.mk [] []),5) else (GJ (Scan.mk v2.1.Rings v2.1.Defects)).bind λv5=> bif v5 !=0 then some ((Scan.mk [] []),v5) else some ((Scan.mk v2.1.Rings v2.1.Defects),0)
def QF (x29:Bool):Option Bool:= some x29
def QJ (x36:Bool):Option Bool:= some x36
def jS (a2:ByteArray) (x21:Bool):Option Bool:= bif x21 then some false else (jG a2).bind λv23=> bif v23.2 !=0 then bif (w64 ((v23.1.Rings.length:Int)+(v23.1.Defects.length:Int)))==0 then (law15_awake).bind λv27=> QF v27 else QF false else (jH (Scan.mk v23.1.Rings v23.1.Defects)).bind λv30=> bif v30.2==0 then bif AA v30.1 a2 then (law15_awake).bind λv34=> QJ v34 else QJ false else QJ false
def jQ (a1:Scan) (a2:ByteArray) (x6:Bool):Option Bool:= bif x6 then (law15_awake).bind λv8=> some v8 else (jH a1).bind λv10=> (yJ a1).bind λv12=> bif v10.2 !=v12 then some false else (jG v10.1).bind λv15=> bif v10.2==0 then bif v15.2 !=0 then jS a2 true else (JF (Scan.mk v15.1.Rings v15.1.Defects) a1).bind λv19=> jS a2 (!v19) else jS a2 false
def WS (a1:Scan) (a2:ByteArray):Option Bool:= (GX a1).bind λv3=> bif !v3 then jQ a1 a2 true else jQ a1 a2 (decide ((a2.size:Int)>20000))
end Saw
end Go.SL

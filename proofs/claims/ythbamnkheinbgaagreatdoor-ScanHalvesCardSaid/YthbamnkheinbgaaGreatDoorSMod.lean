import Derived.Test.YthbamnkheinbgaaGreatDoorYa6
set_option linter.unusedVariables false
set_option linter.unusedSimpArgs false
namespace Go.SL
namespace Saw
structure qA where
 X:Int
 Y:Int
instance : Inhabited qA:=⟨⟨0,0⟩⟩
def qC (r:qA):List C:=[ci r.X,ci r.Y]
structure qD where
 P:qA
 Ok:Bool
instance : Inhabited qD:=⟨⟨dd,false⟩⟩
def qH (r:qD):List C:=[ci r.P.X,ci r.P.Y,cb r.Ok]
structure Ring where
 Z:Int
 Read:List qD
instance : Inhabited Ring:=⟨⟨0,[]⟩⟩
def qM (r:Ring):List C:=[ci r.Z,tl qH dd r.Read]
structure Span where
 A:Int
 B:Int
instance : Inhabited Span:=⟨⟨0,0⟩⟩
def qG (r:Span):List C:=[ci r.A,ci r.B]
structure Box where
 X:Span
 Y:Span
 Z:Span
instance : Inhabited Box:=⟨⟨dd,dd,dd⟩⟩
def qIj (r:Box):List C:=[ci r.X.A,ci r.X.B,ci r.Y.A,ci r.Y.B,ci r.Z.A,ci r.Z.B]
structure qF where
 Kind:Int
 Box:Box
instance : Inhabited qF:=⟨⟨0,dd⟩⟩
def qJ (r:qF):List C:=[ci r.Kind,ci r.Box.X.A,ci r.Box.X.B,ci r.Box.Y.A,ci r.Box.Y.B,ci r.Box.Z.A,ci r.Box.Z.B]
structure Scan where
 Rings:List Ring
 Defects:List qF
instance : Inhabited Scan:=⟨⟨[],[]⟩⟩
def qX (r:Scan):List C:=[tl qM dd r.Rings,tl qJ dd r.Defects]
structure qB where
 Low:Int
 Rows:List Span
instance : Inhabited qB:=⟨⟨0,[]⟩⟩
def qL (r:qB):List C:=[ci r.Low,tl qG dd r.Rows]
structure Rect where
 X:Span
 Y:Span
instance : Inhabited Rect:=⟨⟨dd,dd⟩⟩
def YP (r:Rect):List C:=[ci r.X.A,ci r.X.B,ci r.Y.A,ci r.Y.B]
structure qT where
 Len:Int
 Sec:qB
instance : Inhabited qT:=⟨⟨0,dd⟩⟩
def zB (r:qT):List C:=[ci r.Len,ci r.Sec.Low,tl qG dd r.Sec.Rows]
structure qI where
 s:ByteArray
 at_:Int
 e:Int
instance : Inhabited qI:=⟨⟨⟨#[]⟩,0,0⟩⟩
def qN (r:qI):List C:=[cs r.s,ci r.at_,ci r.e]
structure qMd where
 S:ByteArray
 At:Int
 E:Int
instance : Inhabited qMd:=⟨⟨⟨#[]⟩,0,0⟩⟩
def qCS :List Int:=[(-1),1]
def qV :List qA:=[(qA.mk 1 0),(qA.mk 0 1),(qA.mk (-1) 0),(qA.mk 0 (-1))]
def globs :List (Nat×C):=[(0,.aptr 2 1 (rf qO qCS)),(1,.aptr 4 2 (rf qC qV))]
def JE (a1:Scan):Nat->Int->Option (Bool⊕Unit)
 |0,_=>none
 |n+1,x5=> bif decide (x5<(a1.Rings.length:Int)) then bif inb x5 a1.Rings.length then bif decide (((((a1.Rings.getD x5.toNat dd).Read).length:Nat):Int)>60) then some (Sum.inl false) else (JE a1 n) (w64 (x5+1)) else none else some (Sum.inr ())
def FK (a1:Scan) (x3:Bool):Option Bool:= bif x3 then some false else (JE a1 FUEL 0).bind λu11=>Sum.elim (λv12=>some v12) (λo9=> some true) u11
def ES (a1:Scan):Option Bool:= bif decide ((a1.Rings.length:Int)>40) then FK a1 true else FK a1 (decide ((a1.Defects.length:Int)>100))
def TS :Nat->Int->(List qD)->Option (List qD)
 |0,_,_=>none
 |n+1,x4,l5=> bif decide (x4<((8:Nat):Int)) then bif inb x4 8 then bif room (l5.length+1) 24 then (TS n) (w64 (x4+1)) (l5++([(qD.mk (qA.mk (([(-50),0,50,50,50,0,(-50),(-50)]:List Int).getD x4.toNat dd) (([(-20),(-20),(-20),0,20,20,20,0]:List Int).getD x4.toNat dd)) true)]:List qD)) else none else none else some l5
def VO (x3:Bool):Option Bool:= some x3
def TA (a1:Int):Option Bool:= bif decide (a1≥(-600)) then VO (decide (a1<=600)) else VO false
def BA (x7:Int) (R:Int->Option (Int⊕Unit)) (x19:Bool):Option (Int⊕Unit):= bif x19 then some (Sum.inl 19) else R (w64 (x7+1))
def RL (a1:Ring) (x7:Int) (R:Int->Option (Int⊕Unit)) (x16:Bool):Option (Int⊕Unit):= bif x16 then some (Sum.inl 9) else bif !((a1.Read.getD x7.toNat dd).Ok) then BA x7 R (!(((((a1.Read.getD x7.toNat dd).P).X)==0)&&(((((a1.Read.getD x7.toNat dd).P).Y)==0)&&true))) else BA x7 R false
def jJ (a1:Ring):Nat->Int->Option (Int⊕Unit)
 |0,_=>none
 |n+1,x7=> bif decide (x7<(a1.Read.length:Int)) then bif inb x7 a1.Read.length then bif (a1.Read.getD x7.toNat dd).Ok then (TA (((a1.Read.getD x7.toNat dd).P).X)).bind λv11=> bif !v11 then RL a1 x7 (jJ a1 n) true else (TA (((a1.Read.getD x7.toNat dd).P).Y)).bind λv14=> RL a1 x7 (jJ a1 n) (!v14) else RL a1 x7 (jJ a1 n) false else none else some (Sum.inr ())
def BB (a1:Ring) (x5:Bool):Option Int:= bif x5 then some 9 else (jJ a1 FUEL 0).bind λu23=>Sum.elim (λv24=>some v24) (λo21=> some 0) u23
def XD (a1:Ring):Option Int:= bif decide ((a1.Read.length:Int)<8) then some 3 else bif decide ((a1.Read.length:Int)>32) then some 4 else bif decide (a1.Z<0) then BB a1 true else BB a1 (decide (a1.Z>20000))
def WR (a1:Span):Option Bool:= some (decide (a1.A≥a1.B))
def PJ (x5:Bool):Option Bool:= some x5
def ZZ (a1:Span) (a2:Int) (a3:Int):Option Bool:= bif decide ((imin a1.A a1.B)≥a2) then PJ (decide ((imax a1.A a1.B)<=a3)) else PJ false
def XA (x23:Bool):Option Int:= bif x23 then some 9 else some 0
def XE (a1:qF) (x13:Bool):Option Int:= bif x13 then some 19 else (ZZ a1.Box.X (-600) 600).bind λv15=> bif !v15 then XA true else (ZZ a1.Box.Y (-600) 600).bind λv18=> bif !v18 then XA true else (ZZ a1.Box.Z 0 20000).bind λv21=> XA (!v21)
def TZ (a1:qF) (x3:Bool):Option Int:= bif x3 then some 10 else (WR a1.Box.X).bind λv5=> bif v5 then XE a1 true else (WR a1.Box.Y).bind λv8=> bif v8 then XE a1 true else (WR a1.Box.Z).bind λv11=> XE a1 v11
def VJ (a1:qF):Option Int:= bif decide (a1.Kind<1) then TZ a1 true else TZ a1 (decide (a1.Kind>6))
def yV (a1:List qF):Nat->Int->Option (Int⊕Unit)
 |0,_=>none
 |n+1,x3=> bif decide (x3<(a1.length:Int)) then bif inb x3 a1.length then (VJ (a1.getD x3.toNat dd)).bind λv6=> bif v6 !=0 then some (Sum.inl v6) else (yV a1 n) (w64 (x3+1)) else none else some (Sum.inr ())
def KY (a1:List qF):Option Int:= bif decide ((a1.length:Int)>64) then some 4 else (yV a1 FUEL 0).bind λu11=>Sum.elim (λv12=>some v12) (λo9=> some 0) u11
def ZV (a1:Scan) (x4:Int) (R:Int->Option (Int⊕Unit)) (x16:Bool):Option (Int⊕Unit):= bif x16 then some (Sum.inl 11) else bif inb 0 a1.Rings.length then bif ((((a1.Rings.getD x4.toNat dd).Read).length:Nat):Int) !=((((a1.Rings.getD (0:Int).toNat dd).Read).length:Nat):Int) then some (Sum.inl 19) else R (w64 (x4+1)) else none
def wL (a1:Scan):Nat->Int->Option (Int⊕Unit)
 |0,_=>none
 |n+1,x4=> bif decide (x4<(a1.Rings.length:Int)) then bif inb x4 a1.Rings.length then (XD (a1.Rings.getD x4.toNat dd)).bind λv7=> bif v7 !=0 then some (Sum.inl v7) else bif x4==0 then bif ((a1.Rings.getD x4.toNat dd).Z) !=0 then ZV a1 x4 (wL a1 n) true else bif decide (x4>0) then bif inb (w64 (x4-1)) a1.Rings.length then ZV a1 x4 (wL a1 n) (decide (((a1.Rings.getD x4.toNat dd).Z)<=((a1.Rings.getD (w64 (x4-1)).toNat dd).Z))) else none else ZV a1 x4 (wL a1 n) false else bif decide (x4>0) then bif inb (w64 (x4-1)) a1.Rings.length then ZV a1 x4 (wL a1 n) (decide (((a1.Rings.getD x4.toNat dd).Z)<=((a1.Rings.getD (w64 (x4-1)).toNat dd).Z))) else none else ZV a1 x4 (wL a1 n) false else none else some (Sum.inr ())
def YE (a1:Scan):Nat->Int->Option (Int⊕Unit)
 |0,_=>none
 |n+1,x28=> bif decide (x28<(a1.Defects.length:Int)) then bif inb x28 a1.Defects.length then bif decide (((((a1.Defects.getD x28.toNat dd).Box).Z).B)>((a1.Rings.getD (w64 ((a1.Rings.length:Int)-1)).toNat dd).Z)) then some (Sum.inl 9) else (YE a1 n) (w64 (x28+1)) else none else some (Sum.inr ())
def jU (a1:Scan):Option Int:= bif decide ((a1.Rings.length:Int)<2) then some 3 else bif decide ((a1.Rings.length:Int)>24) then some 4 else (wL a1 FUEL 0).bind λu22=>Sum.elim (λv23=>some v23) (λo20=> (KY a1.Defects).bind λv24=> bif v24 !=0 then some v24 else bif inb (w64 ((a1.Rings.length:Int)-1)) a1.Rings.length then (YE a1 FUEL 0).bind λu34=>Sum.elim (λv35=>some v35) (λo32=> some 0) u34 else none) u22
def yG (a1:List qD):Option (List qD):= bif room a1.length 24 then some a1 else none
def GB (a1:Ring):Option Ring:= (yG a1.Read).bind λv2=> some (Ring.mk a1.Z v2)
def PH (x3:Int) (R:(List Int)->Int->Option (List Int)) (l8:List Int):Option (List Int):= R l8 (w64 (x3+1))
def jD (a1:Ring):Nat->(List Int)->Int->Option (List Int)
 |0,_,_=>none
 |n+1,l2,x3=> bif decide (x3<(a1.Read.length:Int)) then bif inb x3 a1.Read.length then bif (a1.Read.getD x3.toNat dd).Ok then bif room (l2.length+1) 8 then PH x3 (jD a1 n) (l2++[x3]) else none else PH x3 (jD a1 n) l2 else none else some l2
def ZW (a1:Ring):Option (List Int):= (jD a1 FUEL [] 0).bind λo10=> some o10
def EH (x5:Bool):Option Bool:= some x5
def qAy (a1:qA) (a2:qA) (a3:Int):Option Bool:= bif decide ((imax (w64 (a1.X-a2.X)) (w64 (a2.X-a1.X)))>a3) then EH true else EH (decide ((imax (w64 (a1.Y-a2.Y)) (w64 (a2.Y-a1.Y)))>a3))
def BC (x18:Int) (R:Bool->Int->Option Bool) (x28:Bool):Option Bool:= R x28 (w64 (x18+1))
def wZ (a1:Ring) (a2:Int) (v5:(List Int)) (x13:Int):Nat->Bool->Int->Option Bool
 |0,_,_=>none
 |n+1,x17,x18=> bif decide (x18<2) then bif inb x18 2 then bif nz (v5.length:Int) then bif inb (Int.tmod (w64 ((w64 (x13+(v5.length:Int)))+(([(-1),1]:List Int).getD x18.toNat 0))) (v5.length:Int)) v5.length then bif inb (v5.getD ((Int.tmod (w64 ((w64 (x13+(v5.length:Int)))+(([(-1),1]:List Int).getD x18.toNat 0))) (v5.length:Int)).toNat) dd) a1.Read.length then bif x17 then bif inb (v5.getD x13.toNat dd) a1.Read.length then (qAy ((a1.Read.getD (v5.getD x13.toNat dd).toNat dd).P) ((a1.Read.getD (v5.getD ((Int.tmod (w64 ((w64 (x13+(v5.length:Int)))+(([(-1),1]:List Int).getD x18.toNat 0))) (v5.length:Int)).toNat) dd).toNat dd).P) a2).bind λv26=> BC x18 (wZ a1 a2 v5 x13 n) v26 else none else BC x18 (wZ a1 a2 v5 x13 n) false
 else none else none else none else none else some x17
def DY (x13:Int) (R:Int->(List qD)->Option (List qD)) (l34:List qD):Option (List qD):= R (w64 (x13+1)) l34
def QC (a1:Ring) (a2:Int) (v5:(List Int)):Nat->Int->(List qD)->Option (List qD)
 |0,_,_=>none
 |n+1,x13,l14=> bif decide (x13<(v5.length:Int)) then bif inb x13 v5.length then (wZ a1 a2 v5 x13 FUEL true 0).bind λo30=> bif o30 then bif inb (v5.getD x13.toNat dd) l14.length then DY x13 (QC a1 a2 v5 n) (l14.set ((v5.getD x13.toNat dd).toNat) (qD.mk (qA.mk 0 0) false)) else none else DY x13 (QC a1 a2 v5 n) l14 else none else some l14
def RM (a1:Ring) (a2:Int) (v3:Ring) (v5:(List Int)) (x11:Bool):Option Ring:= bif x11 then some (Ring.mk v3.Z v3.Read) else (QC a1 a2 v5 FUEL 0 v3.Read).bind λo36=> some (Ring.mk v3.Z o36)
def FO (a1:Ring) (a2:Int):Option Ring:= (GB a1).bind λv3=> (ZW a1).bind λv5=> bif decide (a2<0) then RM a1 a2 v3 v5 true else bif decide ((v5.length:Int)<2) then RM a1 a2 v3 v5 true else (XD a1).bind λv9=> RM a1 a2 v3 v5 (v9 !=0)
def TF (a1:Ring) (a2:List Int) (a3:Int):Option Int:= bif decide ((w64 (a3+1))<(a2.length:Int)) then bif inb (w64 (a3+1)) a2.length then bif inb a3 a2.length then some (w64 ((w64 ((a2.getD (w64 (a3+1)).toNat dd)-(a2.getD a3.toNat dd)))-1)) else none else none else bif inb 0 a2.length then bif inb a3 a2.length then some (w64 ((w64 ((w64 ((a2.getD (0:Int).toNat dd)+(a1.Read.length:Int)))-(a2.getD a3.toNat dd)))-1)) else none else none
def KZ (a1:Ring) (v2:(List Int)):Nat->Int->Int->Option Int
 |0,_,_=>none
 |n+1,x5,x6=> bif decide (x6<(v2.length:Int)) then (TF a1 v2 x6).bind λv8=> (KZ a1 v2 n) (imax x5 v8) (w64 (x6+1)) else some x5
def NP (a1:Ring):Option (Int×Int):= (ZW a1).bind λv2=> bif (v2.length:Int)==0 then some (w64 ((a1.Read.length:Int)-(v2.length:Int)),w64 ((a1.Read.length:Int)-(v2.length:Int))) else (KZ a1 v2 FUEL 0 0).bind λo11=> some (w64 ((a1.Read.length:Int)-(v2.length:Int)),o11)
def BG (x5:Int):Option Int:= some x5
def VX (a1:Int) (a2:Int):Option Int:= bif nz a2 then bif decide ((Int.tmod a1 a2)<0) then BG (w64 ((w64 (Int.tdiv a1 a2))-1)) else BG (w64 (Int.tdiv a1 a2)) else none
def WO (a1:Ring) (v6:(List Int)) (x16:Int) (v24:Int):Nat->(List qA)->Int->Option (List qA)
 |0,_,_=>none
 |n+1,l26,x27=> bif decide (x27<=v24) then bif nz (l26.length:Int) then (VX (w64 ((w64 ((((a1.Read.getD (v6.getD ((Int.tmod (w64 (x16+1)) (v6.length:Int)).toNat) dd).toNat dd).P).X)-(((a1.Read.getD (v6.getD x16.toNat dd).toNat dd).P).X)))*x27)) (w64 (v24+1))).bind λv30=> (VX (w64 ((w64 ((((a1.Read.getD (v6.getD ((Int.tmod (w64 (x16+1)) (v6.length:Int)).toNat) dd).toNat dd).P).Y)-(((a1.Read.getD (v6.getD x16.toNat dd).toNat dd).P).Y)))*x27)) (w64 (v24+1))).bind λv32=> bif inb (Int.tmod (w64 ((v6.getD x16.toNat dd)+x27)) (l26.length:Int)) l26.length then (WO a1 v6 x16 v24 n) (l26.set ((Int.tmod (w64 ((v6.getD x16.toNat dd)+x27)) (l26.length:Int)).toNat) (qA.mk (w64 ((((a1.Read.getD (v6.getD x16.toNat dd).toNat dd).P).X)+v30)) (w64 ((((a1.Read.getD (v6.getD x16.toNat dd).toNat dd).P).Y)+v32)))) (w64 (x27+1))
 else none else none else some l26
def QX (a1:Ring) (v6:(List Int)):Nat->(List qA)->Int->Option (List qA)
 |0,_,_=>none
 |n+1,l15,x16=> bif decide (x16<(v6.length:Int)) then bif inb x16 v6.length then bif inb (v6.getD x16.toNat dd) a1.Read.length then bif nz (v6.length:Int) then bif inb (Int.tmod (w64 (x16+1)) (v6.length:Int)) v6.length then bif inb (v6.getD ((Int.tmod (w64 (x16+1)) (v6.length:Int)).toNat) dd) a1.Read.length then bif inb (v6.getD x16.toNat dd) l15.length then (TF a1 v6 x16).bind λv24=> (WO a1 v6 x16 v24 FUEL (l15.set ((v6.getD x16.toNat dd).toNat) ((a1.Read.getD (v6.getD x16.toNat dd).toNat dd).P)) 1).bind λo36=> (QX a1 v6 n) o36 (w64 (x16+1)) else none else none else none else none else none else none else some l15
def KI (a1:Ring) (v6:(List Int)) (x12:Bool):Option ((List qA)×Int):= bif x12 then some ([],30) else bif mkOk (a1.Read.length:Int) 16 then (QX a1 v6 FUEL (List.replicate ((a1.Read.length:Int).toNat) (qA.mk 0 0)) 0).bind λo39=> some (o39,0) else none
def DK (a1:Ring) (a2:Int):Option ((List qA)×Int):= (XD a1).bind λv3=> bif v3 !=0 then some ([],v3) else (ZW a1).bind λv6=> (NP a1).bind λv8=> bif decide ((v6.length:Int)<3) then KI a1 v6 true else bif decide (v8.1>0) then KI a1 v6 (decide (v8.2>a2)) else KI a1 v6 false
def VW (x3:Bool):Option Bool:= some x3
def RU (a1:Int):Option Bool:= bif decide (a1≥(-600)) then VW (decide (a1<=600)) else VW false
def TN (x2:Int) (R:Int->Option (Bool⊕Unit)) (x10:Bool):Option (Bool⊕Unit):= bif x10 then some (Sum.inl false) else R (w64 (x2+1))
def yN (a1:List qA):Nat->Int->Option (Bool⊕Unit)
 |0,_=>none
 |n+1,x2=> bif decide (x2<(a1.length:Int)) then bif inb x2 a1.length then (RU ((a1.getD x2.toNat dd).X)).bind λv5=> bif !v5 then TN x2 (yN a1 n) true else (RU ((a1.getD x2.toNat dd).Y)).bind λv8=> TN x2 (yN a1 n) (!v8) else none else some (Sum.inr ())
def WU (a1:List qA):Option Bool:= (yN a1 FUEL 0).bind λu14=>Sum.elim (λv15=>some v15) (λo12=> some true) u14
def JY (a1:List qA):Nat->Int->Int->Option Int
 |0,_,_=>none
 |n+1,x7,x8=> bif decide (x8<(a1.length:Int)) then bif inb x8 a1.length then bif nz (a1.length:Int) then bif inb (Int.tmod (w64 (x8+1)) (a1.length:Int)) a1.length then (JY a1 n) (w64 (x7+(w64 ((w64 (((a1.getD x8.toNat dd).X)*((a1.getD (Int.tmod (w64 (x8+1)) (a1.length:Int)).toNat dd).Y)))-(w64 (((a1.getD (Int.tmod (w64 (x8+1)) (a1.length:Int)).toNat dd).X)*((a1.getD x8.toNat dd).Y))))))) (w64 (x8+1)) else none else none else none else some x7
def BD (a1:List qA) (x5:Bool):Option Int:= bif x5 then some 0 else (JY a1 FUEL 0 0).bind λo14=> some o14
def MD (a1:List qA):Option Int:= bif decide ((a1.length:Int)>32) then BD a1 true else (WU a1).bind λv3=> BD a1 (!v3)
def LG (a1:List qA):Option Int:= bif decide ((a1.length:Int)<3) then some 3 else bif decide ((a1.length:Int)>32) then some 4 else (WU a1).bind λv4=> bif !v4 then some 9 else (MD a1).bind λv7=> bif v7==0 then some 19 else some 0
def TO (a1:Int) (a2:Int):Option Span:= some (Span.mk (w64 (10*a1)) (w64 (10*a2)))
def QI (a1:List qA):Option (List qA):= bif room a1.length 16 then some a1 else none
def RC (a1:Int):Option Bool:= some (a1 !=a1)
def ZO (a1:Int) (a2:Int):Option Int:= (RC a1).bind λv3=> (RC a2).bind λv5=> bif v3 then bif v5 then some 0 else some (-1) else bif v5 then some 1 else bif decide (a1<a2) then some (-1) else bif decide (a1>a2) then some 1 else some 0
def WP (a1:List Int):Nat->Int->Option (Int⊕Unit)
 |0,_=>none
 |n+1,x2=> bif decide (x2<(a1.length:Int)) then bif inb x2 a1.length then bif (a1.getD x2.toNat dd) !=0 then some (Sum.inl (a1.getD x2.toNat dd)) else (WP a1 n) (w64 (x2+1)) else none else some (Sum.inr ())
def DG (a1:List Int):Option Int:= (WP a1 FUEL 0).bind λu8=>Sum.elim (λv9=>some v9) (λo6=> some 0) u8
def poly_Hull_1 (a1:qA) (a2:qA):Option Int:= (ZO a1.X a2.X).bind λv3=> (ZO a1.Y a2.Y).bind λv5=> (DG [v3,v5]).bind λv7=> some v7
def jQ (a1:List qA):Option (List qA):= bif qEH a1.length then some (RO poly_Hull_1 a1) else none
def yL (x12:Int) (R:(List qA)->Int->Int->Option ((List qA)×Int)) (l19:List qA) (x20:Int):Option ((List qA)×Int):= R l19 x20 (w64 (x12+1))
def wB (l3:List qA) (x4:Int):Nat->(List qA)->Int->Int->Option ((List qA)×Int)
 |0,_,_,_=>none
 |n+1,l10,x11,x12=> bif decide (x12<(((l3.length-x4.toNat):Nat):Int)) then bif inb x12 (l3.length-x4.toNat) then bif Nat.ble (x4.toNat+(l3.length-x4.toNat)) l10.length then bif inb (w64 (x12-1)) (l3.length-x4.toNat) then bif !((((l10.getD (x4.toNat+x12.toNat) dd).X)==((l10.getD (x4.toNat+((w64 (x12-1)).toNat)) dd).X))&&((((l10.getD (x4.toNat+x12.toNat) dd).Y)==((l10.getD (x4.toNat+((w64 (x12-1)).toNat)) dd).Y))&&true)) then bif inb x11 l10.length then yL x12 (wB l3 x4 n) (l10.set x11.toNat (l10.getD (x4.toNat+x12.toNat) dd)) (w64 (x11+1)) else none else yL x12 (wB l3 x4 n) l10 x11 else none else none else none else some (l10,x11)
def wR :Nat->(List qA)->Int->Option (((List qA)×(List qA))⊕(List qA))
 |0,_,_=>none
 |n+1,l3,x4=> bif decide (x4<(l3.length:Int)) then bif inb x4 l3.length then bif inb (w64 (x4-1)) l3.length then bif ((((l3.getD x4.toNat dd).X)==((l3.getD ((w64 (x4-1)).toNat) dd).X))&&((((l3.getD x4.toNat dd).Y)==((l3.getD ((w64 (x4-1)).toNat) dd).Y))&&true)) then bif slOk x4 (l3.length:Int) l3.length then (wB l3 x4 FUEL l3 x4 1).bind λo23=> bif slOk o23.2 (o23.1.length:Int) o23.1.length then bif slOk 0 o23.2 o23.1.length then some (Sum.inl ((o23.1.take o23.2.toNat),(o23.1.take o23.2.toNat))) else none else none else none else (wR n) l3 (w64 (x4+1)) else none else none else some (Sum.inr l3)
def jC (a1:List qA):Option ((List qA)×(List qA)):= bif decide ((a1.length:Int)<2) then some (a1,a1) else (wR FUEL a1 1).bind λu30=>Sum.elim (λv31=>some v31) (λo28=> some (o28,o28)) u30
def FJ (a1:qA) (a2:qA) (a3:qA):Option Int:= some (w64 ((w64 ((w64 (a2.X-a1.X))*(w64 (a3.Y-a1.Y))))-(w64 ((w64 (a3.X-a1.X))*(w64 (a2.Y-a1.Y))))))
def DZ (l6:List qA) (R:(List qA)->Option (List qA)) (x12:Bool):Option (List qA):= bif x12 then bif slOk 0 (w64 ((l6.length:Int)-1)) l6.length then R (l6.take ((w64 ((l6.length:Int)-1)).toNat)) else none else some l6
def ZU (a1:List qA) (x3:Int):Nat->(List qA)->Option (List qA)
 |0,_=>none
 |n+1,l6=> bif decide ((l6.length:Int)≥2) then bif inb (w64 ((l6.length:Int)-2)) l6.length then bif inb (w64 ((l6.length:Int)-1)) l6.length then (FJ (l6.getD ((w64 ((l6.length:Int)-2)).toNat) dd) (l6.getD ((w64 ((l6.length:Int)-1)).toNat) dd) (a1.getD x3.toNat dd)).bind λv10=> DZ l6 (ZU a1 x3 n) (decide (v10<=0)) else none else none else DZ l6 (ZU a1 x3 n) false
def RA (a1:List qA):Nat->(List qA)->Int->Option (List qA)
 |0,_,_=>none
 |n+1,l2,x3=> bif decide (x3<(a1.length:Int)) then bif inb x3 a1.length then (ZU a1 x3 FUEL l2).bind λo16=> bif room (o16.length+1) 16 then (RA a1 n) (o16++[(a1.getD x3.toNat dd)]) (w64 (x3+1)) else none else none else some l2
def GF (a1:List qA):Option (List qA):= (RA a1 FUEL [] 0).bind λo20=> bif slOk 0 (w64 ((o20.length:Int)-1)) o20.length then some (o20.take ((w64 ((o20.length:Int)-1)).toNat)) else none
def jE :Nat->(List qA)->Int->Int->Option (List qA)
 |0,_,_,_=>none
 |n+1,l2,x3,x4=> bif decide (x3<x4) then bif inb x4 l2.length then bif inb x3 l2.length then (jE n) ((l2.set x3.toNat (l2.getD x4.toNat dd)).set x4.toNat (l2.getD x3.toNat dd)) (w64 (x3+1)) (w64 (x4-1)) else none else none else some l2
def yB (a1:List qA):Option (List qA):= (jE FUEL a1 0 (w64 ((a1.length:Int)-1))).bind λo9=> some o9
def UI (a1:List qA) (x6:Bool):Option (List qA):= bif x6 then some ([]:List qA) else (QI a1).bind λv8=> (jQ v8).bind λv10=> bif v10.length==v8.length then (jC v10).bind λv13=> (GF v13.2).bind λv15=> (yB v13.2).bind λv17=> bif v17.length==v13.2.length then (GF v17).bind λv20=> bif room (v15.length+v20.length) 16 then bif decide ((((v15.length+v20.length):Nat):Int)<3) then some ([]:List qA) else some (v15++v20) else none else none else none
def AV (a1:List qA):Option (List qA):= bif decide ((a1.length:Int)<3) then UI a1 true else bif decide ((a1.length:Int)>32) then UI a1 true else (WU a1).bind λv4=> UI a1 (!v4)
def XQ (a1:List qA):Nat->Int->Rect->Option Rect
 |0,_,_=>none
 |n+1,x4,x5=> bif decide (x4<(a1.length:Int)) then bif inb x4 a1.length then (XQ a1 n) (w64 (x4+1)) (Rect.mk (Span.mk (imin x5.X.A ((a1.getD x4.toNat dd).X)) (imax x5.X.B ((a1.getD x4.toNat dd).X))) (Span.mk (imin x5.Y.A ((a1.getD x4.toNat dd).Y)) (imax x5.Y.B ((a1.getD x4.toNat dd).Y)))) else none else some x5
def DN (a1:List qA):Option Rect:= bif (a1.length:Int)==0 then some (Rect.mk (Span.mk 0 0) (Span.mk 0 0)) else bif inb 0 a1.length then (XQ a1 FUEL 0 (Rect.mk (Span.mk ((a1.getD (0:Int).toNat dd).X) ((a1.getD (0:Int).toNat dd).X)) (Span.mk ((a1.getD (0:Int).toNat dd).Y) ((a1.getD (0:Int).toNat dd).Y)))).bind λo9=> some o9 else none
def DW (x5:Int):Option Int:= some x5
def GA (a1:Int) (a2:Int):Option Int:= bif nz a2 then bif decide ((Int.tmod a1 a2)<0) then DW (w64 ((w64 (Int.tdiv a1 a2))-1)) else DW (w64 (Int.tdiv a1 a2)) else none
def YV (x6:Int) (R:Int->Int->Int->Option (Int×Int)) (x23:Int) (x24:Int):Option (Int×Int):= R x23 x24 (w64 (x6+1))
def YT (a1:Int) (a3:List qA) (x4:Int) (x5:Int) (x6:Int) (R:Int->Int->Int->Option (Int×Int)) (x19:Bool):Option (Int×Int):= bif x19 then (GA (w64 ((w64 (((a3.getD ((Int.tmod (w64 (x6+1)) (a3.length:Int)).toNat) dd).X)-((a3.getD x6.toNat dd).X)))*(w64 (a1-((a3.getD ((Int.tmod (w64 (x6+1)) (a3.length:Int)).toNat) dd).Y))))) (w64 (((a3.getD x6.toNat dd).Y)-((a3.getD ((Int.tmod (w64 (x6+1)) (a3.length:Int)).toNat) dd).Y)))).bind λv21=> YV x6 R (w64 (((a3.getD ((Int.tmod (w64 (x6+1)) (a3.length:Int)).toNat) dd).X)-v21)) x5 else YV x6 R x4 x5
def YY (a1:Int) (a3:List qA) (x4:Int) (x5:Int) (x6:Int) (R:Int->Int->Int->Option (Int×Int)) (x13:Bool):Option (Int×Int):= bif x13 then (GA (w64 ((w64 (((a3.getD ((Int.tmod (w64 (x6+1)) (a3.length:Int)).toNat) dd).X)-((a3.getD x6.toNat dd).X)))*(w64 (a1-((a3.getD x6.toNat dd).Y))))) (w64 (((a3.getD ((Int.tmod (w64 (x6+1)) (a3.length:Int)).toNat) dd).Y)-((a3.getD x6.toNat dd).Y)))).bind λv15=> YV x6 R x4 (w64 (((a3.getD x6.toNat dd).X)+v15)) else bif decide (((a3.getD x6.toNat dd).Y)>((a3.getD ((Int.tmod (w64 (x6+1)) (a3.length:Int)).toNat) dd).Y)) then bif decide (((a3.getD ((Int.tmod (w64 (x6+1)) (a3.length:Int)).toNat) dd).Y)<=a1) then YT a1 a3 x4 x5 x6 R (decide (a1<=((a3.getD x6.toNat dd).Y)))
 else YT a1 a3 x4 x5 x6 R false else YT a1 a3 x4 x5 x6 R false
def wH (a1:Int) (a3:List qA):Nat->Int->Int->Int->Option (Int×Int)
 |0,_,_,_=>none
 |n+1,x4,x5,x6=> bif decide (x6<(a3.length:Int)) then bif inb x6 a3.length then bif nz (a3.length:Int) then bif inb (Int.tmod (w64 (x6+1)) (a3.length:Int)) a3.length then bif decide (((a3.getD x6.toNat dd).Y)<((a3.getD ((Int.tmod (w64 (x6+1)) (a3.length:Int)).toNat) dd).Y)) then bif decide (((a3.getD x6.toNat dd).Y)<=a1) then YY a1 a3 x4 x5 x6 (wH a1 a3 n) (decide (a1<=((a3.getD ((Int.tmod (w64 (x6+1)) (a3.length:Int)).toNat) dd).Y))) else YY a1 a3 x4 x5 x6 (wH a1 a3 n) false else YY a1 a3 x4 x5 x6 (wH a1 a3 n) false else none else none else none else some (x4,x5)
def KH (a1:Int) (a2:Rect) (a3:List qA):Option (Int×Int):= (wH a1 a3 FUEL a2.X.A a2.X.B 0).bind λo27=> some (o27.1,o27.2)
def YC (a2:Int) (a3:Int) (v4:(List qA)) (v6:Rect) (x11:Bool):Option Span:= bif x11 then some (Span.mk 0 0) else (KH a2 v6 v4).bind λv13=> (KH a3 v6 v4).bind λv15=> bif decide ((imax v13.1 v15.1)≥(imin v13.2 v15.2)) then some (Span.mk 0 0) else some (Span.mk (imax v13.1 v15.1) (imin v13.2 v15.2))
def LZ (a1:List qA) (a2:Int) (a3:Int):Option Span:= (AV a1).bind λv4=> (DN v4).bind λv6=> bif (v4.length:Int)==0 then YC a2 a3 v4 v6 true else bif decide (a2≥a3) then YC a2 a3 v4 v6 true else bif decide (a2<v6.Y.A) then YC a2 a3 v4 v6 true else YC a2 a3 v4 v6 (decide (a3>v6.Y.B))
def UF (a1:Int) (a2:List qA):Option Span:= (TO a1 (w64 (a1+1))).bind λv3=> (LZ a2 v3.A v3.B).bind λv5=> some v5
def wT (a1:Span):Option Bool:= some (decide (a1.A≥a1.B))
def JH (x3:Int) (R:Int->Int->Int->(List Span)->Option (Int×Int×(List Span))) (x17:Int) (x18:Int) (l19:List Span):Option (Int×Int×(List Span)):= R x17 (w64 (x3+1)) x18 l19
def PI (x3:Int) (l5:List Span) (R:Int->Int->Int->(List Span)->Option (Int×Int×(List Span))) (v7:Span) (x13:Int):Option (Int×Int×(List Span)):= bif room (l5.length+1) 16 then JH x3 R (((l5.length+1):Nat):Int) x13 (l5++[v7]) else none
def wA (a1:List qA):Nat->Int->Int->Int->(List Span)->Option (Int×Int×(List Span))
 |0,_,_,_,_=>none
 |n+1,x2,x3,x4,l5=> bif decide (x3<60) then (UF x3 a1).bind λv7=> (wT v7).bind λv9=> bif !v9 then bif x2==0 then PI x3 l5 (wA a1 n) v7 x3 else PI x3 l5 (wA a1 n) v7 x4 else bif decide (x2>0) then bif room (l5.length+1) 16 then JH x3 (wA a1 n) x2 x4 (l5++[(Span.mk 0 0)]) else none else JH x3 (wA a1 n) x2 x4 l5 else some (x2,x4,l5)
def RH (a1:List qA):Option qB:= (wA a1 FUEL 0 (-60) 0 []).bind λo23=> bif slOk 0 o23.1 o23.2.2.length then some (qB.mk o23.2.1 (o23.2.2.take o23.1.toNat)) else none
def FX (a1:List qA):Option (qB×Int):= (LG a1).bind λv2=> bif v2 !=0 then some ((qB.mk 0 []),v2) else (RH a1).bind λv5=> bif (v5.Rows.length:Int)==0 then some ((qB.mk 0 []),18) else some ((qB.mk v5.Low v5.Rows),0)
def KW (a1:Ring) (a2:Int) (a3:Int):Option (qB×Int):= (FO a1 a2).bind λv4=> (DK (Ring.mk v4.Z v4.Read) a3).bind λv6=> bif v6.2 !=0 then some ((qB.mk 0 []),v6.2) else (FX v6.1).bind λv9=> some ((qB.mk v9.1.Low v9.1.Rows),v9.2)
def YN (x3:Bool):Option Bool:= some x3
def YX (a1:Span):Option Bool:= bif decide ((imin a1.A a1.B)≥(-600)) then YN (decide ((imax a1.A a1.B)<=600)) else YN false
def jV (a1:qB):Nat->Int->Option (Int⊕Unit)
 |0,_=>none
 |n+1,x6=> bif decide (x6<(a1.Rows.length:Int)) then bif inb x6 a1.Rows.length then (YX (a1.Rows.getD x6.toNat dd)).bind λv9=> bif !v9 then some (Sum.inl 9) else (jV a1 n) (w64 (x6+1)) else none else some (Sum.inr ())
def PK (x27:Int) (R:Int->Option (Int⊕Unit)) (x33:Bool):Option (Int⊕Unit):= bif x33 then some (Sum.inl 19) else R (w64 (x27+1))
def wY (a1:qB):Nat->Int->Option (Int⊕Unit)
 |0,_=>none
 |n+1,x27=> bif decide (x27<(a1.Rows.length:Int)) then bif inb x27 a1.Rows.length then (wT (a1.Rows.getD x27.toNat dd)).bind λv30=> bif v30 then PK x27 (wY a1 n) (!((((a1.Rows.getD x27.toNat dd).A)==0)&&((((a1.Rows.getD x27.toNat dd).B)==0)&&true))) else PK x27 (wY a1 n) false else none else some (Sum.inr ())
def PF (a1:qB) (x25:Bool):Option Int:= bif x25 then some 19 else (wY a1 FUEL 0).bind λu37=>Sum.elim (λv38=>some v38) (λo35=> some 0) u37
def PV (a1:qB) (x4:Bool):Option Int:= bif x4 then some 9 else (jV a1 FUEL 0).bind λu14=>Sum.elim (λv15=>some v15) (λo12=> bif (a1.Rows.length:Int)==0 then bif a1.Low !=0 then some 19 else some 0 else bif inb 0 a1.Rows.length then (wT (a1.Rows.getD (0:Int).toNat dd)).bind λv19=> bif v19 then PF a1 true else bif inb (w64 ((a1.Rows.length:Int)-1)) a1.Rows.length then (wT (a1.Rows.getD (w64 ((a1.Rows.length:Int)-1)).toNat dd)).bind λv23=> PF a1 v23 else none else none) u14
def YK (a1:qB):Option Int:= bif decide ((a1.Rows.length:Int)>120) then some 4 else bif decide (a1.Low<(-60)) then PV a1 true else PV a1 (decide (a1.Low>(w64 (60-(a1.Rows.length:Int)))))
def wF (a1:qB):Option qB:= (YK a1).bind λv2=> bif v2 !=0 then some (qB.mk 0 []) else some a1
def DX (a1:qB) (a2:Int) (x4:Bool):Option Span:= bif x4 then some (Span.mk 0 0) else bif inb (w64 (a2-a1.Low)) a1.Rows.length then some (a1.Rows.getD (w64 (a2-a1.Low)).toNat dd) else none
def YO (a1:qB) (a2:Int):Option Span:= bif decide (a2<a1.Low) then DX a1 a2 true else DX a1 a2 (decide (a2≥(w64 (a1.Low+(a1.Rows.length:Int)))))
def AL (a1:Span) (a2:Span):Option Span:= bif decide ((imax a1.A a2.A)≥(imin a1.B a2.B)) then some (Span.mk 0 0) else some (Span.mk (imax a1.A a2.A) (imin a1.B a2.B))
def XY (a1:Int) (a2:qB) (a3:qB):Option Span:= (YO a2 a1).bind λv4=> (YO a3 a1).bind λv6=> (AL v4 v6).bind λv8=> some v8
def QO (x4:Int) (R:Int->Int->Int->(List Span)->Option (Int×Int×(List Span))) (x18:Int) (x19:Int) (l20:List Span):Option (Int×Int×(List Span)):= R x18 (w64 (x4+1)) x19 l20
def JJ (x4:Int) (l6:List Span) (R:Int->Int->Int->(List Span)->Option (Int×Int×(List Span))) (v8:Span) (x14:Int):Option (Int×Int×(List Span)):= bif room (l6.length+1) 16 then QO x4 R (((l6.length+1):Nat):Int) x14 (l6++[v8]) else none
def zO (a1:qB) (a2:qB):Nat->Int->Int->Int->(List Span)->Option (Int×Int×(List Span))
 |0,_,_,_,_=>none
 |n+1,x3,x4,x5,l6=> bif decide (x4<60) then (XY x4 a1 a2).bind λv8=> (wT v8).bind λv10=> bif !v10 then bif x3==0 then JJ x4 l6 (zO a1 a2 n) v8 x4 else JJ x4 l6 (zO a1 a2 n) v8 x5 else bif decide (x3>0) then bif room (l6.length+1) 16 then QO x4 (zO a1 a2 n) x3 x5 (l6++[(Span.mk 0 0)]) else none else QO x4 (zO a1 a2 n) x3 x5 l6 else some (x3,x5,l6)
def WX (a1:qB) (a2:qB):Option qB:= (zO a1 a2 FUEL 0 (-60) 0 []).bind λo24=> bif slOk 0 o24.1 o24.2.2.length then some (qB.mk o24.2.1 (o24.2.2.take o24.1.toNat)) else none
def XU (a1:qB) (a2:qB):Option qB:= (wF a1).bind λv3=> (wF a2).bind λv5=> (WX v3 v5).bind λv7=> some (qB.mk v7.Low v7.Rows)
def JZ (a1:Scan) (a2:Int) (a3:Int):Nat->(List qB)->Int->Option (((List qT)×Int)⊕(List qB))
 |0,_,_=>none
 |n+1,l8,x9=> bif decide (x9<(a1.Rings.length:Int)) then bif inb x9 a1.Rings.length then (KW (a1.Rings.getD x9.toNat dd) a2 a3).bind λv12=> bif v12.2 !=0 then some (Sum.inl ([],30)) else bif inb x9 l8.length then (JZ a1 a2 a3 n) (l8.set x9.toNat v12.1) (w64 (x9+1)) else none else none else some (Sum.inr l8)
def YG (a1:Scan) (o17:(List qB)):Nat->(List qT)->Int->Option (((List qT)×Int)⊕(List qT))
 |0,_,_=>none
 |n+1,l22,x23=> bif decide (x23<(((w64 ((a1.Rings.length:Int)-1)).toNat:Nat):Int)) then bif inb x23 o17.length then bif inb (w64 (x23+1)) o17.length then (XU (o17.getD x23.toNat dd) (o17.getD ((w64 (x23+1)).toNat) dd)).bind λv27=> bif (v27.Rows.length:Int)==0 then some (Sum.inl ([],30)) else bif inb (w64 (x23+1)) a1.Rings.length then bif inb x23 a1.Rings.length then bif inb x23 l22.length then (YG a1 o17 n) (l22.set x23.toNat (qT.mk (w64 (((a1.Rings.getD (w64 (x23+1)).toNat dd).Z)-((a1.Rings.getD x23.toNat dd).Z))) v27)) (w64 (x23+1)) else none else none else none else none else none else some (Sum.inr l22)
def yW (a1:Scan) (a2:Int) (a3:Int):Option ((List qT)×Int):= (jU a1).bind λv4=> bif v4 !=0 then some ([],v4) else bif mkOk (a1.Rings.length:Int) 32 then (JZ a1 a2 a3 FUEL (List.replicate ((a1.Rings.length:Int).toNat) (qB.mk 0 [])) 0).bind λu19=>Sum.elim (λv20=>some v20) (λo17=> bif mkOk (w64 ((a1.Rings.length:Int)-1)) 40 then (YG a1 o17 FUEL (List.replicate ((w64 ((a1.Rings.length:Int)-1)).toNat) (qT.mk 0 (qB.mk 0 []))) 0).bind λu39=>Sum.elim (λv40=>some v40) (λo37=> some (o37,0)) u39 else none) u19 else none
def PQ (x3:Int) (R:(List Int)->Int->Option (List Int)) (l9:List Int):Option (List Int):= R l9 (w64 (x3+1))
def yP (a1:List qD):Nat->(List Int)->Int->Option (List Int)
 |0,_,_=>none
 |n+1,l2,x3=> bif decide (x3<(a1.length:Int)) then bif inb x3 a1.length then bif (a1.getD x3.toNat dd).Ok then bif room (l2.length+3) 8 then PQ x3 (yP a1 n) (l2++[1,((a1.getD x3.toNat dd).P).X,((a1.getD x3.toNat dd).P).Y]) else none else bif room (l2.length+1) 8 then PQ x3 (yP a1 n) (l2++[0]) else none else none else some l2
def GU (a1:List qD):Option (List Int):= (yP a1 FUEL [] 0).bind λo11=> some o11
def OX :Nat->Int->(List Int)->Option (Int×(List Int))
 |0,_,_=>none
 |n+1,x2,l3=> bif decide (x2≥128) then bif room (l3.length+1) 1 then (OX n) (shrI .u64 x2 7) (l3++[orI .u8 (IntKind.u8.wrap (x2)) 128]) else none else some (x2,l3)
def FE (a1:Int):Option ByteArray:= (OX FUEL a1 []).bind λo8=> bif room (o8.2.length+1) 1 then some (strTk (o8.2.length+1) (o8.2++[IntKind.u8.wrap (o8.1)])) else none
def CV (a1:Int):Option ByteArray:= bif decide (a1<0) then (FE (orI .u64 (shlI .u64 (notI .u64 (IntKind.u64.wrap (a1))) 1) 1)).bind λv3=> some v3 else (FE (shlI .u64 (IntKind.u64.wrap (a1)) 1)).bind λv5=> some v5
def qAP (a1:List Int):Option ByteArray:=intsM FE CV a1
def TK (a1:List qF):Nat->(List Int)->Int->Option (List Int)
 |0,_,_=>none
 |n+1,l2,x3=> bif decide (x3<(a1.length:Int)) then bif inb x3 a1.length then bif room (l2.length+7) 8 then (TK a1 n) (l2++[(a1.getD x3.toNat dd).Kind,(((a1.getD x3.toNat dd).Box).X).A,(((a1.getD x3.toNat dd).Box).X).B,(((a1.getD x3.toNat dd).Box).Y).A,(((a1.getD x3.toNat dd).Box).Y).B,(((a1.getD x3.toNat dd).Box).Z).A,(((a1.getD x3.toNat dd).Box).Z).B]) (w64 (x3+1)) else none else none else some l2
def BN (a1:List qF):Option (List Int):= (TK a1 FUEL [] 0).bind λo8=> some o8
def HD (a1:Scan):Nat->(List Int)->ByteArray->Int->Option ((List Int)×ByteArray)
 |0,_,_,_=>none
 |n+1,l5,x6,x7=> bif decide (x7<(a1.Rings.length:Int)) then bif inb x7 a1.Rings.length then bif room (l5.length+1) 8 then (GU ((a1.Rings.getD x7.toNat dd).Read)).bind λv11=> (qAP v11).bind λv13=> bif qFA x6 v13 then (HD a1 n) (l5++[(a1.Rings.getD x7.toNat dd).Z]) (x6++v13) (w64 (x7+1)) else none else none else none else some (l5,x6)
def RW (a1:Scan):Option (ByteArray×Int):= (jU a1).bind λv2=> bif v2 !=0 then some ((ByteArray.mk #[]),v2) else (HD a1 FUEL [] (ByteArray.mk #[]) 0).bind λo18=> (qAP o18.1).bind λv20=> bif qFA v20 o18.2 then (BN a1.Defects).bind λv23=> (qAP v23).bind λv25=> bif qFA (v20++o18.2) v25 then some ((v20++o18.2)++v25,0) else none else none
def SF (a1:ByteArray):Option qI:= some (qI.mk a1 0 0)
def TJ (a1:qI):Option Bool:= some (a1.e !=0)
def KV (a1:Int) (a2:qI) (x3:Int) (x4:Int) (x13:Bool):Option ((Int×Int×Int)⊕Unit):= bif x13 then some (Sum.inl (0,0,5)) else some (Sum.inl (orI .u64 x3 (shlI .u64 (IntKind.u64.wrap (andI .u8 (JK a2.s ((w64 (a1+x4)).toNat)) 127)) (w64 (7*x4))),w64 ((w64 (a1+x4))+1),0))
def KD (a1:Int) (a2:qI) (x3:Int) (x4:Int) (R:Int->Int->Option ((Int×Int×Int)⊕Unit)) (x8:Bool):Option ((Int×Int×Int)⊕Unit):= bif x8 then some (Sum.inl (0,0,5)) else bif nneg (w64 (7*x4)) then bif decide ((JK a2.s ((w64 (a1+x4)).toNat))≥128) then R (orI .u64 x3 (shlI .u64 (IntKind.u64.wrap (andI .u8 (JK a2.s ((w64 (a1+x4)).toNat)) 127)) (w64 (7*x4)))) (w64 (x4+1)) else bif (JK a2.s ((w64 (a1+x4)).toNat))==0 then KV a1 a2 x3 x4 (decide (x4>0)) else KV a1 a2 x3 x4 false else none
def yA (a1:Int) (a2:qI):Nat->Int->Int->Option ((Int×Int×Int)⊕Unit)
 |0,_,_=>none
 |n+1,x3,x4=> bif decide ((w64 (a1+x4))≥(a2.s.size:Int)) then some (Sum.inl (0,0,3)) else bif inb (w64 (a1+x4)) a2.s.size then bif x4==9 then KD a1 a2 x3 x4 (yA a1 a2 n) (decide ((JK a2.s ((w64 (a1+x4)).toNat))>1)) else KD a1 a2 x3 x4 (yA a1 a2 n) false else none
def YU (a1:Int) (a2:qI):Option (Int×Int×Int):= (yA a1 a2 FUEL 0 0).bind λu17=>Sum.elim (λv18=>some v18) (λo15=> none) u17
def XJ (v4:Int×Int×Int) (x8:Bool):Option (Int×Int×Int):= bif x8 then some (0,0,4) else some (v4.1,v4.2.1,0)
def TH (a1:Int) (a2:Int) (a3:qI):Option (Int×Int×Int):= (YU a1 a3).bind λv4=> bif v4.2.2 !=0 then some (0,0,v4.2.2) else bif decide (a2<0) then XJ v4 true else XJ v4 (decide (v4.1>(IntKind.u64.wrap (a2))))
def KQ (v5:Int×Int×Int) (x9:Int) (x11:Bool):Option (Int×Int×Int):= bif x11 then some (0,0,9) else some (x9,v5.2.1,0)
def KK (a2:Int) (a3:Int) (v5:Int×Int×Int) (x9:Int):Option (Int×Int×Int):= bif decide (x9<a2) then KQ v5 x9 true else KQ v5 x9 (decide (x9>a3))
def UU (a1:Int) (a2:Int) (a3:Int) (a4:qI):Option (Int×Int×Int):= (YU a1 a4).bind λv5=> bif v5.2.2 !=0 then some (0,0,v5.2.2) else bif (andI .u64 v5.1 1)==1 then KK a2 a3 v5 (notI .i64 (w64 (shrI .u64 v5.1 1))) else KK a2 a3 v5 (w64 (shrI .u64 v5.1 1))
def BV (a1:Int) (a2:Int) (a3:qI):Option (Int×Int):= bif a2 !=0 then some (a3.at_,a2) else some (a1,a3.e)
def TL (a2:Int) (a3:Int) (a4:qI) (x10:Int) (x11:Int) (l12:List Int) (x13:Int) (R:Int->Int->(List Int)->Int->Option (Int×Int×(List Int))) (x15:Bool):Option (Int×Int×(List Int)):= bif x15 then (UU x10 a2 a3 a4).bind λv17=> bif room (l12.length+1) 8 then R v17.2.1 v17.2.2 (l12++[v17.1]) (IntKind.u64.wrap (x13+1)) else none else some (x10,x11,l12)
def QJ (a2:Int) (a3:Int) (a4:qI) (v8:Int×Int×Int):Nat->Int->Int->(List Int)->Int->Option (Int×Int×(List Int))
 |0,_,_,_,_=>none
 |n+1,x10,x11,l12,x13=> bif decide (x13<v8.1) then TL a2 a3 a4 x10 x11 l12 x13 (QJ a2 a3 a4 v8 n) (x11==0) else TL a2 a3 a4 x10 x11 l12 x13 (QJ a2 a3 a4 v8 n) false
def BP (a1:Int) (a2:Int) (a3:Int) (a4:qI):Option ((List Int)×Int×Int):= (TJ a4).bind λv5=> bif v5 then some ([],a4.at_,a4.e) else (TH a4.at_ a1 a4).bind λv8=> (QJ a2 a3 a4 v8 FUEL v8.2.1 v8.2.2 [] 0).bind λo23=> (BV o23.1 o23.2.1 a4).bind λv25=> bif o23.2.1 !=0 then some ([],v25.1,v25.2) else some (o23.2.2,v25.1,v25.2)
def UH (a1:Int) (a2:qI):Option ((List Int)×Int×Int):= (BP a1 (-1099511627776) 1099511627776 a2).bind λv3=> some (v3.1,v3.2.1,v3.2.2)
def UN (l2:List Int) (l3:List qD) (R:(List Int)->(List qD)->Option (((List qD)×Bool)⊕(List qD))) (x10:Bool):Option (((List qD)×Bool)⊕(List qD)):= bif x10 then bif inb 1 l2.length then bif inb 2 l2.length then bif room (l3.length+1) 24 then bif slOk 3 (l2.length:Int) l2.length then R (l2.drop ((3:Int).toNat)) (l3++[(qD.mk (qA.mk (l2.getD (1:Int).toNat dd) (l2.getD (2:Int).toNat dd)) true)]) else none else none else none else none else some (Sum.inl ([],false))
def yC :Nat->(List Int)->(List qD)->Option (((List qD)×Bool)⊕(List qD))
 |0,_,_=>none
 |n+1,l2,l3=> bif decide ((l2.length:Int)>0) then bif inb 0 l2.length then bif (l2.getD (0:Int).toNat dd)==0 then bif room (l3.length+1) 24 then bif slOk 1 (l2.length:Int) l2.length then (yC n) (l2.drop ((1:Int).toNat)) (l3++[(qD.mk (qA.mk 0 0) false)]) else none else none else bif (l2.getD (0:Int).toNat dd)==1 then UN l2 l3 (yC n) (decide ((l2.length:Int)≥3)) else UN l2 l3 (yC n) false else none else some (Sum.inr l3)
def LI (a1:List Int):Option ((List qD)×Bool):= (yC FUEL a1 []).bind λu19=>Sum.elim (λv20=>some v20) (λo17=> some (o17,true)) u19
def DA :Nat->(List Int)->(List qF)->Option (List qF)
 |0,_,_=>none
 |n+1,l3,l4=> bif decide ((l3.length:Int)>0) then bif inb 1 l3.length then bif inb 2 l3.length then bif inb 3 l3.length then bif inb 4 l3.length then bif inb 5 l3.length then bif inb 6 l3.length then bif inb 0 l3.length then bif room (l4.length+1) 56 then bif slOk 7 (l3.length:Int) l3.length then (DA n) (l3.drop ((7:Int).toNat)) (l4++[(qF.mk (l3.getD (0:Int).toNat dd) (Box.mk (Span.mk (l3.getD (1:Int).toNat dd) (l3.getD (2:Int).toNat dd)) (Span.mk (l3.getD (3:Int).toNat dd) (l3.getD (4:Int).toNat dd)) (Span.mk (l3.getD (5:Int).toNat dd) (l3.getD (6:Int).toNat dd))))]) else none else none else none else none else none else none else none else none else none else some l4
def MJ (a1:List Int):Option ((List qF)×Bool):= bif (Int.tmod (a1.length:Int) 7) !=0 then some ([],false) else (DA FUEL a1 []).bind λo16=> some (o16,true)
def LN (a1:qI):Option Int:= some a1.e
def BO (a1:qI):Option Int:= some (w64 ((a1.s.size:Int)-a1.at_))
def MC (a1:qI):Option Int:= (LN a1).bind λv2=> bif v2 !=0 then some v2 else (BO a1).bind λv5=> bif decide (v5>0) then some 4 else some 0
def zbQ (v2:qI) (v4:(List Int)×Int×Int):Nat->Int->(List Ring)->Int->Int->Option ((Scan×Bool)⊕((List Ring)×qI))
 |0,_,_,_,_=>none
 |n+1,x6,l7,x8,x9=> bif decide (x6<(v4.1.length:Int)) then bif inb x6 v4.1.length then (UH 96 (qI.mk v2.s x8 x9)).bind λv12=> (LI v12.1).bind λv14=> bif !v14.2 then some (Sum.inl ((Scan.mk [] []),false)) else bif room (l7.length+1) 32 then (zbQ v2 v4 n) (w64 (x6+1)) (l7++[(Ring.mk (v4.1.getD x6.toNat dd) v14.1)]) v12.2.1 v12.2.2 else none else none else some (Sum.inr (l7,(qI.mk v2.s x8 x9)))
def IJ (o20:(List Ring)×qI) (v26:(List qF)×Bool) (x31:Bool):Option (Scan×Bool):= bif x31 then some ((Scan.mk [] []),false) else some ((Scan.mk o20.1 v26.1),true)
def qDy (a1:ByteArray):Option (Scan×Bool):= (SF a1).bind λv2=> (UH 24 v2).bind λv4=> (zbQ v2 v4 FUEL 0 [] v4.2.1 v4.2.2).bind λu22=>Sum.elim (λv23=>some v23) (λo20=> (UH 448 o20.2).bind λv24=> (MJ v24.1).bind λv26=> bif !v26.2 then IJ o20 v26 true else (MC (qI.mk o20.2.s v24.2.1 v24.2.2)).bind λv29=> IJ o20 v26 (v29 !=0)) u22
def TB (a1:ByteArray):Option (Scan×Int):= (qDy a1).bind λv2=> bif !v2.2 then some ((Scan.mk [] []),5) else (jU (Scan.mk v2.1.Rings v2.1.Defects)).bind λv5=> bif v5 !=0 then some ((Scan.mk [] []),v5) else some ((Scan.mk v2.1.Rings v2.1.Defects),0)
def wC (a1:List qD) (a2:List qD):Nat->Int->Option (Bool⊕Unit)
 |0,_=>none
 |n+1,x4=> bif decide (x4<(a1.length:Int)) then bif inb x4 a1.length then bif inb x4 a2.length then bif !((((((a1.getD x4.toNat dd).P).X)==(((a2.getD x4.toNat dd).P).X))&&(((((a1.getD x4.toNat dd).P).Y)==(((a2.getD x4.toNat dd).P).Y))&&true))&&((((a1.getD x4.toNat dd).Ok)==((a2.getD x4.toNat dd).Ok))&&true)) then some (Sum.inl false) else (wC a1 a2 n) (w64 (x4+1)) else none else none else some (Sum.inr ())
def yD (a1:List qD) (a2:List qD):Option Bool:= bif (a1.length:Int) !=(a2.length:Int) then some false else (wC a1 a2 FUEL 0).bind λu11=>Sum.elim (λv12=>some v12) (λo9=> some true) u11
def VT (x6:Bool):Option Bool:= some x6
def ED (a1:Ring) (a2:Ring):Option Bool:= bif a1.Z==a2.Z then (yD a1.Read a2.Read).bind λv4=> VT v4 else VT false
def zX (a1:List Ring) (a2:List Ring):Nat->Int->Option (Bool⊕Unit)
 |0,_=>none
 |n+1,x4=> bif decide (x4<(a1.length:Int)) then bif inb x4 a1.length then bif inb x4 a2.length then (ED (a1.getD x4.toNat dd) (a2.getD x4.toNat dd)).bind λv8=> bif !v8 then some (Sum.inl false) else (zX a1 a2 n) (w64 (x4+1)) else none else none else some (Sum.inr ())
def ZE (a1:List Ring) (a2:List Ring):Option Bool:= bif (a1.length:Int) !=(a2.length:Int) then some false else (zX a1 a2 FUEL 0).bind λu13=>Sum.elim (λv14=>some v14) (λo11=> some true) u13
def wE (a1:List qF) (a2:List qF):Nat->Int->Option (Bool⊕Unit)
 |0,_=>none
 |n+1,x4=> bif decide (x4<(a1.length:Int)) then bif inb x4 a1.length then bif inb x4 a2.length then bif !((((a1.getD x4.toNat dd).Kind)==((a2.getD x4.toNat dd).Kind))&&((((((((a1.getD x4.toNat dd).Box).X).A)==((((a2.getD x4.toNat dd).Box).X).A))&&((((((a1.getD x4.toNat dd).Box).X).B)==((((a2.getD x4.toNat dd).Box).X).B))&&true))&&(((((((a1.getD x4.toNat dd).Box).Y).A)==((((a2.getD x4.toNat dd).Box).Y).A))&&((((((a1.getD x4.toNat dd).Box).Y).B)==((((a2.getD x4.toNat dd).Box).Y).B))&&true))&&(((((((a1.getD x4.toNat dd).Box).Z).A)==((((a2.getD x4.toNat dd).Box).Z).A))&&((((((a1.getD x4.toNat dd).Box).Z).B)==((((a2.getD x4.toNat dd).Box).Z).B))&&true))&&true)))&&true)) then some (Sum.inl false) else
 (wE a1 a2 n) (w64 (x4+1)) else none else none else some (Sum.inr ())
def yS (a1:List qF) (a2:List qF):Option Bool:= bif (a1.length:Int) !=(a2.length:Int) then some false else (wE a1 a2 FUEL 0).bind λu11=>Sum.elim (λv12=>some v12) (λo9=> some true) u11
def LC (x8:Bool):Option Bool:= some x8
def PC (a1:Scan) (a2:Scan):Option Bool:= (ZE a1.Rings a2.Rings).bind λv3=> bif v3 then (yS a1.Defects a2.Defects).bind λv6=> LC v6 else LC false
def HX (a1:List qT) (x4:Int) (x5:Int) (R:Int->Int->Option (Int⊕Unit)) (x13:Bool):Option (Int⊕Unit):= bif x13 then some (Sum.inl 9) else R (w64 (x4+((a1.getD x5.toNat dd).Len))) (w64 (x5+1))
def XZ (a1:List qT):Nat->Int->Int->Option (Int⊕Unit)
 |0,_,_=>none
 |n+1,x4,x5=> bif decide (x5<(a1.length:Int)) then bif inb x5 a1.length then (YK ((a1.getD x5.toNat dd).Sec)).bind λv8=> bif v8 !=0 then some (Sum.inl v8) else bif (((((a1.getD x5.toNat dd).Sec).Rows).length:Nat):Int)==0 then some (Sum.inl 18) else bif decide (((a1.getD x5.toNat dd).Len)<1) then HX a1 x4 x5 (XZ a1 n) true else HX a1 x4 x5 (XZ a1 n) (decide (((a1.getD x5.toNat dd).Len)>(w64 (20000-x4)))) else none else some (Sum.inr ())
def qBR (a1:List qT):Option Int:= bif (a1.length:Int)==0 then some 3 else bif decide ((a1.length:Int)>24) then some 4 else (XZ a1 FUEL 0 0).bind λu17=>Sum.elim (λv18=>some v18) (λo15=> some 0) u17
def qBE (a1:List qT):Option (List qT):= (qBR a1).bind λv2=> bif v2 !=0 then some ([]:List qT) else some a1
def qFh (a1:Span):Option Int:= bif decide (a1.A≥a1.B) then some 0 else some (IntKind.u64.wrap ((IntKind.u64.wrap (a1.B))-(IntKind.u64.wrap (a1.A))))
def qAa (a1:Int):Option Int:= some (w64 (imin a1 9223372036854775807))
def qG8 (a1:Span):Option Int:= (qFh a1).bind λv2=> (qAa v2).bind λv4=> some v4
def LD (v2:qB):Nat->Int->Int->Option Int
 |0,_,_=>none
 |n+1,x4,x5=> bif decide (x5<(v2.Rows.length:Int)) then bif inb x5 v2.Rows.length then (qG8 (v2.Rows.getD x5.toNat dd)).bind λv8=> (LD v2 n) (w64 (x4+v8)) (w64 (x5+1)) else none else some x4
def CK (a1:qB):Option Int:= (wF a1).bind λv2=> (LD v2 FUEL 0 0).bind λo11=> some (w64 (10*o11))
def LH (v2:(List qT)):Nat->Int->Int->Option Int
 |0,_,_=>none
 |n+1,x4,x5=> bif decide (x5<(v2.length:Int)) then bif inb x5 v2.length then (CK ((v2.getD x5.toNat dd).Sec)).bind λv8=> (LH v2 n) (w64 (x4+(w64 (((v2.getD x5.toNat dd).Len)*v8)))) (w64 (x5+1)) else none else some x4
def LE (a1:List qT):Option Int:= (qBE a1).bind λv2=> (LH v2 FUEL 0 0).bind λo11=> some o11 @[irreducible] def law15_awake :Option Bool:=some true
def ZQ (x2:Int) (R:Int->Option (Bool⊕Unit)) (x8:Bool):Option (Bool⊕Unit):= bif x8 then some (Sum.inl false) else R (w64 (x2+1))
def wV (a1:List qA):Nat->Int->Option (Bool⊕Unit)
 |0,_=>none
 |n+1,x2=> bif decide (x2<(a1.length:Int)) then bif inb x2 a1.length then bif decide (((a1.getD x2.toNat dd).X)<(-600)) then ZQ x2 (wV a1 n) true else bif decide (((a1.getD x2.toNat dd).X)>600) then ZQ x2 (wV a1 n) true else bif decide (((a1.getD x2.toNat dd).Y)<(-600)) then ZQ x2 (wV a1 n) true else ZQ x2 (wV a1 n) (decide (((a1.getD x2.toNat dd).Y)>600)) else none else some (Sum.inr ())
def ZF (a1:List qA):Option Bool:= (wV a1 FUEL 0).bind λu12=>Sum.elim (λv13=>some v13) (λo10=> some true) u12
def HO (x7:Int) (R:Int->Option (Int⊕Unit)) (x16:Bool):Option (Int⊕Unit):= bif x16 then some (Sum.inl 19) else R (w64 (x7+1))
def MV (a1:Ring) (x7:Int) (R:Int->Option (Int⊕Unit)) (x13:Bool):Option (Int⊕Unit):= bif x13 then some (Sum.inl 9) else bif !((a1.Read.getD x7.toNat dd).Ok) then HO x7 R (!(((((a1.Read.getD x7.toNat dd).P).X)==0)&&(((((a1.Read.getD x7.toNat dd).P).Y)==0)&&true))) else HO x7 R false
def WS (a1:Ring):Nat->Int->Option (Int⊕Unit)
 |0,_=>none
 |n+1,x7=> bif decide (x7<(a1.Read.length:Int)) then bif inb x7 a1.Read.length then bif (a1.Read.getD x7.toNat dd).Ok then (ZF [(a1.Read.getD x7.toNat dd).P]).bind λv11=> MV a1 x7 (WS a1 n) (!v11) else MV a1 x7 (WS a1 n) false else none else some (Sum.inr ())
def HP (a1:Ring) (x5:Bool):Option Int:= bif x5 then some 9 else (WS a1 FUEL 0).bind λu20=>Sum.elim (λv21=>some v21) (λo18=> some 0) u20
def EA (a1:Ring):Option Int:= bif decide ((a1.Read.length:Int)<8) then some 3 else bif decide ((a1.Read.length:Int)>32) then some 4 else bif decide (a1.Z<0) then HP a1 true else HP a1 (decide (a1.Z>20000))
def GE (x4:Bool):Option Bool:= some x4
def qBU (a1:Box):Option Bool:= bif decide (a1.X.A≥a1.X.B) then GE true else bif decide (a1.Y.A≥a1.Y.B) then GE true else GE (decide (a1.Z.A≥a1.Z.B))
def qB9 (x5:Bool):Option Bool:= some x5
def qAk (a1:Span) (a2:Int) (a3:Int):Option Bool:= bif decide (a2<=a1.A) then qB9 (decide (a1.B<=a3)) else qB9 false
def TR (x10:Bool):Option Bool:= some x10
def CG (a1:Box):Option Bool:= (qAk a1.X (-600) 600).bind λv2=> bif v2 then (qAk a1.Y (-600) 600).bind λv5=> bif v5 then (qAk a1.Z 0 20000).bind λv8=> TR v8 else TR false else TR false
def MQ (a1:List qF) (x3:Int) (R:Int->Option (Int⊕Unit)) (x7:Bool):Option (Int⊕Unit):= bif x7 then some (Sum.inl 10) else bif inb x3 a1.length then (qBU ((a1.getD x3.toNat dd).Box)).bind λv10=> bif v10 then some (Sum.inl 19) else (CG ((a1.getD x3.toNat dd).Box)).bind λv13=> bif !v13 then some (Sum.inl 9) else R (w64 (x3+1)) else none
def QZ (a1:List qF):Nat->Int->Option (Int⊕Unit)
 |0,_=>none
 |n+1,x3=> bif decide (x3<(a1.length:Int)) then bif inb x3 a1.length then bif decide (((a1.getD x3.toNat dd).Kind)<1) then MQ a1 x3 (QZ a1 n) true else MQ a1 x3 (QZ a1 n) (decide (((a1.getD x3.toNat dd).Kind)>6)) else none else some (Sum.inr ())
def qBI (a1:List qF):Option Int:= bif decide ((a1.length:Int)>64) then some 4 else (QZ a1 FUEL 0).bind λu18=>Sum.elim (λv19=>some v19) (λo16=> some 0) u18
def IP (x8:Int) (R:Int->Option Int) (x12:Bool):Option Int:= bif x12 then R (w64 (x8+1)) else some x8
def jI (a1:Ring) (x4:Int):Nat->Int->Option Int
 |0,_=>none
 |n+1,x8=> bif decide (x8<(a1.Read.length:Int)) then bif nz (a1.Read.length:Int) then bif inb (Int.tmod (w64 (x4+x8)) (a1.Read.length:Int)) a1.Read.length then IP x8 (jI a1 x4 n) (!((a1.Read.getD (Int.tmod (w64 (x4+x8)) (a1.Read.length:Int)).toNat dd).Ok)) else none else none else IP x8 (jI a1 x4 n) false
def II (x4:Int) (R:Int->Int->Int->Option (Int×Int)) (x17:Int) (x18:Int):Option (Int×Int):= R x17 x18 (w64 (x4+1))
def YI (a1:Ring):Nat->Int->Int->Int->Option (Int×Int)
 |0,_,_,_=>none
 |n+1,x2,x3,x4=> bif decide (x4<(a1.Read.length:Int)) then bif inb x4 a1.Read.length then bif (a1.Read.getD x4.toNat dd).Ok then II x4 (YI a1 n) x2 x3 else (jI a1 x4 FUEL 0).bind λo15=> II x4 (YI a1 n) (w64 (x2+1)) (imax x3 o15) else none else some (x2,x3)
def FQ (a1:Ring):Option (Int×Int):= (YI a1 FUEL 0 0 0).bind λo21=> some (o21.1,o21.2)
def qAu (a1:Ring):Option Ring:= bif room (0+a1.Read.length) 24 then some (Ring.mk a1.Z (([]:List qD)++a1.Read)) else none
def YH (a1:List qD) (a3:Int):Nat->Int->Option Int
 |0,_=>none
 |n+1,x5=> bif inb x5 a1.length then bif !((a1.getD x5.toNat dd).Ok) then bif nz (a1.length:Int) then (YH a1 a3 n) (Int.tmod (w64 ((w64 (x5+a3))+(a1.length:Int))) (a1.length:Int)) else none else some x5 else none
def ZD (a1:List qD) (a2:Int) (a3:Int):Option Int:= bif nz (a1.length:Int) then (YH a1 a3 FUEL (Int.tmod (w64 ((w64 (a2+a3))+(a1.length:Int))) (a1.length:Int))).bind λo10=> some o10 else none
def XX (x7:Bool):Option Bool:= some x7
def EC (a1:qA) (a2:qA) (a3:Int):Option Bool:= bif decide ((w64 (a1.X-a2.X))>a3) then XX true else bif decide ((w64 (a2.X-a1.X))>a3) then XX true else bif decide ((w64 (a1.Y-a2.Y))>a3) then XX true else XX (decide ((w64 (a2.Y-a1.Y))>a3))
def GL (x13:Int) (R:Int->(List qD)->Option (List qD)) (l32:List qD):Option (List qD):= R (w64 (x13+1)) l32
def MN (x13:Int) (l14:List qD) (R:Int->(List qD)->Option (List qD)) (x29:Bool):Option (List qD):= bif x29 then bif inb x13 l14.length then GL x13 R (l14.set x13.toNat (qD.mk (qA.mk 0 0) false)) else none else GL x13 R l14
def ZC (a1:Ring) (a2:Int):Nat->Int->(List qD)->Option (List qD)
 |0,_,_=>none
 |n+1,x13,l14=> bif decide (x13<(a1.Read.length:Int)) then bif inb x13 a1.Read.length then bif !((a1.Read.getD x13.toNat dd).Ok) then GL x13 (ZC a1 a2 n) l14 else (ZD a1.Read x13 (-1)).bind λv18=> bif inb v18 a1.Read.length then (ZD a1.Read x13 1).bind λv21=> bif inb v21 a1.Read.length then (EC ((a1.Read.getD x13.toNat dd).P) ((a1.Read.getD v18.toNat dd).P) a2).bind λv24=> bif v24 then (EC ((a1.Read.getD x13.toNat dd).P) ((a1.Read.getD v21.toNat dd).P) a2).bind λv27=> MN x13 l14 (ZC a1 a2 n) v27 else MN x13 l14 (ZC a1 a2 n) false else none else none else none else some l14
def VY (a1:Ring) (a2:Int) (v5:Ring) (x11:Bool):Option Ring:= bif x11 then some (Ring.mk v5.Z v5.Read) else (ZC a1 a2 FUEL 0 v5.Read).bind λo34=> some (Ring.mk v5.Z o34)
def qBF (a1:Ring) (a2:Int):Option Ring:= (FQ a1).bind λv3=> (qAu a1).bind λv5=> bif decide (a2<0) then VY a1 a2 v5 true else bif decide ((w64 ((a1.Read.length:Int)-v3.1))<2) then VY a1 a2 v5 true else (EA a1).bind λv9=> VY a1 a2 v5 (v9 !=0)
def MZ (x5:Int):Option Int:= some x5
def EN (a1:Int) (a2:Int):Option Int:= bif nz a2 then bif decide ((w64 ((w64 (Int.tdiv a1 a2))*a2))>a1) then MZ (w64 ((w64 (Int.tdiv a1 a2))-1)) else MZ (w64 (Int.tdiv a1 a2)) else none
def LR (x13:Int) (R:(List qA)->Int->Option (List qA)) (l30:List qA):Option (List qA):= R l30 (w64 (x13+1))
def yQ (a1:Ring):Nat->(List qA)->Int->Option (List qA)
 |0,_,_=>none
 |n+1,l12,x13=> bif decide (x13<(a1.Read.length:Int)) then bif inb x13 a1.Read.length then bif (a1.Read.getD x13.toNat dd).Ok then bif room (l12.length+1) 16 then LR x13 (yQ a1 n) (l12++[(a1.Read.getD x13.toNat dd).P]) else none else (ZD a1.Read x13 (-1)).bind λv18=> (ZD a1.Read x13 1).bind λv20=> bif nz (a1.Read.length:Int) then bif inb v18 a1.Read.length then bif inb v20 a1.Read.length then (EN (w64 ((w64 ((((a1.Read.getD v20.toNat dd).P).X)-(((a1.Read.getD v18.toNat dd).P).X)))*(Int.tmod (w64 ((w64 (x13-v18))+(a1.Read.length:Int))) (a1.Read.length:Int)))) (Int.tmod (w64 ((w64 (v20-v18))+(a1.Read.length:Int))) (a1.Read.length:Int))).bind λv25=> (EN (w64 ((w64 ((((a1.Read.getD v20.toNat dd).P).Y)-(((a1.Read.getD v18.toNat dd).P).Y)))*(Int.tmod (w64 ((w64 (x13-v18))+(a1.Read.length:Int))) (a1.Read.length:Int)))) (Int.tmod (w64 ((w64 (v20-v18))+(a1.Read.length:Int))) (a1.Read.length:Int))).bind λv27=>
 bif room (l12.length+1) 16 then LR x13 (yQ a1 n) (l12++[(qA.mk (w64 ((((a1.Read.getD v18.toNat dd).P).X)+v25)) (w64 ((((a1.Read.getD v18.toNat dd).P).Y)+v27)))]) else none else none else none else none else none else some l12
def TU (a1:Ring) (x10:Bool):Option ((List qA)×Int):= bif x10 then some ([],30) else (yQ a1 FUEL [] 0).bind λo32=> some (o32,0)
def CC (a1:Ring) (a2:Int):Option ((List qA)×Int):= (EA a1).bind λv3=> bif v3 !=0 then some ([],v3) else (FQ a1).bind λv6=> bif decide ((w64 ((a1.Read.length:Int)-v6.1))<3) then TU a1 true else bif decide (v6.1>0) then TU a1 (decide (v6.2>a2)) else TU a1 false
def KJ (a1:List qA):Nat->Int->Int->Option Int
 |0,_,_=>none
 |n+1,x7,x8=> bif decide (x8<(a1.length:Int)) then bif nz (a1.length:Int) then bif inb (Int.tmod (w64 (x8+1)) (a1.length:Int)) a1.length then bif inb x8 a1.length then (KJ a1 n) (w64 ((w64 (x7+(w64 (((a1.getD x8.toNat dd).X)*((a1.getD (Int.tmod (w64 (x8+1)) (a1.length:Int)).toNat dd).Y)))))-(w64 (((a1.getD (Int.tmod (w64 (x8+1)) (a1.length:Int)).toNat dd).X)*((a1.getD x8.toNat dd).Y))))) (w64 (x8+1)) else none else none else none else some x7
def SE (a1:List qA) (x5:Bool):Option Int:= bif x5 then some 0 else (KJ a1 FUEL 0 0).bind λo14=> some o14
def qBL (a1:List qA):Option Int:= bif decide ((a1.length:Int)>32) then SE a1 true else (ZF a1).bind λv3=> SE a1 (!v3)
def qBV (a1:List qA):Option Int:= bif decide ((a1.length:Int)<3) then some 3 else bif decide ((a1.length:Int)>32) then some 4 else (ZF a1).bind λv4=> bif !v4 then some 9 else (qBL a1).bind λv7=> bif v7==0 then some 19 else some 0
def TX (x5:Bool):Option Bool:= some x5
def qAd (a1:qA) (a2:qA):Option Bool:= bif decide (a1.X<a2.X) then TX true else bif a1.X==a2.X then TX (decide (a1.Y<a2.Y)) else TX false
def LQ (x5:Int) (R:Int->Option Int) (x11:Bool):Option Int:= bif x11 then R (w64 (x5+1)) else some x5
def YW (a1:List qA) (l2:List qA) (x3:Int):Nat->Int->Option Int
 |0,_=>none
 |n+1,x5=> bif decide (x5<(l2.length:Int)) then bif inb x5 l2.length then bif inb x3 a1.length then (qAd (l2.getD x5.toNat dd) (a1.getD x3.toNat dd)).bind λv9=> LQ x5 (YW a1 l2 x3 n) v9 else none else none else LQ x5 (YW a1 l2 x3 n) false
def FN (x3:Int) (R:(List qA)->Int->Option (List qA)) (l27:List qA):Option (List qA):= R l27 (w64 (x3+1))
def ME (a1:List qA) (l2:List qA) (x3:Int) (R:(List qA)->Int->Option (List qA)) (o14:Int) (x19:Bool):Option (List qA):= bif x19 then FN x3 R l2 else bif slOk 0 o14 l2.length then bif room (0+o14.toNat) 16 then bif inb x3 a1.length then bif room ((0+o14.toNat)+1) 16 then bif slOk o14 (l2.length:Int) l2.length then bif room (((0+o14.toNat)+1)+(l2.length-o14.toNat)) 16 then FN x3 R (((([]:List qA)++(l2.take o14.toNat))++[(a1.getD x3.toNat dd)])++((l2.drop o14.toNat).take (l2.length-o14.toNat))) else none else none else none else none else none else none
def ZN (a1:List qA):Nat->(List qA)->Int->Option (List qA)
 |0,_,_=>none
 |n+1,l2,x3=> bif decide (x3<(a1.length:Int)) then (YW a1 l2 x3 FUEL 0).bind λo14=> bif decide (o14<(l2.length:Int)) then bif inb o14 l2.length then bif inb x3 a1.length then ME a1 l2 x3 (ZN a1 n) o14 ((((l2.getD o14.toNat dd).X)==((a1.getD x3.toNat dd).X))&&((((l2.getD o14.toNat dd).Y)==((a1.getD x3.toNat dd).Y))&&true)) else none else none else ME a1 l2 x3 (ZN a1 n) o14 false else some l2
def CO (a1:List qA):Option (List qA):= (ZN a1 FUEL [] 0).bind λo29=> some o29
def qB5 (a1:qA) (a2:qA) (a3:qA):Option Int:= some (w64 ((w64 ((w64 (a2.X-a1.X))*(w64 (a3.Y-a1.Y))))-(w64 ((w64 (a2.Y-a1.Y))*(w64 (a3.X-a1.X))))))
def MT (l5:List qA) (R:(List qA)->Option (List qA)) (x12:Bool):Option (List qA):= bif x12 then bif slOk 0 (w64 ((l5.length:Int)-1)) l5.length then R (l5.take ((w64 ((l5.length:Int)-1)).toNat)) else none else some l5
def XR (a1:List qA) (x3:Int):Nat->(List qA)->Option (List qA)
 |0,_=>none
 |n+1,l5=> bif decide ((l5.length:Int)>1) then bif inb (w64 ((l5.length:Int)-2)) l5.length then bif inb (w64 ((l5.length:Int)-1)) l5.length then bif inb x3 a1.length then (qB5 (l5.getD ((w64 ((l5.length:Int)-2)).toNat) dd) (l5.getD ((w64 ((l5.length:Int)-1)).toNat) dd) (a1.getD x3.toNat dd)).bind λv10=> MT l5 (XR a1 x3 n) (decide (v10<=0)) else none else none else none else MT l5 (XR a1 x3 n) false
def GJ (a1:List qA):Nat->(List qA)->Int->Option (List qA)
 |0,_,_=>none
 |n+1,l2,x3=> bif decide (x3<(a1.length:Int)) then (XR a1 x3 FUEL l2).bind λo16=> bif inb x3 a1.length then bif room (o16.length+1) 16 then (GJ a1 n) (o16++[(a1.getD x3.toNat dd)]) (w64 (x3+1)) else none else none else some l2
def EK (a1:List qA):Option (List qA):= (GJ a1 FUEL [] 0).bind λo21=> some o21
def YL (v7:(List qA)):Nat->(List qA)->Int->Option (List qA)
 |0,_,_=>none
 |n+1,l9,x10=> bif decide (x10≥0) then bif inb x10 v7.length then bif room (l9.length+1) 16 then (YL v7 n) (l9++[(v7.getD x10.toNat dd)]) (w64 (x10-1)) else none else none else some l9
def IN (a1:List qA) (x5:Bool):Option (List qA):= bif x5 then some ([]:List qA) else (CO a1).bind λv7=> (YL v7 FUEL [] (w64 ((v7.length:Int)-1))).bind λo15=> (EK v7).bind λv17=> (EK o15).bind λv19=> bif decide ((w64 ((v17.length:Int)+(v19.length:Int)))<5) then some ([]:List qA) else bif slOk 0 (w64 ((v17.length:Int)-1)) v17.length then bif room (0+(w64 ((v17.length:Int)-1)).toNat) 16 then bif slOk 0 (w64 ((v19.length:Int)-1)) v19.length then bif room ((0+(w64 ((v17.length:Int)-1)).toNat)+(w64 ((v19.length:Int)-1)).toNat) 16 then some ((([]:List qA)++(v17.take ((w64 ((v17.length:Int)-1)).toNat)))++(v19.take ((w64 ((v19.length:Int)-1)).toNat))) else none else none else none else none
def qC8 (a1:List qA):Option (List qA):= bif decide ((a1.length:Int)>32) then IN a1 true else (ZF a1).bind λv3=> IN a1 (!v3)
def HQ (x5:Int):Option Int:= some x5
def SZ (a1:Int) (a2:Int):Option Int:= bif nz a2 then bif decide ((w64 ((w64 (Int.tdiv a1 a2))*a2))>a1) then HQ (w64 ((w64 (Int.tdiv a1 a2))-1)) else HQ (w64 (Int.tdiv a1 a2)) else none
def TV (x5:Int) (R:Int->Int->Int->Option ((Int×Int)⊕(Int×Int))) (x17:Int) (x18:Int):Option ((Int×Int)⊕(Int×Int)):= R x17 x18 (w64 (x5+1))
def yT (a1:List qA) (a2:Int):Nat->Int->Int->Int->Option ((Int×Int)⊕(Int×Int))
 |0,_,_,_=>none
 |n+1,x3,x4,x5=> bif decide (x5<(a1.length:Int)) then bif inb x5 a1.length then bif nz (a1.length:Int) then bif inb (Int.tmod (w64 (x5+1)) (a1.length:Int)) a1.length then bif decide ((w64 (((a1.getD (Int.tmod (w64 (x5+1)) (a1.length:Int)).toNat dd).Y)-((a1.getD x5.toNat dd).Y)))>0) then (SZ (w64 ((w64 (((a1.getD (Int.tmod (w64 (x5+1)) (a1.length:Int)).toNat dd).X)-((a1.getD x5.toNat dd).X)))*(w64 (a2-((a1.getD x5.toNat dd).Y))))) (w64 (((a1.getD (Int.tmod (w64 (x5+1)) (a1.length:Int)).toNat dd).Y)-((a1.getD x5.toNat dd).Y)))).bind λv11=> TV x5 (yT a1 a2 n) x3 (imin x4 (w64 (((a1.getD x5.toNat dd).X)+v11))) else bif decide ((w64 (((a1.getD (Int.tmod (w64 (x5+1)) (a1.length:Int)).toNat dd).Y)-((a1.getD x5.toNat dd).Y)))<0) then
 (SZ (w64 ((w64 (((a1.getD (Int.tmod (w64 (x5+1)) (a1.length:Int)).toNat dd).X)-((a1.getD x5.toNat dd).X)))*(w64 (a2-((a1.getD x5.toNat dd).Y))))) (w64 (0-(w64 (((a1.getD (Int.tmod (w64 (x5+1)) (a1.length:Int)).toNat dd).Y)-((a1.getD x5.toNat dd).Y)))))).bind λv14=> TV x5 (yT a1 a2 n) (imax x3 (w64 (((a1.getD x5.toNat dd).X)-v14))) x4 else bif decide ((w64 ((w64 (((a1.getD (Int.tmod (w64 (x5+1)) (a1.length:Int)).toNat dd).X)-((a1.getD x5.toNat dd).X)))*(w64 (a2-((a1.getD x5.toNat dd).Y)))))<0) then some (Sum.inl (1,0)) else TV x5 (yT a1 a2 n) x3 x4 else none else none else none else some (Sum.inr (x3,x4))
def UX (a1:List qA) (a2:Int):Option (Int×Int):= (yT a1 a2 FUEL (-600) 600 0).bind λu23=>Sum.elim (λv24=>some v24) (λo21=> some (o21.1,o21.2)) u23
def GM (v11:Int×Int) (v13:Int×Int) (x17:Bool):Option Span:= bif x17 then some (Span.mk 0 0) else some (Span.mk (imax v11.1 v13.1) (imin v11.2 v13.2))
def KO (a2:Int) (a3:Int) (v4:(List qA)) (x9:Bool):Option Span:= bif x9 then some (Span.mk 0 0) else (UX v4 a2).bind λv11=> (UX v4 a3).bind λv13=> bif decide (v11.1>v11.2) then GM v11 v13 true else bif decide (v13.1>v13.2) then GM v11 v13 true else GM v11 v13 (decide ((imax v11.1 v13.1)≥(imin v11.2 v13.2)))
def qCa (a1:List qA) (a2:Int) (a3:Int):Option Span:= (qC8 a1).bind λv4=> bif (v4.length:Int)==0 then KO a2 a3 v4 true else bif decide (a2≥a3) then KO a2 a3 v4 true else bif decide (a2<(-600)) then KO a2 a3 v4 true else KO a2 a3 v4 (decide (a3>600))
def XK (a1:Span):Option Bool:= some (decide (a1.A≥a1.B))
def BR (x3:Int) (R:Int->Option Int) (x8:Bool):Option Int:= bif x8 then R (w64 (x3+1)) else some x3
def QW (a2:List Span):Nat->Int->Option Int
 |0,_=>none
 |n+1,x3=> bif decide (x3<(a2.length:Int)) then bif inb x3 a2.length then (XK (a2.getD x3.toNat dd)).bind λv6=> BR x3 (QW a2 n) v6 else none else BR x3 (QW a2 n) false
def BQ (x13:Int) (R:Int->Option Int) (x18:Bool):Option Int:= bif x18 then R (w64 (x13-1)) else some x13
def JB (a2:List Span) (o11:Int):Nat->Int->Option Int
 |0,_=>none
 |n+1,x13=> bif decide (x13>o11) then bif inb (w64 (x13-1)) a2.length then (XK (a2.getD (w64 (x13-1)).toNat dd)).bind λv16=> BQ x13 (JB a2 o11 n) v16 else none else BQ x13 (JB a2 o11 n) false
def WZ (x24:Int) (l25:List Span) (R:Int->(List Span)->Option (List Span)) (x31:Span):Option (List Span):= bif room (l25.length+1) 16 then R (w64 (x24+1)) (l25++[x31]) else none
def jH (a2:List Span) (o21:Int):Nat->Int->(List Span)->Option (List Span)
 |0,_,_=>none
 |n+1,x24,l25=> bif decide (x24<o21) then bif inb x24 a2.length then (XK (a2.getD x24.toNat dd)).bind λv28=> bif v28 then WZ x24 l25 (jH a2 o21 n) (Span.mk 0 0) else WZ x24 l25 (jH a2 o21 n) (a2.getD x24.toNat dd) else none else some l25
def YA (a1:Int) (a2:List Span):Option qB:= (QW a2 FUEL 0).bind λo11=> (JB a2 o11 FUEL (a2.length:Int)).bind λo21=> bif o11==o21 then some (qB.mk 0 []) else (jH a2 o21 FUEL o11 []).bind λo34=> some (qB.mk (w64 (a1+o11)) o34)
def RT (a1:List qA):Nat->Int->Int->Int->Option (Int×Int)
 |0,_,_,_=>none
 |n+1,x6,x7,x8=> bif decide (x8<(a1.length:Int)) then bif inb x8 a1.length then (RT a1 n) (imin x6 ((a1.getD x8.toNat dd).Y)) (imax x7 ((a1.getD x8.toNat dd).Y)) (w64 (x8+1)) else none else some (x6,x7)
def EG (l15:List Span) (x16:Int) (R:(List Span)->Int->Option (List Span)) (x23:Span):Option (List Span):= bif room (l15.length+1) 16 then R (l15++[x23]) (w64 (x16+1)) else none
def qBD (a1:List qA) (l15:List Span) (x16:Int) (R:(List Span)->Int->Option (List Span)) (x19:Bool):Option (List Span):= bif x19 then (qCa a1 (w64 (10*x16)) (w64 (10*(w64 (x16+1))))).bind λv21=> EG l15 x16 R v21 else EG l15 x16 R (Span.mk 0 0)
def yK (a1:List qA) (o13:Int×Int):Nat->(List Span)->Int->Option (List Span)
 |0,_,_=>none
 |n+1,l15,x16=> bif decide (x16<60) then bif decide ((w64 (10*x16))≥o13.1) then qBD a1 l15 x16 (yK a1 o13 n) (decide ((w64 (10*(w64 (x16+1))))<=o13.2)) else qBD a1 l15 x16 (yK a1 o13 n) false else some l15
def qHi (a1:List qA):Option (qB×Int):= (qBV a1).bind λv2=> bif v2 !=0 then some ((qB.mk 0 []),v2) else bif inb 0 a1.length then (RT a1 FUEL ((a1.getD (0:Int).toNat dd).Y) ((a1.getD (0:Int).toNat dd).Y) 0).bind λo13=> (yK a1 o13 FUEL [] (-60)).bind λo26=> (YA (-60) o26).bind λv28=> bif (v28.Rows.length:Int)==0 then some ((qB.mk 0 []),18) else some ((qB.mk v28.Low v28.Rows),0) else none
def qD3 (a1:Ring) (a2:Int) (a3:Int):Option (qB×Bool):= (qBF a1 a2).bind λv4=> (CC (Ring.mk v4.Z v4.Read) a3).bind λv6=> bif v6.2 !=0 then some ((qB.mk 0 []),false) else (qHi v6.1).bind λv9=> some ((qB.mk v9.1.Low v9.1.Rows),v9.2==0)
def FY (x3:Bool):Option Bool:= some x3
def LY (a1:Int):Option Bool:= bif decide (a1<(-600)) then FY true else FY (decide (a1>600))
def HU (x6:Int) (R:Int->Option (Int⊕Unit)) (x14:Bool):Option (Int⊕Unit):= bif x14 then some (Sum.inl 9) else R (w64 (x6+1))
def QU (a1:qB):Nat->Int->Option (Int⊕Unit)
 |0,_=>none
 |n+1,x6=> bif decide (x6<(a1.Rows.length:Int)) then bif inb x6 a1.Rows.length then (LY ((a1.Rows.getD x6.toNat dd).A)).bind λv9=> bif v9 then HU x6 (QU a1 n) true else (LY ((a1.Rows.getD x6.toNat dd).B)).bind λv12=> HU x6 (QU a1 n) v12 else none else some (Sum.inr ())
def MY (x31:Int) (R:Int->Option (Int⊕Unit)) (x37:Bool):Option (Int⊕Unit):= bif x37 then some (Sum.inl 19) else R (w64 (x31+1))
def QV (a1:qB):Nat->Int->Option (Int⊕Unit)
 |0,_=>none
 |n+1,x31=> bif decide (x31<(a1.Rows.length:Int)) then bif inb x31 a1.Rows.length then (XK (a1.Rows.getD x31.toNat dd)).bind λv34=> bif v34 then MY x31 (QV a1 n) (!((((a1.Rows.getD x31.toNat dd).A)==0)&&((((a1.Rows.getD x31.toNat dd).B)==0)&&true))) else MY x31 (QV a1 n) false else none else some (Sum.inr ())
def SQ (a1:qB) (x29:Bool):Option Int:= bif x29 then some 19 else (QV a1 FUEL 0).bind λu41=>Sum.elim (λv42=>some v42) (λo39=> some 0) u41
def MI (a1:qB) (x4:Bool):Option Int:= bif x4 then some 9 else (QU a1 FUEL 0).bind λu18=>Sum.elim (λv19=>some v19) (λo16=> bif (a1.Rows.length:Int)==0 then bif a1.Low !=0 then some 19 else some 0 else bif inb 0 a1.Rows.length then (XK (a1.Rows.getD (0:Int).toNat dd)).bind λv23=> bif v23 then SQ a1 true else bif inb (w64 ((a1.Rows.length:Int)-1)) a1.Rows.length then (XK (a1.Rows.getD (w64 ((a1.Rows.length:Int)-1)).toNat dd)).bind λv27=> SQ a1 v27 else none else none) u18
def qBO (a1:qB):Option Int:= bif decide ((a1.Rows.length:Int)>120) then some 4 else bif decide (a1.Low<(-60)) then MI a1 true else MI a1 (decide (a1.Low>(w64 (60-(a1.Rows.length:Int)))))
def RR (a1:qB):Option qB:= (qBO a1).bind λv2=> bif v2 !=0 then some (qB.mk 0 []) else some a1
def qAp (a1:qB) (a2:Int) (x4:Bool):Option Span:= bif x4 then some (Span.mk 0 0) else bif inb (w64 (a2-a1.Low)) a1.Rows.length then some (a1.Rows.getD (w64 (a2-a1.Low)).toNat dd) else none
def qBh (a1:qB) (a2:Int):Option Span:= bif decide (a2<a1.Low) then qAp a1 a2 true else qAp a1 a2 (decide (a2≥(w64 (a1.Low+(a1.Rows.length:Int)))))
def YJ (v3:qB) (v5:qB):Nat->(List Span)->Int->Option (List Span)
 |0,_,_=>none
 |n+1,l7,x8=> bif decide (x8<60) then (qBh v3 x8).bind λv10=> (qBh v5 x8).bind λv12=> bif room (l7.length+1) 16 then (YJ v3 v5 n) (l7++[(Span.mk (imax v10.A v12.A) (imin v10.B v12.B))]) (w64 (x8+1)) else none else some l7
def qDq (a1:qB) (a2:qB):Option qB:= (RR a1).bind λv3=> (RR a2).bind λv5=> (YJ v3 v5 FUEL [] (-60)).bind λo16=> (YA (-60) o16).bind λv18=> some (qB.mk v18.Low v18.Rows)
def QR (a1:Scan) (x9:Int):Nat->Int->Option (Bool⊕Unit)
 |0,_=>none
 |n+1,x11=> bif inb x9 a1.Rings.length then bif decide (x11<((((a1.Rings.getD x9.toNat dd).Read).length:Nat):Int)) then bif inb x11 (((a1.Rings.getD x9.toNat dd).Read).length) then bif !((((a1.Rings.getD x9.toNat dd).Read).getD x11.toNat dd).Ok) then some (Sum.inl false) else (QR a1 x9 n) (w64 (x11+1)) else none else some (Sum.inr ()) else none
def QP (a1:Scan):Nat->Int->Option (Bool⊕Unit)
 |0,_=>none
 |n+1,x9=> bif decide (x9<(a1.Rings.length:Int)) then (QR a1 x9 FUEL 0).bind λu18=>Sum.elim (λv19=>some (Sum.inl v19)) (λo16=> (QP a1 n) (w64 (x9+1))) u18 else some (Sum.inr ())
def GG (a1:Scan) (x7:Bool):Option Bool:= bif x7 then some false else (QP a1 FUEL 0).bind λu22=>Sum.elim (λv23=>some v23) (λo20=> some true) u22
def RQ (a1:Scan):Option Bool:= (ES a1).bind λv2=> bif !v2 then GG a1 true else (jU a1).bind λv5=> GG a1 (v5 !=0)
def PM (a1:List qF):Option (List qF):= bif room a1.length 56 then some a1 else none
def VB (a1:List Ring):Option (List Ring):= bif room a1.length 32 then some a1 else none
def IG (v2:List Ring):Nat->Int->(List Ring)->Option (List Ring)
 |0,_,_=>none
 |n+1,x6,l7=> bif decide (x6<(v2.length:Int)) then bif inb x6 l7.length then (yG ((l7.getD x6.toNat dd).Read)).bind λv13=> (IG v2 n) (w64 (x6+1)) (l7.set x6.toNat (Ring.mk ((l7.getD x6.toNat dd).Z) v13)) else none else some l7
def qDH (a1:Scan):Option Scan:= (VB a1.Rings).bind λv2=> (PM a1.Defects).bind λv4=> (IG v2 FUEL 0 v2).bind λo16=> some (Scan.mk o16 v4)
def jL (a1:List qF) (a2:Int) (x8:Int):Nat->Int->Int->Int->Int->Int->Option qF
 |0,_,_,_,_,_=>none
 |n+1,x11,x12,x13,x14,x15=> bif decide (x11<(Int.tmod (w64 ((Int.tmod a2 4)+4)) 4)) then (jL a1 a2 x8 n) (w64 (x11+1)) (w64 (0-x15)) (w64 (0-x14)) x12 x13 else some (qF.mk ((a1.getD x8.toNat dd).Kind) (Box.mk (Span.mk x12 x13) (Span.mk x14 x15) (((a1.getD x8.toNat dd).Box).Z)))
def yF (a1:List qF) (a2:Int):Nat->(List qF)->Int->Option (List qF)
 |0,_,_=>none
 |n+1,l7,x8=> bif decide (x8<(a1.length:Int)) then bif inb x8 a1.length then (jL a1 a2 x8 FUEL 0 ((((a1.getD x8.toNat dd).Box).X).A) ((((a1.getD x8.toNat dd).Box).X).B) ((((a1.getD x8.toNat dd).Box).Y).A) ((((a1.getD x8.toNat dd).Box).Y).B)).bind λo18=> bif inb x8 l7.length then (yF a1 a2 n) (l7.set x8.toNat o18) (w64 (x8+1)) else none else none else some l7
def DL (a1:List qF) (a2:Int):Option (List qF):= (KY a1).bind λv3=> bif v3 !=0 then some ([]:List qF) else bif mkOk (a1.length:Int) 56 then (yF a1 a2 FUEL (List.replicate ((a1.length:Int).toNat) (qF.mk 0 (Box.mk (Span.mk 0 0) (Span.mk 0 0) (Span.mk 0 0)))) 0).bind λo22=> some o22 else none
def TW (x2:Int) (R:Int->Option (Bool⊕Unit)) (x6:Bool):Option (Bool⊕Unit):= bif x6 then some (Sum.inl false) else R (w64 (x2+1))
def jO (a1:List qA):Nat->Int->Option (Bool⊕Unit)
 |0,_=>none
 |n+1,x2=> bif decide (x2<(a1.length:Int)) then bif inb x2 a1.length then bif ((a1.getD x2.toNat dd).X)==(-9223372036854775808) then TW x2 (jO a1 n) true else TW x2 (jO a1 n) (((a1.getD x2.toNat dd).Y)==(-9223372036854775808)) else none else some (Sum.inr ())
def US (a1:List qA):Option Bool:= (jO a1 FUEL 0).bind λu10=>Sum.elim (λv11=>some v11) (λo8=> some true) u10
def KF (a1:List qA) (a2:Int):Nat->(List qA)->Int->Option (List qA)
 |0,_,_=>none
 |n+1,l8,x9=> bif decide (x9<(a1.length:Int)) then bif inb x9 a1.length then bif inb x9 l8.length then (KF a1 a2 n) (l8.set x9.toNat (qA.mk (w64 ((w64 (((qV.getD (Int.tmod (w64 ((Int.tmod a2 4)+4)) 4).toNat dd).X)*((a1.getD x9.toNat dd).X)))-(w64 (((qV.getD (Int.tmod (w64 ((Int.tmod a2 4)+4)) 4).toNat dd).Y)*((a1.getD x9.toNat dd).Y))))) (w64 ((w64 (((qV.getD (Int.tmod (w64 ((Int.tmod a2 4)+4)) 4).toNat dd).Y)*((a1.getD x9.toNat dd).X)))+(w64 (((qV.getD (Int.tmod (w64 ((Int.tmod a2 4)+4)) 4).toNat dd).X)*((a1.getD x9.toNat dd).Y))))))) (w64 (x9+1)) else none else none else some l8
def IB (a1:List qA) (a2:Int):Option (List qA):= (US a1).bind λv3=> bif !v3 then some ([]:List qA) else bif inb (Int.tmod (w64 ((Int.tmod a2 4)+4)) 4) 4 then bif mkOk (a1.length:Int) 16 then (KF a1 a2 FUEL (List.replicate ((a1.length:Int).toNat) (qA.mk 0 0)) 0).bind λo14=> some o14 else none else none
def KA (a1:Ring):Nat->(List qA)->Int->Option (List qA)
 |0,_,_=>none
 |n+1,l9,x10=> bif decide (x10<(a1.Read.length:Int)) then bif inb x10 a1.Read.length then bif inb x10 l9.length then (KA a1 n) (l9.set x10.toNat ((a1.Read.getD x10.toNat dd).P)) (w64 (x10+1)) else none else none else some l9
def KR (v17:(List qA)):Nat->Int->(List qD)->Option (List qD)
 |0,_,_=>none
 |n+1,x19,l20=> bif decide (x19<(v17.length:Int)) then bif inb x19 v17.length then bif inb x19 l20.length then (KR v17 n) (w64 (x19+1)) (l20.set x19.toNat (qD.mk (v17.getD x19.toNat dd) ((l20.getD x19.toNat dd).Ok))) else none else none else some l20
def AP (a1:Ring) (a2:Int):Option Ring:= (GB a1).bind λv3=> (XD a1).bind λv5=> bif v5 !=0 then some (Ring.mk v3.Z v3.Read) else bif mkOk (a1.Read.length:Int) 16 then (KA a1 FUEL (List.replicate ((a1.Read.length:Int).toNat) (qA.mk 0 0)) 0).bind λo15=> (IB o15 a2).bind λv17=> (KR v17 FUEL 0 v3.Read).bind λo25=> some (Ring.mk v3.Z o25) else none
def ZL (a1:Scan) (a2:Int):Nat->Int->(List Ring)->Option (List Ring)
 |0,_,_=>none
 |n+1,x11,l12=> bif decide (x11<(a1.Rings.length:Int)) then bif inb x11 a1.Rings.length then (AP (a1.Rings.getD x11.toNat dd) a2).bind λv19=> bif inb x11 l12.length then (ZL a1 a2 n) (w64 (x11+1)) (l12.set x11.toNat v19) else none else none else some l12
def UG (a1:Scan) (a2:Int):Option Scan:= (jU a1).bind λv3=> bif v3 !=0 then (qDH a1).bind λv6=> some (Scan.mk v6.Rings v6.Defects) else bif mkOk (a1.Rings.length:Int) 32 then (DL a1.Defects a2).bind λv9=> (ZL a1 a2 FUEL 0 (List.replicate ((a1.Rings.length:Int).toNat) (Ring.mk 0 []))).bind λo23=> some (Scan.mk o23 v9) else none
def SP (a1:Int):Option Int:= some (Int.tmod (w64 ((Int.tmod a1 4)+4)) 4)
def qKD (a1:Box):Option Box:= some (Box.mk (Span.mk (w64 (0-a1.Y.B)) (w64 (0-a1.Y.A))) a1.X a1.Z)
def QF (a1:List qF) (a2:Int) (x7:Int):Nat->Int->Int->Int->Int->Int->Int->Int->Option qF
 |0,_,_,_,_,_,_,_=>none
 |n+1,x10,x11,x12,x13,x14,x15,x16=> (SP a2).bind λv17=> bif decide (x10<v17) then (qKD (Box.mk (Span.mk x11 x12) (Span.mk x13 x14) (Span.mk x15 x16))).bind λv20=> (QF a1 a2 x7 n) (w64 (x10+1)) v20.X.A v20.X.B v20.Y.A v20.Y.B v20.Z.A v20.Z.B else some (qF.mk ((a1.getD x7.toNat dd).Kind) (Box.mk (Span.mk x11 x12) (Span.mk x13 x14) (Span.mk x15 x16)))
def ZX (a1:List qF) (a2:Int):Nat->(List qF)->Int->Option (List qF)
 |0,_,_=>none
 |n+1,l6,x7=> bif decide (x7<(a1.length:Int)) then bif inb x7 a1.length then (QF a1 a2 x7 FUEL 0 ((((a1.getD x7.toNat dd).Box).X).A) ((((a1.getD x7.toNat dd).Box).X).B) ((((a1.getD x7.toNat dd).Box).Y).A) ((((a1.getD x7.toNat dd).Box).Y).B) ((((a1.getD x7.toNat dd).Box).Z).A) ((((a1.getD x7.toNat dd).Box).Z).B)).bind λo23=> bif room (l6.length+1) 56 then (ZX a1 a2 n) (l6++[o23]) (w64 (x7+1)) else none else none else some l6
def qH1 (a1:List qF) (a2:Int):Option (List qF):= (qBI a1).bind λv3=> bif v3 !=0 then some ([]:List qF) else (ZX a1 a2 FUEL [] 0).bind λo27=> some o27
def JG (a1:Int) (a2:qB):Option Span:= (YO a2 a1).bind λv3=> some (Span.mk (w64 (0-v3.B)) (w64 (0-v3.A)))
def QN (x3:Int) (R:Int->Int->Int->(List Span)->Option (Int×Int×(List Span))) (x17:Int) (x18:Int) (l19:List Span):Option (Int×Int×(List Span)):= R x17 (w64 (x3+1)) x18 l19
def JO (x3:Int) (l5:List Span) (R:Int->Int->Int->(List Span)->Option (Int×Int×(List Span))) (v7:Span) (x13:Int):Option (Int×Int×(List Span)):= bif room (l5.length+1) 16 then QN x3 R (((l5.length+1):Nat):Int) x13 (l5++[v7]) else none
def zN (a1:qB):Nat->Int->Int->Int->(List Span)->Option (Int×Int×(List Span))
 |0,_,_,_,_=>none
 |n+1,x2,x3,x4,l5=> bif decide (x3<60) then (JG x3 a1).bind λv7=> (wT v7).bind λv9=> bif !v9 then bif x2==0 then JO x3 l5 (zN a1 n) v7 x3 else JO x3 l5 (zN a1 n) v7 x4 else bif decide (x2>0) then bif room (l5.length+1) 16 then QN x3 (zN a1 n) x2 x4 (l5++[(Span.mk 0 0)]) else none else QN x3 (zN a1 n) x2 x4 l5 else some (x2,x4,l5)
def JA (a1:qB):Option qB:= (zN a1 FUEL 0 (-60) 0 []).bind λo23=> bif slOk 0 o23.1 o23.2.2.length then some (qB.mk o23.2.1 (o23.2.2.take o23.1.toNat)) else none
def KU (a1:qB):Option qB:= (wF a1).bind λv2=> (JA v2).bind λv4=> some (qB.mk v4.Low v4.Rows)
def PA (a1:Int) (a2:qB):Option Span:= (YO a2 (w64 ((w64 (0-a1))-1))).bind λv3=> some v3
def QK (x3:Int) (R:Int->Int->Int->(List Span)->Option (Int×Int×(List Span))) (x17:Int) (x18:Int) (l19:List Span):Option (Int×Int×(List Span)):= R x17 (w64 (x3+1)) x18 l19
def JM (x3:Int) (l5:List Span) (R:Int->Int->Int->(List Span)->Option (Int×Int×(List Span))) (v7:Span) (x13:Int):Option (Int×Int×(List Span)):= bif room (l5.length+1) 16 then QK x3 R (((l5.length+1):Nat):Int) x13 (l5++[v7]) else none
def zQ (a1:qB):Nat->Int->Int->Int->(List Span)->Option (Int×Int×(List Span))
 |0,_,_,_,_=>none
 |n+1,x2,x3,x4,l5=> bif decide (x3<60) then (PA x3 a1).bind λv7=> (wT v7).bind λv9=> bif !v9 then bif x2==0 then JM x3 l5 (zQ a1 n) v7 x3 else JM x3 l5 (zQ a1 n) v7 x4 else bif decide (x2>0) then bif room (l5.length+1) 16 then QK x3 (zQ a1 n) x2 x4 (l5++[(Span.mk 0 0)]) else none else QK x3 (zQ a1 n) x2 x4 l5 else some (x2,x4,l5)
def WW (a1:qB):Option qB:= (zQ a1 FUEL 0 (-60) 0 []).bind λo23=> bif slOk 0 o23.1 o23.2.2.length then some (qB.mk o23.2.1 (o23.2.2.take o23.1.toNat)) else none
def UO (a1:qB):Option qB:= (wF a1).bind λv2=> (WW v2).bind λv4=> some (qB.mk v4.Low v4.Rows)
def wP (a1:List Span) (a2:List Span):Nat->Int->Option (Bool⊕Unit)
 |0,_=>none
 |n+1,x4=> bif decide (x4<(a1.length:Int)) then bif inb x4 a1.length then bif inb x4 a2.length then bif !((((a1.getD x4.toNat dd).A)==((a2.getD x4.toNat dd).A))&&((((a1.getD x4.toNat dd).B)==((a2.getD x4.toNat dd).B))&&true)) then some (Sum.inl false) else (wP a1 a2 n) (w64 (x4+1)) else none else none else some (Sum.inr ())
def ZG (a1:List Span) (a2:List Span):Option Bool:= bif (a1.length:Int) !=(a2.length:Int) then some false else (wP a1 a2 FUEL 0).bind λu11=>Sum.elim (λv12=>some v12) (λo9=> some true) u11
def PW (x10:Bool):Option Bool:= some x10
def PY (a1:qB) (a2:qB):Option Bool:= (wF a1).bind λv3=> (wF a2).bind λv5=> bif v3.Low==v5.Low then (ZG v3.Rows v5.Rows).bind λv8=> PW v8 else PW false
def JP (x33:Int) (R:Int->Option (Bool⊕Unit)) (x44:Bool):Option (Bool⊕Unit):= bif x44 then some (Sum.inl false) else R (w64 (x33+1))
def zP (v24:(List qT)×Int) (v28:(List qT)×Int):Nat->Int->Option (Bool⊕Unit)
 |0,_=>none
 |n+1,x33=> bif decide (x33<(v24.1.length:Int)) then bif inb x33 v24.1.length then bif inb x33 v28.1.length then bif ((v24.1.getD x33.toNat dd).Len) !=((v28.1.getD x33.toNat dd).Len) then JP x33 (zP v24 v28 n) true else (KU ((v24.1.getD x33.toNat dd).Sec)).bind λv38=> (UO (qB.mk v38.Low v38.Rows)).bind λv40=> (PY (qB.mk v40.Low v40.Rows) ((v28.1.getD x33.toNat dd).Sec)).bind λv42=> JP x33 (zP v24 v28 n) (!v42) else none else none else some (Sum.inr ())
def jP (v24:(List qT)×Int) (v28:(List qT)×Int) (x31:Bool):Option Bool:= bif x31 then some false else (zP v24 v28 FUEL 0).bind λu48=>Sum.elim (λv49=>some v49) (λo46=> (law15_awake).bind λv50=> some v50) u48
def JL (a1:Scan) (x22:Bool):Option Bool:= bif x22 then some false else (yW a1 (-1) 0).bind λv24=> (UG a1 2).bind λv26=> (yW v26 (-1) 0).bind λv28=> bif v24.2 !=v28.2 then jP v24 v28 true else jP v24 v28 ((v24.1.length:Int) !=(v28.1.length:Int))
def JC (a1:Scan):Option Bool:= (RQ a1).bind λv2=> bif !v2 then (law15_awake).bind λv5=> some v5 else (UG a1 1).bind λv7=> (jU v7).bind λv15=> bif v15 !=0 then JL a1 true else (UG v7 3).bind λv18=> (PC (Scan.mk v18.Rings v18.Defects) a1).bind λv20=> JL a1 (!v20)
end Saw
end Go.SL

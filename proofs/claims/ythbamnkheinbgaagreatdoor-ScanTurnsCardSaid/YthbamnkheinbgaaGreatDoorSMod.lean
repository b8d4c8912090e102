import Derived.Test.YthbamnkheinbgaaGreatDoorYa6
set_option linter.unusedVariables false
set_option linter.unusedSimpArgs false
namespace Go.SL
namespace Saw
structure qA where
 X:Int
 Y:Int
instance : Inhabited qA:=⟨⟨0,0⟩⟩
def qB (r:qA):List C:=[ci r.X,ci r.Y]
structure qC where
 P:qA
 Ok:Bool
instance : Inhabited qC:=⟨⟨dd,false⟩⟩
def qF (r:qC):List C:=[ci r.P.X,ci r.P.Y,cb r.Ok]
structure Ring where
 Z:Int
 Read:List qC
instance : Inhabited Ring:=⟨⟨0,[]⟩⟩
def qI (r:Ring):List C:=[ci r.Z,tl qF dd r.Read]
structure Span where
 A:Int
 B:Int
instance : Inhabited Span:=⟨⟨0,0⟩⟩
def qL (r:Span):List C:=[ci r.A,ci r.B]
structure Box where
 X:Span
 Y:Span
 Z:Span
instance : Inhabited Box:=⟨⟨dd,dd,dd⟩⟩
def RJ (r:Box):List C:=[ci r.X.A,ci r.X.B,ci r.Y.A,ci r.Y.B,ci r.Z.A,ci r.Z.B]
structure qD where
 Kind:Int
 Box:Box
instance : Inhabited qD:=⟨⟨0,dd⟩⟩
def qG (r:qD):List C:=[ci r.Kind,ci r.Box.X.A,ci r.Box.X.B,ci r.Box.Y.A,ci r.Box.Y.B,ci r.Box.Z.A,ci r.Box.Z.B]
structure Scan where
 Rings:List Ring
 Defects:List qD
instance : Inhabited Scan:=⟨⟨[],[]⟩⟩
def qP (r:Scan):List C:=[tl qI dd r.Rings,tl qG dd r.Defects]
structure qK where
 Low:Int
 Rows:List Span
instance : Inhabited qK:=⟨⟨0,[]⟩⟩
def qQ (r:qK):List C:=[ci r.Low,tl qL dd r.Rows]
structure Rect where
 X:Span
 Y:Span
instance : Inhabited Rect:=⟨⟨dd,dd⟩⟩
def ZV (r:Rect):List C:=[ci r.X.A,ci r.X.B,ci r.Y.A,ci r.Y.B]
structure qV where
 Len:Int
 Sec:qK
instance : Inhabited qV:=⟨⟨0,dd⟩⟩
def qX (r:qV):List C:=[ci r.Len,ci r.Sec.Low,tl qL dd r.Sec.Rows]
structure qH where
 s:ByteArray
 at_:Int
 e:Int
instance : Inhabited qH:=⟨⟨⟨#[]⟩,0,0⟩⟩
def qM (r:qH):List C:=[cs r.s,ci r.at_,ci r.e]
structure qHi where
 S:ByteArray
 At:Int
 E:Int
instance : Inhabited qHi:=⟨⟨⟨#[]⟩,0,0⟩⟩
def IC :List Int:=[(-1),1]
def qT :List qA:=[(qA.mk 1 0),(qA.mk 0 1),(qA.mk (-1) 0),(qA.mk 0 (-1))]
def globs :List (Nat×C):=[(0,.aptr 2 1 (rf qN IC)),(1,.aptr 4 2 (rf qB qT))]
def QU (a1:Scan):Nat->Int->Option (Bool⊕Unit)
 |0,_=>none
 |n+1,x5=> bif decide (x5<(a1.Rings.length:Int)) then bif inb x5 a1.Rings.length then bif decide (((((a1.Rings.getD x5.toNat dd).Read).length:Nat):Int)>60) then some (Sum.inl false) else (QU a1 n) (w64 (x5+1)) else none else some (Sum.inr ())
def VJ (a1:Scan) (x3:Bool):Option Bool:= bif x3 then some false else (QU a1 FUEL 0).bind λu11=>Sum.elim (λv12=>some v12) (λo9=> some true) u11
def UE (a1:Scan):Option Bool:= bif decide ((a1.Rings.length:Int)>40) then VJ a1 true else VJ a1 (decide ((a1.Defects.length:Int)>100))
def XK :Nat->Int->(List qC)->Option (List qC)
 |0,_,_=>none
 |n+1,x4,l5=> bif decide (x4<((8:Nat):Int)) then bif inb x4 8 then bif room (l5.length+1) 24 then (XK n) (w64 (x4+1)) (l5++([(qC.mk (qA.mk (([(-50),0,50,50,50,0,(-50),(-50)]:List Int).getD x4.toNat dd) (([(-20),(-20),(-20),0,20,20,20,0]:List Int).getD x4.toNat dd)) true)]:List qC)) else none else none else some l5
def KQ (x3:Bool):Option Bool:= some x3
def YP (a1:Int):Option Bool:= bif decide (a1≥(-600)) then KQ (decide (a1<=600)) else KQ false
def RQ (x7:Int) (R:Int->Option (Int⊕Unit)) (x19:Bool):Option (Int⊕Unit):= bif x19 then some (Sum.inl 19) else R (w64 (x7+1))
def YD (a1:Ring) (x7:Int) (R:Int->Option (Int⊕Unit)) (x16:Bool):Option (Int⊕Unit):= bif x16 then some (Sum.inl 9) else bif !((a1.Read.getD x7.toNat dd).Ok) then RQ x7 R (!(((((a1.Read.getD x7.toNat dd).P).X)==0)&&(((((a1.Read.getD x7.toNat dd).P).Y)==0)&&true))) else RQ x7 R false
def wL (a1:Ring):Nat->Int->Option (Int⊕Unit)
 |0,_=>none
 |n+1,x7=> bif decide (x7<(a1.Read.length:Int)) then bif inb x7 a1.Read.length then bif (a1.Read.getD x7.toNat dd).Ok then (YP (((a1.Read.getD x7.toNat dd).P).X)).bind λv11=> bif !v11 then YD a1 x7 (wL a1 n) true else (YP (((a1.Read.getD x7.toNat dd).P).Y)).bind λv14=> YD a1 x7 (wL a1 n) (!v14) else YD a1 x7 (wL a1 n) false else none else some (Sum.inr ())
def RP (a1:Ring) (x5:Bool):Option Int:= bif x5 then some 9 else (wL a1 FUEL 0).bind λu23=>Sum.elim (λv24=>some v24) (λo21=> some 0) u23
def ZQ (a1:Ring):Option Int:= bif decide ((a1.Read.length:Int)<8) then some 3 else bif decide ((a1.Read.length:Int)>32) then some 4 else bif decide (a1.Z<0) then RP a1 true else RP a1 (decide (a1.Z>20000))
def QI (a1:Span):Option Bool:= some (decide (a1.A≥a1.B))
def JR (x5:Bool):Option Bool:= some x5
def yT (a1:Span) (a2:Int) (a3:Int):Option Bool:= bif decide ((imin a1.A a1.B)≥a2) then JR (decide ((imax a1.A a1.B)<=a3)) else JR false
def ZU (x23:Bool):Option Int:= bif x23 then some 9 else some 0
def ZR (a1:qD) (x13:Bool):Option Int:= bif x13 then some 19 else (yT a1.Box.X (-600) 600).bind λv15=> bif !v15 then ZU true else (yT a1.Box.Y (-600) 600).bind λv18=> bif !v18 then ZU true else (yT a1.Box.Z 0 20000).bind λv21=> ZU (!v21)
def XJ (a1:qD) (x3:Bool):Option Int:= bif x3 then some 10 else (QI a1.Box.X).bind λv5=> bif v5 then ZR a1 true else (QI a1.Box.Y).bind λv8=> bif v8 then ZR a1 true else (QI a1.Box.Z).bind λv11=> ZR a1 v11
def KJ (a1:qD):Option Int:= bif decide (a1.Kind<1) then XJ a1 true else XJ a1 (decide (a1.Kind>6))
def jI (a1:List qD):Nat->Int->Option (Int⊕Unit)
 |0,_=>none
 |n+1,x3=> bif decide (x3<(a1.length:Int)) then bif inb x3 a1.length then (KJ (a1.getD x3.toNat dd)).bind λv6=> bif v6 !=0 then some (Sum.inl v6) else (jI a1 n) (w64 (x3+1)) else none else some (Sum.inr ())
def WK (a1:List qD):Option Int:= bif decide ((a1.length:Int)>64) then some 4 else (jI a1 FUEL 0).bind λu11=>Sum.elim (λv12=>some v12) (λo9=> some 0) u11
def yW (a1:Scan) (x4:Int) (R:Int->Option (Int⊕Unit)) (x16:Bool):Option (Int⊕Unit):= bif x16 then some (Sum.inl 11) else bif inb 0 a1.Rings.length then bif ((((a1.Rings.getD x4.toNat dd).Read).length:Nat):Int) !=((((a1.Rings.getD (0:Int).toNat dd).Read).length:Nat):Int) then some (Sum.inl 19) else R (w64 (x4+1)) else none
def zU (a1:Scan):Nat->Int->Option (Int⊕Unit)
 |0,_=>none
 |n+1,x4=> bif decide (x4<(a1.Rings.length:Int)) then bif inb x4 a1.Rings.length then (ZQ (a1.Rings.getD x4.toNat dd)).bind λv7=> bif v7 !=0 then some (Sum.inl v7) else bif x4==0 then bif ((a1.Rings.getD x4.toNat dd).Z) !=0 then yW a1 x4 (zU a1 n) true else bif decide (x4>0) then bif inb (w64 (x4-1)) a1.Rings.length then yW a1 x4 (zU a1 n) (decide (((a1.Rings.getD x4.toNat dd).Z)<=((a1.Rings.getD (w64 (x4-1)).toNat dd).Z))) else none else yW a1 x4 (zU a1 n) false else bif decide (x4>0) then bif inb (w64 (x4-1)) a1.Rings.length then yW a1 x4 (zU a1 n) (decide (((a1.Rings.getD x4.toNat dd).Z)<=((a1.Rings.getD (w64 (x4-1)).toNat dd).Z))) else none else yW a1 x4 (zU a1 n) false else none else some (Sum.inr ())
def ZF (a1:Scan):Nat->Int->Option (Int⊕Unit)
 |0,_=>none
 |n+1,x28=> bif decide (x28<(a1.Defects.length:Int)) then bif inb x28 a1.Defects.length then bif decide (((((a1.Defects.getD x28.toNat dd).Box).Z).B)>((a1.Rings.getD (w64 ((a1.Rings.length:Int)-1)).toNat dd).Z)) then some (Sum.inl 9) else (ZF a1 n) (w64 (x28+1)) else none else some (Sum.inr ())
def yF (a1:Scan):Option Int:= bif decide ((a1.Rings.length:Int)<2) then some 3 else bif decide ((a1.Rings.length:Int)>24) then some 4 else (zU a1 FUEL 0).bind λu22=>Sum.elim (λv23=>some v23) (λo20=> (WK a1.Defects).bind λv24=> bif v24 !=0 then some v24 else bif inb (w64 ((a1.Rings.length:Int)-1)) a1.Rings.length then (ZF a1 FUEL 0).bind λu34=>Sum.elim (λv35=>some v35) (λo32=> some 0) u34 else none) u22
def wG (a1:List qC):Option (List qC):= bif room a1.length 24 then some a1 else none
def KS (a1:Ring):Option Ring:= (wG a1.Read).bind λv2=> some (Ring.mk a1.Z v2)
def TN (x3:Int) (R:(List Int)->Int->Option (List Int)) (l8:List Int):Option (List Int):= R l8 (w64 (x3+1))
def QP (a1:Ring):Nat->(List Int)->Int->Option (List Int)
 |0,_,_=>none
 |n+1,l2,x3=> bif decide (x3<(a1.Read.length:Int)) then bif inb x3 a1.Read.length then bif (a1.Read.getD x3.toNat dd).Ok then bif room (l2.length+1) 8 then TN x3 (QP a1 n) (l2++[x3]) else none else TN x3 (QP a1 n) l2 else none else some l2
def YG (a1:Ring):Option (List Int):= (QP a1 FUEL [] 0).bind λo10=> some o10
def AI (x5:Bool):Option Bool:= some x5
def qCw (a1:qA) (a2:qA) (a3:Int):Option Bool:= bif decide ((imax (w64 (a1.X-a2.X)) (w64 (a2.X-a1.X)))>a3) then AI true else AI (decide ((imax (w64 (a1.Y-a2.Y)) (w64 (a2.Y-a1.Y)))>a3))
def FF (x18:Int) (R:Bool->Int->Option Bool) (x28:Bool):Option Bool:= R x28 (w64 (x18+1))
def YJ (a1:Ring) (a2:Int) (v5:(List Int)) (x13:Int):Nat->Bool->Int->Option Bool
 |0,_,_=>none
 |n+1,x17,x18=> bif decide (x18<2) then bif inb x18 2 then bif nz (v5.length:Int) then bif inb (Int.tmod (w64 ((w64 (x13+(v5.length:Int)))+(([(-1),1]:List Int).getD x18.toNat 0))) (v5.length:Int)) v5.length then bif inb (v5.getD ((Int.tmod (w64 ((w64 (x13+(v5.length:Int)))+(([(-1),1]:List Int).getD x18.toNat 0))) (v5.length:Int)).toNat) dd) a1.Read.length then bif x17 then bif inb (v5.getD x13.toNat dd) a1.Read.length then (qCw ((a1.Read.getD (v5.getD x13.toNat dd).toNat dd).P) ((a1.Read.getD (v5.getD ((Int.tmod (w64 ((w64 (x13+(v5.length:Int)))+(([(-1),1]:List Int).getD x18.toNat 0))) (v5.length:Int)).toNat) dd).toNat dd).P) a2).bind λv26=> FF x18 (YJ a1 a2 v5 x13 n) v26 else none else FF x18 (YJ a1 a2 v5 x13 n) false
 else none else none else none else none else some x17
def NU (x13:Int) (R:Int->(List qC)->Option (List qC)) (l34:List qC):Option (List qC):= R (w64 (x13+1)) l34
def YC (a1:Ring) (a2:Int) (v5:(List Int)):Nat->Int->(List qC)->Option (List qC)
 |0,_,_=>none
 |n+1,x13,l14=> bif decide (x13<(v5.length:Int)) then bif inb x13 v5.length then (YJ a1 a2 v5 x13 FUEL true 0).bind λo30=> bif o30 then bif inb (v5.getD x13.toNat dd) l14.length then NU x13 (YC a1 a2 v5 n) (l14.set ((v5.getD x13.toNat dd).toNat) (qC.mk (qA.mk 0 0) false)) else none else NU x13 (YC a1 a2 v5 n) l14 else none else some l14
def RR (a1:Ring) (a2:Int) (v3:Ring) (v5:(List Int)) (x11:Bool):Option Ring:= bif x11 then some (Ring.mk v3.Z v3.Read) else (YC a1 a2 v5 FUEL 0 v3.Read).bind λo36=> some (Ring.mk v3.Z o36)
def CM (a1:Ring) (a2:Int):Option Ring:= (KS a1).bind λv3=> (YG a1).bind λv5=> bif decide (a2<0) then RR a1 a2 v3 v5 true else bif decide ((v5.length:Int)<2) then RR a1 a2 v3 v5 true else (ZQ a1).bind λv9=> RR a1 a2 v3 v5 (v9 !=0)
def DZ (a1:Ring) (a2:List Int) (a3:Int):Option Int:= bif decide ((w64 (a3+1))<(a2.length:Int)) then bif inb (w64 (a3+1)) a2.length then bif inb a3 a2.length then some (w64 ((w64 ((a2.getD (w64 (a3+1)).toNat dd)-(a2.getD a3.toNat dd)))-1)) else none else none else bif inb 0 a2.length then bif inb a3 a2.length then some (w64 ((w64 ((w64 ((a2.getD (0:Int).toNat dd)+(a1.Read.length:Int)))-(a2.getD a3.toNat dd)))-1)) else none else none
def HV (a1:Ring) (v2:(List Int)):Nat->Int->Int->Option Int
 |0,_,_=>none
 |n+1,x5,x6=> bif decide (x6<(v2.length:Int)) then (DZ a1 v2 x6).bind λv8=> (HV a1 v2 n) (imax x5 v8) (w64 (x6+1)) else some x5
def qBb (a1:Ring):Option (Int×Int):= (YG a1).bind λv2=> bif (v2.length:Int)==0 then some (w64 ((a1.Read.length:Int)-(v2.length:Int)),w64 ((a1.Read.length:Int)-(v2.length:Int))) else (HV a1 v2 FUEL 0 0).bind λo11=> some (w64 ((a1.Read.length:Int)-(v2.length:Int)),o11)
def NS (x5:Int):Option Int:= some x5
def LJ (a1:Int) (a2:Int):Option Int:= bif nz a2 then bif decide ((Int.tmod a1 a2)<0) then NS (w64 ((w64 (Int.tdiv a1 a2))-1)) else NS (w64 (Int.tdiv a1 a2)) else none
def DL (a1:Ring) (v6:(List Int)) (x16:Int) (v24:Int):Nat->(List qA)->Int->Option (List qA)
 |0,_,_=>none
 |n+1,l26,x27=> bif decide (x27<=v24) then bif nz (l26.length:Int) then (LJ (w64 ((w64 ((((a1.Read.getD (v6.getD ((Int.tmod (w64 (x16+1)) (v6.length:Int)).toNat) dd).toNat dd).P).X)-(((a1.Read.getD (v6.getD x16.toNat dd).toNat dd).P).X)))*x27)) (w64 (v24+1))).bind λv30=> (LJ (w64 ((w64 ((((a1.Read.getD (v6.getD ((Int.tmod (w64 (x16+1)) (v6.length:Int)).toNat) dd).toNat dd).P).Y)-(((a1.Read.getD (v6.getD x16.toNat dd).toNat dd).P).Y)))*x27)) (w64 (v24+1))).bind λv32=> bif inb (Int.tmod (w64 ((v6.getD x16.toNat dd)+x27)) (l26.length:Int)) l26.length then (DL a1 v6 x16 v24 n) (l26.set ((Int.tmod (w64 ((v6.getD x16.toNat dd)+x27)) (l26.length:Int)).toNat) (qA.mk (w64 ((((a1.Read.getD (v6.getD x16.toNat dd).toNat dd).P).X)+v30)) (w64 ((((a1.Read.getD (v6.getD x16.toNat dd).toNat dd).P).Y)+v32)))) (w64 (x27+1))
 else none else none else some l26
def GU (a1:Ring) (v6:(List Int)):Nat->(List qA)->Int->Option (List qA)
 |0,_,_=>none
 |n+1,l15,x16=> bif decide (x16<(v6.length:Int)) then bif inb x16 v6.length then bif inb (v6.getD x16.toNat dd) a1.Read.length then bif nz (v6.length:Int) then bif inb (Int.tmod (w64 (x16+1)) (v6.length:Int)) v6.length then bif inb (v6.getD ((Int.tmod (w64 (x16+1)) (v6.length:Int)).toNat) dd) a1.Read.length then bif inb (v6.getD x16.toNat dd) l15.length then (DZ a1 v6 x16).bind λv24=> (DL a1 v6 x16 v24 FUEL (l15.set ((v6.getD x16.toNat dd).toNat) ((a1.Read.getD (v6.getD x16.toNat dd).toNat dd).P)) 1).bind λo36=> (GU a1 v6 n) o36 (w64 (x16+1)) else none else none else none else none else none else none else some l15
def PE (a1:Ring) (v6:(List Int)) (x12:Bool):Option ((List qA)×Int):= bif x12 then some ([],30) else bif mkOk (a1.Read.length:Int) 16 then (GU a1 v6 FUEL (List.replicate ((a1.Read.length:Int).toNat) (qA.mk 0 0)) 0).bind λo39=> some (o39,0) else none
def AY (a1:Ring) (a2:Int):Option ((List qA)×Int):= (ZQ a1).bind λv3=> bif v3 !=0 then some ([],v3) else (YG a1).bind λv6=> (qBb a1).bind λv8=> bif decide ((v6.length:Int)<3) then PE a1 v6 true else bif decide (v8.1>0) then PE a1 v6 (decide (v8.2>a2)) else PE a1 v6 false
def DF (x3:Bool):Option Bool:= some x3
def BE (a1:Int):Option Bool:= bif decide (a1≥(-600)) then DF (decide (a1<=600)) else DF false
def VW (x2:Int) (R:Int->Option (Bool⊕Unit)) (x10:Bool):Option (Bool⊕Unit):= bif x10 then some (Sum.inl false) else R (w64 (x2+1))
def ZX (a1:List qA):Nat->Int->Option (Bool⊕Unit)
 |0,_=>none
 |n+1,x2=> bif decide (x2<(a1.length:Int)) then bif inb x2 a1.length then (BE ((a1.getD x2.toNat dd).X)).bind λv5=> bif !v5 then VW x2 (ZX a1 n) true else (BE ((a1.getD x2.toNat dd).Y)).bind λv8=> VW x2 (ZX a1 n) (!v8) else none else some (Sum.inr ())
def XT (a1:List qA):Option Bool:= (ZX a1 FUEL 0).bind λu14=>Sum.elim (λv15=>some v15) (λo12=> some true) u14
def NY (a1:List qA):Nat->Int->Int->Option Int
 |0,_,_=>none
 |n+1,x7,x8=> bif decide (x8<(a1.length:Int)) then bif inb x8 a1.length then bif nz (a1.length:Int) then bif inb (Int.tmod (w64 (x8+1)) (a1.length:Int)) a1.length then (NY a1 n) (w64 (x7+(w64 ((w64 (((a1.getD x8.toNat dd).X)*((a1.getD (Int.tmod (w64 (x8+1)) (a1.length:Int)).toNat dd).Y)))-(w64 (((a1.getD (Int.tmod (w64 (x8+1)) (a1.length:Int)).toNat dd).X)*((a1.getD x8.toNat dd).Y))))))) (w64 (x8+1)) else none else none else none else some x7
def FK (a1:List qA) (x5:Bool):Option Int:= bif x5 then some 0 else (NY a1 FUEL 0 0).bind λo14=> some o14
def CD (a1:List qA):Option Int:= bif decide ((a1.length:Int)>32) then FK a1 true else (XT a1).bind λv3=> FK a1 (!v3)
def CH (a1:List qA):Option Int:= bif decide ((a1.length:Int)<3) then some 3 else bif decide ((a1.length:Int)>32) then some 4 else (XT a1).bind λv4=> bif !v4 then some 9 else (CD a1).bind λv7=> bif v7==0 then some 19 else some 0
def VC (a1:Int) (a2:Int):Option Span:= some (Span.mk (w64 (10*a1)) (w64 (10*a2)))
def XB (a1:List qA):Option (List qA):= bif room a1.length 16 then some a1 else none
def YK (a1:Int):Option Bool:= some (a1 !=a1)
def yN (a1:Int) (a2:Int):Option Int:= (YK a1).bind λv3=> (YK a2).bind λv5=> bif v3 then bif v5 then some 0 else some (-1) else bif v5 then some 1 else bif decide (a1<a2) then some (-1) else bif decide (a1>a2) then some 1 else some 0
def QK (a1:List Int):Nat->Int->Option (Int⊕Unit)
 |0,_=>none
 |n+1,x2=> bif decide (x2<(a1.length:Int)) then bif inb x2 a1.length then bif (a1.getD x2.toNat dd) !=0 then some (Sum.inl (a1.getD x2.toNat dd)) else (QK a1 n) (w64 (x2+1)) else none else some (Sum.inr ())
def PU (a1:List Int):Option Int:= (QK a1 FUEL 0).bind λu8=>Sum.elim (λv9=>some v9) (λo6=> some 0) u8
def poly_Hull_1 (a1:qA) (a2:qA):Option Int:= (yN a1.X a2.X).bind λv3=> (yN a1.Y a2.Y).bind λv5=> (PU [v3,v5]).bind λv7=> some v7
def WA (a1:List qA):Option (List qA):= bif qHD a1.length then some (PZ poly_Hull_1 a1) else none
def QW (x12:Int) (R:(List qA)->Int->Int->Option ((List qA)×Int)) (l19:List qA) (x20:Int):Option ((List qA)×Int):= R l19 x20 (w64 (x12+1))
def wJ (l3:List qA) (x4:Int):Nat->(List qA)->Int->Int->Option ((List qA)×Int)
 |0,_,_,_=>none
 |n+1,l10,x11,x12=> bif decide (x12<(((l3.length-x4.toNat):Nat):Int)) then bif inb x12 (l3.length-x4.toNat) then bif Nat.ble (x4.toNat+(l3.length-x4.toNat)) l10.length then bif inb (w64 (x12-1)) (l3.length-x4.toNat) then bif !((((l10.getD (x4.toNat+x12.toNat) dd).X)==((l10.getD (x4.toNat+((w64 (x12-1)).toNat)) dd).X))&&((((l10.getD (x4.toNat+x12.toNat) dd).Y)==((l10.getD (x4.toNat+((w64 (x12-1)).toNat)) dd).Y))&&true)) then bif inb x11 l10.length then QW x12 (wJ l3 x4 n) (l10.set x11.toNat (l10.getD (x4.toNat+x12.toNat) dd)) (w64 (x11+1)) else none else QW x12 (wJ l3 x4 n) l10 x11 else none else none else none else some (l10,x11)
def QV :Nat->(List qA)->Int->Option (((List qA)×(List qA))⊕(List qA))
 |0,_,_=>none
 |n+1,l3,x4=> bif decide (x4<(l3.length:Int)) then bif inb x4 l3.length then bif inb (w64 (x4-1)) l3.length then bif ((((l3.getD x4.toNat dd).X)==((l3.getD ((w64 (x4-1)).toNat) dd).X))&&((((l3.getD x4.toNat dd).Y)==((l3.getD ((w64 (x4-1)).toNat) dd).Y))&&true)) then bif slOk x4 (l3.length:Int) l3.length then (wJ l3 x4 FUEL l3 x4 1).bind λo23=> bif slOk o23.2 (o23.1.length:Int) o23.1.length then bif slOk 0 o23.2 o23.1.length then some (Sum.inl ((o23.1.take o23.2.toNat),(o23.1.take o23.2.toNat))) else none else none else none else (QV n) l3 (w64 (x4+1)) else none else none else some (Sum.inr l3)
def WM (a1:List qA):Option ((List qA)×(List qA)):= bif decide ((a1.length:Int)<2) then some (a1,a1) else (QV FUEL a1 1).bind λu30=>Sum.elim (λv31=>some v31) (λo28=> some (o28,o28)) u30
def OX (a1:qA) (a2:qA) (a3:qA):Option Int:= some (w64 ((w64 ((w64 (a2.X-a1.X))*(w64 (a3.Y-a1.Y))))-(w64 ((w64 (a3.X-a1.X))*(w64 (a2.Y-a1.Y))))))
def NO (l6:List qA) (R:(List qA)->Option (List qA)) (x12:Bool):Option (List qA):= bif x12 then bif slOk 0 (w64 ((l6.length:Int)-1)) l6.length then R (l6.take ((w64 ((l6.length:Int)-1)).toNat)) else none else some l6
def YI (a1:List qA) (x3:Int):Nat->(List qA)->Option (List qA)
 |0,_=>none
 |n+1,l6=> bif decide ((l6.length:Int)≥2) then bif inb (w64 ((l6.length:Int)-2)) l6.length then bif inb (w64 ((l6.length:Int)-1)) l6.length then (OX (l6.getD ((w64 ((l6.length:Int)-2)).toNat) dd) (l6.getD ((w64 ((l6.length:Int)-1)).toNat) dd) (a1.getD x3.toNat dd)).bind λv10=> NO l6 (YI a1 x3 n) (decide (v10<=0)) else none else none else NO l6 (YI a1 x3 n) false
def NT (a1:List qA):Nat->(List qA)->Int->Option (List qA)
 |0,_,_=>none
 |n+1,l2,x3=> bif decide (x3<(a1.length:Int)) then bif inb x3 a1.length then (YI a1 x3 FUEL l2).bind λo16=> bif room (o16.length+1) 16 then (NT a1 n) (o16++[(a1.getD x3.toNat dd)]) (w64 (x3+1)) else none else none else some l2
def LI (a1:List qA):Option (List qA):= (NT a1 FUEL [] 0).bind λo20=> bif slOk 0 (w64 ((o20.length:Int)-1)) o20.length then some (o20.take ((w64 ((o20.length:Int)-1)).toNat)) else none
def QQ :Nat->(List qA)->Int->Int->Option (List qA)
 |0,_,_,_=>none
 |n+1,l2,x3,x4=> bif decide (x3<x4) then bif inb x4 l2.length then bif inb x3 l2.length then (QQ n) ((l2.set x3.toNat (l2.getD x4.toNat dd)).set x4.toNat (l2.getD x3.toNat dd)) (w64 (x3+1)) (w64 (x4-1)) else none else none else some l2
def JB (a1:List qA):Option (List qA):= (QQ FUEL a1 0 (w64 ((a1.length:Int)-1))).bind λo9=> some o9
def GD (a1:List qA) (x6:Bool):Option (List qA):= bif x6 then some ([]:List qA) else (XB a1).bind λv8=> (WA v8).bind λv10=> bif v10.length==v8.length then (WM v10).bind λv13=> (LI v13.2).bind λv15=> (JB v13.2).bind λv17=> bif v17.length==v13.2.length then (LI v17).bind λv20=> bif room (v15.length+v20.length) 16 then bif decide ((((v15.length+v20.length):Nat):Int)<3) then some ([]:List qA) else some (v15++v20) else none else none else none
def qA6 (a1:List qA):Option (List qA):= bif decide ((a1.length:Int)<3) then GD a1 true else bif decide ((a1.length:Int)>32) then GD a1 true else (XT a1).bind λv4=> GD a1 (!v4)
def GS (a1:List qA):Nat->Int->Rect->Option Rect
 |0,_,_=>none
 |n+1,x4,x5=> bif decide (x4<(a1.length:Int)) then bif inb x4 a1.length then (GS a1 n) (w64 (x4+1)) (Rect.mk (Span.mk (imin x5.X.A ((a1.getD x4.toNat dd).X)) (imax x5.X.B ((a1.getD x4.toNat dd).X))) (Span.mk (imin x5.Y.A ((a1.getD x4.toNat dd).Y)) (imax x5.Y.B ((a1.getD x4.toNat dd).Y)))) else none else some x5
def IA (a1:List qA):Option Rect:= bif (a1.length:Int)==0 then some (Rect.mk (Span.mk 0 0) (Span.mk 0 0)) else bif inb 0 a1.length then (GS a1 FUEL 0 (Rect.mk (Span.mk ((a1.getD (0:Int).toNat dd).X) ((a1.getD (0:Int).toNat dd).X)) (Span.mk ((a1.getD (0:Int).toNat dd).Y) ((a1.getD (0:Int).toNat dd).Y)))).bind λo9=> some o9 else none
def FI (x5:Int):Option Int:= some x5
def LB (a1:Int) (a2:Int):Option Int:= bif nz a2 then bif decide ((Int.tmod a1 a2)<0) then FI (w64 ((w64 (Int.tdiv a1 a2))-1)) else FI (w64 (Int.tdiv a1 a2)) else none
def XI (x6:Int) (R:Int->Int->Int->Option (Int×Int)) (x23:Int) (x24:Int):Option (Int×Int):= R x23 x24 (w64 (x6+1))
def XE (a1:Int) (a3:List qA) (x4:Int) (x5:Int) (x6:Int) (R:Int->Int->Int->Option (Int×Int)) (x19:Bool):Option (Int×Int):= bif x19 then (LB (w64 ((w64 (((a3.getD ((Int.tmod (w64 (x6+1)) (a3.length:Int)).toNat) dd).X)-((a3.getD x6.toNat dd).X)))*(w64 (a1-((a3.getD ((Int.tmod (w64 (x6+1)) (a3.length:Int)).toNat) dd).Y))))) (w64 (((a3.getD x6.toNat dd).Y)-((a3.getD ((Int.tmod (w64 (x6+1)) (a3.length:Int)).toNat) dd).Y)))).bind λv21=> XI x6 R (w64 (((a3.getD ((Int.tmod (w64 (x6+1)) (a3.length:Int)).toNat) dd).X)-v21)) x5 else XI x6 R x4 x5
def XH (a1:Int) (a3:List qA) (x4:Int) (x5:Int) (x6:Int) (R:Int->Int->Int->Option (Int×Int)) (x13:Bool):Option (Int×Int):= bif x13 then (LB (w64 ((w64 (((a3.getD ((Int.tmod (w64 (x6+1)) (a3.length:Int)).toNat) dd).X)-((a3.getD x6.toNat dd).X)))*(w64 (a1-((a3.getD x6.toNat dd).Y))))) (w64 (((a3.getD ((Int.tmod (w64 (x6+1)) (a3.length:Int)).toNat) dd).Y)-((a3.getD x6.toNat dd).Y)))).bind λv15=> XI x6 R x4 (w64 (((a3.getD x6.toNat dd).X)+v15)) else bif decide (((a3.getD x6.toNat dd).Y)>((a3.getD ((Int.tmod (w64 (x6+1)) (a3.length:Int)).toNat) dd).Y)) then bif decide (((a3.getD ((Int.tmod (w64 (x6+1)) (a3.length:Int)).toNat) dd).Y)<=a1) then XE a1 a3 x4 x5 x6 R (decide (a1<=((a3.getD x6.toNat dd).Y)))
 else XE a1 a3 x4 x5 x6 R false else XE a1 a3 x4 x5 x6 R false
def wR (a1:Int) (a3:List qA):Nat->Int->Int->Int->Option (Int×Int)
 |0,_,_,_=>none
 |n+1,x4,x5,x6=> bif decide (x6<(a3.length:Int)) then bif inb x6 a3.length then bif nz (a3.length:Int) then bif inb (Int.tmod (w64 (x6+1)) (a3.length:Int)) a3.length then bif decide (((a3.getD x6.toNat dd).Y)<((a3.getD ((Int.tmod (w64 (x6+1)) (a3.length:Int)).toNat) dd).Y)) then bif decide (((a3.getD x6.toNat dd).Y)<=a1) then XH a1 a3 x4 x5 x6 (wR a1 a3 n) (decide (a1<=((a3.getD ((Int.tmod (w64 (x6+1)) (a3.length:Int)).toNat) dd).Y))) else XH a1 a3 x4 x5 x6 (wR a1 a3 n) false else XH a1 a3 x4 x5 x6 (wR a1 a3 n) false else none else none else none else some (x4,x5)
def VM (a1:Int) (a2:Rect) (a3:List qA):Option (Int×Int):= (wR a1 a3 FUEL a2.X.A a2.X.B 0).bind λo27=> some (o27.1,o27.2)
def YM (a2:Int) (a3:Int) (v4:(List qA)) (v6:Rect) (x11:Bool):Option Span:= bif x11 then some (Span.mk 0 0) else (VM a2 v6 v4).bind λv13=> (VM a3 v6 v4).bind λv15=> bif decide ((imax v13.1 v15.1)≥(imin v13.2 v15.2)) then some (Span.mk 0 0) else some (Span.mk (imax v13.1 v15.1) (imin v13.2 v15.2))
def qAa (a1:List qA) (a2:Int) (a3:Int):Option Span:= (qA6 a1).bind λv4=> (IA v4).bind λv6=> bif (v4.length:Int)==0 then YM a2 a3 v4 v6 true else bif decide (a2≥a3) then YM a2 a3 v4 v6 true else bif decide (a2<v6.Y.A) then YM a2 a3 v4 v6 true else YM a2 a3 v4 v6 (decide (a3>v6.Y.B))
def ML (a1:Int) (a2:List qA):Option Span:= (VC a1 (w64 (a1+1))).bind λv3=> (qAa a2 v3.A v3.B).bind λv5=> some v5
def jN (a1:Span):Option Bool:= some (decide (a1.A≥a1.B))
def JQ (x3:Int) (R:Int->Int->Int->(List Span)->Option (Int×Int×(List Span))) (x17:Int) (x18:Int) (l19:List Span):Option (Int×Int×(List Span)):= R x17 (w64 (x3+1)) x18 l19
def TK (x3:Int) (l5:List Span) (R:Int->Int->Int->(List Span)->Option (Int×Int×(List Span))) (v7:Span) (x13:Int):Option (Int×Int×(List Span)):= bif room (l5.length+1) 16 then JQ x3 R (((l5.length+1):Nat):Int) x13 (l5++[v7]) else none
def wI (a1:List qA):Nat->Int->Int->Int->(List Span)->Option (Int×Int×(List Span))
 |0,_,_,_,_=>none
 |n+1,x2,x3,x4,l5=> bif decide (x3<60) then (ML x3 a1).bind λv7=> (jN v7).bind λv9=> bif !v9 then bif x2==0 then TK x3 l5 (wI a1 n) v7 x3 else TK x3 l5 (wI a1 n) v7 x4 else bif decide (x2>0) then bif room (l5.length+1) 16 then JQ x3 (wI a1 n) x2 x4 (l5++[(Span.mk 0 0)]) else none else JQ x3 (wI a1 n) x2 x4 l5 else some (x2,x4,l5)
def NV (a1:List qA):Option qK:= (wI a1 FUEL 0 (-60) 0 []).bind λo23=> bif slOk 0 o23.1 o23.2.2.length then some (qK.mk o23.2.1 (o23.2.2.take o23.1.toNat)) else none
def CJ (a1:List qA):Option (qK×Int):= (CH a1).bind λv2=> bif v2 !=0 then some ((qK.mk 0 []),v2) else (NV a1).bind λv5=> bif (v5.Rows.length:Int)==0 then some ((qK.mk 0 []),18) else some ((qK.mk v5.Low v5.Rows),0)
def GR (a1:Ring) (a2:Int) (a3:Int):Option (qK×Int):= (CM a1 a2).bind λv4=> (AY (Ring.mk v4.Z v4.Read) a3).bind λv6=> bif v6.2 !=0 then some ((qK.mk 0 []),v6.2) else (CJ v6.1).bind λv9=> some ((qK.mk v9.1.Low v9.1.Rows),v9.2)
def XQ (x3:Bool):Option Bool:= some x3
def VX (a1:Span):Option Bool:= bif decide ((imin a1.A a1.B)≥(-600)) then XQ (decide ((imax a1.A a1.B)<=600)) else XQ false
def TH (a1:qK):Nat->Int->Option (Int⊕Unit)
 |0,_=>none
 |n+1,x6=> bif decide (x6<(a1.Rows.length:Int)) then bif inb x6 a1.Rows.length then (VX (a1.Rows.getD x6.toNat dd)).bind λv9=> bif !v9 then some (Sum.inl 9) else (TH a1 n) (w64 (x6+1)) else none else some (Sum.inr ())
def TA (x27:Int) (R:Int->Option (Int⊕Unit)) (x33:Bool):Option (Int⊕Unit):= bif x33 then some (Sum.inl 19) else R (w64 (x27+1))
def QS (a1:qK):Nat->Int->Option (Int⊕Unit)
 |0,_=>none
 |n+1,x27=> bif decide (x27<(a1.Rows.length:Int)) then bif inb x27 a1.Rows.length then (jN (a1.Rows.getD x27.toNat dd)).bind λv30=> bif v30 then TA x27 (QS a1 n) (!((((a1.Rows.getD x27.toNat dd).A)==0)&&((((a1.Rows.getD x27.toNat dd).B)==0)&&true))) else TA x27 (QS a1 n) false else none else some (Sum.inr ())
def TR (a1:qK) (x25:Bool):Option Int:= bif x25 then some 19 else (QS a1 FUEL 0).bind λu37=>Sum.elim (λv38=>some v38) (λo35=> some 0) u37
def RX (a1:qK) (x4:Bool):Option Int:= bif x4 then some 9 else (TH a1 FUEL 0).bind λu14=>Sum.elim (λv15=>some v15) (λo12=> bif (a1.Rows.length:Int)==0 then bif a1.Low !=0 then some 19 else some 0 else bif inb 0 a1.Rows.length then (jN (a1.Rows.getD (0:Int).toNat dd)).bind λv19=> bif v19 then TR a1 true else bif inb (w64 ((a1.Rows.length:Int)-1)) a1.Rows.length then (jN (a1.Rows.getD (w64 ((a1.Rows.length:Int)-1)).toNat dd)).bind λv23=> TR a1 v23 else none else none) u14
def RK (a1:qK):Option Int:= bif decide ((a1.Rows.length:Int)>120) then some 4 else bif decide (a1.Low<(-60)) then RX a1 true else RX a1 (decide (a1.Low>(w64 (60-(a1.Rows.length:Int)))))
def JY (a1:qK):Option qK:= (RK a1).bind λv2=> bif v2 !=0 then some (qK.mk 0 []) else some a1
def FG (a1:qK) (a2:Int) (x4:Bool):Option Span:= bif x4 then some (Span.mk 0 0) else bif inb (w64 (a2-a1.Low)) a1.Rows.length then some (a1.Rows.getD (w64 (a2-a1.Low)).toNat dd) else none
def LK (a1:qK) (a2:Int):Option Span:= bif decide (a2<a1.Low) then FG a1 a2 true else FG a1 a2 (decide (a2≥(w64 (a1.Low+(a1.Rows.length:Int)))))
def qBe (a1:Span) (a2:Span):Option Span:= bif decide ((imax a1.A a2.A)≥(imin a1.B a2.B)) then some (Span.mk 0 0) else some (Span.mk (imax a1.A a2.A) (imin a1.B a2.B))
def DS (a1:Int) (a2:qK) (a3:qK):Option Span:= (LK a2 a1).bind λv4=> (LK a3 a1).bind λv6=> (qBe v4 v6).bind λv8=> some v8
def QZ (x4:Int) (R:Int->Int->Int->(List Span)->Option (Int×Int×(List Span))) (x18:Int) (x19:Int) (l20:List Span):Option (Int×Int×(List Span)):= R x18 (w64 (x4+1)) x19 l20
def YY (x4:Int) (l6:List Span) (R:Int->Int->Int->(List Span)->Option (Int×Int×(List Span))) (v8:Span) (x14:Int):Option (Int×Int×(List Span)):= bif room (l6.length+1) 16 then QZ x4 R (((l6.length+1):Nat):Int) x14 (l6++[v8]) else none
def zS (a1:qK) (a2:qK):Nat->Int->Int->Int->(List Span)->Option (Int×Int×(List Span))
 |0,_,_,_,_=>none
 |n+1,x3,x4,x5,l6=> bif decide (x4<60) then (DS x4 a1 a2).bind λv8=> (jN v8).bind λv10=> bif !v10 then bif x3==0 then YY x4 l6 (zS a1 a2 n) v8 x4 else YY x4 l6 (zS a1 a2 n) v8 x5 else bif decide (x3>0) then bif room (l6.length+1) 16 then QZ x4 (zS a1 a2 n) x3 x5 (l6++[(Span.mk 0 0)]) else none else QZ x4 (zS a1 a2 n) x3 x5 l6 else some (x3,x5,l6)
def RZ (a1:qK) (a2:qK):Option qK:= (zS a1 a2 FUEL 0 (-60) 0 []).bind λo24=> bif slOk 0 o24.1 o24.2.2.length then some (qK.mk o24.2.1 (o24.2.2.take o24.1.toNat)) else none
def HP (a1:qK) (a2:qK):Option qK:= (JY a1).bind λv3=> (JY a2).bind λv5=> (RZ v3 v5).bind λv7=> some (qK.mk v7.Low v7.Rows)
def NM (a1:Scan) (a2:Int) (a3:Int):Nat->(List qK)->Int->Option (((List qV)×Int)⊕(List qK))
 |0,_,_=>none
 |n+1,l8,x9=> bif decide (x9<(a1.Rings.length:Int)) then bif inb x9 a1.Rings.length then (GR (a1.Rings.getD x9.toNat dd) a2 a3).bind λv12=> bif v12.2 !=0 then some (Sum.inl ([],30)) else bif inb x9 l8.length then (NM a1 a2 a3 n) (l8.set x9.toNat v12.1) (w64 (x9+1)) else none else none else some (Sum.inr l8)
def NN (a1:Scan) (o17:(List qK)):Nat->(List qV)->Int->Option (((List qV)×Int)⊕(List qV))
 |0,_,_=>none
 |n+1,l22,x23=> bif decide (x23<(((w64 ((a1.Rings.length:Int)-1)).toNat:Nat):Int)) then bif inb x23 o17.length then bif inb (w64 (x23+1)) o17.length then (HP (o17.getD x23.toNat dd) (o17.getD ((w64 (x23+1)).toNat) dd)).bind λv27=> bif (v27.Rows.length:Int)==0 then some (Sum.inl ([],30)) else bif inb (w64 (x23+1)) a1.Rings.length then bif inb x23 a1.Rings.length then bif inb x23 l22.length then (NN a1 o17 n) (l22.set x23.toNat (qV.mk (w64 (((a1.Rings.getD (w64 (x23+1)).toNat dd).Z)-((a1.Rings.getD x23.toNat dd).Z))) v27)) (w64 (x23+1)) else none else none else none else none else none else some (Sum.inr l22)
def JF (a1:Scan) (a2:Int) (a3:Int):Option ((List qV)×Int):= (yF a1).bind λv4=> bif v4 !=0 then some ([],v4) else bif mkOk (a1.Rings.length:Int) 32 then (NM a1 a2 a3 FUEL (List.replicate ((a1.Rings.length:Int).toNat) (qK.mk 0 [])) 0).bind λu19=>Sum.elim (λv20=>some v20) (λo17=> bif mkOk (w64 ((a1.Rings.length:Int)-1)) 40 then (NN a1 o17 FUEL (List.replicate ((w64 ((a1.Rings.length:Int)-1)).toNat) (qV.mk 0 (qK.mk 0 []))) 0).bind λu39=>Sum.elim (λv40=>some v40) (λo37=> some (o37,0)) u39 else none) u19 else none
def JL (x3:Int) (R:(List Int)->Int->Option (List Int)) (l9:List Int):Option (List Int):= R l9 (w64 (x3+1))
def jO (a1:List qC):Nat->(List Int)->Int->Option (List Int)
 |0,_,_=>none
 |n+1,l2,x3=> bif decide (x3<(a1.length:Int)) then bif inb x3 a1.length then bif (a1.getD x3.toNat dd).Ok then bif room (l2.length+3) 8 then JL x3 (jO a1 n) (l2++[1,((a1.getD x3.toNat dd).P).X,((a1.getD x3.toNat dd).P).Y]) else none else bif room (l2.length+1) 8 then JL x3 (jO a1 n) (l2++[0]) else none else none else some l2
def PM (a1:List qC):Option (List Int):= (jO a1 FUEL [] 0).bind λo11=> some o11
def MT :Nat->Int->(List Int)->Option (Int×(List Int))
 |0,_,_=>none
 |n+1,x2,l3=> bif decide (x2≥128) then bif room (l3.length+1) 1 then (MT n) (shrI .u64 x2 7) (l3++[orI .u8 (IntKind.u8.wrap (x2)) 128]) else none else some (x2,l3)
def UC (a1:Int):Option ByteArray:= (MT FUEL a1 []).bind λo8=> bif room (o8.2.length+1) 1 then some (strTk (o8.2.length+1) (o8.2++[IntKind.u8.wrap (o8.1)])) else none
def MA (a1:Int):Option ByteArray:= bif decide (a1<0) then (UC (orI .u64 (shlI .u64 (notI .u64 (IntKind.u64.wrap (a1))) 1) 1)).bind λv3=> some v3 else (UC (shlI .u64 (IntKind.u64.wrap (a1)) 1)).bind λv5=> some v5
def AC (a1:List Int):Option ByteArray:=intsM UC MA a1
def YX (a1:List qD):Nat->(List Int)->Int->Option (List Int)
 |0,_,_=>none
 |n+1,l2,x3=> bif decide (x3<(a1.length:Int)) then bif inb x3 a1.length then bif room (l2.length+7) 8 then (YX a1 n) (l2++[(a1.getD x3.toNat dd).Kind,(((a1.getD x3.toNat dd).Box).X).A,(((a1.getD x3.toNat dd).Box).X).B,(((a1.getD x3.toNat dd).Box).Y).A,(((a1.getD x3.toNat dd).Box).Y).B,(((a1.getD x3.toNat dd).Box).Z).A,(((a1.getD x3.toNat dd).Box).Z).B]) (w64 (x3+1)) else none else none else some l2
def TB (a1:List qD):Option (List Int):= (YX a1 FUEL [] 0).bind λo8=> some o8
def DA (a1:Scan):Nat->(List Int)->ByteArray->Int->Option ((List Int)×ByteArray)
 |0,_,_,_=>none
 |n+1,l5,x6,x7=> bif decide (x7<(a1.Rings.length:Int)) then bif inb x7 a1.Rings.length then bif room (l5.length+1) 8 then (PM ((a1.Rings.getD x7.toNat dd).Read)).bind λv11=> (AC v11).bind λv13=> bif qBv x6 v13 then (DA a1 n) (l5++[(a1.Rings.getD x7.toNat dd).Z]) (x6++v13) (w64 (x7+1)) else none else none else none else some (l5,x6)
def YO (a1:Scan):Option (ByteArray×Int):= (yF a1).bind λv2=> bif v2 !=0 then some ((ByteArray.mk #[]),v2) else (DA a1 FUEL [] (ByteArray.mk #[]) 0).bind λo18=> (AC o18.1).bind λv20=> bif qBv v20 o18.2 then (TB a1.Defects).bind λv23=> (AC v23).bind λv25=> bif qBv (v20++o18.2) v25 then some ((v20++o18.2)++v25,0) else none else none
def GO (a1:ByteArray):Option qH:= some (qH.mk a1 0 0)
def XD (a1:qH):Option Bool:= some (a1.e !=0)
def WX (a1:Int) (a2:qH) (x3:Int) (x4:Int) (x13:Bool):Option ((Int×Int×Int)⊕Unit):= bif x13 then some (Sum.inl (0,0,5)) else some (Sum.inl (orI .u64 x3 (shlI .u64 (IntKind.u64.wrap (andI .u8 (QY a2.s ((w64 (a1+x4)).toNat)) 127)) (w64 (7*x4))),w64 ((w64 (a1+x4))+1),0))
def WU (a1:Int) (a2:qH) (x3:Int) (x4:Int) (R:Int->Int->Option ((Int×Int×Int)⊕Unit)) (x8:Bool):Option ((Int×Int×Int)⊕Unit):= bif x8 then some (Sum.inl (0,0,5)) else bif nneg (w64 (7*x4)) then bif decide ((QY a2.s ((w64 (a1+x4)).toNat))≥128) then R (orI .u64 x3 (shlI .u64 (IntKind.u64.wrap (andI .u8 (QY a2.s ((w64 (a1+x4)).toNat)) 127)) (w64 (7*x4)))) (w64 (x4+1)) else bif (QY a2.s ((w64 (a1+x4)).toNat))==0 then WX a1 a2 x3 x4 (decide (x4>0)) else WX a1 a2 x3 x4 false else none
def wZ (a1:Int) (a2:qH):Nat->Int->Int->Option ((Int×Int×Int)⊕Unit)
 |0,_,_=>none
 |n+1,x3,x4=> bif decide ((w64 (a1+x4))≥(a2.s.size:Int)) then some (Sum.inl (0,0,3)) else bif inb (w64 (a1+x4)) a2.s.size then bif x4==9 then WU a1 a2 x3 x4 (wZ a1 a2 n) (decide ((QY a2.s ((w64 (a1+x4)).toNat))>1)) else WU a1 a2 x3 x4 (wZ a1 a2 n) false else none
def ZO (a1:Int) (a2:qH):Option (Int×Int×Int):= (wZ a1 a2 FUEL 0 0).bind λu17=>Sum.elim (λv18=>some v18) (λo15=> none) u17
def WC (v4:Int×Int×Int) (x8:Bool):Option (Int×Int×Int):= bif x8 then some (0,0,4) else some (v4.1,v4.2.1,0)
def YW (a1:Int) (a2:Int) (a3:qH):Option (Int×Int×Int):= (ZO a1 a3).bind λv4=> bif v4.2.2 !=0 then some (0,0,v4.2.2) else bif decide (a2<0) then WC v4 true else WC v4 (decide (v4.1>(IntKind.u64.wrap (a2))))
def WW (v5:Int×Int×Int) (x9:Int) (x11:Bool):Option (Int×Int×Int):= bif x11 then some (0,0,9) else some (x9,v5.2.1,0)
def WT (a2:Int) (a3:Int) (v5:Int×Int×Int) (x9:Int):Option (Int×Int×Int):= bif decide (x9<a2) then WW v5 x9 true else WW v5 x9 (decide (x9>a3))
def KL (a1:Int) (a2:Int) (a3:Int) (a4:qH):Option (Int×Int×Int):= (ZO a1 a4).bind λv5=> bif v5.2.2 !=0 then some (0,0,v5.2.2) else bif (andI .u64 v5.1 1)==1 then WT a2 a3 v5 (notI .i64 (w64 (shrI .u64 v5.1 1))) else WT a2 a3 v5 (w64 (shrI .u64 v5.1 1))
def RW (a1:Int) (a2:Int) (a3:qH):Option (Int×Int):= bif a2 !=0 then some (a3.at_,a2) else some (a1,a3.e)
def YZ (a2:Int) (a3:Int) (a4:qH) (x10:Int) (x11:Int) (l12:List Int) (x13:Int) (R:Int->Int->(List Int)->Int->Option (Int×Int×(List Int))) (x15:Bool):Option (Int×Int×(List Int)):= bif x15 then (KL x10 a2 a3 a4).bind λv17=> bif room (l12.length+1) 8 then R v17.2.1 v17.2.2 (l12++[v17.1]) (IntKind.u64.wrap (x13+1)) else none else some (x10,x11,l12)
def yA (a2:Int) (a3:Int) (a4:qH) (v8:Int×Int×Int):Nat->Int->Int->(List Int)->Int->Option (Int×Int×(List Int))
 |0,_,_,_,_=>none
 |n+1,x10,x11,l12,x13=> bif decide (x13<v8.1) then YZ a2 a3 a4 x10 x11 l12 x13 (yA a2 a3 a4 v8 n) (x11==0) else YZ a2 a3 a4 x10 x11 l12 x13 (yA a2 a3 a4 v8 n) false
def RY (a1:Int) (a2:Int) (a3:Int) (a4:qH):Option ((List Int)×Int×Int):= (XD a4).bind λv5=> bif v5 then some ([],a4.at_,a4.e) else (YW a4.at_ a1 a4).bind λv8=> (yA a2 a3 a4 v8 FUEL v8.2.1 v8.2.2 [] 0).bind λo23=> (RW o23.1 o23.2.1 a4).bind λv25=> bif o23.2.1 !=0 then some ([],v25.1,v25.2) else some (o23.2.2,v25.1,v25.2)
def XW (a1:Int) (a2:qH):Option ((List Int)×Int×Int):= (RY a1 (-1099511627776) 1099511627776 a2).bind λv3=> some (v3.1,v3.2.1,v3.2.2)
def XU (l2:List Int) (l3:List qC) (R:(List Int)->(List qC)->Option (((List qC)×Bool)⊕(List qC))) (x10:Bool):Option (((List qC)×Bool)⊕(List qC)):= bif x10 then bif inb 1 l2.length then bif inb 2 l2.length then bif room (l3.length+1) 24 then bif slOk 3 (l2.length:Int) l2.length then R (l2.drop ((3:Int).toNat)) (l3++[(qC.mk (qA.mk (l2.getD (1:Int).toNat dd) (l2.getD (2:Int).toNat dd)) true)]) else none else none else none else none else some (Sum.inl ([],false))
def jB :Nat->(List Int)->(List qC)->Option (((List qC)×Bool)⊕(List qC))
 |0,_,_=>none
 |n+1,l2,l3=> bif decide ((l2.length:Int)>0) then bif inb 0 l2.length then bif (l2.getD (0:Int).toNat dd)==0 then bif room (l3.length+1) 24 then bif slOk 1 (l2.length:Int) l2.length then (jB n) (l2.drop ((1:Int).toNat)) (l3++[(qC.mk (qA.mk 0 0) false)]) else none else none else bif (l2.getD (0:Int).toNat dd)==1 then XU l2 l3 (jB n) (decide ((l2.length:Int)≥3)) else XU l2 l3 (jB n) false else none else some (Sum.inr l3)
def UQ (a1:List Int):Option ((List qC)×Bool):= (jB FUEL a1 []).bind λu19=>Sum.elim (λv20=>some v20) (λo17=> some (o17,true)) u19
def PO :Nat->(List Int)->(List qD)->Option (List qD)
 |0,_,_=>none
 |n+1,l3,l4=> bif decide ((l3.length:Int)>0) then bif inb 1 l3.length then bif inb 2 l3.length then bif inb 3 l3.length then bif inb 4 l3.length then bif inb 5 l3.length then bif inb 6 l3.length then bif inb 0 l3.length then bif room (l4.length+1) 56 then bif slOk 7 (l3.length:Int) l3.length then (PO n) (l3.drop ((7:Int).toNat)) (l4++[(qD.mk (l3.getD (0:Int).toNat dd) (Box.mk (Span.mk (l3.getD (1:Int).toNat dd) (l3.getD (2:Int).toNat dd)) (Span.mk (l3.getD (3:Int).toNat dd) (l3.getD (4:Int).toNat dd)) (Span.mk (l3.getD (5:Int).toNat dd) (l3.getD (6:Int).toNat dd))))]) else none else none else none else none else none else none else none else none else none else some l4
def GW (a1:List Int):Option ((List qD)×Bool):= bif (Int.tmod (a1.length:Int) 7) !=0 then some ([],false) else (PO FUEL a1 []).bind λo16=> some (o16,true)
def GJ (a1:qH):Option Int:= some a1.e
def TO (a1:qH):Option Int:= some (w64 ((a1.s.size:Int)-a1.at_))
def GB (a1:qH):Option Int:= (GJ a1).bind λv2=> bif v2 !=0 then some v2 else (TO a1).bind λv5=> bif decide (v5>0) then some 4 else some 0
def NQ (v2:qH) (v4:(List Int)×Int×Int):Nat->Int->(List Ring)->Int->Int->Option ((Scan×Bool)⊕((List Ring)×qH))
 |0,_,_,_,_=>none
 |n+1,x6,l7,x8,x9=> bif decide (x6<(v4.1.length:Int)) then bif inb x6 v4.1.length then (XW 96 (qH.mk v2.s x8 x9)).bind λv12=> (UQ v12.1).bind λv14=> bif !v14.2 then some (Sum.inl ((Scan.mk [] []),false)) else bif room (l7.length+1) 32 then (NQ v2 v4 n) (w64 (x6+1)) (l7++[(Ring.mk (v4.1.getD x6.toNat dd) v14.1)]) v12.2.1 v12.2.2 else none else none else some (Sum.inr (l7,(qH.mk v2.s x8 x9)))
def FE (o20:(List Ring)×qH) (v26:(List qD)×Bool) (x31:Bool):Option (Scan×Bool):= bif x31 then some ((Scan.mk [] []),false) else some ((Scan.mk o20.1 v26.1),true)
def OT (a1:ByteArray):Option (Scan×Bool):= (GO a1).bind λv2=> (XW 24 v2).bind λv4=> (NQ v2 v4 FUEL 0 [] v4.2.1 v4.2.2).bind λu22=>Sum.elim (λv23=>some v23) (λo20=> (XW 448 o20.2).bind λv24=> (GW v24.1).bind λv26=> bif !v26.2 then FE o20 v26 true else (GB (qH.mk o20.2.s v24.2.1 v24.2.2)).bind λv29=> FE o20 v26 (v29 !=0)) u22
def YR (a1:ByteArray):Option (Scan×Int):= (OT a1).bind λv2=> bif !v2.2 then some ((Scan.mk [] []),5) else (yF (Scan.mk v2.1.Rings v2.1.Defects)).bind λv5=> bif v5 !=0 then some ((Scan.mk [] []),v5) else some ((Scan.mk v2.1.Rings v2.1.Defects),0)
def zK (a1:List qC) (a2:List qC):Nat->Int->Option (Bool⊕Unit)
 |0,_=>none
 |n+1,x4=> bif decide (x4<(a1.length:Int)) then bif inb x4 a1.length then bif inb x4 a2.length then bif !((((((a1.getD x4.toNat dd).P).X)==(((a2.getD x4.toNat dd).P).X))&&(((((a1.getD x4.toNat dd).P).Y)==(((a2.getD x4.toNat dd).P).Y))&&true))&&((((a1.getD x4.toNat dd).Ok)==((a2.getD x4.toNat dd).Ok))&&true)) then some (Sum.inl false) else (zK a1 a2 n) (w64 (x4+1)) else none else none else some (Sum.inr ())
def yQ (a1:List qC) (a2:List qC):Option Bool:= bif (a1.length:Int) !=(a2.length:Int) then some false else (zK a1 a2 FUEL 0).bind λu11=>Sum.elim (λv12=>some v12) (λo9=> some true) u11
def KZ (x6:Bool):Option Bool:= some x6
def RC (a1:Ring) (a2:Ring):Option Bool:= bif a1.Z==a2.Z then (yQ a1.Read a2.Read).bind λv4=> KZ v4 else KZ false
def zO (a1:List Ring) (a2:List Ring):Nat->Int->Option (Bool⊕Unit)
 |0,_=>none
 |n+1,x4=> bif decide (x4<(a1.length:Int)) then bif inb x4 a1.length then bif inb x4 a2.length then (RC (a1.getD x4.toNat dd) (a2.getD x4.toNat dd)).bind λv8=> bif !v8 then some (Sum.inl false) else (zO a1 a2 n) (w64 (x4+1)) else none else none else some (Sum.inr ())
def yG (a1:List Ring) (a2:List Ring):Option Bool:= bif (a1.length:Int) !=(a2.length:Int) then some false else (zO a1 a2 FUEL 0).bind λu13=>Sum.elim (λv14=>some v14) (λo11=> some true) u13
def zM (a1:List qD) (a2:List qD):Nat->Int->Option (Bool⊕Unit)
 |0,_=>none
 |n+1,x4=> bif decide (x4<(a1.length:Int)) then bif inb x4 a1.length then bif inb x4 a2.length then bif !((((a1.getD x4.toNat dd).Kind)==((a2.getD x4.toNat dd).Kind))&&((((((((a1.getD x4.toNat dd).Box).X).A)==((((a2.getD x4.toNat dd).Box).X).A))&&((((((a1.getD x4.toNat dd).Box).X).B)==((((a2.getD x4.toNat dd).Box).X).B))&&true))&&(((((((a1.getD x4.toNat dd).Box).Y).A)==((((a2.getD x4.toNat dd).Box).Y).A))&&((((((a1.getD x4.toNat dd).Box).Y).B)==((((a2.getD x4.toNat dd).Box).Y).B))&&true))&&(((((((a1.getD x4.toNat dd).Box).Z).A)==((((a2.getD x4.toNat dd).Box).Z).A))&&((((((a1.getD x4.toNat dd).Box).Z).B)==((((a2.getD x4.toNat dd).Box).Z).B))&&true))&&true)))&&true)) then some (Sum.inl false) else
 (zM a1 a2 n) (w64 (x4+1)) else none else none else some (Sum.inr ())
def jK (a1:List qD) (a2:List qD):Option Bool:= bif (a1.length:Int) !=(a2.length:Int) then some false else (zM a1 a2 FUEL 0).bind λu11=>Sum.elim (λv12=>some v12) (λo9=> some true) u11
def MV (x8:Bool):Option Bool:= some x8
def JE (a1:Scan) (a2:Scan):Option Bool:= (yG a1.Rings a2.Rings).bind λv3=> bif v3 then (jK a1.Defects a2.Defects).bind λv6=> MV v6 else MV false
def DI (a1:List qV) (x4:Int) (x5:Int) (R:Int->Int->Option (Int⊕Unit)) (x13:Bool):Option (Int⊕Unit):= bif x13 then some (Sum.inl 9) else R (w64 (x4+((a1.getD x5.toNat dd).Len))) (w64 (x5+1))
def WQ (a1:List qV):Nat->Int->Int->Option (Int⊕Unit)
 |0,_,_=>none
 |n+1,x4,x5=> bif decide (x5<(a1.length:Int)) then bif inb x5 a1.length then (RK ((a1.getD x5.toNat dd).Sec)).bind λv8=> bif v8 !=0 then some (Sum.inl v8) else bif (((((a1.getD x5.toNat dd).Sec).Rows).length:Nat):Int)==0 then some (Sum.inl 18) else bif decide (((a1.getD x5.toNat dd).Len)<1) then DI a1 x4 x5 (WQ a1 n) true else DI a1 x4 x5 (WQ a1 n) (decide (((a1.getD x5.toNat dd).Len)>(w64 (20000-x4)))) else none else some (Sum.inr ())
def AT (a1:List qV):Option Int:= bif (a1.length:Int)==0 then some 3 else bif decide ((a1.length:Int)>24) then some 4 else (WQ a1 FUEL 0 0).bind λu17=>Sum.elim (λv18=>some v18) (λo15=> some 0) u17
def AX (a1:List qV):Option (List qV):= (AT a1).bind λv2=> bif v2 !=0 then some ([]:List qV) else some a1
def qAY (a1:Span):Option Int:= bif decide (a1.A≥a1.B) then some 0 else some (IntKind.u64.wrap ((IntKind.u64.wrap (a1.B))-(IntKind.u64.wrap (a1.A))))
def HN (a1:Int):Option Int:= some (w64 (imin a1 9223372036854775807))
def qCx (a1:Span):Option Int:= (qAY a1).bind λv2=> (HN v2).bind λv4=> some v4
def UU (v2:qK):Nat->Int->Int->Option Int
 |0,_,_=>none
 |n+1,x4,x5=> bif decide (x5<(v2.Rows.length:Int)) then bif inb x5 v2.Rows.length then (qCx (v2.Rows.getD x5.toNat dd)).bind λv8=> (UU v2 n) (w64 (x4+v8)) (w64 (x5+1)) else none else some x4
def MC (a1:qK):Option Int:= (JY a1).bind λv2=> (UU v2 FUEL 0 0).bind λo11=> some (w64 (10*o11))
def VE (v2:(List qV)):Nat->Int->Int->Option Int
 |0,_,_=>none
 |n+1,x4,x5=> bif decide (x5<(v2.length:Int)) then bif inb x5 v2.length then (MC ((v2.getD x5.toNat dd).Sec)).bind λv8=> (VE v2 n) (w64 (x4+(w64 (((v2.getD x5.toNat dd).Len)*v8)))) (w64 (x5+1)) else none else some x4
def VV (a1:List qV):Option Int:= (AX a1).bind λv2=> (VE v2 FUEL 0 0).bind λo11=> some o11 @[irreducible] def law15_awake :Option Bool:=some true
def yP (x2:Int) (R:Int->Option (Bool⊕Unit)) (x8:Bool):Option (Bool⊕Unit):= bif x8 then some (Sum.inl false) else R (w64 (x2+1))
def zY (a1:List qA):Nat->Int->Option (Bool⊕Unit)
 |0,_=>none
 |n+1,x2=> bif decide (x2<(a1.length:Int)) then bif inb x2 a1.length then bif decide (((a1.getD x2.toNat dd).X)<(-600)) then yP x2 (zY a1 n) true else bif decide (((a1.getD x2.toNat dd).X)>600) then yP x2 (zY a1 n) true else bif decide (((a1.getD x2.toNat dd).Y)<(-600)) then yP x2 (zY a1 n) true else yP x2 (zY a1 n) (decide (((a1.getD x2.toNat dd).Y)>600)) else none else some (Sum.inr ())
def KG (a1:List qA):Option Bool:= (zY a1 FUEL 0).bind λu12=>Sum.elim (λv13=>some v13) (λo10=> some true) u12
def KY (x7:Int) (R:Int->Option (Int⊕Unit)) (x16:Bool):Option (Int⊕Unit):= bif x16 then some (Sum.inl 19) else R (w64 (x7+1))
def KP (a1:Ring) (x7:Int) (R:Int->Option (Int⊕Unit)) (x13:Bool):Option (Int⊕Unit):= bif x13 then some (Sum.inl 9) else bif !((a1.Read.getD x7.toNat dd).Ok) then KY x7 R (!(((((a1.Read.getD x7.toNat dd).P).X)==0)&&(((((a1.Read.getD x7.toNat dd).P).Y)==0)&&true))) else KY x7 R false
def wM (a1:Ring):Nat->Int->Option (Int⊕Unit)
 |0,_=>none
 |n+1,x7=> bif decide (x7<(a1.Read.length:Int)) then bif inb x7 a1.Read.length then bif (a1.Read.getD x7.toNat dd).Ok then (KG [(a1.Read.getD x7.toNat dd).P]).bind λv11=> KP a1 x7 (wM a1 n) (!v11) else KP a1 x7 (wM a1 n) false else none else some (Sum.inr ())
def KW (a1:Ring) (x5:Bool):Option Int:= bif x5 then some 9 else (wM a1 FUEL 0).bind λu20=>Sum.elim (λv21=>some v21) (λo18=> some 0) u20
def YQ (a1:Ring):Option Int:= bif decide ((a1.Read.length:Int)<8) then some 3 else bif decide ((a1.Read.length:Int)>32) then some 4 else bif decide (a1.Z<0) then KW a1 true else KW a1 (decide (a1.Z>20000))
def WZ (x4:Bool):Option Bool:= some x4
def RD (a1:Box):Option Bool:= bif decide (a1.X.A≥a1.X.B) then WZ true else bif decide (a1.Y.A≥a1.Y.B) then WZ true else WZ (decide (a1.Z.A≥a1.Z.B))
def BH (x5:Bool):Option Bool:= some x5
def TG (a1:Span) (a2:Int) (a3:Int):Option Bool:= bif decide (a2<=a1.A) then BH (decide (a1.B<=a3)) else BH false
def ZN (x10:Bool):Option Bool:= some x10
def KH (a1:Box):Option Bool:= (TG a1.X (-600) 600).bind λv2=> bif v2 then (TG a1.Y (-600) 600).bind λv5=> bif v5 then (TG a1.Z 0 20000).bind λv8=> ZN v8 else ZN false else ZN false
def KT (a1:List qD) (x3:Int) (R:Int->Option (Int⊕Unit)) (x7:Bool):Option (Int⊕Unit):= bif x7 then some (Sum.inl 10) else bif inb x3 a1.length then (RD ((a1.getD x3.toNat dd).Box)).bind λv10=> bif v10 then some (Sum.inl 19) else (KH ((a1.getD x3.toNat dd).Box)).bind λv13=> bif !v13 then some (Sum.inl 9) else R (w64 (x3+1)) else none
def wO (a1:List qD):Nat->Int->Option (Int⊕Unit)
 |0,_=>none
 |n+1,x3=> bif decide (x3<(a1.length:Int)) then bif inb x3 a1.length then bif decide (((a1.getD x3.toNat dd).Kind)<1) then KT a1 x3 (wO a1 n) true else KT a1 x3 (wO a1 n) (decide (((a1.getD x3.toNat dd).Kind)>6)) else none else some (Sum.inr ())
def YU (a1:List qD):Option Int:= bif decide ((a1.length:Int)>64) then some 4 else (wO a1 FUEL 0).bind λu18=>Sum.elim (λv19=>some v19) (λo16=> some 0) u18
def yC (a1:Scan) (x5:Int) (R:Int->Int->Option (Int⊕Int)) (x15:Bool):Option (Int⊕Int):= bif x15 then some (Sum.inl 11) else bif inb 0 a1.Rings.length then bif ((((a1.Rings.getD x5.toNat dd).Read).length:Nat):Int) !=((((a1.Rings.getD (0:Int).toNat dd).Read).length:Nat):Int) then some (Sum.inl 19) else R ((a1.Rings.getD x5.toNat dd).Z) (w64 (x5+1)) else none
def zI (a1:Scan):Nat->Int->Int->Option (Int⊕Int)
 |0,_,_=>none
 |n+1,x4,x5=> bif decide (x5<(a1.Rings.length:Int)) then bif inb x5 a1.Rings.length then (YQ (a1.Rings.getD x5.toNat dd)).bind λv8=> bif v8 !=0 then some (Sum.inl v8) else bif x5==0 then bif ((a1.Rings.getD x5.toNat dd).Z) !=0 then yC a1 x5 (zI a1 n) true else bif decide (x5>0) then yC a1 x5 (zI a1 n) (decide (((a1.Rings.getD x5.toNat dd).Z)<=x4)) else yC a1 x5 (zI a1 n) false else bif decide (x5>0) then yC a1 x5 (zI a1 n) (decide (((a1.Rings.getD x5.toNat dd).Z)<=x4)) else yC a1 x5 (zI a1 n) false else none else some (Sum.inr x4)
def QH (a1:Scan) (o20:Int):Nat->Int->Option (Int⊕Unit)
 |0,_=>none
 |n+1,x27=> bif decide (x27<(a1.Defects.length:Int)) then bif inb x27 a1.Defects.length then bif decide (((((a1.Defects.getD x27.toNat dd).Box).Z).B)>o20) then some (Sum.inl 9) else (QH a1 o20 n) (w64 (x27+1)) else none else some (Sum.inr ())
def PV (a1:Scan):Option Int:= bif decide ((a1.Rings.length:Int)<2) then some 3 else bif decide ((a1.Rings.length:Int)>24) then some 4 else (zI a1 FUEL 0 0).bind λu22=>Sum.elim (λv23=>some v23) (λo20=> (YU a1.Defects).bind λv24=> bif v24 !=0 then some v24 else (QH a1 o20 FUEL 0).bind λu33=>Sum.elim (λv34=>some v34) (λo31=> some 0) u33) u22
def KA (a1:Ring):Option Ring:= bif room (0+a1.Read.length) 24 then some (Ring.mk a1.Z (([]:List qC)++a1.Read)) else none
def zV (a1:Ring) (a2:Ring):Nat->Int->Option (Bool⊕Unit)
 |0,_=>none
 |n+1,x6=> bif decide (x6<(a1.Read.length:Int)) then bif inb x6 a1.Read.length then bif inb x6 a2.Read.length then bif !((((((a1.Read.getD x6.toNat dd).P).X)==(((a2.Read.getD x6.toNat dd).P).X))&&(((((a1.Read.getD x6.toNat dd).P).Y)==(((a2.Read.getD x6.toNat dd).P).Y))&&true))&&((((a1.Read.getD x6.toNat dd).Ok)==((a2.Read.getD x6.toNat dd).Ok))&&true)) then some (Sum.inl false) else (zV a1 a2 n) (w64 (x6+1)) else none else none else some (Sum.inr ())
def JU (a1:Ring) (a2:Ring) (x4:Bool):Option Bool:= bif x4 then some false else (zV a1 a2 FUEL 0).bind λu13=>Sum.elim (λv14=>some v14) (λo11=> some true) u13
def JG (a1:Ring) (a2:Ring):Option Bool:= bif a1.Z !=a2.Z then JU a1 a2 true else JU a1 a2 ((a1.Read.length:Int) !=(a2.Read.length:Int))
def zT (a1:List qD) (a2:List qD):Nat->Int->Option (Bool⊕Unit)
 |0,_=>none
 |n+1,x4=> bif decide (x4<(a1.length:Int)) then bif inb x4 a1.length then bif inb x4 a2.length then bif !((((a1.getD x4.toNat dd).Kind)==((a2.getD x4.toNat dd).Kind))&&((((((((a1.getD x4.toNat dd).Box).X).A)==((((a2.getD x4.toNat dd).Box).X).A))&&((((((a1.getD x4.toNat dd).Box).X).B)==((((a2.getD x4.toNat dd).Box).X).B))&&true))&&(((((((a1.getD x4.toNat dd).Box).Y).A)==((((a2.getD x4.toNat dd).Box).Y).A))&&((((((a1.getD x4.toNat dd).Box).Y).B)==((((a2.getD x4.toNat dd).Box).Y).B))&&true))&&(((((((a1.getD x4.toNat dd).Box).Z).A)==((((a2.getD x4.toNat dd).Box).Z).A))&&((((((a1.getD x4.toNat dd).Box).Z).B)==((((a2.getD x4.toNat dd).Box).Z).B))&&true))&&true)))&&true)) then some (Sum.inl false) else
 (zT a1 a2 n) (w64 (x4+1)) else none else none else some (Sum.inr ())
def ZP (a1:List qD) (a2:List qD):Option Bool:= bif (a1.length:Int) !=(a2.length:Int) then some false else (zT a1 a2 FUEL 0).bind λu11=>Sum.elim (λv12=>some v12) (λo9=> some true) u11
def wD (a1:Scan) (a2:Scan):Nat->Int->Option (Bool⊕Unit)
 |0,_=>none
 |n+1,x4=> bif decide (x4<(a1.Rings.length:Int)) then bif inb x4 a1.Rings.length then bif inb x4 a2.Rings.length then (JG (a1.Rings.getD x4.toNat dd) (a2.Rings.getD x4.toNat dd)).bind λv8=> bif !v8 then some (Sum.inl false) else (wD a1 a2 n) (w64 (x4+1)) else none else none else some (Sum.inr ())
def ZJ (a1:Scan) (a2:Scan):Option Bool:= bif (a1.Rings.length:Int) !=(a2.Rings.length:Int) then some false else (wD a1 a2 FUEL 0).bind λu13=>Sum.elim (λv14=>some v14) (λo11=> (ZP a1.Defects a2.Defects).bind λv15=> some v15) u13
def QA (a1:List qD):Option (List qD):= bif room a1.length 56 then some a1 else none
def ZI (a1:List Ring):Option (List Ring):= bif room a1.length 32 then some a1 else none
def wW (v2:List Ring):Nat->Int->(List Ring)->Option (List Ring)
 |0,_,_=>none
 |n+1,x6,l7=> bif decide (x6<(v2.length:Int)) then bif inb x6 l7.length then (wG ((l7.getD x6.toNat dd).Read)).bind λv13=> (wW v2 n) (w64 (x6+1)) (l7.set x6.toNat (Ring.mk ((l7.getD x6.toNat dd).Z) v13)) else none else some l7
def VT (a1:Scan):Option Scan:= (ZI a1.Rings).bind λv2=> (QA a1.Defects).bind λv4=> (wW v2 FUEL 0 v2).bind λo16=> some (Scan.mk o16 v4)
def wP (a1:List qD) (a2:Int) (x8:Int):Nat->Int->Int->Int->Int->Int->Option qD
 |0,_,_,_,_,_=>none
 |n+1,x11,x12,x13,x14,x15=> bif decide (x11<(Int.tmod (w64 ((Int.tmod a2 4)+4)) 4)) then (wP a1 a2 x8 n) (w64 (x11+1)) (w64 (0-x15)) (w64 (0-x14)) x12 x13 else some (qD.mk ((a1.getD x8.toNat dd).Kind) (Box.mk (Span.mk x12 x13) (Span.mk x14 x15) (((a1.getD x8.toNat dd).Box).Z)))
def jD (a1:List qD) (a2:Int):Nat->(List qD)->Int->Option (List qD)
 |0,_,_=>none
 |n+1,l7,x8=> bif decide (x8<(a1.length:Int)) then bif inb x8 a1.length then (wP a1 a2 x8 FUEL 0 ((((a1.getD x8.toNat dd).Box).X).A) ((((a1.getD x8.toNat dd).Box).X).B) ((((a1.getD x8.toNat dd).Box).Y).A) ((((a1.getD x8.toNat dd).Box).Y).B)).bind λo18=> bif inb x8 l7.length then (jD a1 a2 n) (l7.set x8.toNat o18) (w64 (x8+1)) else none else none else some l7
def PY (a1:List qD) (a2:Int):Option (List qD):= (WK a1).bind λv3=> bif v3 !=0 then some ([]:List qD) else bif mkOk (a1.length:Int) 56 then (jD a1 a2 FUEL (List.replicate ((a1.length:Int).toNat) (qD.mk 0 (Box.mk (Span.mk 0 0) (Span.mk 0 0) (Span.mk 0 0)))) 0).bind λo22=> some o22 else none
def XG (x2:Int) (R:Int->Option (Bool⊕Unit)) (x6:Bool):Option (Bool⊕Unit):= bif x6 then some (Sum.inl false) else R (w64 (x2+1))
def wS (a1:List qA):Nat->Int->Option (Bool⊕Unit)
 |0,_=>none
 |n+1,x2=> bif decide (x2<(a1.length:Int)) then bif inb x2 a1.length then bif ((a1.getD x2.toNat dd).X)==(-9223372036854775808) then XG x2 (wS a1 n) true else XG x2 (wS a1 n) (((a1.getD x2.toNat dd).Y)==(-9223372036854775808)) else none else some (Sum.inr ())
def XZ (a1:List qA):Option Bool:= (wS a1 FUEL 0).bind λu10=>Sum.elim (λv11=>some v11) (λo8=> some true) u10
def WR (a1:List qA) (a2:Int):Nat->(List qA)->Int->Option (List qA)
 |0,_,_=>none
 |n+1,l8,x9=> bif decide (x9<(a1.length:Int)) then bif inb x9 a1.length then bif inb x9 l8.length then (WR a1 a2 n) (l8.set x9.toNat (qA.mk (w64 ((w64 (((qT.getD (Int.tmod (w64 ((Int.tmod a2 4)+4)) 4).toNat dd).X)*((a1.getD x9.toNat dd).X)))-(w64 (((qT.getD (Int.tmod (w64 ((Int.tmod a2 4)+4)) 4).toNat dd).Y)*((a1.getD x9.toNat dd).Y))))) (w64 ((w64 (((qT.getD (Int.tmod (w64 ((Int.tmod a2 4)+4)) 4).toNat dd).Y)*((a1.getD x9.toNat dd).X)))+(w64 (((qT.getD (Int.tmod (w64 ((Int.tmod a2 4)+4)) 4).toNat dd).X)*((a1.getD x9.toNat dd).Y))))))) (w64 (x9+1)) else none else none else some l8
def NG (a1:List qA) (a2:Int):Option (List qA):= (XZ a1).bind λv3=> bif !v3 then some ([]:List qA) else bif inb (Int.tmod (w64 ((Int.tmod a2 4)+4)) 4) 4 then bif mkOk (a1.length:Int) 16 then (WR a1 a2 FUEL (List.replicate ((a1.length:Int).toNat) (qA.mk 0 0)) 0).bind λo14=> some o14 else none else none
def WI (a1:Ring):Nat->(List qA)->Int->Option (List qA)
 |0,_,_=>none
 |n+1,l9,x10=> bif decide (x10<(a1.Read.length:Int)) then bif inb x10 a1.Read.length then bif inb x10 l9.length then (WI a1 n) (l9.set x10.toNat ((a1.Read.getD x10.toNat dd).P)) (w64 (x10+1)) else none else none else some l9
def JA (v17:(List qA)):Nat->Int->(List qC)->Option (List qC)
 |0,_,_=>none
 |n+1,x19,l20=> bif decide (x19<(v17.length:Int)) then bif inb x19 v17.length then bif inb x19 l20.length then (JA v17 n) (w64 (x19+1)) (l20.set x19.toNat (qC.mk (v17.getD x19.toNat dd) ((l20.getD x19.toNat dd).Ok))) else none else none else some l20
def wE (a1:Ring) (a2:Int):Option Ring:= (KS a1).bind λv3=> (ZQ a1).bind λv5=> bif v5 !=0 then some (Ring.mk v3.Z v3.Read) else bif mkOk (a1.Read.length:Int) 16 then (WI a1 FUEL (List.replicate ((a1.Read.length:Int).toNat) (qA.mk 0 0)) 0).bind λo15=> (NG o15 a2).bind λv17=> (JA v17 FUEL 0 v3.Read).bind λo25=> some (Ring.mk v3.Z o25) else none
def yL (a1:Scan) (a2:Int):Nat->Int->(List Ring)->Option (List Ring)
 |0,_,_=>none
 |n+1,x11,l12=> bif decide (x11<(a1.Rings.length:Int)) then bif inb x11 a1.Rings.length then (wE (a1.Rings.getD x11.toNat dd) a2).bind λv19=> bif inb x11 l12.length then (yL a1 a2 n) (w64 (x11+1)) (l12.set x11.toNat v19) else none else none else some l12
def BN (a1:Scan) (a2:Int):Option Scan:= (yF a1).bind λv3=> bif v3 !=0 then (VT a1).bind λv6=> some (Scan.mk v6.Rings v6.Defects) else bif mkOk (a1.Rings.length:Int) 32 then (PY a1.Defects a2).bind λv9=> (yL a1 a2 FUEL 0 (List.replicate ((a1.Rings.length:Int).toNat) (Ring.mk 0 []))).bind λo23=> some (Scan.mk o23 v9) else none
def yE (a1:Int):Option Int:= some (Int.tmod (w64 ((Int.tmod a1 4)+4)) 4)
def wT (a2:Int):Nat->Int->qA->Option qA
 |0,_,_=>none
 |n+1,x3,x4=> bif decide (x3<a2) then (wT a2 n) (w64 (x3+1)) (qA.mk (w64 (0-x4.Y)) x4.X) else some x4
def XS (a1:qA) (a2:Int):Option qA:= (wT a2 FUEL 0 a1).bind λo7=> some o7
def RS (x8:Int) (R:Int->(List qC)->Option (List qC)) (l17:List qC):Option (List qC):= R (w64 (x8+1)) l17
def jW (a2:Int):Nat->Int->(List qC)->Option (List qC)
 |0,_,_=>none
 |n+1,x8,l9=> bif decide (x8<(l9.length:Int)) then bif inb x8 l9.length then bif (l9.getD x8.toNat dd).Ok then (yE a2).bind λv13=> (XS ((l9.getD x8.toNat dd).P) v13).bind λv15=> RS x8 (jW a2 n) (l9.set x8.toNat (qC.mk v15 ((l9.getD x8.toNat dd).Ok))) else RS x8 (jW a2 n) l9 else none else some l9
def QD (a1:Ring) (a2:Int):Option Ring:= (KA a1).bind λv3=> (YQ a1).bind λv5=> bif v5 !=0 then some (Ring.mk v3.Z v3.Read) else (jW a2 FUEL 0 v3.Read).bind λo19=> some (Ring.mk v3.Z o19)
def NR (a1:Box):Option Box:= some (Box.mk (Span.mk (w64 (0-a1.Y.B)) (w64 (0-a1.Y.A))) a1.X a1.Z)
def wV (a1:List qD) (a2:Int) (x7:Int):Nat->Int->Int->Int->Int->Int->Int->Int->Option qD
 |0,_,_,_,_,_,_,_=>none
 |n+1,x10,x11,x12,x13,x14,x15,x16=> (yE a2).bind λv17=> bif decide (x10<v17) then (NR (Box.mk (Span.mk x11 x12) (Span.mk x13 x14) (Span.mk x15 x16))).bind λv20=> (wV a1 a2 x7 n) (w64 (x10+1)) v20.X.A v20.X.B v20.Y.A v20.Y.B v20.Z.A v20.Z.B else some (qD.mk ((a1.getD x7.toNat dd).Kind) (Box.mk (Span.mk x11 x12) (Span.mk x13 x14) (Span.mk x15 x16)))
def jU (a1:List qD) (a2:Int):Nat->(List qD)->Int->Option (List qD)
 |0,_,_=>none
 |n+1,l6,x7=> bif decide (x7<(a1.length:Int)) then bif inb x7 a1.length then (wV a1 a2 x7 FUEL 0 ((((a1.getD x7.toNat dd).Box).X).A) ((((a1.getD x7.toNat dd).Box).X).B) ((((a1.getD x7.toNat dd).Box).Y).A) ((((a1.getD x7.toNat dd).Box).Y).B) ((((a1.getD x7.toNat dd).Box).Z).A) ((((a1.getD x7.toNat dd).Box).Z).B)).bind λo23=> bif room (l6.length+1) 56 then (jU a1 a2 n) (l6++[o23]) (w64 (x7+1)) else none else none else some l6
def VA (a1:List qD) (a2:Int):Option (List qD):= (YU a1).bind λv3=> bif v3 !=0 then some ([]:List qD) else (jU a1 a2 FUEL [] 0).bind λo27=> some o27
def jX (a1:Scan) (a2:Int):Nat->Int->(List Ring)->Option (List Ring)
 |0,_,_=>none
 |n+1,x6,l7=> bif decide (x6<(a1.Rings.length:Int)) then bif inb x6 a1.Rings.length then (QD (a1.Rings.getD x6.toNat dd) a2).bind λv13=> bif room (l7.length+1) 32 then (jX a1 a2 n) (w64 (x6+1)) (l7++[v13]) else none else none else some l7
def UT (a1:Scan) (a2:Int):Option Scan:= (PV a1).bind λv3=> bif v3 !=0 then some a1 else (jX a1 a2 FUEL 0 []).bind λo17=> (VA a1.Defects a2).bind λv19=> some (Scan.mk o17 v19)
def yK (x27:Bool):Option Bool:= some x27
def jA (a1:Scan) (a2:Scan) (a3:Int) (x9:Bool):Option Bool:= bif x9 then (law15_awake).bind λv11=> some v11 else (BN a1 a3).bind λv13=> (UT a1 a3).bind λv15=> (ZJ (Scan.mk v13.Rings v13.Defects) v15).bind λv17=> bif v17 then (JE a1 a2).bind λv20=> (ZJ a1 a2).bind λv22=> bif v20==v22 then (law15_awake).bind λv25=> yK v25 else yK false else yK false
def ZS (a1:Scan) (a2:Scan) (a3:Int):Option Bool:= (UE a1).bind λv4=> bif !v4 then jA a1 a2 a3 true else (UE a2).bind λv7=> jA a1 a2 a3 (!v7)
end Saw
end Go.SL

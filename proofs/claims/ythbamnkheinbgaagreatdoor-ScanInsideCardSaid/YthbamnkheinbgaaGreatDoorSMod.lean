import Derived.Test.YthbamnkheinbgaaGreatDoorYa6
set_option linter.unusedVariables false
set_option linter.unusedSimpArgs false
namespace Go.SL
namespace Saw
structure qA where
 X:Int
 Y:Int
instance : Inhabited qA:=⟨⟨0,0⟩⟩
def qB (r:qA):List C:=[ci r.X,ci r.Y]
structure qD where
 P:qA
 Ok:Bool
instance : Inhabited qD:=⟨⟨dd,false⟩⟩
def qG (r:qD):List C:=[ci r.P.X,ci r.P.Y,cb r.Ok]
structure Ring where
 Z:Int
 Read:List qD
instance : Inhabited Ring:=⟨⟨0,[]⟩⟩
def qN (r:Ring):List C:=[ci r.Z,tl qG dd r.Read]
structure Span where
 A:Int
 B:Int
instance : Inhabited Span:=⟨⟨0,0⟩⟩
def qI (r:Span):List C:=[ci r.A,ci r.B]
structure Box where
 X:Span
 Y:Span
 Z:Span
instance : Inhabited Box:=⟨⟨dd,dd,dd⟩⟩
def qGT (r:Box):List C:=[ci r.X.A,ci r.X.B,ci r.Y.A,ci r.Y.B,ci r.Z.A,ci r.Z.B]
structure qL where
 Kind:Int
 Box:Box
instance : Inhabited qL:=⟨⟨0,dd⟩⟩
def qO (r:qL):List C:=[ci r.Kind,ci r.Box.X.A,ci r.Box.X.B,ci r.Box.Y.A,ci r.Box.Y.B,ci r.Box.Z.A,ci r.Box.Z.B]
structure Scan where
 Rings:List Ring
 Defects:List qL
instance : Inhabited Scan:=⟨⟨[],[]⟩⟩
def qZ (r:Scan):List C:=[tl qN dd r.Rings,tl qO dd r.Defects]
structure qC where
 Low:Int
 Rows:List Span
instance : Inhabited qC:=⟨⟨0,[]⟩⟩
def qM (r:qC):List C:=[ci r.Low,tl qI dd r.Rows]
structure Rect where
 X:Span
 Y:Span
instance : Inhabited Rect:=⟨⟨dd,dd⟩⟩
def JJ (r:Rect):List C:=[ci r.X.A,ci r.X.B,ci r.Y.A,ci r.Y.B]
structure qS where
 Len:Int
 Sec:qC
instance : Inhabited qS:=⟨⟨0,dd⟩⟩
def qT (r:qS):List C:=[ci r.Len,ci r.Sec.Low,tl qI dd r.Sec.Rows]
structure qF where
 s:ByteArray
 at_:Int
 e:Int
instance : Inhabited qF:=⟨⟨⟨#[]⟩,0,0⟩⟩
def qJ (r:qF):List C:=[cs r.s,ci r.at_,ci r.e]
structure qK0 where
 S:ByteArray
 At:Int
 E:Int
instance : Inhabited qK0:=⟨⟨⟨#[]⟩,0,0⟩⟩
def qBf :List Int:=[(-1),1]
def globs :List (Nat×C):=[(0,.aptr 2 1 (rf qK qBf))]
def WK (a1:Scan):Nat->Int->Option (Bool⊕Unit)
 |0,_=>none
 |n+1,x5=> bif decide (x5<(a1.Rings.length:Int)) then bif inb x5 a1.Rings.length then bif decide (((((a1.Rings.getD x5.toNat dd).Read).length:Nat):Int)>60) then some (Sum.inl false) else (WK a1 n) (w64 (x5+1)) else none else some (Sum.inr ())
def NY (a1:Scan) (x3:Bool):Option Bool:= bif x3 then some false else (WK a1 FUEL 0).bind λu11=>Sum.elim (λv12=>some v12) (λo9=> some true) u11
def SM (a1:Scan):Option Bool:= bif decide ((a1.Rings.length:Int)>40) then NY a1 true else NY a1 (decide ((a1.Defects.length:Int)>100))
def PV :Nat->Int->(List qD)->Option (List qD)
 |0,_,_=>none
 |n+1,x4,l5=> bif decide (x4<((8:Nat):Int)) then bif inb x4 8 then bif room (l5.length+1) 24 then (PV n) (w64 (x4+1)) (l5++([(qD.mk (qA.mk (([(-50),0,50,50,50,0,(-50),(-50)]:List Int).getD x4.toNat dd) (([(-20),(-20),(-20),0,20,20,20,0]:List Int).getD x4.toNat dd)) true)]:List qD)) else none else none else some l5
def UU (x3:Bool):Option Bool:= some x3
def PJ (a1:Int):Option Bool:= bif decide (a1≥(-600)) then UU (decide (a1<=600)) else UU false
def GM (x7:Int) (R:Int->Option (Int⊕Unit)) (x19:Bool):Option (Int⊕Unit):= bif x19 then some (Sum.inl 19) else R (w64 (x7+1))
def KP (a1:Ring) (x7:Int) (R:Int->Option (Int⊕Unit)) (x16:Bool):Option (Int⊕Unit):= bif x16 then some (Sum.inl 9) else bif !((a1.Read.getD x7.toNat dd).Ok) then GM x7 R (!(((((a1.Read.getD x7.toNat dd).P).X)==0)&&(((((a1.Read.getD x7.toNat dd).P).Y)==0)&&true))) else GM x7 R false
def jB (a1:Ring):Nat->Int->Option (Int⊕Unit)
 |0,_=>none
 |n+1,x7=> bif decide (x7<(a1.Read.length:Int)) then bif inb x7 a1.Read.length then bif (a1.Read.getD x7.toNat dd).Ok then (PJ (((a1.Read.getD x7.toNat dd).P).X)).bind λv11=> bif !v11 then KP a1 x7 (jB a1 n) true else (PJ (((a1.Read.getD x7.toNat dd).P).Y)).bind λv14=> KP a1 x7 (jB a1 n) (!v14) else KP a1 x7 (jB a1 n) false else none else some (Sum.inr ())
def GD (a1:Ring) (x5:Bool):Option Int:= bif x5 then some 9 else (jB a1 FUEL 0).bind λu23=>Sum.elim (λv24=>some v24) (λo21=> some 0) u23
def KJ (a1:Ring):Option Int:= bif decide ((a1.Read.length:Int)<8) then some 3 else bif decide ((a1.Read.length:Int)>32) then some 4 else bif decide (a1.Z<0) then GD a1 true else GD a1 (decide (a1.Z>20000))
def ZW (a1:Span):Option Bool:= some (decide (a1.A≥a1.B))
def KM (x5:Bool):Option Bool:= some x5
def ZC (a1:Span) (a2:Int) (a3:Int):Option Bool:= bif decide ((imin a1.A a1.B)≥a2) then KM (decide ((imax a1.A a1.B)<=a3)) else KM false
def JU (x23:Bool):Option Int:= bif x23 then some 9 else some 0
def JN (a1:qL) (x13:Bool):Option Int:= bif x13 then some 19 else (ZC a1.Box.X (-600) 600).bind λv15=> bif !v15 then JU true else (ZC a1.Box.Y (-600) 600).bind λv18=> bif !v18 then JU true else (ZC a1.Box.Z 0 20000).bind λv21=> JU (!v21)
def RB (a1:qL) (x3:Bool):Option Int:= bif x3 then some 10 else (ZW a1.Box.X).bind λv5=> bif v5 then JN a1 true else (ZW a1.Box.Y).bind λv8=> bif v8 then JN a1 true else (ZW a1.Box.Z).bind λv11=> JN a1 v11
def RX (a1:qL):Option Int:= bif decide (a1.Kind<1) then RB a1 true else RB a1 (decide (a1.Kind>6))
def yG (a1:List qL):Nat->Int->Option (Int⊕Unit)
 |0,_=>none
 |n+1,x3=> bif decide (x3<(a1.length:Int)) then bif inb x3 a1.length then (RX (a1.getD x3.toNat dd)).bind λv6=> bif v6 !=0 then some (Sum.inl v6) else (yG a1 n) (w64 (x3+1)) else none else some (Sum.inr ())
def RP (a1:List qL):Option Int:= bif decide ((a1.length:Int)>64) then some 4 else (yG a1 FUEL 0).bind λu11=>Sum.elim (λv12=>some v12) (λo9=> some 0) u11
def QW (a1:Scan) (x4:Int) (R:Int->Option (Int⊕Unit)) (x16:Bool):Option (Int⊕Unit):= bif x16 then some (Sum.inl 11) else bif inb 0 a1.Rings.length then bif ((((a1.Rings.getD x4.toNat dd).Read).length:Nat):Int) !=((((a1.Rings.getD (0:Int).toNat dd).Read).length:Nat):Int) then some (Sum.inl 19) else R (w64 (x4+1)) else none
def wA (a1:Scan):Nat->Int->Option (Int⊕Unit)
 |0,_=>none
 |n+1,x4=> bif decide (x4<(a1.Rings.length:Int)) then bif inb x4 a1.Rings.length then (KJ (a1.Rings.getD x4.toNat dd)).bind λv7=> bif v7 !=0 then some (Sum.inl v7) else bif x4==0 then bif ((a1.Rings.getD x4.toNat dd).Z) !=0 then QW a1 x4 (wA a1 n) true else bif decide (x4>0) then bif inb (w64 (x4-1)) a1.Rings.length then QW a1 x4 (wA a1 n) (decide (((a1.Rings.getD x4.toNat dd).Z)<=((a1.Rings.getD (w64 (x4-1)).toNat dd).Z))) else none else QW a1 x4 (wA a1 n) false else bif decide (x4>0) then bif inb (w64 (x4-1)) a1.Rings.length then QW a1 x4 (wA a1 n) (decide (((a1.Rings.getD x4.toNat dd).Z)<=((a1.Rings.getD (w64 (x4-1)).toNat dd).Z))) else none else QW a1 x4 (wA a1 n) false else none else some (Sum.inr ())
def JF (a1:Scan):Nat->Int->Option (Int⊕Unit)
 |0,_=>none
 |n+1,x28=> bif decide (x28<(a1.Defects.length:Int)) then bif inb x28 a1.Defects.length then bif decide (((((a1.Defects.getD x28.toNat dd).Box).Z).B)>((a1.Rings.getD (w64 ((a1.Rings.length:Int)-1)).toNat dd).Z)) then some (Sum.inl 9) else (JF a1 n) (w64 (x28+1)) else none else some (Sum.inr ())
def QL (a1:Scan):Option Int:= bif decide ((a1.Rings.length:Int)<2) then some 3 else bif decide ((a1.Rings.length:Int)>24) then some 4 else (wA a1 FUEL 0).bind λu22=>Sum.elim (λv23=>some v23) (λo20=> (RP a1.Defects).bind λv24=> bif v24 !=0 then some v24 else bif inb (w64 ((a1.Rings.length:Int)-1)) a1.Rings.length then (JF a1 FUEL 0).bind λu34=>Sum.elim (λv35=>some v35) (λo32=> some 0) u34 else none) u22
def QS (a1:List qD):Option (List qD):= bif room a1.length 24 then some a1 else none
def NO (a1:Ring):Option Ring:= (QS a1.Read).bind λv2=> some (Ring.mk a1.Z v2)
def KI (x3:Int) (R:(List Int)->Int->Option (List Int)) (l8:List Int):Option (List Int):= R l8 (w64 (x3+1))
def wZ (a1:Ring):Nat->(List Int)->Int->Option (List Int)
 |0,_,_=>none
 |n+1,l2,x3=> bif decide (x3<(a1.Read.length:Int)) then bif inb x3 a1.Read.length then bif (a1.Read.getD x3.toNat dd).Ok then bif room (l2.length+1) 8 then KI x3 (wZ a1 n) (l2++[x3]) else none else KI x3 (wZ a1 n) l2 else none else some l2
def ZH (a1:Ring):Option (List Int):= (wZ a1 FUEL [] 0).bind λo10=> some o10
def MO (x5:Bool):Option Bool:= some x5
def IS (a1:qA) (a2:qA) (a3:Int):Option Bool:= bif decide ((imax (w64 (a1.X-a2.X)) (w64 (a2.X-a1.X)))>a3) then MO true else MO (decide ((imax (w64 (a1.Y-a2.Y)) (w64 (a2.Y-a1.Y)))>a3))
def GL (x18:Int) (R:Bool->Int->Option Bool) (x28:Bool):Option Bool:= R x28 (w64 (x18+1))
def wN (a1:Ring) (a2:Int) (v5:(List Int)) (x13:Int):Nat->Bool->Int->Option Bool
 |0,_,_=>none
 |n+1,x17,x18=> bif decide (x18<2) then bif inb x18 2 then bif nz (v5.length:Int) then bif inb (Int.tmod (w64 ((w64 (x13+(v5.length:Int)))+(([(-1),1]:List Int).getD x18.toNat 0))) (v5.length:Int)) v5.length then bif inb (v5.getD ((Int.tmod (w64 ((w64 (x13+(v5.length:Int)))+(([(-1),1]:List Int).getD x18.toNat 0))) (v5.length:Int)).toNat) dd) a1.Read.length then bif x17 then bif inb (v5.getD x13.toNat dd) a1.Read.length then (IS ((a1.Read.getD (v5.getD x13.toNat dd).toNat dd).P) ((a1.Read.getD (v5.getD ((Int.tmod (w64 ((w64 (x13+(v5.length:Int)))+(([(-1),1]:List Int).getD x18.toNat 0))) (v5.length:Int)).toNat) dd).toNat dd).P) a2).bind λv26=> GL x18 (wN a1 a2 v5 x13 n) v26 else none else GL x18 (wN a1 a2 v5 x13 n) false
 else none else none else none else none else some x17
def GS (x13:Int) (R:Int->(List qD)->Option (List qD)) (l34:List qD):Option (List qD):= R (w64 (x13+1)) l34
def yO (a1:Ring) (a2:Int) (v5:(List Int)):Nat->Int->(List qD)->Option (List qD)
 |0,_,_=>none
 |n+1,x13,l14=> bif decide (x13<(v5.length:Int)) then bif inb x13 v5.length then (wN a1 a2 v5 x13 FUEL true 0).bind λo30=> bif o30 then bif inb (v5.getD x13.toNat dd) l14.length then GS x13 (yO a1 a2 v5 n) (l14.set ((v5.getD x13.toNat dd).toNat) (qD.mk (qA.mk 0 0) false)) else none else GS x13 (yO a1 a2 v5 n) l14 else none else some l14
def KW (a1:Ring) (a2:Int) (v3:Ring) (v5:(List Int)) (x11:Bool):Option Ring:= bif x11 then some (Ring.mk v3.Z v3.Read) else (yO a1 a2 v5 FUEL 0 v3.Read).bind λo36=> some (Ring.mk v3.Z o36)
def FB (a1:Ring) (a2:Int):Option Ring:= (NO a1).bind λv3=> (ZH a1).bind λv5=> bif decide (a2<0) then KW a1 a2 v3 v5 true else bif decide ((v5.length:Int)<2) then KW a1 a2 v3 v5 true else (KJ a1).bind λv9=> KW a1 a2 v3 v5 (v9 !=0)
def PF (a1:Ring) (a2:List Int) (a3:Int):Option Int:= bif decide ((w64 (a3+1))<(a2.length:Int)) then bif inb (w64 (a3+1)) a2.length then bif inb a3 a2.length then some (w64 ((w64 ((a2.getD (w64 (a3+1)).toNat dd)-(a2.getD a3.toNat dd)))-1)) else none else none else bif inb 0 a2.length then bif inb a3 a2.length then some (w64 ((w64 ((w64 ((a2.getD (0:Int).toNat dd)+(a1.Read.length:Int)))-(a2.getD a3.toNat dd)))-1)) else none else none
def XC (a1:Ring) (v2:(List Int)):Nat->Int->Int->Option Int
 |0,_,_=>none
 |n+1,x5,x6=> bif decide (x6<(v2.length:Int)) then (PF a1 v2 x6).bind λv8=> (XC a1 v2 n) (imax x5 v8) (w64 (x6+1)) else some x5
def BJ (a1:Ring):Option (Int×Int):= (ZH a1).bind λv2=> bif (v2.length:Int)==0 then some (w64 ((a1.Read.length:Int)-(v2.length:Int)),w64 ((a1.Read.length:Int)-(v2.length:Int))) else (XC a1 v2 FUEL 0 0).bind λo11=> some (w64 ((a1.Read.length:Int)-(v2.length:Int)),o11)
def GQ (x5:Int):Option Int:= some x5
def TO (a1:Int) (a2:Int):Option Int:= bif nz a2 then bif decide ((Int.tmod a1 a2)<0) then GQ (w64 ((w64 (Int.tdiv a1 a2))-1)) else GQ (w64 (Int.tdiv a1 a2)) else none
def ZT (a1:Ring) (v6:(List Int)) (x16:Int) (v24:Int):Nat->(List qA)->Int->Option (List qA)
 |0,_,_=>none
 |n+1,l26,x27=> bif decide (x27<=v24) then bif nz (l26.length:Int) then (TO (w64 ((w64 ((((a1.Read.getD (v6.getD ((Int.tmod (w64 (x16+1)) (v6.length:Int)).toNat) dd).toNat dd).P).X)-(((a1.Read.getD (v6.getD x16.toNat dd).toNat dd).P).X)))*x27)) (w64 (v24+1))).bind λv30=> (TO (w64 ((w64 ((((a1.Read.getD (v6.getD ((Int.tmod (w64 (x16+1)) (v6.length:Int)).toNat) dd).toNat dd).P).Y)-(((a1.Read.getD (v6.getD x16.toNat dd).toNat dd).P).Y)))*x27)) (w64 (v24+1))).bind λv32=> bif inb (Int.tmod (w64 ((v6.getD x16.toNat dd)+x27)) (l26.length:Int)) l26.length then (ZT a1 v6 x16 v24 n) (l26.set ((Int.tmod (w64 ((v6.getD x16.toNat dd)+x27)) (l26.length:Int)).toNat) (qA.mk (w64 ((((a1.Read.getD (v6.getD x16.toNat dd).toNat dd).P).X)+v30)) (w64 ((((a1.Read.getD (v6.getD x16.toNat dd).toNat dd).P).Y)+v32)))) (w64 (x27+1))
 else none else none else some l26
def QF (a1:Ring) (v6:(List Int)):Nat->(List qA)->Int->Option (List qA)
 |0,_,_=>none
 |n+1,l15,x16=> bif decide (x16<(v6.length:Int)) then bif inb x16 v6.length then bif inb (v6.getD x16.toNat dd) a1.Read.length then bif nz (v6.length:Int) then bif inb (Int.tmod (w64 (x16+1)) (v6.length:Int)) v6.length then bif inb (v6.getD ((Int.tmod (w64 (x16+1)) (v6.length:Int)).toNat) dd) a1.Read.length then bif inb (v6.getD x16.toNat dd) l15.length then (PF a1 v6 x16).bind λv24=> (ZT a1 v6 x16 v24 FUEL (l15.set ((v6.getD x16.toNat dd).toNat) ((a1.Read.getD (v6.getD x16.toNat dd).toNat dd).P)) 1).bind λo36=> (QF a1 v6 n) o36 (w64 (x16+1)) else none else none else none else none else none else none else some l15
def XA (a1:Ring) (v6:(List Int)) (x12:Bool):Option ((List qA)×Int):= bif x12 then some ([],30) else bif mkOk (a1.Read.length:Int) 16 then (QF a1 v6 FUEL (List.replicate ((a1.Read.length:Int).toNat) (qA.mk 0 0)) 0).bind λo39=> some (o39,0) else none
def VV (a1:Ring) (a2:Int):Option ((List qA)×Int):= (KJ a1).bind λv3=> bif v3 !=0 then some ([],v3) else (ZH a1).bind λv6=> (BJ a1).bind λv8=> bif decide ((v6.length:Int)<3) then XA a1 v6 true else bif decide (v8.1>0) then XA a1 v6 (decide (v8.2>a2)) else XA a1 v6 false
def UH (x3:Bool):Option Bool:= some x3
def ZR (a1:Int):Option Bool:= bif decide (a1≥(-600)) then UH (decide (a1<=600)) else UH false
def RH (x2:Int) (R:Int->Option (Bool⊕Unit)) (x10:Bool):Option (Bool⊕Unit):= bif x10 then some (Sum.inl false) else R (w64 (x2+1))
def yH (a1:List qA):Nat->Int->Option (Bool⊕Unit)
 |0,_=>none
 |n+1,x2=> bif decide (x2<(a1.length:Int)) then bif inb x2 a1.length then (ZR ((a1.getD x2.toNat dd).X)).bind λv5=> bif !v5 then RH x2 (yH a1 n) true else (ZR ((a1.getD x2.toNat dd).Y)).bind λv8=> RH x2 (yH a1 n) (!v8) else none else some (Sum.inr ())
def WD (a1:List qA):Option Bool:= (yH a1 FUEL 0).bind λu14=>Sum.elim (λv15=>some v15) (λo12=> some true) u14
def JA (a1:List qA):Nat->Int->Int->Option Int
 |0,_,_=>none
 |n+1,x7,x8=> bif decide (x8<(a1.length:Int)) then bif inb x8 a1.length then bif nz (a1.length:Int) then bif inb (Int.tmod (w64 (x8+1)) (a1.length:Int)) a1.length then (JA a1 n) (w64 (x7+(w64 ((w64 (((a1.getD x8.toNat dd).X)*((a1.getD (Int.tmod (w64 (x8+1)) (a1.length:Int)).toNat dd).Y)))-(w64 (((a1.getD (Int.tmod (w64 (x8+1)) (a1.length:Int)).toNat dd).X)*((a1.getD x8.toNat dd).Y))))))) (w64 (x8+1)) else none else none else none else some x7
def GI (a1:List qA) (x5:Bool):Option Int:= bif x5 then some 0 else (JA a1 FUEL 0 0).bind λo14=> some o14
def NC (a1:List qA):Option Int:= bif decide ((a1.length:Int)>32) then GI a1 true else (WD a1).bind λv3=> GI a1 (!v3)
def TU (a1:List qA):Option Int:= bif decide ((a1.length:Int)<3) then some 3 else bif decide ((a1.length:Int)>32) then some 4 else (WD a1).bind λv4=> bif !v4 then some 9 else (NC a1).bind λv7=> bif v7==0 then some 19 else some 0
def RG (a1:Int) (a2:Int):Option Span:= some (Span.mk (w64 (10*a1)) (w64 (10*a2)))
def yY (a1:List qA):Option (List qA):= bif room a1.length 16 then some a1 else none
def PB (a1:Int):Option Bool:= some (a1 !=a1)
def QT (a1:Int) (a2:Int):Option Int:= (PB a1).bind λv3=> (PB a2).bind λv5=> bif v3 then bif v5 then some 0 else some (-1) else bif v5 then some 1 else bif decide (a1<a2) then some (-1) else bif decide (a1>a2) then some 1 else some 0
def ZV (a1:List Int):Nat->Int->Option (Int⊕Unit)
 |0,_=>none
 |n+1,x2=> bif decide (x2<(a1.length:Int)) then bif inb x2 a1.length then bif (a1.getD x2.toNat dd) !=0 then some (Sum.inl (a1.getD x2.toNat dd)) else (ZV a1 n) (w64 (x2+1)) else none else some (Sum.inr ())
def VM (a1:List Int):Option Int:= (ZV a1 FUEL 0).bind λu8=>Sum.elim (λv9=>some v9) (λo6=> some 0) u8
def poly_Hull_1 (a1:qA) (a2:qA):Option Int:= (QT a1.X a2.X).bind λv3=> (QT a1.Y a2.Y).bind λv5=> (VM [v3,v5]).bind λv7=> some v7
def jG (a1:List qA):Option (List qA):= bif qCR a1.length then some (PE poly_Hull_1 a1) else none
def jZ (x12:Int) (R:(List qA)->Int->Int->Option ((List qA)×Int)) (l19:List qA) (x20:Int):Option ((List qA)×Int):= R l19 x20 (w64 (x12+1))
def zS (l3:List qA) (x4:Int):Nat->(List qA)->Int->Int->Option ((List qA)×Int)
 |0,_,_,_=>none
 |n+1,l10,x11,x12=> bif decide (x12<(((l3.length-x4.toNat):Nat):Int)) then bif inb x12 (l3.length-x4.toNat) then bif Nat.ble (x4.toNat+(l3.length-x4.toNat)) l10.length then bif inb (w64 (x12-1)) (l3.length-x4.toNat) then bif !((((l10.getD (x4.toNat+x12.toNat) dd).X)==((l10.getD (x4.toNat+((w64 (x12-1)).toNat)) dd).X))&&((((l10.getD (x4.toNat+x12.toNat) dd).Y)==((l10.getD (x4.toNat+((w64 (x12-1)).toNat)) dd).Y))&&true)) then bif inb x11 l10.length then jZ x12 (zS l3 x4 n) (l10.set x11.toNat (l10.getD (x4.toNat+x12.toNat) dd)) (w64 (x11+1)) else none else jZ x12 (zS l3 x4 n) l10 x11 else none else none else none else some (l10,x11)
def wD :Nat->(List qA)->Int->Option (((List qA)×(List qA))⊕(List qA))
 |0,_,_=>none
 |n+1,l3,x4=> bif decide (x4<(l3.length:Int)) then bif inb x4 l3.length then bif inb (w64 (x4-1)) l3.length then bif ((((l3.getD x4.toNat dd).X)==((l3.getD ((w64 (x4-1)).toNat) dd).X))&&((((l3.getD x4.toNat dd).Y)==((l3.getD ((w64 (x4-1)).toNat) dd).Y))&&true)) then bif slOk x4 (l3.length:Int) l3.length then (zS l3 x4 FUEL l3 x4 1).bind λo23=> bif slOk o23.2 (o23.1.length:Int) o23.1.length then bif slOk 0 o23.2 o23.1.length then some (Sum.inl ((o23.1.take o23.2.toNat),(o23.1.take o23.2.toNat))) else none else none else none else (wD n) l3 (w64 (x4+1)) else none else none else some (Sum.inr l3)
def wT (a1:List qA):Option ((List qA)×(List qA)):= bif decide ((a1.length:Int)<2) then some (a1,a1) else (wD FUEL a1 1).bind λu30=>Sum.elim (λv31=>some v31) (λo28=> some (o28,o28)) u30
def XV (a1:qA) (a2:qA) (a3:qA):Option Int:= some (w64 ((w64 ((w64 (a2.X-a1.X))*(w64 (a3.Y-a1.Y))))-(w64 ((w64 (a3.X-a1.X))*(w64 (a2.Y-a1.Y))))))
def GN (l6:List qA) (R:(List qA)->Option (List qA)) (x12:Bool):Option (List qA):= bif x12 then bif slOk 0 (w64 ((l6.length:Int)-1)) l6.length then R (l6.take ((w64 ((l6.length:Int)-1)).toNat)) else none else some l6
def QY (a1:List qA) (x3:Int):Nat->(List qA)->Option (List qA)
 |0,_=>none
 |n+1,l6=> bif decide ((l6.length:Int)≥2) then bif inb (w64 ((l6.length:Int)-2)) l6.length then bif inb (w64 ((l6.length:Int)-1)) l6.length then (XV (l6.getD ((w64 ((l6.length:Int)-2)).toNat) dd) (l6.getD ((w64 ((l6.length:Int)-1)).toNat) dd) (a1.getD x3.toNat dd)).bind λv10=> GN l6 (QY a1 x3 n) (decide (v10<=0)) else none else none else GN l6 (QY a1 x3 n) false
def KR (a1:List qA):Nat->(List qA)->Int->Option (List qA)
 |0,_,_=>none
 |n+1,l2,x3=> bif decide (x3<(a1.length:Int)) then bif inb x3 a1.length then (QY a1 x3 FUEL l2).bind λo16=> bif room (o16.length+1) 16 then (KR a1 n) (o16++[(a1.getD x3.toNat dd)]) (w64 (x3+1)) else none else none else some l2
def US (a1:List qA):Option (List qA):= (KR a1 FUEL [] 0).bind λo20=> bif slOk 0 (w64 ((o20.length:Int)-1)) o20.length then some (o20.take ((w64 ((o20.length:Int)-1)).toNat)) else none
def wW :Nat->(List qA)->Int->Int->Option (List qA)
 |0,_,_,_=>none
 |n+1,l2,x3,x4=> bif decide (x3<x4) then bif inb x4 l2.length then bif inb x3 l2.length then (wW n) ((l2.set x3.toNat (l2.getD x4.toNat dd)).set x4.toNat (l2.getD x3.toNat dd)) (w64 (x3+1)) (w64 (x4-1)) else none else none else some l2
def jO (a1:List qA):Option (List qA):= (wW FUEL a1 0 (w64 ((a1.length:Int)-1))).bind λo9=> some o9
def RZ (a1:List qA) (x6:Bool):Option (List qA):= bif x6 then some ([]:List qA) else (yY a1).bind λv8=> (jG v8).bind λv10=> bif v10.length==v8.length then (wT v10).bind λv13=> (US v13.2).bind λv15=> (jO v13.2).bind λv17=> bif v17.length==v13.2.length then (US v17).bind λv20=> bif room (v15.length+v20.length) 16 then bif decide ((((v15.length+v20.length):Nat):Int)<3) then some ([]:List qA) else some (v15++v20) else none else none else none
def DT (a1:List qA):Option (List qA):= bif decide ((a1.length:Int)<3) then RZ a1 true else bif decide ((a1.length:Int)>32) then RZ a1 true else (WD a1).bind λv4=> RZ a1 (!v4)
def XE (a1:List qA):Nat->Int->Rect->Option Rect
 |0,_,_=>none
 |n+1,x4,x5=> bif decide (x4<(a1.length:Int)) then bif inb x4 a1.length then (XE a1 n) (w64 (x4+1)) (Rect.mk (Span.mk (imin x5.X.A ((a1.getD x4.toNat dd).X)) (imax x5.X.B ((a1.getD x4.toNat dd).X))) (Span.mk (imin x5.Y.A ((a1.getD x4.toNat dd).Y)) (imax x5.Y.B ((a1.getD x4.toNat dd).Y)))) else none else some x5
def VZ (a1:List qA):Option Rect:= bif (a1.length:Int)==0 then some (Rect.mk (Span.mk 0 0) (Span.mk 0 0)) else bif inb 0 a1.length then (XE a1 FUEL 0 (Rect.mk (Span.mk ((a1.getD (0:Int).toNat dd).X) ((a1.getD (0:Int).toNat dd).X)) (Span.mk ((a1.getD (0:Int).toNat dd).Y) ((a1.getD (0:Int).toNat dd).Y)))).bind λo9=> some o9 else none
def GG (x5:Int):Option Int:= some x5
def TZ (a1:Int) (a2:Int):Option Int:= bif nz a2 then bif decide ((Int.tmod a1 a2)<0) then GG (w64 ((w64 (Int.tdiv a1 a2))-1)) else GG (w64 (Int.tdiv a1 a2)) else none
def JO (x6:Int) (R:Int->Int->Int->Option (Int×Int)) (x23:Int) (x24:Int):Option (Int×Int):= R x23 x24 (w64 (x6+1))
def JI (a1:Int) (a3:List qA) (x4:Int) (x5:Int) (x6:Int) (R:Int->Int->Int->Option (Int×Int)) (x19:Bool):Option (Int×Int):= bif x19 then (TZ (w64 ((w64 (((a3.getD ((Int.tmod (w64 (x6+1)) (a3.length:Int)).toNat) dd).X)-((a3.getD x6.toNat dd).X)))*(w64 (a1-((a3.getD ((Int.tmod (w64 (x6+1)) (a3.length:Int)).toNat) dd).Y))))) (w64 (((a3.getD x6.toNat dd).Y)-((a3.getD ((Int.tmod (w64 (x6+1)) (a3.length:Int)).toNat) dd).Y)))).bind λv21=> JO x6 R (w64 (((a3.getD ((Int.tmod (w64 (x6+1)) (a3.length:Int)).toNat) dd).X)-v21)) x5 else JO x6 R x4 x5
def JG (a1:Int) (a3:List qA) (x4:Int) (x5:Int) (x6:Int) (R:Int->Int->Int->Option (Int×Int)) (x13:Bool):Option (Int×Int):= bif x13 then (TZ (w64 ((w64 (((a3.getD ((Int.tmod (w64 (x6+1)) (a3.length:Int)).toNat) dd).X)-((a3.getD x6.toNat dd).X)))*(w64 (a1-((a3.getD x6.toNat dd).Y))))) (w64 (((a3.getD ((Int.tmod (w64 (x6+1)) (a3.length:Int)).toNat) dd).Y)-((a3.getD x6.toNat dd).Y)))).bind λv15=> JO x6 R x4 (w64 (((a3.getD x6.toNat dd).X)+v15)) else bif decide (((a3.getD x6.toNat dd).Y)>((a3.getD ((Int.tmod (w64 (x6+1)) (a3.length:Int)).toNat) dd).Y)) then bif decide (((a3.getD ((Int.tmod (w64 (x6+1)) (a3.length:Int)).toNat) dd).Y)<=a1) then JI a1 a3 x4 x5 x6 R (decide (a1<=((a3.getD x6.toNat dd).Y)))
 else JI a1 a3 x4 x5 x6 R false else JI a1 a3 x4 x5 x6 R false
def zX (a1:Int) (a3:List qA):Nat->Int->Int->Int->Option (Int×Int)
 |0,_,_,_=>none
 |n+1,x4,x5,x6=> bif decide (x6<(a3.length:Int)) then bif inb x6 a3.length then bif nz (a3.length:Int) then bif inb (Int.tmod (w64 (x6+1)) (a3.length:Int)) a3.length then bif decide (((a3.getD x6.toNat dd).Y)<((a3.getD ((Int.tmod (w64 (x6+1)) (a3.length:Int)).toNat) dd).Y)) then bif decide (((a3.getD x6.toNat dd).Y)<=a1) then JG a1 a3 x4 x5 x6 (zX a1 a3 n) (decide (a1<=((a3.getD ((Int.tmod (w64 (x6+1)) (a3.length:Int)).toNat) dd).Y))) else JG a1 a3 x4 x5 x6 (zX a1 a3 n) false else JG a1 a3 x4 x5 x6 (zX a1 a3 n) false else none else none else none else some (x4,x5)
def YP (a1:Int) (a2:Rect) (a3:List qA):Option (Int×Int):= (zX a1 a3 FUEL a2.X.A a2.X.B 0).bind λo27=> some (o27.1,o27.2)
def WY (a2:Int) (a3:Int) (v4:(List qA)) (v6:Rect) (x11:Bool):Option Span:= bif x11 then some (Span.mk 0 0) else (YP a2 v6 v4).bind λv13=> (YP a3 v6 v4).bind λv15=> bif decide ((imax v13.1 v15.1)≥(imin v13.2 v15.2)) then some (Span.mk 0 0) else some (Span.mk (imax v13.1 v15.1) (imin v13.2 v15.2))
def BY (a1:List qA) (a2:Int) (a3:Int):Option Span:= (DT a1).bind λv4=> (VZ v4).bind λv6=> bif (v4.length:Int)==0 then WY a2 a3 v4 v6 true else bif decide (a2≥a3) then WY a2 a3 v4 v6 true else bif decide (a2<v6.Y.A) then WY a2 a3 v4 v6 true else WY a2 a3 v4 v6 (decide (a3>v6.Y.B))
def RM (a1:Int) (a2:List qA):Option Span:= (RG a1 (w64 (a1+1))).bind λv3=> (BY a2 v3.A v3.B).bind λv5=> some v5
def jE (a1:Span):Option Bool:= some (decide (a1.A≥a1.B))
def WE (x3:Int) (R:Int->Int->Int->(List Span)->Option (Int×Int×(List Span))) (x17:Int) (x18:Int) (l19:List Span):Option (Int×Int×(List Span)):= R x17 (w64 (x3+1)) x18 l19
def KF (x3:Int) (l5:List Span) (R:Int->Int->Int->(List Span)->Option (Int×Int×(List Span))) (v7:Span) (x13:Int):Option (Int×Int×(List Span)):= bif room (l5.length+1) 16 then WE x3 R (((l5.length+1):Nat):Int) x13 (l5++[v7]) else none
def zT (a1:List qA):Nat->Int->Int->Int->(List Span)->Option (Int×Int×(List Span))
 |0,_,_,_,_=>none
 |n+1,x2,x3,x4,l5=> bif decide (x3<60) then (RM x3 a1).bind λv7=> (jE v7).bind λv9=> bif !v9 then bif x2==0 then KF x3 l5 (zT a1 n) v7 x3 else KF x3 l5 (zT a1 n) v7 x4 else bif decide (x2>0) then bif room (l5.length+1) 16 then WE x3 (zT a1 n) x2 x4 (l5++[(Span.mk 0 0)]) else none else WE x3 (zT a1 n) x2 x4 l5 else some (x2,x4,l5)
def PA (a1:List qA):Option qC:= (zT a1 FUEL 0 (-60) 0 []).bind λo23=> bif slOk 0 o23.1 o23.2.2.length then some (qC.mk o23.2.1 (o23.2.2.take o23.1.toNat)) else none
def BV (a1:List qA):Option (qC×Int):= (TU a1).bind λv2=> bif v2 !=0 then some ((qC.mk 0 []),v2) else (PA a1).bind λv5=> bif (v5.Rows.length:Int)==0 then some ((qC.mk 0 []),18) else some ((qC.mk v5.Low v5.Rows),0)
def YY (a1:Ring) (a2:Int) (a3:Int):Option (qC×Int):= (FB a1 a2).bind λv4=> (VV (Ring.mk v4.Z v4.Read) a3).bind λv6=> bif v6.2 !=0 then some ((qC.mk 0 []),v6.2) else (BV v6.1).bind λv9=> some ((qC.mk v9.1.Low v9.1.Rows),v9.2)
def JH (x3:Bool):Option Bool:= some x3
def JK (a1:Span):Option Bool:= bif decide ((imin a1.A a1.B)≥(-600)) then JH (decide ((imax a1.A a1.B)<=600)) else JH false
def jM (a1:qC):Nat->Int->Option (Int⊕Unit)
 |0,_=>none
 |n+1,x6=> bif decide (x6<(a1.Rows.length:Int)) then bif inb x6 a1.Rows.length then (JK (a1.Rows.getD x6.toNat dd)).bind λv9=> bif !v9 then some (Sum.inl 9) else (jM a1 n) (w64 (x6+1)) else none else some (Sum.inr ())
def XX (x27:Int) (R:Int->Option (Int⊕Unit)) (x33:Bool):Option (Int⊕Unit):= bif x33 then some (Sum.inl 19) else R (w64 (x27+1))
def wJ (a1:qC):Nat->Int->Option (Int⊕Unit)
 |0,_=>none
 |n+1,x27=> bif decide (x27<(a1.Rows.length:Int)) then bif inb x27 a1.Rows.length then (jE (a1.Rows.getD x27.toNat dd)).bind λv30=> bif v30 then XX x27 (wJ a1 n) (!((((a1.Rows.getD x27.toNat dd).A)==0)&&((((a1.Rows.getD x27.toNat dd).B)==0)&&true))) else XX x27 (wJ a1 n) false else none else some (Sum.inr ())
def XW (a1:qC) (x25:Bool):Option Int:= bif x25 then some 19 else (wJ a1 FUEL 0).bind λu37=>Sum.elim (λv38=>some v38) (λo35=> some 0) u37
def KB (a1:qC) (x4:Bool):Option Int:= bif x4 then some 9 else (jM a1 FUEL 0).bind λu14=>Sum.elim (λv15=>some v15) (λo12=> bif (a1.Rows.length:Int)==0 then bif a1.Low !=0 then some 19 else some 0 else bif inb 0 a1.Rows.length then (jE (a1.Rows.getD (0:Int).toNat dd)).bind λv19=> bif v19 then XW a1 true else bif inb (w64 ((a1.Rows.length:Int)-1)) a1.Rows.length then (jE (a1.Rows.getD (w64 ((a1.Rows.length:Int)-1)).toNat dd)).bind λv23=> XW a1 v23 else none else none) u14
def WU (a1:qC):Option Int:= bif decide ((a1.Rows.length:Int)>120) then some 4 else bif decide (a1.Low<(-60)) then KB a1 true else KB a1 (decide (a1.Low>(w64 (60-(a1.Rows.length:Int)))))
def QZ (a1:qC):Option qC:= (WU a1).bind λv2=> bif v2 !=0 then some (qC.mk 0 []) else some a1
def GP (a1:qC) (a2:Int) (x4:Bool):Option Span:= bif x4 then some (Span.mk 0 0) else bif inb (w64 (a2-a1.Low)) a1.Rows.length then some (a1.Rows.getD (w64 (a2-a1.Low)).toNat dd) else none
def UR (a1:qC) (a2:Int):Option Span:= bif decide (a2<a1.Low) then GP a1 a2 true else GP a1 a2 (decide (a2≥(w64 (a1.Low+(a1.Rows.length:Int)))))
def SI (a1:Span) (a2:Span):Option Span:= bif decide ((imax a1.A a2.A)≥(imin a1.B a2.B)) then some (Span.mk 0 0) else some (Span.mk (imax a1.A a2.A) (imin a1.B a2.B))
def YV (a1:Int) (a2:qC) (a3:qC):Option Span:= (UR a2 a1).bind λv4=> (UR a3 a1).bind λv6=> (SI v4 v6).bind λv8=> some v8
def yT (x4:Int) (R:Int->Int->Int->(List Span)->Option (Int×Int×(List Span))) (x18:Int) (x19:Int) (l20:List Span):Option (Int×Int×(List Span)):= R x18 (w64 (x4+1)) x19 l20
def WL (x4:Int) (l6:List Span) (R:Int->Int->Int->(List Span)->Option (Int×Int×(List Span))) (v8:Span) (x14:Int):Option (Int×Int×(List Span)):= bif room (l6.length+1) 16 then yT x4 R (((l6.length+1):Nat):Int) x14 (l6++[v8]) else none
def zK (a1:qC) (a2:qC):Nat->Int->Int->Int->(List Span)->Option (Int×Int×(List Span))
 |0,_,_,_,_=>none
 |n+1,x3,x4,x5,l6=> bif decide (x4<60) then (YV x4 a1 a2).bind λv8=> (jE v8).bind λv10=> bif !v10 then bif x3==0 then WL x4 l6 (zK a1 a2 n) v8 x4 else WL x4 l6 (zK a1 a2 n) v8 x5 else bif decide (x3>0) then bif room (l6.length+1) 16 then yT x4 (zK a1 a2 n) x3 x5 (l6++[(Span.mk 0 0)]) else none else yT x4 (zK a1 a2 n) x3 x5 l6 else some (x3,x5,l6)
def WI (a1:qC) (a2:qC):Option qC:= (zK a1 a2 FUEL 0 (-60) 0 []).bind λo24=> bif slOk 0 o24.1 o24.2.2.length then some (qC.mk o24.2.1 (o24.2.2.take o24.1.toNat)) else none
def YZ (a1:qC) (a2:qC):Option qC:= (QZ a1).bind λv3=> (QZ a2).bind λv5=> (WI v3 v5).bind λv7=> some (qC.mk v7.Low v7.Rows)
def JC (a1:Scan) (a2:Int) (a3:Int):Nat->(List qC)->Int->Option (((List qS)×Int)⊕(List qC))
 |0,_,_=>none
 |n+1,l8,x9=> bif decide (x9<(a1.Rings.length:Int)) then bif inb x9 a1.Rings.length then (YY (a1.Rings.getD x9.toNat dd) a2 a3).bind λv12=> bif v12.2 !=0 then some (Sum.inl ([],30)) else bif inb x9 l8.length then (JC a1 a2 a3 n) (l8.set x9.toNat v12.1) (w64 (x9+1)) else none else none else some (Sum.inr l8)
def WX (a1:Scan) (o17:(List qC)):Nat->(List qS)->Int->Option (((List qS)×Int)⊕(List qS))
 |0,_,_=>none
 |n+1,l22,x23=> bif decide (x23<(((w64 ((a1.Rings.length:Int)-1)).toNat:Nat):Int)) then bif inb x23 o17.length then bif inb (w64 (x23+1)) o17.length then (YZ (o17.getD x23.toNat dd) (o17.getD ((w64 (x23+1)).toNat) dd)).bind λv27=> bif (v27.Rows.length:Int)==0 then some (Sum.inl ([],30)) else bif inb (w64 (x23+1)) a1.Rings.length then bif inb x23 a1.Rings.length then bif inb x23 l22.length then (WX a1 o17 n) (l22.set x23.toNat (qS.mk (w64 (((a1.Rings.getD (w64 (x23+1)).toNat dd).Z)-((a1.Rings.getD x23.toNat dd).Z))) v27)) (w64 (x23+1)) else none else none else none else none else none else some (Sum.inr l22)
def QK (a1:Scan) (a2:Int) (a3:Int):Option ((List qS)×Int):= (QL a1).bind λv4=> bif v4 !=0 then some ([],v4) else bif mkOk (a1.Rings.length:Int) 32 then (JC a1 a2 a3 FUEL (List.replicate ((a1.Rings.length:Int).toNat) (qC.mk 0 [])) 0).bind λu19=>Sum.elim (λv20=>some v20) (λo17=> bif mkOk (w64 ((a1.Rings.length:Int)-1)) 40 then (WX a1 o17 FUEL (List.replicate ((w64 ((a1.Rings.length:Int)-1)).toNat) (qS.mk 0 (qC.mk 0 []))) 0).bind λu39=>Sum.elim (λv40=>some v40) (λo37=> some (o37,0)) u39 else none) u19 else none
def KK (x3:Int) (R:(List Int)->Int->Option (List Int)) (l9:List Int):Option (List Int):= R l9 (w64 (x3+1))
def yE (a1:List qD):Nat->(List Int)->Int->Option (List Int)
 |0,_,_=>none
 |n+1,l2,x3=> bif decide (x3<(a1.length:Int)) then bif inb x3 a1.length then bif (a1.getD x3.toNat dd).Ok then bif room (l2.length+3) 8 then KK x3 (yE a1 n) (l2++[1,((a1.getD x3.toNat dd).P).X,((a1.getD x3.toNat dd).P).Y]) else none else bif room (l2.length+1) 8 then KK x3 (yE a1 n) (l2++[0]) else none else none else some l2
def VG (a1:List qD):Option (List Int):= (yE a1 FUEL [] 0).bind λo11=> some o11
def OM :Nat->Int->(List Int)->Option (Int×(List Int))
 |0,_,_=>none
 |n+1,x2,l3=> bif decide (x2≥128) then bif room (l3.length+1) 1 then (OM n) (shrI .u64 x2 7) (l3++[orI .u8 (IntKind.u8.wrap (x2)) 128]) else none else some (x2,l3)
def DV (a1:Int):Option ByteArray:= (OM FUEL a1 []).bind λo8=> bif room (o8.2.length+1) 1 then some (strTk (o8.2.length+1) (o8.2++[IntKind.u8.wrap (o8.1)])) else none
def OG (a1:Int):Option ByteArray:= bif decide (a1<0) then (DV (orI .u64 (shlI .u64 (notI .u64 (IntKind.u64.wrap (a1))) 1) 1)).bind λv3=> some v3 else (DV (shlI .u64 (IntKind.u64.wrap (a1)) 1)).bind λv5=> some v5
def qAc (a1:List Int):Option ByteArray:=intsM DV OG a1
def PT (a1:List qL):Nat->(List Int)->Int->Option (List Int)
 |0,_,_=>none
 |n+1,l2,x3=> bif decide (x3<(a1.length:Int)) then bif inb x3 a1.length then bif room (l2.length+7) 8 then (PT a1 n) (l2++[(a1.getD x3.toNat dd).Kind,(((a1.getD x3.toNat dd).Box).X).A,(((a1.getD x3.toNat dd).Box).X).B,(((a1.getD x3.toNat dd).Box).Y).A,(((a1.getD x3.toNat dd).Box).Y).B,(((a1.getD x3.toNat dd).Box).Z).A,(((a1.getD x3.toNat dd).Box).Z).B]) (w64 (x3+1)) else none else none else some l2
def DF (a1:List qL):Option (List Int):= (PT a1 FUEL [] 0).bind λo8=> some o8
def LM (a1:Scan):Nat->(List Int)->ByteArray->Int->Option ((List Int)×ByteArray)
 |0,_,_,_=>none
 |n+1,l5,x6,x7=> bif decide (x7<(a1.Rings.length:Int)) then bif inb x7 a1.Rings.length then bif room (l5.length+1) 8 then (VG ((a1.Rings.getD x7.toNat dd).Read)).bind λv11=> (qAc v11).bind λv13=> bif qDV x6 v13 then (LM a1 n) (l5++[(a1.Rings.getD x7.toNat dd).Z]) (x6++v13) (w64 (x7+1)) else none else none else none else some (l5,x6)
def PM (a1:Scan):Option (ByteArray×Int):= (QL a1).bind λv2=> bif v2 !=0 then some ((ByteArray.mk #[]),v2) else (LM a1 FUEL [] (ByteArray.mk #[]) 0).bind λo18=> (qAc o18.1).bind λv20=> bif qDV v20 o18.2 then (DF a1.Defects).bind λv23=> (qAc v23).bind λv25=> bif qDV (v20++o18.2) v25 then some ((v20++o18.2)++v25,0) else none else none
def LN (a1:ByteArray):Option qF:= some (qF.mk a1 0 0)
def PR (a1:qF):Option Bool:= some (a1.e !=0)
def XI (a1:Int) (a2:qF) (x3:Int) (x4:Int) (x13:Bool):Option ((Int×Int×Int)⊕Unit):= bif x13 then some (Sum.inl (0,0,5)) else some (Sum.inl (orI .u64 x3 (shlI .u64 (IntKind.u64.wrap (andI .u8 (WO a2.s ((w64 (a1+x4)).toNat)) 127)) (w64 (7*x4))),w64 ((w64 (a1+x4))+1),0))
def YO (a1:Int) (a2:qF) (x3:Int) (x4:Int) (R:Int->Int->Option ((Int×Int×Int)⊕Unit)) (x8:Bool):Option ((Int×Int×Int)⊕Unit):= bif x8 then some (Sum.inl (0,0,5)) else bif nneg (w64 (7*x4)) then bif decide ((WO a2.s ((w64 (a1+x4)).toNat))≥128) then R (orI .u64 x3 (shlI .u64 (IntKind.u64.wrap (andI .u8 (WO a2.s ((w64 (a1+x4)).toNat)) 127)) (w64 (7*x4)))) (w64 (x4+1)) else bif (WO a2.s ((w64 (a1+x4)).toNat))==0 then XI a1 a2 x3 x4 (decide (x4>0)) else XI a1 a2 x3 x4 false else none
def jN (a1:Int) (a2:qF):Nat->Int->Int->Option ((Int×Int×Int)⊕Unit)
 |0,_,_=>none
 |n+1,x3,x4=> bif decide ((w64 (a1+x4))≥(a2.s.size:Int)) then some (Sum.inl (0,0,3)) else bif inb (w64 (a1+x4)) a2.s.size then bif x4==9 then YO a1 a2 x3 x4 (jN a1 a2 n) (decide ((WO a2.s ((w64 (a1+x4)).toNat))>1)) else YO a1 a2 x3 x4 (jN a1 a2 n) false else none
def JP (a1:Int) (a2:qF):Option (Int×Int×Int):= (jN a1 a2 FUEL 0 0).bind λu17=>Sum.elim (λv18=>some v18) (λo15=> none) u17
def YF (v4:Int×Int×Int) (x8:Bool):Option (Int×Int×Int):= bif x8 then some (0,0,4) else some (v4.1,v4.2.1,0)
def PQ (a1:Int) (a2:Int) (a3:qF):Option (Int×Int×Int):= (JP a1 a3).bind λv4=> bif v4.2.2 !=0 then some (0,0,v4.2.2) else bif decide (a2<0) then YF v4 true else YF v4 (decide (v4.1>(IntKind.u64.wrap (a2))))
def XN (v5:Int×Int×Int) (x9:Int) (x11:Bool):Option (Int×Int×Int):= bif x11 then some (0,0,9) else some (x9,v5.2.1,0)
def YT (a2:Int) (a3:Int) (v5:Int×Int×Int) (x9:Int):Option (Int×Int×Int):= bif decide (x9<a2) then XN v5 x9 true else XN v5 x9 (decide (x9>a3))
def TJ (a1:Int) (a2:Int) (a3:Int) (a4:qF):Option (Int×Int×Int):= (JP a1 a4).bind λv5=> bif v5.2.2 !=0 then some (0,0,v5.2.2) else bif (andI .u64 v5.1 1)==1 then YT a2 a3 v5 (notI .i64 (w64 (shrI .u64 v5.1 1))) else YT a2 a3 v5 (w64 (shrI .u64 v5.1 1))
def DB (a1:Int) (a2:Int) (a3:qF):Option (Int×Int):= bif a2 !=0 then some (a3.at_,a2) else some (a1,a3.e)
def PS (a2:Int) (a3:Int) (a4:qF) (x10:Int) (x11:Int) (l12:List Int) (x13:Int) (R:Int->Int->(List Int)->Int->Option (Int×Int×(List Int))) (x15:Bool):Option (Int×Int×(List Int)):= bif x15 then (TJ x10 a2 a3 a4).bind λv17=> bif room (l12.length+1) 8 then R v17.2.1 v17.2.2 (l12++[v17.1]) (IntKind.u64.wrap (x13+1)) else none else some (x10,x11,l12)
def yW (a2:Int) (a3:Int) (a4:qF) (v8:Int×Int×Int):Nat->Int->Int->(List Int)->Int->Option (Int×Int×(List Int))
 |0,_,_,_,_=>none
 |n+1,x10,x11,l12,x13=> bif decide (x13<v8.1) then PS a2 a3 a4 x10 x11 l12 x13 (yW a2 a3 a4 v8 n) (x11==0) else PS a2 a3 a4 x10 x11 l12 x13 (yW a2 a3 a4 v8 n) false
def DK (a1:Int) (a2:Int) (a3:Int) (a4:qF):Option ((List Int)×Int×Int):= (PR a4).bind λv5=> bif v5 then some ([],a4.at_,a4.e) else (PQ a4.at_ a1 a4).bind λv8=> (yW a2 a3 a4 v8 FUEL v8.2.1 v8.2.2 [] 0).bind λo23=> (DB o23.1 o23.2.1 a4).bind λv25=> bif o23.2.1 !=0 then some ([],v25.1,v25.2) else some (o23.2.2,v25.1,v25.2)
def RQ (a1:Int) (a2:qF):Option ((List Int)×Int×Int):= (DK a1 (-1099511627776) 1099511627776 a2).bind λv3=> some (v3.1,v3.2.1,v3.2.2)
def RL (l2:List Int) (l3:List qD) (R:(List Int)->(List qD)->Option (((List qD)×Bool)⊕(List qD))) (x10:Bool):Option (((List qD)×Bool)⊕(List qD)):= bif x10 then bif inb 1 l2.length then bif inb 2 l2.length then bif room (l3.length+1) 24 then bif slOk 3 (l2.length:Int) l2.length then R (l2.drop ((3:Int).toNat)) (l3++[(qD.mk (qA.mk (l2.getD (1:Int).toNat dd) (l2.getD (2:Int).toNat dd)) true)]) else none else none else none else none else some (Sum.inl ([],false))
def jP :Nat->(List Int)->(List qD)->Option (((List qD)×Bool)⊕(List qD))
 |0,_,_=>none
 |n+1,l2,l3=> bif decide ((l2.length:Int)>0) then bif inb 0 l2.length then bif (l2.getD (0:Int).toNat dd)==0 then bif room (l3.length+1) 24 then bif slOk 1 (l2.length:Int) l2.length then (jP n) (l2.drop ((1:Int).toNat)) (l3++[(qD.mk (qA.mk 0 0) false)]) else none else none else bif (l2.getD (0:Int).toNat dd)==1 then RL l2 l3 (jP n) (decide ((l2.length:Int)≥3)) else RL l2 l3 (jP n) false else none else some (Sum.inr l3)
def NM (a1:List Int):Option ((List qD)×Bool):= (jP FUEL a1 []).bind λu19=>Sum.elim (λv20=>some v20) (λo17=> some (o17,true)) u19
def VA :Nat->(List Int)->(List qL)->Option (List qL)
 |0,_,_=>none
 |n+1,l3,l4=> bif decide ((l3.length:Int)>0) then bif inb 1 l3.length then bif inb 2 l3.length then bif inb 3 l3.length then bif inb 4 l3.length then bif inb 5 l3.length then bif inb 6 l3.length then bif inb 0 l3.length then bif room (l4.length+1) 56 then bif slOk 7 (l3.length:Int) l3.length then (VA n) (l3.drop ((7:Int).toNat)) (l4++[(qL.mk (l3.getD (0:Int).toNat dd) (Box.mk (Span.mk (l3.getD (1:Int).toNat dd) (l3.getD (2:Int).toNat dd)) (Span.mk (l3.getD (3:Int).toNat dd) (l3.getD (4:Int).toNat dd)) (Span.mk (l3.getD (5:Int).toNat dd) (l3.getD (6:Int).toNat dd))))]) else none else none else none else none else none else none else none else none else none else some l4
def LJ (a1:List Int):Option ((List qL)×Bool):= bif (Int.tmod (a1.length:Int) 7) !=0 then some ([],false) else (VA FUEL a1 []).bind λo16=> some (o16,true)
def BW (a1:qF):Option Int:= some a1.e
def GX (a1:qF):Option Int:= some (w64 ((a1.s.size:Int)-a1.at_))
def BR (a1:qF):Option Int:= (BW a1).bind λv2=> bif v2 !=0 then some v2 else (GX a1).bind λv5=> bif decide (v5>0) then some 4 else some 0
def ED (v2:qF) (v4:(List Int)×Int×Int):Nat->Int->(List Ring)->Int->Int->Option ((Scan×Bool)⊕((List Ring)×qF))
 |0,_,_,_,_=>none
 |n+1,x6,l7,x8,x9=> bif decide (x6<(v4.1.length:Int)) then bif inb x6 v4.1.length then (RQ 96 (qF.mk v2.s x8 x9)).bind λv12=> (NM v12.1).bind λv14=> bif !v14.2 then some (Sum.inl ((Scan.mk [] []),false)) else bif room (l7.length+1) 32 then (ED v2 v4 n) (w64 (x6+1)) (l7++[(Ring.mk (v4.1.getD x6.toNat dd) v14.1)]) v12.2.1 v12.2.2 else none else none else some (Sum.inr (l7,(qF.mk v2.s x8 x9)))
def EB (o20:(List Ring)×qF) (v26:(List qL)×Bool) (x31:Bool):Option (Scan×Bool):= bif x31 then some ((Scan.mk [] []),false) else some ((Scan.mk o20.1 v26.1),true)
def qBG (a1:ByteArray):Option (Scan×Bool):= (LN a1).bind λv2=> (RQ 24 v2).bind λv4=> (ED v2 v4 FUEL 0 [] v4.2.1 v4.2.2).bind λu22=>Sum.elim (λv23=>some v23) (λo20=> (RQ 448 o20.2).bind λv24=> (LJ v24.1).bind λv26=> bif !v26.2 then EB o20 v26 true else (BR (qF.mk o20.2.s v24.2.1 v24.2.2)).bind λv29=> EB o20 v26 (v29 !=0)) u22
def PG (a1:ByteArray):Option (Scan×Int):= (qBG a1).bind λv2=> bif !v2.2 then some ((Scan.mk [] []),5) else (QL (Scan.mk v2.1.Rings v2.1.Defects)).bind λv5=> bif v5 !=0 then some ((Scan.mk [] []),v5) else some ((Scan.mk v2.1.Rings v2.1.Defects),0)
def ZZ (a1:List qD) (a2:List qD):Nat->Int->Option (Bool⊕Unit)
 |0,_=>none
 |n+1,x4=> bif decide (x4<(a1.length:Int)) then bif inb x4 a1.length then bif inb x4 a2.length then bif !((((((a1.getD x4.toNat dd).P).X)==(((a2.getD x4.toNat dd).P).X))&&(((((a1.getD x4.toNat dd).P).Y)==(((a2.getD x4.toNat dd).P).Y))&&true))&&((((a1.getD x4.toNat dd).Ok)==((a2.getD x4.toNat dd).Ok))&&true)) then some (Sum.inl false) else (ZZ a1 a2 n) (w64 (x4+1)) else none else none else some (Sum.inr ())
def XJ (a1:List qD) (a2:List qD):Option Bool:= bif (a1.length:Int) !=(a2.length:Int) then some false else (ZZ a1 a2 FUEL 0).bind λu11=>Sum.elim (λv12=>some v12) (λo9=> some true) u11
def FL (x6:Bool):Option Bool:= some x6
def qAK (a1:Ring) (a2:Ring):Option Bool:= bif a1.Z==a2.Z then (XJ a1.Read a2.Read).bind λv4=> FL v4 else FL false
def ZM (a1:List Ring) (a2:List Ring):Nat->Int->Option (Bool⊕Unit)
 |0,_=>none
 |n+1,x4=> bif decide (x4<(a1.length:Int)) then bif inb x4 a1.length then bif inb x4 a2.length then (qAK (a1.getD x4.toNat dd) (a2.getD x4.toNat dd)).bind λv8=> bif !v8 then some (Sum.inl false) else (ZM a1 a2 n) (w64 (x4+1)) else none else none else some (Sum.inr ())
def YG (a1:List Ring) (a2:List Ring):Option Bool:= bif (a1.length:Int) !=(a2.length:Int) then some false else (ZM a1 a2 FUEL 0).bind λu13=>Sum.elim (λv14=>some v14) (λo11=> some true) u13
def WQ (a1:List qL) (a2:List qL):Nat->Int->Option (Bool⊕Unit)
 |0,_=>none
 |n+1,x4=> bif decide (x4<(a1.length:Int)) then bif inb x4 a1.length then bif inb x4 a2.length then bif !((((a1.getD x4.toNat dd).Kind)==((a2.getD x4.toNat dd).Kind))&&((((((((a1.getD x4.toNat dd).Box).X).A)==((((a2.getD x4.toNat dd).Box).X).A))&&((((((a1.getD x4.toNat dd).Box).X).B)==((((a2.getD x4.toNat dd).Box).X).B))&&true))&&(((((((a1.getD x4.toNat dd).Box).Y).A)==((((a2.getD x4.toNat dd).Box).Y).A))&&((((((a1.getD x4.toNat dd).Box).Y).B)==((((a2.getD x4.toNat dd).Box).Y).B))&&true))&&(((((((a1.getD x4.toNat dd).Box).Z).A)==((((a2.getD x4.toNat dd).Box).Z).A))&&((((((a1.getD x4.toNat dd).Box).Z).B)==((((a2.getD x4.toNat dd).Box).Z).B))&&true))&&true)))&&true)) then some (Sum.inl false) else
 (WQ a1 a2 n) (w64 (x4+1)) else none else none else some (Sum.inr ())
def KG (a1:List qL) (a2:List qL):Option Bool:= bif (a1.length:Int) !=(a2.length:Int) then some false else (WQ a1 a2 FUEL 0).bind λu11=>Sum.elim (λv12=>some v12) (λo9=> some true) u11
def AP (x8:Bool):Option Bool:= some x8
def SC (a1:Scan) (a2:Scan):Option Bool:= (YG a1.Rings a2.Rings).bind λv3=> bif v3 then (KG a1.Defects a2.Defects).bind λv6=> AP v6 else AP false
def UA (a1:List qS) (x4:Int) (x5:Int) (R:Int->Int->Option (Int⊕Unit)) (x13:Bool):Option (Int⊕Unit):= bif x13 then some (Sum.inl 9) else R (w64 (x4+((a1.getD x5.toNat dd).Len))) (w64 (x5+1))
def wF (a1:List qS):Nat->Int->Int->Option (Int⊕Unit)
 |0,_,_=>none
 |n+1,x4,x5=> bif decide (x5<(a1.length:Int)) then bif inb x5 a1.length then (WU ((a1.getD x5.toNat dd).Sec)).bind λv8=> bif v8 !=0 then some (Sum.inl v8) else bif (((((a1.getD x5.toNat dd).Sec).Rows).length:Nat):Int)==0 then some (Sum.inl 18) else bif decide (((a1.getD x5.toNat dd).Len)<1) then UA a1 x4 x5 (wF a1 n) true else UA a1 x4 x5 (wF a1 n) (decide (((a1.getD x5.toNat dd).Len)>(w64 (20000-x4)))) else none else some (Sum.inr ())
def YC (a1:List qS):Option Int:= bif (a1.length:Int)==0 then some 3 else bif decide ((a1.length:Int)>24) then some 4 else (wF a1 FUEL 0 0).bind λu17=>Sum.elim (λv18=>some v18) (λo15=> some 0) u17
def VU (a1:List qS):Option (List qS):= (YC a1).bind λv2=> bif v2 !=0 then some ([]:List qS) else some a1
def qC6 (a1:Span):Option Int:= bif decide (a1.A≥a1.B) then some 0 else some (IntKind.u64.wrap ((IntKind.u64.wrap (a1.B))-(IntKind.u64.wrap (a1.A))))
def IK (a1:Int):Option Int:= some (w64 (imin a1 9223372036854775807))
def qFj (a1:Span):Option Int:= (qC6 a1).bind λv2=> (IK v2).bind λv4=> some v4
def FA (v2:qC):Nat->Int->Int->Option Int
 |0,_,_=>none
 |n+1,x4,x5=> bif decide (x5<(v2.Rows.length:Int)) then bif inb x5 v2.Rows.length then (qFj (v2.Rows.getD x5.toNat dd)).bind λv8=> (FA v2 n) (w64 (x4+v8)) (w64 (x5+1)) else none else some x4
def AY (a1:qC):Option Int:= (QZ a1).bind λv2=> (FA v2 FUEL 0 0).bind λo11=> some (w64 (10*o11))
def NJ (v2:(List qS)):Nat->Int->Int->Option Int
 |0,_,_=>none
 |n+1,x4,x5=> bif decide (x5<(v2.length:Int)) then bif inb x5 v2.length then (AY ((v2.getD x5.toNat dd).Sec)).bind λv8=> (NJ v2 n) (w64 (x4+(w64 (((v2.getD x5.toNat dd).Len)*v8)))) (w64 (x5+1)) else none else some x4
def NR (a1:List qS):Option Int:= (VU a1).bind λv2=> (NJ v2 FUEL 0 0).bind λo11=> some o11 @[irreducible] def law15_awake :Option Bool:=some true
def QV (x2:Int) (R:Int->Option (Bool⊕Unit)) (x8:Bool):Option (Bool⊕Unit):= bif x8 then some (Sum.inl false) else R (w64 (x2+1))
def wH (a1:List qA):Nat->Int->Option (Bool⊕Unit)
 |0,_=>none
 |n+1,x2=> bif decide (x2<(a1.length:Int)) then bif inb x2 a1.length then bif decide (((a1.getD x2.toNat dd).X)<(-600)) then QV x2 (wH a1 n) true else bif decide (((a1.getD x2.toNat dd).X)>600) then QV x2 (wH a1 n) true else bif decide (((a1.getD x2.toNat dd).Y)<(-600)) then QV x2 (wH a1 n) true else QV x2 (wH a1 n) (decide (((a1.getD x2.toNat dd).Y)>600)) else none else some (Sum.inr ())
def yI (a1:List qA):Option Bool:= (wH a1 FUEL 0).bind λu12=>Sum.elim (λv13=>some v13) (λo10=> some true) u12
def MF (x7:Int) (R:Int->Option (Int⊕Unit)) (x16:Bool):Option (Int⊕Unit):= bif x16 then some (Sum.inl 19) else R (w64 (x7+1))
def LL (a1:Ring) (x7:Int) (R:Int->Option (Int⊕Unit)) (x13:Bool):Option (Int⊕Unit):= bif x13 then some (Sum.inl 9) else bif !((a1.Read.getD x7.toNat dd).Ok) then MF x7 R (!(((((a1.Read.getD x7.toNat dd).P).X)==0)&&(((((a1.Read.getD x7.toNat dd).P).Y)==0)&&true))) else MF x7 R false
def ZU (a1:Ring):Nat->Int->Option (Int⊕Unit)
 |0,_=>none
 |n+1,x7=> bif decide (x7<(a1.Read.length:Int)) then bif inb x7 a1.Read.length then bif (a1.Read.getD x7.toNat dd).Ok then (yI [(a1.Read.getD x7.toNat dd).P]).bind λv11=> LL a1 x7 (ZU a1 n) (!v11) else LL a1 x7 (ZU a1 n) false else none else some (Sum.inr ())
def LE (a1:Ring) (x5:Bool):Option Int:= bif x5 then some 9 else (ZU a1 FUEL 0).bind λu20=>Sum.elim (λv21=>some v21) (λo18=> some 0) u20
def MJ (a1:Ring):Option Int:= bif decide ((a1.Read.length:Int)<8) then some 3 else bif decide ((a1.Read.length:Int)>32) then some 4 else bif decide (a1.Z<0) then LE a1 true else LE a1 (decide (a1.Z>20000))
def EG (x8:Int) (R:Int->Option Int) (x12:Bool):Option Int:= bif x12 then R (w64 (x8+1)) else some x8
def jA (a1:Ring) (x4:Int):Nat->Int->Option Int
 |0,_=>none
 |n+1,x8=> bif decide (x8<(a1.Read.length:Int)) then bif nz (a1.Read.length:Int) then bif inb (Int.tmod (w64 (x4+x8)) (a1.Read.length:Int)) a1.Read.length then EG x8 (jA a1 x4 n) (!((a1.Read.getD (Int.tmod (w64 (x4+x8)) (a1.Read.length:Int)).toNat dd).Ok)) else none else none else EG x8 (jA a1 x4 n) false
def EC (x4:Int) (R:Int->Int->Int->Option (Int×Int)) (x17:Int) (x18:Int):Option (Int×Int):= R x17 x18 (w64 (x4+1))
def WW (a1:Ring):Nat->Int->Int->Int->Option (Int×Int)
 |0,_,_,_=>none
 |n+1,x2,x3,x4=> bif decide (x4<(a1.Read.length:Int)) then bif inb x4 a1.Read.length then bif (a1.Read.getD x4.toNat dd).Ok then EC x4 (WW a1 n) x2 x3 else (jA a1 x4 FUEL 0).bind λo15=> EC x4 (WW a1 n) (w64 (x2+1)) (imax x3 o15) else none else some (x2,x3)
def NT (a1:Ring):Option (Int×Int):= (WW a1 FUEL 0 0 0).bind λo21=> some (o21.1,o21.2)
def IN (a1:Ring):Option Ring:= bif room (0+a1.Read.length) 24 then some (Ring.mk a1.Z (([]:List qD)++a1.Read)) else none
def JB (a1:List qD) (a3:Int):Nat->Int->Option Int
 |0,_=>none
 |n+1,x5=> bif inb x5 a1.length then bif !((a1.getD x5.toNat dd).Ok) then bif nz (a1.length:Int) then (JB a1 a3 n) (Int.tmod (w64 ((w64 (x5+a3))+(a1.length:Int))) (a1.length:Int)) else none else some x5 else none
def QJ (a1:List qD) (a2:Int) (a3:Int):Option Int:= bif nz (a1.length:Int) then (JB a1 a3 FUEL (Int.tmod (w64 ((w64 (a2+a3))+(a1.length:Int))) (a1.length:Int))).bind λo10=> some o10 else none
def YX (x7:Bool):Option Bool:= some x7
def HH (a1:qA) (a2:qA) (a3:Int):Option Bool:= bif decide ((w64 (a1.X-a2.X))>a3) then YX true else bif decide ((w64 (a2.X-a1.X))>a3) then YX true else bif decide ((w64 (a1.Y-a2.Y))>a3) then YX true else YX (decide ((w64 (a2.Y-a1.Y))>a3))
def UJ (x13:Int) (R:Int->(List qD)->Option (List qD)) (l32:List qD):Option (List qD):= R (w64 (x13+1)) l32
def FQ (x13:Int) (l14:List qD) (R:Int->(List qD)->Option (List qD)) (x29:Bool):Option (List qD):= bif x29 then bif inb x13 l14.length then UJ x13 R (l14.set x13.toNat (qD.mk (qA.mk 0 0) false)) else none else UJ x13 R l14
def QG (a1:Ring) (a2:Int):Nat->Int->(List qD)->Option (List qD)
 |0,_,_=>none
 |n+1,x13,l14=> bif decide (x13<(a1.Read.length:Int)) then bif inb x13 a1.Read.length then bif !((a1.Read.getD x13.toNat dd).Ok) then UJ x13 (QG a1 a2 n) l14 else (QJ a1.Read x13 (-1)).bind λv18=> bif inb v18 a1.Read.length then (QJ a1.Read x13 1).bind λv21=> bif inb v21 a1.Read.length then (HH ((a1.Read.getD x13.toNat dd).P) ((a1.Read.getD v18.toNat dd).P) a2).bind λv24=> bif v24 then (HH ((a1.Read.getD x13.toNat dd).P) ((a1.Read.getD v21.toNat dd).P) a2).bind λv27=> FQ x13 l14 (QG a1 a2 n) v27 else FQ x13 l14 (QG a1 a2 n) false else none else none else none else some l14
def TS (a1:Ring) (a2:Int) (v5:Ring) (x11:Bool):Option Ring:= bif x11 then some (Ring.mk v5.Z v5.Read) else (QG a1 a2 FUEL 0 v5.Read).bind λo34=> some (Ring.mk v5.Z o34)
def qAJ (a1:Ring) (a2:Int):Option Ring:= (NT a1).bind λv3=> (IN a1).bind λv5=> bif decide (a2<0) then TS a1 a2 v5 true else bif decide ((w64 ((a1.Read.length:Int)-v3.1))<2) then TS a1 a2 v5 true else (MJ a1).bind λv9=> TS a1 a2 v5 (v9 !=0)
def LA (x5:Int):Option Int:= some x5
def MR (a1:Int) (a2:Int):Option Int:= bif nz a2 then bif decide ((w64 ((w64 (Int.tdiv a1 a2))*a2))>a1) then LA (w64 ((w64 (Int.tdiv a1 a2))-1)) else LA (w64 (Int.tdiv a1 a2)) else none
def NW (x13:Int) (R:(List qA)->Int->Option (List qA)) (l30:List qA):Option (List qA):= R l30 (w64 (x13+1))
def yJ (a1:Ring):Nat->(List qA)->Int->Option (List qA)
 |0,_,_=>none
 |n+1,l12,x13=> bif decide (x13<(a1.Read.length:Int)) then bif inb x13 a1.Read.length then bif (a1.Read.getD x13.toNat dd).Ok then bif room (l12.length+1) 16 then NW x13 (yJ a1 n) (l12++[(a1.Read.getD x13.toNat dd).P]) else none else (QJ a1.Read x13 (-1)).bind λv18=> (QJ a1.Read x13 1).bind λv20=> bif nz (a1.Read.length:Int) then bif inb v18 a1.Read.length then bif inb v20 a1.Read.length then (MR (w64 ((w64 ((((a1.Read.getD v20.toNat dd).P).X)-(((a1.Read.getD v18.toNat dd).P).X)))*(Int.tmod (w64 ((w64 (x13-v18))+(a1.Read.length:Int))) (a1.Read.length:Int)))) (Int.tmod (w64 ((w64 (v20-v18))+(a1.Read.length:Int))) (a1.Read.length:Int))).bind λv25=> (MR (w64 ((w64 ((((a1.Read.getD v20.toNat dd).P).Y)-(((a1.Read.getD v18.toNat dd).P).Y)))*(Int.tmod (w64 ((w64 (x13-v18))+(a1.Read.length:Int))) (a1.Read.length:Int)))) (Int.tmod (w64 ((w64 (v20-v18))+(a1.Read.length:Int))) (a1.Read.length:Int))).bind λv27=>
 bif room (l12.length+1) 16 then NW x13 (yJ a1 n) (l12++[(qA.mk (w64 ((((a1.Read.getD v18.toNat dd).P).X)+v25)) (w64 ((((a1.Read.getD v18.toNat dd).P).Y)+v27)))]) else none else none else none else none else none else some l12
def PW (a1:Ring) (x10:Bool):Option ((List qA)×Int):= bif x10 then some ([],30) else (yJ a1 FUEL [] 0).bind λo32=> some (o32,0)
def IG (a1:Ring) (a2:Int):Option ((List qA)×Int):= (MJ a1).bind λv3=> bif v3 !=0 then some ([],v3) else (NT a1).bind λv6=> bif decide ((w64 ((a1.Read.length:Int)-v6.1))<3) then PW a1 true else bif decide (v6.1>0) then PW a1 (decide (v6.2>a2)) else PW a1 false
def YR (a1:List qA):Nat->Int->Int->Option Int
 |0,_,_=>none
 |n+1,x7,x8=> bif decide (x8<(a1.length:Int)) then bif nz (a1.length:Int) then bif inb (Int.tmod (w64 (x8+1)) (a1.length:Int)) a1.length then bif inb x8 a1.length then (YR a1 n) (w64 ((w64 (x7+(w64 (((a1.getD x8.toNat dd).X)*((a1.getD (Int.tmod (w64 (x8+1)) (a1.length:Int)).toNat dd).Y)))))-(w64 (((a1.getD (Int.tmod (w64 (x8+1)) (a1.length:Int)).toNat dd).X)*((a1.getD x8.toNat dd).Y))))) (w64 (x8+1)) else none else none else none else some x7
def LF (a1:List qA) (x5:Bool):Option Int:= bif x5 then some 0 else (YR a1 FUEL 0 0).bind λo14=> some o14
def qAH (a1:List qA):Option Int:= bif decide ((a1.length:Int)>32) then LF a1 true else (yI a1).bind λv3=> LF a1 (!v3)
def MY (a1:List qA):Option Int:= bif decide ((a1.length:Int)<3) then some 3 else bif decide ((a1.length:Int)>32) then some 4 else (yI a1).bind λv4=> bif !v4 then some 9 else (qAH a1).bind λv7=> bif v7==0 then some 19 else some 0
def RD (x5:Bool):Option Bool:= some x5
def IT (a1:qA) (a2:qA):Option Bool:= bif decide (a1.X<a2.X) then RD true else bif a1.X==a2.X then RD (decide (a1.Y<a2.Y)) else RD false
def NZ (x5:Int) (R:Int->Option Int) (x11:Bool):Option Int:= bif x11 then R (w64 (x5+1)) else some x5
def JV (a1:List qA) (l2:List qA) (x3:Int):Nat->Int->Option Int
 |0,_=>none
 |n+1,x5=> bif decide (x5<(l2.length:Int)) then bif inb x5 l2.length then bif inb x3 a1.length then (IT (l2.getD x5.toNat dd) (a1.getD x3.toNat dd)).bind λv9=> NZ x5 (JV a1 l2 x3 n) v9 else none else none else NZ x5 (JV a1 l2 x3 n) false
def FF (x3:Int) (R:(List qA)->Int->Option (List qA)) (l27:List qA):Option (List qA):= R l27 (w64 (x3+1))
def NB (a1:List qA) (l2:List qA) (x3:Int) (R:(List qA)->Int->Option (List qA)) (o14:Int) (x19:Bool):Option (List qA):= bif x19 then FF x3 R l2 else bif slOk 0 o14 l2.length then bif room (0+o14.toNat) 16 then bif inb x3 a1.length then bif room ((0+o14.toNat)+1) 16 then bif slOk o14 (l2.length:Int) l2.length then bif room (((0+o14.toNat)+1)+(l2.length-o14.toNat)) 16 then FF x3 R (((([]:List qA)++(l2.take o14.toNat))++[(a1.getD x3.toNat dd)])++((l2.drop o14.toNat).take (l2.length-o14.toNat))) else none else none else none else none else none else none
def QU (a1:List qA):Nat->(List qA)->Int->Option (List qA)
 |0,_,_=>none
 |n+1,l2,x3=> bif decide (x3<(a1.length:Int)) then (JV a1 l2 x3 FUEL 0).bind λo14=> bif decide (o14<(l2.length:Int)) then bif inb o14 l2.length then bif inb x3 a1.length then NB a1 l2 x3 (QU a1 n) o14 ((((l2.getD o14.toNat dd).X)==((a1.getD x3.toNat dd).X))&&((((l2.getD o14.toNat dd).Y)==((a1.getD x3.toNat dd).Y))&&true)) else none else none else NB a1 l2 x3 (QU a1 n) o14 false else some l2
def IR (a1:List qA):Option (List qA):= (QU a1 FUEL [] 0).bind λo29=> some o29
def ZQ (a1:qA) (a2:qA) (a3:qA):Option Int:= some (w64 ((w64 ((w64 (a2.X-a1.X))*(w64 (a3.Y-a1.Y))))-(w64 ((w64 (a2.Y-a1.Y))*(w64 (a3.X-a1.X))))))
def FP (l5:List qA) (R:(List qA)->Option (List qA)) (x12:Bool):Option (List qA):= bif x12 then bif slOk 0 (w64 ((l5.length:Int)-1)) l5.length then R (l5.take ((w64 ((l5.length:Int)-1)).toNat)) else none else some l5
def XL (a1:List qA) (x3:Int):Nat->(List qA)->Option (List qA)
 |0,_=>none
 |n+1,l5=> bif decide ((l5.length:Int)>1) then bif inb (w64 ((l5.length:Int)-2)) l5.length then bif inb (w64 ((l5.length:Int)-1)) l5.length then bif inb x3 a1.length then (ZQ (l5.getD ((w64 ((l5.length:Int)-2)).toNat) dd) (l5.getD ((w64 ((l5.length:Int)-1)).toNat) dd) (a1.getD x3.toNat dd)).bind λv10=> FP l5 (XL a1 x3 n) (decide (v10<=0)) else none else none else none else FP l5 (XL a1 x3 n) false
def TT (a1:List qA):Nat->(List qA)->Int->Option (List qA)
 |0,_,_=>none
 |n+1,l2,x3=> bif decide (x3<(a1.length:Int)) then (XL a1 x3 FUEL l2).bind λo16=> bif inb x3 a1.length then bif room (o16.length+1) 16 then (TT a1 n) (o16++[(a1.getD x3.toNat dd)]) (w64 (x3+1)) else none else none else some l2
def MZ (a1:List qA):Option (List qA):= (TT a1 FUEL [] 0).bind λo21=> some o21
def JE (v7:(List qA)):Nat->(List qA)->Int->Option (List qA)
 |0,_,_=>none
 |n+1,l9,x10=> bif decide (x10≥0) then bif inb x10 v7.length then bif room (l9.length+1) 16 then (JE v7 n) (l9++[(v7.getD x10.toNat dd)]) (w64 (x10-1)) else none else none else some l9
def EI (a1:List qA) (x5:Bool):Option (List qA):= bif x5 then some ([]:List qA) else (IR a1).bind λv7=> (JE v7 FUEL [] (w64 ((v7.length:Int)-1))).bind λo15=> (MZ v7).bind λv17=> (MZ o15).bind λv19=> bif decide ((w64 ((v17.length:Int)+(v19.length:Int)))<5) then some ([]:List qA) else bif slOk 0 (w64 ((v17.length:Int)-1)) v17.length then bif room (0+(w64 ((v17.length:Int)-1)).toNat) 16 then bif slOk 0 (w64 ((v19.length:Int)-1)) v19.length then bif room ((0+(w64 ((v17.length:Int)-1)).toNat)+(w64 ((v19.length:Int)-1)).toNat) 16 then some ((([]:List qA)++(v17.take ((w64 ((v17.length:Int)-1)).toNat)))++(v19.take ((w64 ((v19.length:Int)-1)).toNat))) else none else none else none else none
def qBx (a1:List qA):Option (List qA):= bif decide ((a1.length:Int)>32) then EI a1 true else (yI a1).bind λv3=> EI a1 (!v3)
def LC (x5:Int):Option Int:= some x5
def MQ (a1:Int) (a2:Int):Option Int:= bif nz a2 then bif decide ((w64 ((w64 (Int.tdiv a1 a2))*a2))>a1) then LC (w64 ((w64 (Int.tdiv a1 a2))-1)) else LC (w64 (Int.tdiv a1 a2)) else none
def PX (x5:Int) (R:Int->Int->Int->Option ((Int×Int)⊕(Int×Int))) (x17:Int) (x18:Int):Option ((Int×Int)⊕(Int×Int)):= R x17 x18 (w64 (x5+1))
def yB (a1:List qA) (a2:Int):Nat->Int->Int->Int->Option ((Int×Int)⊕(Int×Int))
 |0,_,_,_=>none
 |n+1,x3,x4,x5=> bif decide (x5<(a1.length:Int)) then bif inb x5 a1.length then bif nz (a1.length:Int) then bif inb (Int.tmod (w64 (x5+1)) (a1.length:Int)) a1.length then bif decide ((w64 (((a1.getD (Int.tmod (w64 (x5+1)) (a1.length:Int)).toNat dd).Y)-((a1.getD x5.toNat dd).Y)))>0) then (MQ (w64 ((w64 (((a1.getD (Int.tmod (w64 (x5+1)) (a1.length:Int)).toNat dd).X)-((a1.getD x5.toNat dd).X)))*(w64 (a2-((a1.getD x5.toNat dd).Y))))) (w64 (((a1.getD (Int.tmod (w64 (x5+1)) (a1.length:Int)).toNat dd).Y)-((a1.getD x5.toNat dd).Y)))).bind λv11=> PX x5 (yB a1 a2 n) x3 (imin x4 (w64 (((a1.getD x5.toNat dd).X)+v11))) else bif decide ((w64 (((a1.getD (Int.tmod (w64 (x5+1)) (a1.length:Int)).toNat dd).Y)-((a1.getD x5.toNat dd).Y)))<0) then
 (MQ (w64 ((w64 (((a1.getD (Int.tmod (w64 (x5+1)) (a1.length:Int)).toNat dd).X)-((a1.getD x5.toNat dd).X)))*(w64 (a2-((a1.getD x5.toNat dd).Y))))) (w64 (0-(w64 (((a1.getD (Int.tmod (w64 (x5+1)) (a1.length:Int)).toNat dd).Y)-((a1.getD x5.toNat dd).Y)))))).bind λv14=> PX x5 (yB a1 a2 n) (imax x3 (w64 (((a1.getD x5.toNat dd).X)-v14))) x4 else bif decide ((w64 ((w64 (((a1.getD (Int.tmod (w64 (x5+1)) (a1.length:Int)).toNat dd).X)-((a1.getD x5.toNat dd).X)))*(w64 (a2-((a1.getD x5.toNat dd).Y)))))<0) then some (Sum.inl (1,0)) else PX x5 (yB a1 a2 n) x3 x4 else none else none else none else some (Sum.inr (x3,x4))
def TL (a1:List qA) (a2:Int):Option (Int×Int):= (yB a1 a2 FUEL (-600) 600 0).bind λu23=>Sum.elim (λv24=>some v24) (λo21=> some (o21.1,o21.2)) u23
def UP (v11:Int×Int) (v13:Int×Int) (x17:Bool):Option Span:= bif x17 then some (Span.mk 0 0) else some (Span.mk (imax v11.1 v13.1) (imin v11.2 v13.2))
def XD (a2:Int) (a3:Int) (v4:(List qA)) (x9:Bool):Option Span:= bif x9 then some (Span.mk 0 0) else (TL v4 a2).bind λv11=> (TL v4 a3).bind λv13=> bif decide (v11.1>v11.2) then UP v11 v13 true else bif decide (v13.1>v13.2) then UP v11 v13 true else UP v11 v13 (decide ((imax v11.1 v13.1)≥(imin v11.2 v13.2)))
def qAL (a1:List qA) (a2:Int) (a3:Int):Option Span:= (qBx a1).bind λv4=> bif (v4.length:Int)==0 then XD a2 a3 v4 true else bif decide (a2≥a3) then XD a2 a3 v4 true else bif decide (a2<(-600)) then XD a2 a3 v4 true else XD a2 a3 v4 (decide (a3>600))
def YH (a1:Span):Option Bool:= some (decide (a1.A≥a1.B))
def GY (x3:Int) (R:Int->Option Int) (x8:Bool):Option Int:= bif x8 then R (w64 (x3+1)) else some x3
def QH (a2:List Span):Nat->Int->Option Int
 |0,_=>none
 |n+1,x3=> bif decide (x3<(a2.length:Int)) then bif inb x3 a2.length then (YH (a2.getD x3.toNat dd)).bind λv6=> GY x3 (QH a2 n) v6 else none else GY x3 (QH a2 n) false
def DA (x13:Int) (R:Int->Option Int) (x18:Bool):Option Int:= bif x18 then R (w64 (x13-1)) else some x13
def WJ (a2:List Span) (o11:Int):Nat->Int->Option Int
 |0,_=>none
 |n+1,x13=> bif decide (x13>o11) then bif inb (w64 (x13-1)) a2.length then (YH (a2.getD (w64 (x13-1)).toNat dd)).bind λv16=> DA x13 (WJ a2 o11 n) v16 else none else DA x13 (WJ a2 o11 n) false
def WG (x24:Int) (l25:List Span) (R:Int->(List Span)->Option (List Span)) (x31:Span):Option (List Span):= bif room (l25.length+1) 16 then R (w64 (x24+1)) (l25++[x31]) else none
def wY (a2:List Span) (o21:Int):Nat->Int->(List Span)->Option (List Span)
 |0,_,_=>none
 |n+1,x24,l25=> bif decide (x24<o21) then bif inb x24 a2.length then (YH (a2.getD x24.toNat dd)).bind λv28=> bif v28 then WG x24 l25 (wY a2 o21 n) (Span.mk 0 0) else WG x24 l25 (wY a2 o21 n) (a2.getD x24.toNat dd) else none else some l25
def JD (a1:Int) (a2:List Span):Option qC:= (QH a2 FUEL 0).bind λo11=> (WJ a2 o11 FUEL (a2.length:Int)).bind λo21=> bif o11==o21 then some (qC.mk 0 []) else (wY a2 o21 FUEL o11 []).bind λo34=> some (qC.mk (w64 (a1+o11)) o34)
def PO (a1:List qA):Nat->Int->Int->Int->Option (Int×Int)
 |0,_,_,_=>none
 |n+1,x6,x7,x8=> bif decide (x8<(a1.length:Int)) then bif inb x8 a1.length then (PO a1 n) (imin x6 ((a1.getD x8.toNat dd).Y)) (imax x7 ((a1.getD x8.toNat dd).Y)) (w64 (x8+1)) else none else some (x6,x7)
def MP (l15:List Span) (x16:Int) (R:(List Span)->Int->Option (List Span)) (x23:Span):Option (List Span):= bif room (l15.length+1) 16 then R (l15++[x23]) (w64 (x16+1)) else none
def qAE (a1:List qA) (l15:List Span) (x16:Int) (R:(List Span)->Int->Option (List Span)) (x19:Bool):Option (List Span):= bif x19 then (qAL a1 (w64 (10*x16)) (w64 (10*(w64 (x16+1))))).bind λv21=> MP l15 x16 R v21 else MP l15 x16 R (Span.mk 0 0)
def jV (a1:List qA) (o13:Int×Int):Nat->(List Span)->Int->Option (List Span)
 |0,_,_=>none
 |n+1,l15,x16=> bif decide (x16<60) then bif decide ((w64 (10*x16))≥o13.1) then qAE a1 l15 x16 (jV a1 o13 n) (decide ((w64 (10*(w64 (x16+1))))<=o13.2)) else qAE a1 l15 x16 (jV a1 o13 n) false else some l15
def qFf (a1:List qA):Option (qC×Int):= (MY a1).bind λv2=> bif v2 !=0 then some ((qC.mk 0 []),v2) else bif inb 0 a1.length then (PO a1 FUEL ((a1.getD (0:Int).toNat dd).Y) ((a1.getD (0:Int).toNat dd).Y) 0).bind λo13=> (jV a1 o13 FUEL [] (-60)).bind λo26=> (JD (-60) o26).bind λv28=> bif (v28.Rows.length:Int)==0 then some ((qC.mk 0 []),18) else some ((qC.mk v28.Low v28.Rows),0) else none
def qCo (a1:Ring) (a2:Int) (a3:Int):Option (qC×Bool):= (qAJ a1 a2).bind λv4=> (IG (Ring.mk v4.Z v4.Read) a3).bind λv6=> bif v6.2 !=0 then some ((qC.mk 0 []),false) else (qFf v6.1).bind λv9=> some ((qC.mk v9.1.Low v9.1.Rows),v9.2==0)
def BP (x3:Bool):Option Bool:= some x3
def FH (a1:Int):Option Bool:= bif decide (a1<(-600)) then BP true else BP (decide (a1>600))
def zaQ (x6:Int) (R:Int->Option (Int⊕Unit)) (x14:Bool):Option (Int⊕Unit):= bif x14 then some (Sum.inl 9) else R (w64 (x6+1))
def QD (a1:qC):Nat->Int->Option (Int⊕Unit)
 |0,_=>none
 |n+1,x6=> bif decide (x6<(a1.Rows.length:Int)) then bif inb x6 a1.Rows.length then (FH ((a1.Rows.getD x6.toNat dd).A)).bind λv9=> bif v9 then zaQ x6 (QD a1 n) true else (FH ((a1.Rows.getD x6.toNat dd).B)).bind λv12=> zaQ x6 (QD a1 n) v12 else none else some (Sum.inr ())
def FT (x31:Int) (R:Int->Option (Int⊕Unit)) (x37:Bool):Option (Int⊕Unit):= bif x37 then some (Sum.inl 19) else R (w64 (x31+1))
def QA (a1:qC):Nat->Int->Option (Int⊕Unit)
 |0,_=>none
 |n+1,x31=> bif decide (x31<(a1.Rows.length:Int)) then bif inb x31 a1.Rows.length then (YH (a1.Rows.getD x31.toNat dd)).bind λv34=> bif v34 then FT x31 (QA a1 n) (!((((a1.Rows.getD x31.toNat dd).A)==0)&&((((a1.Rows.getD x31.toNat dd).B)==0)&&true))) else FT x31 (QA a1 n) false else none else some (Sum.inr ())
def LG (a1:qC) (x29:Bool):Option Int:= bif x29 then some 19 else (QA a1 FUEL 0).bind λu41=>Sum.elim (λv42=>some v42) (λo39=> some 0) u41
def LZ (a1:qC) (x4:Bool):Option Int:= bif x4 then some 9 else (QD a1 FUEL 0).bind λu18=>Sum.elim (λv19=>some v19) (λo16=> bif (a1.Rows.length:Int)==0 then bif a1.Low !=0 then some 19 else some 0 else bif inb 0 a1.Rows.length then (YH (a1.Rows.getD (0:Int).toNat dd)).bind λv23=> bif v23 then LG a1 true else bif inb (w64 ((a1.Rows.length:Int)-1)) a1.Rows.length then (YH (a1.Rows.getD (w64 ((a1.Rows.length:Int)-1)).toNat dd)).bind λv27=> LG a1 v27 else none else none) u18
def qAD (a1:qC):Option Int:= bif decide ((a1.Rows.length:Int)>120) then some 4 else bif decide (a1.Low<(-60)) then LZ a1 true else LZ a1 (decide (a1.Low>(w64 (60-(a1.Rows.length:Int)))))
def HA (a1:qC):Option qC:= (qAD a1).bind λv2=> bif v2 !=0 then some (qC.mk 0 []) else some a1
def IV (a1:qC) (a2:Int) (x4:Bool):Option Span:= bif x4 then some (Span.mk 0 0) else bif inb (w64 (a2-a1.Low)) a1.Rows.length then some (a1.Rows.getD (w64 (a2-a1.Low)).toNat dd) else none
def qAm (a1:qC) (a2:Int):Option Span:= bif decide (a2<a1.Low) then IV a1 a2 true else IV a1 a2 (decide (a2≥(w64 (a1.Low+(a1.Rows.length:Int)))))
def WV (v3:qC) (v5:qC):Nat->(List Span)->Int->Option (List Span)
 |0,_,_=>none
 |n+1,l7,x8=> bif decide (x8<60) then (qAm v3 x8).bind λv10=> (qAm v5 x8).bind λv12=> bif room (l7.length+1) 16 then (WV v3 v5 n) (l7++[(Span.mk (imax v10.A v12.A) (imin v10.B v12.B))]) (w64 (x8+1)) else none else some l7
def qBP (a1:qC) (a2:qC):Option qC:= (HA a1).bind λv3=> (HA a2).bind λv5=> (WV v3 v5 FUEL [] (-60)).bind λo16=> (JD (-60) o16).bind λv18=> some (qC.mk v18.Low v18.Rows)
def yZ (a1:Scan) (x9:Int):Nat->Int->Option (Bool⊕Unit)
 |0,_=>none
 |n+1,x11=> bif inb x9 a1.Rings.length then bif decide (x11<((((a1.Rings.getD x9.toNat dd).Read).length:Nat):Int)) then bif inb x11 (((a1.Rings.getD x9.toNat dd).Read).length) then bif !((((a1.Rings.getD x9.toNat dd).Read).getD x11.toNat dd).Ok) then some (Sum.inl false) else (yZ a1 x9 n) (w64 (x11+1)) else none else some (Sum.inr ()) else none
def QC (a1:Scan):Nat->Int->Option (Bool⊕Unit)
 |0,_=>none
 |n+1,x9=> bif decide (x9<(a1.Rings.length:Int)) then (yZ a1 x9 FUEL 0).bind λu18=>Sum.elim (λv19=>some (Sum.inl v19)) (λo16=> (QC a1 n) (w64 (x9+1))) u18 else some (Sum.inr ())
def UT (a1:Scan) (x7:Bool):Option Bool:= bif x7 then some false else (QC a1 FUEL 0).bind λu22=>Sum.elim (λv23=>some v23) (λo20=> some true) u22
def PI (a1:Scan):Option Bool:= (SM a1).bind λv2=> bif !v2 then UT a1 true else (QL a1).bind λv5=> UT a1 (v5 !=0)
def wR (v2:(List qS)):Nat->Int->Int->Option Int
 |0,_,_=>none
 |n+1,x4,x5=> bif decide (x5<(v2.length:Int)) then bif inb x5 v2.length then (wR v2 n) (w64 (x4+((v2.getD x5.toNat dd).Len))) (w64 (x5+1)) else none else some x4
def TE (a1:List qS):Option Int:= (VU a1).bind λv2=> (wR v2 FUEL 0 0).bind λo9=> some o9
def jI (a1:Ring):Nat->(List qA)->Int->Option (List qA)
 |0,_,_=>none
 |n+1,l2,x3=> bif decide (x3<(a1.Read.length:Int)) then bif inb x3 a1.Read.length then bif room (l2.length+1) 16 then (jI a1 n) (l2++[(a1.Read.getD x3.toNat dd).P]) (w64 (x3+1)) else none else none else some l2
def UC (a1:Ring):Option (List qA):= (jI a1 FUEL [] 0).bind λo8=> (DT o8).bind λv10=> some v10
def QE (x10:Bool):Option Bool:= some x10
def GA (a1:qA) (a2:qA) (a3:qA):Option Bool:= (XV a1 a2 a3).bind λv4=> bif v4==0 then bif decide ((imin a1.X a2.X)<=a3.X) then bif decide (a3.X<=(imax a1.X a2.X)) then bif decide ((imin a1.Y a2.Y)<=a3.Y) then QE (decide (a3.Y<=(imax a1.Y a2.Y))) else QE false else QE false else QE false else QE false
def HD (x14:Int) (R:Bool->Int->Option (Bool⊕Bool)) (x31:Bool):Option (Bool⊕Bool):= R x31 (w64 (x14+1))
def VK (x13:Bool) (x14:Int) (R:Bool->Int->Option (Bool⊕Bool)) (x29:Bool):Option (Bool⊕Bool):= bif x29 then HD x14 R (!x13) else HD x14 R x13
def PK (a2:qA) (x13:Bool) (x14:Int) (R:Bool->Int->Option (Bool⊕Bool)) (x23:qA) (x24:qA):Option (Bool⊕Bool):= bif decide (x24.Y<=a2.Y) then bif decide (a2.Y<x23.Y) then (XV x24 x23 a2).bind λv27=> VK x13 x14 R (decide (v27>0)) else VK x13 x14 R false else VK x13 x14 R false
def jW (a1:List qA) (a2:qA):Nat->Bool->Int->Option (Bool⊕Bool)
 |0,_,_=>none
 |n+1,x13,x14=> bif decide (x14<(a1.length:Int)) then bif inb x14 a1.length then bif nz (a1.length:Int) then bif inb (Int.tmod (w64 (x14+1)) (a1.length:Int)) a1.length then (GA (a1.getD x14.toNat dd) (a1.getD (Int.tmod (w64 (x14+1)) (a1.length:Int)).toNat dd) a2).bind λv19=> bif v19 then some (Sum.inl true) else bif decide (((a1.getD x14.toNat dd).Y)>((a1.getD (Int.tmod (w64 (x14+1)) (a1.length:Int)).toNat dd).Y)) then PK a2 x13 x14 (jW a1 a2 n) (a1.getD x14.toNat dd) (a1.getD (Int.tmod (w64 (x14+1)) (a1.length:Int)).toNat dd) else PK a2 x13 x14 (jW a1 a2 n) (a1.getD (Int.tmod (w64 (x14+1)) (a1.length:Int)).toNat dd) (a1.getD x14.toNat dd) else none else none else none else some (Sum.inr x13)
def VX (a1:List qA) (a2:qA) (x11:Bool):Option Bool:= bif x11 then some false else (jW a1 a2 FUEL false 0).bind λu35=>Sum.elim (λv36=>some v36) (λo33=> some o33) u35
def TC (a1:List qA) (a2:qA):Option Bool:= (TU a1).bind λv3=> bif v3 !=0 then VX a1 a2 true else (ZR a2.X).bind λv6=> bif !v6 then VX a1 a2 true else (ZR a2.Y).bind λv9=> VX a1 a2 (!v9)
def MV (x3:Int) (R:Int->Option (Bool⊕Unit)):Option (Bool⊕Unit):= R (w64 (x3+1))
def PL (x3:Int) (R:Int->Option (Bool⊕Unit)) (x18:Bool):Option (Bool⊕Unit):= bif x18 then some (Sum.inl false) else MV x3 R
def wO (a1:qC) (a2:List qA):Nat->Int->Option (Bool⊕Unit)
 |0,_=>none
 |n+1,x3=> bif decide (x3<(a1.Rows.length:Int)) then bif inb x3 a1.Rows.length then bif decide (((a1.Rows.getD x3.toNat dd).A)≥((a1.Rows.getD x3.toNat dd).B)) then MV x3 (wO a1 a2 n) else (TC a2 (qA.mk ((a1.Rows.getD x3.toNat dd).A) (w64 (10*(w64 (a1.Low+x3)))))).bind λv7=> bif !v7 then PL x3 (wO a1 a2 n) true else (TC a2 (qA.mk ((a1.Rows.getD x3.toNat dd).B) (w64 (10*(w64 (a1.Low+x3)))))).bind λv10=> bif !v10 then PL x3 (wO a1 a2 n) true else (TC a2 (qA.mk ((a1.Rows.getD x3.toNat dd).A) (w64 ((w64 (10*(w64 (a1.Low+x3))))+10)))).bind λv13=> bif !v13 then PL x3 (wO a1 a2 n) true else (TC a2 (qA.mk ((a1.Rows.getD x3.toNat dd).B) (w64 ((w64 (10*(w64 (a1.Low+x3))))+10)))).bind λv16=> PL x3 (wO a1 a2 n) (!v16)
 else none else some (Sum.inr ())
def LT (a1:qC) (a2:List qA):Option Bool:= (wO a1 a2 FUEL 0).bind λu22=>Sum.elim (λv23=>some v23) (λo20=> some true) u22
def WN (x14:Bool):Option Bool:= some x14
def yU (x24:Int) (R:Int->Option (Bool⊕Unit)) (x39:Bool):Option (Bool⊕Unit):= bif x39 then some (Sum.inl false) else R (w64 (x24+1))
def zP (a1:Scan) (v7:(List qS)×Int):Nat->Int->Option (Bool⊕Unit)
 |0,_=>none
 |n+1,x24=> bif decide (x24<(v7.1.length:Int)) then bif inb x24 v7.1.length then bif inb (w64 (x24+1)) a1.Rings.length then bif inb x24 a1.Rings.length then bif ((v7.1.getD x24.toNat dd).Len) !=(w64 (((a1.Rings.getD (w64 (x24+1)).toNat dd).Z)-((a1.Rings.getD x24.toNat dd).Z))) then yU x24 (zP a1 v7 n) true else (UC (a1.Rings.getD x24.toNat dd)).bind λv30=> (LT ((v7.1.getD x24.toNat dd).Sec) v30).bind λv32=> bif !v32 then yU x24 (zP a1 v7 n) true else (UC (a1.Rings.getD (w64 (x24+1)).toNat dd)).bind λv35=> (LT ((v7.1.getD x24.toNat dd).Sec) v35).bind λv37=> yU x24 (zP a1 v7 n) (!v37) else none else none else none else some (Sum.inr ())
def yV (a1:Scan) (v7:(List qS)×Int) (x22:Bool):Option Bool:= bif x22 then some false else (zP a1 v7 FUEL 0).bind λu43=>Sum.elim (λv44=>some v44) (λo41=> (law15_awake).bind λv45=> some v45) u43
def ZY (a1:Scan):Option Bool:= (PI a1).bind λv2=> bif !v2 then (law15_awake).bind λv5=> some v5 else (QK a1 (-1) 0).bind λv7=> bif v7.2 !=0 then bif v7.2==30 then bif (v7.1.length:Int)==0 then (law15_awake).bind λv12=> WN v12 else WN false else WN false else bif (v7.1.length:Int) !=(w64 ((a1.Rings.length:Int)-1)) then yV a1 v7 true else (YC v7.1).bind λv16=> bif v16 !=0 then yV a1 v7 true else (TE v7.1).bind λv19=> bif inb (w64 ((a1.Rings.length:Int)-1)) a1.Rings.length then yV a1 v7 (v19 !=((a1.Rings.getD (w64 ((a1.Rings.length:Int)-1)).toNat dd).Z)) else none
end Saw
end Go.SL

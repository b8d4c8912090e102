import Derived.Test.YthbamnkheinbgaaGreatDoorYa6
set_option linter.unusedVariables false
set_option linter.unusedSimpArgs false
namespace Go.SL
namespace Saw
structure qA where
 X:Int
 Y:Int
instance : Inhabited qA:=⟨⟨0,0⟩⟩
def qB (r:qA):List C:=[ci r.X,ci r.Y]
structure qD where
 P:qA
 Ok:Bool
instance : Inhabited qD:=⟨⟨dd,false⟩⟩
def qF (r:qD):List C:=[ci r.P.X,ci r.P.Y,cb r.Ok]
structure Ring where
 Z:Int
 Read:List qD
instance : Inhabited Ring:=⟨⟨0,[]⟩⟩
def qM (r:Ring):List C:=[ci r.Z,tl qF dd r.Read]
structure Span where
 A:Int
 B:Int
instance : Inhabited Span:=⟨⟨0,0⟩⟩
def qH (r:Span):List C:=[ci r.A,ci r.B]
structure Box where
 X:Span
 Y:Span
 Z:Span
instance : Inhabited Box:=⟨⟨dd,dd,dd⟩⟩
def DN (r:Box):List C:=[ci r.X.A,ci r.X.B,ci r.Y.A,ci r.Y.B,ci r.Z.A,ci r.Z.B]
structure qK where
 Kind:Int
 Box:Box
instance : Inhabited qK:=⟨⟨0,dd⟩⟩
def qN (r:qK):List C:=[ci r.Kind,ci r.Box.X.A,ci r.Box.X.B,ci r.Box.Y.A,ci r.Box.Y.B,ci r.Box.Z.A,ci r.Box.Z.B]
structure Scan where
 Rings:List Ring
 Defects:List qK
instance : Inhabited Scan:=⟨⟨[],[]⟩⟩
def qT (r:Scan):List C:=[tl qM dd r.Rings,tl qN dd r.Defects]
structure qG where
 Low:Int
 Rows:List Span
instance : Inhabited qG:=⟨⟨0,[]⟩⟩
def qP (r:qG):List C:=[ci r.Low,tl qH dd r.Rows]
structure Rect where
 X:Span
 Y:Span
instance : Inhabited Rect:=⟨⟨dd,dd⟩⟩
def QH (r:Rect):List C:=[ci r.X.A,ci r.X.B,ci r.Y.A,ci r.Y.B]
structure qS where
 Len:Int
 Sec:qG
instance : Inhabited qS:=⟨⟨0,dd⟩⟩
def qV (r:qS):List C:=[ci r.Len,ci r.Sec.Low,tl qH dd r.Sec.Rows]
structure qE where
 s:ByteArray
 at_:Int
 e:Int
instance : Inhabited qE:=⟨⟨⟨#[]⟩,0,0⟩⟩
def qJ (r:qE):List C:=[cs r.s,ci r.at_,ci r.e]
structure qEJ where
 S:ByteArray
 At:Int
 E:Int
instance : Inhabited qEJ:=⟨⟨⟨#[]⟩,0,0⟩⟩
def ME :List Int:=[(-1),1]
def globs :List (Nat×C):=[(0,.aptr 2 1 (rf qL ME))]
def yI (a1:Scan):Nat->Int->Option (Bool⊕Unit)
 |0,_=>none
 |n+1,x5=> bif decide (x5<(a1.Rings.length:Int)) then bif inb x5 a1.Rings.length then bif decide (((((a1.Rings.getD x5.toNat dd).Read).length:Nat):Int)>60) then some (Sum.inl false) else (yI a1 n) (w64 (x5+1)) else none else some (Sum.inr ())
def RK (a1:Scan) (x3:Bool):Option Bool:= bif x3 then some false else (yI a1 FUEL 0).bind λu11=>Sum.elim (λv12=>some v12) (λo9=> some true) u11
def VN (a1:Scan):Option Bool:= bif decide ((a1.Rings.length:Int)>40) then RK a1 true else RK a1 (decide ((a1.Defects.length:Int)>100))
def JJ :Nat->Int->(List qD)->Option (List qD)
 |0,_,_=>none
 |n+1,x4,l5=> bif decide (x4<((8:Nat):Int)) then bif inb x4 8 then bif room (l5.length+1) 24 then (JJ n) (w64 (x4+1)) (l5++([(qD.mk (qA.mk (([(-50),0,50,50,50,0,(-50),(-50)]:List Int).getD x4.toNat dd) (([(-20),(-20),(-20),0,20,20,20,0]:List Int).getD x4.toNat dd)) true)]:List qD)) else none else none else some l5
def YS (x3:Bool):Option Bool:= some x3
def WT (a1:Int):Option Bool:= bif decide (a1≥(-600)) then YS (decide (a1<=600)) else YS false
def XV (x7:Int) (R:Int->Option (Int⊕Unit)) (x19:Bool):Option (Int⊕Unit):= bif x19 then some (Sum.inl 19) else R (w64 (x7+1))
def WG (a1:Ring) (x7:Int) (R:Int->Option (Int⊕Unit)) (x16:Bool):Option (Int⊕Unit):= bif x16 then some (Sum.inl 9) else bif !((a1.Read.getD x7.toNat dd).Ok) then XV x7 R (!(((((a1.Read.getD x7.toNat dd).P).X)==0)&&(((((a1.Read.getD x7.toNat dd).P).Y)==0)&&true))) else XV x7 R false
def zV (a1:Ring):Nat->Int->Option (Int⊕Unit)
 |0,_=>none
 |n+1,x7=> bif decide (x7<(a1.Read.length:Int)) then bif inb x7 a1.Read.length then bif (a1.Read.getD x7.toNat dd).Ok then (WT (((a1.Read.getD x7.toNat dd).P).X)).bind λv11=> bif !v11 then WG a1 x7 (zV a1 n) true else (WT (((a1.Read.getD x7.toNat dd).P).Y)).bind λv14=> WG a1 x7 (zV a1 n) (!v14) else WG a1 x7 (zV a1 n) false else none else some (Sum.inr ())
def KD (a1:Ring) (x5:Bool):Option Int:= bif x5 then some 9 else (zV a1 FUEL 0).bind λu23=>Sum.elim (λv24=>some v24) (λo21=> some 0) u23
def ZV (a1:Ring):Option Int:= bif decide ((a1.Read.length:Int)<8) then some 3 else bif decide ((a1.Read.length:Int)>32) then some 4 else bif decide (a1.Z<0) then KD a1 true else KD a1 (decide (a1.Z>20000))
def jY (a1:Span):Option Bool:= some (decide (a1.A≥a1.B))
def ZY (x5:Bool):Option Bool:= some x5
def jM (a1:Span) (a2:Int) (a3:Int):Option Bool:= bif decide ((imin a1.A a1.B)≥a2) then ZY (decide ((imax a1.A a1.B)<=a3)) else ZY false
def QE (x23:Bool):Option Int:= bif x23 then some 9 else some 0
def QC (a1:qK) (x13:Bool):Option Int:= bif x13 then some 19 else (jM a1.Box.X (-600) 600).bind λv15=> bif !v15 then QE true else (jM a1.Box.Y (-600) 600).bind λv18=> bif !v18 then QE true else (jM a1.Box.Z 0 20000).bind λv21=> QE (!v21)
def JC (a1:qK) (x3:Bool):Option Int:= bif x3 then some 10 else (jY a1.Box.X).bind λv5=> bif v5 then QC a1 true else (jY a1.Box.Y).bind λv8=> bif v8 then QC a1 true else (jY a1.Box.Z).bind λv11=> QC a1 v11
def JT (a1:qK):Option Int:= bif decide (a1.Kind<1) then JC a1 true else JC a1 (decide (a1.Kind>6))
def wS (a1:List qK):Nat->Int->Option (Int⊕Unit)
 |0,_=>none
 |n+1,x3=> bif decide (x3<(a1.length:Int)) then bif inb x3 a1.length then (JT (a1.getD x3.toNat dd)).bind λv6=> bif v6 !=0 then some (Sum.inl v6) else (wS a1 n) (w64 (x3+1)) else none else some (Sum.inr ())
def YD (a1:List qK):Option Int:= bif decide ((a1.length:Int)>64) then some 4 else (wS a1 FUEL 0).bind λu11=>Sum.elim (λv12=>some v12) (λo9=> some 0) u11
def jR (a1:Scan) (x4:Int) (R:Int->Option (Int⊕Unit)) (x16:Bool):Option (Int⊕Unit):= bif x16 then some (Sum.inl 11) else bif inb 0 a1.Rings.length then bif ((((a1.Rings.getD x4.toNat dd).Read).length:Nat):Int) !=((((a1.Rings.getD (0:Int).toNat dd).Read).length:Nat):Int) then some (Sum.inl 19) else R (w64 (x4+1)) else none
def zL (a1:Scan):Nat->Int->Option (Int⊕Unit)
 |0,_=>none
 |n+1,x4=> bif decide (x4<(a1.Rings.length:Int)) then bif inb x4 a1.Rings.length then (ZV (a1.Rings.getD x4.toNat dd)).bind λv7=> bif v7 !=0 then some (Sum.inl v7) else bif x4==0 then bif ((a1.Rings.getD x4.toNat dd).Z) !=0 then jR a1 x4 (zL a1 n) true else bif decide (x4>0) then bif inb (w64 (x4-1)) a1.Rings.length then jR a1 x4 (zL a1 n) (decide (((a1.Rings.getD x4.toNat dd).Z)<=((a1.Rings.getD (w64 (x4-1)).toNat dd).Z))) else none else jR a1 x4 (zL a1 n) false else bif decide (x4>0) then bif inb (w64 (x4-1)) a1.Rings.length then jR a1 x4 (zL a1 n) (decide (((a1.Rings.getD x4.toNat dd).Z)<=((a1.Rings.getD (w64 (x4-1)).toNat dd).Z))) else none else jR a1 x4 (zL a1 n) false else none else some (Sum.inr ())
def yY (a1:Scan):Nat->Int->Option (Int⊕Unit)
 |0,_=>none
 |n+1,x28=> bif decide (x28<(a1.Defects.length:Int)) then bif inb x28 a1.Defects.length then bif decide (((((a1.Defects.getD x28.toNat dd).Box).Z).B)>((a1.Rings.getD (w64 ((a1.Rings.length:Int)-1)).toNat dd).Z)) then some (Sum.inl 9) else (yY a1 n) (w64 (x28+1)) else none else some (Sum.inr ())
def jF (a1:Scan):Option Int:= bif decide ((a1.Rings.length:Int)<2) then some 3 else bif decide ((a1.Rings.length:Int)>24) then some 4 else (zL a1 FUEL 0).bind λu22=>Sum.elim (λv23=>some v23) (λo20=> (YD a1.Defects).bind λv24=> bif v24 !=0 then some v24 else bif inb (w64 ((a1.Rings.length:Int)-1)) a1.Rings.length then (yY a1 FUEL 0).bind λu34=>Sum.elim (λv35=>some v35) (λo32=> some 0) u34 else none) u22
def QV (a1:List qD):Option (List qD):= bif room a1.length 24 then some a1 else none
def SF (a1:Ring):Option Ring:= (QV a1.Read).bind λv2=> some (Ring.mk a1.Z v2)
def KZ (x3:Int) (R:(List Int)->Int->Option (List Int)) (l8:List Int):Option (List Int):= R l8 (w64 (x3+1))
def yO (a1:Ring):Nat->(List Int)->Int->Option (List Int)
 |0,_,_=>none
 |n+1,l2,x3=> bif decide (x3<(a1.Read.length:Int)) then bif inb x3 a1.Read.length then bif (a1.Read.getD x3.toNat dd).Ok then bif room (l2.length+1) 8 then KZ x3 (yO a1 n) (l2++[x3]) else none else KZ x3 (yO a1 n) l2 else none else some l2
def WE (a1:Ring):Option (List Int):= (yO a1 FUEL [] 0).bind λo10=> some o10
def LO (x5:Bool):Option Bool:= some x5
def qAt (a1:qA) (a2:qA) (a3:Int):Option Bool:= bif decide ((imax (w64 (a1.X-a2.X)) (w64 (a2.X-a1.X)))>a3) then LO true else LO (decide ((imax (w64 (a1.Y-a2.Y)) (w64 (a2.Y-a1.Y)))>a3))
def GN (x18:Int) (R:Bool->Int->Option Bool) (x28:Bool):Option Bool:= R x28 (w64 (x18+1))
def WN (a1:Ring) (a2:Int) (v5:(List Int)) (x13:Int):Nat->Bool->Int->Option Bool
 |0,_,_=>none
 |n+1,x17,x18=> bif decide (x18<2) then bif inb x18 2 then bif nz (v5.length:Int) then bif inb (Int.tmod (w64 ((w64 (x13+(v5.length:Int)))+(([(-1),1]:List Int).getD x18.toNat 0))) (v5.length:Int)) v5.length then bif inb (v5.getD ((Int.tmod (w64 ((w64 (x13+(v5.length:Int)))+(([(-1),1]:List Int).getD x18.toNat 0))) (v5.length:Int)).toNat) dd) a1.Read.length then bif x17 then bif inb (v5.getD x13.toNat dd) a1.Read.length then (qAt ((a1.Read.getD (v5.getD x13.toNat dd).toNat dd).P) ((a1.Read.getD (v5.getD ((Int.tmod (w64 ((w64 (x13+(v5.length:Int)))+(([(-1),1]:List Int).getD x18.toNat 0))) (v5.length:Int)).toNat) dd).toNat dd).P) a2).bind λv26=> GN x18 (WN a1 a2 v5 x13 n) v26 else none else GN x18 (WN a1 a2 v5 x13 n) false
 else none else none else none else none else some x17
def GL (x13:Int) (R:Int->(List qD)->Option (List qD)) (l34:List qD):Option (List qD):= R (w64 (x13+1)) l34
def WH (a1:Ring) (a2:Int) (v5:(List Int)):Nat->Int->(List qD)->Option (List qD)
 |0,_,_=>none
 |n+1,x13,l14=> bif decide (x13<(v5.length:Int)) then bif inb x13 v5.length then (WN a1 a2 v5 x13 FUEL true 0).bind λo30=> bif o30 then bif inb (v5.getD x13.toNat dd) l14.length then GL x13 (WH a1 a2 v5 n) (l14.set ((v5.getD x13.toNat dd).toNat) (qD.mk (qA.mk 0 0) false)) else none else GL x13 (WH a1 a2 v5 n) l14 else none else some l14
def XX (a1:Ring) (a2:Int) (v3:Ring) (v5:(List Int)) (x11:Bool):Option Ring:= bif x11 then some (Ring.mk v3.Z v3.Read) else (WH a1 a2 v5 FUEL 0 v3.Read).bind λo36=> some (Ring.mk v3.Z o36)
def HF (a1:Ring) (a2:Int):Option Ring:= (SF a1).bind λv3=> (WE a1).bind λv5=> bif decide (a2<0) then XX a1 a2 v3 v5 true else bif decide ((v5.length:Int)<2) then XX a1 a2 v3 v5 true else (ZV a1).bind λv9=> XX a1 a2 v3 v5 (v9 !=0)
def UP (a1:Ring) (a2:List Int) (a3:Int):Option Int:= bif decide ((w64 (a3+1))<(a2.length:Int)) then bif inb (w64 (a3+1)) a2.length then bif inb a3 a2.length then some (w64 ((w64 ((a2.getD (w64 (a3+1)).toNat dd)-(a2.getD a3.toNat dd)))-1)) else none else none else bif inb 0 a2.length then bif inb a3 a2.length then some (w64 ((w64 ((w64 ((a2.getD (0:Int).toNat dd)+(a1.Read.length:Int)))-(a2.getD a3.toNat dd)))-1)) else none else none
def ND (a1:Ring) (v2:(List Int)):Nat->Int->Int->Option Int
 |0,_,_=>none
 |n+1,x5,x6=> bif decide (x6<(v2.length:Int)) then (UP a1 v2 x6).bind λv8=> (ND a1 v2 n) (imax x5 v8) (w64 (x6+1)) else some x5
def AG (a1:Ring):Option (Int×Int):= (WE a1).bind λv2=> bif (v2.length:Int)==0 then some (w64 ((a1.Read.length:Int)-(v2.length:Int)),w64 ((a1.Read.length:Int)-(v2.length:Int))) else (ND a1 v2 FUEL 0 0).bind λo11=> some (w64 ((a1.Read.length:Int)-(v2.length:Int)),o11)
def GR (x5:Int):Option Int:= some x5
def DM (a1:Int) (a2:Int):Option Int:= bif nz a2 then bif decide ((Int.tmod a1 a2)<0) then GR (w64 ((w64 (Int.tdiv a1 a2))-1)) else GR (w64 (Int.tdiv a1 a2)) else none
def TR (a1:Ring) (v6:(List Int)) (x16:Int) (v24:Int):Nat->(List qA)->Int->Option (List qA)
 |0,_,_=>none
 |n+1,l26,x27=> bif decide (x27<=v24) then bif nz (l26.length:Int) then (DM (w64 ((w64 ((((a1.Read.getD (v6.getD ((Int.tmod (w64 (x16+1)) (v6.length:Int)).toNat) dd).toNat dd).P).X)-(((a1.Read.getD (v6.getD x16.toNat dd).toNat dd).P).X)))*x27)) (w64 (v24+1))).bind λv30=> (DM (w64 ((w64 ((((a1.Read.getD (v6.getD ((Int.tmod (w64 (x16+1)) (v6.length:Int)).toNat) dd).toNat dd).P).Y)-(((a1.Read.getD (v6.getD x16.toNat dd).toNat dd).P).Y)))*x27)) (w64 (v24+1))).bind λv32=> bif inb (Int.tmod (w64 ((v6.getD x16.toNat dd)+x27)) (l26.length:Int)) l26.length then (TR a1 v6 x16 v24 n) (l26.set ((Int.tmod (w64 ((v6.getD x16.toNat dd)+x27)) (l26.length:Int)).toNat) (qA.mk (w64 ((((a1.Read.getD (v6.getD x16.toNat dd).toNat dd).P).X)+v30)) (w64 ((((a1.Read.getD (v6.getD x16.toNat dd).toNat dd).P).Y)+v32)))) (w64 (x27+1))
 else none else none else some l26
def UD (a1:Ring) (v6:(List Int)):Nat->(List qA)->Int->Option (List qA)
 |0,_,_=>none
 |n+1,l15,x16=> bif decide (x16<(v6.length:Int)) then bif inb x16 v6.length then bif inb (v6.getD x16.toNat dd) a1.Read.length then bif nz (v6.length:Int) then bif inb (Int.tmod (w64 (x16+1)) (v6.length:Int)) v6.length then bif inb (v6.getD ((Int.tmod (w64 (x16+1)) (v6.length:Int)).toNat) dd) a1.Read.length then bif inb (v6.getD x16.toNat dd) l15.length then (UP a1 v6 x16).bind λv24=> (TR a1 v6 x16 v24 FUEL (l15.set ((v6.getD x16.toNat dd).toNat) ((a1.Read.getD (v6.getD x16.toNat dd).toNat dd).P)) 1).bind λo36=> (UD a1 v6 n) o36 (w64 (x16+1)) else none else none else none else none else none else none else some l15
def YO (a1:Ring) (v6:(List Int)) (x12:Bool):Option ((List qA)×Int):= bif x12 then some ([],30) else bif mkOk (a1.Read.length:Int) 16 then (UD a1 v6 FUEL (List.replicate ((a1.Read.length:Int).toNat) (qA.mk 0 0)) 0).bind λo39=> some (o39,0) else none
def LB (a1:Ring) (a2:Int):Option ((List qA)×Int):= (ZV a1).bind λv3=> bif v3 !=0 then some ([],v3) else (WE a1).bind λv6=> (AG a1).bind λv8=> bif decide ((v6.length:Int)<3) then YO a1 v6 true else bif decide (v8.1>0) then YO a1 v6 (decide (v8.2>a2)) else YO a1 v6 false
def TP (x3:Bool):Option Bool:= some x3
def UM (a1:Int):Option Bool:= bif decide (a1≥(-600)) then TP (decide (a1<=600)) else TP false
def RR (x2:Int) (R:Int->Option (Bool⊕Unit)) (x10:Bool):Option (Bool⊕Unit):= bif x10 then some (Sum.inl false) else R (w64 (x2+1))
def QI (a1:List qA):Nat->Int->Option (Bool⊕Unit)
 |0,_=>none
 |n+1,x2=> bif decide (x2<(a1.length:Int)) then bif inb x2 a1.length then (UM ((a1.getD x2.toNat dd).X)).bind λv5=> bif !v5 then RR x2 (QI a1 n) true else (UM ((a1.getD x2.toNat dd).Y)).bind λv8=> RR x2 (QI a1 n) (!v8) else none else some (Sum.inr ())
def JK (a1:List qA):Option Bool:= (QI a1 FUEL 0).bind λu14=>Sum.elim (λv15=>some v15) (λo12=> some true) u14
def GK (a1:List qA):Nat->Int->Int->Option Int
 |0,_,_=>none
 |n+1,x7,x8=> bif decide (x8<(a1.length:Int)) then bif inb x8 a1.length then bif nz (a1.length:Int) then bif inb (Int.tmod (w64 (x8+1)) (a1.length:Int)) a1.length then (GK a1 n) (w64 (x7+(w64 ((w64 (((a1.getD x8.toNat dd).X)*((a1.getD (Int.tmod (w64 (x8+1)) (a1.length:Int)).toNat dd).Y)))-(w64 (((a1.getD (Int.tmod (w64 (x8+1)) (a1.length:Int)).toNat dd).X)*((a1.getD x8.toNat dd).Y))))))) (w64 (x8+1)) else none else none else none else some x7
def GP (a1:List qA) (x5:Bool):Option Int:= bif x5 then some 0 else (GK a1 FUEL 0 0).bind λo14=> some o14
def MX (a1:List qA):Option Int:= bif decide ((a1.length:Int)>32) then GP a1 true else (JK a1).bind λv3=> GP a1 (!v3)
def SG (a1:List qA):Option Int:= bif decide ((a1.length:Int)<3) then some 3 else bif decide ((a1.length:Int)>32) then some 4 else (JK a1).bind λv4=> bif !v4 then some 9 else (MX a1).bind λv7=> bif v7==0 then some 19 else some 0
def RY (a1:Int) (a2:Int):Option Span:= some (Span.mk (w64 (10*a1)) (w64 (10*a2)))
def WY (a1:List qA):Option (List qA):= bif room a1.length 16 then some a1 else none
def WA (a1:Int):Option Bool:= some (a1 !=a1)
def jJ (a1:Int) (a2:Int):Option Int:= (WA a1).bind λv3=> (WA a2).bind λv5=> bif v3 then bif v5 then some 0 else some (-1) else bif v5 then some 1 else bif decide (a1<a2) then some (-1) else bif decide (a1>a2) then some 1 else some 0
def jZ (a1:List Int):Nat->Int->Option (Int⊕Unit)
 |0,_=>none
 |n+1,x2=> bif decide (x2<(a1.length:Int)) then bif inb x2 a1.length then bif (a1.getD x2.toNat dd) !=0 then some (Sum.inl (a1.getD x2.toNat dd)) else (jZ a1 n) (w64 (x2+1)) else none else some (Sum.inr ())
def XL (a1:List Int):Option Int:= (jZ a1 FUEL 0).bind λu8=>Sum.elim (λv9=>some v9) (λo6=> some 0) u8
def poly_Hull_1 (a1:qA) (a2:qA):Option Int:= (jJ a1.X a2.X).bind λv3=> (jJ a1.Y a2.Y).bind λv5=> (XL [v3,v5]).bind λv7=> some v7
def QQ (a1:List qA):Option (List qA):= bif qDP a1.length then some (XP poly_Hull_1 a1) else none
def yJ (x12:Int) (R:(List qA)->Int->Int->Option ((List qA)×Int)) (l19:List qA) (x20:Int):Option ((List qA)×Int):= R l19 x20 (w64 (x12+1))
def zS (l3:List qA) (x4:Int):Nat->(List qA)->Int->Int->Option ((List qA)×Int)
 |0,_,_,_=>none
 |n+1,l10,x11,x12=> bif decide (x12<(((l3.length-x4.toNat):Nat):Int)) then bif inb x12 (l3.length-x4.toNat) then bif Nat.ble (x4.toNat+(l3.length-x4.toNat)) l10.length then bif inb (w64 (x12-1)) (l3.length-x4.toNat) then bif !((((l10.getD (x4.toNat+x12.toNat) dd).X)==((l10.getD (x4.toNat+((w64 (x12-1)).toNat)) dd).X))&&((((l10.getD (x4.toNat+x12.toNat) dd).Y)==((l10.getD (x4.toNat+((w64 (x12-1)).toNat)) dd).Y))&&true)) then bif inb x11 l10.length then yJ x12 (zS l3 x4 n) (l10.set x11.toNat (l10.getD (x4.toNat+x12.toNat) dd)) (w64 (x11+1)) else none else yJ x12 (zS l3 x4 n) l10 x11 else none else none else none else some (l10,x11)
def yM :Nat->(List qA)->Int->Option (((List qA)×(List qA))⊕(List qA))
 |0,_,_=>none
 |n+1,l3,x4=> bif decide (x4<(l3.length:Int)) then bif inb x4 l3.length then bif inb (w64 (x4-1)) l3.length then bif ((((l3.getD x4.toNat dd).X)==((l3.getD ((w64 (x4-1)).toNat) dd).X))&&((((l3.getD x4.toNat dd).Y)==((l3.getD ((w64 (x4-1)).toNat) dd).Y))&&true)) then bif slOk x4 (l3.length:Int) l3.length then (zS l3 x4 FUEL l3 x4 1).bind λo23=> bif slOk o23.2 (o23.1.length:Int) o23.1.length then bif slOk 0 o23.2 o23.1.length then some (Sum.inl ((o23.1.take o23.2.toNat),(o23.1.take o23.2.toNat))) else none else none else none else (yM n) l3 (w64 (x4+1)) else none else none else some (Sum.inr l3)
def ZF (a1:List qA):Option ((List qA)×(List qA)):= bif decide ((a1.length:Int)<2) then some (a1,a1) else (yM FUEL a1 1).bind λu30=>Sum.elim (λv31=>some v31) (λo28=> some (o28,o28)) u30
def SA (a1:qA) (a2:qA) (a3:qA):Option Int:= some (w64 ((w64 ((w64 (a2.X-a1.X))*(w64 (a3.Y-a1.Y))))-(w64 ((w64 (a3.X-a1.X))*(w64 (a2.Y-a1.Y))))))
def GS (l6:List qA) (R:(List qA)->Option (List qA)) (x12:Bool):Option (List qA):= bif x12 then bif slOk 0 (w64 ((l6.length:Int)-1)) l6.length then R (l6.take ((w64 ((l6.length:Int)-1)).toNat)) else none else some l6
def WL (a1:List qA) (x3:Int):Nat->(List qA)->Option (List qA)
 |0,_=>none
 |n+1,l6=> bif decide ((l6.length:Int)≥2) then bif inb (w64 ((l6.length:Int)-2)) l6.length then bif inb (w64 ((l6.length:Int)-1)) l6.length then (SA (l6.getD ((w64 ((l6.length:Int)-2)).toNat) dd) (l6.getD ((w64 ((l6.length:Int)-1)).toNat) dd) (a1.getD x3.toNat dd)).bind λv10=> GS l6 (WL a1 x3 n) (decide (v10<=0)) else none else none else GS l6 (WL a1 x3 n) false
def GD (a1:List qA):Nat->(List qA)->Int->Option (List qA)
 |0,_,_=>none
 |n+1,l2,x3=> bif decide (x3<(a1.length:Int)) then bif inb x3 a1.length then (WL a1 x3 FUEL l2).bind λo16=> bif room (o16.length+1) 16 then (GD a1 n) (o16++[(a1.getD x3.toNat dd)]) (w64 (x3+1)) else none else none else some l2
def DO (a1:List qA):Option (List qA):= (GD a1 FUEL [] 0).bind λo20=> bif slOk 0 (w64 ((o20.length:Int)-1)) o20.length then some (o20.take ((w64 ((o20.length:Int)-1)).toNat)) else none
def yG :Nat->(List qA)->Int->Int->Option (List qA)
 |0,_,_,_=>none
 |n+1,l2,x3,x4=> bif decide (x3<x4) then bif inb x4 l2.length then bif inb x3 l2.length then (yG n) ((l2.set x3.toNat (l2.getD x4.toNat dd)).set x4.toNat (l2.getD x3.toNat dd)) (w64 (x3+1)) (w64 (x4-1)) else none else none else some l2
def ZA (a1:List qA):Option (List qA):= (yG FUEL a1 0 (w64 ((a1.length:Int)-1))).bind λo9=> some o9
def RM (a1:List qA) (x6:Bool):Option (List qA):= bif x6 then some ([]:List qA) else (WY a1).bind λv8=> (QQ v8).bind λv10=> bif v10.length==v8.length then (ZF v10).bind λv13=> (DO v13.2).bind λv15=> (ZA v13.2).bind λv17=> bif v17.length==v13.2.length then (DO v17).bind λv20=> bif room (v15.length+v20.length) 16 then bif decide ((((v15.length+v20.length):Nat):Int)<3) then some ([]:List qA) else some (v15++v20) else none else none else none
def IK (a1:List qA):Option (List qA):= bif decide ((a1.length:Int)<3) then RM a1 true else bif decide ((a1.length:Int)>32) then RM a1 true else (JK a1).bind λv4=> RM a1 (!v4)
def UC (a1:List qA):Nat->Int->Rect->Option Rect
 |0,_,_=>none
 |n+1,x4,x5=> bif decide (x4<(a1.length:Int)) then bif inb x4 a1.length then (UC a1 n) (w64 (x4+1)) (Rect.mk (Span.mk (imin x5.X.A ((a1.getD x4.toNat dd).X)) (imax x5.X.B ((a1.getD x4.toNat dd).X))) (Span.mk (imin x5.Y.A ((a1.getD x4.toNat dd).Y)) (imax x5.Y.B ((a1.getD x4.toNat dd).Y)))) else none else some x5
def LE (a1:List qA):Option Rect:= bif (a1.length:Int)==0 then some (Rect.mk (Span.mk 0 0) (Span.mk 0 0)) else bif inb 0 a1.length then (UC a1 FUEL 0 (Rect.mk (Span.mk ((a1.getD (0:Int).toNat dd).X) ((a1.getD (0:Int).toNat dd).X)) (Span.mk ((a1.getD (0:Int).toNat dd).Y) ((a1.getD (0:Int).toNat dd).Y)))).bind λo9=> some o9 else none
def GA (x5:Int):Option Int:= some x5
def DL (a1:Int) (a2:Int):Option Int:= bif nz a2 then bif decide ((Int.tmod a1 a2)<0) then GA (w64 ((w64 (Int.tdiv a1 a2))-1)) else GA (w64 (Int.tdiv a1 a2)) else none
def JI (x6:Int) (R:Int->Int->Int->Option (Int×Int)) (x23:Int) (x24:Int):Option (Int×Int):= R x23 x24 (w64 (x6+1))
def JE (a1:Int) (a3:List qA) (x4:Int) (x5:Int) (x6:Int) (R:Int->Int->Int->Option (Int×Int)) (x19:Bool):Option (Int×Int):= bif x19 then (DL (w64 ((w64 (((a3.getD ((Int.tmod (w64 (x6+1)) (a3.length:Int)).toNat) dd).X)-((a3.getD x6.toNat dd).X)))*(w64 (a1-((a3.getD ((Int.tmod (w64 (x6+1)) (a3.length:Int)).toNat) dd).Y))))) (w64 (((a3.getD x6.toNat dd).Y)-((a3.getD ((Int.tmod (w64 (x6+1)) (a3.length:Int)).toNat) dd).Y)))).bind λv21=> JI x6 R (w64 (((a3.getD ((Int.tmod (w64 (x6+1)) (a3.length:Int)).toNat) dd).X)-v21)) x5 else JI x6 R x4 x5
def JG (a1:Int) (a3:List qA) (x4:Int) (x5:Int) (x6:Int) (R:Int->Int->Int->Option (Int×Int)) (x13:Bool):Option (Int×Int):= bif x13 then (DL (w64 ((w64 (((a3.getD ((Int.tmod (w64 (x6+1)) (a3.length:Int)).toNat) dd).X)-((a3.getD x6.toNat dd).X)))*(w64 (a1-((a3.getD x6.toNat dd).Y))))) (w64 (((a3.getD ((Int.tmod (w64 (x6+1)) (a3.length:Int)).toNat) dd).Y)-((a3.getD x6.toNat dd).Y)))).bind λv15=> JI x6 R x4 (w64 (((a3.getD x6.toNat dd).X)+v15)) else bif decide (((a3.getD x6.toNat dd).Y)>((a3.getD ((Int.tmod (w64 (x6+1)) (a3.length:Int)).toNat) dd).Y)) then bif decide (((a3.getD ((Int.tmod (w64 (x6+1)) (a3.length:Int)).toNat) dd).Y)<=a1) then JE a1 a3 x4 x5 x6 R (decide (a1<=((a3.getD x6.toNat dd).Y)))
 else JE a1 a3 x4 x5 x6 R false else JE a1 a3 x4 x5 x6 R false
def wB (a1:Int) (a3:List qA):Nat->Int->Int->Int->Option (Int×Int)
 |0,_,_,_=>none
 |n+1,x4,x5,x6=> bif decide (x6<(a3.length:Int)) then bif inb x6 a3.length then bif nz (a3.length:Int) then bif inb (Int.tmod (w64 (x6+1)) (a3.length:Int)) a3.length then bif decide (((a3.getD x6.toNat dd).Y)<((a3.getD ((Int.tmod (w64 (x6+1)) (a3.length:Int)).toNat) dd).Y)) then bif decide (((a3.getD x6.toNat dd).Y)<=a1) then JG a1 a3 x4 x5 x6 (wB a1 a3 n) (decide (a1<=((a3.getD ((Int.tmod (w64 (x6+1)) (a3.length:Int)).toNat) dd).Y))) else JG a1 a3 x4 x5 x6 (wB a1 a3 n) false else JG a1 a3 x4 x5 x6 (wB a1 a3 n) false else none else none else none else some (x4,x5)
def RE (a1:Int) (a2:Rect) (a3:List qA):Option (Int×Int):= (wB a1 a3 FUEL a2.X.A a2.X.B 0).bind λo27=> some (o27.1,o27.2)
def WJ (a2:Int) (a3:Int) (v4:(List qA)) (v6:Rect) (x11:Bool):Option Span:= bif x11 then some (Span.mk 0 0) else (RE a2 v6 v4).bind λv13=> (RE a3 v6 v4).bind λv15=> bif decide ((imax v13.1 v15.1)≥(imin v13.2 v15.2)) then some (Span.mk 0 0) else some (Span.mk (imax v13.1 v15.1) (imin v13.2 v15.2))
def HH (a1:List qA) (a2:Int) (a3:Int):Option Span:= (IK a1).bind λv4=> (LE v4).bind λv6=> bif (v4.length:Int)==0 then WJ a2 a3 v4 v6 true else bif decide (a2≥a3) then WJ a2 a3 v4 v6 true else bif decide (a2<v6.Y.A) then WJ a2 a3 v4 v6 true else WJ a2 a3 v4 v6 (decide (a3>v6.Y.B))
def NO (a1:Int) (a2:List qA):Option Span:= (RY a1 (w64 (a1+1))).bind λv3=> (HH a2 v3.A v3.B).bind λv5=> some v5
def wO (a1:Span):Option Bool:= some (decide (a1.A≥a1.B))
def ZP (x3:Int) (R:Int->Int->Int->(List Span)->Option (Int×Int×(List Span))) (x17:Int) (x18:Int) (l19:List Span):Option (Int×Int×(List Span)):= R x17 (w64 (x3+1)) x18 l19
def KF (x3:Int) (l5:List Span) (R:Int->Int->Int->(List Span)->Option (Int×Int×(List Span))) (v7:Span) (x13:Int):Option (Int×Int×(List Span)):= bif room (l5.length+1) 16 then ZP x3 R (((l5.length+1):Nat):Int) x13 (l5++[v7]) else none
def zT (a1:List qA):Nat->Int->Int->Int->(List Span)->Option (Int×Int×(List Span))
 |0,_,_,_,_=>none
 |n+1,x2,x3,x4,l5=> bif decide (x3<60) then (NO x3 a1).bind λv7=> (wO v7).bind λv9=> bif !v9 then bif x2==0 then KF x3 l5 (zT a1 n) v7 x3 else KF x3 l5 (zT a1 n) v7 x4 else bif decide (x2>0) then bif room (l5.length+1) 16 then ZP x3 (zT a1 n) x2 x4 (l5++[(Span.mk 0 0)]) else none else ZP x3 (zT a1 n) x2 x4 l5 else some (x2,x4,l5)
def GF (a1:List qA):Option qG:= (zT a1 FUEL 0 (-60) 0 []).bind λo23=> bif slOk 0 o23.1 o23.2.2.length then some (qG.mk o23.2.1 (o23.2.2.take o23.1.toNat)) else none
def SM (a1:List qA):Option (qG×Int):= (SG a1).bind λv2=> bif v2 !=0 then some ((qG.mk 0 []),v2) else (GF a1).bind λv5=> bif (v5.Rows.length:Int)==0 then some ((qG.mk 0 []),18) else some ((qG.mk v5.Low v5.Rows),0)
def UJ (a1:Ring) (a2:Int) (a3:Int):Option (qG×Int):= (HF a1 a2).bind λv4=> (LB (Ring.mk v4.Z v4.Read) a3).bind λv6=> bif v6.2 !=0 then some ((qG.mk 0 []),v6.2) else (SM v6.1).bind λv9=> some ((qG.mk v9.1.Low v9.1.Rows),v9.2)
def JY (x3:Bool):Option Bool:= some x3
def RD (a1:Span):Option Bool:= bif decide ((imin a1.A a1.B)≥(-600)) then JY (decide ((imax a1.A a1.B)<=600)) else JY false
def KO (a1:qG):Nat->Int->Option (Int⊕Unit)
 |0,_=>none
 |n+1,x6=> bif decide (x6<(a1.Rows.length:Int)) then bif inb x6 a1.Rows.length then (RD (a1.Rows.getD x6.toNat dd)).bind λv9=> bif !v9 then some (Sum.inl 9) else (KO a1 n) (w64 (x6+1)) else none else some (Sum.inr ())
def KK (x27:Int) (R:Int->Option (Int⊕Unit)) (x33:Bool):Option (Int⊕Unit):= bif x33 then some (Sum.inl 19) else R (w64 (x27+1))
def yC (a1:qG):Nat->Int->Option (Int⊕Unit)
 |0,_=>none
 |n+1,x27=> bif decide (x27<(a1.Rows.length:Int)) then bif inb x27 a1.Rows.length then (wO (a1.Rows.getD x27.toNat dd)).bind λv30=> bif v30 then KK x27 (yC a1 n) (!((((a1.Rows.getD x27.toNat dd).A)==0)&&((((a1.Rows.getD x27.toNat dd).B)==0)&&true))) else KK x27 (yC a1 n) false else none else some (Sum.inr ())
def KP (a1:qG) (x25:Bool):Option Int:= bif x25 then some 19 else (yC a1 FUEL 0).bind λu37=>Sum.elim (λv38=>some v38) (λo35=> some 0) u37
def KT (a1:qG) (x4:Bool):Option Int:= bif x4 then some 9 else (KO a1 FUEL 0).bind λu14=>Sum.elim (λv15=>some v15) (λo12=> bif (a1.Rows.length:Int)==0 then bif a1.Low !=0 then some 19 else some 0 else bif inb 0 a1.Rows.length then (wO (a1.Rows.getD (0:Int).toNat dd)).bind λv19=> bif v19 then KP a1 true else bif inb (w64 ((a1.Rows.length:Int)-1)) a1.Rows.length then (wO (a1.Rows.getD (w64 ((a1.Rows.length:Int)-1)).toNat dd)).bind λv23=> KP a1 v23 else none else none) u14
def KC (a1:qG):Option Int:= bif decide ((a1.Rows.length:Int)>120) then some 4 else bif decide (a1.Low<(-60)) then KT a1 true else KT a1 (decide (a1.Low>(w64 (60-(a1.Rows.length:Int)))))
def WC (a1:qG):Option qG:= (KC a1).bind λv2=> bif v2 !=0 then some (qG.mk 0 []) else some a1
def GQ (a1:qG) (a2:Int) (x4:Bool):Option Span:= bif x4 then some (Span.mk 0 0) else bif inb (w64 (a2-a1.Low)) a1.Rows.length then some (a1.Rows.getD (w64 (a2-a1.Low)).toNat dd) else none
def DH (a1:qG) (a2:Int):Option Span:= bif decide (a2<a1.Low) then GQ a1 a2 true else GQ a1 a2 (decide (a2≥(w64 (a1.Low+(a1.Rows.length:Int)))))
def IB (a1:Span) (a2:Span):Option Span:= bif decide ((imax a1.A a2.A)≥(imin a1.B a2.B)) then some (Span.mk 0 0) else some (Span.mk (imax a1.A a2.A) (imin a1.B a2.B))
def TI (a1:Int) (a2:qG) (a3:qG):Option Span:= (DH a2 a1).bind λv4=> (DH a3 a1).bind λv6=> (IB v4 v6).bind λv8=> some v8
def yQ (x4:Int) (R:Int->Int->Int->(List Span)->Option (Int×Int×(List Span))) (x18:Int) (x19:Int) (l20:List Span):Option (Int×Int×(List Span)):= R x18 (w64 (x4+1)) x19 l20
def WU (x4:Int) (l6:List Span) (R:Int->Int->Int->(List Span)->Option (Int×Int×(List Span))) (v8:Span) (x14:Int):Option (Int×Int×(List Span)):= bif room (l6.length+1) 16 then yQ x4 R (((l6.length+1):Nat):Int) x14 (l6++[v8]) else none
def zK (a1:qG) (a2:qG):Nat->Int->Int->Int->(List Span)->Option (Int×Int×(List Span))
 |0,_,_,_,_=>none
 |n+1,x3,x4,x5,l6=> bif decide (x4<60) then (TI x4 a1 a2).bind λv8=> (wO v8).bind λv10=> bif !v10 then bif x3==0 then WU x4 l6 (zK a1 a2 n) v8 x4 else WU x4 l6 (zK a1 a2 n) v8 x5 else bif decide (x3>0) then bif room (l6.length+1) 16 then yQ x4 (zK a1 a2 n) x3 x5 (l6++[(Span.mk 0 0)]) else none else yQ x4 (zK a1 a2 n) x3 x5 l6 else some (x3,x5,l6)
def KH (a1:qG) (a2:qG):Option qG:= (zK a1 a2 FUEL 0 (-60) 0 []).bind λo24=> bif slOk 0 o24.1 o24.2.2.length then some (qG.mk o24.2.1 (o24.2.2.take o24.1.toNat)) else none
def BM (a1:qG) (a2:qG):Option qG:= (WC a1).bind λv3=> (WC a2).bind λv5=> (KH v3 v5).bind λv7=> some (qG.mk v7.Low v7.Rows)
def GG (a1:Scan) (a2:Int) (a3:Int):Nat->(List qG)->Int->Option (((List qS)×Int)⊕(List qG))
 |0,_,_=>none
 |n+1,l8,x9=> bif decide (x9<(a1.Rings.length:Int)) then bif inb x9 a1.Rings.length then (UJ (a1.Rings.getD x9.toNat dd) a2 a3).bind λv12=> bif v12.2 !=0 then some (Sum.inl ([],30)) else bif inb x9 l8.length then (GG a1 a2 a3 n) (l8.set x9.toNat v12.1) (w64 (x9+1)) else none else none else some (Sum.inr l8)
def VX (a1:Scan) (o17:(List qG)):Nat->(List qS)->Int->Option (((List qS)×Int)⊕(List qS))
 |0,_,_=>none
 |n+1,l22,x23=> bif decide (x23<(((w64 ((a1.Rings.length:Int)-1)).toNat:Nat):Int)) then bif inb x23 o17.length then bif inb (w64 (x23+1)) o17.length then (BM (o17.getD x23.toNat dd) (o17.getD ((w64 (x23+1)).toNat) dd)).bind λv27=> bif (v27.Rows.length:Int)==0 then some (Sum.inl ([],30)) else bif inb (w64 (x23+1)) a1.Rings.length then bif inb x23 a1.Rings.length then bif inb x23 l22.length then (VX a1 o17 n) (l22.set x23.toNat (qS.mk (w64 (((a1.Rings.getD (w64 (x23+1)).toNat dd).Z)-((a1.Rings.getD x23.toNat dd).Z))) v27)) (w64 (x23+1)) else none else none else none else none else none else some (Sum.inr l22)
def ZQ (a1:Scan) (a2:Int) (a3:Int):Option ((List qS)×Int):= (jF a1).bind λv4=> bif v4 !=0 then some ([],v4) else bif mkOk (a1.Rings.length:Int) 32 then (GG a1 a2 a3 FUEL (List.replicate ((a1.Rings.length:Int).toNat) (qG.mk 0 [])) 0).bind λu19=>Sum.elim (λv20=>some v20) (λo17=> bif mkOk (w64 ((a1.Rings.length:Int)-1)) 40 then (VX a1 o17 FUEL (List.replicate ((w64 ((a1.Rings.length:Int)-1)).toNat) (qS.mk 0 (qG.mk 0 []))) 0).bind λu39=>Sum.elim (λv40=>some v40) (λo37=> some (o37,0)) u39 else none) u19 else none
def ZX (x3:Int) (R:(List Int)->Int->Option (List Int)) (l9:List Int):Option (List Int):= R l9 (w64 (x3+1))
def wP (a1:List qD):Nat->(List Int)->Int->Option (List Int)
 |0,_,_=>none
 |n+1,l2,x3=> bif decide (x3<(a1.length:Int)) then bif inb x3 a1.length then bif (a1.getD x3.toNat dd).Ok then bif room (l2.length+3) 8 then ZX x3 (wP a1 n) (l2++[1,((a1.getD x3.toNat dd).P).X,((a1.getD x3.toNat dd).P).Y]) else none else bif room (l2.length+1) 8 then ZX x3 (wP a1 n) (l2++[0]) else none else none else some l2
def XH (a1:List qD):Option (List Int):= (wP a1 FUEL [] 0).bind λo11=> some o11
def DU :Nat->Int->(List Int)->Option (Int×(List Int))
 |0,_,_=>none
 |n+1,x2,l3=> bif decide (x2≥128) then bif room (l3.length+1) 1 then (DU n) (shrI .u64 x2 7) (l3++[orI .u8 (IntKind.u8.wrap (x2)) 128]) else none else some (x2,l3)
def PV (a1:Int):Option ByteArray:= (DU FUEL a1 []).bind λo8=> bif room (o8.2.length+1) 1 then some (strTk (o8.2.length+1) (o8.2++[IntKind.u8.wrap (o8.1)])) else none
def DX (a1:Int):Option ByteArray:= bif decide (a1<0) then (PV (orI .u64 (shlI .u64 (notI .u64 (IntKind.u64.wrap (a1))) 1) 1)).bind λv3=> some v3 else (PV (shlI .u64 (IntKind.u64.wrap (a1)) 1)).bind λv5=> some v5
def FB (a1:List Int):Option ByteArray:=intsM PV DX a1
def JB (a1:List qK):Nat->(List Int)->Int->Option (List Int)
 |0,_,_=>none
 |n+1,l2,x3=> bif decide (x3<(a1.length:Int)) then bif inb x3 a1.length then bif room (l2.length+7) 8 then (JB a1 n) (l2++[(a1.getD x3.toNat dd).Kind,(((a1.getD x3.toNat dd).Box).X).A,(((a1.getD x3.toNat dd).Box).X).B,(((a1.getD x3.toNat dd).Box).Y).A,(((a1.getD x3.toNat dd).Box).Y).B,(((a1.getD x3.toNat dd).Box).Z).A,(((a1.getD x3.toNat dd).Box).Z).B]) (w64 (x3+1)) else none else none else some l2
def KR (a1:List qK):Option (List Int):= (JB a1 FUEL [] 0).bind λo8=> some o8
def TW (a1:Scan):Nat->(List Int)->ByteArray->Int->Option ((List Int)×ByteArray)
 |0,_,_,_=>none
 |n+1,l5,x6,x7=> bif decide (x7<(a1.Rings.length:Int)) then bif inb x7 a1.Rings.length then bif room (l5.length+1) 8 then (XH ((a1.Rings.getD x7.toNat dd).Read)).bind λv11=> (FB v11).bind λv13=> bif IU x6 v13 then (TW a1 n) (l5++[(a1.Rings.getD x7.toNat dd).Z]) (x6++v13) (w64 (x7+1)) else none else none else none else some (l5,x6)
def WQ (a1:Scan):Option (ByteArray×Int):= (jF a1).bind λv2=> bif v2 !=0 then some ((ByteArray.mk #[]),v2) else (TW a1 FUEL [] (ByteArray.mk #[]) 0).bind λo18=> (FB o18.1).bind λv20=> bif IU v20 o18.2 then (KR a1.Defects).bind λv23=> (FB v23).bind λv25=> bif IU (v20++o18.2) v25 then some ((v20++o18.2)++v25,0) else none else none
def UI (a1:ByteArray):Option qE:= some (qE.mk a1 0 0)
def WW (a1:qE):Option Bool:= some (a1.e !=0)
def QY (a1:Int) (a2:qE) (x3:Int) (x4:Int) (x13:Bool):Option ((Int×Int×Int)⊕Unit):= bif x13 then some (Sum.inl (0,0,5)) else some (Sum.inl (orI .u64 x3 (shlI .u64 (IntKind.u64.wrap (andI .u8 (yP a2.s ((w64 (a1+x4)).toNat)) 127)) (w64 (7*x4))),w64 ((w64 (a1+x4))+1),0))
def ZB (a1:Int) (a2:qE) (x3:Int) (x4:Int) (R:Int->Int->Option ((Int×Int×Int)⊕Unit)) (x8:Bool):Option ((Int×Int×Int)⊕Unit):= bif x8 then some (Sum.inl (0,0,5)) else bif nneg (w64 (7*x4)) then bif decide ((yP a2.s ((w64 (a1+x4)).toNat))≥128) then R (orI .u64 x3 (shlI .u64 (IntKind.u64.wrap (andI .u8 (yP a2.s ((w64 (a1+x4)).toNat)) 127)) (w64 (7*x4)))) (w64 (x4+1)) else bif (yP a2.s ((w64 (a1+x4)).toNat))==0 then QY a1 a2 x3 x4 (decide (x4>0)) else QY a1 a2 x3 x4 false else none
def wH (a1:Int) (a2:qE):Nat->Int->Int->Option ((Int×Int×Int)⊕Unit)
 |0,_,_=>none
 |n+1,x3,x4=> bif decide ((w64 (a1+x4))≥(a2.s.size:Int)) then some (Sum.inl (0,0,3)) else bif inb (w64 (a1+x4)) a2.s.size then bif x4==9 then ZB a1 a2 x3 x4 (wH a1 a2 n) (decide ((yP a2.s ((w64 (a1+x4)).toNat))>1)) else ZB a1 a2 x3 x4 (wH a1 a2 n) false else none
def QB (a1:Int) (a2:qE):Option (Int×Int×Int):= (wH a1 a2 FUEL 0 0).bind λu17=>Sum.elim (λv18=>some v18) (λo15=> none) u17
def QP (v4:Int×Int×Int) (x8:Bool):Option (Int×Int×Int):= bif x8 then some (0,0,4) else some (v4.1,v4.2.1,0)
def WX (a1:Int) (a2:Int) (a3:qE):Option (Int×Int×Int):= (QB a1 a3).bind λv4=> bif v4.2.2 !=0 then some (0,0,v4.2.2) else bif decide (a2<0) then QP v4 true else QP v4 (decide (v4.1>(IntKind.u64.wrap (a2))))
def QW (v5:Int×Int×Int) (x9:Int) (x11:Bool):Option (Int×Int×Int):= bif x11 then some (0,0,9) else some (x9,v5.2.1,0)
def ZH (a2:Int) (a3:Int) (v5:Int×Int×Int) (x9:Int):Option (Int×Int×Int):= bif decide (x9<a2) then QW v5 x9 true else QW v5 x9 (decide (x9>a3))
def YC (a1:Int) (a2:Int) (a3:Int) (a4:qE):Option (Int×Int×Int):= (QB a1 a4).bind λv5=> bif v5.2.2 !=0 then some (0,0,v5.2.2) else bif (andI .u64 v5.1 1)==1 then ZH a2 a3 v5 (notI .i64 (w64 (shrI .u64 v5.1 1))) else ZH a2 a3 v5 (w64 (shrI .u64 v5.1 1))
def PA (a1:Int) (a2:Int) (a3:qE):Option (Int×Int):= bif a2 !=0 then some (a3.at_,a2) else some (a1,a3.e)
def JA (a2:Int) (a3:Int) (a4:qE) (x10:Int) (x11:Int) (l12:List Int) (x13:Int) (R:Int->Int->(List Int)->Int->Option (Int×Int×(List Int))) (x15:Bool):Option (Int×Int×(List Int)):= bif x15 then (YC x10 a2 a3 a4).bind λv17=> bif room (l12.length+1) 8 then R v17.2.1 v17.2.2 (l12++[v17.1]) (IntKind.u64.wrap (x13+1)) else none else some (x10,x11,l12)
def jB (a2:Int) (a3:Int) (a4:qE) (v8:Int×Int×Int):Nat->Int->Int->(List Int)->Int->Option (Int×Int×(List Int))
 |0,_,_,_,_=>none
 |n+1,x10,x11,l12,x13=> bif decide (x13<v8.1) then JA a2 a3 a4 x10 x11 l12 x13 (jB a2 a3 a4 v8 n) (x11==0) else JA a2 a3 a4 x10 x11 l12 x13 (jB a2 a3 a4 v8 n) false
def KY (a1:Int) (a2:Int) (a3:Int) (a4:qE):Option ((List Int)×Int×Int):= (WW a4).bind λv5=> bif v5 then some ([],a4.at_,a4.e) else (WX a4.at_ a1 a4).bind λv8=> (jB a2 a3 a4 v8 FUEL v8.2.1 v8.2.2 [] 0).bind λo23=> (PA o23.1 o23.2.1 a4).bind λv25=> bif o23.2.1 !=0 then some ([],v25.1,v25.2) else some (o23.2.2,v25.1,v25.2)
def JU (a1:Int) (a2:qE):Option ((List Int)×Int×Int):= (KY a1 (-1099511627776) 1099511627776 a2).bind λv3=> some (v3.1,v3.2.1,v3.2.2)
def JO (l2:List Int) (l3:List qD) (R:(List Int)->(List qD)->Option (((List qD)×Bool)⊕(List qD))) (x10:Bool):Option (((List qD)×Bool)⊕(List qD)):= bif x10 then bif inb 1 l2.length then bif inb 2 l2.length then bif room (l3.length+1) 24 then bif slOk 3 (l2.length:Int) l2.length then R (l2.drop ((3:Int).toNat)) (l3++[(qD.mk (qA.mk (l2.getD (1:Int).toNat dd) (l2.getD (2:Int).toNat dd)) true)]) else none else none else none else none else some (Sum.inl ([],false))
def wJ :Nat->(List Int)->(List qD)->Option (((List qD)×Bool)⊕(List qD))
 |0,_,_=>none
 |n+1,l2,l3=> bif decide ((l2.length:Int)>0) then bif inb 0 l2.length then bif (l2.getD (0:Int).toNat dd)==0 then bif room (l3.length+1) 24 then bif slOk 1 (l2.length:Int) l2.length then (wJ n) (l2.drop ((1:Int).toNat)) (l3++[(qD.mk (qA.mk 0 0) false)]) else none else none else bif (l2.getD (0:Int).toNat dd)==1 then JO l2 l3 (wJ n) (decide ((l2.length:Int)≥3)) else JO l2 l3 (wJ n) false else none else some (Sum.inr l3)
def TC (a1:List Int):Option ((List qD)×Bool):= (wJ FUEL a1 []).bind λu19=>Sum.elim (λv20=>some v20) (λo17=> some (o17,true)) u19
def XD :Nat->(List Int)->(List qK)->Option (List qK)
 |0,_,_=>none
 |n+1,l3,l4=> bif decide ((l3.length:Int)>0) then bif inb 1 l3.length then bif inb 2 l3.length then bif inb 3 l3.length then bif inb 4 l3.length then bif inb 5 l3.length then bif inb 6 l3.length then bif inb 0 l3.length then bif room (l4.length+1) 56 then bif slOk 7 (l3.length:Int) l3.length then (XD n) (l3.drop ((7:Int).toNat)) (l4++[(qK.mk (l3.getD (0:Int).toNat dd) (Box.mk (Span.mk (l3.getD (1:Int).toNat dd) (l3.getD (2:Int).toNat dd)) (Span.mk (l3.getD (3:Int).toNat dd) (l3.getD (4:Int).toNat dd)) (Span.mk (l3.getD (5:Int).toNat dd) (l3.getD (6:Int).toNat dd))))]) else none else none else none else none else none else none else none else none else none else some l4
def TH (a1:List Int):Option ((List qK)×Bool):= bif (Int.tmod (a1.length:Int) 7) !=0 then some ([],false) else (XD FUEL a1 []).bind λo16=> some (o16,true)
def RH (a1:qE):Option Int:= some a1.e
def KQ (a1:qE):Option Int:= some (w64 ((a1.s.size:Int)-a1.at_))
def RX (a1:qE):Option Int:= (RH a1).bind λv2=> bif v2 !=0 then some v2 else (KQ a1).bind λv5=> bif decide (v5>0) then some 4 else some 0
def VW (v2:qE) (v4:(List Int)×Int×Int):Nat->Int->(List Ring)->Int->Int->Option ((Scan×Bool)⊕((List Ring)×qE))
 |0,_,_,_,_=>none
 |n+1,x6,l7,x8,x9=> bif decide (x6<(v4.1.length:Int)) then bif inb x6 v4.1.length then (JU 96 (qE.mk v2.s x8 x9)).bind λv12=> (TC v12.1).bind λv14=> bif !v14.2 then some (Sum.inl ((Scan.mk [] []),false)) else bif room (l7.length+1) 32 then (VW v2 v4 n) (w64 (x6+1)) (l7++[(Ring.mk (v4.1.getD x6.toNat dd) v14.1)]) v12.2.1 v12.2.2 else none else none else some (Sum.inr (l7,(qE.mk v2.s x8 x9)))
def GJ (o20:(List Ring)×qE) (v26:(List qK)×Bool) (x31:Bool):Option (Scan×Bool):= bif x31 then some ((Scan.mk [] []),false) else some ((Scan.mk o20.1 v26.1),true)
def SJ (a1:ByteArray):Option (Scan×Bool):= (UI a1).bind λv2=> (JU 24 v2).bind λv4=> (VW v2 v4 FUEL 0 [] v4.2.1 v4.2.2).bind λu22=>Sum.elim (λv23=>some v23) (λo20=> (JU 448 o20.2).bind λv24=> (TH v24.1).bind λv26=> bif !v26.2 then GJ o20 v26 true else (RX (qE.mk o20.2.s v24.2.1 v24.2.2)).bind λv29=> GJ o20 v26 (v29 !=0)) u22
def WS (a1:ByteArray):Option (Scan×Int):= (SJ a1).bind λv2=> bif !v2.2 then some ((Scan.mk [] []),5) else (jF (Scan.mk v2.1.Rings v2.1.Defects)).bind λv5=> bif v5 !=0 then some ((Scan.mk [] []),v5) else some ((Scan.mk v2.1.Rings v2.1.Defects),0)
def yK (a1:List qD) (a2:List qD):Nat->Int->Option (Bool⊕Unit)
 |0,_=>none
 |n+1,x4=> bif decide (x4<(a1.length:Int)) then bif inb x4 a1.length then bif inb x4 a2.length then bif !((((((a1.getD x4.toNat dd).P).X)==(((a2.getD x4.toNat dd).P).X))&&(((((a1.getD x4.toNat dd).P).Y)==(((a2.getD x4.toNat dd).P).Y))&&true))&&((((a1.getD x4.toNat dd).Ok)==((a2.getD x4.toNat dd).Ok))&&true)) then some (Sum.inl false) else (yK a1 a2 n) (w64 (x4+1)) else none else none else some (Sum.inr ())
def ZD (a1:List qD) (a2:List qD):Option Bool:= bif (a1.length:Int) !=(a2.length:Int) then some false else (yK a1 a2 FUEL 0).bind λu11=>Sum.elim (λv12=>some v12) (λo9=> some true) u11
def TU (x6:Bool):Option Bool:= some x6
def LI (a1:Ring) (a2:Ring):Option Bool:= bif a1.Z==a2.Z then (ZD a1.Read a2.Read).bind λv4=> TU v4 else TU false
def jT (a1:List Ring) (a2:List Ring):Nat->Int->Option (Bool⊕Unit)
 |0,_=>none
 |n+1,x4=> bif decide (x4<(a1.length:Int)) then bif inb x4 a1.length then bif inb x4 a2.length then (LI (a1.getD x4.toNat dd) (a2.getD x4.toNat dd)).bind λv8=> bif !v8 then some (Sum.inl false) else (jT a1 a2 n) (w64 (x4+1)) else none else none else some (Sum.inr ())
def QO (a1:List Ring) (a2:List Ring):Option Bool:= bif (a1.length:Int) !=(a2.length:Int) then some false else (jT a1 a2 FUEL 0).bind λu13=>Sum.elim (λv14=>some v14) (λo11=> some true) u13
def yS (a1:List qK) (a2:List qK):Nat->Int->Option (Bool⊕Unit)
 |0,_=>none
 |n+1,x4=> bif decide (x4<(a1.length:Int)) then bif inb x4 a1.length then bif inb x4 a2.length then bif !((((a1.getD x4.toNat dd).Kind)==((a2.getD x4.toNat dd).Kind))&&((((((((a1.getD x4.toNat dd).Box).X).A)==((((a2.getD x4.toNat dd).Box).X).A))&&((((((a1.getD x4.toNat dd).Box).X).B)==((((a2.getD x4.toNat dd).Box).X).B))&&true))&&(((((((a1.getD x4.toNat dd).Box).Y).A)==((((a2.getD x4.toNat dd).Box).Y).A))&&((((((a1.getD x4.toNat dd).Box).Y).B)==((((a2.getD x4.toNat dd).Box).Y).B))&&true))&&(((((((a1.getD x4.toNat dd).Box).Z).A)==((((a2.getD x4.toNat dd).Box).Z).A))&&((((((a1.getD x4.toNat dd).Box).Z).B)==((((a2.getD x4.toNat dd).Box).Z).B))&&true))&&true)))&&true)) then some (Sum.inl false) else
 (yS a1 a2 n) (w64 (x4+1)) else none else none else some (Sum.inr ())
def ZO (a1:List qK) (a2:List qK):Option Bool:= bif (a1.length:Int) !=(a2.length:Int) then some false else (yS a1 a2 FUEL 0).bind λu11=>Sum.elim (λv12=>some v12) (λo9=> some true) u11
def NH (x8:Bool):Option Bool:= some x8
def UZ (a1:Scan) (a2:Scan):Option Bool:= (QO a1.Rings a2.Rings).bind λv3=> bif v3 then (ZO a1.Defects a2.Defects).bind λv6=> NH v6 else NH false
def TN (a1:List qS) (x4:Int) (x5:Int) (R:Int->Int->Option (Int⊕Unit)) (x13:Bool):Option (Int⊕Unit):= bif x13 then some (Sum.inl 9) else R (w64 (x4+((a1.getD x5.toNat dd).Len))) (w64 (x5+1))
def ZE (a1:List qS):Nat->Int->Int->Option (Int⊕Unit)
 |0,_,_=>none
 |n+1,x4,x5=> bif decide (x5<(a1.length:Int)) then bif inb x5 a1.length then (KC ((a1.getD x5.toNat dd).Sec)).bind λv8=> bif v8 !=0 then some (Sum.inl v8) else bif (((((a1.getD x5.toNat dd).Sec).Rows).length:Nat):Int)==0 then some (Sum.inl 18) else bif decide (((a1.getD x5.toNat dd).Len)<1) then TN a1 x4 x5 (ZE a1 n) true else TN a1 x4 x5 (ZE a1 n) (decide (((a1.getD x5.toNat dd).Len)>(w64 (20000-x4)))) else none else some (Sum.inr ())
def LF (a1:List qS):Option Int:= bif (a1.length:Int)==0 then some 3 else bif decide ((a1.length:Int)>24) then some 4 else (ZE a1 FUEL 0 0).bind λu17=>Sum.elim (λv18=>some v18) (λo15=> some 0) u17
def LP (a1:List qS):Option (List qS):= (LF a1).bind λv2=> bif v2 !=0 then some ([]:List qS) else some a1
def ET (a1:Span):Option Int:= bif decide (a1.A≥a1.B) then some 0 else some (IntKind.u64.wrap ((IntKind.u64.wrap (a1.B))-(IntKind.u64.wrap (a1.A))))
def BJ (a1:Int):Option Int:= some (w64 (imin a1 9223372036854775807))
def qAB (a1:Span):Option Int:= (ET a1).bind λv2=> (BJ v2).bind λv4=> some v4
def RC (v2:qG):Nat->Int->Int->Option Int
 |0,_,_=>none
 |n+1,x4,x5=> bif decide (x5<(v2.Rows.length:Int)) then bif inb x5 v2.Rows.length then (qAB (v2.Rows.getD x5.toNat dd)).bind λv8=> (RC v2 n) (w64 (x4+v8)) (w64 (x5+1)) else none else some x4
def NJ (a1:qG):Option Int:= (WC a1).bind λv2=> (RC v2 FUEL 0 0).bind λo11=> some (w64 (10*o11))
def RT (v2:(List qS)):Nat->Int->Int->Option Int
 |0,_,_=>none
 |n+1,x4,x5=> bif decide (x5<(v2.length:Int)) then bif inb x5 v2.length then (NJ ((v2.getD x5.toNat dd).Sec)).bind λv8=> (RT v2 n) (w64 (x4+(w64 (((v2.getD x5.toNat dd).Len)*v8)))) (w64 (x5+1)) else none else some x4
def PW (a1:List qS):Option Int:= (LP a1).bind λv2=> (RT v2 FUEL 0 0).bind λo11=> some o11 @[irreducible] def law15_awake :Option Bool:=some true
def jI (x2:Int) (R:Int->Option (Bool⊕Unit)) (x8:Bool):Option (Bool⊕Unit):= bif x8 then some (Sum.inl false) else R (w64 (x2+1))
def zO (a1:List qA):Nat->Int->Option (Bool⊕Unit)
 |0,_=>none
 |n+1,x2=> bif decide (x2<(a1.length:Int)) then bif inb x2 a1.length then bif decide (((a1.getD x2.toNat dd).X)<(-600)) then jI x2 (zO a1 n) true else bif decide (((a1.getD x2.toNat dd).X)>600) then jI x2 (zO a1 n) true else bif decide (((a1.getD x2.toNat dd).Y)<(-600)) then jI x2 (zO a1 n) true else jI x2 (zO a1 n) (decide (((a1.getD x2.toNat dd).Y)>600)) else none else some (Sum.inr ())
def JW (a1:List qA):Option Bool:= (zO a1 FUEL 0).bind λu12=>Sum.elim (λv13=>some v13) (λo10=> some true) u12
def YM (x7:Int) (R:Int->Option (Int⊕Unit)) (x16:Bool):Option (Int⊕Unit):= bif x16 then some (Sum.inl 19) else R (w64 (x7+1))
def YK (a1:Ring) (x7:Int) (R:Int->Option (Int⊕Unit)) (x13:Bool):Option (Int⊕Unit):= bif x13 then some (Sum.inl 9) else bif !((a1.Read.getD x7.toNat dd).Ok) then YM x7 R (!(((((a1.Read.getD x7.toNat dd).P).X)==0)&&(((((a1.Read.getD x7.toNat dd).P).Y)==0)&&true))) else YM x7 R false
def zW (a1:Ring):Nat->Int->Option (Int⊕Unit)
 |0,_=>none
 |n+1,x7=> bif decide (x7<(a1.Read.length:Int)) then bif inb x7 a1.Read.length then bif (a1.Read.getD x7.toNat dd).Ok then (JW [(a1.Read.getD x7.toNat dd).P]).bind λv11=> YK a1 x7 (zW a1 n) (!v11) else YK a1 x7 (zW a1 n) false else none else some (Sum.inr ())
def YT (a1:Ring) (x5:Bool):Option Int:= bif x5 then some 9 else (zW a1 FUEL 0).bind λu20=>Sum.elim (λv21=>some v21) (λo18=> some 0) u20
def XM (a1:Ring):Option Int:= bif decide ((a1.Read.length:Int)<8) then some 3 else bif decide ((a1.Read.length:Int)>32) then some 4 else bif decide (a1.Z<0) then YT a1 true else YT a1 (decide (a1.Z>20000))
def QU (x4:Bool):Option Bool:= some x4
def XI (a1:Box):Option Bool:= bif decide (a1.X.A≥a1.X.B) then QU true else bif decide (a1.Y.A≥a1.Y.B) then QU true else QU (decide (a1.Z.A≥a1.Z.B))
def UR (x5:Bool):Option Bool:= some x5
def PB (a1:Span) (a2:Int) (a3:Int):Option Bool:= bif decide (a2<=a1.A) then UR (decide (a1.B<=a3)) else UR false
def QF (x10:Bool):Option Bool:= some x10
def JQ (a1:Box):Option Bool:= (PB a1.X (-600) 600).bind λv2=> bif v2 then (PB a1.Y (-600) 600).bind λv5=> bif v5 then (PB a1.Z 0 20000).bind λv8=> QF v8 else QF false else QF false
def YN (a1:List qK) (x3:Int) (R:Int->Option (Int⊕Unit)) (x7:Bool):Option (Int⊕Unit):= bif x7 then some (Sum.inl 10) else bif inb x3 a1.length then (XI ((a1.getD x3.toNat dd).Box)).bind λv10=> bif v10 then some (Sum.inl 19) else (JQ ((a1.getD x3.toNat dd).Box)).bind λv13=> bif !v13 then some (Sum.inl 9) else R (w64 (x3+1)) else none
def zZ (a1:List qK):Nat->Int->Option (Int⊕Unit)
 |0,_=>none
 |n+1,x3=> bif decide (x3<(a1.length:Int)) then bif inb x3 a1.length then bif decide (((a1.getD x3.toNat dd).Kind)<1) then YN a1 x3 (zZ a1 n) true else YN a1 x3 (zZ a1 n) (decide (((a1.getD x3.toNat dd).Kind)>6)) else none else some (Sum.inr ())
def XQ (a1:List qK):Option Int:= bif decide ((a1.length:Int)>64) then some 4 else (zZ a1 FUEL 0).bind λu18=>Sum.elim (λv19=>some v19) (λo16=> some 0) u18
def jD (a1:Scan) (x5:Int) (R:Int->Int->Option (Int⊕Int)) (x15:Bool):Option (Int⊕Int):= bif x15 then some (Sum.inl 11) else bif inb 0 a1.Rings.length then bif ((((a1.Rings.getD x5.toNat dd).Read).length:Nat):Int) !=((((a1.Rings.getD (0:Int).toNat dd).Read).length:Nat):Int) then some (Sum.inl 19) else R ((a1.Rings.getD x5.toNat dd).Z) (w64 (x5+1)) else none
def zC (a1:Scan):Nat->Int->Int->Option (Int⊕Int)
 |0,_,_=>none
 |n+1,x4,x5=> bif decide (x5<(a1.Rings.length:Int)) then bif inb x5 a1.Rings.length then (XM (a1.Rings.getD x5.toNat dd)).bind λv8=> bif v8 !=0 then some (Sum.inl v8) else bif x5==0 then bif ((a1.Rings.getD x5.toNat dd).Z) !=0 then jD a1 x5 (zC a1 n) true else bif decide (x5>0) then jD a1 x5 (zC a1 n) (decide (((a1.Rings.getD x5.toNat dd).Z)<=x4)) else jD a1 x5 (zC a1 n) false else bif decide (x5>0) then jD a1 x5 (zC a1 n) (decide (((a1.Rings.getD x5.toNat dd).Z)<=x4)) else jD a1 x5 (zC a1 n) false else none else some (Sum.inr x4)
def jX (a1:Scan) (o20:Int):Nat->Int->Option (Int⊕Unit)
 |0,_=>none
 |n+1,x27=> bif decide (x27<(a1.Defects.length:Int)) then bif inb x27 a1.Defects.length then bif decide (((((a1.Defects.getD x27.toNat dd).Box).Z).B)>o20) then some (Sum.inl 9) else (jX a1 o20 n) (w64 (x27+1)) else none else some (Sum.inr ())
def XR (a1:Scan):Option Int:= bif decide ((a1.Rings.length:Int)<2) then some 3 else bif decide ((a1.Rings.length:Int)>24) then some 4 else (zC a1 FUEL 0 0).bind λu22=>Sum.elim (λv23=>some v23) (λo20=> (XQ a1.Defects).bind λv24=> bif v24 !=0 then some v24 else (jX a1 o20 FUEL 0).bind λu33=>Sum.elim (λv34=>some v34) (λo31=> some 0) u33) u22
def jA (x14:Bool):Option Bool:= some x14
def yH (a1:Scan):Option Bool:= (VN a1).bind λv2=> bif !v2 then (law15_awake).bind λv5=> jA v5 else (jF a1).bind λv7=> (XR a1).bind λv9=> bif v7==v9 then (law15_awake).bind λv12=> jA v12 else jA false
end Saw
end Go.SL

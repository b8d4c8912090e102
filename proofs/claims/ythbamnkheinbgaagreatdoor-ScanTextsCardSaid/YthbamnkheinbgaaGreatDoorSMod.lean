import Derived.Test.YthbamnkheinbgaaGreatDoorYa6
set_option linter.unusedVariables false
set_option linter.unusedSimpArgs false
namespace Go.SL
namespace Saw
structure qA where
 X:Int
 Y:Int
instance : Inhabited qA:=⟨⟨0,0⟩⟩
def qC (r:qA):List C:=[ci r.X,ci r.Y]
structure qB where
 P:qA
 Ok:Bool
instance : Inhabited qB:=⟨⟨dd,false⟩⟩
def qE (r:qB):List C:=[ci r.P.X,ci r.P.Y,cb r.Ok]
structure Ring where
 Z:Int
 Read:List qB
instance : Inhabited Ring:=⟨⟨0,[]⟩⟩
def qM (r:Ring):List C:=[ci r.Z,tl qE dd r.Read]
structure Span where
 A:Int
 B:Int
instance : Inhabited Span:=⟨⟨0,0⟩⟩
def qN (r:Span):List C:=[ci r.A,ci r.B]
structure Box where
 X:Span
 Y:Span
 Z:Span
instance : Inhabited Box:=⟨⟨dd,dd,dd⟩⟩
def BB (r:Box):List C:=[ci r.X.A,ci r.X.B,ci r.Y.A,ci r.Y.B,ci r.Z.A,ci r.Z.B]
structure qG where
 Kind:Int
 Box:Box
instance : Inhabited qG:=⟨⟨0,dd⟩⟩
def qL (r:qG):List C:=[ci r.Kind,ci r.Box.X.A,ci r.Box.X.B,ci r.Box.Y.A,ci r.Box.Y.B,ci r.Box.Z.A,ci r.Box.Z.B]
structure Scan where
 Rings:List Ring
 Defects:List qG
instance : Inhabited Scan:=⟨⟨[],[]⟩⟩
def qV (r:Scan):List C:=[tl qM dd r.Rings,tl qL dd r.Defects]
structure qK where
 Low:Int
 Rows:List Span
instance : Inhabited qK:=⟨⟨0,[]⟩⟩
def qQ (r:qK):List C:=[ci r.Low,tl qN dd r.Rows]
structure Rect where
 X:Span
 Y:Span
instance : Inhabited Rect:=⟨⟨dd,dd⟩⟩
def WI (r:Rect):List C:=[ci r.X.A,ci r.X.B,ci r.Y.A,ci r.Y.B]
structure qW where
 Len:Int
 Sec:qK
instance : Inhabited qW:=⟨⟨0,dd⟩⟩
def qZ (r:qW):List C:=[ci r.Len,ci r.Sec.Low,tl qN dd r.Sec.Rows]
structure qF where
 s:ByteArray
 at_:Int
 e:Int
instance : Inhabited qF:=⟨⟨⟨#[]⟩,0,0⟩⟩
def qO (r:qF):List C:=[cs r.s,ci r.at_,ci r.e]
structure qI where
 S:ByteArray
 At:Int
 E:Int
instance : Inhabited qI:=⟨⟨⟨#[]⟩,0,0⟩⟩
def qR (r:qI):List C:=[cs r.S,ci r.At,ci r.E]
def IK :List Int:=[(-1),1]
def globs :List (Nat×C):=[(0,.aptr 2 1 (rf qH IK))]
def ZF (a1:Scan):Nat->Int->Option (Bool⊕Unit)
 |0,_=>none
 |n+1,x5=> bif decide (x5<(a1.Rings.length:Int)) then bif inb x5 a1.Rings.length then bif decide (((((a1.Rings.getD x5.toNat dd).Read).length:Nat):Int)>60) then some (Sum.inl false) else (ZF a1 n) (w64 (x5+1)) else none else some (Sum.inr ())
def UZ (a1:Scan) (x3:Bool):Option Bool:= bif x3 then some false else (ZF a1 FUEL 0).bind λu11=>Sum.elim (λv12=>some v12) (λo9=> some true) u11
def NK (a1:Scan):Option Bool:= bif decide ((a1.Rings.length:Int)>40) then UZ a1 true else UZ a1 (decide ((a1.Defects.length:Int)>100))
def XY :Nat->Int->(List qB)->Option (List qB)
 |0,_,_=>none
 |n+1,x4,l5=> bif decide (x4<((8:Nat):Int)) then bif inb x4 8 then bif room (l5.length+1) 24 then (XY n) (w64 (x4+1)) (l5++([(qB.mk (qA.mk (([(-50),0,50,50,50,0,(-50),(-50)]:List Int).getD x4.toNat dd) (([(-20),(-20),(-20),0,20,20,20,0]:List Int).getD x4.toNat dd)) true)]:List qB)) else none else none else some l5
def PG (x3:Bool):Option Bool:= some x3
def XJ (a1:Int):Option Bool:= bif decide (a1≥(-600)) then PG (decide (a1<=600)) else PG false
def RZ (x7:Int) (R:Int->Option (Int⊕Unit)) (x19:Bool):Option (Int⊕Unit):= bif x19 then some (Sum.inl 19) else R (w64 (x7+1))
def XB (a1:Ring) (x7:Int) (R:Int->Option (Int⊕Unit)) (x16:Bool):Option (Int⊕Unit):= bif x16 then some (Sum.inl 9) else bif !((a1.Read.getD x7.toNat dd).Ok) then RZ x7 R (!(((((a1.Read.getD x7.toNat dd).P).X)==0)&&(((((a1.Read.getD x7.toNat dd).P).Y)==0)&&true))) else RZ x7 R false
def wN (a1:Ring):Nat->Int->Option (Int⊕Unit)
 |0,_=>none
 |n+1,x7=> bif decide (x7<(a1.Read.length:Int)) then bif inb x7 a1.Read.length then bif (a1.Read.getD x7.toNat dd).Ok then (XJ (((a1.Read.getD x7.toNat dd).P).X)).bind λv11=> bif !v11 then XB a1 x7 (wN a1 n) true else (XJ (((a1.Read.getD x7.toNat dd).P).Y)).bind λv14=> XB a1 x7 (wN a1 n) (!v14) else XB a1 x7 (wN a1 n) false else none else some (Sum.inr ())
def TA (a1:Ring) (x5:Bool):Option Int:= bif x5 then some 9 else (wN a1 FUEL 0).bind λu23=>Sum.elim (λv24=>some v24) (λo21=> some 0) u23
def JZ (a1:Ring):Option Int:= bif decide ((a1.Read.length:Int)<8) then some 3 else bif decide ((a1.Read.length:Int)>32) then some 4 else bif decide (a1.Z<0) then TA a1 true else TA a1 (decide (a1.Z>20000))
def QV (a1:Span):Option Bool:= some (decide (a1.A≥a1.B))
def YJ (x5:Bool):Option Bool:= some x5
def QF (a1:Span) (a2:Int) (a3:Int):Option Bool:= bif decide ((imin a1.A a1.B)≥a2) then YJ (decide ((imax a1.A a1.B)<=a3)) else YJ false
def ZZ (x23:Bool):Option Int:= bif x23 then some 9 else some 0
def WN (a1:qG) (x13:Bool):Option Int:= bif x13 then some 19 else (QF a1.Box.X (-600) 600).bind λv15=> bif !v15 then ZZ true else (QF a1.Box.Y (-600) 600).bind λv18=> bif !v18 then ZZ true else (QF a1.Box.Z 0 20000).bind λv21=> ZZ (!v21)
def KC (a1:qG) (x3:Bool):Option Int:= bif x3 then some 10 else (QV a1.Box.X).bind λv5=> bif v5 then WN a1 true else (QV a1.Box.Y).bind λv8=> bif v8 then WN a1 true else (QV a1.Box.Z).bind λv11=> WN a1 v11
def KH (a1:qG):Option Int:= bif decide (a1.Kind<1) then KC a1 true else KC a1 (decide (a1.Kind>6))
def jU (a1:List qG):Nat->Int->Option (Int⊕Unit)
 |0,_=>none
 |n+1,x3=> bif decide (x3<(a1.length:Int)) then bif inb x3 a1.length then (KH (a1.getD x3.toNat dd)).bind λv6=> bif v6 !=0 then some (Sum.inl v6) else (jU a1 n) (w64 (x3+1)) else none else some (Sum.inr ())
def KG (a1:List qG):Option Int:= bif decide ((a1.length:Int)>64) then some 4 else (jU a1 FUEL 0).bind λu11=>Sum.elim (λv12=>some v12) (λo9=> some 0) u11
def QG (a1:Scan) (x4:Int) (R:Int->Option (Int⊕Unit)) (x16:Bool):Option (Int⊕Unit):= bif x16 then some (Sum.inl 11) else bif inb 0 a1.Rings.length then bif ((((a1.Rings.getD x4.toNat dd).Read).length:Nat):Int) !=((((a1.Rings.getD (0:Int).toNat dd).Read).length:Nat):Int) then some (Sum.inl 19) else R (w64 (x4+1)) else none
def zW (a1:Scan):Nat->Int->Option (Int⊕Unit)
 |0,_=>none
 |n+1,x4=> bif decide (x4<(a1.Rings.length:Int)) then bif inb x4 a1.Rings.length then (JZ (a1.Rings.getD x4.toNat dd)).bind λv7=> bif v7 !=0 then some (Sum.inl v7) else bif x4==0 then bif ((a1.Rings.getD x4.toNat dd).Z) !=0 then QG a1 x4 (zW a1 n) true else bif decide (x4>0) then bif inb (w64 (x4-1)) a1.Rings.length then QG a1 x4 (zW a1 n) (decide (((a1.Rings.getD x4.toNat dd).Z)<=((a1.Rings.getD (w64 (x4-1)).toNat dd).Z))) else none else QG a1 x4 (zW a1 n) false else bif decide (x4>0) then bif inb (w64 (x4-1)) a1.Rings.length then QG a1 x4 (zW a1 n) (decide (((a1.Rings.getD x4.toNat dd).Z)<=((a1.Rings.getD (w64 (x4-1)).toNat dd).Z))) else none else QG a1 x4 (zW a1 n) false else none else some (Sum.inr ())
def ZS (a1:Scan):Nat->Int->Option (Int⊕Unit)
 |0,_=>none
 |n+1,x28=> bif decide (x28<(a1.Defects.length:Int)) then bif inb x28 a1.Defects.length then bif decide (((((a1.Defects.getD x28.toNat dd).Box).Z).B)>((a1.Rings.getD (w64 ((a1.Rings.length:Int)-1)).toNat dd).Z)) then some (Sum.inl 9) else (ZS a1 n) (w64 (x28+1)) else none else some (Sum.inr ())
def QP (a1:Scan):Option Int:= bif decide ((a1.Rings.length:Int)<2) then some 3 else bif decide ((a1.Rings.length:Int)>24) then some 4 else (zW a1 FUEL 0).bind λu22=>Sum.elim (λv23=>some v23) (λo20=> (KG a1.Defects).bind λv24=> bif v24 !=0 then some v24 else bif inb (w64 ((a1.Rings.length:Int)-1)) a1.Rings.length then (ZS a1 FUEL 0).bind λu34=>Sum.elim (λv35=>some v35) (λo32=> some 0) u34 else none) u22
def JD (a1:List qB):Option (List qB):= bif room a1.length 24 then some a1 else none
def OS (a1:Ring):Option Ring:= (JD a1.Read).bind λv2=> some (Ring.mk a1.Z v2)
def UB (x3:Int) (R:(List Int)->Int->Option (List Int)) (l8:List Int):Option (List Int):= R l8 (w64 (x3+1))
def ZC (a1:Ring):Nat->(List Int)->Int->Option (List Int)
 |0,_,_=>none
 |n+1,l2,x3=> bif decide (x3<(a1.Read.length:Int)) then bif inb x3 a1.Read.length then bif (a1.Read.getD x3.toNat dd).Ok then bif room (l2.length+1) 8 then UB x3 (ZC a1 n) (l2++[x3]) else none else UB x3 (ZC a1 n) l2 else none else some l2
def YY (a1:Ring):Option (List Int):= (ZC a1 FUEL [] 0).bind λo10=> some o10
def AP (x5:Bool):Option Bool:= some x5
def qCX (a1:qA) (a2:qA) (a3:Int):Option Bool:= bif decide ((imax (w64 (a1.X-a2.X)) (w64 (a2.X-a1.X)))>a3) then AP true else AP (decide ((imax (w64 (a1.Y-a2.Y)) (w64 (a2.Y-a1.Y)))>a3))
def FE (x18:Int) (R:Bool->Int->Option Bool) (x28:Bool):Option Bool:= R x28 (w64 (x18+1))
def XA (a1:Ring) (a2:Int) (v5:(List Int)) (x13:Int):Nat->Bool->Int->Option Bool
 |0,_,_=>none
 |n+1,x17,x18=> bif decide (x18<2) then bif inb x18 2 then bif nz (v5.length:Int) then bif inb (Int.tmod (w64 ((w64 (x13+(v5.length:Int)))+(([(-1),1]:List Int).getD x18.toNat 0))) (v5.length:Int)) v5.length then bif inb (v5.getD ((Int.tmod (w64 ((w64 (x13+(v5.length:Int)))+(([(-1),1]:List Int).getD x18.toNat 0))) (v5.length:Int)).toNat) dd) a1.Read.length then bif x17 then bif inb (v5.getD x13.toNat dd) a1.Read.length then (qCX ((a1.Read.getD (v5.getD x13.toNat dd).toNat dd).P) ((a1.Read.getD (v5.getD ((Int.tmod (w64 ((w64 (x13+(v5.length:Int)))+(([(-1),1]:List Int).getD x18.toNat 0))) (v5.length:Int)).toNat) dd).toNat dd).P) a2).bind λv26=> FE x18 (XA a1 a2 v5 x13 n) v26 else none else FE x18 (XA a1 a2 v5 x13 n) false
 else none else none else none else none else some x17
def NO (x13:Int) (R:Int->(List qB)->Option (List qB)) (l34:List qB):Option (List qB):= R (w64 (x13+1)) l34
def YT (a1:Ring) (a2:Int) (v5:(List Int)):Nat->Int->(List qB)->Option (List qB)
 |0,_,_=>none
 |n+1,x13,l14=> bif decide (x13<(v5.length:Int)) then bif inb x13 v5.length then (XA a1 a2 v5 x13 FUEL true 0).bind λo30=> bif o30 then bif inb (v5.getD x13.toNat dd) l14.length then NO x13 (YT a1 a2 v5 n) (l14.set ((v5.getD x13.toNat dd).toNat) (qB.mk (qA.mk 0 0) false)) else none else NO x13 (YT a1 a2 v5 n) l14 else none else some l14
def TF (a1:Ring) (a2:Int) (v3:Ring) (v5:(List Int)) (x11:Bool):Option Ring:= bif x11 then some (Ring.mk v3.Z v3.Read) else (YT a1 a2 v5 FUEL 0 v3.Read).bind λo36=> some (Ring.mk v3.Z o36)
def CB (a1:Ring) (a2:Int):Option Ring:= (OS a1).bind λv3=> (YY a1).bind λv5=> bif decide (a2<0) then TF a1 a2 v3 v5 true else bif decide ((v5.length:Int)<2) then TF a1 a2 v3 v5 true else (JZ a1).bind λv9=> TF a1 a2 v3 v5 (v9 !=0)
def BD (a1:Ring) (a2:List Int) (a3:Int):Option Int:= bif decide ((w64 (a3+1))<(a2.length:Int)) then bif inb (w64 (a3+1)) a2.length then bif inb a3 a2.length then some (w64 ((w64 ((a2.getD (w64 (a3+1)).toNat dd)-(a2.getD a3.toNat dd)))-1)) else none else none else bif inb 0 a2.length then bif inb a3 a2.length then some (w64 ((w64 ((w64 ((a2.getD (0:Int).toNat dd)+(a1.Read.length:Int)))-(a2.getD a3.toNat dd)))-1)) else none else none
def MZ (a1:Ring) (v2:(List Int)):Nat->Int->Int->Option Int
 |0,_,_=>none
 |n+1,x5,x6=> bif decide (x6<(v2.length:Int)) then (BD a1 v2 x6).bind λv8=> (MZ a1 v2 n) (imax x5 v8) (w64 (x6+1)) else some x5
def qBc (a1:Ring):Option (Int×Int):= (YY a1).bind λv2=> bif (v2.length:Int)==0 then some (w64 ((a1.Read.length:Int)-(v2.length:Int)),w64 ((a1.Read.length:Int)-(v2.length:Int))) else (MZ a1 v2 FUEL 0 0).bind λo11=> some (w64 ((a1.Read.length:Int)-(v2.length:Int)),o11)
def NT (x5:Int):Option Int:= some x5
def LM (a1:Int) (a2:Int):Option Int:= bif nz a2 then bif decide ((Int.tmod a1 a2)<0) then NT (w64 ((w64 (Int.tdiv a1 a2))-1)) else NT (w64 (Int.tdiv a1 a2)) else none
def DG (a1:Ring) (v6:(List Int)) (x16:Int) (v24:Int):Nat->(List qA)->Int->Option (List qA)
 |0,_,_=>none
 |n+1,l26,x27=> bif decide (x27<=v24) then bif nz (l26.length:Int) then (LM (w64 ((w64 ((((a1.Read.getD (v6.getD ((Int.tmod (w64 (x16+1)) (v6.length:Int)).toNat) dd).toNat dd).P).X)-(((a1.Read.getD (v6.getD x16.toNat dd).toNat dd).P).X)))*x27)) (w64 (v24+1))).bind λv30=> (LM (w64 ((w64 ((((a1.Read.getD (v6.getD ((Int.tmod (w64 (x16+1)) (v6.length:Int)).toNat) dd).toNat dd).P).Y)-(((a1.Read.getD (v6.getD x16.toNat dd).toNat dd).P).Y)))*x27)) (w64 (v24+1))).bind λv32=> bif inb (Int.tmod (w64 ((v6.getD x16.toNat dd)+x27)) (l26.length:Int)) l26.length then (DG a1 v6 x16 v24 n) (l26.set ((Int.tmod (w64 ((v6.getD x16.toNat dd)+x27)) (l26.length:Int)).toNat) (qA.mk (w64 ((((a1.Read.getD (v6.getD x16.toNat dd).toNat dd).P).X)+v30)) (w64 ((((a1.Read.getD (v6.getD x16.toNat dd).toNat dd).P).Y)+v32)))) (w64 (x27+1))
 else none else none else some l26
def DN (a1:Ring) (v6:(List Int)):Nat->(List qA)->Int->Option (List qA)
 |0,_,_=>none
 |n+1,l15,x16=> bif decide (x16<(v6.length:Int)) then bif inb x16 v6.length then bif inb (v6.getD x16.toNat dd) a1.Read.length then bif nz (v6.length:Int) then bif inb (Int.tmod (w64 (x16+1)) (v6.length:Int)) v6.length then bif inb (v6.getD ((Int.tmod (w64 (x16+1)) (v6.length:Int)).toNat) dd) a1.Read.length then bif inb (v6.getD x16.toNat dd) l15.length then (BD a1 v6 x16).bind λv24=> (DG a1 v6 x16 v24 FUEL (l15.set ((v6.getD x16.toNat dd).toNat) ((a1.Read.getD (v6.getD x16.toNat dd).toNat dd).P)) 1).bind λo36=> (DN a1 v6 n) o36 (w64 (x16+1)) else none else none else none else none else none else none else some l15
def PD (a1:Ring) (v6:(List Int)) (x12:Bool):Option ((List qA)×Int):= bif x12 then some ([],30) else bif mkOk (a1.Read.length:Int) 16 then (DN a1 v6 FUEL (List.replicate ((a1.Read.length:Int).toNat) (qA.mk 0 0)) 0).bind λo39=> some (o39,0) else none
def AO (a1:Ring) (a2:Int):Option ((List qA)×Int):= (JZ a1).bind λv3=> bif v3 !=0 then some ([],v3) else (YY a1).bind λv6=> (qBc a1).bind λv8=> bif decide ((v6.length:Int)<3) then PD a1 v6 true else bif decide (v8.1>0) then PD a1 v6 (decide (v8.2>a2)) else PD a1 v6 false
def DY (x3:Bool):Option Bool:= some x3
def BE (a1:Int):Option Bool:= bif decide (a1≥(-600)) then DY (decide (a1<=600)) else DY false
def VG (x2:Int) (R:Int->Option (Bool⊕Unit)) (x10:Bool):Option (Bool⊕Unit):= bif x10 then some (Sum.inl false) else R (w64 (x2+1))
def WP (a1:List qA):Nat->Int->Option (Bool⊕Unit)
 |0,_=>none
 |n+1,x2=> bif decide (x2<(a1.length:Int)) then bif inb x2 a1.length then (BE ((a1.getD x2.toNat dd).X)).bind λv5=> bif !v5 then VG x2 (WP a1 n) true else (BE ((a1.getD x2.toNat dd).Y)).bind λv8=> VG x2 (WP a1 n) (!v8) else none else some (Sum.inr ())
def KE (a1:List qA):Option Bool:= (WP a1 FUEL 0).bind λu14=>Sum.elim (λv15=>some v15) (λo12=> some true) u14
def FK (a1:List qA):Nat->Int->Int->Option Int
 |0,_,_=>none
 |n+1,x7,x8=> bif decide (x8<(a1.length:Int)) then bif inb x8 a1.length then bif nz (a1.length:Int) then bif inb (Int.tmod (w64 (x8+1)) (a1.length:Int)) a1.length then (FK a1 n) (w64 (x7+(w64 ((w64 (((a1.getD x8.toNat dd).X)*((a1.getD (Int.tmod (w64 (x8+1)) (a1.length:Int)).toNat dd).Y)))-(w64 (((a1.getD (Int.tmod (w64 (x8+1)) (a1.length:Int)).toNat dd).X)*((a1.getD x8.toNat dd).Y))))))) (w64 (x8+1)) else none else none else none else some x7
def FG (a1:List qA) (x5:Bool):Option Int:= bif x5 then some 0 else (FK a1 FUEL 0 0).bind λo14=> some o14
def OT (a1:List qA):Option Int:= bif decide ((a1.length:Int)>32) then FG a1 true else (KE a1).bind λv3=> FG a1 (!v3)
def OM (a1:List qA):Option Int:= bif decide ((a1.length:Int)<3) then some 3 else bif decide ((a1.length:Int)>32) then some 4 else (KE a1).bind λv4=> bif !v4 then some 9 else (OT a1).bind λv7=> bif v7==0 then some 19 else some 0
def GM (a1:Int) (a2:Int):Option Span:= some (Span.mk (w64 (10*a1)) (w64 (10*a2)))
def XP (a1:List qA):Option (List qA):= bif room a1.length 16 then some a1 else none
def XE (a1:Int):Option Bool:= some (a1 !=a1)
def yV (a1:Int) (a2:Int):Option Int:= (XE a1).bind λv3=> (XE a2).bind λv5=> bif v3 then bif v5 then some 0 else some (-1) else bif v5 then some 1 else bif decide (a1<a2) then some (-1) else bif decide (a1>a2) then some 1 else some 0
def QU (a1:List Int):Nat->Int->Option (Int⊕Unit)
 |0,_=>none
 |n+1,x2=> bif decide (x2<(a1.length:Int)) then bif inb x2 a1.length then bif (a1.getD x2.toNat dd) !=0 then some (Sum.inl (a1.getD x2.toNat dd)) else (QU a1 n) (w64 (x2+1)) else none else some (Sum.inr ())
def RJ (a1:List Int):Option Int:= (QU a1 FUEL 0).bind λu8=>Sum.elim (λv9=>some v9) (λo6=> some 0) u8
def poly_Hull_1 (a1:qA) (a2:qA):Option Int:= (yV a1.X a2.X).bind λv3=> (yV a1.Y a2.Y).bind λv5=> (RJ [v3,v5]).bind λv7=> some v7
def WU (a1:List qA):Option (List qA):= bif qHA a1.length then some (RK poly_Hull_1 a1) else none
def ZH (x12:Int) (R:(List qA)->Int->Int->Option ((List qA)×Int)) (l19:List qA) (x20:Int):Option ((List qA)×Int):= R l19 x20 (w64 (x12+1))
def wK (l3:List qA) (x4:Int):Nat->(List qA)->Int->Int->Option ((List qA)×Int)
 |0,_,_,_=>none
 |n+1,l10,x11,x12=> bif decide (x12<(((l3.length-x4.toNat):Nat):Int)) then bif inb x12 (l3.length-x4.toNat) then bif Nat.ble (x4.toNat+(l3.length-x4.toNat)) l10.length then bif inb (w64 (x12-1)) (l3.length-x4.toNat) then bif !((((l10.getD (x4.toNat+x12.toNat) dd).X)==((l10.getD (x4.toNat+((w64 (x12-1)).toNat)) dd).X))&&((((l10.getD (x4.toNat+x12.toNat) dd).Y)==((l10.getD (x4.toNat+((w64 (x12-1)).toNat)) dd).Y))&&true)) then bif inb x11 l10.length then ZH x12 (wK l3 x4 n) (l10.set x11.toNat (l10.getD (x4.toNat+x12.toNat) dd)) (w64 (x11+1)) else none else ZH x12 (wK l3 x4 n) l10 x11 else none else none else none else some (l10,x11)
def ZA :Nat->(List qA)->Int->Option (((List qA)×(List qA))⊕(List qA))
 |0,_,_=>none
 |n+1,l3,x4=> bif decide (x4<(l3.length:Int)) then bif inb x4 l3.length then bif inb (w64 (x4-1)) l3.length then bif ((((l3.getD x4.toNat dd).X)==((l3.getD ((w64 (x4-1)).toNat) dd).X))&&((((l3.getD x4.toNat dd).Y)==((l3.getD ((w64 (x4-1)).toNat) dd).Y))&&true)) then bif slOk x4 (l3.length:Int) l3.length then (wK l3 x4 FUEL l3 x4 1).bind λo23=> bif slOk o23.2 (o23.1.length:Int) o23.1.length then bif slOk 0 o23.2 o23.1.length then some (Sum.inl ((o23.1.take o23.2.toNat),(o23.1.take o23.2.toNat))) else none else none else none else (ZA n) l3 (w64 (x4+1)) else none else none else some (Sum.inr l3)
def JG (a1:List qA):Option ((List qA)×(List qA)):= bif decide ((a1.length:Int)<2) then some (a1,a1) else (ZA FUEL a1 1).bind λu30=>Sum.elim (λv31=>some v31) (λo28=> some (o28,o28)) u30
def CL (a1:qA) (a2:qA) (a3:qA):Option Int:= some (w64 ((w64 ((w64 (a2.X-a1.X))*(w64 (a3.Y-a1.Y))))-(w64 ((w64 (a3.X-a1.X))*(w64 (a2.Y-a1.Y))))))
def FA (l6:List qA) (R:(List qA)->Option (List qA)) (x12:Bool):Option (List qA):= bif x12 then bif slOk 0 (w64 ((l6.length:Int)-1)) l6.length then R (l6.take ((w64 ((l6.length:Int)-1)).toNat)) else none else some l6
def XG (a1:List qA) (x3:Int):Nat->(List qA)->Option (List qA)
 |0,_=>none
 |n+1,l6=> bif decide ((l6.length:Int)≥2) then bif inb (w64 ((l6.length:Int)-2)) l6.length then bif inb (w64 ((l6.length:Int)-1)) l6.length then (CL (l6.getD ((w64 ((l6.length:Int)-2)).toNat) dd) (l6.getD ((w64 ((l6.length:Int)-1)).toNat) dd) (a1.getD x3.toNat dd)).bind λv10=> FA l6 (XG a1 x3 n) (decide (v10<=0)) else none else none else FA l6 (XG a1 x3 n) false
def FD (a1:List qA):Nat->(List qA)->Int->Option (List qA)
 |0,_,_=>none
 |n+1,l2,x3=> bif decide (x3<(a1.length:Int)) then bif inb x3 a1.length then (XG a1 x3 FUEL l2).bind λo16=> bif room (o16.length+1) 16 then (FD a1 n) (o16++[(a1.getD x3.toNat dd)]) (w64 (x3+1)) else none else none else some l2
def LI (a1:List qA):Option (List qA):= (FD a1 FUEL [] 0).bind λo20=> bif slOk 0 (w64 ((o20.length:Int)-1)) o20.length then some (o20.take ((w64 ((o20.length:Int)-1)).toNat)) else none
def QX :Nat->(List qA)->Int->Int->Option (List qA)
 |0,_,_,_=>none
 |n+1,l2,x3,x4=> bif decide (x3<x4) then bif inb x4 l2.length then bif inb x3 l2.length then (QX n) ((l2.set x3.toNat (l2.getD x4.toNat dd)).set x4.toNat (l2.getD x3.toNat dd)) (w64 (x3+1)) (w64 (x4-1)) else none else none else some l2
def JQ (a1:List qA):Option (List qA):= (QX FUEL a1 0 (w64 ((a1.length:Int)-1))).bind λo9=> some o9
def GP (a1:List qA) (x6:Bool):Option (List qA):= bif x6 then some ([]:List qA) else (XP a1).bind λv8=> (WU v8).bind λv10=> bif v10.length==v8.length then (JG v10).bind λv13=> (LI v13.2).bind λv15=> (JQ v13.2).bind λv17=> bif v17.length==v13.2.length then (LI v17).bind λv20=> bif room (v15.length+v20.length) 16 then bif decide ((((v15.length+v20.length):Nat):Int)<3) then some ([]:List qA) else some (v15++v20) else none else none else none
def qAF (a1:List qA):Option (List qA):= bif decide ((a1.length:Int)<3) then GP a1 true else bif decide ((a1.length:Int)>32) then GP a1 true else (KE a1).bind λv4=> GP a1 (!v4)
def DP (a1:List qA):Nat->Int->Rect->Option Rect
 |0,_,_=>none
 |n+1,x4,x5=> bif decide (x4<(a1.length:Int)) then bif inb x4 a1.length then (DP a1 n) (w64 (x4+1)) (Rect.mk (Span.mk (imin x5.X.A ((a1.getD x4.toNat dd).X)) (imax x5.X.B ((a1.getD x4.toNat dd).X))) (Span.mk (imin x5.Y.A ((a1.getD x4.toNat dd).Y)) (imax x5.Y.B ((a1.getD x4.toNat dd).Y)))) else none else some x5
def AL (a1:List qA):Option Rect:= bif (a1.length:Int)==0 then some (Rect.mk (Span.mk 0 0) (Span.mk 0 0)) else bif inb 0 a1.length then (DP a1 FUEL 0 (Rect.mk (Span.mk ((a1.getD (0:Int).toNat dd).X) ((a1.getD (0:Int).toNat dd).X)) (Span.mk ((a1.getD (0:Int).toNat dd).Y) ((a1.getD (0:Int).toNat dd).Y)))).bind λo9=> some o9 else none
def NY (x5:Int):Option Int:= some x5
def LC (a1:Int) (a2:Int):Option Int:= bif nz a2 then bif decide ((Int.tmod a1 a2)<0) then NY (w64 ((w64 (Int.tdiv a1 a2))-1)) else NY (w64 (Int.tdiv a1 a2)) else none
def KA (x6:Int) (R:Int->Int->Int->Option (Int×Int)) (x23:Int) (x24:Int):Option (Int×Int):= R x23 x24 (w64 (x6+1))
def XQ (a1:Int) (a3:List qA) (x4:Int) (x5:Int) (x6:Int) (R:Int->Int->Int->Option (Int×Int)) (x19:Bool):Option (Int×Int):= bif x19 then (LC (w64 ((w64 (((a3.getD ((Int.tmod (w64 (x6+1)) (a3.length:Int)).toNat) dd).X)-((a3.getD x6.toNat dd).X)))*(w64 (a1-((a3.getD ((Int.tmod (w64 (x6+1)) (a3.length:Int)).toNat) dd).Y))))) (w64 (((a3.getD x6.toNat dd).Y)-((a3.getD ((Int.tmod (w64 (x6+1)) (a3.length:Int)).toNat) dd).Y)))).bind λv21=> KA x6 R (w64 (((a3.getD ((Int.tmod (w64 (x6+1)) (a3.length:Int)).toNat) dd).X)-v21)) x5 else KA x6 R x4 x5
def XT (a1:Int) (a3:List qA) (x4:Int) (x5:Int) (x6:Int) (R:Int->Int->Int->Option (Int×Int)) (x13:Bool):Option (Int×Int):= bif x13 then (LC (w64 ((w64 (((a3.getD ((Int.tmod (w64 (x6+1)) (a3.length:Int)).toNat) dd).X)-((a3.getD x6.toNat dd).X)))*(w64 (a1-((a3.getD x6.toNat dd).Y))))) (w64 (((a3.getD ((Int.tmod (w64 (x6+1)) (a3.length:Int)).toNat) dd).Y)-((a3.getD x6.toNat dd).Y)))).bind λv15=> KA x6 R x4 (w64 (((a3.getD x6.toNat dd).X)+v15)) else bif decide (((a3.getD x6.toNat dd).Y)>((a3.getD ((Int.tmod (w64 (x6+1)) (a3.length:Int)).toNat) dd).Y)) then bif decide (((a3.getD ((Int.tmod (w64 (x6+1)) (a3.length:Int)).toNat) dd).Y)<=a1) then XQ a1 a3 x4 x5 x6 R (decide (a1<=((a3.getD x6.toNat dd).Y)))
 else XQ a1 a3 x4 x5 x6 R false else XQ a1 a3 x4 x5 x6 R false
def wT (a1:Int) (a3:List qA):Nat->Int->Int->Int->Option (Int×Int)
 |0,_,_,_=>none
 |n+1,x4,x5,x6=> bif decide (x6<(a3.length:Int)) then bif inb x6 a3.length then bif nz (a3.length:Int) then bif inb (Int.tmod (w64 (x6+1)) (a3.length:Int)) a3.length then bif decide (((a3.getD x6.toNat dd).Y)<((a3.getD ((Int.tmod (w64 (x6+1)) (a3.length:Int)).toNat) dd).Y)) then bif decide (((a3.getD x6.toNat dd).Y)<=a1) then XT a1 a3 x4 x5 x6 (wT a1 a3 n) (decide (a1<=((a3.getD ((Int.tmod (w64 (x6+1)) (a3.length:Int)).toNat) dd).Y))) else XT a1 a3 x4 x5 x6 (wT a1 a3 n) false else XT a1 a3 x4 x5 x6 (wT a1 a3 n) false else none else none else none else some (x4,x5)
def VQ (a1:Int) (a2:Rect) (a3:List qA):Option (Int×Int):= (wT a1 a3 FUEL a2.X.A a2.X.B 0).bind λo27=> some (o27.1,o27.2)
def YX (a2:Int) (a3:Int) (v4:(List qA)) (v6:Rect) (x11:Bool):Option Span:= bif x11 then some (Span.mk 0 0) else (VQ a2 v6 v4).bind λv13=> (VQ a3 v6 v4).bind λv15=> bif decide ((imax v13.1 v15.1)≥(imin v13.2 v15.2)) then some (Span.mk 0 0) else some (Span.mk (imax v13.1 v15.1) (imin v13.2 v15.2))
def ON (a1:List qA) (a2:Int) (a3:Int):Option Span:= (qAF a1).bind λv4=> (AL v4).bind λv6=> bif (v4.length:Int)==0 then YX a2 a3 v4 v6 true else bif decide (a2≥a3) then YX a2 a3 v4 v6 true else bif decide (a2<v6.Y.A) then YX a2 a3 v4 v6 true else YX a2 a3 v4 v6 (decide (a3>v6.Y.B))
def MK (a1:Int) (a2:List qA):Option Span:= (GM a1 (w64 (a1+1))).bind λv3=> (ON a2 v3.A v3.B).bind λv5=> some v5
def jT (a1:Span):Option Bool:= some (decide (a1.A≥a1.B))
def YL (x3:Int) (R:Int->Int->Int->(List Span)->Option (Int×Int×(List Span))) (x17:Int) (x18:Int) (l19:List Span):Option (Int×Int×(List Span)):= R x17 (w64 (x3+1)) x18 l19
def TT (x3:Int) (l5:List Span) (R:Int->Int->Int->(List Span)->Option (Int×Int×(List Span))) (v7:Span) (x13:Int):Option (Int×Int×(List Span)):= bif room (l5.length+1) 16 then YL x3 R (((l5.length+1):Nat):Int) x13 (l5++[v7]) else none
def wI (a1:List qA):Nat->Int->Int->Int->(List Span)->Option (Int×Int×(List Span))
 |0,_,_,_,_=>none
 |n+1,x2,x3,x4,l5=> bif decide (x3<60) then (MK x3 a1).bind λv7=> (jT v7).bind λv9=> bif !v9 then bif x2==0 then TT x3 l5 (wI a1 n) v7 x3 else TT x3 l5 (wI a1 n) v7 x4 else bif decide (x2>0) then bif room (l5.length+1) 16 then YL x3 (wI a1 n) x2 x4 (l5++[(Span.mk 0 0)]) else none else YL x3 (wI a1 n) x2 x4 l5 else some (x2,x4,l5)
def NR (a1:List qA):Option qK:= (wI a1 FUEL 0 (-60) 0 []).bind λo23=> bif slOk 0 o23.1 o23.2.2.length then some (qK.mk o23.2.1 (o23.2.2.take o23.1.toNat)) else none
def OW (a1:List qA):Option (qK×Int):= (OM a1).bind λv2=> bif v2 !=0 then some ((qK.mk 0 []),v2) else (NR a1).bind λv5=> bif (v5.Rows.length:Int)==0 then some ((qK.mk 0 []),18) else some ((qK.mk v5.Low v5.Rows),0)
def DB (a1:Ring) (a2:Int) (a3:Int):Option (qK×Int):= (CB a1 a2).bind λv4=> (AO (Ring.mk v4.Z v4.Read) a3).bind λv6=> bif v6.2 !=0 then some ((qK.mk 0 []),v6.2) else (OW v6.1).bind λv9=> some ((qK.mk v9.1.Low v9.1.Rows),v9.2)
def KI (x3:Bool):Option Bool:= some x3
def UW (a1:Span):Option Bool:= bif decide ((imin a1.A a1.B)≥(-600)) then KI (decide ((imax a1.A a1.B)<=600)) else KI false
def TX (a1:qK):Nat->Int->Option (Int⊕Unit)
 |0,_=>none
 |n+1,x6=> bif decide (x6<(a1.Rows.length:Int)) then bif inb x6 a1.Rows.length then (UW (a1.Rows.getD x6.toNat dd)).bind λv9=> bif !v9 then some (Sum.inl 9) else (TX a1 n) (w64 (x6+1)) else none else some (Sum.inr ())
def TY (x27:Int) (R:Int->Option (Int⊕Unit)) (x33:Bool):Option (Int⊕Unit):= bif x33 then some (Sum.inl 19) else R (w64 (x27+1))
def ZB (a1:qK):Nat->Int->Option (Int⊕Unit)
 |0,_=>none
 |n+1,x27=> bif decide (x27<(a1.Rows.length:Int)) then bif inb x27 a1.Rows.length then (jT (a1.Rows.getD x27.toNat dd)).bind λv30=> bif v30 then TY x27 (ZB a1 n) (!((((a1.Rows.getD x27.toNat dd).A)==0)&&((((a1.Rows.getD x27.toNat dd).B)==0)&&true))) else TY x27 (ZB a1 n) false else none else some (Sum.inr ())
def TK (a1:qK) (x25:Bool):Option Int:= bif x25 then some 19 else (ZB a1 FUEL 0).bind λu37=>Sum.elim (λv38=>some v38) (λo35=> some 0) u37
def UA (a1:qK) (x4:Bool):Option Int:= bif x4 then some 9 else (TX a1 FUEL 0).bind λu14=>Sum.elim (λv15=>some v15) (λo12=> bif (a1.Rows.length:Int)==0 then bif a1.Low !=0 then some 19 else some 0 else bif inb 0 a1.Rows.length then (jT (a1.Rows.getD (0:Int).toNat dd)).bind λv19=> bif v19 then TK a1 true else bif inb (w64 ((a1.Rows.length:Int)-1)) a1.Rows.length then (jT (a1.Rows.getD (w64 ((a1.Rows.length:Int)-1)).toNat dd)).bind λv23=> TK a1 v23 else none else none) u14
def RX (a1:qK):Option Int:= bif decide ((a1.Rows.length:Int)>120) then some 4 else bif decide (a1.Low<(-60)) then UA a1 true else UA a1 (decide (a1.Low>(w64 (60-(a1.Rows.length:Int)))))
def YW (a1:qK):Option qK:= (RX a1).bind λv2=> bif v2 !=0 then some (qK.mk 0 []) else some a1
def FH (a1:qK) (a2:Int) (x4:Bool):Option Span:= bif x4 then some (Span.mk 0 0) else bif inb (w64 (a2-a1.Low)) a1.Rows.length then some (a1.Rows.getD (w64 (a2-a1.Low)).toNat dd) else none
def LG (a1:qK) (a2:Int):Option Span:= bif decide (a2<a1.Low) then FH a1 a2 true else FH a1 a2 (decide (a2≥(w64 (a1.Low+(a1.Rows.length:Int)))))
def qAM (a1:Span) (a2:Span):Option Span:= bif decide ((imax a1.A a2.A)≥(imin a1.B a2.B)) then some (Span.mk 0 0) else some (Span.mk (imax a1.A a2.A) (imin a1.B a2.B))
def GX (a1:Int) (a2:qK) (a3:qK):Option Span:= (LG a2 a1).bind λv4=> (LG a3 a1).bind λv6=> (qAM v4 v6).bind λv8=> some v8
def ZM (x4:Int) (R:Int->Int->Int->(List Span)->Option (Int×Int×(List Span))) (x18:Int) (x19:Int) (l20:List Span):Option (Int×Int×(List Span)):= R x18 (w64 (x4+1)) x19 l20
def XN (x4:Int) (l6:List Span) (R:Int->Int->Int->(List Span)->Option (Int×Int×(List Span))) (v8:Span) (x14:Int):Option (Int×Int×(List Span)):= bif room (l6.length+1) 16 then ZM x4 R (((l6.length+1):Nat):Int) x14 (l6++[v8]) else none
def zV (a1:qK) (a2:qK):Nat->Int->Int->Int->(List Span)->Option (Int×Int×(List Span))
 |0,_,_,_,_=>none
 |n+1,x3,x4,x5,l6=> bif decide (x4<60) then (GX x4 a1 a2).bind λv8=> (jT v8).bind λv10=> bif !v10 then bif x3==0 then XN x4 l6 (zV a1 a2 n) v8 x4 else XN x4 l6 (zV a1 a2 n) v8 x5 else bif decide (x3>0) then bif room (l6.length+1) 16 then ZM x4 (zV a1 a2 n) x3 x5 (l6++[(Span.mk 0 0)]) else none else ZM x4 (zV a1 a2 n) x3 x5 l6 else some (x3,x5,l6)
def TI (a1:qK) (a2:qK):Option qK:= (zV a1 a2 FUEL 0 (-60) 0 []).bind λo24=> bif slOk 0 o24.1 o24.2.2.length then some (qK.mk o24.2.1 (o24.2.2.take o24.1.toNat)) else none
def SB (a1:qK) (a2:qK):Option qK:= (YW a1).bind λv3=> (YW a2).bind λv5=> (TI v3 v5).bind λv7=> some (qK.mk v7.Low v7.Rows)
def NP (a1:Scan) (a2:Int) (a3:Int):Nat->(List qK)->Int->Option (((List qW)×Int)⊕(List qK))
 |0,_,_=>none
 |n+1,l8,x9=> bif decide (x9<(a1.Rings.length:Int)) then bif inb x9 a1.Rings.length then (DB (a1.Rings.getD x9.toNat dd) a2 a3).bind λv12=> bif v12.2 !=0 then some (Sum.inl ([],30)) else bif inb x9 l8.length then (NP a1 a2 a3 n) (l8.set x9.toNat v12.1) (w64 (x9+1)) else none else none else some (Sum.inr l8)
def NU (a1:Scan) (o17:(List qK)):Nat->(List qW)->Int->Option (((List qW)×Int)⊕(List qW))
 |0,_,_=>none
 |n+1,l22,x23=> bif decide (x23<(((w64 ((a1.Rings.length:Int)-1)).toNat:Nat):Int)) then bif inb x23 o17.length then bif inb (w64 (x23+1)) o17.length then (SB (o17.getD x23.toNat dd) (o17.getD ((w64 (x23+1)).toNat) dd)).bind λv27=> bif (v27.Rows.length:Int)==0 then some (Sum.inl ([],30)) else bif inb (w64 (x23+1)) a1.Rings.length then bif inb x23 a1.Rings.length then bif inb x23 l22.length then (NU a1 o17 n) (l22.set x23.toNat (qW.mk (w64 (((a1.Rings.getD (w64 (x23+1)).toNat dd).Z)-((a1.Rings.getD x23.toNat dd).Z))) v27)) (w64 (x23+1)) else none else none else none else none else none else some (Sum.inr l22)
def YM (a1:Scan) (a2:Int) (a3:Int):Option ((List qW)×Int):= (QP a1).bind λv4=> bif v4 !=0 then some ([],v4) else bif mkOk (a1.Rings.length:Int) 32 then (NP a1 a2 a3 FUEL (List.replicate ((a1.Rings.length:Int).toNat) (qK.mk 0 [])) 0).bind λu19=>Sum.elim (λv20=>some v20) (λo17=> bif mkOk (w64 ((a1.Rings.length:Int)-1)) 40 then (NU a1 o17 FUEL (List.replicate ((w64 ((a1.Rings.length:Int)-1)).toNat) (qW.mk 0 (qK.mk 0 []))) 0).bind λu39=>Sum.elim (λv40=>some v40) (λo37=> some (o37,0)) u39 else none) u19 else none
def QL (x3:Int) (R:(List Int)->Int->Option (List Int)) (l9:List Int):Option (List Int):= R l9 (w64 (x3+1))
def zU (a1:List qB):Nat->(List Int)->Int->Option (List Int)
 |0,_,_=>none
 |n+1,l2,x3=> bif decide (x3<(a1.length:Int)) then bif inb x3 a1.length then bif (a1.getD x3.toNat dd).Ok then bif room (l2.length+3) 8 then QL x3 (zU a1 n) (l2++[1,((a1.getD x3.toNat dd).P).X,((a1.getD x3.toNat dd).P).Y]) else none else bif room (l2.length+1) 8 then QL x3 (zU a1 n) (l2++[0]) else none else none else some l2
def QH (a1:List qB):Option (List Int):= (zU a1 FUEL [] 0).bind λo11=> some o11
def JF :Nat->Int->(List Int)->Option (Int×(List Int))
 |0,_,_=>none
 |n+1,x2,l3=> bif decide (x2≥128) then bif room (l3.length+1) 1 then (JF n) (shrI .u64 x2 7) (l3++[orI .u8 (IntKind.u8.wrap (x2)) 128]) else none else some (x2,l3)
def JT (a1:Int):Option ByteArray:= (JF FUEL a1 []).bind λo8=> bif room (o8.2.length+1) 1 then some (LD (o8.2.length+1) (o8.2++[IntKind.u8.wrap (o8.1)])) else none
def KU (a1:Int):Option ByteArray:= bif decide (a1<0) then (JT (orI .u64 (shlI .u64 (notI .u64 (IntKind.u64.wrap (a1))) 1) 1)).bind λv3=> some v3 else (JT (shlI .u64 (IntKind.u64.wrap (a1)) 1)).bind λv5=> some v5
def UR (a1:List Int):Option ByteArray:=intsM JT KU a1
def wV (a1:List qG):Nat->(List Int)->Int->Option (List Int)
 |0,_,_=>none
 |n+1,l2,x3=> bif decide (x3<(a1.length:Int)) then bif inb x3 a1.length then bif room (l2.length+7) 8 then (wV a1 n) (l2++[(a1.getD x3.toNat dd).Kind,(((a1.getD x3.toNat dd).Box).X).A,(((a1.getD x3.toNat dd).Box).X).B,(((a1.getD x3.toNat dd).Box).Y).A,(((a1.getD x3.toNat dd).Box).Y).B,(((a1.getD x3.toNat dd).Box).Z).A,(((a1.getD x3.toNat dd).Box).Z).B]) (w64 (x3+1)) else none else none else some l2
def ZD (a1:List qG):Option (List Int):= (wV a1 FUEL [] 0).bind λo8=> some o8
def jJ (a1:Scan):Nat->(List Int)->ByteArray->Int->Option ((List Int)×ByteArray)
 |0,_,_,_=>none
 |n+1,l5,x6,x7=> bif decide (x7<(a1.Rings.length:Int)) then bif inb x7 a1.Rings.length then bif room (l5.length+1) 8 then (QH ((a1.Rings.getD x7.toNat dd).Read)).bind λv11=> (UR v11).bind λv13=> bif wD x6 v13 then (jJ a1 n) (l5++[(a1.Rings.getD x7.toNat dd).Z]) (x6++v13) (w64 (x7+1)) else none else none else none else some (l5,x6)
def yL (a1:Scan):Option (ByteArray×Int):= (QP a1).bind λv2=> bif v2 !=0 then some ((ByteArray.mk #[]),v2) else (jJ a1 FUEL [] (ByteArray.mk #[]) 0).bind λo18=> (UR o18.1).bind λv20=> bif wD v20 o18.2 then (ZD a1.Defects).bind λv23=> (UR v23).bind λv25=> bif wD (v20++o18.2) v25 then some ((v20++o18.2)++v25,0) else none else none
def PE (a1:ByteArray):Option qF:= some (qF.mk a1 0 0)
def ZL (a1:qF):Option Bool:= some (a1.e !=0)
def yS (a1:Int) (a2:qF) (x3:Int) (x4:Int) (x13:Bool):Option ((Int×Int×Int)⊕Unit):= bif x13 then some (Sum.inl (0,0,5)) else some (Sum.inl (orI .u64 x3 (shlI .u64 (IntKind.u64.wrap (andI .u8 (zS a2.s ((w64 (a1+x4)).toNat)) 127)) (w64 (7*x4))),w64 ((w64 (a1+x4))+1),0))
def jG (a1:Int) (a2:qF) (x3:Int) (x4:Int) (R:Int->Int->Option ((Int×Int×Int)⊕Unit)) (x8:Bool):Option ((Int×Int×Int)⊕Unit):= bif x8 then some (Sum.inl (0,0,5)) else bif nneg (w64 (7*x4)) then bif decide ((zS a2.s ((w64 (a1+x4)).toNat))≥128) then R (orI .u64 x3 (shlI .u64 (IntKind.u64.wrap (andI .u8 (zS a2.s ((w64 (a1+x4)).toNat)) 127)) (w64 (7*x4)))) (w64 (x4+1)) else bif (zS a2.s ((w64 (a1+x4)).toNat))==0 then yS a1 a2 x3 x4 (decide (x4>0)) else yS a1 a2 x3 x4 false else none
def zQ (a1:Int) (a2:qF):Nat->Int->Int->Option ((Int×Int×Int)⊕Unit)
 |0,_,_=>none
 |n+1,x3,x4=> bif decide ((w64 (a1+x4))≥(a2.s.size:Int)) then some (Sum.inl (0,0,3)) else bif inb (w64 (a1+x4)) a2.s.size then bif x4==9 then jG a1 a2 x3 x4 (zQ a1 a2 n) (decide ((zS a2.s ((w64 (a1+x4)).toNat))>1)) else jG a1 a2 x3 x4 (zQ a1 a2 n) false else none
def jH (a1:Int) (a2:qF):Option (Int×Int×Int):= (zQ a1 a2 FUEL 0 0).bind λu17=>Sum.elim (λv18=>some v18) (λo15=> none) u17
def yK (v4:Int×Int×Int) (x8:Bool):Option (Int×Int×Int):= bif x8 then some (0,0,4) else some (v4.1,v4.2.1,0)
def ZJ (a1:Int) (a2:Int) (a3:qF):Option (Int×Int×Int):= (jH a1 a3).bind λv4=> bif v4.2.2 !=0 then some (0,0,v4.2.2) else bif decide (a2<0) then yK v4 true else yK v4 (decide (v4.1>(IntKind.u64.wrap (a2))))
def yW (v5:Int×Int×Int) (x9:Int) (x11:Bool):Option (Int×Int×Int):= bif x11 then some (0,0,9) else some (x9,v5.2.1,0)
def jD (a2:Int) (a3:Int) (v5:Int×Int×Int) (x9:Int):Option (Int×Int×Int):= bif decide (x9<a2) then yW v5 x9 true else yW v5 x9 (decide (x9>a3))
def yQ (a1:Int) (a2:Int) (a3:Int) (a4:qF):Option (Int×Int×Int):= (jH a1 a4).bind λv5=> bif v5.2.2 !=0 then some (0,0,v5.2.2) else bif (andI .u64 v5.1 1)==1 then jD a2 a3 v5 (notI .i64 (w64 (shrI .u64 v5.1 1))) else jD a2 a3 v5 (w64 (shrI .u64 v5.1 1))
def yE (a1:Int) (a2:Int) (a3:qF):Option (Int×Int):= bif a2 !=0 then some (a3.at_,a2) else some (a1,a3.e)
def wW (a2:Int) (a3:Int) (a4:qF) (x10:Int) (x11:Int) (l12:List Int) (x13:Int) (R:Int->Int->(List Int)->Int->Option (Int×Int×(List Int))) (x15:Bool):Option (Int×Int×(List Int)):= bif x15 then (yQ x10 a2 a3 a4).bind λv17=> bif room (l12.length+1) 8 then R v17.2.1 v17.2.2 (l12++[v17.1]) (IntKind.u64.wrap (x13+1)) else none else some (x10,x11,l12)
def zG (a2:Int) (a3:Int) (a4:qF) (v8:Int×Int×Int):Nat->Int->Int->(List Int)->Int->Option (Int×Int×(List Int))
 |0,_,_,_,_=>none
 |n+1,x10,x11,l12,x13=> bif decide (x13<v8.1) then wW a2 a3 a4 x10 x11 l12 x13 (zG a2 a3 a4 v8 n) (x11==0) else wW a2 a3 a4 x10 x11 l12 x13 (zG a2 a3 a4 v8 n) false
def YO (a1:Int) (a2:Int) (a3:Int) (a4:qF):Option ((List Int)×Int×Int):= (ZL a4).bind λv5=> bif v5 then some ([],a4.at_,a4.e) else (ZJ a4.at_ a1 a4).bind λv8=> (zG a2 a3 a4 v8 FUEL v8.2.1 v8.2.2 [] 0).bind λo23=> (yE o23.1 o23.2.1 a4).bind λv25=> bif o23.2.1 !=0 then some ([],v25.1,v25.2) else some (o23.2.2,v25.1,v25.2)
def ZE (a1:Int) (a2:qF):Option ((List Int)×Int×Int):= (YO a1 (-1099511627776) 1099511627776 a2).bind λv3=> some (v3.1,v3.2.1,v3.2.2)
def yP (l2:List Int) (l3:List qB) (R:(List Int)->(List qB)->Option (((List qB)×Bool)⊕(List qB))) (x10:Bool):Option (((List qB)×Bool)⊕(List qB)):= bif x10 then bif inb 1 l2.length then bif inb 2 l2.length then bif room (l3.length+1) 24 then bif slOk 3 (l2.length:Int) l2.length then R (l2.drop ((3:Int).toNat)) (l3++[(qB.mk (qA.mk (l2.getD (1:Int).toNat dd) (l2.getD (2:Int).toNat dd)) true)]) else none else none else none else none else some (Sum.inl ([],false))
def zT :Nat->(List Int)->(List qB)->Option (((List qB)×Bool)⊕(List qB))
 |0,_,_=>none
 |n+1,l2,l3=> bif decide ((l2.length:Int)>0) then bif inb 0 l2.length then bif (l2.getD (0:Int).toNat dd)==0 then bif room (l3.length+1) 24 then bif slOk 1 (l2.length:Int) l2.length then (zT n) (l2.drop ((1:Int).toNat)) (l3++[(qB.mk (qA.mk 0 0) false)]) else none else none else bif (l2.getD (0:Int).toNat dd)==1 then yP l2 l3 (zT n) (decide ((l2.length:Int)≥3)) else yP l2 l3 (zT n) false else none else some (Sum.inr l3)
def WE (a1:List Int):Option ((List qB)×Bool):= (zT FUEL a1 []).bind λu19=>Sum.elim (λv20=>some v20) (λo17=> some (o17,true)) u19
def QJ :Nat->(List Int)->(List qG)->Option (List qG)
 |0,_,_=>none
 |n+1,l3,l4=> bif decide ((l3.length:Int)>0) then bif inb 1 l3.length then bif inb 2 l3.length then bif inb 3 l3.length then bif inb 4 l3.length then bif inb 5 l3.length then bif inb 6 l3.length then bif inb 0 l3.length then bif room (l4.length+1) 56 then bif slOk 7 (l3.length:Int) l3.length then (QJ n) (l3.drop ((7:Int).toNat)) (l4++[(qG.mk (l3.getD (0:Int).toNat dd) (Box.mk (Span.mk (l3.getD (1:Int).toNat dd) (l3.getD (2:Int).toNat dd)) (Span.mk (l3.getD (3:Int).toNat dd) (l3.getD (4:Int).toNat dd)) (Span.mk (l3.getD (5:Int).toNat dd) (l3.getD (6:Int).toNat dd))))]) else none else none else none else none else none else none else none else none else none else some l4
def JO (a1:List Int):Option ((List qG)×Bool):= bif (Int.tmod (a1.length:Int) 7) !=0 then some ([],false) else (QJ FUEL a1 []).bind λo16=> some (o16,true)
def XU (a1:qF):Option Int:= some a1.e
def YN (a1:qF):Option Int:= some (w64 ((a1.s.size:Int)-a1.at_))
def KD (a1:qF):Option Int:= (XU a1).bind λv2=> bif v2 !=0 then some v2 else (YN a1).bind λv5=> bif decide (v5>0) then some 4 else some 0
def ZX (v2:qF) (v4:(List Int)×Int×Int):Nat->Int->(List Ring)->Int->Int->Option ((Scan×Bool)⊕((List Ring)×qF))
 |0,_,_,_,_=>none
 |n+1,x6,l7,x8,x9=> bif decide (x6<(v4.1.length:Int)) then bif inb x6 v4.1.length then (ZE 96 (qF.mk v2.s x8 x9)).bind λv12=> (WE v12.1).bind λv14=> bif !v14.2 then some (Sum.inl ((Scan.mk [] []),false)) else bif room (l7.length+1) 32 then (ZX v2 v4 n) (w64 (x6+1)) (l7++[(Ring.mk (v4.1.getD x6.toNat dd) v14.1)]) v12.2.1 v12.2.2 else none else none else some (Sum.inr (l7,(qF.mk v2.s x8 x9)))
def FB (o20:(List Ring)×qF) (v26:(List qG)×Bool) (x31:Bool):Option (Scan×Bool):= bif x31 then some ((Scan.mk [] []),false) else some ((Scan.mk o20.1 v26.1),true)
def VM (a1:ByteArray):Option (Scan×Bool):= (PE a1).bind λv2=> (ZE 24 v2).bind λv4=> (ZX v2 v4 FUEL 0 [] v4.2.1 v4.2.2).bind λu22=>Sum.elim (λv23=>some v23) (λo20=> (ZE 448 o20.2).bind λv24=> (JO v24.1).bind λv26=> bif !v26.2 then FB o20 v26 true else (KD (qF.mk o20.2.s v24.2.1 v24.2.2)).bind λv29=> FB o20 v26 (v29 !=0)) u22
def yM (a1:ByteArray):Option (Scan×Int):= (VM a1).bind λv2=> bif !v2.2 then some ((Scan.mk [] []),5) else (QP (Scan.mk v2.1.Rings v2.1.Defects)).bind λv5=> bif v5 !=0 then some ((Scan.mk [] []),v5) else some ((Scan.mk v2.1.Rings v2.1.Defects),0)
def ZI (a1:List qB) (a2:List qB):Nat->Int->Option (Bool⊕Unit)
 |0,_=>none
 |n+1,x4=> bif decide (x4<(a1.length:Int)) then bif inb x4 a1.length then bif inb x4 a2.length then bif !((((((a1.getD x4.toNat dd).P).X)==(((a2.getD x4.toNat dd).P).X))&&(((((a1.getD x4.toNat dd).P).Y)==(((a2.getD x4.toNat dd).P).Y))&&true))&&((((a1.getD x4.toNat dd).Ok)==((a2.getD x4.toNat dd).Ok))&&true)) then some (Sum.inl false) else (ZI a1 a2 n) (w64 (x4+1)) else none else none else some (Sum.inr ())
def JC (a1:List qB) (a2:List qB):Option Bool:= bif (a1.length:Int) !=(a2.length:Int) then some false else (ZI a1 a2 FUEL 0).bind λu11=>Sum.elim (λv12=>some v12) (λo9=> some true) u11
def DE (x6:Bool):Option Bool:= some x6
def AQ (a1:Ring) (a2:Ring):Option Bool:= bif a1.Z==a2.Z then (JC a1.Read a2.Read).bind λv4=> DE v4 else DE false
def QO (a1:List Ring) (a2:List Ring):Nat->Int->Option (Bool⊕Unit)
 |0,_=>none
 |n+1,x4=> bif decide (x4<(a1.length:Int)) then bif inb x4 a1.length then bif inb x4 a2.length then (AQ (a1.getD x4.toNat dd) (a2.getD x4.toNat dd)).bind λv8=> bif !v8 then some (Sum.inl false) else (QO a1 a2 n) (w64 (x4+1)) else none else none else some (Sum.inr ())
def WR (a1:List Ring) (a2:List Ring):Option Bool:= bif (a1.length:Int) !=(a2.length:Int) then some false else (QO a1 a2 FUEL 0).bind λu13=>Sum.elim (λv14=>some v14) (λo11=> some true) u13
def ZR (a1:List qG) (a2:List qG):Nat->Int->Option (Bool⊕Unit)
 |0,_=>none
 |n+1,x4=> bif decide (x4<(a1.length:Int)) then bif inb x4 a1.length then bif inb x4 a2.length then bif !((((a1.getD x4.toNat dd).Kind)==((a2.getD x4.toNat dd).Kind))&&((((((((a1.getD x4.toNat dd).Box).X).A)==((((a2.getD x4.toNat dd).Box).X).A))&&((((((a1.getD x4.toNat dd).Box).X).B)==((((a2.getD x4.toNat dd).Box).X).B))&&true))&&(((((((a1.getD x4.toNat dd).Box).Y).A)==((((a2.getD x4.toNat dd).Box).Y).A))&&((((((a1.getD x4.toNat dd).Box).Y).B)==((((a2.getD x4.toNat dd).Box).Y).B))&&true))&&(((((((a1.getD x4.toNat dd).Box).Z).A)==((((a2.getD x4.toNat dd).Box).Z).A))&&((((((a1.getD x4.toNat dd).Box).Z).B)==((((a2.getD x4.toNat dd).Box).Z).B))&&true))&&true)))&&true)) then some (Sum.inl false) else
 (ZR a1 a2 n) (w64 (x4+1)) else none else none else some (Sum.inr ())
def YQ (a1:List qG) (a2:List qG):Option Bool:= bif (a1.length:Int) !=(a2.length:Int) then some false else (ZR a1 a2 FUEL 0).bind λu11=>Sum.elim (λv12=>some v12) (λo9=> some true) u11
def HE (x8:Bool):Option Bool:= some x8
def NF (a1:Scan) (a2:Scan):Option Bool:= (WR a1.Rings a2.Rings).bind λv3=> bif v3 then (YQ a1.Defects a2.Defects).bind λv6=> HE v6 else HE false
def DK (a1:List qW) (x4:Int) (x5:Int) (R:Int->Int->Option (Int⊕Unit)) (x13:Bool):Option (Int⊕Unit):= bif x13 then some (Sum.inl 9) else R (w64 (x4+((a1.getD x5.toNat dd).Len))) (w64 (x5+1))
def JR (a1:List qW):Nat->Int->Int->Option (Int⊕Unit)
 |0,_,_=>none
 |n+1,x4,x5=> bif decide (x5<(a1.length:Int)) then bif inb x5 a1.length then (RX ((a1.getD x5.toNat dd).Sec)).bind λv8=> bif v8 !=0 then some (Sum.inl v8) else bif (((((a1.getD x5.toNat dd).Sec).Rows).length:Nat):Int)==0 then some (Sum.inl 18) else bif decide (((a1.getD x5.toNat dd).Len)<1) then DK a1 x4 x5 (JR a1 n) true else DK a1 x4 x5 (JR a1 n) (decide (((a1.getD x5.toNat dd).Len)>(w64 (20000-x4)))) else none else some (Sum.inr ())
def AV (a1:List qW):Option Int:= bif (a1.length:Int)==0 then some 3 else bif decide ((a1.length:Int)>24) then some 4 else (JR a1 FUEL 0 0).bind λu17=>Sum.elim (λv18=>some v18) (λo15=> some 0) u17
def AE (a1:List qW):Option (List qW):= (AV a1).bind λv2=> bif v2 !=0 then some ([]:List qW) else some a1
def qBa (a1:Span):Option Int:= bif decide (a1.A≥a1.B) then some 0 else some (IntKind.u64.wrap ((IntKind.u64.wrap (a1.B))-(IntKind.u64.wrap (a1.A))))
def SD (a1:Int):Option Int:= some (w64 (imin a1 9223372036854775807))
def qCU (a1:Span):Option Int:= (qBa a1).bind λv2=> (SD v2).bind λv4=> some v4
def GJ (v2:qK):Nat->Int->Int->Option Int
 |0,_,_=>none
 |n+1,x4,x5=> bif decide (x5<(v2.Rows.length:Int)) then bif inb x5 v2.Rows.length then (qCU (v2.Rows.getD x5.toNat dd)).bind λv8=> (GJ v2 n) (w64 (x4+v8)) (w64 (x5+1)) else none else some x4
def SA (a1:qK):Option Int:= (YW a1).bind λv2=> (GJ v2 FUEL 0 0).bind λo11=> some (w64 (10*o11))
def VA (v2:(List qW)):Nat->Int->Int->Option Int
 |0,_,_=>none
 |n+1,x4,x5=> bif decide (x5<(v2.length:Int)) then bif inb x5 v2.length then (SA ((v2.getD x5.toNat dd).Sec)).bind λv8=> (VA v2 n) (w64 (x4+(w64 (((v2.getD x5.toNat dd).Len)*v8)))) (w64 (x5+1)) else none else some x4
def GO (a1:List qW):Option Int:= (AE a1).bind λv2=> (VA v2 FUEL 0 0).bind λo11=> some o11 @[irreducible] def law15_awake :Option Bool:=some true
def yU (x2:Int) (R:Int->Option (Bool⊕Unit)) (x8:Bool):Option (Bool⊕Unit):= bif x8 then some (Sum.inl false) else R (w64 (x2+1))
def zZ (a1:List qA):Nat->Int->Option (Bool⊕Unit)
 |0,_=>none
 |n+1,x2=> bif decide (x2<(a1.length:Int)) then bif inb x2 a1.length then bif decide (((a1.getD x2.toNat dd).X)<(-600)) then yU x2 (zZ a1 n) true else bif decide (((a1.getD x2.toNat dd).X)>600) then yU x2 (zZ a1 n) true else bif decide (((a1.getD x2.toNat dd).Y)<(-600)) then yU x2 (zZ a1 n) true else yU x2 (zZ a1 n) (decide (((a1.getD x2.toNat dd).Y)>600)) else none else some (Sum.inr ())
def KX (a1:List qA):Option Bool:= (zZ a1 FUEL 0).bind λu12=>Sum.elim (λv13=>some v13) (λo10=> some true) u12
def PI (x7:Int) (R:Int->Option (Int⊕Unit)) (x16:Bool):Option (Int⊕Unit):= bif x16 then some (Sum.inl 19) else R (w64 (x7+1))
def PL (a1:Ring) (x7:Int) (R:Int->Option (Int⊕Unit)) (x13:Bool):Option (Int⊕Unit):= bif x13 then some (Sum.inl 9) else bif !((a1.Read.getD x7.toNat dd).Ok) then PI x7 R (!(((((a1.Read.getD x7.toNat dd).P).X)==0)&&(((((a1.Read.getD x7.toNat dd).P).Y)==0)&&true))) else PI x7 R false
def wP (a1:Ring):Nat->Int->Option (Int⊕Unit)
 |0,_=>none
 |n+1,x7=> bif decide (x7<(a1.Read.length:Int)) then bif inb x7 a1.Read.length then bif (a1.Read.getD x7.toNat dd).Ok then (KX [(a1.Read.getD x7.toNat dd).P]).bind λv11=> PL a1 x7 (wP a1 n) (!v11) else PL a1 x7 (wP a1 n) false else none else some (Sum.inr ())
def PH (a1:Ring) (x5:Bool):Option Int:= bif x5 then some 9 else (wP a1 FUEL 0).bind λu20=>Sum.elim (λv21=>some v21) (λo18=> some 0) u20
def RP (a1:Ring):Option Int:= bif decide ((a1.Read.length:Int)<8) then some 3 else bif decide ((a1.Read.length:Int)>32) then some 4 else bif decide (a1.Z<0) then PH a1 true else PH a1 (decide (a1.Z>20000))
def JI (x4:Bool):Option Bool:= some x4
def RO (a1:Box):Option Bool:= bif decide (a1.X.A≥a1.X.B) then JI true else bif decide (a1.Y.A≥a1.Y.B) then JI true else JI (decide (a1.Z.A≥a1.Z.B))
def BG (x5:Bool):Option Bool:= some x5
def UF (a1:Span) (a2:Int) (a3:Int):Option Bool:= bif decide (a2<=a1.A) then BG (decide (a1.B<=a3)) else BG false
def WM (x10:Bool):Option Bool:= some x10
def KZ (a1:Box):Option Bool:= (UF a1.X (-600) 600).bind λv2=> bif v2 then (UF a1.Y (-600) 600).bind λv5=> bif v5 then (UF a1.Z 0 20000).bind λv8=> WM v8 else WM false else WM false
def PT (a1:List qG) (x3:Int) (R:Int->Option (Int⊕Unit)) (x7:Bool):Option (Int⊕Unit):= bif x7 then some (Sum.inl 10) else bif inb x3 a1.length then (RO ((a1.getD x3.toNat dd).Box)).bind λv10=> bif v10 then some (Sum.inl 19) else (KZ ((a1.getD x3.toNat dd).Box)).bind λv13=> bif !v13 then some (Sum.inl 9) else R (w64 (x3+1)) else none
def wQ (a1:List qG):Nat->Int->Option (Int⊕Unit)
 |0,_=>none
 |n+1,x3=> bif decide (x3<(a1.length:Int)) then bif inb x3 a1.length then bif decide (((a1.getD x3.toNat dd).Kind)<1) then PT a1 x3 (wQ a1 n) true else PT a1 x3 (wQ a1 n) (decide (((a1.getD x3.toNat dd).Kind)>6)) else none else some (Sum.inr ())
def RQ (a1:List qG):Option Int:= bif decide ((a1.length:Int)>64) then some 4 else (wQ a1 FUEL 0).bind λu18=>Sum.elim (λv19=>some v19) (λo16=> some 0) u18
def yH (a1:Scan) (x5:Int) (R:Int->Int->Option (Int⊕Int)) (x15:Bool):Option (Int⊕Int):= bif x15 then some (Sum.inl 11) else bif inb 0 a1.Rings.length then bif ((((a1.Rings.getD x5.toNat dd).Read).length:Nat):Int) !=((((a1.Rings.getD (0:Int).toNat dd).Read).length:Nat):Int) then some (Sum.inl 19) else R ((a1.Rings.getD x5.toNat dd).Z) (w64 (x5+1)) else none
def zJ (a1:Scan):Nat->Int->Int->Option (Int⊕Int)
 |0,_,_=>none
 |n+1,x4,x5=> bif decide (x5<(a1.Rings.length:Int)) then bif inb x5 a1.Rings.length then (RP (a1.Rings.getD x5.toNat dd)).bind λv8=> bif v8 !=0 then some (Sum.inl v8) else bif x5==0 then bif ((a1.Rings.getD x5.toNat dd).Z) !=0 then yH a1 x5 (zJ a1 n) true else bif decide (x5>0) then yH a1 x5 (zJ a1 n) (decide (((a1.Rings.getD x5.toNat dd).Z)<=x4)) else yH a1 x5 (zJ a1 n) false else bif decide (x5>0) then yH a1 x5 (zJ a1 n) (decide (((a1.Rings.getD x5.toNat dd).Z)<=x4)) else yH a1 x5 (zJ a1 n) false else none else some (Sum.inr x4)
def QR (a1:Scan) (o20:Int):Nat->Int->Option (Int⊕Unit)
 |0,_=>none
 |n+1,x27=> bif decide (x27<(a1.Defects.length:Int)) then bif inb x27 a1.Defects.length then bif decide (((((a1.Defects.getD x27.toNat dd).Box).Z).B)>o20) then some (Sum.inl 9) else (QR a1 o20 n) (w64 (x27+1)) else none else some (Sum.inr ())
def XI (a1:Scan):Option Int:= bif decide ((a1.Rings.length:Int)<2) then some 3 else bif decide ((a1.Rings.length:Int)>24) then some 4 else (zJ a1 FUEL 0 0).bind λu22=>Sum.elim (λv23=>some v23) (λo20=> (RQ a1.Defects).bind λv24=> bif v24 !=0 then some v24 else (QR a1 o20 FUEL 0).bind λu33=>Sum.elim (λv34=>some v34) (λo31=> some 0) u33) u22
def YA (x3:Int) (R:(List Int)->Int->Option (List Int)) (l9:List Int):Option (List Int):= R l9 (w64 (x3+1))
def wM (a1:Ring):Nat->(List Int)->Int->Option (List Int)
 |0,_,_=>none
 |n+1,l2,x3=> bif decide (x3<(a1.Read.length:Int)) then bif inb x3 a1.Read.length then bif (a1.Read.getD x3.toNat dd).Ok then bif room (l2.length+3) 8 then YA x3 (wM a1 n) (l2++[1,((a1.Read.getD x3.toNat dd).P).X,((a1.Read.getD x3.toNat dd).P).Y]) else none else bif room (l2.length+1) 8 then YA x3 (wM a1 n) (l2++[0]) else none else none else some l2
def YS (a1:Ring):Option (List Int):= (wM a1 FUEL [] 0).bind λo11=> some o11
def ZT :Nat->Int->Option ByteArray
 |0,_=>none
 |n+1,a1=> bif decide (a1<128) then some (LD 1 [IntKind.u8.wrap (a1)]) else ((ZT n) (IntKind.u64.wrap (Int.tdiv a1 128))).bind λv3=> bif wD (LD 1 [IntKind.u8.wrap (IntKind.u64.wrap (128+(Int.tmod a1 128)))]) v3 then some ((LD 1 [IntKind.u8.wrap (IntKind.u64.wrap (128+(Int.tmod a1 128)))])++v3) else none
def LA (a1:Int):Option ByteArray:=ZT FUEL a1
def VE (a1:Int):Option Int:= bif decide (a1≥0) then some (IntKind.u64.wrap (2*(IntKind.u64.wrap (a1)))) else some (IntKind.u64.wrap ((IntKind.u64.wrap (2*(IntKind.u64.wrap (w64 (0-(w64 (a1+1)))))))+1))
def NG (a1:Int):Option ByteArray:= (VE a1).bind λv2=> (LA v2).bind λv4=> some v4
def wY (a1:List Int):Nat->ByteArray->Int->Option ByteArray
 |0,_,_=>none
 |n+1,x4,x5=> bif decide (x5<(a1.length:Int)) then bif inb x5 a1.length then (NG (a1.getD x5.toNat dd)).bind λv8=> bif wD x4 v8 then (wY a1 n) (x4++v8) (w64 (x5+1)) else none else none else some x4
def YE (a1:List Int):Option ByteArray:= (LA (IntKind.u64.wrap ((a1.length:Int)))).bind λv2=> (wY a1 FUEL v2 0).bind λo12=> some o12
def wS (a1:Scan):Nat->(List Int)->ByteArray->Int->Option ((List Int)×ByteArray)
 |0,_,_,_=>none
 |n+1,l5,x6,x7=> bif decide (x7<(a1.Rings.length:Int)) then bif inb x7 a1.Rings.length then bif room (l5.length+1) 8 then (YS (a1.Rings.getD x7.toNat dd)).bind λv11=> (YE v11).bind λv13=> bif wD x6 v13 then (wS a1 n) (l5++[(a1.Rings.getD x7.toNat dd).Z]) (x6++v13) (w64 (x7+1)) else none else none else none else some (l5,x6)
def jO (a1:Scan):Nat->(List Int)->Int->Option (List Int)
 |0,_,_=>none
 |n+1,l20,x21=> bif decide (x21<(a1.Defects.length:Int)) then bif inb x21 a1.Defects.length then bif room (l20.length+7) 8 then (jO a1 n) (l20++[(a1.Defects.getD x21.toNat dd).Kind,(((a1.Defects.getD x21.toNat dd).Box).X).A,(((a1.Defects.getD x21.toNat dd).Box).X).B,(((a1.Defects.getD x21.toNat dd).Box).Y).A,(((a1.Defects.getD x21.toNat dd).Box).Y).B,(((a1.Defects.getD x21.toNat dd).Box).Z).A,(((a1.Defects.getD x21.toNat dd).Box).Z).B]) (w64 (x21+1)) else none else none else some l20
def KR (a1:Scan):Option (ByteArray×Int):= (XI a1).bind λv2=> bif v2 !=0 then some ((ByteArray.mk #[]),v2) else (wS a1 FUEL [] (ByteArray.mk #[]) 0).bind λo18=> (jO a1 FUEL [] 0).bind λo26=> (YE o18.1).bind λv28=> bif wD v28 o18.2 then (YE o26).bind λv31=> bif wD (v28++o18.2) v31 then some ((v28++o18.2)++v31,0) else none else none
def XW (a1:ByteArray):Option qI:= some (qI.mk a1 0 0)
def XX (a1:ByteArray) (a2:Int) (x3:Int) (x4:Int) (x5:Int) (x14:Bool):Option ((Int×Int×Int)⊕Unit):= bif x14 then some (Sum.inl (0,a2,5)) else some (Sum.inl (IntKind.u64.wrap (x3+(IntKind.u64.wrap ((Int.tmod (IntKind.u64.wrap (zS a1 ((w64 (a2+x5)).toNat))) 128)*x4))),w64 ((w64 (a2+x5))+1),0))
def WO (a1:ByteArray) (a2:Int) (x3:Int) (x4:Int) (x5:Int) (R:Int->Int->Int->Option ((Int×Int×Int)⊕Unit)) (x10:Bool):Option ((Int×Int×Int)⊕Unit):= bif x10 then some (Sum.inl (0,a2,5)) else bif decide ((IntKind.u64.wrap (zS a1 ((w64 (a2+x5)).toNat)))<128) then bif (IntKind.u64.wrap (zS a1 ((w64 (a2+x5)).toNat)))==0 then XX a1 a2 x3 x4 x5 (decide (x5>0)) else XX a1 a2 x3 x4 x5 false else R (IntKind.u64.wrap (x3+(IntKind.u64.wrap ((Int.tmod (IntKind.u64.wrap (zS a1 ((w64 (a2+x5)).toNat))) 128)*x4)))) (IntKind.u64.wrap (x4*128)) (w64 (x5+1))
def wU (a1:ByteArray) (a2:Int):Nat->Int->Int->Int->Option ((Int×Int×Int)⊕Unit)
 |0,_,_,_=>none
 |n+1,x3,x4,x5=> bif decide (x5<10) then bif decide ((w64 (a2+x5))≥(a1.size:Int)) then some (Sum.inl (0,a2,3)) else bif inb (w64 (a2+x5)) a1.size then bif x5==9 then WO a1 a2 x3 x4 x5 (wU a1 a2 n) (decide ((IntKind.u64.wrap (zS a1 ((w64 (a2+x5)).toNat)))>1)) else WO a1 a2 x3 x4 x5 (wU a1 a2 n) false else none else some (Sum.inr ())
def JP (a1:ByteArray) (a2:Int):Option (Int×Int×Int):= (wU a1 a2 FUEL 0 1 0).bind λu18=>Sum.elim (λv19=>some v19) (λo16=> some (0,a2,5)) u18
def YK (a1:qI) (a2:Int):Option qI:= some (qI.mk a1.S a1.At a2)
def XV (a2:Int) (v5:Int×Int×Int) (x9:Int) (x11:Bool):Option (Int×Int×Int):= bif x11 then some (0,a2,9) else some (x9,v5.2.1,0)
def WB (a2:Int) (a3:Int) (a4:Int) (v5:Int×Int×Int) (x9:Int):Option (Int×Int×Int):= bif decide (x9<a3) then XV a2 v5 x9 true else XV a2 v5 x9 (decide (x9>a4))
def KO (a1:ByteArray) (a2:Int) (a3:Int) (a4:Int):Option (Int×Int×Int):= (JP a1 a2).bind λv5=> bif v5.2.2 !=0 then some (0,a2,v5.2.2) else bif (Int.tmod v5.1 2)==1 then WB a2 a3 a4 v5 (w64 ((w64 (0-(w64 (IntKind.u64.wrap (Int.tdiv v5.1 2)))))-1)) else WB a2 a3 a4 v5 (w64 (IntKind.u64.wrap (Int.tdiv v5.1 2)))
def jY (a1:qI) (a3:Int) (a4:Int) (v6:Int×Int×Int):Nat->Int->(List Int)->qI->Option ((qI×(List Int))⊕(Int×(List Int)×qI))
 |0,_,_,_=>none
 |n+1,x16,l17,x18=> bif decide ((IntKind.u64.wrap ((l17.length:Int)))<v6.1) then (KO a1.S x16 a3 a4).bind λv20=> bif v20.2.2 !=0 then (YK a1 v20.2.2).bind λv23=> some (Sum.inl (v23,[])) else bif room (l17.length+1) 8 then (jY a1 a3 a4 v6 n) v20.2.1 (l17++[v20.1]) x18 else none else some (Sum.inr (x16,l17,x18))
def WY (a1:qI) (a3:Int) (a4:Int) (v6:Int×Int×Int) (x12:Bool):Option (qI×(List Int)):= bif x12 then (YK a1 4).bind λv14=> some (v14,[]) else (jY a1 a3 a4 v6 FUEL v6.2.1 [] (qI.mk (ByteArray.mk #[]) 0 0)).bind λu31=>Sum.elim (λv32=>some v32) (λo29=> some ((qI.mk a1.S o29.1 a1.E),o29.2.1)) u31
def yI (a1:qI) (a2:Int) (a3:Int) (a4:Int):Option (qI×(List Int)):= bif a1.E !=0 then some (a1,[]) else (JP a1.S a1.At).bind λv6=> bif v6.2.2 !=0 then (YK a1 v6.2.2).bind λv9=> some (v9,[]) else bif decide (a2<0) then WY a1 a3 a4 v6 true else WY a1 a3 a4 v6 (decide (v6.1>(IntKind.u64.wrap (a2))))
def QK (a1:List Int) (l2:List qB) (x3:Int) (R:(List qB)->Int->Option (((List qB)×Bool)⊕(List qB))) (x9:Bool):Option (((List qB)×Bool)⊕(List qB)):= bif x9 then some (Sum.inl ([],false)) else bif inb (w64 (x3+1)) a1.length then bif inb (w64 (x3+2)) a1.length then bif room (l2.length+1) 24 then R (l2++[(qB.mk (qA.mk (a1.getD (w64 (x3+1)).toNat dd) (a1.getD (w64 (x3+2)).toNat dd)) true)]) (w64 (x3+3)) else none else none else none
def wE (a1:List Int):Nat->(List qB)->Int->Option (((List qB)×Bool)⊕(List qB))
 |0,_,_=>none
 |n+1,l2,x3=> bif decide (x3<(a1.length:Int)) then bif inb x3 a1.length then bif (a1.getD x3.toNat dd)==0 then bif room (l2.length+1) 24 then (wE a1 n) (l2++[(qB.mk (qA.mk 0 0) false)]) (w64 (x3+1)) else none else bif (a1.getD x3.toNat dd) !=1 then QK a1 l2 x3 (wE a1 n) true else QK a1 l2 x3 (wE a1 n) (decide ((w64 (x3+2))≥(a1.length:Int))) else none else some (Sum.inr l2)
def JJ (a1:List Int):Option ((List qB)×Bool):= (wE a1 FUEL [] 0).bind λu17=>Sum.elim (λv18=>some v18) (λo15=> some (o15,true)) u17
def LL (a1:qI):Option Int:= some (w64 ((a1.S.size:Int)-a1.At))
def VR (a1:qI) (x5:Bool):Option Int:= bif x5 then some 4 else some a1.E
def EO (a1:qI):Option Int:= bif a1.E==0 then (LL a1).bind λv3=> VR a1 (decide (v3>0)) else VR a1 false
def ZW (v4:qI×(List Int)):Nat->Int->(List Ring)->qI->Option ((Scan×Bool)⊕(qI×(List Ring)))
 |0,_,_,_=>none
 |n+1,x6,l7,x8=> bif decide (x6<(v4.2.length:Int)) then (yI x8 96 (-1099511627776) 1099511627776).bind λv10=> (JJ v10.2).bind λv12=> bif !v12.2 then some (Sum.inl ((Scan.mk [] []),false)) else bif inb x6 v4.2.length then bif room (l7.length+1) 32 then (ZW v4 n) (w64 (x6+1)) (l7++[(Ring.mk (v4.2.getD x6.toNat dd) v12.1)]) v10.1 else none else none else some (Sum.inr (x8,l7))
def XF (v24:qI×(List Int)):Nat->Int->(List qG)->Option (List qG)
 |0,_,_=>none
 |n+1,x31,l32=> bif decide (x31<(v24.2.length:Int)) then bif inb (w64 (x31+1)) v24.2.length then bif inb (w64 (x31+2)) v24.2.length then bif inb (w64 (x31+3)) v24.2.length then bif inb (w64 (x31+4)) v24.2.length then bif inb (w64 (x31+5)) v24.2.length then bif inb (w64 (x31+6)) v24.2.length then bif inb x31 v24.2.length then bif room (l32.length+1) 56 then (XF v24 n) (w64 (x31+7)) (l32++[(qG.mk (v24.2.getD x31.toNat dd) (Box.mk (Span.mk (v24.2.getD ((w64 (x31+1)).toNat) dd) (v24.2.getD ((w64 (x31+2)).toNat) dd)) (Span.mk (v24.2.getD ((w64 (x31+3)).toNat) dd) (v24.2.getD ((w64 (x31+4)).toNat) dd)) (Span.mk (v24.2.getD ((w64 (x31+5)).toNat) dd) (v24.2.getD ((w64 (x31+6)).toNat) dd))))]) else none
 else none else none else none else none else none else none else none else some l32
def ZY (o20:qI×(List Ring)) (v24:qI×(List Int)) (x29:Bool):Option (Scan×Bool):= bif x29 then some ((Scan.mk [] []),false) else (XF v24 FUEL 0 []).bind λo43=> some ((Scan.mk o20.2 o43),true)
def GD (a1:ByteArray):Option (Scan×Bool):= (XW a1).bind λv2=> (yI v2 24 (-1099511627776) 1099511627776).bind λv4=> (ZW v4 FUEL 0 [] v4.1).bind λu22=>Sum.elim (λv23=>some v23) (λo20=> (yI o20.1 448 (-1099511627776) 1099511627776).bind λv24=> (EO v24.1).bind λv26=> bif v26 !=0 then ZY o20 v24 true else ZY o20 v24 ((Int.tmod (v24.2.length:Int) 7) !=0)) u22
def PB (a1:ByteArray):Option (Scan×Int):= (GD a1).bind λv2=> bif !v2.2 then some ((Scan.mk [] []),5) else (XI (Scan.mk v2.1.Rings v2.1.Defects)).bind λv5=> bif v5 !=0 then some ((Scan.mk [] []),v5) else some ((Scan.mk v2.1.Rings v2.1.Defects),0)
def QB (a1:Ring) (a2:Ring):Nat->Int->Option (Bool⊕Unit)
 |0,_=>none
 |n+1,x6=> bif decide (x6<(a1.Read.length:Int)) then bif inb x6 a1.Read.length then bif inb x6 a2.Read.length then bif !((((((a1.Read.getD x6.toNat dd).P).X)==(((a2.Read.getD x6.toNat dd).P).X))&&(((((a1.Read.getD x6.toNat dd).P).Y)==(((a2.Read.getD x6.toNat dd).P).Y))&&true))&&((((a1.Read.getD x6.toNat dd).Ok)==((a2.Read.getD x6.toNat dd).Ok))&&true)) then some (Sum.inl false) else (QB a1 a2 n) (w64 (x6+1)) else none else none else some (Sum.inr ())
def RU (a1:Ring) (a2:Ring) (x4:Bool):Option Bool:= bif x4 then some false else (QB a1 a2 FUEL 0).bind λu13=>Sum.elim (λv14=>some v14) (λo11=> some true) u13
def GN (a1:Ring) (a2:Ring):Option Bool:= bif a1.Z !=a2.Z then RU a1 a2 true else RU a1 a2 ((a1.Read.length:Int) !=(a2.Read.length:Int))
def QE (a1:List qG) (a2:List qG):Nat->Int->Option (Bool⊕Unit)
 |0,_=>none
 |n+1,x4=> bif decide (x4<(a1.length:Int)) then bif inb x4 a1.length then bif inb x4 a2.length then bif !((((a1.getD x4.toNat dd).Kind)==((a2.getD x4.toNat dd).Kind))&&((((((((a1.getD x4.toNat dd).Box).X).A)==((((a2.getD x4.toNat dd).Box).X).A))&&((((((a1.getD x4.toNat dd).Box).X).B)==((((a2.getD x4.toNat dd).Box).X).B))&&true))&&(((((((a1.getD x4.toNat dd).Box).Y).A)==((((a2.getD x4.toNat dd).Box).Y).A))&&((((((a1.getD x4.toNat dd).Box).Y).B)==((((a2.getD x4.toNat dd).Box).Y).B))&&true))&&(((((((a1.getD x4.toNat dd).Box).Z).A)==((((a2.getD x4.toNat dd).Box).Z).A))&&((((((a1.getD x4.toNat dd).Box).Z).B)==((((a2.getD x4.toNat dd).Box).Z).B))&&true))&&true)))&&true)) then some (Sum.inl false) else
 (QE a1 a2 n) (w64 (x4+1)) else none else none else some (Sum.inr ())
def GG (a1:List qG) (a2:List qG):Option Bool:= bif (a1.length:Int) !=(a2.length:Int) then some false else (QE a1 a2 FUEL 0).bind λu11=>Sum.elim (λv12=>some v12) (λo9=> some true) u11
def QA (a1:Scan) (a2:Scan):Nat->Int->Option (Bool⊕Unit)
 |0,_=>none
 |n+1,x4=> bif decide (x4<(a1.Rings.length:Int)) then bif inb x4 a1.Rings.length then bif inb x4 a2.Rings.length then (GN (a1.Rings.getD x4.toNat dd) (a2.Rings.getD x4.toNat dd)).bind λv8=> bif !v8 then some (Sum.inl false) else (QA a1 a2 n) (w64 (x4+1)) else none else none else some (Sum.inr ())
def VK (a1:Scan) (a2:Scan):Option Bool:= bif (a1.Rings.length:Int) !=(a2.Rings.length:Int) then some false else (QA a1 a2 FUEL 0).bind λu13=>Sum.elim (λv14=>some v14) (λo11=> (GG a1.Defects a2.Defects).bind λv15=> some v15) u13
def wH (x26:Bool):Option Bool:= some x26
def jI (a1:Scan) (a2:ByteArray) (x6:Bool):Option Bool:= bif x6 then (law15_awake).bind λv8=> some v8 else (yL a1).bind λv10=> (KR a1).bind λv12=> (yM a2).bind λv14=> (PB a2).bind λv16=> bif CJ v10.1 v12.1 then bif v10.2==v12.2 then (VK (Scan.mk v14.1.Rings v14.1.Defects) (Scan.mk v16.1.Rings v16.1.Defects)).bind λv20=> bif v20 then bif v14.2==v16.2 then (law15_awake).bind λv24=> wH v24 else wH false else wH false else wH false else wH false
def WF (a1:Scan) (a2:ByteArray):Option Bool:= (NK a1).bind λv3=> bif !v3 then jI a1 a2 true else jI a1 a2 (decide ((a2.size:Int)>20000))
end Saw
end Go.SL

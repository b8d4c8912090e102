import Derived.Test.YthbamnkheinbgaaGreatDoorYa6
set_option linter.unusedVariables false
set_option linter.unusedSimpArgs false
namespace Go.SL
namespace Saw
structure qB where
 X:Int
 Y:Int
instance : Inhabited qB:=⟨⟨0,0⟩⟩
def qE (r:qB):List C:=[ci r.X,ci r.Y]
structure qC where
 P:qB
 Ok:Bool
instance : Inhabited qC:=⟨⟨dd,false⟩⟩
def qF (r:qC):List C:=[ci r.P.X,ci r.P.Y,cb r.Ok]
structure Ring where
 Z:Int
 Read:List qC
instance : Inhabited Ring:=⟨⟨0,[]⟩⟩
def qH (r:Ring):List C:=[ci r.Z,tl qF dd r.Read]
structure Span where
 A:Int
 B:Int
instance : Inhabited Span:=⟨⟨0,0⟩⟩
def qL (r:Span):List C:=[ci r.A,ci r.B]
structure Box where
 X:Span
 Y:Span
 Z:Span
instance : Inhabited Box:=⟨⟨dd,dd,dd⟩⟩
def FO (r:Box):List C:=[ci r.X.A,ci r.X.B,ci r.Y.A,ci r.Y.B,ci r.Z.A,ci r.Z.B]
structure qA where
 Kind:Int
 Box:Box
instance : Inhabited qA:=⟨⟨0,dd⟩⟩
def qD (r:qA):List C:=[ci r.Kind,ci r.Box.X.A,ci r.Box.X.B,ci r.Box.Y.A,ci r.Box.Y.B,ci r.Box.Z.A,ci r.Box.Z.B]
structure Scan where
 Rings:List Ring
 Defects:List qA
instance : Inhabited Scan:=⟨⟨[],[]⟩⟩
def qR (r:Scan):List C:=[tl qH dd r.Rings,tl qD dd r.Defects]
structure qK where
 Low:Int
 Rows:List Span
instance : Inhabited qK:=⟨⟨0,[]⟩⟩
def qP (r:qK):List C:=[ci r.Low,tl qL dd r.Rows]
structure Rect where
 X:Span
 Y:Span
instance : Inhabited Rect:=⟨⟨dd,dd⟩⟩
def ZI (r:Rect):List C:=[ci r.X.A,ci r.X.B,ci r.Y.A,ci r.Y.B]
structure qT where
 Len:Int
 Sec:qK
instance : Inhabited qT:=⟨⟨0,dd⟩⟩
def qV (r:qT):List C:=[ci r.Len,ci r.Sec.Low,tl qL dd r.Sec.Rows]
structure qI where
 s:ByteArray
 at_:Int
 e:Int
instance : Inhabited qI:=⟨⟨⟨#[]⟩,0,0⟩⟩
def qM (r:qI):List C:=[cs r.s,ci r.at_,ci r.e]
structure qGn where
 S:ByteArray
 At:Int
 E:Int
instance : Inhabited qGn:=⟨⟨⟨#[]⟩,0,0⟩⟩
def zbQ :List Int:=[(-1),1]
def globs :List (Nat×C):=[(0,.aptr 2 1 (rf qN zbQ))]
def QM (a1:Scan):Nat->Int->Option (Bool⊕Unit)
 |0,_=>none
 |n+1,x5=> bif decide (x5<(a1.Rings.length:Int)) then bif inb x5 a1.Rings.length then bif decide (((((a1.Rings.getD x5.toNat dd).Read).length:Nat):Int)>60) then some (Sum.inl false) else (QM a1 n) (w64 (x5+1)) else none else some (Sum.inr ())
def UU (a1:Scan) (x3:Bool):Option Bool:= bif x3 then some false else (QM a1 FUEL 0).bind λu11=>Sum.elim (λv12=>some v12) (λo9=> some true) u11
def TO (a1:Scan):Option Bool:= bif decide ((a1.Rings.length:Int)>40) then UU a1 true else UU a1 (decide ((a1.Defects.length:Int)>100))
def YZ :Nat->Int->(List qC)->Option (List qC)
 |0,_,_=>none
 |n+1,x4,l5=> bif decide (x4<((8:Nat):Int)) then bif inb x4 8 then bif room (l5.length+1) 24 then (YZ n) (w64 (x4+1)) (l5++([(qC.mk (qB.mk (([(-50),0,50,50,50,0,(-50),(-50)]:List Int).getD x4.toNat dd) (([(-20),(-20),(-20),0,20,20,20,0]:List Int).getD x4.toNat dd)) true)]:List qC)) else none else none else some l5
def KS (x3:Bool):Option Bool:= some x3
def YG (a1:Int):Option Bool:= bif decide (a1≥(-600)) then KS (decide (a1<=600)) else KS false
def PV (x7:Int) (R:Int->Option (Int⊕Unit)) (x19:Bool):Option (Int⊕Unit):= bif x19 then some (Sum.inl 19) else R (w64 (x7+1))
def JP (a1:Ring) (x7:Int) (R:Int->Option (Int⊕Unit)) (x16:Bool):Option (Int⊕Unit):= bif x16 then some (Sum.inl 9) else bif !((a1.Read.getD x7.toNat dd).Ok) then PV x7 R (!(((((a1.Read.getD x7.toNat dd).P).X)==0)&&(((((a1.Read.getD x7.toNat dd).P).Y)==0)&&true))) else PV x7 R false
def wE (a1:Ring):Nat->Int->Option (Int⊕Unit)
 |0,_=>none
 |n+1,x7=> bif decide (x7<(a1.Read.length:Int)) then bif inb x7 a1.Read.length then bif (a1.Read.getD x7.toNat dd).Ok then (YG (((a1.Read.getD x7.toNat dd).P).X)).bind λv11=> bif !v11 then JP a1 x7 (wE a1 n) true else (YG (((a1.Read.getD x7.toNat dd).P).Y)).bind λv14=> JP a1 x7 (wE a1 n) (!v14) else JP a1 x7 (wE a1 n) false else none else some (Sum.inr ())
def PZ (a1:Ring) (x5:Bool):Option Int:= bif x5 then some 9 else (wE a1 FUEL 0).bind λu23=>Sum.elim (λv24=>some v24) (λo21=> some 0) u23
def yU (a1:Ring):Option Int:= bif decide ((a1.Read.length:Int)<8) then some 3 else bif decide ((a1.Read.length:Int)>32) then some 4 else bif decide (a1.Z<0) then PZ a1 true else PZ a1 (decide (a1.Z>20000))
def QB (a1:Span):Option Bool:= some (decide (a1.A≥a1.B))
def JI (x5:Bool):Option Bool:= some x5
def yO (a1:Span) (a2:Int) (a3:Int):Option Bool:= bif decide ((imin a1.A a1.B)≥a2) then JI (decide ((imax a1.A a1.B)<=a3)) else JI false
def ZG (x23:Bool):Option Int:= bif x23 then some 9 else some 0
def ZP (a1:qA) (x13:Bool):Option Int:= bif x13 then some 19 else (yO a1.Box.X (-600) 600).bind λv15=> bif !v15 then ZG true else (yO a1.Box.Y (-600) 600).bind λv18=> bif !v18 then ZG true else (yO a1.Box.Z 0 20000).bind λv21=> ZG (!v21)
def YY (a1:qA) (x3:Bool):Option Int:= bif x3 then some 10 else (QB a1.Box.X).bind λv5=> bif v5 then ZP a1 true else (QB a1.Box.Y).bind λv8=> bif v8 then ZP a1 true else (QB a1.Box.Z).bind λv11=> ZP a1 v11
def XQ (a1:qA):Option Int:= bif decide (a1.Kind<1) then YY a1 true else YY a1 (decide (a1.Kind>6))
def jG (a1:List qA):Nat->Int->Option (Int⊕Unit)
 |0,_=>none
 |n+1,x3=> bif decide (x3<(a1.length:Int)) then bif inb x3 a1.length then (XQ (a1.getD x3.toNat dd)).bind λv6=> bif v6 !=0 then some (Sum.inl v6) else (jG a1 n) (w64 (x3+1)) else none else some (Sum.inr ())
def XO (a1:List qA):Option Int:= bif decide ((a1.length:Int)>64) then some 4 else (jG a1 FUEL 0).bind λu11=>Sum.elim (λv12=>some v12) (λo9=> some 0) u11
def yM (a1:Scan) (x4:Int) (R:Int->Option (Int⊕Unit)) (x16:Bool):Option (Int⊕Unit):= bif x16 then some (Sum.inl 11) else bif inb 0 a1.Rings.length then bif ((((a1.Rings.getD x4.toNat dd).Read).length:Nat):Int) !=((((a1.Rings.getD (0:Int).toNat dd).Read).length:Nat):Int) then some (Sum.inl 19) else R (w64 (x4+1)) else none
def zP (a1:Scan):Nat->Int->Option (Int⊕Unit)
 |0,_=>none
 |n+1,x4=> bif decide (x4<(a1.Rings.length:Int)) then bif inb x4 a1.Rings.length then (yU (a1.Rings.getD x4.toNat dd)).bind λv7=> bif v7 !=0 then some (Sum.inl v7) else bif x4==0 then bif ((a1.Rings.getD x4.toNat dd).Z) !=0 then yM a1 x4 (zP a1 n) true else bif decide (x4>0) then bif inb (w64 (x4-1)) a1.Rings.length then yM a1 x4 (zP a1 n) (decide (((a1.Rings.getD x4.toNat dd).Z)<=((a1.Rings.getD (w64 (x4-1)).toNat dd).Z))) else none else yM a1 x4 (zP a1 n) false else bif decide (x4>0) then bif inb (w64 (x4-1)) a1.Rings.length then yM a1 x4 (zP a1 n) (decide (((a1.Rings.getD x4.toNat dd).Z)<=((a1.Rings.getD (w64 (x4-1)).toNat dd).Z))) else none else yM a1 x4 (zP a1 n) false else none else some (Sum.inr ())
def ZD (a1:Scan):Nat->Int->Option (Int⊕Unit)
 |0,_=>none
 |n+1,x28=> bif decide (x28<(a1.Defects.length:Int)) then bif inb x28 a1.Defects.length then bif decide (((((a1.Defects.getD x28.toNat dd).Box).Z).B)>((a1.Rings.getD (w64 ((a1.Rings.length:Int)-1)).toNat dd).Z)) then some (Sum.inl 9) else (ZD a1 n) (w64 (x28+1)) else none else some (Sum.inr ())
def jB (a1:Scan):Option Int:= bif decide ((a1.Rings.length:Int)<2) then some 3 else bif decide ((a1.Rings.length:Int)>24) then some 4 else (zP a1 FUEL 0).bind λu22=>Sum.elim (λv23=>some v23) (λo20=> (XO a1.Defects).bind λv24=> bif v24 !=0 then some v24 else bif inb (w64 ((a1.Rings.length:Int)-1)) a1.Rings.length then (ZD a1 FUEL 0).bind λu34=>Sum.elim (λv35=>some v35) (λo32=> some 0) u34 else none) u22
def yG (a1:List qC):Option (List qC):= bif room a1.length 24 then some a1 else none
def KN (a1:Ring):Option Ring:= (yG a1.Read).bind λv2=> some (Ring.mk a1.Z v2)
def RN (x3:Int) (R:(List Int)->Int->Option (List Int)) (l8:List Int):Option (List Int):= R l8 (w64 (x3+1))
def QL (a1:Ring):Nat->(List Int)->Int->Option (List Int)
 |0,_,_=>none
 |n+1,l2,x3=> bif decide (x3<(a1.Read.length:Int)) then bif inb x3 a1.Read.length then bif (a1.Read.getD x3.toNat dd).Ok then bif room (l2.length+1) 8 then RN x3 (QL a1 n) (l2++[x3]) else none else RN x3 (QL a1 n) l2 else none else some l2
def JW (a1:Ring):Option (List Int):= (QL a1 FUEL [] 0).bind λo10=> some o10
def AN (x5:Bool):Option Bool:= some x5
def qCi (a1:qB) (a2:qB) (a3:Int):Option Bool:= bif decide ((imax (w64 (a1.X-a2.X)) (w64 (a2.X-a1.X)))>a3) then AN true else AN (decide ((imax (w64 (a1.Y-a2.Y)) (w64 (a2.Y-a1.Y)))>a3))
def BY (x18:Int) (R:Bool->Int->Option Bool) (x28:Bool):Option Bool:= R x28 (w64 (x18+1))
def JQ (a1:Ring) (a2:Int) (v5:(List Int)) (x13:Int):Nat->Bool->Int->Option Bool
 |0,_,_=>none
 |n+1,x17,x18=> bif decide (x18<2) then bif inb x18 2 then bif nz (v5.length:Int) then bif inb (Int.tmod (w64 ((w64 (x13+(v5.length:Int)))+(([(-1),1]:List Int).getD x18.toNat 0))) (v5.length:Int)) v5.length then bif inb (v5.getD ((Int.tmod (w64 ((w64 (x13+(v5.length:Int)))+(([(-1),1]:List Int).getD x18.toNat 0))) (v5.length:Int)).toNat) dd) a1.Read.length then bif x17 then bif inb (v5.getD x13.toNat dd) a1.Read.length then (qCi ((a1.Read.getD (v5.getD x13.toNat dd).toNat dd).P) ((a1.Read.getD (v5.getD ((Int.tmod (w64 ((w64 (x13+(v5.length:Int)))+(([(-1),1]:List Int).getD x18.toNat 0))) (v5.length:Int)).toNat) dd).toNat dd).P) a2).bind λv26=> BY x18 (JQ a1 a2 v5 x13 n) v26 else none else BY x18 (JQ a1 a2 v5 x13 n) false
 else none else none else none else none else some x17
def NJ (x13:Int) (R:Int->(List qC)->Option (List qC)) (l34:List qC):Option (List qC):= R (w64 (x13+1)) l34
def JV (a1:Ring) (a2:Int) (v5:(List Int)):Nat->Int->(List qC)->Option (List qC)
 |0,_,_=>none
 |n+1,x13,l14=> bif decide (x13<(v5.length:Int)) then bif inb x13 v5.length then (JQ a1 a2 v5 x13 FUEL true 0).bind λo30=> bif o30 then bif inb (v5.getD x13.toNat dd) l14.length then NJ x13 (JV a1 a2 v5 n) (l14.set ((v5.getD x13.toNat dd).toNat) (qC.mk (qB.mk 0 0) false)) else none else NJ x13 (JV a1 a2 v5 n) l14 else none else some l14
def PT (a1:Ring) (a2:Int) (v3:Ring) (v5:(List Int)) (x11:Bool):Option Ring:= bif x11 then some (Ring.mk v3.Z v3.Read) else (JV a1 a2 v5 FUEL 0 v3.Read).bind λo36=> some (Ring.mk v3.Z o36)
def OF (a1:Ring) (a2:Int):Option Ring:= (KN a1).bind λv3=> (JW a1).bind λv5=> bif decide (a2<0) then PT a1 a2 v3 v5 true else bif decide ((v5.length:Int)<2) then PT a1 a2 v3 v5 true else (yU a1).bind λv9=> PT a1 a2 v3 v5 (v9 !=0)
def DL (a1:Ring) (a2:List Int) (a3:Int):Option Int:= bif decide ((w64 (a3+1))<(a2.length:Int)) then bif inb (w64 (a3+1)) a2.length then bif inb a3 a2.length then some (w64 ((w64 ((a2.getD (w64 (a3+1)).toNat dd)-(a2.getD a3.toNat dd)))-1)) else none else none else bif inb 0 a2.length then bif inb a3 a2.length then some (w64 ((w64 ((w64 ((a2.getD (0:Int).toNat dd)+(a1.Read.length:Int)))-(a2.getD a3.toNat dd)))-1)) else none else none
def MR (a1:Ring) (v2:(List Int)):Nat->Int->Int->Option Int
 |0,_,_=>none
 |n+1,x5,x6=> bif decide (x6<(v2.length:Int)) then (DL a1 v2 x6).bind λv8=> (MR a1 v2 n) (imax x5 v8) (w64 (x6+1)) else some x5
def qAx (a1:Ring):Option (Int×Int):= (JW a1).bind λv2=> bif (v2.length:Int)==0 then some (w64 ((a1.Read.length:Int)-(v2.length:Int)),w64 ((a1.Read.length:Int)-(v2.length:Int))) else (MR a1 v2 FUEL 0 0).bind λo11=> some (w64 ((a1.Read.length:Int)-(v2.length:Int)),o11)
def NL (x5:Int):Option Int:= some x5
def FQ (a1:Int) (a2:Int):Option Int:= bif nz a2 then bif decide ((Int.tmod a1 a2)<0) then NL (w64 ((w64 (Int.tdiv a1 a2))-1)) else NL (w64 (Int.tdiv a1 a2)) else none
def DC (a1:Ring) (v6:(List Int)) (x16:Int) (v24:Int):Nat->(List qB)->Int->Option (List qB)
 |0,_,_=>none
 |n+1,l26,x27=> bif decide (x27<=v24) then bif nz (l26.length:Int) then (FQ (w64 ((w64 ((((a1.Read.getD (v6.getD ((Int.tmod (w64 (x16+1)) (v6.length:Int)).toNat) dd).toNat dd).P).X)-(((a1.Read.getD (v6.getD x16.toNat dd).toNat dd).P).X)))*x27)) (w64 (v24+1))).bind λv30=> (FQ (w64 ((w64 ((((a1.Read.getD (v6.getD ((Int.tmod (w64 (x16+1)) (v6.length:Int)).toNat) dd).toNat dd).P).Y)-(((a1.Read.getD (v6.getD x16.toNat dd).toNat dd).P).Y)))*x27)) (w64 (v24+1))).bind λv32=> bif inb (Int.tmod (w64 ((v6.getD x16.toNat dd)+x27)) (l26.length:Int)) l26.length then (DC a1 v6 x16 v24 n) (l26.set ((Int.tmod (w64 ((v6.getD x16.toNat dd)+x27)) (l26.length:Int)).toNat) (qB.mk (w64 ((((a1.Read.getD (v6.getD x16.toNat dd).toNat dd).P).X)+v30)) (w64 ((((a1.Read.getD (v6.getD x16.toNat dd).toNat dd).P).Y)+v32)))) (w64 (x27+1))
 else none else none else some l26
def GO (a1:Ring) (v6:(List Int)):Nat->(List qB)->Int->Option (List qB)
 |0,_,_=>none
 |n+1,l15,x16=> bif decide (x16<(v6.length:Int)) then bif inb x16 v6.length then bif inb (v6.getD x16.toNat dd) a1.Read.length then bif nz (v6.length:Int) then bif inb (Int.tmod (w64 (x16+1)) (v6.length:Int)) v6.length then bif inb (v6.getD ((Int.tmod (w64 (x16+1)) (v6.length:Int)).toNat) dd) a1.Read.length then bif inb (v6.getD x16.toNat dd) l15.length then (DL a1 v6 x16).bind λv24=> (DC a1 v6 x16 v24 FUEL (l15.set ((v6.getD x16.toNat dd).toNat) ((a1.Read.getD (v6.getD x16.toNat dd).toNat dd).P)) 1).bind λo36=> (GO a1 v6 n) o36 (w64 (x16+1)) else none else none else none else none else none else none else some l15
def KQ (a1:Ring) (v6:(List Int)) (x12:Bool):Option ((List qB)×Int):= bif x12 then some ([],30) else bif mkOk (a1.Read.length:Int) 16 then (GO a1 v6 FUEL (List.replicate ((a1.Read.length:Int).toNat) (qB.mk 0 0)) 0).bind λo39=> some (o39,0) else none
def AJ (a1:Ring) (a2:Int):Option ((List qB)×Int):= (yU a1).bind λv3=> bif v3 !=0 then some ([],v3) else (JW a1).bind λv6=> (qAx a1).bind λv8=> bif decide ((v6.length:Int)<3) then KQ a1 v6 true else bif decide (v8.1>0) then KQ a1 v6 (decide (v8.2>a2)) else KQ a1 v6 false
def DA (x3:Bool):Option Bool:= some x3
def DJ (a1:Int):Option Bool:= bif decide (a1≥(-600)) then DA (decide (a1<=600)) else DA false
def VG (x2:Int) (R:Int->Option (Bool⊕Unit)) (x10:Bool):Option (Bool⊕Unit):= bif x10 then some (Sum.inl false) else R (w64 (x2+1))
def ZH (a1:List qB):Nat->Int->Option (Bool⊕Unit)
 |0,_=>none
 |n+1,x2=> bif decide (x2<(a1.length:Int)) then bif inb x2 a1.length then (DJ ((a1.getD x2.toNat dd).X)).bind λv5=> bif !v5 then VG x2 (ZH a1 n) true else (DJ ((a1.getD x2.toNat dd).Y)).bind λv8=> VG x2 (ZH a1 n) (!v8) else none else some (Sum.inr ())
def XH (a1:List qB):Option Bool:= (ZH a1 FUEL 0).bind λu14=>Sum.elim (λv15=>some v15) (λo12=> some true) u14
def NA (a1:List qB):Nat->Int->Int->Option Int
 |0,_,_=>none
 |n+1,x7,x8=> bif decide (x8<(a1.length:Int)) then bif inb x8 a1.length then bif nz (a1.length:Int) then bif inb (Int.tmod (w64 (x8+1)) (a1.length:Int)) a1.length then (NA a1 n) (w64 (x7+(w64 ((w64 (((a1.getD x8.toNat dd).X)*((a1.getD (Int.tmod (w64 (x8+1)) (a1.length:Int)).toNat dd).Y)))-(w64 (((a1.getD (Int.tmod (w64 (x8+1)) (a1.length:Int)).toNat dd).X)*((a1.getD x8.toNat dd).Y))))))) (w64 (x8+1)) else none else none else none else some x7
def BZ (a1:List qB) (x5:Bool):Option Int:= bif x5 then some 0 else (NA a1 FUEL 0 0).bind λo14=> some o14
def OH (a1:List qB):Option Int:= bif decide ((a1.length:Int)>32) then BZ a1 true else (XH a1).bind λv3=> BZ a1 (!v3)
def OQ (a1:List qB):Option Int:= bif decide ((a1.length:Int)<3) then some 3 else bif decide ((a1.length:Int)>32) then some 4 else (XH a1).bind λv4=> bif !v4 then some 9 else (OH a1).bind λv7=> bif v7==0 then some 19 else some 0
def UO (a1:Int) (a2:Int):Option Span:= some (Span.mk (w64 (10*a1)) (w64 (10*a2)))
def YQ (a1:List qB):Option (List qB):= bif room a1.length 16 then some a1 else none
def YA (a1:Int):Option Bool:= some (a1 !=a1)
def yE (a1:Int) (a2:Int):Option Int:= (YA a1).bind λv3=> (YA a2).bind λv5=> bif v3 then bif v5 then some 0 else some (-1) else bif v5 then some 1 else bif decide (a1<a2) then some (-1) else bif decide (a1>a2) then some 1 else some 0
def QE (a1:List Int):Nat->Int->Option (Int⊕Unit)
 |0,_=>none
 |n+1,x2=> bif decide (x2<(a1.length:Int)) then bif inb x2 a1.length then bif (a1.getD x2.toNat dd) !=0 then some (Sum.inl (a1.getD x2.toNat dd)) else (QE a1 n) (w64 (x2+1)) else none else some (Sum.inr ())
def PJ (a1:List Int):Option Int:= (QE a1 FUEL 0).bind λu8=>Sum.elim (λv9=>some v9) (λo6=> some 0) u8
def poly_Hull_1 (a1:qB) (a2:qB):Option Int:= (yE a1.X a2.X).bind λv3=> (yE a1.Y a2.Y).bind λv5=> (PJ [v3,v5]).bind λv7=> some v7
def ZW (a1:List qB):Option (List qB):= bif qGo a1.length then some (PL poly_Hull_1 a1) else none
def QG (x12:Int) (R:(List qB)->Int->Int->Option ((List qB)×Int)) (l19:List qB) (x20:Int):Option ((List qB)×Int):= R l19 x20 (w64 (x12+1))
def wA (l3:List qB) (x4:Int):Nat->(List qB)->Int->Int->Option ((List qB)×Int)
 |0,_,_,_=>none
 |n+1,l10,x11,x12=> bif decide (x12<(((l3.length-x4.toNat):Nat):Int)) then bif inb x12 (l3.length-x4.toNat) then bif Nat.ble (x4.toNat+(l3.length-x4.toNat)) l10.length then bif inb (w64 (x12-1)) (l3.length-x4.toNat) then bif !((((l10.getD (x4.toNat+x12.toNat) dd).X)==((l10.getD (x4.toNat+((w64 (x12-1)).toNat)) dd).X))&&((((l10.getD (x4.toNat+x12.toNat) dd).Y)==((l10.getD (x4.toNat+((w64 (x12-1)).toNat)) dd).Y))&&true)) then bif inb x11 l10.length then QG x12 (wA l3 x4 n) (l10.set x11.toNat (l10.getD (x4.toNat+x12.toNat) dd)) (w64 (x11+1)) else none else QG x12 (wA l3 x4 n) l10 x11 else none else none else none else some (l10,x11)
def QR :Nat->(List qB)->Int->Option (((List qB)×(List qB))⊕(List qB))
 |0,_,_=>none
 |n+1,l3,x4=> bif decide (x4<(l3.length:Int)) then bif inb x4 l3.length then bif inb (w64 (x4-1)) l3.length then bif ((((l3.getD x4.toNat dd).X)==((l3.getD ((w64 (x4-1)).toNat) dd).X))&&((((l3.getD x4.toNat dd).Y)==((l3.getD ((w64 (x4-1)).toNat) dd).Y))&&true)) then bif slOk x4 (l3.length:Int) l3.length then (wA l3 x4 FUEL l3 x4 1).bind λo23=> bif slOk o23.2 (o23.1.length:Int) o23.1.length then bif slOk 0 o23.2 o23.1.length then some (Sum.inl ((o23.1.take o23.2.toNat),(o23.1.take o23.2.toNat))) else none else none else none else (QR n) l3 (w64 (x4+1)) else none else none else some (Sum.inr l3)
def WS (a1:List qB):Option ((List qB)×(List qB)):= bif decide ((a1.length:Int)<2) then some (a1,a1) else (QR FUEL a1 1).bind λu30=>Sum.elim (λv31=>some v31) (λo28=> some (o28,o28)) u30
def OA (a1:qB) (a2:qB) (a3:qB):Option Int:= some (w64 ((w64 ((w64 (a2.X-a1.X))*(w64 (a3.Y-a1.Y))))-(w64 ((w64 (a3.X-a1.X))*(w64 (a2.Y-a1.Y))))))
def NB (l6:List qB) (R:(List qB)->Option (List qB)) (x12:Bool):Option (List qB):= bif x12 then bif slOk 0 (w64 ((l6.length:Int)-1)) l6.length then R (l6.take ((w64 ((l6.length:Int)-1)).toNat)) else none else some l6
def YC (a1:List qB) (x3:Int):Nat->(List qB)->Option (List qB)
 |0,_=>none
 |n+1,l6=> bif decide ((l6.length:Int)≥2) then bif inb (w64 ((l6.length:Int)-2)) l6.length then bif inb (w64 ((l6.length:Int)-1)) l6.length then (OA (l6.getD ((w64 ((l6.length:Int)-2)).toNat) dd) (l6.getD ((w64 ((l6.length:Int)-1)).toNat) dd) (a1.getD x3.toNat dd)).bind λv10=> NB l6 (YC a1 x3 n) (decide (v10<=0)) else none else none else NB l6 (YC a1 x3 n) false
def BV (a1:List qB):Nat->(List qB)->Int->Option (List qB)
 |0,_,_=>none
 |n+1,l2,x3=> bif decide (x3<(a1.length:Int)) then bif inb x3 a1.length then (YC a1 x3 FUEL l2).bind λo16=> bif room (o16.length+1) 16 then (BV a1 n) (o16++[(a1.getD x3.toNat dd)]) (w64 (x3+1)) else none else none else some l2
def FN (a1:List qB):Option (List qB):= (BV a1 FUEL [] 0).bind λo20=> bif slOk 0 (w64 ((o20.length:Int)-1)) o20.length then some (o20.take ((w64 ((o20.length:Int)-1)).toNat)) else none
def QJ :Nat->(List qB)->Int->Int->Option (List qB)
 |0,_,_,_=>none
 |n+1,l2,x3,x4=> bif decide (x3<x4) then bif inb x4 l2.length then bif inb x3 l2.length then (QJ n) ((l2.set x3.toNat (l2.getD x4.toNat dd)).set x4.toNat (l2.getD x3.toNat dd)) (w64 (x3+1)) (w64 (x4-1)) else none else none else some l2
def WU (a1:List qB):Option (List qB):= (QJ FUEL a1 0 (w64 ((a1.length:Int)-1))).bind λo9=> some o9
def VH (a1:List qB) (x6:Bool):Option (List qB):= bif x6 then some ([]:List qB) else (YQ a1).bind λv8=> (ZW v8).bind λv10=> bif v10.length==v8.length then (WS v10).bind λv13=> (FN v13.2).bind λv15=> (WU v13.2).bind λv17=> bif v17.length==v13.2.length then (FN v17).bind λv20=> bif room (v15.length+v20.length) 16 then bif decide ((((v15.length+v20.length):Nat):Int)<3) then some ([]:List qB) else some (v15++v20) else none else none else none
def qA2 (a1:List qB):Option (List qB):= bif decide ((a1.length:Int)<3) then VH a1 true else bif decide ((a1.length:Int)>32) then VH a1 true else (XH a1).bind λv4=> VH a1 (!v4)
def GY (a1:List qB):Nat->Int->Rect->Option Rect
 |0,_,_=>none
 |n+1,x4,x5=> bif decide (x4<(a1.length:Int)) then bif inb x4 a1.length then (GY a1 n) (w64 (x4+1)) (Rect.mk (Span.mk (imin x5.X.A ((a1.getD x4.toNat dd).X)) (imax x5.X.B ((a1.getD x4.toNat dd).X))) (Span.mk (imin x5.Y.A ((a1.getD x4.toNat dd).Y)) (imax x5.Y.B ((a1.getD x4.toNat dd).Y)))) else none else some x5
def AO (a1:List qB):Option Rect:= bif (a1.length:Int)==0 then some (Rect.mk (Span.mk 0 0) (Span.mk 0 0)) else bif inb 0 a1.length then (GY a1 FUEL 0 (Rect.mk (Span.mk ((a1.getD (0:Int).toNat dd).X) ((a1.getD (0:Int).toNat dd).X)) (Span.mk ((a1.getD (0:Int).toNat dd).Y) ((a1.getD (0:Int).toNat dd).Y)))).bind λo9=> some o9 else none
def NH (x5:Int):Option Int:= some x5
def FI (a1:Int) (a2:Int):Option Int:= bif nz a2 then bif decide ((Int.tmod a1 a2)<0) then NH (w64 ((w64 (Int.tdiv a1 a2))-1)) else NH (w64 (Int.tdiv a1 a2)) else none
def YX (x6:Int) (R:Int->Int->Int->Option (Int×Int)) (x23:Int) (x24:Int):Option (Int×Int):= R x23 x24 (w64 (x6+1))
def YS (a1:Int) (a3:List qB) (x4:Int) (x5:Int) (x6:Int) (R:Int->Int->Int->Option (Int×Int)) (x19:Bool):Option (Int×Int):= bif x19 then (FI (w64 ((w64 (((a3.getD ((Int.tmod (w64 (x6+1)) (a3.length:Int)).toNat) dd).X)-((a3.getD x6.toNat dd).X)))*(w64 (a1-((a3.getD ((Int.tmod (w64 (x6+1)) (a3.length:Int)).toNat) dd).Y))))) (w64 (((a3.getD x6.toNat dd).Y)-((a3.getD ((Int.tmod (w64 (x6+1)) (a3.length:Int)).toNat) dd).Y)))).bind λv21=> YX x6 R (w64 (((a3.getD ((Int.tmod (w64 (x6+1)) (a3.length:Int)).toNat) dd).X)-v21)) x5 else YX x6 R x4 x5
def YT (a1:Int) (a3:List qB) (x4:Int) (x5:Int) (x6:Int) (R:Int->Int->Int->Option (Int×Int)) (x13:Bool):Option (Int×Int):= bif x13 then (FI (w64 ((w64 (((a3.getD ((Int.tmod (w64 (x6+1)) (a3.length:Int)).toNat) dd).X)-((a3.getD x6.toNat dd).X)))*(w64 (a1-((a3.getD x6.toNat dd).Y))))) (w64 (((a3.getD ((Int.tmod (w64 (x6+1)) (a3.length:Int)).toNat) dd).Y)-((a3.getD x6.toNat dd).Y)))).bind λv15=> YX x6 R x4 (w64 (((a3.getD x6.toNat dd).X)+v15)) else bif decide (((a3.getD x6.toNat dd).Y)>((a3.getD ((Int.tmod (w64 (x6+1)) (a3.length:Int)).toNat) dd).Y)) then bif decide (((a3.getD ((Int.tmod (w64 (x6+1)) (a3.length:Int)).toNat) dd).Y)<=a1) then YS a1 a3 x4 x5 x6 R (decide (a1<=((a3.getD x6.toNat dd).Y)))
 else YS a1 a3 x4 x5 x6 R false else YS a1 a3 x4 x5 x6 R false
def wL (a1:Int) (a3:List qB):Nat->Int->Int->Int->Option (Int×Int)
 |0,_,_,_=>none
 |n+1,x4,x5,x6=> bif decide (x6<(a3.length:Int)) then bif inb x6 a3.length then bif nz (a3.length:Int) then bif inb (Int.tmod (w64 (x6+1)) (a3.length:Int)) a3.length then bif decide (((a3.getD x6.toNat dd).Y)<((a3.getD ((Int.tmod (w64 (x6+1)) (a3.length:Int)).toNat) dd).Y)) then bif decide (((a3.getD x6.toNat dd).Y)<=a1) then YT a1 a3 x4 x5 x6 (wL a1 a3 n) (decide (a1<=((a3.getD ((Int.tmod (w64 (x6+1)) (a3.length:Int)).toNat) dd).Y))) else YT a1 a3 x4 x5 x6 (wL a1 a3 n) false else YT a1 a3 x4 x5 x6 (wL a1 a3 n) false else none else none else none else some (x4,x5)
def UG (a1:Int) (a2:Rect) (a3:List qB):Option (Int×Int):= (wL a1 a3 FUEL a2.X.A a2.X.B 0).bind λo27=> some (o27.1,o27.2)
def JM (a2:Int) (a3:Int) (v4:(List qB)) (v6:Rect) (x11:Bool):Option Span:= bif x11 then some (Span.mk 0 0) else (UG a2 v6 v4).bind λv13=> (UG a3 v6 v4).bind λv15=> bif decide ((imax v13.1 v15.1)≥(imin v13.2 v15.2)) then some (Span.mk 0 0) else some (Span.mk (imax v13.1 v15.1) (imin v13.2 v15.2))
def CA (a1:List qB) (a2:Int) (a3:Int):Option Span:= (qA2 a1).bind λv4=> (AO v4).bind λv6=> bif (v4.length:Int)==0 then JM a2 a3 v4 v6 true else bif decide (a2≥a3) then JM a2 a3 v4 v6 true else bif decide (a2<v6.Y.A) then JM a2 a3 v4 v6 true else JM a2 a3 v4 v6 (decide (a3>v6.Y.B))
def MJ (a1:Int) (a2:List qB):Option Span:= (UO a1 (w64 (a1+1))).bind λv3=> (CA a2 v3.A v3.B).bind λv5=> some v5
def jE (a1:Span):Option Bool:= some (decide (a1.A≥a1.B))
def JH (x3:Int) (R:Int->Int->Int->(List Span)->Option (Int×Int×(List Span))) (x17:Int) (x18:Int) (l19:List Span):Option (Int×Int×(List Span)):= R x17 (w64 (x3+1)) x18 l19
def RX (x3:Int) (l5:List Span) (R:Int->Int->Int->(List Span)->Option (Int×Int×(List Span))) (v7:Span) (x13:Int):Option (Int×Int×(List Span)):= bif room (l5.length+1) 16 then JH x3 R (((l5.length+1):Nat):Int) x13 (l5++[v7]) else none
def wC (a1:List qB):Nat->Int->Int->Int->(List Span)->Option (Int×Int×(List Span))
 |0,_,_,_,_=>none
 |n+1,x2,x3,x4,l5=> bif decide (x3<60) then (MJ x3 a1).bind λv7=> (jE v7).bind λv9=> bif !v9 then bif x2==0 then RX x3 l5 (wC a1 n) v7 x3 else RX x3 l5 (wC a1 n) v7 x4 else bif decide (x2>0) then bif room (l5.length+1) 16 then JH x3 (wC a1 n) x2 x4 (l5++[(Span.mk 0 0)]) else none else JH x3 (wC a1 n) x2 x4 l5 else some (x2,x4,l5)
def NE (a1:List qB):Option qK:= (wC a1 FUEL 0 (-60) 0 []).bind λo23=> bif slOk 0 o23.1 o23.2.2.length then some (qK.mk o23.2.1 (o23.2.2.take o23.1.toNat)) else none
def OK (a1:List qB):Option (qK×Int):= (OQ a1).bind λv2=> bif v2 !=0 then some ((qK.mk 0 []),v2) else (NE a1).bind λv5=> bif (v5.Rows.length:Int)==0 then some ((qK.mk 0 []),18) else some ((qK.mk v5.Low v5.Rows),0)
def GH (a1:Ring) (a2:Int) (a3:Int):Option (qK×Int):= (OF a1 a2).bind λv4=> (AJ (Ring.mk v4.Z v4.Read) a3).bind λv6=> bif v6.2 !=0 then some ((qK.mk 0 []),v6.2) else (OK v6.1).bind λv9=> some ((qK.mk v9.1.Low v9.1.Rows),v9.2)
def XM (x3:Bool):Option Bool:= some x3
def UH (a1:Span):Option Bool:= bif decide ((imin a1.A a1.B)≥(-600)) then XM (decide ((imax a1.A a1.B)<=600)) else XM false
def RT (a1:qK):Nat->Int->Option (Int⊕Unit)
 |0,_=>none
 |n+1,x6=> bif decide (x6<(a1.Rows.length:Int)) then bif inb x6 a1.Rows.length then (UH (a1.Rows.getD x6.toNat dd)).bind λv9=> bif !v9 then some (Sum.inl 9) else (RT a1 n) (w64 (x6+1)) else none else some (Sum.inr ())
def RU (x27:Int) (R:Int->Option (Int⊕Unit)) (x33:Bool):Option (Int⊕Unit):= bif x33 then some (Sum.inl 19) else R (w64 (x27+1))
def QN (a1:qK):Nat->Int->Option (Int⊕Unit)
 |0,_=>none
 |n+1,x27=> bif decide (x27<(a1.Rows.length:Int)) then bif inb x27 a1.Rows.length then (jE (a1.Rows.getD x27.toNat dd)).bind λv30=> bif v30 then RU x27 (QN a1 n) (!((((a1.Rows.getD x27.toNat dd).A)==0)&&((((a1.Rows.getD x27.toNat dd).B)==0)&&true))) else RU x27 (QN a1 n) false else none else some (Sum.inr ())
def RL (a1:qK) (x25:Bool):Option Int:= bif x25 then some 19 else (QN a1 FUEL 0).bind λu37=>Sum.elim (λv38=>some v38) (λo35=> some 0) u37
def TA (a1:qK) (x4:Bool):Option Int:= bif x4 then some 9 else (RT a1 FUEL 0).bind λu14=>Sum.elim (λv15=>some v15) (λo12=> bif (a1.Rows.length:Int)==0 then bif a1.Low !=0 then some 19 else some 0 else bif inb 0 a1.Rows.length then (jE (a1.Rows.getD (0:Int).toNat dd)).bind λv19=> bif v19 then RL a1 true else bif inb (w64 ((a1.Rows.length:Int)-1)) a1.Rows.length then (jE (a1.Rows.getD (w64 ((a1.Rows.length:Int)-1)).toNat dd)).bind λv23=> RL a1 v23 else none else none) u14
def PW (a1:qK):Option Int:= bif decide ((a1.Rows.length:Int)>120) then some 4 else bif decide (a1.Low<(-60)) then TA a1 true else TA a1 (decide (a1.Low>(w64 (60-(a1.Rows.length:Int)))))
def JY (a1:qK):Option qK:= (PW a1).bind λv2=> bif v2 !=0 then some (qK.mk 0 []) else some a1
def NC (a1:qK) (a2:Int) (x4:Bool):Option Span:= bif x4 then some (Span.mk 0 0) else bif inb (w64 (a2-a1.Low)) a1.Rows.length then some (a1.Rows.getD (w64 (a2-a1.Low)).toNat dd) else none
def FH (a1:qK) (a2:Int):Option Span:= bif decide (a2<a1.Low) then NC a1 a2 true else NC a1 a2 (decide (a2≥(w64 (a1.Low+(a1.Rows.length:Int)))))
def qAW (a1:Span) (a2:Span):Option Span:= bif decide ((imax a1.A a2.A)≥(imin a1.B a2.B)) then some (Span.mk 0 0) else some (Span.mk (imax a1.A a2.A) (imin a1.B a2.B))
def GL (a1:Int) (a2:qK) (a3:qK):Option Span:= (FH a2 a1).bind λv4=> (FH a3 a1).bind λv6=> (qAW v4 v6).bind λv8=> some v8
def QT (x4:Int) (R:Int->Int->Int->(List Span)->Option (Int×Int×(List Span))) (x18:Int) (x19:Int) (l20:List Span):Option (Int×Int×(List Span)):= R x18 (w64 (x4+1)) x19 l20
def YK (x4:Int) (l6:List Span) (R:Int->Int->Int->(List Span)->Option (Int×Int×(List Span))) (v8:Span) (x14:Int):Option (Int×Int×(List Span)):= bif room (l6.length+1) 16 then QT x4 R (((l6.length+1):Nat):Int) x14 (l6++[v8]) else none
def zO (a1:qK) (a2:qK):Nat->Int->Int->Int->(List Span)->Option (Int×Int×(List Span))
 |0,_,_,_,_=>none
 |n+1,x3,x4,x5,l6=> bif decide (x4<60) then (GL x4 a1 a2).bind λv8=> (jE v8).bind λv10=> bif !v10 then bif x3==0 then YK x4 l6 (zO a1 a2 n) v8 x4 else YK x4 l6 (zO a1 a2 n) v8 x5 else bif decide (x3>0) then bif room (l6.length+1) 16 then QT x4 (zO a1 a2 n) x3 x5 (l6++[(Span.mk 0 0)]) else none else QT x4 (zO a1 a2 n) x3 x5 l6 else some (x3,x5,l6)
def RD (a1:qK) (a2:qK):Option qK:= (zO a1 a2 FUEL 0 (-60) 0 []).bind λo24=> bif slOk 0 o24.1 o24.2.2.length then some (qK.mk o24.2.1 (o24.2.2.take o24.1.toNat)) else none
def MY (a1:qK) (a2:qK):Option qK:= (JY a1).bind λv3=> (JY a2).bind λv5=> (RD v3 v5).bind λv7=> some (qK.mk v7.Low v7.Rows)
def ND (a1:Scan) (a2:Int) (a3:Int):Nat->(List qK)->Int->Option (((List qT)×Int)⊕(List qK))
 |0,_,_=>none
 |n+1,l8,x9=> bif decide (x9<(a1.Rings.length:Int)) then bif inb x9 a1.Rings.length then (GH (a1.Rings.getD x9.toNat dd) a2 a3).bind λv12=> bif v12.2 !=0 then some (Sum.inl ([],30)) else bif inb x9 l8.length then (ND a1 a2 a3 n) (l8.set x9.toNat v12.1) (w64 (x9+1)) else none else none else some (Sum.inr l8)
def NR (a1:Scan) (o17:(List qK)):Nat->(List qT)->Int->Option (((List qT)×Int)⊕(List qT))
 |0,_,_=>none
 |n+1,l22,x23=> bif decide (x23<(((w64 ((a1.Rings.length:Int)-1)).toNat:Nat):Int)) then bif inb x23 o17.length then bif inb (w64 (x23+1)) o17.length then (MY (o17.getD x23.toNat dd) (o17.getD ((w64 (x23+1)).toNat) dd)).bind λv27=> bif (v27.Rows.length:Int)==0 then some (Sum.inl ([],30)) else bif inb (w64 (x23+1)) a1.Rings.length then bif inb x23 a1.Rings.length then bif inb x23 l22.length then (NR a1 o17 n) (l22.set x23.toNat (qT.mk (w64 (((a1.Rings.getD (w64 (x23+1)).toNat dd).Z)-((a1.Rings.getD x23.toNat dd).Z))) v27)) (w64 (x23+1)) else none else none else none else none else none else some (Sum.inr l22)
def JJ (a1:Scan) (a2:Int) (a3:Int):Option ((List qT)×Int):= (jB a1).bind λv4=> bif v4 !=0 then some ([],v4) else bif mkOk (a1.Rings.length:Int) 32 then (ND a1 a2 a3 FUEL (List.replicate ((a1.Rings.length:Int).toNat) (qK.mk 0 [])) 0).bind λu19=>Sum.elim (λv20=>some v20) (λo17=> bif mkOk (w64 ((a1.Rings.length:Int)-1)) 40 then (NR a1 o17 FUEL (List.replicate ((w64 ((a1.Rings.length:Int)-1)).toNat) (qT.mk 0 (qK.mk 0 []))) 0).bind λu39=>Sum.elim (λv40=>some v40) (λo37=> some (o37,0)) u39 else none) u19 else none
def JB (x3:Int) (R:(List Int)->Int->Option (List Int)) (l9:List Int):Option (List Int):= R l9 (w64 (x3+1))
def jD (a1:List qC):Nat->(List Int)->Int->Option (List Int)
 |0,_,_=>none
 |n+1,l2,x3=> bif decide (x3<(a1.length:Int)) then bif inb x3 a1.length then bif (a1.getD x3.toNat dd).Ok then bif room (l2.length+3) 8 then JB x3 (jD a1 n) (l2++[1,((a1.getD x3.toNat dd).P).X,((a1.getD x3.toNat dd).P).Y]) else none else bif room (l2.length+1) 8 then JB x3 (jD a1 n) (l2++[0]) else none else none else some l2
def PA (a1:List qC):Option (List Int):= (jD a1 FUEL [] 0).bind λo11=> some o11
def MC :Nat->Int->(List Int)->Option (Int×(List Int))
 |0,_,_=>none
 |n+1,x2,l3=> bif decide (x2≥128) then bif room (l3.length+1) 1 then (MC n) (shrI .u64 x2 7) (l3++[orI .u8 (IntKind.u8.wrap (x2)) 128]) else none else some (x2,l3)
def TV (a1:Int):Option ByteArray:= (MC FUEL a1 []).bind λo8=> bif room (o8.2.length+1) 1 then some (strTk (o8.2.length+1) (o8.2++[IntKind.u8.wrap (o8.1)])) else none
def LZ (a1:Int):Option ByteArray:= bif decide (a1<0) then (TV (orI .u64 (shlI .u64 (notI .u64 (IntKind.u64.wrap (a1))) 1) 1)).bind λv3=> some v3 else (TV (shlI .u64 (IntKind.u64.wrap (a1)) 1)).bind λv5=> some v5
def SS (a1:List Int):Option ByteArray:=intsM TV LZ a1
def YP (a1:List qA):Nat->(List Int)->Int->Option (List Int)
 |0,_,_=>none
 |n+1,l2,x3=> bif decide (x3<(a1.length:Int)) then bif inb x3 a1.length then bif room (l2.length+7) 8 then (YP a1 n) (l2++[(a1.getD x3.toNat dd).Kind,(((a1.getD x3.toNat dd).Box).X).A,(((a1.getD x3.toNat dd).Box).X).B,(((a1.getD x3.toNat dd).Box).Y).A,(((a1.getD x3.toNat dd).Box).Y).B,(((a1.getD x3.toNat dd).Box).Z).A,(((a1.getD x3.toNat dd).Box).Z).B]) (w64 (x3+1)) else none else none else some l2
def RY (a1:List qA):Option (List Int):= (YP a1 FUEL [] 0).bind λo8=> some o8
def GW (a1:Scan):Nat->(List Int)->ByteArray->Int->Option ((List Int)×ByteArray)
 |0,_,_,_=>none
 |n+1,l5,x6,x7=> bif decide (x7<(a1.Rings.length:Int)) then bif inb x7 a1.Rings.length then bif room (l5.length+1) 8 then (PA ((a1.Rings.getD x7.toNat dd).Read)).bind λv11=> (SS v11).bind λv13=> bif qBk x6 v13 then (GW a1 n) (l5++[(a1.Rings.getD x7.toNat dd).Z]) (x6++v13) (w64 (x7+1)) else none else none else none else some (l5,x6)
def YD (a1:Scan):Option (ByteArray×Int):= (jB a1).bind λv2=> bif v2 !=0 then some ((ByteArray.mk #[]),v2) else (GW a1 FUEL [] (ByteArray.mk #[]) 0).bind λo18=> (SS o18.1).bind λv20=> bif qBk v20 o18.2 then (RY a1.Defects).bind λv23=> (SS v23).bind λv25=> bif qBk (v20++o18.2) v25 then some ((v20++o18.2)++v25,0) else none else none
def DB (a1:ByteArray):Option qI:= some (qI.mk a1 0 0)
def YM (a1:qI):Option Bool:= some (a1.e !=0)
def WO (a1:Int) (a2:qI) (x3:Int) (x4:Int) (x13:Bool):Option ((Int×Int×Int)⊕Unit):= bif x13 then some (Sum.inl (0,0,5)) else some (Sum.inl (orI .u64 x3 (shlI .u64 (IntKind.u64.wrap (andI .u8 (QS a2.s ((w64 (a1+x4)).toNat)) 127)) (w64 (7*x4))),w64 ((w64 (a1+x4))+1),0))
def WQ (a1:Int) (a2:qI) (x3:Int) (x4:Int) (R:Int->Int->Option ((Int×Int×Int)⊕Unit)) (x8:Bool):Option ((Int×Int×Int)⊕Unit):= bif x8 then some (Sum.inl (0,0,5)) else bif nneg (w64 (7*x4)) then bif decide ((QS a2.s ((w64 (a1+x4)).toNat))≥128) then R (orI .u64 x3 (shlI .u64 (IntKind.u64.wrap (andI .u8 (QS a2.s ((w64 (a1+x4)).toNat)) 127)) (w64 (7*x4)))) (w64 (x4+1)) else bif (QS a2.s ((w64 (a1+x4)).toNat))==0 then WO a1 a2 x3 x4 (decide (x4>0)) else WO a1 a2 x3 x4 false else none
def wU (a1:Int) (a2:qI):Nat->Int->Int->Option ((Int×Int×Int)⊕Unit)
 |0,_,_=>none
 |n+1,x3,x4=> bif decide ((w64 (a1+x4))≥(a2.s.size:Int)) then some (Sum.inl (0,0,3)) else bif inb (w64 (a1+x4)) a2.s.size then bif x4==9 then WQ a1 a2 x3 x4 (wU a1 a2 n) (decide ((QS a2.s ((w64 (a1+x4)).toNat))>1)) else WQ a1 a2 x3 x4 (wU a1 a2 n) false else none
def ZF (a1:Int) (a2:qI):Option (Int×Int×Int):= (wU a1 a2 FUEL 0 0).bind λu17=>Sum.elim (λv18=>some v18) (λo15=> none) u17
def ZZ (v4:Int×Int×Int) (x8:Bool):Option (Int×Int×Int):= bif x8 then some (0,0,4) else some (v4.1,v4.2.1,0)
def YR (a1:Int) (a2:Int) (a3:qI):Option (Int×Int×Int):= (ZF a1 a3).bind λv4=> bif v4.2.2 !=0 then some (0,0,v4.2.2) else bif decide (a2<0) then ZZ v4 true else ZZ v4 (decide (v4.1>(IntKind.u64.wrap (a2))))
def WL (v5:Int×Int×Int) (x9:Int) (x11:Bool):Option (Int×Int×Int):= bif x11 then some (0,0,9) else some (x9,v5.2.1,0)
def WT (a2:Int) (a3:Int) (v5:Int×Int×Int) (x9:Int):Option (Int×Int×Int):= bif decide (x9<a2) then WL v5 x9 true else WL v5 x9 (decide (x9>a3))
def XU (a1:Int) (a2:Int) (a3:Int) (a4:qI):Option (Int×Int×Int):= (ZF a1 a4).bind λv5=> bif v5.2.2 !=0 then some (0,0,v5.2.2) else bif (andI .u64 v5.1 1)==1 then WT a2 a3 v5 (notI .i64 (w64 (shrI .u64 v5.1 1))) else WT a2 a3 v5 (w64 (shrI .u64 v5.1 1))
def RH (a1:Int) (a2:Int) (a3:qI):Option (Int×Int):= bif a2 !=0 then some (a3.at_,a2) else some (a1,a3.e)
def YN (a2:Int) (a3:Int) (a4:qI) (x10:Int) (x11:Int) (l12:List Int) (x13:Int) (R:Int->Int->(List Int)->Int->Option (Int×Int×(List Int))) (x15:Bool):Option (Int×Int×(List Int)):= bif x15 then (XU x10 a2 a3 a4).bind λv17=> bif room (l12.length+1) 8 then R v17.2.1 v17.2.2 (l12++[v17.1]) (IntKind.u64.wrap (x13+1)) else none else some (x10,x11,l12)
def jP (a2:Int) (a3:Int) (a4:qI) (v8:Int×Int×Int):Nat->Int->Int->(List Int)->Int->Option (Int×Int×(List Int))
 |0,_,_,_,_=>none
 |n+1,x10,x11,l12,x13=> bif decide (x13<v8.1) then YN a2 a3 a4 x10 x11 l12 x13 (jP a2 a3 a4 v8 n) (x11==0) else YN a2 a3 a4 x10 x11 l12 x13 (jP a2 a3 a4 v8 n) false
def TC (a1:Int) (a2:Int) (a3:Int) (a4:qI):Option ((List Int)×Int×Int):= (YM a4).bind λv5=> bif v5 then some ([],a4.at_,a4.e) else (YR a4.at_ a1 a4).bind λv8=> (jP a2 a3 a4 v8 FUEL v8.2.1 v8.2.2 [] 0).bind λo23=> (RH o23.1 o23.2.1 a4).bind λv25=> bif o23.2.1 !=0 then some ([],v25.1,v25.2) else some (o23.2.2,v25.1,v25.2)
def XP (a1:Int) (a2:qI):Option ((List Int)×Int×Int):= (TC a1 (-1099511627776) 1099511627776 a2).bind λv3=> some (v3.1,v3.2.1,v3.2.2)
def XT (l2:List Int) (l3:List qC) (R:(List Int)->(List qC)->Option (((List qC)×Bool)⊕(List qC))) (x10:Bool):Option (((List qC)×Bool)⊕(List qC)):= bif x10 then bif inb 1 l2.length then bif inb 2 l2.length then bif room (l3.length+1) 24 then bif slOk 3 (l2.length:Int) l2.length then R (l2.drop ((3:Int).toNat)) (l3++[(qC.mk (qB.mk (l2.getD (1:Int).toNat dd) (l2.getD (2:Int).toNat dd)) true)]) else none else none else none else none else some (Sum.inl ([],false))
def wS :Nat->(List Int)->(List qC)->Option (((List qC)×Bool)⊕(List qC))
 |0,_,_=>none
 |n+1,l2,l3=> bif decide ((l2.length:Int)>0) then bif inb 0 l2.length then bif (l2.getD (0:Int).toNat dd)==0 then bif room (l3.length+1) 24 then bif slOk 1 (l2.length:Int) l2.length then (wS n) (l2.drop ((1:Int).toNat)) (l3++[(qC.mk (qB.mk 0 0) false)]) else none else none else bif (l2.getD (0:Int).toNat dd)==1 then XT l2 l3 (wS n) (decide ((l2.length:Int)≥3)) else XT l2 l3 (wS n) false else none else some (Sum.inr l3)
def UD (a1:List Int):Option ((List qC)×Bool):= (wS FUEL a1 []).bind λu19=>Sum.elim (λv20=>some v20) (λo17=> some (o17,true)) u19
def PE :Nat->(List Int)->(List qA)->Option (List qA)
 |0,_,_=>none
 |n+1,l3,l4=> bif decide ((l3.length:Int)>0) then bif inb 1 l3.length then bif inb 2 l3.length then bif inb 3 l3.length then bif inb 4 l3.length then bif inb 5 l3.length then bif inb 6 l3.length then bif inb 0 l3.length then bif room (l4.length+1) 56 then bif slOk 7 (l3.length:Int) l3.length then (PE n) (l3.drop ((7:Int).toNat)) (l4++[(qA.mk (l3.getD (0:Int).toNat dd) (Box.mk (Span.mk (l3.getD (1:Int).toNat dd) (l3.getD (2:Int).toNat dd)) (Span.mk (l3.getD (3:Int).toNat dd) (l3.getD (4:Int).toNat dd)) (Span.mk (l3.getD (5:Int).toNat dd) (l3.getD (6:Int).toNat dd))))]) else none else none else none else none else none else none else none else none else none else some l4
def GS (a1:List Int):Option ((List qA)×Bool):= bif (Int.tmod (a1.length:Int) 7) !=0 then some ([],false) else (PE FUEL a1 []).bind λo16=> some (o16,true)
def UW (a1:qI):Option Int:= some a1.e
def RE (a1:qI):Option Int:= some (w64 ((a1.s.size:Int)-a1.at_))
def UI (a1:qI):Option Int:= (UW a1).bind λv2=> bif v2 !=0 then some v2 else (RE a1).bind λv5=> bif decide (v5>0) then some 4 else some 0
def BU (v2:qI) (v4:(List Int)×Int×Int):Nat->Int->(List Ring)->Int->Int->Option ((Scan×Bool)⊕((List Ring)×qI))
 |0,_,_,_,_=>none
 |n+1,x6,l7,x8,x9=> bif decide (x6<(v4.1.length:Int)) then bif inb x6 v4.1.length then (XP 96 (qI.mk v2.s x8 x9)).bind λv12=> (UD v12.1).bind λv14=> bif !v14.2 then some (Sum.inl ((Scan.mk [] []),false)) else bif room (l7.length+1) 32 then (BU v2 v4 n) (w64 (x6+1)) (l7++[(Ring.mk (v4.1.getD x6.toNat dd) v14.1)]) v12.2.1 v12.2.2 else none else none else some (Sum.inr (l7,(qI.mk v2.s x8 x9)))
def NQ (o20:(List Ring)×qI) (v26:(List qA)×Bool) (x31:Bool):Option (Scan×Bool):= bif x31 then some ((Scan.mk [] []),false) else some ((Scan.mk o20.1 v26.1),true)
def OT (a1:ByteArray):Option (Scan×Bool):= (DB a1).bind λv2=> (XP 24 v2).bind λv4=> (BU v2 v4 FUEL 0 [] v4.2.1 v4.2.2).bind λu22=>Sum.elim (λv23=>some v23) (λo20=> (XP 448 o20.2).bind λv24=> (GS v24.1).bind λv26=> bif !v26.2 then NQ o20 v26 true else (UI (qI.mk o20.2.s v24.2.1 v24.2.2)).bind λv29=> NQ o20 v26 (v29 !=0)) u22
def YE (a1:ByteArray):Option (Scan×Int):= (OT a1).bind λv2=> bif !v2.2 then some ((Scan.mk [] []),5) else (jB (Scan.mk v2.1.Rings v2.1.Defects)).bind λv5=> bif v5 !=0 then some ((Scan.mk [] []),v5) else some ((Scan.mk v2.1.Rings v2.1.Defects),0)
def QP (a1:List qC) (a2:List qC):Nat->Int->Option (Bool⊕Unit)
 |0,_=>none
 |n+1,x4=> bif decide (x4<(a1.length:Int)) then bif inb x4 a1.length then bif inb x4 a2.length then bif !((((((a1.getD x4.toNat dd).P).X)==(((a2.getD x4.toNat dd).P).X))&&(((((a1.getD x4.toNat dd).P).Y)==(((a2.getD x4.toNat dd).P).Y))&&true))&&((((a1.getD x4.toNat dd).Ok)==((a2.getD x4.toNat dd).Ok))&&true)) then some (Sum.inl false) else (QP a1 a2 n) (w64 (x4+1)) else none else none else some (Sum.inr ())
def WF (a1:List qC) (a2:List qC):Option Bool:= bif (a1.length:Int) !=(a2.length:Int) then some false else (QP a1 a2 FUEL 0).bind λu11=>Sum.elim (λv12=>some v12) (λo9=> some true) u11
def GA (x6:Bool):Option Bool:= some x6
def EU (a1:Ring) (a2:Ring):Option Bool:= bif a1.Z==a2.Z then (WF a1.Read a2.Read).bind λv4=> GA v4 else GA false
def yY (a1:List Ring) (a2:List Ring):Nat->Int->Option (Bool⊕Unit)
 |0,_=>none
 |n+1,x4=> bif decide (x4<(a1.length:Int)) then bif inb x4 a1.length then bif inb x4 a2.length then (EU (a1.getD x4.toNat dd) (a2.getD x4.toNat dd)).bind λv8=> bif !v8 then some (Sum.inl false) else (yY a1 a2 n) (w64 (x4+1)) else none else none else some (Sum.inr ())
def ZX (a1:List Ring) (a2:List Ring):Option Bool:= bif (a1.length:Int) !=(a2.length:Int) then some false else (yY a1 a2 FUEL 0).bind λu13=>Sum.elim (λv14=>some v14) (λo11=> some true) u13
def QX (a1:List qA) (a2:List qA):Nat->Int->Option (Bool⊕Unit)
 |0,_=>none
 |n+1,x4=> bif decide (x4<(a1.length:Int)) then bif inb x4 a1.length then bif inb x4 a2.length then bif !((((a1.getD x4.toNat dd).Kind)==((a2.getD x4.toNat dd).Kind))&&((((((((a1.getD x4.toNat dd).Box).X).A)==((((a2.getD x4.toNat dd).Box).X).A))&&((((((a1.getD x4.toNat dd).Box).X).B)==((((a2.getD x4.toNat dd).Box).X).B))&&true))&&(((((((a1.getD x4.toNat dd).Box).Y).A)==((((a2.getD x4.toNat dd).Box).Y).A))&&((((((a1.getD x4.toNat dd).Box).Y).B)==((((a2.getD x4.toNat dd).Box).Y).B))&&true))&&(((((((a1.getD x4.toNat dd).Box).Z).A)==((((a2.getD x4.toNat dd).Box).Z).A))&&((((((a1.getD x4.toNat dd).Box).Z).B)==((((a2.getD x4.toNat dd).Box).Z).B))&&true))&&true)))&&true)) then some (Sum.inl false) else
 (QX a1 a2 n) (w64 (x4+1)) else none else none else some (Sum.inr ())
def JF (a1:List qA) (a2:List qA):Option Bool:= bif (a1.length:Int) !=(a2.length:Int) then some false else (QX a1 a2 FUEL 0).bind λu11=>Sum.elim (λv12=>some v12) (λo9=> some true) u11
def MA (x8:Bool):Option Bool:= some x8
def BI (a1:Scan) (a2:Scan):Option Bool:= (ZX a1.Rings a2.Rings).bind λv3=> bif v3 then (JF a1.Defects a2.Defects).bind λv6=> MA v6 else MA false
def GU (a1:List qT) (x4:Int) (x5:Int) (R:Int->Int->Option (Int⊕Unit)) (x13:Bool):Option (Int⊕Unit):= bif x13 then some (Sum.inl 9) else R (w64 (x4+((a1.getD x5.toNat dd).Len))) (w64 (x5+1))
def WH (a1:List qT):Nat->Int->Int->Option (Int⊕Unit)
 |0,_,_=>none
 |n+1,x4,x5=> bif decide (x5<(a1.length:Int)) then bif inb x5 a1.length then (PW ((a1.getD x5.toNat dd).Sec)).bind λv8=> bif v8 !=0 then some (Sum.inl v8) else bif (((((a1.getD x5.toNat dd).Sec).Rows).length:Nat):Int)==0 then some (Sum.inl 18) else bif decide (((a1.getD x5.toNat dd).Len)<1) then GU a1 x4 x5 (WH a1 n) true else GU a1 x4 x5 (WH a1 n) (decide (((a1.getD x5.toNat dd).Len)>(w64 (20000-x4)))) else none else some (Sum.inr ())
def EW (a1:List qT):Option Int:= bif (a1.length:Int)==0 then some 3 else bif decide ((a1.length:Int)>24) then some 4 else (WH a1 FUEL 0 0).bind λu17=>Sum.elim (λv18=>some v18) (λo15=> some 0) u17
def ES (a1:List qT):Option (List qT):= (EW a1).bind λv2=> bif v2 !=0 then some ([]:List qT) else some a1
def qAy (a1:Span):Option Int:= bif decide (a1.A≥a1.B) then some 0 else some (IntKind.u64.wrap ((IntKind.u64.wrap (a1.B))-(IntKind.u64.wrap (a1.A))))
def FX (a1:Int):Option Int:= some (w64 (imin a1 9223372036854775807))
def qCc (a1:Span):Option Int:= (qAy a1).bind λv2=> (FX v2).bind λv4=> some v4
def VN (v2:qK):Nat->Int->Int->Option Int
 |0,_,_=>none
 |n+1,x4,x5=> bif decide (x5<(v2.Rows.length:Int)) then bif inb x5 v2.Rows.length then (qCc (v2.Rows.getD x5.toNat dd)).bind λv8=> (VN v2 n) (w64 (x4+v8)) (w64 (x5+1)) else none else some x4
def LJ (a1:qK):Option Int:= (JY a1).bind λv2=> (VN v2 FUEL 0 0).bind λo11=> some (w64 (10*o11))
def VQ (v2:(List qT)):Nat->Int->Int->Option Int
 |0,_,_=>none
 |n+1,x4,x5=> bif decide (x5<(v2.length:Int)) then bif inb x5 v2.length then (LJ ((v2.getD x5.toNat dd).Sec)).bind λv8=> (VQ v2 n) (w64 (x4+(w64 (((v2.getD x5.toNat dd).Len)*v8)))) (w64 (x5+1)) else none else some x4
def VE (a1:List qT):Option Int:= (ES a1).bind λv2=> (VQ v2 FUEL 0 0).bind λo11=> some o11 @[irreducible] def law15_awake :Option Bool:=some true
def yF (x2:Int) (R:Int->Option (Bool⊕Unit)) (x8:Bool):Option (Bool⊕Unit):= bif x8 then some (Sum.inl false) else R (w64 (x2+1))
def zS (a1:List qB):Nat->Int->Option (Bool⊕Unit)
 |0,_=>none
 |n+1,x2=> bif decide (x2<(a1.length:Int)) then bif inb x2 a1.length then bif decide (((a1.getD x2.toNat dd).X)<(-600)) then yF x2 (zS a1 n) true else bif decide (((a1.getD x2.toNat dd).X)>600) then yF x2 (zS a1 n) true else bif decide (((a1.getD x2.toNat dd).Y)<(-600)) then yF x2 (zS a1 n) true else yF x2 (zS a1 n) (decide (((a1.getD x2.toNat dd).Y)>600)) else none else some (Sum.inr ())
def XW (a1:List qB):Option Bool:= (zS a1 FUEL 0).bind λu12=>Sum.elim (λv13=>some v13) (λo10=> some true) u12
def KA (x7:Int) (R:Int->Option (Int⊕Unit)) (x16:Bool):Option (Int⊕Unit):= bif x16 then some (Sum.inl 19) else R (w64 (x7+1))
def KC (a1:Ring) (x7:Int) (R:Int->Option (Int⊕Unit)) (x13:Bool):Option (Int⊕Unit):= bif x13 then some (Sum.inl 9) else bif !((a1.Read.getD x7.toNat dd).Ok) then KA x7 R (!(((((a1.Read.getD x7.toNat dd).P).X)==0)&&(((((a1.Read.getD x7.toNat dd).P).Y)==0)&&true))) else KA x7 R false
def wF (a1:Ring):Nat->Int->Option (Int⊕Unit)
 |0,_=>none
 |n+1,x7=> bif decide (x7<(a1.Read.length:Int)) then bif inb x7 a1.Read.length then bif (a1.Read.getD x7.toNat dd).Ok then (XW [(a1.Read.getD x7.toNat dd).P]).bind λv11=> KC a1 x7 (wF a1 n) (!v11) else KC a1 x7 (wF a1 n) false else none else some (Sum.inr ())
def KB (a1:Ring) (x5:Bool):Option Int:= bif x5 then some 9 else (wF a1 FUEL 0).bind λu20=>Sum.elim (λv21=>some v21) (λo18=> some 0) u20
def ZV (a1:Ring):Option Int:= bif decide ((a1.Read.length:Int)<8) then some 3 else bif decide ((a1.Read.length:Int)>32) then some 4 else bif decide (a1.Z<0) then KB a1 true else KB a1 (decide (a1.Z>20000))
def WR (x4:Bool):Option Bool:= some x4
def PH (a1:Box):Option Bool:= bif decide (a1.X.A≥a1.X.B) then WR true else bif decide (a1.Y.A≥a1.Y.B) then WR true else WR (decide (a1.Z.A≥a1.Z.B))
def DH (x5:Bool):Option Bool:= some x5
def RW (a1:Span) (a2:Int) (a3:Int):Option Bool:= bif decide (a2<=a1.A) then DH (decide (a1.B<=a3)) else DH false
def ZL (x10:Bool):Option Bool:= some x10
def XF (a1:Box):Option Bool:= (RW a1.X (-600) 600).bind λv2=> bif v2 then (RW a1.Y (-600) 600).bind λv5=> bif v5 then (RW a1.Z 0 20000).bind λv8=> ZL v8 else ZL false else ZL false
def KL (a1:List qA) (x3:Int) (R:Int->Option (Int⊕Unit)) (x7:Bool):Option (Int⊕Unit):= bif x7 then some (Sum.inl 10) else bif inb x3 a1.length then (PH ((a1.getD x3.toNat dd).Box)).bind λv10=> bif v10 then some (Sum.inl 19) else (XF ((a1.getD x3.toNat dd).Box)).bind λv13=> bif !v13 then some (Sum.inl 9) else R (w64 (x3+1)) else none
def wH (a1:List qA):Nat->Int->Option (Int⊕Unit)
 |0,_=>none
 |n+1,x3=> bif decide (x3<(a1.length:Int)) then bif inb x3 a1.length then bif decide (((a1.getD x3.toNat dd).Kind)<1) then KL a1 x3 (wH a1 n) true else KL a1 x3 (wH a1 n) (decide (((a1.getD x3.toNat dd).Kind)>6)) else none else some (Sum.inr ())
def PI (a1:List qA):Option Int:= bif decide ((a1.length:Int)>64) then some 4 else (wH a1 FUEL 0).bind λu18=>Sum.elim (λv19=>some v19) (λo16=> some 0) u18
def jS (a1:Scan) (x5:Int) (R:Int->Int->Option (Int⊕Int)) (x15:Bool):Option (Int⊕Int):= bif x15 then some (Sum.inl 11) else bif inb 0 a1.Rings.length then bif ((((a1.Rings.getD x5.toNat dd).Read).length:Nat):Int) !=((((a1.Rings.getD (0:Int).toNat dd).Read).length:Nat):Int) then some (Sum.inl 19) else R ((a1.Rings.getD x5.toNat dd).Z) (w64 (x5+1)) else none
def zD (a1:Scan):Nat->Int->Int->Option (Int⊕Int)
 |0,_,_=>none
 |n+1,x4,x5=> bif decide (x5<(a1.Rings.length:Int)) then bif inb x5 a1.Rings.length then (ZV (a1.Rings.getD x5.toNat dd)).bind λv8=> bif v8 !=0 then some (Sum.inl v8) else bif x5==0 then bif ((a1.Rings.getD x5.toNat dd).Z) !=0 then jS a1 x5 (zD a1 n) true else bif decide (x5>0) then jS a1 x5 (zD a1 n) (decide (((a1.Rings.getD x5.toNat dd).Z)<=x4)) else jS a1 x5 (zD a1 n) false else bif decide (x5>0) then jS a1 x5 (zD a1 n) (decide (((a1.Rings.getD x5.toNat dd).Z)<=x4)) else jS a1 x5 (zD a1 n) false else none else some (Sum.inr x4)
def QF (a1:Scan) (o20:Int):Nat->Int->Option (Int⊕Unit)
 |0,_=>none
 |n+1,x27=> bif decide (x27<(a1.Defects.length:Int)) then bif inb x27 a1.Defects.length then bif decide (((((a1.Defects.getD x27.toNat dd).Box).Z).B)>o20) then some (Sum.inl 9) else (QF a1 o20 n) (w64 (x27+1)) else none else some (Sum.inr ())
def YJ (a1:Scan):Option Int:= bif decide ((a1.Rings.length:Int)<2) then some 3 else bif decide ((a1.Rings.length:Int)>24) then some 4 else (zD a1 FUEL 0 0).bind λu22=>Sum.elim (λv23=>some v23) (λo20=> (PI a1.Defects).bind λv24=> bif v24 !=0 then some v24 else (QF a1 o20 FUEL 0).bind λu33=>Sum.elim (λv34=>some v34) (λo31=> some 0) u33) u22
def XV (a1:Ring):Option Ring:= bif room (0+a1.Read.length) 24 then some (Ring.mk a1.Z (([]:List qC)++a1.Read)) else none
def yJ (a1:Ring) (a2:Ring):Nat->Int->Option (Bool⊕Unit)
 |0,_=>none
 |n+1,x6=> bif decide (x6<(a1.Read.length:Int)) then bif inb x6 a1.Read.length then bif inb x6 a2.Read.length then bif !((((((a1.Read.getD x6.toNat dd).P).X)==(((a2.Read.getD x6.toNat dd).P).X))&&(((((a1.Read.getD x6.toNat dd).P).Y)==(((a2.Read.getD x6.toNat dd).P).Y))&&true))&&((((a1.Read.getD x6.toNat dd).Ok)==((a2.Read.getD x6.toNat dd).Ok))&&true)) then some (Sum.inl false) else (yJ a1 a2 n) (w64 (x6+1)) else none else none else some (Sum.inr ())
def RA (a1:Ring) (a2:Ring) (x4:Bool):Option Bool:= bif x4 then some false else (yJ a1 a2 FUEL 0).bind λu13=>Sum.elim (λv14=>some v14) (λo11=> some true) u13
def VB (a1:Ring) (a2:Ring):Option Bool:= bif a1.Z !=a2.Z then RA a1 a2 true else RA a1 a2 ((a1.Read.length:Int) !=(a2.Read.length:Int))
def yL (a1:List qA) (a2:List qA):Nat->Int->Option (Bool⊕Unit)
 |0,_=>none
 |n+1,x4=> bif decide (x4<(a1.length:Int)) then bif inb x4 a1.length then bif inb x4 a2.length then bif !((((a1.getD x4.toNat dd).Kind)==((a2.getD x4.toNat dd).Kind))&&((((((((a1.getD x4.toNat dd).Box).X).A)==((((a2.getD x4.toNat dd).Box).X).A))&&((((((a1.getD x4.toNat dd).Box).X).B)==((((a2.getD x4.toNat dd).Box).X).B))&&true))&&(((((((a1.getD x4.toNat dd).Box).Y).A)==((((a2.getD x4.toNat dd).Box).Y).A))&&((((((a1.getD x4.toNat dd).Box).Y).B)==((((a2.getD x4.toNat dd).Box).Y).B))&&true))&&(((((((a1.getD x4.toNat dd).Box).Z).A)==((((a2.getD x4.toNat dd).Box).Z).A))&&((((((a1.getD x4.toNat dd).Box).Z).B)==((((a2.getD x4.toNat dd).Box).Z).B))&&true))&&true)))&&true)) then some (Sum.inl false) else
 (yL a1 a2 n) (w64 (x4+1)) else none else none else some (Sum.inr ())
def UQ (a1:List qA) (a2:List qA):Option Bool:= bif (a1.length:Int) !=(a2.length:Int) then some false else (yL a1 a2 FUEL 0).bind λu11=>Sum.elim (λv12=>some v12) (λo9=> some true) u11
def yI (a1:Scan) (a2:Scan):Nat->Int->Option (Bool⊕Unit)
 |0,_=>none
 |n+1,x4=> bif decide (x4<(a1.Rings.length:Int)) then bif inb x4 a1.Rings.length then bif inb x4 a2.Rings.length then (VB (a1.Rings.getD x4.toNat dd) (a2.Rings.getD x4.toNat dd)).bind λv8=> bif !v8 then some (Sum.inl false) else (yI a1 a2 n) (w64 (x4+1)) else none else none else some (Sum.inr ())
def VC (a1:Scan) (a2:Scan):Option Bool:= bif (a1.Rings.length:Int) !=(a2.Rings.length:Int) then some false else (yI a1 a2 FUEL 0).bind λu13=>Sum.elim (λv14=>some v14) (λo11=> (UQ a1.Defects a2.Defects).bind λv15=> some v15) u13
def wZ (a1:List qA):Option (List qA):= bif room a1.length 56 then some a1 else none
def JL (x14:Int) (R:Int->(List qC)->Option (List qC)) (l21:List qC):Option (List qC):= R (w64 (x14+1)) l21
def zW (a1:Ring) (a2:Ring):Nat->Int->(List qC)->Option (List qC)
 |0,_,_=>none
 |n+1,x14,l15=> bif decide (x14<(a1.Read.length:Int)) then bif inb x14 a1.Read.length then bif !((a1.Read.getD x14.toNat dd).Ok) then bif inb x14 a2.Read.length then bif inb x14 l15.length then JL x14 (zW a1 a2 n) (l15.set x14.toNat (a2.Read.getD x14.toNat dd)) else none else none else JL x14 (zW a1 a2 n) l15 else none else some l15
def QZ (a1:Ring) (a2:Ring) (x10:Bool):Option (Ring×Int):= bif x10 then some ((Ring.mk 0 []),19) else (KN a1).bind λv12=> (zW a1 a2 FUEL 0 v12.Read).bind λo23=> some ((Ring.mk v12.Z o23),0)
def jW (a1:Ring) (a2:Ring):Option (Ring×Int):= (yU a1).bind λv3=> bif v3 !=0 then some ((Ring.mk 0 []),v3) else (yU a2).bind λv6=> bif v6 !=0 then some ((Ring.mk 0 []),v6) else bif a1.Z !=a2.Z then QZ a1 a2 true else QZ a1 a2 ((a1.Read.length:Int) !=(a2.Read.length:Int))
def zJ (a1:List qA) (a2:qA):Nat->Int->Option (Int⊕Unit)
 |0,_=>none
 |n+1,x3=> bif decide (x3<(a1.length:Int)) then bif inb x3 a1.length then bif ((a2.Kind==((a1.getD x3.toNat dd).Kind))&&((((a2.Box.X.A==((((a1.getD x3.toNat dd).Box).X).A))&&((a2.Box.X.B==((((a1.getD x3.toNat dd).Box).X).B))&&true))&&(((a2.Box.Y.A==((((a1.getD x3.toNat dd).Box).Y).A))&&((a2.Box.Y.B==((((a1.getD x3.toNat dd).Box).Y).B))&&true))&&(((a2.Box.Z.A==((((a1.getD x3.toNat dd).Box).Z).A))&&((a2.Box.Z.B==((((a1.getD x3.toNat dd).Box).Z).B))&&true))&&true)))&&true)) then some (Sum.inl x3) else (zJ a1 a2 n) (w64 (x3+1)) else none else some (Sum.inr ())
def yW (a1:List qA) (a2:qA):Option Int:= (zJ a1 a2 FUEL 0).bind λu9=>Sum.elim (λv10=>some v10) (λo7=> some (-1)) u9
def wJ (a1:List qA) (a2:qA):Option Bool:= (yW a1 a2).bind λv3=> some (decide (v3≥0))
def jL (a1:Scan) (a2:Scan):Nat->Int->(List Ring)->Option ((Scan×Int)⊕(List Ring))
 |0,_,_=>none
 |n+1,x13,l14=> bif decide (x13<(a1.Rings.length:Int)) then bif inb x13 a1.Rings.length then bif inb x13 a2.Rings.length then (jW (a1.Rings.getD x13.toNat dd) (a2.Rings.getD x13.toNat dd)).bind λv18=> bif v18.2 !=0 then some (Sum.inl ((Scan.mk [] []),v18.2)) else bif inb x13 l14.length then (jL a1 a2 n) (w64 (x13+1)) (l14.set x13.toNat v18.1) else none else none else none else some (Sum.inr l14)
def RC (x27:Int) (R:Int->(List qA)->Option (List qA)) (l35:List qA):Option (List qA):= R (w64 (x27+1)) l35
def wD (a1:Scan) (a2:Scan):Nat->Int->(List qA)->Option (List qA)
 |0,_,_=>none
 |n+1,x27,l28=> bif decide (x27<(a2.Defects.length:Int)) then bif inb x27 a2.Defects.length then (wJ a1.Defects (a2.Defects.getD x27.toNat dd)).bind λv31=> bif !v31 then bif room (l28.length+1) 56 then RC x27 (wD a1 a2 n) (l28++[(a2.Defects.getD x27.toNat dd)]) else none else RC x27 (wD a1 a2 n) l28 else none else some l28
def UR (a1:Scan) (a2:Scan):Option (Scan×Int):= (jB a1).bind λv3=> bif v3 !=0 then some ((Scan.mk [] []),v3) else (jB a2).bind λv6=> bif v6 !=0 then some ((Scan.mk [] []),v6) else bif (a1.Rings.length:Int) !=(a2.Rings.length:Int) then some ((Scan.mk [] []),19) else bif mkOk (a1.Rings.length:Int) 32 then (wZ a1.Defects).bind λv11=> (jL a1 a2 FUEL 0 (List.replicate ((a1.Rings.length:Int).toNat) (Ring.mk 0 []))).bind λu25=>Sum.elim (λv26=>some v26) (λo23=> (wD a1 a2 FUEL 0 v11).bind λo37=> bif decide ((o37.length:Int)>64) then some ((Scan.mk [] []),4) else some ((Scan.mk o23 o37),0)) u25 else none
def KM (x14:Int) (R:Int->(List qC)->Option (List qC)) (l20:List qC):Option (List qC):= R (w64 (x14+1)) l20
def wQ (a2:Ring):Nat->Int->(List qC)->Option (List qC)
 |0,_,_=>none
 |n+1,x14,l15=> bif decide (x14<(l15.length:Int)) then bif inb x14 l15.length then bif !((l15.getD x14.toNat dd).Ok) then bif inb x14 a2.Read.length then KM x14 (wQ a2 n) (l15.set x14.toNat (a2.Read.getD x14.toNat dd)) else none else KM x14 (wQ a2 n) l15 else none else some l15
def KD (a1:Ring) (a2:Ring) (x10:Bool):Option (Ring×Int):= bif x10 then some ((Ring.mk 0 []),19) else (XV a1).bind λv12=> (wQ a2 FUEL 0 v12.Read).bind λo22=> some ((Ring.mk v12.Z o22),0)
def YH (a1:Ring) (a2:Ring):Option (Ring×Int):= (ZV a1).bind λv3=> bif v3 !=0 then some ((Ring.mk 0 []),v3) else (ZV a2).bind λv6=> bif v6 !=0 then some ((Ring.mk 0 []),v6) else bif a1.Z !=a2.Z then KD a1 a2 true else KD a1 a2 ((a1.Read.length:Int) !=(a2.Read.length:Int))
def yB (a1:List qA) (a2:qA):Nat->Int->Option (Bool⊕Unit)
 |0,_=>none
 |n+1,x3=> bif decide (x3<(a1.length:Int)) then bif inb x3 a1.length then bif ((((a1.getD x3.toNat dd).Kind)==a2.Kind)&&((((((((a1.getD x3.toNat dd).Box).X).A)==a2.Box.X.A)&&((((((a1.getD x3.toNat dd).Box).X).B)==a2.Box.X.B)&&true))&&(((((((a1.getD x3.toNat dd).Box).Y).A)==a2.Box.Y.A)&&((((((a1.getD x3.toNat dd).Box).Y).B)==a2.Box.Y.B)&&true))&&(((((((a1.getD x3.toNat dd).Box).Z).A)==a2.Box.Z.A)&&((((((a1.getD x3.toNat dd).Box).Z).B)==a2.Box.Z.B)&&true))&&true)))&&true)) then some (Sum.inl true) else (yB a1 a2 n) (w64 (x3+1)) else none else some (Sum.inr ())
def BO (a1:List qA) (a2:qA):Option Bool:= (yB a1 a2 FUEL 0).bind λu9=>Sum.elim (λv10=>some v10) (λo7=> some false) u9
def zZ (a1:Scan) (a2:Scan):Nat->Int->(List Ring)->Option ((Scan×Int)⊕(List Ring))
 |0,_,_=>none
 |n+1,x10,l11=> bif decide (x10<(a1.Rings.length:Int)) then bif inb x10 a1.Rings.length then bif inb x10 a2.Rings.length then (YH (a1.Rings.getD x10.toNat dd) (a2.Rings.getD x10.toNat dd)).bind λv15=> bif v15.2 !=0 then some (Sum.inl ((Scan.mk [] []),19)) else bif room (l11.length+1) 32 then (zZ a1 a2 n) (w64 (x10+1)) (l11++[v15.1]) else none else none else none else some (Sum.inr l11)
def wI (a1:Scan):Nat->Int->(List qA)->Option (List qA)
 |0,_,_=>none
 |n+1,x24,l25=> bif decide (x24<(a1.Defects.length:Int)) then bif inb x24 a1.Defects.length then bif room (l25.length+1) 56 then (wI a1 n) (w64 (x24+1)) (l25++[(a1.Defects.getD x24.toNat dd)]) else none else none else some l25
def KR (x32:Int) (R:Int->(List qA)->Option (List qA)) (l40:List qA):Option (List qA):= R (w64 (x32+1)) l40
def zY (a1:Scan) (a2:Scan):Nat->Int->(List qA)->Option (List qA)
 |0,_,_=>none
 |n+1,x32,l33=> bif decide (x32<(a2.Defects.length:Int)) then bif inb x32 a2.Defects.length then (BO a1.Defects (a2.Defects.getD x32.toNat dd)).bind λv36=> bif !v36 then bif room (l33.length+1) 56 then KR x32 (zY a1 a2 n) (l33++[(a2.Defects.getD x32.toNat dd)]) else none else KR x32 (zY a1 a2 n) l33 else none else some l33
def PK (a1:Scan) (a2:Scan):Option (Scan×Int):= (YJ a1).bind λv3=> bif v3 !=0 then some ((Scan.mk [] []),v3) else (YJ a2).bind λv6=> bif v6 !=0 then some ((Scan.mk [] []),v6) else bif (a1.Rings.length:Int) !=(a2.Rings.length:Int) then some ((Scan.mk [] []),19) else (zZ a1 a2 FUEL 0 []).bind λu22=>Sum.elim (λv23=>some v23) (λo20=> (wI a1 FUEL 0 []).bind λo30=> (zY a1 a2 FUEL 0 o30).bind λo42=> bif decide ((o42.length:Int)>64) then some ((Scan.mk [] []),4) else some ((Scan.mk o20 o42),0)) u22
def jQ (x22:Bool):Option Bool:= some x22
def jR (a1:Scan) (a2:Scan) (x8:Bool):Option Bool:= bif x8 then (law15_awake).bind λv10=> some v10 else (UR a1 a2).bind λv12=> (PK a1 a2).bind λv14=> (VC (Scan.mk v12.1.Rings v12.1.Defects) (Scan.mk v14.1.Rings v14.1.Defects)).bind λv16=> bif v16 then bif v12.2==v14.2 then (law15_awake).bind λv20=> jQ v20 else jQ false else jQ false
def QQ (a1:Scan) (a2:Scan):Option Bool:= (TO a1).bind λv3=> bif !v3 then jR a1 a2 true else (TO a2).bind λv6=> jR a1 a2 (!v6)
end Saw
end Go.SL
